/-
 What is used in the proof of a statement (part HjA); no condition.
-/
import Derived.Test.YtmgglkdilpglgaaGreatHiZ
import Derived.Test.YtmgglkdilpglgaaGreatVm2
import Derived.Test.YtmgglkdilpglgaaGreatHiT
import Derived.Test.YtmgglkdilpglgaaGreatHiA
set_option linter.all false
section
namespace Go.Am.Hi
open Go Go.Am Go.Proofs
set_option maxRecDepth 100000
set_option maxHeartbeats 4000000
set_option linter.unusedSimpArgs false
set_option linter.unusedVariables false
attribute [local simp] vrun vwanted vyielded vop vopA vputAll VHeap.back hidI hidF backL bm Nat.testBit_eq_decide_div_mod_eq veval vevals vparts vO vbuiltin vlen vappend velems vcopy vmakeSlice vbuildSlice valloc vbox vmakeMap vload vpartT vpart vstore vfieldAddr vfield vindexAddr vindex vextract vslice vsliceZ vbounds vbnd zeroO vidx vlookup vmget vmapUpdate vdelete vclear vnilq vnilp vnils vbin vsc vsc1 vscs vscl abinOp aint ashift aunOp aconvert amaxs amax2 pvcV pvc pvcs tput tget vargs VHeap.get VHeap.alloc VHeap.put VHeap.drop VHeap.empty vlook vput vdrop psplice pfill preps chunk List.range List.range.loop vresults vresult vresultV frz frzL PV.isF PV.allF PV.scal PV.allS retP subT allFT PV.one PV.ids PV.idsL dropL beq_eq ble_dec blt_dec
def encM (ws : List (List Int)) : PV := .agg [.vec (ws.map ints)]
@[simp] theorem encM_cells (ws : List (List Int)) : (encM ws).cells = [.vec (ws.map ints)] := rfl
@[simp] theorem encM_isF (ws : List (List Int)) : (encM ws).isF = true := rfl
def rkL (l : List Int) (s p : Int) : Int := if 0 ≤ idxF (fun a => decide (p = a)) 0 l then idxF (fun a => decide (p = a)) 0 l else if p = s then l.length else l.length + 1
theorem rkL_yes {l : List Int} {s p : Int} {i : Int} (h : idxF (fun a => decide (p = a)) 0 l = i) (h0 : 0 ≤ i) : rkL l s p = i := by
 unfold rkL; rw [h, if_pos h0]
theorem rkL_own {l : List Int} {s p : Int} (h : idxF (fun a => decide (p = a)) 0 l < 0) (h0 : p = s) : rkL l s p = l.length := by
 unfold rkL; rw [if_neg (by omega), if_pos h0]
theorem rkL_no {l : List Int} {s p : Int} (h : idxF (fun a => decide (p = a)) 0 l < 0) (h0 : ¬p = s) : rkL l s p = l.length + 1 := by
 unfold rkL; rw [if_neg (by omega), if_neg h0]
def gts (ws : List (List Int)) (l : List Int) : Bool := decide (l.length = ws.length) && prm l
theorem len_beq (a b : Nat) : ((a : Int) == (b : Int)) = decide (a = b) := by
 rw [Bool.eq_iff_iff]
 simp
 omega
def shortB (ws : List (List Int)) : Bool := (ws.all fun l => decide (l.length ≤ 30)) && decide (ws.length ≤ 30)
theorem short_no {ws : List (List Int)} {k : Nat} (h : k < ws.length) (h1 : ¬ws[k].length ≤ 30) : shortB ws = false := by
 unfold shortB
 have : (ws.all fun l => decide (l.length ≤ 30)) = false := Bool.eq_false_iff.2 fun h2 => by
  have := List.all_eq_true.1 h2 _ (List.getElem_mem h)
  exact h1 (by simpa using this)
 rw [this, Bool.false_and]
theorem short_yes {ws : List (List Int)} (h : ∀ l ∈ ws, l.length ≤ 30) : shortB ws = decide ((ws.length : Int) ≤ 30) := by
 unfold shortB
 rw [List.all_eq_true.2 (fun l hl => decide_eq_true (h l hl)), Bool.true_and, decide_eq_decide]
 omega
theorem p104 (ws : List (List Int)) (l : List Int) (hl : l.length < 4294967296) : VPure Tryz.prog 104 [encM ws, ints l] fun r => r = .bool (gts ws l) := by
 refine .of_body Tryz.func104 rfl rfl ?_
 refine .seq ?_
 refine .rn ?_
 refine .seq ?_
 refine .regionL [0,1,2] rfl zz0 ?_
 refine .rn [0] [1,2] ?_
 refine .step rfl rfl (.pure rfl rfl rfl Tryz.call153 (by decide) (p153 l hl) (by first | rfl | simp [*]) ?_)
 rintro _ rfl
 refine .rn [2] [] ?_
 refine .done ?_
 refine .seq ?_
 refine .regionL [0,1,2,3,4,5,6,7,8,9] rfl zz0 ?_
 refine .rn [0,1] [2,3,4,5,6,7,8,9] ?_
 refine .split (t := 9) rfl (fun c9 => ?_) (fun c9 => ?_)
 ·try rw [c9]
  try simp at c9
  refine .rn [2,3,4,5,6,7,8,9] [] ?_
  refine .done ?_
  refine .ret ?_
  refine ⟨_, _, zz2,zz2, ?_⟩
  rw [gts, c9, len_beq, Bool.and_true]
 ·try rw [c9]
  try simp at c9
  refine .rn [2,3,4,5,6,7,8,9] [] ?_
  refine .done ?_
  refine .ret ?_
  refine ⟨_, _, zz2,zz2, ?_⟩
  rw [gts, c9, Bool.and_false]
theorem p148 (ws : List (List Int)) (l : List Int) (hl : l.length < 4294967296) : VPure Tryz.prog 148 [encM ws, ints l] fun r => r = .bool (gts ws l) := by
 refine .of_body Tryz.func148 rfl rfl ?_
 refine .seq ?_
 refine .rn ?_
 refine .seq ?_
 refine .regionL [0,1,2,3,4,5,6,7,8,9,10] rfl zz0 ?_
 refine .rn [0,1,2,3,4,5,6] [7,8,9,10] ?_
 refine .split (t := 11) rfl (fun c11 => ?_) (fun c11 => ?_)
 ·try rw [c11]
  try simp at c11
  refine .rn [7] [8,9,10] ?_
  refine .step rfl rfl (.pure rfl rfl rfl Tryz.call154 (by decide) (p154 l hl) (by first | rfl | simp [*]) ?_)
  rintro _ rfl
  refine .rn [9,10] [] ?_
  refine .done ?_
  refine .ret ?_
  refine ⟨_, _, zz2,zz2, ?_⟩
  rw [gts, decide_eq_true (show l.length = ws.length by omega), Bool.true_and]
 ·try rw [c11]
  try simp at c11
  refine .rn [7,8,9,10] [] ?_
  refine .done ?_
  refine .ret ?_
  refine ⟨_, _, zz2,zz2, ?_⟩
  rw [gts, decide_eq_false (show ¬l.length = ws.length by omega), Bool.false_and]
theorem p105 (ws : List (List Int)) (a : Nat) (p : Int) (ha : a < ws.length) (hl : ws[a].length < 4294967296) : VPure Tryz.prog 105 [encM ws, .int .i64 a, .int .i64 p] fun r => r = .int .i64 (rkL ws[a] a p) := by
 obtain ⟨l, hL⟩ : ∃ l, ws[a] = l := ⟨_, rfl⟩
 rw [hL] at hl
 have hw1 : IntKind.i64.wrap ((l.length : Int) + 1) = (l.length : Int) + 1 := wrap64 (by omega) (by omega)
 refine .of_body Tryz.func105 rfl rfl ?_
 refine .seq ?_
 refine .rn ?_
 refine .seq ?_
 refine .rn ?_
 refine .seq ?_
 refine .seq ?_
 refine .rn ?_
 refine .block ?_
 refine .loopS (fun k : Nat => ([(1, .int .i64 a),(2, .int .i64 p),(7, ints l),(8, .int .i64 k)], VHeap.empty)) (fun k => k ≤ l.length ∧ idxF (fun a => decide (p = a)) k (l.drop k) = idxF (fun a => decide (p = a)) 0 l) (fun k => l.length - k) 0 ⟨by simp, by simp⟩ (.mk [] [] zz4 zz5 rfl rfl rfl) ?_
 rintro k ⟨hk, hr⟩
 simp only at hk hr ⊢
 refine .seq ?_
 refine .seq ?_
 refine .rn ?_
 refine .condS rfl (fun c17 => ?_) (fun c17 => ?_)
 ·try simp at c17
  have hw2 : IntKind.i64.wrap ((k : Int) + 1) = (k : Int) + 1 := wrap64 (by omega) (by omega)
  rw [idxF_drop _ l k c17] at hr
  refine .skip ?_
  refine .seq ?_
  refine .block ?_
  refine .seq ?_
  refine .rn ?_
  refine .condS rfl (fun c25 => ?_) (fun c25 => ?_)
  ·try simp at c25
   refine .seq ?_
   refine .rn ?_
   refine .ret ?_
   refine ⟨_, _, zz2,zz2, ?_⟩
   rw [hL, rkL_yes (i := k) (by rw [← hr, if_pos (by simp [c25])]) (by omega)]
  ·try simp at c25
   refine .skip ?_
   refine .rn ?_
   refine ⟨k + 1, ⟨zz3, ?_⟩, zz3,(.mk [] [] zz4 zz5 rfl rfl rfl)⟩
   rw [← hr, if_neg (by simp; exact fun h => c25 h.symm)]
 ·try simp at c17
  have hkn : k = l.length := by omega
  have hn : idxF (fun a => decide (p = a)) 0 l < 0 := by rw [← hr, hkn, List.drop_length]; exact (by decide : (-1 : Int) < 0)
  refine .exit ?_
  refine .seq ?_
  refine .seq ?_
  refine .rn ?_
  refine .condS rfl (fun c29 => ?_) (fun c29 => ?_)
  ·try simp at c29
   refine .seq ?_
   refine .rn ?_
   refine .ret ?_
   refine ⟨_, _, zz2,zz2, ?_⟩
   rw [hL, rkL_own hn c29]
  ·try simp at c29
   refine .skip ?_
   refine .seq ?_
   refine .rn ?_
   refine .ret ?_
   refine ⟨_, _, zz2,zz2, ?_⟩
   rw [hL, rkL_no hn c29]
theorem p182 (l : List Int) (s p : Int) (hl : l.length < 4294967296) : VPure Tryz.prog 182 [.int .i64 p, .vp [ints l], .vp [.int .i64 s]] fun r => r = .int .i64 (rkL l s p) := by
 have hw1 : IntKind.i64.wrap ((l.length : Int) + 1) = (l.length : Int) + 1 := wrap64 (by omega) (by omega)
 refine .of_body Tryz.func182 rfl rfl ?_
 refine .seq ?_
 refine .rn ?_
 refine .seq ?_
 refine .seq ?_
 refine .regionL [0,1,2,3] rfl zz0 ?_
 refine .rn [0,1] [2,3] ?_
 refine .step rfl rfl (.pure rfl rfl rfl Tryz.call151 (by decide) (p151 l p hl) (by first | rfl | simp [*]) ?_)
 rintro _ rfl
 refine .rn [3] [] ?_
 refine .done ?_
 refine .seq ?_
 refine .rn ?_
 refine .condS rfl (fun c10 => ?_) (fun c10 => ?_)
 ·try simp at c10
  refine .seq ?_
  refine .rn ?_
  refine .ret ?_
  refine ⟨_, _, zz2,zz2, ?_⟩
  rw [rkL_yes rfl c10]
 ·try simp at c10
  refine .skip ?_
  refine .seq ?_
  refine .seq ?_
  refine .rn ?_
  refine .condS rfl (fun c14 => ?_) (fun c14 => ?_)
  ·try simp at c14
   refine .seq ?_
   refine .rn ?_
   refine .ret ?_
   refine ⟨_, _, zz2,zz2, ?_⟩
   rw [rkL_own c10 c14]
  ·try simp at c14
   refine .skip ?_
   refine .seq ?_
   refine .rn ?_
   refine .ret ?_
   refine ⟨_, _, zz2,zz2, ?_⟩
   rw [rkL_no c10 c14]
theorem p36 (ws : List (List Int)) (hl : ws.length < 4611686018427387904) : VPure Tryz.prog 36 [encM ws] fun r => r = .bool (shortB ws) := by
 refine .of_body Tryz.func36 rfl rfl ?_
 refine .seq ?_
 refine .rn ?_
 refine .seq ?_
 refine .seq ?_
 refine .rn ?_
 refine .block ?_
 refine .loopS (fun k : Nat => ([(1, .vp [.vec (ws.map ints)]),(3, .int .i64 k)], VHeap.empty)) (fun k => k ≤ ws.length ∧ ∀ l ∈ ws.take k, l.length ≤ 30) (fun k => ws.length - k) 0 (by simp) (.mk [0] [] zz6 zz5 rfl rfl rfl) ?_
 rintro k ⟨hk, hg⟩
 simp only at hk hg ⊢
 refine .seq ?_
 refine .seq ?_
 refine .rn ?_
 refine .condS rfl (fun c8 => ?_) (fun c8 => ?_)
 ·try simp at c8
  have hw2 : IntKind.i64.wrap ((k : Int) + 1) = (k : Int) + 1 := wrap64 (by omega) (by omega)
  refine .skip ?_
  refine .seq ?_
  refine .block ?_
  refine .seq ?_
  refine .rn ?_
  refine .condS rfl (fun c17 => ?_) (fun c17 => ?_)
  ·try simp at c17
   refine .seq ?_
   refine .rn ?_
   refine .ret ?_
   refine ⟨_, _, zz2,zz2, ?_⟩
   rw [short_no c8 (by omega)]
  ·try simp at c17
   refine .skip ?_
   refine .rn ?_
   refine ⟨k + 1, ⟨zz3, take_all hg c8 (by omega)⟩, zz3,(.mk [] [] zz4 zz5 rfl rfl rfl)⟩
 ·try simp at c8
  refine .exit ?_
  refine .seq ?_
  refine .rn ?_
  refine .ret ?_
  refine ⟨_, _, zz2,zz2, ?_⟩
  rw [short_yes (by
   have hkn : k = ws.length := by omega
   rw [hkn, List.take_length] at hg
   exact hg)]
end Go.Am.Hi
end

section
namespace Go.Am.Hi
open Go Go.Am Go.Proofs
set_option maxRecDepth 100000
set_option maxHeartbeats 4000000
set_option linter.unusedSimpArgs false
set_option linter.unusedVariables false
attribute [local simp] vrun vwanted vyielded vop vopA vputAll VHeap.back hidI hidF backL bm Nat.testBit_eq_decide_div_mod_eq veval vevals vparts vO vbuiltin vlen vappend velems vcopy vmakeSlice vbuildSlice valloc vbox vmakeMap vload vpartT vpart vstore vfieldAddr vfield vindexAddr vindex vextract vslice vsliceZ vbounds vbnd zeroO vidx vlookup vmget vmapUpdate vdelete vclear vnilq vnilp vnils vbin vsc vsc1 vscs vscl abinOp aint ashift aunOp aconvert amaxs amax2 pvcV pvc pvcs tput tget vargs VHeap.get VHeap.alloc VHeap.put VHeap.drop VHeap.empty vlook vput vdrop psplice pfill preps chunk List.range List.range.loop vresults vresult vresultV frz frzL PV.isF PV.allF PV.scal PV.allS retP subT allFT PV.one PV.ids PV.idsL dropL beq_eq ble_dec blt_dec
def okW (n i : Nat) (x : Int) : Bool := (decide (0 ≤ x) && decide (x ≤ (n : Int) - 1)) && !decide (x = i)
def wE (n i : Nat) (l : List Int) : Int := if l.all (okW n i) then (if l.Nodup then 0 else 6) else 1
def mkEL (n : Nat) : Nat → List (List Int) → Int
 | _, [] => 0
 | i, l :: r => if wE n i l = 0 then mkEL n (i + 1) r else wE n i l
def mkE (ws : List (List Int)) : Int := if 16 < ws.length then 2 else if ws.length = 0 then 1 else mkEL ws.length 0 ws
theorem mkEL_drop (n : Nat) (ws : List (List Int)) (i : Nat) (h : i < ws.length) : mkEL n i (ws.drop i) = if wE n i ws[i] = 0 then mkEL n (i + 1) (ws.drop (i + 1)) else wE n i ws[i] := by
 rw [List.drop_eq_getElem_cons h]; rfl
theorem wE_bad {n i : Nat} {l : List Int} {k : Nat} (h : k < l.length) (h1 : okW n i l[k] = false) : wE n i l = 1 := by
 unfold wE
 rw [if_neg]
 intro h2
 have := List.all_eq_true.1 h2 _ (List.getElem_mem h)
 rw [h1] at this; cases this
theorem wE_twice {n i : Nat} {l : List Int} {k : Nat} (h0 : ∀ x ∈ l, okW n i x = true) (h : k < l.length) (h1 : l[k] ∈ l.take k) : wE n i l = 6 := by
 unfold wE
 rw [if_pos (List.all_eq_true.2 h0), if_neg]
 intro hp
 obtain ⟨j, hj, he⟩ := List.mem_iff_getElem.1 h1
 rw [List.length_take] at hj
 rw [List.getElem_take] at he
 exact (List.pairwise_iff_getElem.1 hp) j k (by omega) h (by omega) he
theorem wE_ok {n i : Nat} {l : List Int} (h0 : ∀ x ∈ l, okW n i x = true) (h : (l.take l.length).Nodup) : wE n i l = 0 := by
 rw [List.take_length] at h
 unfold wE
 rw [if_pos (List.all_eq_true.2 h0), if_pos h]
theorem take_nodup {l : List Int} {k : Nat} (h : (l.take k).Nodup) (hk : k < l.length) (h1 : l[k] ∉ l.take k) : (l.take (k + 1)).Nodup := by
 rw [List.take_succ_eq_append_getElem hk, List.nodup_append]
 refine ⟨h, by simp, fun a ha b hb hab => h1 ?_⟩
 rw [List.mem_singleton] at hb
 rw [← hb, ← hab]; exact ha
theorem okW_yes {n i : Nat} {x : Int} (h1 : 0 ≤ x ∧ x ≤ (n : Int) - 1) (h2 : ¬x = i) : okW n i x = true := by simp [okW, h1, h2]
theorem okW_out {n i : Nat} {x : Int} (h1 : ¬(0 ≤ x ∧ x ≤ (n : Int) - 1)) : okW n i x = false := by
 unfold okW
 rw [Bool.eq_false_iff]
 intro h
 simp at h
 omega
theorem okW_own {n i : Nat} {x : Int} (h1 : x = i) : okW n i x = false := by simp [okW, h1]
theorem p40 (ws : List (List Int)) (hl : ws.length < 4294967296) (hll : ∀ l ∈ ws, l.length < 4294967296) : VPure Tryz.prog 40 [encM ws] fun r => r = .int .i64 (mkE ws) := by
 refine .of_body Tryz.func40 rfl rfl ?_
 refine .seq ?_
 refine .rn ?_
 refine .seq ?_
 refine .seq ?_
 refine .rn ?_
 refine .condS rfl (fun c11 => ?_) (fun c11 => ?_)
 ·try simp at c11
  refine .seq ?_
  refine .rn ?_
  refine .ret ?_
  refine ⟨_, _, zz2,zz2, ?_⟩
  rw [mkE, if_pos (by omega)]
 ·try simp at c11
  refine .skip ?_
  refine .seq ?_
  refine .seq ?_
  refine .rn ?_
  refine .condS rfl (fun c15 => ?_) (fun c15 => ?_)
  ·try simp at c15
   refine .seq ?_
   refine .rn ?_
   refine .ret ?_
   refine ⟨_, _, zz2,zz2, ?_⟩
   rw [c15]; rfl
  ·try simp at c15
   have hn : 0 < ws.length := List.length_pos_iff.2 c15
   have hM : mkE ws = mkEL ws.length 0 ws := by rw [mkE, if_neg (by omega), if_neg (by omega)]
   have hwn : IntKind.i64.wrap ((ws.length : Int) - 1) = (ws.length : Int) - 1 := wrap64 (by omega) (by omega)
   refine .skip ?_
   refine .seq ?_
   refine .seq ?_
   refine .rn ?_
   refine .block ?_
   refine .loopS (fun i : Nat => ([(1, .vp [.vec (ws.map ints)]),(3, .int .i64 i)], VHeap.empty)) (fun i => i ≤ ws.length ∧ mkEL ws.length i (ws.drop i) = mkEL ws.length 0 ws) (fun i => ws.length - i) 0 (by simp) (.mk [0] [] zz6 zz5 rfl rfl rfl) ?_
   rintro i ⟨hi, hr⟩
   simp only at hi hr ⊢
   refine .seq ?_
   refine .seq ?_
   refine .rn ?_
   refine .condS rfl (fun c20 => ?_) (fun c20 => ?_)
   ·try simp at c20
    have hwi : IntKind.i64.wrap ((i : Int) + 1) = (i : Int) + 1 := wrap64 (by omega) (by omega)
    rw [mkEL_drop _ ws i c20] at hr
    have hL := hll ws[i] (List.getElem_mem c20)
    refine .skip ?_
    refine .seq ?_
    refine .block ?_
    refine .seq ?_
    refine .rn ?_
    refine .seq ?_
    refine .seq ?_
    refine .rn ?_
    refine .block ?_
    refine .loopS (fun k : Nat => ([(1, .vp [.vec (ws.map ints)]),(3, .int .i64 i),(4, ints ws[i]),(5, .int .i64 k)], VHeap.empty)) (fun k => k ≤ ws[i].length ∧ ∀ x ∈ ws[i].take k, okW ws.length i x = true) (fun k => ws[i].length - k) 0 (by simp) (.mk [] [] zz4 zz5 rfl rfl rfl) ?_
    rintro k ⟨hk, hg⟩
    simp only at hk hg ⊢
    refine .seq ?_
    refine .seq ?_
    refine .rn ?_
    refine .condS rfl (fun c31 => ?_) (fun c31 => ?_)
    ·try simp at c31
     have hwk : IntKind.i64.wrap ((k : Int) + 1) = (k : Int) + 1 := wrap64 (by omega) (by omega)
     refine .skip ?_
     refine .seq ?_
     refine .block ?_
     refine .seq ?_
     refine .drawn (ms := [0,0,3,7,0,16,48,112,255,511,1023,2047,2047,8191,16383,2047,65535,131071]) (W := [8]) (items := [.op 0, .op 1, .op 2, .op 3, .op 4, .op 5, .op 6, .op 7, .op 8, .op 9, .op 10, .op 11, .op 12, .op 13, .op 14, .op 15, .op 16, .op 17]) rfl zz0 zz0 zz0 ?_
     refine .rd rfl rfl (by decide) rfl (by decide) zz1 ?_   -- 0
     refine .rd rfl rfl (by decide) rfl (by decide) zz1 ?_   -- 1
     refine .rd rfl rfl (by decide) rfl (by decide) zz1 ?_   -- 2
     refine .rd rfl rfl (by decide) rfl (by decide) zz1 ?_   -- 3
     refine .rd rfl rfl (by decide) rfl (by decide) zz1 ?_   -- 4
     refine .rd rfl rfl (by decide) rfl (by decide) zz1 ?_   -- 5
     refine .rd rfl rfl (by decide) rfl (by decide) zz1 ?_   -- 6
     refine .rd rfl rfl (by decide) rfl (by decide) zz1 ?_   -- 7
     refine .wr rfl rfl (by decide) (.pure rfl rfl rfl Tryz.call80 (by decide) (p80 ws[i][k] 0 ((ws.length : Int) - 1)) (by first | rfl | simp [*]) ?_)
     rintro _ rfl
     refine .rd rfl rfl (by decide) rfl (by decide) zz1 ?_   -- 9
     refine .rd rfl rfl (by decide) rfl (by decide) zz1 ?_   -- 10
     refine .split (t := 44) rfl (fun c44 => ?_) (fun c44 => ?_)
     ·try rw [c44]
      try simp at c44
      refine .un rfl rfl (by decide) ?_   -- 11
      refine .un rfl rfl (by decide) ?_   -- 12
      refine .un rfl rfl (by decide) ?_   -- 13
      refine .un rfl rfl (by decide) ?_   -- 14
      refine .un rfl rfl (by decide) ?_   -- 15
      refine .un rfl rfl (by decide) ?_   -- 16
      refine .rd rfl rfl (by decide) rfl (by decide) zz1 ?_   -- 17
      refine .done ?_
      refine .condT rfl ?_
      refine .seq ?_
      refine .rn ?_
      refine .ret ?_
      refine ⟨_, _, zz2,zz2, ?_⟩
      rw [hM, ← hr, wE_bad c31 (okW_out (by omega)), if_neg (by decide)]
     ·try rw [c44]
      try simp at c44
      refine .rd rfl rfl (by decide) rfl (by decide) zz1 ?_   -- 11
      refine .rd rfl rfl (by decide) rfl (by decide) zz1 ?_   -- 12
      refine .rd rfl rfl (by decide) rfl (by decide) zz1 ?_   -- 13
      refine .rd rfl rfl (by decide) rfl (by decide) zz1 ?_   -- 14
      refine .rd rfl rfl (by decide) rfl (by decide) zz1 ?_   -- 15
      refine .rd rfl rfl (by decide) rfl (by decide) zz1 ?_   -- 16
      refine .rd rfl rfl (by decide) rfl (by decide) zz1 ?_   -- 17
      refine .done ?_
      refine .condS rfl (fun c51 => ?_) (fun c51 => ?_)
      ·try simp at c51
       refine .seq ?_
       refine .rn ?_
       refine .ret ?_
       refine ⟨_, _, zz2,zz2, ?_⟩
       rw [hM, ← hr, wE_bad c31 (okW_own c51), if_neg (by decide)]
      ·try simp at c51
       refine .skip ?_
       refine .rn ?_
       refine ⟨k + 1, ⟨zz3, take_all hg c31 (okW_yes c44 c51)⟩, zz3,(.mk [] [] zz4 zz5 rfl rfl rfl)⟩
    ·try simp at c31
     have hkn : k = ws[i].length := by omega
     rw [hkn, List.take_length] at hg
     refine .exit ?_
     refine .seq ?_
     refine .rn ?_
     refine .block ?_
     refine .loopS (fun k : Nat => ([(1, .vp [.vec (ws.map ints)]),(3, .int .i64 i),(4, ints ws[i]),(6, .int .i64 k)], VHeap.empty)) (fun k => k ≤ ws[i].length ∧ (ws[i].take k).Nodup) (fun k => ws[i].length - k) 0 (by simp) (.mk [] [] zz4 zz5 rfl rfl rfl) ?_
     rintro k ⟨hk, hd⟩
     simp only at hk hd ⊢
     refine .seq ?_
     refine .seq ?_
     refine .rn ?_
     refine .condS rfl (fun c55 => ?_) (fun c55 => ?_)
     ·try simp at c55
      have hwk : IntKind.i64.wrap ((k : Int) + 1) = (k : Int) + 1 := wrap64 (by omega) (by omega)
      have htl : (ws[i].take k).length < 4294967296 := by rw [List.length_take]; omega
      refine .skip ?_
      refine .seq ?_
      refine .block ?_
      refine .seq ?_
      refine .drawn (ms := [0,0,3,0,0,24,56,127,255]) (W := [7]) (items := [.op 0, .op 1, .op 2, .op 3, .op 4, .op 5, .op 6, .op 7, .op 8]) rfl zz0 zz0 zz0 ?_
      refine .rd rfl rfl (by decide) rfl (by decide) zz1 ?_   -- 0
      refine .rd rfl rfl (by decide) rfl (by decide) zz1 ?_   -- 1
      refine .rd rfl rfl (by decide) rfl (by decide) zz1 ?_   -- 2
      refine .rd rfl rfl (by decide) rfl (by decide) zz1 ?_   -- 3
      refine .rd rfl rfl (by decide) rfl (by decide) zz1 ?_   -- 4
      refine .rd rfl rfl (by decide) rfl (by decide) zz1 ?_   -- 5
      refine .rd rfl rfl (by decide) rfl (by decide) zz1 ?_   -- 6
      refine .wr rfl rfl (by decide) (.pure rfl rfl rfl Tryz.call107 (by decide) ((by have := p107 (ws[i].take k) ws[i][k] htl; rw [ints, List.map_take] at this; exact this)) (by first | rfl | simp [*]) ?_)
      rintro _ rfl
      refine .rd rfl rfl (by decide) rfl (by decide) zz1 ?_   -- 8
      refine .done ?_
      refine .seq ?_
      refine .rn ?_
      refine .condS rfl (fun c66 => ?_) (fun c66 => ?_)
      ·try simp at c66
       refine .seq ?_
       refine .rn ?_
       refine .ret ?_
       refine ⟨_, _, zz2,zz2, ?_⟩
       rw [hM, ← hr, wE_twice hg c55 c66, if_neg (by decide)]
      ·try simp at c66
       refine .skip ?_
       refine .rn ?_
       refine ⟨k + 1, ⟨zz3, take_nodup hd c55 c66⟩, zz3,(.mk [] [] zz4 zz5 rfl rfl rfl)⟩
     ·try simp at c55
      have hkn : k = ws[i].length := by omega
      rw [hkn] at hd
      rw [wE_ok hg hd, if_pos rfl] at hr
      refine .exit ?_
      refine .rn ?_
      refine ⟨i + 1, ⟨zz3, hr⟩, zz3,(.mk [] [] zz4 zz5 rfl rfl rfl)⟩
   ·try simp at c20
    refine .exit ?_
    refine .seq ?_
    refine .rn ?_
    refine .ret ?_
    refine ⟨_, _, zz2,zz2, ?_⟩
    have hin : i = ws.length := by omega
    rw [hM, ← hr, hin, List.drop_length]; rfl
end Go.Am.Hi
end

section
namespace Go.Am.Hi
open Go Go.Am Go.Proofs
set_option maxRecDepth 100000
set_option maxHeartbeats 4000000
set_option linter.unusedSimpArgs false
set_option linter.unusedVariables false
attribute [local simp] vrun vwanted vyielded vop vopA vputAll VHeap.back hidI hidF backL bm Nat.testBit_eq_decide_div_mod_eq veval vevals vparts vO vbuiltin vlen vappend velems vcopy vmakeSlice vbuildSlice valloc vbox vmakeMap vload vpartT vpart vstore vfieldAddr vfield vindexAddr vindex vextract vslice vsliceZ vbounds vbnd zeroO vidx vlookup vmget vmapUpdate vdelete vclear vnilq vnilp vnils vbin vsc vsc1 vscs vscl abinOp aint ashift aunOp aconvert amaxs amax2 pvcV pvc pvcs tput tget vargs VHeap.get VHeap.alloc VHeap.put VHeap.drop VHeap.empty vlook vput vdrop psplice pfill preps chunk List.range List.range.loop vresults vresult vresultV frz frzL PV.isF PV.allF PV.scal PV.allS retP subT allFT PV.one PV.ids PV.idsL dropL beq_eq ble_dec blt_dec
theorem p133 (l : List Int) (p : Int → Bool) (f : FuncId) (xs ys : List PV) (hl : l.length < 17592186043905) (hx : PV.allF xs = true) (hy : PV.allF ys = true) (hcf : ∀ cs w, (callFunc f cs).run Tryz.prog w = .ok (.enter f cs) w) (hp : ∀ a ∈ l, VPure Tryz.prog f (xs ++ [.int .i64 a] ++ ys) fun r => r = .bool (p a)) : VPure Tryz.prog 133 [ints l, .func f xs ys] fun r => r = .int .i64 (idxF p 0 l) := by
 refine .of_body Tryz.func133 rfl rfl ?_
 refine .seq ?_
 refine .rn ?_
 refine .seq ?_
 refine .seq ?_
 refine .rn ?_
 refine .block ?_
 refine .loopS (fun s : Nat => ([(0, ints l),(1, .func f xs ys),(7, .int .i64 l.length),(8, .int .i64 s)], VHeap.empty)) (fun s => s ≤ l.length ∧ idxF p s (l.drop s) = idxF p 0 l) (fun s => l.length - s) 0 ⟨by simp, by simp⟩ (.pure (by simp [*]) (by simp)) ?_
 rintro i ⟨hi, hr⟩
 simp only at hi hr ⊢
 refine .seq ?_
 refine .rn ?_
 refine .seq ?_
 refine .condS rfl (fun c9 => ?_) (fun c9 => ?_)
 ·try simp at c9
  have hw2 : IntKind.i64.wrap ((i : Int) + 1) = (i : Int) + 1 := wrap64 (by omega) (by omega)
  rw [idxF_drop p l i c9] at hr
  have hp := hp l[i] (List.getElem_mem c9)
  refine .skip ?_
  refine .seq ?_
  refine .block ?_
  refine .seq ?_
  refine .rn ?_
  refine .seq ?_
  refine .regionL [0,1,2,3,4,5] rfl zz0 ?_
  refine .rn [0,1,2,3,4] [5] ?_
  refine .step rfl rfl (.pure rfl rfl rfl hcf (by decide) (hp) (by first | rfl | simp [*]) ?_)
  rintro _ rfl
  refine .done ?_
  refine .condS rfl (fun c16 => ?_) (fun c16 => ?_)
  ·try simp at c16
   refine .seq ?_
   refine .rn ?_
   refine .ret ?_
   refine ⟨_, _, zz2,zz2, ?_⟩
   rw [← hr, if_pos c16]
  ·try simp at c16
   refine .skip ?_
   refine .rn ?_
   refine ⟨i + 1, ⟨zz3, ?_⟩, zz3, .pure (by simp [*]) (by simp)⟩
   rw [← hr, if_neg (by simp [c16])]
 ·try simp at c9
  have : i = l.length := by omega
  refine .exit ?_
  refine .seq ?_
  refine .rn ?_
  refine .ret ?_
  refine ⟨_, _, zz2,zz2, ?_⟩
  rw [← hr, this, List.drop_length]; rfl
theorem p71 (l : List Int) (p : Int → Bool) (f : FuncId) (xs ys : List PV) (hl : l.length < 17592186043905) (hx : PV.allF xs = true) (hy : PV.allF ys = true) (hcf : ∀ cs w, (callFunc f cs).run Tryz.prog w = .ok (.enter f cs) w) (hp : ∀ a ∈ l, VPure Tryz.prog f (xs ++ [.int .i64 a] ++ ys) fun r => r = .bool (p a)) : VPure Tryz.prog 71 [ints l, .func f xs ys] fun r => r = .bool (l.any p) := by
 refine .of_body Tryz.func71 rfl rfl ?_
 refine .seq ?_
 refine .rn ?_
 refine .seq ?_
 refine .regionL [0,1,2,3,4] rfl zz0 ?_
 refine .rn [0,1] [2,3,4] ?_
 refine .step rfl rfl (.pure rfl rfl rfl Tryz.call133 (by decide) (p133 l p f xs ys hl hx hy hcf hp) (by first | rfl | simp [*]) ?_)
 rintro _ rfl
 refine .rn [3,4] [] ?_
 refine .done ?_
 refine .ret ?_
 refine ⟨_, _, zz2,zz2, ?_⟩
 rw [← idxF_any _ l 0]
theorem p106 (n i : Nat) (x : Int) (hn : n < 4294967296) : VPure Tryz.prog 106 [.int .i64 x, .vp [.int .i64 n], .vp [.int .i64 i]] fun r => r = .bool (!okW n i x) := by
 have hw : IntKind.i64.wrap ((n : Int) - 1) = (n : Int) - 1 := wrap64 (by omega) (by omega)
 refine .of_body Tryz.func106 rfl rfl ?_
 refine .seq ?_
 refine .rn ?_
 refine .seq ?_
 refine .regionL [0,1,2,3,4,5,6,7,8,9,10] rfl zz0 ?_
 refine .rn [0,1,2] [3,4,5,6,7,8,9,10] ?_
 refine .step rfl rfl (.pure rfl rfl rfl Tryz.call70 (by decide) (p70 x 0 ((n : Int) - 1)) (by first | rfl | simp [*]) ?_)
 rintro _ rfl
 refine .rn [4,5] [6,7,8,9,10] ?_
 refine .split (t := 10) rfl (fun c10 => ?_) (fun c10 => ?_)
 ·try rw [c10]
  try simp at c10
  refine .rn [6,7,8,9,10] [] ?_
  refine .done ?_
  refine .ret ?_
  refine ⟨_, _, zz2,zz2, ?_⟩
  rw [okW_out (by omega)]; rfl
 ·try rw [c10]
  try simp at c10
  refine .rn [6,7,8,9,10] [] ?_
  refine .done ?_
  refine .ret ?_
  refine ⟨_, _, zz2,zz2, ?_⟩
  unfold okW; simp [c10]; rw [Bool.eq_iff_iff]; simp
def gE (ws : List (List Int)) (l : List Int) : Int := if mkE ws = 0 then (if gts ws l then 0 else 1) else mkE ws
theorem p65 (ws : List (List Int)) (l : List Int) (hl : ws.length < 4294967296) (hll : ∀ l ∈ ws, l.length < 4294967296) (h2 : l.length < 4294967296) : VPure Tryz.prog 65 [encM ws, ints l] fun r => r = .int .i64 (gE ws l) := by
 refine .of_body Tryz.func65 rfl rfl ?_
 refine .seq ?_
 refine .rn ?_
 refine .seq ?_
 refine .regionL [0,1,2] rfl zz0 ?_
 refine .rn [0] [1,2] ?_
 refine .step rfl rfl (.pure rfl rfl rfl Tryz.call40 (by decide) (p40 ws hl hll) (by first | rfl | simp [*]) ?_)
 rintro _ rfl
 refine .rn [2] [] ?_
 refine .done ?_
 refine .seq ?_
 refine .seq ?_
 refine .rn ?_
 refine .condS rfl (fun c10 => ?_) (fun c10 => ?_)
 ·try simp at c10
  refine .seq ?_
  refine .rn ?_
  refine .ret ?_
  refine ⟨_, _, zz2,zz2, ?_⟩
  rw [gE, if_neg c10]
 ·try simp at c10
  refine .skip ?_
  refine .seq ?_
  refine .regionL [0,1,2,3] rfl zz0 ?_
  refine .rn [0,1] [2,3] ?_
  refine .step rfl rfl (.pure rfl rfl rfl Tryz.call104 (by decide) (p104 ws l h2) (by first | rfl | simp [*]) ?_)
  rintro _ rfl
  refine .rn [3] [] ?_
  refine .done ?_
  refine .seq ?_
  refine .seq ?_
  refine .rn ?_
  refine .condS rfl (fun c16 => ?_) (fun c16 => ?_)
  ·try simp at c16
   refine .seq ?_
   refine .rn ?_
   refine .ret ?_
   refine ⟨_, _, zz2,zz2, ?_⟩
   rw [gE, if_pos c10, c16]; rfl
  ·try simp at c16
   refine .skip ?_
   refine .seq ?_
   refine .rn ?_
   refine .ret ?_
   refine ⟨_, _, zz2,zz2, ?_⟩
   rw [gE, if_pos c10, c16]; rfl
end Go.Am.Hi
end

section
namespace Go.Am.Hi
open Go Go.Am Go.Proofs
set_option maxRecDepth 100000
set_option maxHeartbeats 4000000
set_option linter.unusedSimpArgs false
set_option linter.unusedVariables false
attribute [local simp] vrun vwanted vyielded vop vopA vputAll VHeap.back hidI hidF backL bm Nat.testBit_eq_decide_div_mod_eq veval vevals vparts vO vbuiltin vlen vappend velems vcopy vmakeSlice vbuildSlice valloc vbox vmakeMap vload vpartT vpart vstore vfieldAddr vfield vindexAddr vindex vextract vslice vsliceZ vbounds vbnd zeroO vidx vlookup vmget vmapUpdate vdelete vclear vnilq vnilp vnils vbin vsc vsc1 vscs vscl abinOp aint ashift aunOp aconvert amaxs amax2 pvcV pvc pvcs tput tget vargs VHeap.get VHeap.alloc VHeap.put VHeap.drop VHeap.empty vlook vput vdrop psplice pfill preps chunk List.range List.range.loop vresults vresult vresultV frz frzL PV.isF PV.allF PV.scal PV.allS retP subT allFT PV.one PV.ids PV.idsL dropL beq_eq ble_dec blt_dec
def ra (ws : List (List Int)) (a : List Int) (i : Nat) : Int := rkL (ws.getD i []) i (a.getD i 0)
theorem ra_at {ws : List (List Int)} {a : List Int} {i : Nat} (h1 : i < ws.length) (h2 : i < a.length) : ra ws a i = rkL ws[i] i a[i] := by
 simp [ra, h1, h2]
def betS (ws : List (List Int)) (a b : List Int) : Bool := ((List.range a.length).all fun i => decide (ra ws a i ≤ ra ws b i)) && (List.range a.length).any fun i => decide (ra ws a i < ra ws b i)
def someS (ws : List (List Int)) (a b : List Int) (k : Nat) : Bool := (List.range k).any fun i => decide (ra ws a i < ra ws b i)
theorem someS_succ (ws : List (List Int)) (a b : List Int) (k : Nat) : someS ws a b (k + 1) = (someS ws a b k || decide (ra ws a k < ra ws b k)) := by
 unfold someS
 rw [List.range_succ, List.any_append]
 simp [-List.range, -List.range.loop]
theorem betS_no {ws : List (List Int)} {a b : List Int} {k : Nat} (h : k < a.length) (h1 : ra ws b k < ra ws a k) : betS ws a b = false := by
 unfold betS
 rw [show ((List.range a.length).all fun i => decide (ra ws a i ≤ ra ws b i)) = false from Bool.eq_false_iff.2 fun h2 => by
  have := List.all_eq_true.1 h2 k (List.mem_range.2 h)
  simp at this
  omega, Bool.false_and]
theorem betS_yes {ws : List (List Int)} {a b : List Int} (h : ∀ i, i < a.length → ra ws a i ≤ ra ws b i) : betS ws a b = someS ws a b a.length := by
 unfold betS someS
 rw [List.all_eq_true.2 fun i hi => decide_eq_true (h i (List.mem_range.1 hi)), Bool.true_and]
def betE (ws : List (List Int)) (a b : List Int) : Int := if mkE ws = 0 then (if gts ws a && gts ws b then 0 else 1) else mkE ws
def betI (ws : List (List Int)) (a b : List Int) : Bool := decide (betE ws a b = 0) && betS ws a b
theorem betI_err {ws : List (List Int)} {a b : List Int} {e : Int} (h : betE ws a b = e) (h0 : e ≠ 0) : betI ws a b = false := by
 unfold betI; rw [h, decide_eq_false h0]; rfl
theorem p62 (ws : List (List Int)) (a b : List Int) (hl : ws.length < 4294967296) (hll : ∀ l ∈ ws, l.length < 4294967296) (h2 : a.length < 4294967296) (h3 : b.length < 4294967296) : VPure Tryz.prog 62 [encM ws, ints a, ints b] fun r => r = .agg [.bool (betI ws a b), .int .i64 (betE ws a b)] := by
 refine .of_body Tryz.func62 rfl rfl ?_
 refine .seq ?_
 refine .rn ?_
 refine .seq ?_
 refine .regionL [0,1,2] rfl zz0 ?_
 refine .rn [0] [1,2] ?_
 refine .step rfl rfl (.pure rfl rfl rfl Tryz.call40 (by decide) (p40 ws hl hll) (by first | rfl | simp [*]) ?_)
 rintro _ rfl
 refine .rn [2] [] ?_
 refine .done ?_
 refine .seq ?_
 refine .seq ?_
 refine .rn ?_
 refine .condS rfl (fun c15 => ?_) (fun c15 => ?_)
 ·try simp at c15
  refine .seq ?_
  refine .rn ?_
  refine .ret ?_
  refine ⟨_, _, zz2,zz2, ?_⟩
  have e : betE ws a b = mkE ws := by rw [betE, if_neg c15]
  rw [betI_err e c15, e]
 ·try simp at c15
  refine .skip ?_
  refine .seq ?_
  refine .regionL [0,1,2,3] rfl zz0 ?_
  refine .rn [0,1] [2,3] ?_
  refine .step rfl rfl (.pure rfl rfl rfl Tryz.call104 (by decide) (p104 ws a h2) (by first | rfl | simp [*]) ?_)
  rintro _ rfl
  refine .rn [3] [] ?_
  refine .done ?_
  refine .seq ?_
  refine .regionL [0,1,2,3] rfl zz0 ?_
  refine .rn [0,1] [2,3] ?_
  refine .step rfl rfl (.pure rfl rfl rfl Tryz.call104 (by decide) (p104 ws b h3) (by first | rfl | simp [*]) ?_)
  rintro _ rfl
  refine .rn [3] [] ?_
  refine .done ?_
  refine .seq ?_
  refine .seq ?_
  refine .regionL [0,1,2,3,4,5] rfl zz0 ?_
  refine .rn [0,1,2] [3,4,5] ?_
  refine .split (t := 26) rfl (fun c26 => ?_) (fun c26 => ?_)
  ·try rw [c26]
   try simp at c26
   refine .rn [3,4,5] [] ?_
   refine .done ?_
   refine .condT rfl ?_
   refine .seq ?_
   refine .rn ?_
   refine .ret ?_
   refine ⟨_, _, zz2,zz2, ?_⟩
   have e : betE ws a b = 1 := by rw [betE, if_pos c15, c26]; rfl
   rw [betI_err e (by decide), e]
  ·try rw [c26]
   try simp at c26
   refine .rn [3,4,5] [] ?_
   refine .done ?_
   refine .condS rfl (fun c29 => ?_) (fun c29 => ?_)
   ·try simp at c29
    refine .seq ?_
    refine .rn ?_
    refine .ret ?_
    refine ⟨_, _, zz2,zz2, ?_⟩
    have e : betE ws a b = 1 := by rw [betE, if_pos c15, c26, c29]; rfl
    rw [betI_err e (by decide), e]
   ·try simp at c29
    have e : betE ws a b = 0 := by rw [betE, if_pos c15, c26, c29]; rfl
    have hal : a.length = ws.length := by
     have := c26
     unfold gts at this
     rw [Bool.and_eq_true, decide_eq_true_eq] at this
     exact this.1
    have hbl : b.length = ws.length := by
     have := c29
     unfold gts at this
     rw [Bool.and_eq_true, decide_eq_true_eq] at this
     exact this.1
    refine .skip ?_
    refine .seq ?_
    refine .rn ?_
    refine .seq ?_
    refine .seq ?_
    refine .rn ?_
    refine .block ?_
    refine .loopS (fun k : Nat => ([(1, ints a),(2, ints b),(3, .vp [.vec (ws.map ints)]),(6, .ptr 0 0),(10, .bool (someS ws a b k)),(11, .int .i64 k)], ⟨1,[(0, .box [.bool false, .int .i64 0])]⟩)) (fun k => k ≤ a.length ∧ ∀ i, i < k → ra ws a i ≤ ra ws b i) (fun k => a.length - k) 0 (by simp) (.mk [0] [(0,1)] zz7 zz5 rfl rfl rfl) ?_
    rintro k ⟨hk, hg⟩
    simp only at hk hg ⊢
    refine .seq ?_
    refine .seq ?_
    refine .rn ?_
    refine .condS rfl (fun c34 => ?_) (fun c34 => ?_)
    ·try simp at c34
     have hw2 : IntKind.i64.wrap ((k : Int) + 1) = (k : Int) + 1 := wrap64 (by omega) (by omega)
     have hkw : k < ws.length := by omega
     have hkb : k < b.length := by omega
     have hL := hll ws[k] (List.getElem_mem hkw)
     have ea := ra_at hkw (show k < a.length by omega)
     have eb := ra_at hkw hkb
     have hss := someS_succ ws a b k
     rw [ea, eb] at hss
     refine .skip ?_
     refine .seq ?_
     refine .block ?_
     refine .seq ?_
     refine .seq ?_
     refine .drawn (ms := [0,0,0,0,12,28,63,0,0,0,0,1536,3584,8191,16383]) (W := [6,13]) (items := [.op 0, .op 1, .op 2, .op 3, .op 4, .op 5, .op 7, .op 8, .op 9, .op 10, .op 11, .op 12, .op 6, .ck 12, .ck 7, .op 13, .op 14]) rfl zz0 zz0 zz0 ?_
     refine .rd rfl rfl (by decide) rfl (by decide) zz1 ?_   -- 0
     refine .rd rfl rfl (by decide) rfl (by decide) zz1 ?_   -- 1
     refine .rd rfl rfl (by decide) rfl (by decide) zz1 ?_   -- 2
     refine .rd rfl rfl (by decide) rfl (by decide) zz1 ?_   -- 3
     refine .rd rfl rfl (by decide) rfl (by decide) zz1 ?_   -- 4
     refine .rd rfl rfl (by decide) rfl (by decide) zz1 ?_   -- 5
     refine .rd rfl rfl (by decide) rfl (by decide) zz1 ?_   -- 7
     refine .rd rfl rfl (by decide) rfl (by decide) zz1 ?_   -- 8
     refine .rd rfl rfl (by decide) rfl (by decide) zz1 ?_   -- 9
     refine .rd rfl rfl (by decide) rfl (by decide) zz1 ?_   -- 10
     refine .rd rfl rfl (by decide) rfl (by decide) zz1 ?_   -- 11
     refine .rd rfl rfl (by decide) rfl (by decide) zz1 ?_   -- 12
     refine .wr rfl rfl (by decide) (.pure rfl rfl rfl Tryz.call105 (by decide) ((by first | exact p105 ws k a[k] hkw hL | exact p105 ws k b[k] hkw hL)) (by first | rfl | simp [*]) ?_)
     rintro _ rfl
     refine .ck rfl zz0 ?_   -- 12
     refine .ck rfl zz0 ?_   -- 7
     refine .wr rfl rfl (by decide) (.pure rfl rfl rfl Tryz.call105 (by decide) ((by first | exact p105 ws k a[k] hkw hL | exact p105 ws k b[k] hkw hL)) (by first | rfl | simp [*]) ?_)
     rintro _ rfl
     refine .rd rfl rfl (by decide) rfl (by decide) zz1 ?_   -- 14
     refine .done ?_
     refine .condS rfl (fun c51 => ?_) (fun c51 => ?_)
     ·try simp at c51
      refine .seq ?_
      refine .rn ?_
      refine .ret ?_
      refine ⟨_, _, zz2,zz2, ?_⟩
      rw [e, betI, betS_no (show k < a.length by omega) (by rw [ea, eb]; exact c51), Bool.and_false]
     ·try simp at c51
      refine .skip ?_
      refine .drawn (ms := [0,1,3,3,3,3,51,115,255,3,3,3,3,6147,14339,32767,65535,131071,262143]) (W := [8,15]) (items := [.op 0, .op 1, .op 2, .op 3, .op 4, .op 5, .op 6, .op 7, .op 9, .op 10, .op 11, .op 12, .op 13, .op 14, .op 8, .ck 14, .ck 9, .op 15, .op 16, .op 17, .op 18]) rfl zz0 zz0 zz0 ?_
      refine .rd rfl rfl (by decide) rfl (by decide) zz1 ?_   -- 0
      refine .rd rfl rfl (by decide) rfl (by decide) zz1 ?_   -- 1
      refine .split (t := 54) rfl (fun c54 => ?_) (fun c54 => ?_)
      ·try rw [c54]
       try simp at c54
       refine .un rfl rfl (by decide) ?_   -- 2
       refine .un rfl rfl (by decide) ?_   -- 3
       refine .un rfl rfl (by decide) ?_   -- 4
       refine .un rfl rfl (by decide) ?_   -- 5
       refine .un rfl rfl (by decide) ?_   -- 6
       refine .un rfl rfl (by decide) ?_   -- 7
       refine .un rfl rfl (by decide) ?_   -- 9
       refine .un rfl rfl (by decide) ?_   -- 10
       refine .un rfl rfl (by decide) ?_   -- 11
       refine .un rfl rfl (by decide) ?_   -- 12
       refine .un rfl rfl (by decide) ?_   -- 13
       refine .un rfl rfl (by decide) ?_   -- 14
       refine .un rfl rfl (by decide) ?_   -- 8
       refine .ckU rfl rfl rfl ?_   -- 14
       refine .ckU rfl rfl rfl ?_   -- 9
       refine .un rfl rfl (by decide) ?_   -- 15
       refine .un rfl rfl (by decide) ?_   -- 16
       refine .rd rfl rfl (by decide) rfl (by decide) zz1 ?_   -- 17
       refine .rd rfl rfl (by decide) rfl (by decide) zz1 ?_   -- 18
       refine .done ?_
       refine .rn ?_
       refine ⟨k + 1, ⟨by omega, fun i hi => ?_⟩, zz3,(.mk [] [] zz4 zz5 rfl rfl rfl)⟩
       by_cases h : i = k
       ·rw [h, ea, eb]; exact c51
       ·exact hg i (by omega)
      ·try rw [c54]
       try simp at c54
       refine .rd rfl rfl (by decide) rfl (by decide) zz1 ?_   -- 2
       refine .rd rfl rfl (by decide) rfl (by decide) zz1 ?_   -- 3
       refine .rd rfl rfl (by decide) rfl (by decide) zz1 ?_   -- 4
       refine .rd rfl rfl (by decide) rfl (by decide) zz1 ?_   -- 5
       refine .rd rfl rfl (by decide) rfl (by decide) zz1 ?_   -- 6
       refine .rd rfl rfl (by decide) rfl (by decide) zz1 ?_   -- 7
       refine .rd rfl rfl (by decide) rfl (by decide) zz1 ?_   -- 9
       refine .rd rfl rfl (by decide) rfl (by decide) zz1 ?_   -- 10
       refine .rd rfl rfl (by decide) rfl (by decide) zz1 ?_   -- 11
       refine .rd rfl rfl (by decide) rfl (by decide) zz1 ?_   -- 12
       refine .rd rfl rfl (by decide) rfl (by decide) zz1 ?_   -- 13
       refine .rd rfl rfl (by decide) rfl (by decide) zz1 ?_   -- 14
       refine .wr rfl rfl (by decide) (.pure rfl rfl rfl Tryz.call105 (by decide) ((by first | exact p105 ws k a[k] hkw hL | exact p105 ws k b[k] hkw hL)) (by first | rfl | simp [*]) ?_)
       rintro _ rfl
       refine .ck rfl zz0 ?_   -- 14
       refine .ck rfl zz0 ?_   -- 9
       refine .wr rfl rfl (by decide) (.pure rfl rfl rfl Tryz.call105 (by decide) ((by first | exact p105 ws k a[k] hkw hL | exact p105 ws k b[k] hkw hL)) (by first | rfl | simp [*]) ?_)
       rintro _ rfl
       refine .rd rfl rfl (by decide) rfl (by decide) zz1 ?_   -- 16
       refine .rd rfl rfl (by decide) rfl (by decide) zz1 ?_   -- 17
       refine .rd rfl rfl (by decide) rfl (by decide) zz1 ?_   -- 18
       refine .done ?_
       refine .rn ?_
       refine ⟨k + 1, ⟨by omega, fun i hi => ?_⟩, zz3,(.mk [] [] zz4 zz5 rfl rfl rfl)⟩
       by_cases h : i = k
       ·rw [h, ea, eb]; exact c51
       ·exact hg i (by omega)
    ·try simp at c34
     refine .exit ?_
     refine .seq ?_
     refine .rn ?_
     refine .ret ?_
     refine ⟨_, _, zz2,zz2, ?_⟩
     have hkn : k = a.length := by omega
     rw [e, betI, e, betS_yes (fun i hi => hg i (by omega)), hkn]; rfl
end Go.Am.Hi
end

section
namespace Go.Am.Hi
open Go Go.Am Go.Proofs
set_option maxRecDepth 100000
set_option maxHeartbeats 4000000
set_option linter.unusedSimpArgs false
set_option linter.unusedVariables false
attribute [local simp] vrun vwanted vyielded vop vopA vputAll VHeap.back hidI hidF backL bm Nat.testBit_eq_decide_div_mod_eq veval vevals vparts vO vbuiltin vlen vappend velems vcopy vmakeSlice vbuildSlice valloc vbox vmakeMap vload vpartT vpart vstore vfieldAddr vfield vindexAddr vindex vextract vslice vsliceZ vbounds vbnd zeroO vidx vlookup vmget vmapUpdate vdelete vclear vnilq vnilp vnils vbin vsc vsc1 vscs vscl abinOp aint ashift aunOp aconvert amaxs amax2 pvcV pvc pvcs tput tget vargs VHeap.get VHeap.alloc VHeap.put VHeap.drop VHeap.empty vlook vput vdrop psplice pfill preps chunk List.range List.range.loop vresults vresult vresultV frz frzL PV.isF PV.allF PV.scal PV.allS retP subT allFT PV.one PV.ids PV.idsL dropL beq_eq ble_dec blt_dec
theorem filter_take {p : Int → Bool} {l : List Int} {k : Nat} (h : k < l.length) : (l.take (k + 1)).filter p = (l.take k).filter p ++ (if p l[k] then [l[k]] else []) := by
 rw [List.take_succ_eq_append_getElem h, List.filter_append]
 cases hp : p l[k] <;> simp [hp]
theorem p103 (l : List Int) (n : Int) (hl : l.length < 4294967296) : VPure Tryz.prog 103 [ints l, .int .i64 n] fun r => Soft r (ints (l.filter fun x => !decide (x = n))) := by
 refine .of_body Tryz.func103 rfl rfl ?_
 refine .seq ?_
 refine .rn ?_
 refine .seq ?_
 refine .rn ?_
 refine .seq ?_
 refine .seq ?_
 refine .rn ?_
 refine .block ?_
 refine .loopS (fun k : Nat => ([(0, ints l),(1, .int .i64 n),(5, .grow 0 ((l.take k).filter fun x => !decide (x = n)).length true),(6, .int .i64 k)], ⟨1,[(0, .grow 1 (((l.take k).filter fun x => !decide (x = n)).map (.int .i64)))]⟩)) (fun k => k ≤ l.length) (fun k => l.length - k) 0 (by simp) (.mk [] [] zz4 zz5 rfl rfl rfl) ?_
 rintro k hk
 simp only at hk ⊢
 obtain ⟨L, hL⟩ : ∃ L, ((l.take k).filter fun x => !decide (x = n)) = L := ⟨_, rfl⟩
 have hLl : L.length ≤ k := by rw [← hL]; exact Nat.le_trans (List.length_filter_le _ _) (by rw [List.length_take]; omega)
 have hL2 : L.length + 1 ≤ 4294967296 := by omega
 rw [hL]
 refine .seq ?_
 refine .seq ?_
 refine .rn ?_
 refine .condS rfl (fun c10 => ?_) (fun c10 => ?_)
 ·try simp at c10
  have hw2 : IntKind.i64.wrap ((k : Int) + 1) = (k : Int) + 1 := wrap64 (by omega) (by omega)
  have hF := filter_take (p := fun x => !decide (x = n)) c10
  rw [hL] at hF
  refine .skip ?_
  refine .seq ?_
  refine .block ?_
  refine .seq ?_
  refine .rn ?_
  refine .condS rfl (fun c18 => ?_) (fun c18 => ?_)
  ·try simp at c18
   have hF2 : ((l.take (k + 1)).filter fun x => !decide (x = n)) = L ++ [l[k]] := by rw [hF]; simp [c18]
   clear hF
   refine .rn ?_
   refine .rn ?_
   refine ⟨k + 1, c10,zz3,(.mk [] [(0,2)] zz4 zz5 rfl rfl rfl)⟩
  ·try simp at c18
   have hF2 : ((l.take (k + 1)).filter fun x => !decide (x = n)) = L := by rw [hF]; simp [c18]
   clear hF
   refine .skip ?_
   refine .rn ?_
   refine ⟨k + 1, c10,zz3,(.mk [] [] zz4 zz5 rfl rfl rfl)⟩
 ·try simp at c10
  refine .exit ?_
  refine .seq ?_
  refine .rn ?_
  refine .ret ?_
  have hkn : k = l.length := by omega
  rw [hkn, List.take_length] at hL
  refine ⟨_, _, zz2,zz2, ?_⟩
  rw [hL]
  exact soft_rfl rfl
end Go.Am.Hi
end

section
namespace Go.Am.Hi
open Go Go.Am Go.Proofs
set_option maxRecDepth 100000
set_option maxHeartbeats 4000000
set_option linter.unusedSimpArgs false
set_option linter.unusedVariables false
attribute [local simp] vrun vwanted vyielded vop vopA vputAll VHeap.back hidI hidF backL bm Nat.testBit_eq_decide_div_mod_eq veval vevals vparts vO vbuiltin vlen vappend velems vcopy vmakeSlice vbuildSlice valloc vbox vmakeMap vload vpartT vpart vstore vfieldAddr vfield vindexAddr vindex vextract vslice vsliceZ vbounds vbnd zeroO vidx vlookup vmget vmapUpdate vdelete vclear vnilq vnilp vnils vbin vsc vsc1 vscs vscl abinOp aint ashift aunOp aconvert amaxs amax2 pvcV pvc pvcs tput tget vargs VHeap.get VHeap.alloc VHeap.put VHeap.drop VHeap.empty vlook vput vdrop psplice pfill preps chunk List.range List.range.loop vresults vresult vresultV frz frzL PV.isF PV.allF PV.scal PV.allS retP subT allFT PV.one PV.ids PV.idsL dropL beq_eq ble_dec blt_dec
def bstR (l : List Int) (s : Int) (left : List Int) : Int := left.foldl (fun o x => if rkL l s x < rkL l s o then x else o) s
theorem foldl_take {α β : Type} (f : β → α → β) (b : β) (l : List α) (k : Nat) (h : k < l.length) : (l.take (k + 1)).foldl f b = f ((l.take k).foldl f b) l[k] := by
 rw [List.take_succ_eq_append_getElem h, List.foldl_append]; rfl
theorem p102 (ws : List (List Int)) (s : Nat) (left : List Int) (hs : s < ws.length) (hl : ws[s].length < 4294967296) (h2 : left.length < 4294967296) : VPure Tryz.prog 102 [encM ws, .int .i64 s, ints left] fun r => r = .int .i64 (bstR ws[s] s left) := by
 refine .of_body Tryz.func102 rfl rfl ?_
 refine .seq ?_
 refine .rn ?_
 refine .seq ?_
 refine .rn ?_
 refine .seq ?_
 refine .seq ?_
 refine .rn ?_
 refine .block ?_
 refine .loopS (fun k : Nat => ([(1, .int .i64 s),(2, ints left),(3, .vp [.vec (ws.map ints)]),(7, .int .i64 (bstR ws[s] s (left.take k))),(8, .int .i64 k)], VHeap.empty)) (fun k => k ≤ left.length) (fun k => left.length - k) 0 (by simp) (.mk [0] [] zz6 zz5 rfl rfl rfl) ?_
 rintro k hk
 simp only at hk ⊢
 obtain ⟨o, ho⟩ : ∃ o, bstR ws[s] s (left.take k) = o := ⟨_, rfl⟩
 rw [ho]
 refine .seq ?_
 refine .seq ?_
 refine .rn ?_
 refine .condS rfl (fun c13 => ?_) (fun c13 => ?_)
 ·try simp at c13
  have hw2 : IntKind.i64.wrap ((k : Int) + 1) = (k : Int) + 1 := wrap64 (by omega) (by omega)
  have hS : bstR ws[s] s (left.take (k + 1)) = if rkL ws[s] s left[k] < rkL ws[s] s o then left[k] else o := by
   unfold bstR at ho ⊢
   rw [foldl_take _ _ _ _ c13, ho]
  refine .skip ?_
  refine .seq ?_
  refine .block ?_
  refine .seq ?_
  refine .drawn (ms := [0,0,0,0,12,28,63,0,0,0,1023,2047]) (W := [6,10]) (items := [.op 0, .op 1, .op 2, .op 3, .op 4, .op 5, .op 7, .op 8, .op 9, .op 6, .ck 7, .op 10, .op 11]) rfl zz0 zz0 zz0 ?_
  refine .rd rfl rfl (by decide) rfl (by decide) zz1 ?_   -- 0
  refine .rd rfl rfl (by decide) rfl (by decide) zz1 ?_   -- 1
  refine .rd rfl rfl (by decide) rfl (by decide) zz1 ?_   -- 2
  refine .rd rfl rfl (by decide) rfl (by decide) zz1 ?_   -- 3
  refine .rd rfl rfl (by decide) rfl (by decide) zz1 ?_   -- 4
  refine .rd rfl rfl (by decide) rfl (by decide) zz1 ?_   -- 5
  refine .rd rfl rfl (by decide) rfl (by decide) zz1 ?_   -- 7
  refine .rd rfl rfl (by decide) rfl (by decide) zz1 ?_   -- 8
  refine .rd rfl rfl (by decide) rfl (by decide) zz1 ?_   -- 9
  refine .wr rfl rfl (by decide) (.pure rfl rfl rfl Tryz.call105 (by decide) ((by first | exact p105 ws s left[k] hs hl | exact p105 ws s o hs hl)) (by first | rfl | simp [*]) ?_)
  rintro _ rfl
  refine .ck rfl zz0 ?_   -- 7
  refine .wr rfl rfl (by decide) (.pure rfl rfl rfl Tryz.call105 (by decide) ((by first | exact p105 ws s left[k] hs hl | exact p105 ws s o hs hl)) (by first | rfl | simp [*]) ?_)
  rintro _ rfl
  refine .rd rfl rfl (by decide) rfl (by decide) zz1 ?_   -- 11
  refine .done ?_
  refine .condS rfl (fun c27 => ?_) (fun c27 => ?_)
  ·try simp at c27
   rw [if_pos c27] at hS
   refine .rn ?_
   refine .rn ?_
   refine ⟨k + 1, c13,zz3,(.mk [] [] zz4 zz5 rfl rfl rfl)⟩
  ·try simp at c27
   rw [if_neg (by omega)] at hS
   refine .skip ?_
   refine .rn ?_
   refine ⟨k + 1, c13,zz3,(.mk [] [] zz4 zz5 rfl rfl rfl)⟩
 ·try simp at c13
  refine .exit ?_
  refine .seq ?_
  refine .rn ?_
  refine .ret ?_
  refine ⟨_, _, zz2,zz2, ?_⟩
  have hkn : k = left.length := by omega
  rw [← ho, hkn, List.take_length]
end Go.Am.Hi
end

section
namespace Go.Am.Hi
open Go Go.Am Go.Proofs
set_option maxRecDepth 100000
set_option maxHeartbeats 4000000
set_option linter.unusedSimpArgs false
set_option linter.unusedVariables false
attribute [local simp] vrun vwanted vyielded vop vopA vputAll VHeap.back hidI hidF backL bm Nat.testBit_eq_decide_div_mod_eq veval vevals vparts vO vbuiltin vlen vappend velems vcopy vmakeSlice vbuildSlice valloc vbox vmakeMap vload vpartT vpart vstore vfieldAddr vfield vindexAddr vindex vextract vslice vsliceZ vbounds vbnd zeroO vidx vlookup vmget vmapUpdate vdelete vclear vnilq vnilp vnils vbin vsc vsc1 vscs vscl abinOp aint ashift aunOp aconvert amaxs amax2 pvcV pvc pvcs tput tget vargs VHeap.get VHeap.alloc VHeap.put VHeap.drop VHeap.empty vlook vput vdrop psplice pfill preps chunk List.range List.range.loop vresults vresult vresultV frz frzL PV.isF PV.allF PV.scal PV.allS retP subT allFT PV.one PV.ids PV.idsL dropL beq_eq ble_dec blt_dec
theorem p152 (ws : List (List Int)) (s : Nat) (hs : s < ws.length) : VPure Tryz.prog 152 [encM ws, .int .i64 s] fun r => r = .func 182 [] [.vp [ints ws[s]], .vp [.int .i64 s]] := by
 refine .of_body Tryz.func152 rfl rfl ?_
 refine .seq ?_
 refine .rn ?_
 refine .seq ?_
 refine .rn ?_
 refine .seq ?_
 refine .rn ?_
 refine .ret ?_
 refine ⟨_, _, zz2,zz2, ?_⟩
 first | rfl | (simp [*]; done) | (simp_all; done)
end Go.Am.Hi
end

section
namespace Go.Am.Hi
open Go Go.Am Go.Proofs
set_option maxRecDepth 100000
set_option maxHeartbeats 4000000
set_option linter.unusedSimpArgs false
set_option linter.unusedVariables false
attribute [local simp] vrun vwanted vyielded vop vopA vputAll VHeap.back hidI hidF backL bm Nat.testBit_eq_decide_div_mod_eq veval vevals vparts vO vbuiltin vlen vappend velems vcopy vmakeSlice vbuildSlice valloc vbox vmakeMap vload vpartT vpart vstore vfieldAddr vfield vindexAddr vindex vextract vslice vsliceZ vbounds vbnd zeroO vidx vlookup vmget vmapUpdate vdelete vclear vnilq vnilp vnils vbin vsc vsc1 vscs vscl abinOp aint ashift aunOp aconvert amaxs amax2 pvcV pvc pvcs tput tget vargs VHeap.get VHeap.alloc VHeap.put VHeap.drop VHeap.empty vlook vput vdrop psplice pfill preps chunk List.range List.range.loop vresults vresult vresultV frz frzL PV.isF PV.allF PV.scal PV.allS retP subT allFT PV.one PV.ids PV.idsL dropL beq_eq ble_dec blt_dec
def AdjF (l : List Int) (k : Nat) : Prop := ∀ i, i + 1 < k → l[i]? ≠ l[i + 1]?
theorem AdjF.mono {l : List Int} {k n : Nat} (h : AdjF l k) (hn : n ≤ k) : AdjF l n := fun i hi => h i (by omega)
def AdjE (l : List Int) : Prop := ∃ i, i + 1 < l.length ∧ l[i]? = l[i + 1]?
theorem adj_sorted {l : List Int} (h : AdjF (l.mergeSort fun x y => decide (x ≤ y)) (l.mergeSort fun x y => decide (x ≤ y)).length) : l.Nodup := by
 have hs : (l.mergeSort fun x y => decide (x ≤ y)).Pairwise fun x y => decide (x ≤ y) = true := List.pairwise_mergeSort (fun a b c h1 h2 => by simp at h1 h2 ⊢; omega) (fun a b => by simp; omega) l
 obtain ⟨z, hz⟩ : ∃ z, (l.mergeSort fun x y => decide (x ≤ y)) = z := ⟨_, rfl⟩
 rw [hz] at h hs
 have hp : z.Perm l := by rw [← hz]; exact List.mergeSort_perm l _
 refine hp.nodup_iff.1 (List.pairwise_iff_getElem.2 fun i j hi hj hlt he => ?_)
 have hs' := List.pairwise_iff_getElem.1 hs
 have h1 := h i (by omega)
 rw [List.getElem?_eq_getElem hi, List.getElem?_eq_getElem (show i + 1 < z.length by omega)] at h1
 have h2 := hs' i (i + 1) hi (by omega) (by omega)
 have h1 : z[i] ≠ z[i + 1] := fun h => h1 (by rw [h])
 simp at h2
 rcases Nat.lt_or_ge (i + 1) j with h3 | h3
 ·have h4 := hs' (i + 1) j (by omega) hj h3
  simp at h4
  omega
 ·have : i + 1 = j := by omega
  subst this
  exact h1 he
theorem adj_twice {l : List Int} (h : AdjE (l.mergeSort fun x y => decide (x ≤ y))) : ¬l.Nodup := fun hn => by
 have hp : (l.mergeSort fun x y => decide (x ≤ y)).Perm l := List.mergeSort_perm l _
 have hz := hp.nodup_iff.2 hn
 obtain ⟨i, h1, h2⟩ := h
 rw [List.getElem?_eq_getElem (by omega), List.getElem?_eq_getElem h1] at h2
 injection h2 with h2
 exact (List.pairwise_iff_getElem.1 hz) i (i + 1) (by omega) h1 (by omega) h2
theorem take_succ_ints (l : List Int) (k : Nat) (h : k < l.length) : (l.take (k + 1)).map (PV.int .i64) = (l.take k).map (PV.int .i64) ++ [.int .i64 l[k]] := by
 rw [List.take_succ_eq_append_getElem h, List.map_append]; rfl
@[simp] theorem take_len_ints (l : List Int) : List.take l.length (l.map (PV.int .i64)) = l.map (PV.int .i64) := List.take_of_length_le (by rw [List.length_map]; exact Nat.le_refl _)
@[simp] theorem all_one_ints (l : List Int) : l.all (PV.one ∘ PV.int .i64) = true := by simp [PV.one]
theorem all_one_sub {cs : List Int} {l : List PV} (h : ∀ x ∈ l, x ∈ cs.map (PV.int .i64)) : l.all PV.one = true := by
 rw [List.all_eq_true]
 intro x hx
 obtain ⟨y, _, rfl⟩ := List.mem_map.1 (h x hx)
 rfl
def CmpR (l : List Int) (v : PV) : Prop := ∃ xs : List Int, v = ints xs ∧ ((xs.length = l.length ∧ AdjF l l.length) ∨ (xs.length < l.length ∧ AdjE l))
theorem p161 (l : List Int) (hl : l.length < 17592186043905) : VCall Tryz.prog 161 [.sl0, .func 135 [] [.vp [ints l]]] VHeap.empty fun v vh' => ∃ i nl, v = .grow i l.length nl ∧ vh'.get i = some (.grow 1 (l.map (.int .i64))) := by
 refine .of_body Tryz.func161 rfl rfl ?_
 refine .seq ?_
 refine .rn ?_
 refine .seq ?_
 refine .seq ?_
 refine .rn ?_
 refine .block ?_
 refine .rangeFunc rfl Tryz.call135 Tryz.func135 rfl rfl rfl ?_
 refine .seq ?_
 refine .rn ?_
 refine .block ?_
 refine .loopS (fun k : Nat => ([(0, .yld 1),(5, ints l),(6, .int .i64 l.length),(7, .int .i64 k)], ⟨3,[(2, .grow 1 ((l.take k).map (.int .i64))),(1, .loop 13 #[7] _ _ [(2, .ptr 0 0)] none),(0, .box [.grow 2 k true])]⟩)) (fun k => k ≤ l.length) (fun k => l.length - k) 0 (by simp) (.mk [] [] zz8 zz9 rfl rfl rfl) ?_
 rintro k hk
 simp only at hk ⊢
 refine .seq ?_
 refine .rn ?_
 refine .seq ?_
 refine .condS rfl (fun c8 => ?_) (fun c8 => ?_)
 ·try simp at c8
  have hw2 : IntKind.i64.wrap ((k : Int) + 1) = (k : Int) + 1 := wrap64 (by omega) (by omega)
  have hT := take_succ_ints l k c8
  have hb : k + 1 ≤ 17592186044320 := by omega
  refine .skip ?_
  refine .seq ?_
  refine .block ?_
  refine .seq ?_
  refine .rn ?_
  refine .seq ?_
  refine .regionL [0,1,2,3] rfl zz0 ?_
  refine .rn [0,1] [2,3] ?_
  refine .step rfl rfl (.yield rfl rfl rfl rfl rfl (by decide) rfl ?_)
  refine .rn ?_
  refine .block ?_
  refine .rn ?_
  change VOps _ _ _ _ _ _ _ _
  refine .rn [3] [] ?_
  refine .done ?_
  refine .condF rfl ?_
  refine .skip ?_
  refine .rn ?_
  refine ⟨k + 1,zz3,zz3,(.mk [] [(2,4)] zz8 zz9 rfl rfl rfl)⟩
 ·try simp at c8
  have hkn : k = l.length := by omega
  subst hkn
  refine .exit ?_
  change rfEnd _ _ _ _
  refine rf_none rfl ?_
  refine .seq ?_
  refine .rn ?_
  refine .ret ?_
  exact ⟨_, zz2,2, true, rfl, by simp⟩
theorem p161e (l : List Int) (hl : l.length = 0) : VPure Tryz.prog 161 [.sl0, .func 135 [] [.vp [ints l]]] fun r => r = .sl0 := by
 refine .of_body Tryz.func161 rfl rfl ?_
 refine .seq ?_
 refine .rn ?_
 refine .seq ?_
 refine .seq ?_
 refine .rn ?_
 refine .block ?_
 refine .rangeFunc rfl Tryz.call135 Tryz.func135 rfl rfl rfl ?_
 refine .seq ?_
 refine .rn ?_
 refine .block ?_
 refine .loopS (fun k : Nat => ([(0, .yld 1),(5, ints l),(6, .int .i64 0),(7, .int .i64 k)], ⟨2,[(1, .loop 13 #[7] _ _ [(2, .ptr 0 0)] none),(0, .box [.sl0])]⟩)) (fun k => k = 0) (fun k => l.length - k) 0 rfl (.mk [] [] zz8 zz9 rfl rfl rfl) ?_
 rintro k hk
 simp only at hk ⊢
 refine .seq ?_
 refine .rn ?_
 refine .seq ?_
 refine .condS rfl (fun c8 => ?_) (fun c8 => ?_)
 ·try simp at c8
 ·try simp at c8
  refine .exit ?_
  change rfEnd _ _ _ _
  refine rf_none rfl ?_
  refine .seq ?_
  refine .rn ?_
  refine .ret ?_
  refine ⟨_, _, zz2,zz2, ?_⟩
  first | rfl | (simp [*]; done) | (simp_all; done)
theorem p134 (l : List Int) (hl : l.length < 17592186043905) (hne : 0 < l.length) : VCall Tryz.prog 134 [.func 135 [] [.vp [ints l]]] VHeap.empty fun v vh' => ∃ i nl, v = .grow i l.length nl ∧ vh'.get i = some (.grow 1 (l.map (.int .i64))) := by
 refine .of_body Tryz.func134 rfl rfl ?_
 refine .seq ?_
 refine .rn ?_
 refine .seq ?_
 refine .regionL [0,1,2] rfl zz0 ?_
 refine .rn [0] [1,2] ?_
 refine .step rfl rfl (.call rfl rfl rfl Tryz.call161 (by decide) (((VCall.fresh' (by simp) (p161 l hl) rfl hne)).mono ?_))
 rintro _ _ ⟨rfl, rfl⟩
 refine .rn [2] [] ?_
 refine .done ?_
 refine .ret ?_
 exact ⟨_, zz2,0, false, rfl, by simp⟩
theorem p134e (l : List Int) (hl : l.length = 0) : VPure Tryz.prog 134 [.func 135 [] [.vp [ints l]]] fun r => r = .sl0 := by
 refine .of_body Tryz.func134 rfl rfl ?_
 refine .seq ?_
 refine .rn ?_
 refine .seq ?_
 refine .regionL [0,1,2] rfl zz0 ?_
 refine .rn [0] [1,2] ?_
 refine .step rfl rfl (.pure rfl rfl rfl Tryz.call161 (by decide) (p161e l hl) (by first | rfl | simp [*]) ?_)
 rintro _ rfl
 refine .rn [2] [] ?_
 refine .done ?_
 refine .ret ?_
 refine ⟨_, _, zz2,zz2, ?_⟩
 first | rfl | (simp [*]; done) | (simp_all; done)
theorem p73 (l : List Int) (hl : l.length < 17592186043905) (hne : 0 < l.length) : VCall Tryz.prog 73 [.func 135 [] [.vp [ints l]]] VHeap.empty fun v vh' => ∃ i nl, v = .grow i l.length nl ∧ vh'.get i = some (.grow 1 ((l.mergeSort fun x y => decide (x ≤ y)).map (.int .i64))) := by
 refine .of_body Tryz.func73 rfl rfl ?_
 refine .seq ?_
 refine .rn ?_
 refine .seq ?_
 refine .regionL [0,1,2] rfl zz0 ?_
 refine .rn [0] [1,2] ?_
 refine .step rfl rfl (.call rfl rfl rfl Tryz.call134 (by decide) (((VCall.fresh' (by simp) (p134 l hl hne) rfl hne)).mono ?_))
 rintro _ _ ⟨rfl, rfl⟩
 refine .rn [2] [] ?_
 refine .done ?_
 refine .seq ?_
 refine .regionL [0,1] rfl zz0 ?_
 refine .rn [0] [1] ?_
 refine .step rfl rfl (.call rfl rfl rfl Tryz.call98 (by decide) (((VCall.sortGrow (zs := l) lsort (by simp) (by simp))).mono ?_))
 rintro _ _ ⟨rfl, rfl⟩
 refine .done ?_
 refine .seq ?_
 refine .rn ?_
 refine .ret ?_
 exact ⟨_, zz2,0, false, rfl, by simp⟩
theorem p73e (l : List Int) (hl : l.length = 0) : VPure Tryz.prog 73 [.func 135 [] [.vp [ints l]]] fun r => Soft r (ints []) := by
 refine .of_body Tryz.func73 rfl rfl ?_
 refine .seq ?_
 refine .rn ?_
 refine .seq ?_
 refine .regionL [0,1,2] rfl zz0 ?_
 refine .rn [0] [1,2] ?_
 refine .step rfl rfl (.pure rfl rfl rfl Tryz.call134 (by decide) (p134e l hl) (by first | rfl | simp [*]) ?_)
 rintro _ rfl
 refine .rn [2] [] ?_
 refine .done ?_
 refine .seq ?_
 refine .rec (vts2 := [(3, .grow 0 0 true)]) (vh2 := ⟨1,[(0, .grow 1 [])]⟩) (.mk [] [] zz8 zz9 rfl rfl rfl) ?_
 refine .regionL [0,1] rfl zz0 ?_
 refine .rn [0] [1] ?_
 refine .step rfl rfl (.call rfl rfl rfl Tryz.call98 (by decide) (((VCall.sortGrow (zs := []) lsort (by simp) (by simp))).mono ?_))
 rintro _ _ ⟨rfl, rfl⟩
 refine .done ?_
 refine .seq ?_
 refine .rn ?_
 refine .ret ?_
 refine ⟨_, _, zz2,zz2, ?_⟩
 exact soft_rfl rfl
theorem p74 (l : List Int) : VPure Tryz.prog 74 [ints l] fun r => r = .func 135 [] [.vp [ints l]] := by
 refine .of_body Tryz.func74 rfl rfl ?_
 refine .seq ?_
 refine .rn ?_
 refine .seq ?_
 refine .rn ?_
 refine .ret ?_
 refine ⟨_, _, zz2,zz2, ?_⟩
 first | rfl | (simp [*]; done) | (simp_all; done)
theorem p72e (l : List Int) (hl : l.length < 2) : VPure Tryz.prog 72 [ints l] fun r => r = ints l := by
 refine .of_body Tryz.func72 rfl rfl ?_
 refine .seq ?_
 refine .rn ?_
 refine .seq ?_
 refine .seq ?_
 refine .rn ?_
 refine .condS rfl (fun c8 => ?_) (fun c8 => ?_)
 ·try simp at c8
  refine .seq ?_
  refine .rn ?_
  refine .ret ?_
  refine ⟨_, _, zz2,zz2, ?_⟩
  first | rfl | (simp [*]; done) | (simp_all; done)
 ·try simp at c8
  exfalso; omega
theorem p72 (l : List Int) (hl : l.length < 17592186043905) (hne : 0 < l.length) : VCall Tryz.prog 72 [.sub 0 0 l.length] ⟨1,[(0, .arr false 1 (l.map (.int .i64)))]⟩ fun r _ => r.isF = true ∧ CmpR l r := by
 have hne0 : ¬l = [] := by rintro rfl; simp at hne
 refine .of_bodyF Tryz.func72 rfl rfl ?_
 refine .seq ?_
 refine .rn ?_
 refine .seq ?_
 refine .seq ?_
 refine .rn ?_
 refine .condS rfl (fun c8 => ?_) (fun c8 => ?_)
 ·try simp at c8
  refine .seq ?_
  refine .rn ?_
  refine .ret ?_
  refine ⟨_, ints l, zz2,(by simp [ints, hne0]), ?_⟩
  exact ⟨l, rfl, .inl ⟨rfl, fun i hi => by omega⟩⟩
 ·try simp at c8
  refine .skip ?_
  refine .seq ?_
  refine .seq ?_
  refine .rn ?_
  refine .block ?_
  refine .loopS (fun k : Nat => ([(0, .sub 0 0 l.length),(3, .int .i64 k)], ⟨1,[(0, .arr false 1 (l.map (.int .i64)))]⟩)) (fun k => 1 ≤ k ∧ k ≤ l.length ∧ AdjF l k) (fun k => l.length - k) 1 ⟨Nat.le_refl _, hne, fun i hi => by omega⟩ (.mk [] [] zz8 zz9 rfl rfl rfl) ?_
  rintro k ⟨h1, hk, hA⟩
  simp only at h1 hk hA ⊢
  refine .seq ?_
  refine .seq ?_
  refine .rn ?_
  refine .condS rfl (fun c13 => ?_) (fun c13 => ?_)
  ·try simp at c13
   have hw2 : IntKind.i64.wrap ((k : Int) + 1) = (k : Int) + 1 := wrap64 (by omega) (by omega)
   have hw3 : IntKind.i64.wrap ((k : Int) - 1) = ((k - 1 : Nat) : Int) := by rw [wrap64 (by omega) (by omega)]; omega
   have hk1 : k - 1 < l.length := by omega
   have g1 : l[k]? = some l[k] := List.getElem?_eq_getElem c13
   have g2 : l[k - 1]? = some l[k - 1] := List.getElem?_eq_getElem hk1
   refine .skip ?_
   refine .seq ?_
   refine .block ?_
   refine .seq ?_
   refine .drawn (ms := [0,0,3,7,0,0,32,112,240,511]) (W := []) (items := [.op 0, .op 1, .op 2, .op 3, .op 4, .op 5, .op 6, .op 7, .op 8, .op 9]) rfl zz0 zz0 zz0 ?_
   refine .rd rfl rfl (by decide) rfl (by decide) zz1 ?_   -- 0
   refine .rd rfl rfl (by decide) rfl (by decide) zz1 ?_   -- 1
   refine .rd rfl rfl (by decide) rfl (by decide) zz1 ?_   -- 2
   refine .rd rfl rfl (by decide) rfl (by decide) zz1 ?_   -- 3
   refine .rd rfl rfl (by decide) rfl (by decide) zz1 ?_   -- 4
   refine .rd rfl rfl (by decide) rfl (by decide) zz1 ?_   -- 5
   refine .rd rfl rfl (by decide) rfl (by decide) zz1 ?_   -- 6
   refine .rd rfl rfl (by decide) rfl (by decide) zz1 ?_   -- 7
   refine .rd rfl rfl (by decide) rfl (by decide) zz1 ?_   -- 8
   refine .rd rfl rfl (by decide) rfl (by decide) zz1 ?_   -- 9
   refine .done ?_
   refine .condS rfl (fun c25 => ?_) (fun c25 => ?_)
   ·try simp at c25
    have hkn : ¬l.length = k := by omega
    refine .seq ?_
    refine .rn ?_
    refine .seq ?_
    refine .seq ?_
    refine .rn ?_
    refine .block ?_
    refine .loopS (fun st : Nat × Nat × List Int => ([(0, .sub 0 0 l.length),(3, .int .i64 st.1),(4, .sub 0 k (l.length - k)),(5, .int .i64 st.2.1)], ⟨1,[(0, .arr false 1 (st.2.2.map (.int .i64)))]⟩)) (fun st => k ≤ st.1 ∧ 1 ≤ st.2.1 ∧ st.1 + 1 ≤ k + st.2.1 ∧ k + st.2.1 ≤ l.length ∧ st.2.2.length = l.length) (fun st => l.length - st.2.1) (k, 1, l) ⟨Nat.le_refl _, Nat.le_refl _, Nat.le_refl _, c13, rfl⟩ (.mk [] [] zz8 zz9 rfl rfl rfl) ?_
    rintro ⟨a, b, cs⟩ ⟨i0, i1, i2, i3, i4⟩
    simp only at i0 i1 i2 i3 i4 ⊢
    refine .seq ?_
    refine .seq ?_
    refine .rn ?_
    refine .condS rfl (fun c32 => ?_) (fun c32 => ?_)
    ·try simp at c32
     have hb1 : k + b < cs.length := by omega
     have hb2 : k + b - 1 < cs.length := by omega
     have ha1 : a < cs.length := by omega
     have hal : a < l.length := by omega
     have hbl : b < l.length - k := by omega
     have gb1 : cs[k + b]? = some cs[k + b] := List.getElem?_eq_getElem hb1
     have gb2 : cs[k + (b - 1)]? = some cs[k + b - 1] := by rw [show k + (b - 1) = k + b - 1 by omega]; exact List.getElem?_eq_getElem hb2
     have hw4 : IntKind.i64.wrap ((b : Int) + 1) = (b : Int) + 1 := wrap64 (by omega) (by omega)
     have hw5 : IntKind.i64.wrap ((b : Int) - 1) = ((b - 1 : Nat) : Int) := by rw [wrap64 (by omega) (by omega)]; omega
     have hw6 : IntKind.i64.wrap ((a : Int) + 1) = (a : Int) + 1 := wrap64 (by omega) (by omega)
     have ha2 : a + 1 ≤ l.length := hal
     have hb3 : b - 1 < l.length - k := by omega
     refine .skip ?_
     refine .seq ?_
     refine .block ?_
     refine .seq ?_
     refine .drawn (ms := [0,0,3,7,0,0,32,112,240,511]) (W := []) (items := [.op 0, .op 1, .op 2, .op 3, .op 4, .op 5, .op 6, .op 7, .op 8, .op 9]) rfl zz0 zz0 zz0 ?_
     refine .rd rfl rfl (by decide) rfl (by decide) zz1 ?_   -- 0
     refine .rd rfl rfl (by decide) rfl (by decide) zz1 ?_   -- 1
     refine .rd rfl rfl (by decide) rfl (by decide) zz1 ?_   -- 2
     refine .rd rfl rfl (by decide) rfl (by decide) zz1 ?_   -- 3
     refine .rd rfl rfl (by decide) rfl (by decide) zz1 ?_   -- 4
     refine .rd rfl rfl (by decide) rfl (by decide) zz1 ?_   -- 5
     refine .rd rfl rfl (by decide) rfl (by decide) zz1 ?_   -- 6
     refine .rd rfl rfl (by decide) rfl (by decide) zz1 ?_   -- 7
     refine .rd rfl rfl (by decide) rfl (by decide) zz1 ?_   -- 8
     refine .rd rfl rfl (by decide) rfl (by decide) zz1 ?_   -- 9
     refine .done ?_
     refine .condS rfl (fun c44 => ?_) (fun c44 => ?_)
     ·try simp at c44
      refine .seq ?_
      refine .rn ?_
      refine .rn ?_
      refine .rn ?_
      refine ⟨(a + 1, b + 1, cs.set a cs[k + b]), ⟨by simp; omega, by simp, by simp; omega, by simp; omega, by simp [i4]⟩, by simp; omega, .mk [] [] zz8 ⟨⟨Nat.le_of_ble_eq_true rfl, Or.inr ⟨rfl, _, rfl, ?_⟩⟩, trivial⟩ rfl rfl rfl⟩
      refine congrArg (VObj.arr _ _) ?_
      rw [List.set_eq_take_append_cons_drop, if_pos ha1]
      simp
     ·try simp at c44
      refine .skip ?_
      refine .rn ?_
      refine ⟨(a, b + 1, cs), ⟨i0, by simp, by simp; omega, by simp; omega, i4⟩, by simp; omega, (.mk [] [] zz8 zz9 rfl rfl rfl)⟩
    ·try simp at c32
     obtain ⟨m, hm⟩ : ∃ m, l.length - a = m + 1 := ⟨l.length - a - 1, by omega⟩
     have hal : a ≤ l.length := by omega
     have hin : ¬l.length = a := by omega
     have him : a + (m + 1) ≤ l.length := by omega
     have e2 : ((cs.map (PV.int .i64)).take a).all PV.one = true := all_one_sub fun x hx => List.mem_of_mem_take hx
     have e3 : ((cs.map (PV.int .i64)).drop (a + (m + 1))).all PV.one = true := all_one_sub fun x hx => List.mem_of_mem_drop hx
     refine .exit ?_
     refine .seq ?_
     refine .rn ?_
     refine .seq ?_
     refine .rn ?_
     refine .ret ?_
     refine ⟨_, ints (cs.take a),zz2, ?_, ?_⟩
     ·have hi : ¬a = 0 := by omega
      have e4 : ∀ X : List PV, List.take a (List.take a (cs.map (PV.int .i64)) ++ X) = List.take a (cs.map (PV.int .i64)) := fun X => List.take_left' (by rw [List.length_take, List.length_map]; omega)
      simp [ints, List.map_take, *]
     ·refine ⟨cs.take a, rfl, .inr ⟨by rw [List.length_take]; omega, k - 1, by omega, by rw [show k - 1 + 1 = k by omega, g1, g2, c25]⟩⟩
   ·try simp at c25
    refine .skip ?_
    refine .rn ?_
    refine ⟨k + 1, ⟨by omega, by omega, fun i hi => ?_⟩, zz3,(.mk [] [] zz8 zz9 rfl rfl rfl)⟩
    by_cases h : i + 1 = k
    ·have : i = k - 1 := by omega
     subst this
     rw [show k - 1 + 1 = k by omega, g1, g2]
     intro he
     injection he with he
     exact c25 he.symm
    ·exact hA i (by omega)
  ·try simp at c13
   refine .exit ?_
   refine .seq ?_
   refine .rn ?_
   refine .ret ?_
   refine ⟨_, ints l, zz2,(by simp [ints, hne0]), ?_⟩
   exact ⟨l, rfl, .inl ⟨rfl, hA.mono (by omega)⟩⟩
end Go.Am.Hi
end

section
namespace Go.Am.Hi
open Go Go.Am Go.Proofs
set_option maxRecDepth 100000
set_option maxHeartbeats 4000000
set_option linter.unusedSimpArgs false
set_option linter.unusedVariables false
attribute [local simp] vrun vwanted vyielded vop vopA vputAll VHeap.back hidI hidF backL bm Nat.testBit_eq_decide_div_mod_eq veval vevals vparts vO vbuiltin vlen vappend velems vcopy vmakeSlice vbuildSlice valloc vbox vmakeMap vload vpartT vpart vstore vfieldAddr vfield vindexAddr vindex vextract vslice vsliceZ vbounds vbnd zeroO vidx vlookup vmget vmapUpdate vdelete vclear vnilq vnilp vnils vbin vsc vsc1 vscs vscl abinOp aint ashift aunOp aconvert amaxs amax2 pvcV pvc pvcs tput tget vargs VHeap.get VHeap.alloc VHeap.put VHeap.drop VHeap.empty vlook vput vdrop psplice pfill preps chunk List.range List.range.loop vresults vresult vresultV frz frzL PV.isF PV.allF PV.scal PV.allS retP subT allFT PV.one PV.ids PV.idsL dropL beq_eq ble_dec blt_dec
theorem any_not {n i : Nat} {l : List Int} (h : ∃ x, x ∈ l ∧ okW n i x = false) : wE n i l = 1 := by
 obtain ⟨x, hx, he⟩ := h
 obtain ⟨k, hk, rfl⟩ := List.mem_iff_getElem.1 hx
 exact wE_bad hk he
theorem wE_nd {n i : Nat} {l : List Int} (h0 : ∀ x ∈ l, okW n i x = true) (h : l.Nodup) : wE n i l = 0 := by
 unfold wE
 rw [if_pos (List.all_eq_true.2 h0), if_pos h]
theorem wE_nnd {n i : Nat} {l : List Int} (h0 : ∀ x ∈ l, okW n i x = true) (h : ¬l.Nodup) : wE n i l = 6 := by
 unfold wE
 rw [if_pos (List.all_eq_true.2 h0), if_neg h]
theorem give72 {vh : VHeap} (l : List Int) (hl : l.length < 17592186043905) (hne : 0 < l.length) (i : Nat) (nl : Bool) (hg : vh.get i = some (.grow 1 ((l.mergeSort fun x y => decide (x ≤ y)).map (.int .i64)))) :
  VCall Tryz.prog 72 [.grow i l.length nl] vh fun v vh' => vh' = vh.drop i ∧ CmpR (l.mergeSort fun x y => decide (x ≤ y)) v := by
 obtain ⟨z, hz⟩ : ∃ z, (l.mergeSort fun x y => decide (x ≤ y)) = z := ⟨_, rfl⟩
 have hzl : z.length = l.length := by rw [← hz, List.length_mergeSort]
 rw [hz] at hg ⊢
 rw [← hzl] at hl hne ⊢
 obtain ⟨a, r, hc⟩ : ∃ a r, z = a :: r := by
  cases z with
  | nil => simp at hne
  | cons a r => exact ⟨a, r, rfl⟩
 refine VCall.give (x0 := .arr false 1 (z.map (.int .i64))) hg (by rw [hc]; rfl) ⟨rfl, ⟨.int .i64 a, r.map (.int .i64), by rw [hc]; rfl⟩, sorted_cells z⟩ (AltL.cons (.growS i 0 z.length nl 1 _ (by decide) rfl hg (by simp) hne) AltL.nil) (p72 z hl hne)
theorem p39b (ws : List (List Int)) (hl : ws.length < 4611686018427387904) (hll : ∀ l ∈ ws, l.length < 17592186043905) : VPure Tryz.prog 39 [encM ws] fun r => r = .int .i64 (mkE ws) := by
 refine .of_body Tryz.func39 rfl rfl ?_
 refine .seq ?_
 refine .rn ?_
 refine .seq ?_
 refine .rn ?_
 refine .seq ?_
 refine .block ?_
 refine .seq ?_
 refine .rn ?_
 refine .condS rfl (fun c9 => ?_) (fun c9 => ?_)
 ·try simp at c9
  refine .seq ?_
  refine .rn ?_
  refine .ret ?_
  refine ⟨_, _, zz2,zz2, ?_⟩
  rw [mkE, if_pos (by omega)]
 ·try simp at c9
  refine .seq ?_
  refine .rn ?_
  refine .condS rfl (fun c12 => ?_) (fun c12 => ?_)
  ·try simp at c12
   refine .seq ?_
   refine .rn ?_
   refine .ret ?_
   refine ⟨_, _, zz2,zz2, ?_⟩
   rw [mkE, if_neg (by omega), if_pos (by simp_all)]
  ·try simp at c12
   have hn : 0 < ws.length := List.length_pos_iff.2 (by simpa using c12)
   have hM : mkE ws = mkEL ws.length 0 ws := by rw [mkE, if_neg (by omega), if_neg (by omega)]
   refine .skip ?_
   refine .seq ?_
   refine .seq ?_
   refine .rn ?_
   refine .block ?_
   refine .loopS (fun i : Nat => ([(3, .ptr 0 0),(16, .vec (ws.map ints)),(17, .int .i64 ws.length),(18, .int .i64 i)], ⟨1,[(0, .box [.int .i64 ws.length])]⟩)) (fun i => i ≤ ws.length ∧ mkEL ws.length i (ws.drop i) = mkEL ws.length 0 ws) (fun i => ws.length - i) 0 (by simp) (.mk [] [(0,1)] zz8 zz9 rfl rfl rfl) ?_
   rintro i ⟨hi, hr⟩
   simp only at hi hr ⊢
   refine .seq ?_
   refine .rn ?_
   refine .seq ?_
   refine .condS rfl (fun c19 => ?_) (fun c19 => ?_)
   ·try simp at c19
    have hw2 : IntKind.i64.wrap ((i : Int) + 1) = (i : Int) + 1 := wrap64 (by omega) (by omega)
    rw [mkEL_drop _ ws i c19] at hr
    have hL := hll ws[i] (List.getElem_mem c19)
    refine .skip ?_
    refine .seq ?_
    refine .block ?_
    refine .seq ?_
    refine .rn ?_
    refine .seq ?_
    refine .seq ?_
    refine .regionL [0,1,2] rfl zz0 ?_
    refine .rn [0,1] [2] ?_
    refine .step rfl rfl (.borrow rfl rfl rfl Tryz.call71 (by decide) (by first | (simp <;> rfl) | (simp [*] <;> rfl) | (simp [*]; done)) (p71 ws[i] (fun x => !okW ws.length i x) 106 [] [.vp [.int .i64 ws.length], .vp [.int .i64 i]] hL rfl rfl Tryz.call106 (fun a _ => p106 ws.length i a (by omega))) (by rintro _ rfl <;> first | (simp; done) | rfl) ?_)
    rintro _ rfl
    refine .done ?_
    refine .condS rfl (fun c25 => ?_) (fun c25 => ?_)
    ·try simp at c25
     have hE := any_not c25
     refine .seq ?_
     refine .rn ?_
     refine .ret ?_
     refine ⟨_, _, zz2,zz2, ?_⟩
     rw [hM, ← hr, hE, if_neg (by decide)]
    ·try simp at c25
     have h0 := c25
     rcases Nat.eq_zero_or_pos ws[i].length with hz | hz
     ·skip
      refine .skip ?_
      refine .seq ?_
      refine .regionL [0,1,2,3,4,5,6,7] rfl zz0 ?_
      refine .rn [0] [1,2,3,4,5,6,7] ?_
      refine .step rfl rfl (.pure rfl rfl rfl Tryz.call74 (by decide) (p74 ws[i]) (by first | rfl | simp [*]) ?_)
      rintro _ rfl
      refine .step rfl rfl (.pure rfl rfl rfl Tryz.call73 (by decide) (VPure.soft (p73e ws[i] hz) rfl) (by first | rfl | simp [*]) ?_)
      rintro _ rfl
      refine .step rfl rfl (.pure rfl rfl rfl Tryz.call72 (by decide) (p72e [] (by simp)) (by first | rfl | simp [*]) ?_)
      rintro _ rfl
      refine .rn [4,5,6,7] [] ?_
      refine .done ?_
      refine .condS rfl (fun c33 => ?_) (fun c33 => ?_)
      ·try simp at c33
      ·try simp at c33
       refine .skip ?_
       refine .rn ?_
       refine ⟨i + 1, ⟨zz3, ?_⟩, zz3,(.mk [] [] zz8 zz9 rfl rfl rfl)⟩
       rw [← hr, wE_nd h0 (by rw [List.eq_nil_of_length_eq_zero hz]; exact List.nodup_nil), if_pos rfl]
     ·skip
      refine .skip ?_
      refine .seq ?_
      refine .regionL [0,1,2,3,4,5,6,7] rfl zz0 ?_
      refine .rn [0] [1,2,3,4,5,6,7] ?_
      refine .step rfl rfl (.pure rfl rfl rfl Tryz.call74 (by decide) (p74 ws[i]) (by first | rfl | simp [*]) ?_)
      rintro _ rfl
      refine .step rfl rfl (.call rfl rfl rfl Tryz.call73 (by decide) (((VCall.fresh' (by simp) (p73 ws[i] hL hz) rfl hz)).mono ?_))
      rintro _ _ ⟨rfl, rfl⟩
      refine .step rfl rfl (.call rfl rfl rfl Tryz.call72 (by decide) (((give72 ws[i] hL hz 2 false rfl)).mono ?_))
      rintro _ _ ⟨rfl, xs, rfl, hx⟩
      refine .rn [4,5,6,7] [] ?_
      refine .done ?_
      refine .condS rfl (fun c33 => ?_) (fun c33 => ?_)
      ·try simp at c33
       refine .seq ?_
       refine .rn ?_
       refine .ret ?_
       refine ⟨_, _, zz2,zz2, ?_⟩
       rcases hx with ⟨hx, _⟩ | ⟨_, hx⟩
       ·exfalso; rw [List.length_mergeSort] at hx; omega
       ·rw [hM, ← hr, wE_nnd h0 (adj_twice hx), if_neg (by decide)]
      ·try simp at c33
       refine .skip ?_
       refine .rn ?_
       refine ⟨i + 1, ⟨zz3, ?_⟩, zz3,(.mk [] [] zz8 zz9 rfl rfl rfl)⟩
       rcases hx with ⟨_, hx⟩ | ⟨hx, _⟩
       ·rw [← hr, wE_nd h0 (adj_sorted hx), if_pos rfl]
       ·exfalso; rw [List.length_mergeSort] at hx; omega
   ·try simp at c19
    refine .exit ?_
    refine .seq ?_
    refine .rn ?_
    refine .ret ?_
    refine ⟨_, _, zz2,zz2, ?_⟩
    have hin : i = ws.length := by omega
    rw [hM, ← hr, hin, List.drop_length]; rfl
theorem p39 (ws : List (List Int)) (hl : ws.length < 4294967296) (hll : ∀ l ∈ ws, l.length < 4294967296) : VPure Tryz.prog 39 [encM ws] fun r => r = .int .i64 (mkE ws) := p39b ws (by omega) fun l h => by have := hll l h; omega
end Go.Am.Hi
end

section
namespace Go.Am.Hi
open Go Go.Am Go.Proofs
set_option maxRecDepth 100000
set_option linter.unusedSimpArgs false
set_option linter.unusedVariables false

theorem gx_mem {G : List Int} {x : Int} (h0 : 0 ≤ x) (h1 : x < (G.length : Int)) : nx G x ∈ G := by
 have h : x.toNat < G.length := by omega
 unfold nx
 rw [List.getD_eq_getElem?_getD, List.getElem?_eq_getElem h]
 exact List.getElem_mem h
theorem gx_inj {G : List Int} (hn : G.Nodup) {x y : Int} (h0 : 0 ≤ x) (h1 : x < (G.length : Int)) (h2 : 0 ≤ y) (h3 : y < (G.length : Int)) (he : nx G x = nx G y) : x = y := by
 have hx : x.toNat < G.length := by omega
 have hy : y.toNat < G.length := by omega
 unfold nx at he
 rw [List.getD_eq_getElem?_getD, List.getD_eq_getElem?_getD, List.getElem?_eq_getElem hx, List.getElem?_eq_getElem hy] at he
 have : x.toNat = y.toNat := (List.getElem_inj hn).1 he
 omega
def prk (ws : List (List Int)) (i p : Int) : Int := rkL (ws.getD i.toNat []) i p
def InN (n : Nat) (i : Int) : Prop := 0 ≤ i ∧ i < (n : Int)
theorem idx_at {l : List Int} {p : Int} : ∀ {i : Nat} {k : Int}, idxF (fun a => decide (p = a)) i l = k → 0 ≤ k → (i : Int) ≤ k ∧ k < i + l.length ∧ l[(k - i).toNat]? = some p := by
 induction l with
 | nil => intro i k h h0; rw [← h] at h0; exact absurd h0 (by show ¬(0 : Int) ≤ -1; decide)
 | cons a t ih =>
  intro i k h h0
  by_cases hp : p = a
  ·have : idxF (fun a => decide (p = a)) i (a :: t) = (i : Int) := if_pos (by simp [hp])
   rw [this] at h
   subst h
   refine ⟨by omega, by simp; omega, ?_⟩
   rw [show ((i : Int) - i).toNat = 0 by omega, hp]
   rfl
  ·have : idxF (fun a => decide (p = a)) i (a :: t) = idxF (fun a => decide (p = a)) (i + 1) t := if_neg (by simp [hp])
   rw [this] at h
   obtain ⟨h1, h2, h3⟩ := ih h h0
   refine ⟨by omega, by simp; omega, ?_⟩
   rw [show (k - (i : Int)).toNat = (k - ((i + 1 : Nat) : Int)).toNat + 1 by omega]
   exact h3
theorem idx_no {l : List Int} {p : Int} (h : p ∉ l) : idxF (fun a => decide (p = a)) 0 l < 0 := by
 by_cases h0 : 0 ≤ idxF (fun a => decide (p = a)) 0 l
 ·obtain ⟨_, _, h3⟩ := idx_at rfl h0
  exact absurd (List.mem_of_getElem? h3) h
 ·omega
theorem rk_own {l : List Int} {s : Int} (h : s ∉ l) : rkL l s s = l.length := rkL_own (idx_no h) rfl
theorem rk_inj {l : List Int} {s p q : Int} (h : rkL l s p ≤ l.length) (he : rkL l s p = rkL l s q) : p = q := by
 unfold rkL at h he
 by_cases hp : 0 ≤ idxF (fun a => decide (p = a)) 0 l
 ·obtain ⟨_, p2, p3⟩ := idx_at rfl hp
  rw [if_pos hp] at h he
  by_cases hq : 0 ≤ idxF (fun a => decide (q = a)) 0 l
  ·obtain ⟨_, q2, q3⟩ := idx_at rfl hq
   rw [if_pos hq] at he
   rw [he, q3] at p3
   injection p3 with p3
   exact p3.symm
  ·rw [if_neg hq] at he
   split at he <;> omega
 ·rw [if_neg hp] at h he
  by_cases hps : p = s
  ·rw [if_pos hps] at h he
   by_cases hq : 0 ≤ idxF (fun a => decide (q = a)) 0 l
   ·obtain ⟨_, q2, q3⟩ := idx_at rfl hq
    rw [if_pos hq] at he
    omega
   ·rw [if_neg hq] at he
    by_cases hqs : q = s
    ·rw [hps, hqs]
    ·rw [if_neg hqs] at he; omega
  ·rw [if_neg hps] at h; omega
structure Mkt (ws : List (List Int)) : Prop where
  pos : 0 < ws.length
  le : ws.length ≤ 16
  inn : ∀ i : Nat, (h : i < ws.length) → ∀ x ∈ ws[i], InN ws.length x ∧ x ≠ i
  nd : ∀ l ∈ ws, l.Nodup
theorem mkEL_ok (n : Nat) : ∀ (ws : List (List Int)) (i : Nat), mkEL n i ws = 0 → ∀ k (h : k < ws.length), wE n (i + k) ws[k] = 0
 | [], _, _, k, h => absurd h (Nat.not_lt_zero k)
 | l :: r, i, h0, k, h => by
  have h1 : wE n i l = 0 := by
   by_cases h2 : wE n i l = 0
   ·exact h2
   ·have : mkEL n i (l :: r) = wE n i l := if_neg h2
    rw [← this]; exact h0
  have h2 : mkEL n (i + 1) r = 0 := by
   have : mkEL n i (l :: r) = mkEL n (i + 1) r := if_pos h1
   rw [← this]; exact h0
  cases k with
  | zero => exact h1
  | succ k =>
   have := mkEL_ok n r (i + 1) h2 k (by simpa using h)
   rw [show i + (k + 1) = i + 1 + k by omega]
   exact this
theorem wE_zero {n i : Nat} {l : List Int} (h : wE n i l = 0) : (∀ x ∈ l, okW n i x = true) ∧ l.Nodup := by
 unfold wE at h
 split at h
 ·split at h
  ·rename_i h1 h2
   exact ⟨fun x hx => List.all_eq_true.1 h1 x hx, h2⟩
  ·cases h
 ·cases h
theorem mkt_of {ws : List (List Int)} (h : mkE ws = 0) : Mkt ws := by
 unfold mkE at h
 split at h
 ·cases h
 ·split at h
  ·cases h
  ·rename_i h1 h2
   have hk := mkEL_ok _ _ _ h
   refine ⟨by omega, by omega, fun i hi x hx => ?_, fun l hl => ?_⟩
   ·have := hk i hi
    rw [Nat.zero_add] at this
    have := (wE_zero this).1 x hx
    simp [okW] at this
    exact ⟨⟨by omega, by omega⟩, this.2⟩
   ·obtain ⟨i, hi, rfl⟩ := List.mem_iff_getElem.1 hl
    exact (wE_zero (hk i hi)).2
theorem prk_at {ws : List (List Int)} {i : Nat} (h : i < ws.length) (p : Int) : prk ws i p = rkL ws[i] i p := by
 unfold prk
 rw [Int.toNat_natCast, List.getD_eq_getElem?_getD, List.getElem?_eq_getElem h]
 rfl
theorem InN.nat {n : Nat} {i : Int} (h : InN n i) : ∃ k : Nat, k < n ∧ i = k := ⟨i.toNat, by have := h.1; have := h.2; omega, by have := h.1; omega⟩
theorem Mkt.own {ws : List (List Int)} (hm : Mkt ws) {i : Int} (h : InN ws.length i) : prk ws i i = (ws.getD i.toNat []).length := by
 obtain ⟨k, hk, rfl⟩ := h.nat
 rw [prk_at hk, Int.toNat_natCast, List.getD_eq_getElem?_getD, List.getElem?_eq_getElem hk]
 exact rk_own fun hx => (hm.inn k hk _ hx).2 rfl
theorem Mkt.inj {ws : List (List Int)} (hm : Mkt ws) {i p q : Int} (h : InN ws.length i) (hp : prk ws i p ≤ prk ws i i) (he : prk ws i p = prk ws i q) : p = q := by
 rw [hm.own h] at hp
 exact rk_inj hp he
theorem onto {n : Nat} {T : Int → Prop} {f : Int → Int} (hT : ∀ x, T x → InN n x) (hf : ∀ x, T x → T (f x)) (hi : ∀ x y, T x → T y → f x = f y → x = y) {y : Int} (hy : T y) : ∃ x, T x ∧ f x = y := by
 classical
 let L := ((List.range n).map fun k : Nat => (k : Int)).filter fun x => decide (T x)
 have hL : ∀ x, x ∈ L ↔ T x := fun x => by
  simp only [L, List.mem_filter, List.mem_map, List.mem_range, decide_eq_true_eq]
  refine ⟨fun h => h.2, fun h => ⟨?_, h⟩⟩
  obtain ⟨k, hk, rfl⟩ := (hT x h).nat
  exact ⟨k, hk, rfl⟩
 have hnd : L.Nodup := by
  refine List.Pairwise.filter _ ?_
  rw [List.pairwise_map]
  exact (List.nodup_range (n := n)).imp fun h h1 => h (by omega)
 have hfn : (L.map f).Nodup := by
  rw [List.Nodup, List.pairwise_map]
  exact hnd.imp_of_mem fun ha hb h h1 => h (hi _ _ ((hL _).1 ha) ((hL _).1 hb) h1)
 refine Classical.byContradiction fun hno => ?_
 have hny : y ∉ L.map f := fun h => by
  obtain ⟨x, hx, he⟩ := List.mem_map.1 h
  exact hno ⟨x, (hL x).1 hx, he⟩
 have hc : (y :: L.map f).Nodup := List.nodup_cons.2 ⟨hny, hfn⟩
 have := hc.length_le_of_subset (l₂ := L) fun z hz => by
  rcases List.mem_cons.1 hz with rfl | hz
  ·exact (hL _).2 hy
  ·obtain ⟨x, hx, rfl⟩ := List.mem_map.1 hz
   exact (hL _).2 (hf _ ((hL x).1 hx))
 rw [List.length_cons, List.length_map] at this
 omega
structure Acc (ws : List (List Int)) (G R : Int → Int) : Prop where
  gin : ∀ i, InN ws.length i → InN ws.length (G i)
  inj : ∀ i j, InN ws.length i → InN ws.length j → G i = G j → i = j
  rg : ∀ i, InN ws.length i → R (G i) = R i
  r1 : ∀ i, InN ws.length i → 1 ≤ R i
  ck : ∀ i k, InN ws.length i → InN ws.length k → R i ≤ R k → prk ws i (G i) ≤ prk ws i k
theorem Acc.own {ws : List (List Int)} {G R : Int → Int} (h : Acc ws G R) {i : Int} (hi : InN ws.length i) : prk ws i (G i) ≤ prk ws i i := h.ck i i hi hi (Int.le_refl _)
theorem Acc.block {ws : List (List Int)} {G R : Int → Int} (hm : Mkt ws) (h : Acc ws G R) {S : Int → Prop} {own : Int → Int} (hS : ∀ i, S i → InN ws.length i) (ho : ∀ i, S i → S (own i)) (hi : ∀ i j, S i → S j → own i = own j → i = j) (hle : ∀ i, S i → prk ws i (own i) ≤ prk ws i (G i)) : ∀ i, S i → own i = G i := by
 have main : ∀ (m : Nat) (i : Int), S i → (R i).toNat = m → own i = G i := by
  intro m
  induction m using Nat.strongRecOn with
  | _ m ih =>
   intro i hiS hm'
   have hlow : ∀ j, S j → R j < R i → own j = G j := fun j hj hlt => by
    have := h.r1 j (hS j hj)
    exact ih (R j).toNat (by omega) j hj rfl
   have hr : R i ≤ R (own i) := by
    refine Classical.byContradiction fun hno => ?_
    obtain ⟨x, ⟨hx1, hx2⟩, hx3⟩ := onto (n := ws.length) (T := fun j => S j ∧ R j < R i) (f := own) (fun x hx => hS x hx.1) (fun x hx => ⟨ho x hx.1, by rw [hlow x hx.1 hx.2, h.rg x (hS x hx.1)]; exact hx.2⟩) (fun x y hx hy => hi x y hx.1 hy.1) (y := own i) ⟨ho i hiS, by omega⟩
    have := hi x i hx1 hiS hx3
    rw [this] at hx2
    omega
   have h1 := h.ck i (own i) (hS i hiS) (hS _ (ho i hiS)) hr
   have h2 := hle i hiS
   have h3 := h.own (hS i hiS)
   exact hm.inj (hS i hiS) (by omega) (by omega)
 exact fun i hiS => main _ i hiS rfl
theorem Acc.obj {ws : List (List Int)} {G R : Int → Int} (h : Acc ws G R) {H : Int → Int} {r : Int} (hin : ∀ i, InN ws.length i → InN ws.length (H i)) (hij : ∀ i j, InN ws.length i → InN ws.length j → H i = H j → i = j) (hlow : ∀ j, InN ws.length j → R j < r → H j = G j) : ∀ j, InN ws.length j → R j = r → prk ws j (G j) ≤ prk ws j (H j) := by
 intro j hj hr
 refine h.ck j (H j) hj (hin j hj) ?_
 refine Classical.byContradiction fun hno => ?_
 obtain ⟨x, ⟨hx1, hx2⟩, hx3⟩ := onto (n := ws.length) (T := fun k => InN ws.length k ∧ R k < r) (f := G) (fun x hx => hx.1) (fun x hx => ⟨h.gin x hx.1, by rw [h.rg x hx.1]; exact hx.2⟩) (fun x y hx hy => h.inj x y hx.1 hy.1) (y := H j) ⟨hin j hj, by omega⟩
 have h1 := hlow x hx1 hx2
 have := hij x j hx1 hj (by rw [h1, hx3])
 rw [this] at hx2
 omega
theorem Acc.told {ws vs : List (List Int)} {G R G' R' : Int → Int} (hv : Mkt vs) (hn : vs.length = ws.length) (h : Acc ws G R) (h' : Acc vs G' R') {r : Int} (hsame : ∀ i p, InN ws.length i → R i < r → prk vs i p = prk ws i p) : ∀ i, InN ws.length i → R i < r → G i = G' i := by
 have h1 : ∀ i, InN ws.length i → InN ws.length (G' i) := fun i hi => by rw [← hn] at hi ⊢; exact h'.gin i hi
 have h2 : ∀ i j, InN ws.length i → InN ws.length j → G' i = G' j → i = j := fun i j hi hj => by rw [← hn] at hi hj; exact h'.inj i j hi hj
 have main : ∀ (m : Nat) (i : Int), InN ws.length i → R i < r → (R i).toNat = m → G i = G' i := by
  intro m
  induction m using Nat.strongRecOn with
  | _ m ih =>
   intro i hi hlt hm
   have hlow : ∀ j, InN ws.length j → R j < R i → G' j = G j := fun j hj hlt' => by
    have := h.r1 j hj
    exact (ih (R j).toNat (by omega) j hj (by omega) rfl).symm
   have hob := h.obj h1 h2 hlow
   exact h'.block hv (S := fun j => InN ws.length j ∧ R j = R i) (own := G) (fun j hj => by rw [hn]; exact hj.1) (fun j hj => ⟨h.gin j hj.1, by rw [h.rg j hj.1]; exact hj.2⟩) (fun x y hx hy => h.inj x y hx.1 hy.1) (fun j hj => by
    rw [hsame j _ hj.1 (by omega), hsame j _ hj.1 (by omega)]
    exact hob j hj.1 hj.2) i ⟨hi, rfl⟩
 exact fun i hi hlt => main _ i hi hlt rfl
theorem Acc.same {ws : List (List Int)} {G R G' R' : Int → Int} (hm : Mkt ws) (h : Acc ws G R) (h' : Acc ws G' R') : ∀ i, InN ws.length i → G i = G' i := fun i hi => h.told hm rfl h' (r := R i + 1) (fun _ _ _ _ => rfl) i hi (by omega)
theorem Acc.honest {ws vs : List (List Int)} {G R G' R' : Int → Int} (hv : Mkt vs) (hn : vs.length = ws.length) (h : Acc ws G R) (h' : Acc vs G' R') {s : Int} (hs : InN ws.length s) (hsame : ∀ i p, InN ws.length i → i ≠ s → prk vs i p = prk ws i p) : prk ws s (G s) ≤ prk ws s (G' s) := by
 have h1 : ∀ i, InN ws.length i → InN ws.length (G' i) := fun i hi => by rw [← hn] at hi ⊢; exact h'.gin i hi
 have h2 : ∀ i j, InN ws.length i → InN ws.length j → G' i = G' j → i = j := fun i j hi hj => by rw [← hn] at hi hj; exact h'.inj i j hi hj
 have hl := h.told hv hn h' (r := R s) fun i p hi hlt => hsame i p hi fun he => by rw [he] at hlt; omega
 exact h.obj h1 h2 (fun j hj hlt => (hl j hj hlt).symm) s hs rfl

structure Rnd (ws : List (List Int)) (L : Int → Prop) (G R : Int → Int) (r : Int) : Prop where
  gin : ∀ i, InN ws.length i → ¬L i → InN ws.length (G i) ∧ ¬L (G i)
  inj : ∀ i j, InN ws.length i → InN ws.length j → ¬L i → ¬L j → G i = G j → i = j
  rg : ∀ i, InN ws.length i → ¬L i → R (G i) = R i
  r1 : ∀ i, InN ws.length i → ¬L i → 1 ≤ R i ∧ R i < r
  ck : ∀ i k, InN ws.length i → InN ws.length k → ¬L i → L k ∨ R i ≤ R k → prk ws i (G i) ≤ prk ws i k
theorem Rnd.start (ws : List (List Int)) (L : Int → Prop) (hL : ∀ i, InN ws.length i → L i) (G R : Int → Int) : Rnd ws L G R 1 :=
 ⟨fun i hi h => absurd (hL i hi) h, fun i _ hi _ h => absurd (hL i hi) h, fun i hi h => absurd (hL i hi) h, fun i hi h => absurd (hL i hi) h, fun i _ hi _ h => absurd (hL i hi) h⟩
theorem Rnd.step {ws : List (List Int)} {L : Int → Prop} {G R : Int → Int} {r : Int} (h : Rnd ws L G R r) (h1 : 1 ≤ r) {C : Int → Prop} {b : Int → Int} (hC : ∀ i, C i → InN ws.length i ∧ L i) (hb : ∀ i, C i → C (b i)) (hbi : ∀ i j, C i → C j → b i = b j → i = j) (hbest : ∀ i k, C i → InN ws.length k → L k → prk ws i (b i) ≤ prk ws i k) {G' R' : Int → Int} {L' : Int → Prop} (hG1 : ∀ i, C i → G' i = b i) (hG2 : ∀ i, InN ws.length i → ¬C i → G' i = G i) (hR1 : ∀ i, C i → R' i = r) (hR2 : ∀ i, InN ws.length i → ¬C i → R' i = R i) (hL' : ∀ i, L' i ↔ L i ∧ ¬C i) : Rnd ws L' G' R' (r + 1) := by
 have nl : ∀ i, ¬L' i → C i ∨ (¬C i ∧ ¬L i) := fun i hi => by
  by_cases hc : C i
  ·exact .inl hc
  ·exact .inr ⟨hc, fun hl => hi ((hL' i).2 ⟨hl, hc⟩)⟩
 have gnc : ∀ i, InN ws.length i → ¬L i → ¬C (G i) := fun i hi hl hc => (h.gin i hi hl).2 (hC _ hc).2
 refine ⟨fun i hi hl => ?_, fun i j hi hj hli hlj he => ?_, fun i hi hl => ?_, fun i hi hl => ?_, fun i k hi hk hl hr => ?_⟩
 ·rcases nl i hl with hc | ⟨hc, hl⟩
  ·rw [hG1 i hc]
   exact ⟨(hC _ (hb i hc)).1, fun h2 => ((hL' _).1 h2).2 (hb i hc)⟩
  ·rw [hG2 i hi hc]
   exact ⟨(h.gin i hi hl).1, fun h2 => (h.gin i hi hl).2 ((hL' _).1 h2).1⟩
 ·rcases nl i hli with hc | ⟨hc, hl⟩ <;> rcases nl j hlj with hd | ⟨hd, hm⟩
  ·rw [hG1 i hc, hG1 j hd] at he; exact hbi i j hc hd he
  ·rw [hG1 i hc, hG2 j hj hd] at he; exact absurd (by rw [← he]; exact hb i hc) (gnc j hj hm)
  ·rw [hG2 i hi hc, hG1 j hd] at he; exact absurd (by rw [he]; exact hb j hd) (gnc i hi hl)
  ·rw [hG2 i hi hc, hG2 j hj hd] at he; exact h.inj i j hi hj hl hm he
 ·rcases nl i hl with hc | ⟨hc, hl⟩
  ·rw [hG1 i hc, hR1 _ (hb i hc), hR1 i hc]
  ·rw [hG2 i hi hc, hR2 _ (h.gin i hi hl).1 (gnc i hi hl), hR2 i hi hc]; exact h.rg i hi hl
 ·rcases nl i hl with hc | ⟨hc, hl⟩
  ·rw [hR1 i hc]; omega
  ·rw [hR2 i hi hc]; have := h.r1 i hi hl; omega
 ·rcases nl i hl with hc | ⟨hc, hl⟩
  ·rw [hG1 i hc]
   refine hbest i k hc hk ?_
   rcases hr with hr | hr
   ·exact ((hL' k).1 hr).1
   ·refine Classical.byContradiction fun hno => ?_
    have hkc : ¬C k := fun hck => hno (hC k hck).2
    rw [hR1 i hc, hR2 k hk hkc] at hr
    have := h.r1 k hk hno
    omega
  ·rw [hG2 i hi hc]
   refine h.ck i k hi hk hl ?_
   rcases hr with hr | hr
   ·exact .inl ((hL' k).1 hr).1
   ·by_cases hkc : C k
    ·exact .inl (hC k hkc).2
    ·rw [hR2 i hi hc, hR2 k hk hkc] at hr
     exact .inr hr
theorem Rnd.acc {ws : List (List Int)} {L : Int → Prop} {G R : Int → Int} {r : Int} (h : Rnd ws L G R r) (hL : ∀ i, InN ws.length i → ¬L i) : Acc ws G R :=
 ⟨fun i hi => (h.gin i hi (hL i hi)).1, fun i j hi hj => h.inj i j hi hj (hL i hi) (hL j hj), fun i hi => h.rg i hi (hL i hi), fun i hi => (h.r1 i hi (hL i hi)).1, fun i k hi hk hr => h.ck i k hi hk (hL i hi) (.inr hr)⟩
def itr (b : Int → Int) : Nat → Int → Int
 | 0, x => x
 | k + 1, x => itr b k (b x)
theorem itr_succ (b : Int → Int) : ∀ (k : Nat) (x : Int), itr b (k + 1) x = b (itr b k x)
 | 0, _ => rfl
 | k + 1, x => itr_succ b k (b x)
theorem itr_add (b : Int → Int) : ∀ (k m : Nat) (x : Int), itr b (k + m) x = itr b m (itr b k x)
 | 0, m, x => by rw [Nat.zero_add]; rfl
 | k + 1, m, x => by
  rw [show k + 1 + m = (k + m) + 1 by omega]
  exact itr_add b k m (b x)
theorem itr_mul {b : Int → Int} {k : Nat} {x : Int} (h : itr b k x = x) : ∀ m : Nat, itr b (k * m) x = x
 | 0 => rfl
 | m + 1 => by rw [Nat.mul_succ, itr_add, itr_mul h m, h]
def Back (b : Int → Int) (m : Nat) (s : Int) : Prop := ∃ k, 1 ≤ k ∧ k ≤ m ∧ itr b k s = s
theorem Back.step {b : Int → Int} {m : Nat} {s : Int} (h : Back b m s) : Back b m (b s) := by
 obtain ⟨k, h1, h2, h3⟩ := h
 refine ⟨k, h1, h2, ?_⟩
 have : itr b k (b s) = itr b (k + 1) s := rfl
 rw [this, itr_succ, h3]
theorem Back.inj {b : Int → Int} {m : Nat} {s t : Int} (h : Back b m s) (h' : Back b m t) (he : b s = b t) : s = t := by
 obtain ⟨k, h1, _, h3⟩ := h
 obtain ⟨j, h4, _, h6⟩ := h'
 have e1 := itr_mul h3 j
 have e2 := itr_mul h6 k
 obtain ⟨q, hq⟩ : ∃ q, k * j = q + 1 := ⟨k * j - 1, by have : 0 < k * j := Nat.mul_pos h1 h4; omega⟩
 rw [hq] at e1
 rw [Nat.mul_comm, hq] at e2
 have : itr b (q + 1) s = itr b (q + 1) t := by show itr b q (b s) = itr b q (b t); rw [he]
 rw [← e1, this, e2]
theorem back_some {b : Int → Int} {l : List Int} (hb : ∀ x ∈ l, b x ∈ l) {a : Int} (ha : a ∈ l) : ∃ s ∈ l, Back b l.length s := by
 have hin : ∀ k, itr b k a ∈ l := fun k => by
  induction k with
  | zero => exact ha
  | succ k ih => rw [itr_succ]; exact hb _ ih
 refine Classical.byContradiction fun hno => ?_
 have hnd : ((List.range (l.length + 1)).map fun k => itr b k a).Nodup := by
  rw [List.Nodup, List.pairwise_map]
  refine List.pairwise_lt_range.imp_of_mem fun {i j} hi hj hlt he => hno ⟨itr b i a, hin i, j - i, by omega, ?_, ?_⟩
  ·have := List.mem_range.1 hj; omega
  ·rw [← itr_add, show i + (j - i) = j by omega]; exact he.symm
 have := hnd.length_le_of_subset (l₂ := l) fun x hx => by
  obtain ⟨k, _, rfl⟩ := List.mem_map.1 hx
  exact hin k
 simp at this
 omega
end Go.Am.Hi
end

section
namespace Go.Am.Hi
open Go Go.Am Go.Proofs
set_option maxRecDepth 100000
set_option linter.unusedSimpArgs false
set_option linter.unusedVariables false

theorem bstR_gen (l : List Int) (s : Int) : ∀ (left : List Int) (o : Int), rkL l s (left.foldl (fun o x => if rkL l s x < rkL l s o then x else o) o) ≤ rkL l s o ∧ (∀ x ∈ left, rkL l s (left.foldl (fun o x => if rkL l s x < rkL l s o then x else o) o) ≤ rkL l s x) ∧ (left.foldl (fun o x => if rkL l s x < rkL l s o then x else o) o ∈ left ∨ left.foldl (fun o x => if rkL l s x < rkL l s o then x else o) o = o)
 | [], o => ⟨Int.le_refl _, fun x hx => absurd hx List.not_mem_nil, .inr rfl⟩
 | a :: t, o => by
  rw [List.foldl_cons]
  obtain ⟨h1, h2, h3⟩ := bstR_gen l s t (if rkL l s a < rkL l s o then a else o)
  by_cases hc : rkL l s a < rkL l s o
  ·rw [if_pos hc] at h1 h2 h3 ⊢
   refine ⟨by omega, fun x hx => ?_, .inl ?_⟩
   ·rcases List.mem_cons.1 hx with rfl | hx
    ·exact h1
    ·exact h2 x hx
   ·rcases h3 with h3 | h3
    ·exact List.mem_cons_of_mem _ h3
    ·rw [h3]; exact List.mem_cons_self
  ·rw [if_neg hc] at h1 h2 h3 ⊢
   refine ⟨h1, fun x hx => ?_, ?_⟩
   ·rcases List.mem_cons.1 hx with rfl | hx
    ·omega
    ·exact h2 x hx
   ·rcases h3 with h3 | h3
    ·exact .inl (List.mem_cons_of_mem _ h3)
    ·exact .inr h3
theorem bstR_le {l : List Int} {s : Int} {left : List Int} {x : Int} (h : x ∈ left) : rkL l s (bstR l s left) ≤ rkL l s x := (bstR_gen l s left s).2.1 x h
theorem bstR_in {l : List Int} {s : Int} {left : List Int} (h : s ∈ left) : bstR l s left ∈ left := by
 rcases (bstR_gen l s left s).2.2 with h1 | h1
 ·exact h1
 ·unfold bstR; rw [h1]; exact h
def bstP (p : Int → Bool) (l : List Int) (s : Int) : Int := (l.find? p).getD s
theorem bstP_in {p : Int → Bool} {l : List Int} {s : Int} (h : p s = true) : p (bstP p l s) = true := by
 unfold bstP
 cases hf : l.find? p with
 | none => exact h
 | some x => exact List.find?_some hf
theorem bstP_mem {p : Int → Bool} {l : List Int} {s : Int} {Q : Int → Prop} (h : ∀ x ∈ l, Q x) (hs : Q s) : Q (bstP p l s) := by
 unfold bstP
 cases hf : l.find? p with
 | none => exact hs
 | some x => exact h x (List.mem_of_find?_eq_some hf)
theorem idx_first {p : Int → Bool} {x k : Int} (hk : p k = true) : ∀ {l : List Int} (i : Nat), l.find? p = some x → (i : Int) ≤ idxF (fun a => decide (x = a)) i l ∧ (idxF (fun a => decide (k = a)) i l < 0 ∨ idxF (fun a => decide (x = a)) i l ≤ idxF (fun a => decide (k = a)) i l) := by
 intro l
 induction l with
 | nil => intro i h; cases h
 | cons a t ih =>
  intro i h
  have hx : p x = true := List.find?_some h
  by_cases ha : p a = true
  ·rw [List.find?_cons_of_pos ha] at h
   injection h with h
   subst h
   have e1 : idxF (fun b => decide (a = b)) i (a :: t) = i := if_pos (by simp)
   rw [e1]
   refine ⟨Int.le_refl _, ?_⟩
   rcases idxF_ge (fun b => decide (k = b)) (a :: t) i with ⟨h1, _⟩ | ⟨h1, _⟩
   ·exact .inl (by omega)
   ·exact .inr h1
  ·rw [List.find?_cons_of_neg ha] at h
   have hxa : x ≠ a := fun he => ha (by rw [← he]; exact hx)
   have hka : k ≠ a := fun he => ha (by rw [← he]; exact hk)
   have e1 : idxF (fun b => decide (x = b)) i (a :: t) = idxF (fun b => decide (x = b)) (i + 1) t := if_neg (by simp [hxa])
   have e2 : idxF (fun b => decide (k = b)) i (a :: t) = idxF (fun b => decide (k = b)) (i + 1) t := if_neg (by simp [hka])
   rw [e1, e2]
   obtain ⟨h1, h2⟩ := ih (i + 1) h
   exact ⟨by omega, h2⟩
theorem rk_ge {l : List Int} {s p : Int} (h : idxF (fun a => decide (p = a)) 0 l < 0) : (l.length : Int) ≤ rkL l s p := by
 unfold rkL
 rw [if_neg (by omega)]
 split <;> omega
theorem bstP_le {p : Int → Bool} {l : List Int} {s k : Int} (hs : s ∉ l) (hk : p k = true) : rkL l s (bstP p l s) ≤ rkL l s k := by
 unfold bstP
 cases hf : l.find? p with
 | none =>
  have hkl : k ∉ l := fun h => List.find?_eq_none.1 hf k h hk
  show rkL l s s ≤ _
  rw [rk_own hs]
  exact rk_ge (idx_no hkl)
 | some x =>
  show rkL l s x ≤ _
  obtain ⟨h1, h2⟩ := idx_first hk 0 hf
  have h1 : 0 ≤ idxF (fun a => decide (x = a)) 0 l := by omega
  have e1 : rkL l s x = idxF (fun a => decide (x = a)) 0 l := by unfold rkL; rw [if_pos h1]
  rcases h2 with h2 | h2
  ·have := rk_ge (s := s) h2
   have := (idx_at (p := x) rfl h1).2.1
   omega
  ·have e2 : rkL l s k = idxF (fun a => decide (k = a)) 0 l := by unfold rkL; rw [if_pos (by omega)]
   omega
theorem prk_le {ws : List (List Int)} {i : Nat} (h : i < ws.length) {p q : Int} (h1 : rkL ws[i] i p ≤ rkL ws[i] i q) : prk ws i p ≤ prk ws i q := by
 rw [prk_at h, prk_at h]; exact h1
structure AccL (ws : List (List Int)) (G R : List Int) : Prop where
  gl : G.length = ws.length
  rl : R.length = ws.length
  acc : Acc ws (nx G) (nx R)
  r2 : ∀ i, InN ws.length i → nx R i ≤ ws.length
theorem ext_nx {G H : List Int} (hl : G.length = H.length) (h : ∀ i, InN H.length i → nx G i = nx H i) : G = H := by
 refine List.ext_getElem hl fun i h1 h2 => ?_
 have := h i ⟨by omega, by omega⟩
 unfold nx at this
 rw [Int.toNat_natCast, List.getD_eq_getElem?_getD, List.getD_eq_getElem?_getD, List.getElem?_eq_getElem h1, List.getElem?_eq_getElem h2] at this
 exact this
theorem AccL.same {ws : List (List Int)} {G R H Q : List Int} (hm : Mkt ws) (h : AccL ws G R) (h' : AccL ws H Q) : G = H :=
 ext_nx (by rw [h.gl, h'.gl]) fun i hi => h.acc.same hm h'.acc i (by rw [← h'.gl]; exact hi)
def AccG (ws : List (List Int)) (G : List Int) : Prop := G.length = ws.length ∧ ∃ R, Acc ws (nx G) R
theorem AccL.g {ws : List (List Int)} {G R : List Int} (h : AccL ws G R) : AccG ws G := ⟨h.gl, _, h.acc⟩
theorem AccG.same {ws : List (List Int)} {G H : List Int} (hm : Mkt ws) (h : AccG ws G) (h' : AccG ws H) : G = H := by
 obtain ⟨h1, R, h2⟩ := h
 obtain ⟨h3, Q, h4⟩ := h'
 exact ext_nx (by rw [h1, h3]) fun i hi => h2.same hm h4 i (by rw [← h3]; exact hi)
open Classical in
noncomputable def madeL (ws : List (List Int)) : List Int := if h : ∃ G, AccG ws G then Classical.choose h else []
theorem madeL_of {ws : List (List Int)} (hm : Mkt ws) {G : List Int} (h : AccG ws G) : madeL ws = G := by
 unfold madeL
 have hx : ∃ G, AccG ws G := ⟨G, h⟩
 rw [dif_pos hx]
 exact (Classical.choose_spec hx).same hm h
theorem AccL.prm {ws : List (List Int)} {G R : List Int} (h : AccL ws G R) : prm G = true := by
 refine decide_eq_true ⟨?_, fun x hx => ?_⟩
 ·refine List.pairwise_iff_getElem.2 fun i j hi hj hlt he => ?_
  have hl := h.gl
  have ei : nx G i = G[i] := by unfold nx; rw [Int.toNat_natCast, List.getD_eq_getElem?_getD, List.getElem?_eq_getElem hi]; rfl
  have ej : nx G j = G[j] := by unfold nx; rw [Int.toNat_natCast, List.getD_eq_getElem?_getD, List.getElem?_eq_getElem hj]; rfl
  have := h.acc.inj i j ⟨by omega, by omega⟩ ⟨by omega, by omega⟩ (by rw [ei, ej, he])
  omega
 ·obtain ⟨i, hi, rfl⟩ := List.mem_iff_getElem.1 hx
  have hl := h.gl
  have ei : nx G i = G[i] := by unfold nx; rw [Int.toNat_natCast, List.getD_eq_getElem?_getD, List.getElem?_eq_getElem hi]; rfl
  have := h.acc.gin i ⟨by omega, by omega⟩
  rw [ei] at this
  have h1 := this.1
  have h2 := this.2
  omega
theorem AccL.gts {ws : List (List Int)} {G R : List Int} (h : AccL ws G R) : gts ws G = true := by
 unfold Hi.gts; rw [decide_eq_true h.gl, h.prm]; rfl
end Go.Am.Hi
end
