/-
 What is used in the proof of a statement (part HjB); no condition.
-/
import Derived.Test.YtmgglkdilpglgaaGreatHiZ
import Derived.Test.YtmgglkdilpglgaaGreatVm2
import Derived.Test.YtmgglkdilpglgaaGreatHiT
import Derived.Test.YtmgglkdilpglgaaGreatHjA
set_option linter.all false
section
namespace Go.Am.Hi
open Go Go.Am Go.Proofs
set_option maxRecDepth 100000
set_option maxHeartbeats 4000000
set_option linter.unusedSimpArgs false
set_option linter.unusedVariables false
attribute [local simp] vrun vwanted vyielded vop vopA vputAll VHeap.back hidI hidF backL bm Nat.testBit_eq_decide_div_mod_eq veval vevals vparts vO vbuiltin vlen vappend velems vcopy vmakeSlice vbuildSlice valloc vbox vmakeMap vload vpartT vpart vstore vfieldAddr vfield vindexAddr vindex vextract vslice vsliceZ vbounds vbnd zeroO vidx vlookup vmget vmapUpdate vdelete vclear vnilq vnilp vnils vbin vsc vsc1 vscs vscl abinOp aint ashift aunOp aconvert amaxs amax2 pvcV pvc pvcs tput tget vargs VHeap.get VHeap.alloc VHeap.put VHeap.drop VHeap.empty vlook vput vdrop psplice pfill preps chunk List.range List.range.loop vresults vresult vresultV frz frzL PV.isF PV.allF PV.scal PV.allS retP subT allFT PV.one PV.ids PV.idsL dropL beq_eq ble_dec blt_dec
def rowD (ws : List (List Int)) (G R : List Int) (i : Nat) : Bool :=
 (decide (1 ≤ nx R i ∧ nx R i ≤ (ws.length : Int)) && decide (nx R (nx G i) = nx R i)) && (List.range ws.length).all fun k => !(decide (nx R i ≤ nx R k) && decide (prk ws i k < prk ws i (nx G i)))
def dlB (ws : List (List Int)) (G R : List Int) : Bool := (gts ws G && decide (R.length = ws.length)) && (List.range ws.length).all (rowD ws G R)
def dlE (ws : List (List Int)) (G R : List Int) : Int := if mkE ws = 0 then (if dlB ws G R then 0 else 8) else mkE ws
theorem nx_at {l : List Int} {i : Nat} (h : i < l.length) : nx l i = l[i] := by
 unfold nx; rw [Int.toNat_natCast, List.getD_eq_getElem?_getD, List.getElem?_eq_getElem h]; rfl
theorem all_lt {n k : Nat} {p : Nat → Bool} (h : (List.range n).all p = true) (hk : k < n) : p k = true := List.all_eq_true.1 h k (List.mem_range.2 hk)
theorem gts_spec {ws : List (List Int)} {G : List Int} (h : gts ws G = true) : G.length = ws.length ∧ G.Nodup ∧ ∀ n ∈ G, 0 ≤ n ∧ n ≤ (G.length : Int) - 1 := by
 unfold gts at h
 rw [Bool.and_eq_true, decide_eq_true_eq] at h
 have := of_decide_eq_true h.2
 exact ⟨h.1, this.1, this.2⟩
theorem gts_in {ws : List (List Int)} {G : List Int} (h : gts ws G = true) {i : Int} (hi : InN ws.length i) : InN ws.length (nx G i) := by
 obtain ⟨h1, h2, h3⟩ := gts_spec h
 have := h3 _ (gx_mem (G := G) hi.1 (by rw [h1]; exact hi.2))
 exact ⟨this.1, by have := this.2; omega⟩
theorem gts_inj {ws : List (List Int)} {G : List Int} (h : gts ws G = true) {i j : Int} (hi : InN ws.length i) (hj : InN ws.length j) (he : nx G i = nx G j) : i = j := by
 obtain ⟨h1, h2, h3⟩ := gts_spec h
 exact gx_inj h2 hi.1 (by rw [h1]; exact hi.2) hj.1 (by rw [h1]; exact hj.2) he
end Go.Am.Hi
end

section
namespace Go.Am.Hi
open Go Go.Am Go.Proofs
set_option maxRecDepth 100000
set_option maxHeartbeats 4000000
set_option linter.unusedSimpArgs false
set_option linter.unusedVariables false
attribute [local simp] vrun vwanted vyielded vop vopA vputAll VHeap.back hidI hidF backL bm Nat.testBit_eq_decide_div_mod_eq veval vevals vparts vO vbuiltin vlen vappend velems vcopy vmakeSlice vbuildSlice valloc vbox vmakeMap vload vpartT vpart vstore vfieldAddr vfield vindexAddr vindex vextract vslice vsliceZ vbounds vbnd zeroO vidx vlookup vmget vmapUpdate vdelete vclear vnilq vnilp vnils vbin vsc vsc1 vscs vscl abinOp aint ashift aunOp aconvert amaxs amax2 pvcV pvc pvcs tput tget vargs VHeap.get VHeap.alloc VHeap.put VHeap.drop VHeap.empty vlook vput vdrop psplice pfill preps chunk List.range List.range.loop vresults vresult vresultV frz frzL PV.isF PV.allF PV.scal PV.allS retP subT allFT PV.one PV.ids PV.idsL dropL beq_eq ble_dec blt_dec
theorem p170 (l : List (List Int)) (p : List Int → Bool) (f : FuncId) (xs ys : List PV) (hl : l.length < 4294967296) (hx : PV.allF xs = true) (hy : PV.allF ys = true) (hcf : ∀ cs w, (callFunc f cs).run Tryz.prog w = .ok (.enter f cs) w) (hp : ∀ a ∈ l, VPure Tryz.prog f (xs ++ [ints a] ++ ys) fun r => r = .bool (p a)) : VPure Tryz.prog 170 [.vec (l.map ints), .func f xs ys] fun r => r = .int .i64 (idxF p 0 l) := by
 refine .of_body Tryz.func170 rfl rfl ?_
 refine .seq ?_
 refine .rn ?_
 refine .seq ?_
 refine .seq ?_
 refine .rn ?_
 refine .block ?_
 refine .loopS (fun s : Nat => ([(0, .vec (l.map ints)),(1, .func f xs ys),(7, .int .i64 l.length),(8, .int .i64 s)], VHeap.empty)) (fun s => s ≤ l.length ∧ idxF p s (l.drop s) = idxF p 0 l) (fun s => l.length - s) 0 ⟨by simp, by simp⟩ (.pure (by simp [*]) (by simp)) ?_
 rintro i ⟨hi, hr⟩
 simp only at hi hr ⊢
 refine .seq ?_
 refine .rn ?_
 refine .seq ?_
 refine .condS rfl (fun c9 => ?_) (fun c9 => ?_)
 ·try simp at c9
  have hw2 : IntKind.i64.wrap ((i : Int) + 1) = (i : Int) + 1 := wrap64 (by omega) (by omega)
  rw [idxF_drop p l i c9] at hr
  have hp := hp l[i] (List.getElem_mem c9)
  refine .skip ?_
  refine .seq ?_
  refine .block ?_
  refine .seq ?_
  refine .rn ?_
  refine .seq ?_
  refine .regionL [0,1,2,3,4,5] rfl zz0 ?_
  refine .rn [0,1,2,3,4] [5] ?_
  refine .step rfl rfl (.pure rfl rfl rfl hcf (by decide) (hp) (by first | rfl | simp [*]) ?_)
  rintro _ rfl
  refine .done ?_
  refine .condS rfl (fun c16 => ?_) (fun c16 => ?_)
  ·try simp at c16
   refine .seq ?_
   refine .rn ?_
   refine .ret ?_
   refine ⟨_, _, zz2,zz2, ?_⟩
   rw [← hr, if_pos c16]
  ·try simp at c16
   refine .skip ?_
   refine .rn ?_
   refine ⟨i + 1, ⟨zz3, ?_⟩, zz3, .pure (by simp [*]) (by simp)⟩
   rw [← hr, if_neg (by simp [c16])]
 ·try simp at c9
  have : i = l.length := by omega
  refine .exit ?_
  refine .seq ?_
  refine .rn ?_
  refine .ret ?_
  refine ⟨_, _, zz2,zz2, ?_⟩
  rw [← hr, this, List.drop_length]; rfl
theorem p146 (l : List (List Int)) (p : List Int → Bool) (f : FuncId) (xs ys : List PV) (hl : l.length < 4294967296) (hx : PV.allF xs = true) (hy : PV.allF ys = true) (hcf : ∀ cs w, (callFunc f cs).run Tryz.prog w = .ok (.enter f cs) w) (hp : ∀ a ∈ l, VPure Tryz.prog f (xs ++ [ints a] ++ ys) fun r => r = .bool (p a)) : VPure Tryz.prog 146 [.vec (l.map ints), .func f xs ys] fun r => r = .bool (l.any p) := by
 refine .of_body Tryz.func146 rfl rfl ?_
 refine .seq ?_
 refine .rn ?_
 refine .seq ?_
 refine .regionL [0,1,2,3,4] rfl zz0 ?_
 refine .rn [0,1] [2,3,4] ?_
 refine .step rfl rfl (.pure rfl rfl rfl Tryz.call170 (by decide) (p170 l p f xs ys hl hx hy hcf hp) (by first | rfl | simp [*]) ?_)
 rintro _ rfl
 refine .rn [3,4] [] ?_
 refine .done ?_
 refine .ret ?_
 refine ⟨_, _, zz2,zz2, ?_⟩
 rw [← idxF_any _ l 0]
theorem p147 (ws : List (List Int)) (l : List Int) (hl : l.length < 4294967296) : VPure Tryz.prog 147 [ints l, .vp [.vec (ws.map ints)]] fun r => r = .bool (!gts ws l) := by
 refine .of_body Tryz.func147 rfl rfl ?_
 refine .seq ?_
 refine .rn ?_
 refine .seq ?_
 refine .regionL [0,1,2,3,4] rfl zz0 ?_
 refine .rn [0,1] [2,3,4] ?_
 refine .step rfl rfl (.pure rfl rfl rfl Tryz.call148 (by decide) (p148 ws l hl) (by first | rfl | simp [*]) ?_)
 rintro _ rfl
 refine .rn [3,4] [] ?_
 refine .done ?_
 refine .ret ?_
 refine ⟨_, _, zz2,zz2, ?_⟩
 first | rfl | (simp [*]; done) | (simp_all; done)
def gotE (ws : List (List Int)) (ls : List (List Int)) : Int := if mkE ws = 0 then (if (ls.any fun l => !gts ws l) then 1 else 0) else mkE ws
theorem p97 (ws : List (List Int)) (ls : List (List Int)) (hl : ws.length < 4294967296) (hll : ∀ l ∈ ws, l.length < 4294967296) (h1 : ls.length < 4294967296) (h2 : ∀ l ∈ ls, l.length < 4294967296) : VPure Tryz.prog 97 [encM ws, .vec (ls.map ints)] fun r => r = .int .i64 (gotE ws ls) := by
 refine .of_body Tryz.func97 rfl rfl ?_
 refine .seq ?_
 refine .rn ?_
 refine .seq ?_
 refine .seq ?_
 refine .regionL [0,1,2] rfl zz0 ?_
 refine .rn [0] [1,2] ?_
 refine .step rfl rfl (.pure rfl rfl rfl Tryz.call39 (by decide) (p39 ws hl hll) (by first | rfl | simp [*]) ?_)
 rintro _ rfl
 refine .rn [2] [] ?_
 refine .done ?_
 refine .seq ?_
 refine .rn ?_
 refine .condS rfl (fun c9 => ?_) (fun c9 => ?_)
 ·try simp at c9
  refine .seq ?_
  refine .rn ?_
  refine .ret ?_
  refine ⟨_, _, zz2,zz2, ?_⟩
  unfold gotE; rw [if_neg c9]
 ·try simp at c9
  refine .skip ?_
  refine .seq ?_
  refine .seq ?_
  refine .regionL [0,1,2] rfl zz0 ?_
  refine .rn [0,1] [2] ?_
  refine .step rfl rfl (.take rfl rfl rfl Tryz.call146 (by decide) (by first | (simp <;> rfl) | (simp [*] <;> rfl) | (simp [*]; done)) (p146 ls (fun l => !gts ws l) 147 [] [.vp [.vec (ws.map ints)]] h1 rfl rfl Tryz.call147 (fun a ha => p147 ws a (h2 a ha))) ?_)
  rintro _ rfl
  refine .done ?_
  refine .condS rfl (fun c13 => ?_) (fun c13 => ?_)
  ·try simp at c13
   refine .seq ?_
   refine .rn ?_
   refine .ret ?_
   refine ⟨_, _, zz2,zz2, ?_⟩
   unfold gotE; rw [if_pos c9, if_pos (by simpa using c13)]
  ·try simp at c13
   refine .skip ?_
   refine .seq ?_
   refine .rn ?_
   refine .ret ?_
   refine ⟨_, _, zz2,zz2, ?_⟩
   unfold gotE; rw [if_pos c9, if_neg (by simpa using c13)]
def idn (n : Nat) : List Int := (List.range n).map fun k : Nat => (k : Int)
def fil (n k : Nat) : List Int := (List.range n).map fun j : Nat => if j < k then (j : Int) else 0
theorem idn_len (n : Nat) : (idn n).length = n := by simp [idn, -List.range, -List.range.loop]
theorem fil_len (n k : Nat) : (fil n k).length = n := by simp [fil, -List.range, -List.range.loop]
theorem fil_zero (n : Nat) : (fil n 0).map (PV.int .i64) = List.replicate n (.int .i64 0) := by
 refine List.ext_getElem (by simp [fil, -List.range, -List.range.loop]) fun i h1 h2 => ?_
 simp [fil, -List.range, -List.range.loop]
theorem fil_all (n : Nat) : fil n n = idn n := by
 refine List.ext_getElem (by rw [fil_len, idn_len]) fun i h1 h2 => ?_
 rw [fil_len] at h1
 simp [fil, idn, -List.range, -List.range.loop]
 omega
theorem fil_set {n k : Nat} (h : k < n) : (fil n k).set k (k : Int) = fil n (k + 1) := by
 refine List.ext_getElem (by simp [fil, -List.range, -List.range.loop]) fun i h1 h2 => ?_
 rw [fil_len] at h2
 simp [fil, List.getElem_set, -List.range, -List.range.loop]
 by_cases hik : k = i
 ·subst hik; simp
 ·rw [if_neg hik]
  by_cases h3 : i < k
  ·rw [if_pos h3, if_pos (by omega)]
  ·rw [if_neg h3, if_neg (by omega)]
theorem idn_at {n k : Nat} (h : k < (idn n).length) : (idn n)[k] = (k : Int) := by simp [idn, -List.range, -List.range.loop]
theorem p131 (ws : List (List Int)) (hl : ws.length < 4294967296) : VPure Tryz.prog 131 [encM ws] fun r => r = ints (idn ws.length) := by
 have hl2 : (ws.length : Int) ≤ 4294967296 := by omega
 refine .of_body Tryz.func131 rfl rfl ?_
 refine .seq ?_
 refine .rn ?_
 refine .seq ?_
 refine .rn ?_
 refine .seq ?_
 refine .seq ?_
 refine .rn ?_
 refine .block ?_
 refine .loopS (fun k : Nat => ([(3, .own 0 0 ws.length ws.length),(10, .int .i64 ws.length),(11, .int .i64 k)], ⟨1,[(0, .arr false 1 ((fil ws.length k).map (.int .i64)))]⟩)) (fun k => k ≤ ws.length) (fun k => ws.length - k) 0 (by simp) (.mk [] [(0,1)] zz4 ⟨⟨Nat.le_of_ble_eq_true rfl, Or.inr ⟨rfl, _, rfl, congrArg (VObj.arr _ _) (fil_zero _).symm⟩⟩, trivial⟩ rfl rfl rfl) ?_
 rintro k hk
 simp only at hk ⊢
 obtain ⟨R, hR⟩ : ∃ R, fil ws.length k = R := ⟨_, rfl⟩
 have hRl : R.length = ws.length := by rw [← hR, fil_len]
 rw [hR]
 refine .seq ?_
 refine .rn ?_
 refine .seq ?_
 refine .condS rfl (fun c12 => ?_) (fun c12 => ?_)
 ·try simp at c12
  have hw2 : IntKind.i64.wrap ((k : Int) + 1) = (k : Int) + 1 := wrap64 (by omega) (by omega)
  have hS := fil_set c12
  rw [hR] at hS
  have hkR : k < R.length := by omega
  have hP := set_put R k (k : Int) hkR
  have hk1 : k + 1 ≤ ws.length := c12
  refine .skip ?_
  refine .seq ?_
  refine .block ?_
  refine .seq ?_
  refine .rn ?_
  refine .rn ?_
  refine .rn ?_
  refine ⟨k + 1,zz3,zz3, .mk [] [] zz4 ⟨⟨Nat.le_of_ble_eq_true rfl, Or.inr ⟨rfl, _, rfl, ?_⟩⟩, trivial⟩ rfl rfl rfl⟩
  refine congrArg (VObj.arr _ _) ?_
  first | rfl | (rw [← hS]; exact hP)
 ·try simp at c12
  have hkn : k = ws.length := by omega
  refine .exit ?_
  refine .seq ?_
  refine .rn ?_
  refine .ret ?_
  refine ⟨_, _, zz2,(by rw [← hRl]; exact frz_own_int _ _ _ _ rfl), ?_⟩
  rw [← hR, hkn, fil_all]
end Go.Am.Hi
end

section
namespace Go.Am.Hi
open Go Go.Am Go.Proofs
set_option maxRecDepth 100000
set_option maxHeartbeats 4000000
set_option linter.unusedSimpArgs false
set_option linter.unusedVariables false
attribute [local simp] vrun vwanted vyielded vop vopA vputAll VHeap.back hidI hidF backL bm Nat.testBit_eq_decide_div_mod_eq veval vevals vparts vO vbuiltin vlen vappend velems vcopy vmakeSlice vbuildSlice valloc vbox vmakeMap vload vpartT vpart vstore vfieldAddr vfield vindexAddr vindex vextract vslice vsliceZ vbounds vbnd zeroO vidx vlookup vmget vmapUpdate vdelete vclear vnilq vnilp vnils vbin vsc vsc1 vscs vscl abinOp aint ashift aunOp aconvert amaxs amax2 pvcV pvc pvcs tput tget vargs VHeap.get VHeap.alloc VHeap.put VHeap.drop VHeap.empty vlook vput vdrop psplice pfill preps chunk List.range List.range.loop vresults vresult vresultV frz frzL PV.isF PV.allF PV.scal PV.allS retP subT allFT PV.one PV.ids PV.idsL dropL beq_eq ble_dec blt_dec
def pg (ws : List (List Int)) (g a : List Int) (k : Nat) : Int := prk ws (nx g k) (nx a k)
def someG (ws : List (List Int)) (g a b : List Int) (k : Nat) : Bool := (List.range k).any fun i => decide (pg ws g a i < pg ws g b i)
def betG (ws : List (List Int)) (g a b : List Int) : Bool := ((List.range g.length).all fun i => decide (pg ws g a i ≤ pg ws g b i)) && someG ws g a b g.length
theorem someG_succ (ws : List (List Int)) (g a b : List Int) (k : Nat) : someG ws g a b (k + 1) = (someG ws g a b k || decide (pg ws g a k < pg ws g b k)) := by
 unfold someG
 rw [List.range_succ, List.any_append]
 simp [-List.range, -List.range.loop]
theorem betG_no {ws : List (List Int)} {g a b : List Int} {k : Nat} (h : k < g.length) (h1 : pg ws g b k < pg ws g a k) : betG ws g a b = false := by
 unfold betG
 rw [show ((List.range g.length).all fun i => decide (pg ws g a i ≤ pg ws g b i)) = false from Bool.eq_false_iff.2 fun h2 => by
  have := List.all_eq_true.1 h2 k (List.mem_range.2 h)
  simp at this
  omega, Bool.false_and]
theorem betG_yes {ws : List (List Int)} {g a b : List Int} (h : ∀ i, i < g.length → pg ws g a i ≤ pg ws g b i) : betG ws g a b = someG ws g a b g.length := by
 unfold betG
 rw [List.all_eq_true.2 fun i hi => decide_eq_true (h i (List.mem_range.1 hi)), Bool.true_and]
theorem betS_G (ws : List (List Int)) (a b : List Int) (hl : a.length = ws.length) : betG ws (idn ws.length) a b = betS ws a b := by
 have hp : ∀ (c : List Int) (i : Nat), i < ws.length → pg ws (idn ws.length) c i = ra ws c i := fun c i hi => by
  have h1 : i < (idn ws.length).length := by rw [idn_len]; exact hi
  unfold pg ra
  rw [nx_at h1, idn_at h1, prk_at hi]
  unfold nx
  rw [Int.toNat_natCast]
  simp [hi]
 unfold betG betS someG
 rw [idn_len, hl]
 congr 1
 ·rw [Bool.eq_iff_iff, List.all_eq_true, List.all_eq_true]
  constructor
  ·intro h i hi
   rw [← hp a i (List.mem_range.1 hi), ← hp b i (List.mem_range.1 hi)]; exact h i hi
  ·intro h i hi
   rw [hp a i (List.mem_range.1 hi), hp b i (List.mem_range.1 hi)]; exact h i hi
 ·rw [Bool.eq_iff_iff, List.any_eq_true, List.any_eq_true]
  constructor
  ·rintro ⟨i, hi, h⟩
   rw [hp a i (List.mem_range.1 hi), hp b i (List.mem_range.1 hi)] at h
   exact ⟨i, hi, h⟩
  ·rintro ⟨i, hi, h⟩
   rw [← hp a i (List.mem_range.1 hi), ← hp b i (List.mem_range.1 hi)] at h
   exact ⟨i, hi, h⟩
theorem p100 (ws : List (List Int)) (g a b : List Int) (hl : ws.length < 4294967296) (hll : ∀ l ∈ ws, l.length < 4294967296) (hg : g.length < 4294967296) (hgi : ∀ x ∈ g, InN ws.length x) (ha : g.length ≤ a.length) (hb : g.length ≤ b.length) : VPure Tryz.prog 100 [encM ws, ints g, ints a, ints b] fun r => r = .bool (betG ws g a b) := by
 refine .of_body Tryz.func100 rfl rfl ?_
 refine .seq ?_
 refine .rn ?_
 refine .seq ?_
 refine .rn ?_
 refine .seq ?_
 refine .seq ?_
 refine .rn ?_
 refine .block ?_
 refine .loopS (fun k : Nat => ([(2, ints a),(3, ints b),(4, .vp [.vec (ws.map ints)]),(9, .bool (someG ws g a b k)),(13, ints g),(14, .int .i64 g.length),(15, .int .i64 k)], VHeap.empty)) (fun k => k ≤ g.length ∧ ∀ i, i < k → pg ws g a i ≤ pg ws g b i) (fun k => g.length - k) 0 (by simp) (.mk [0] [] zz12 zz13 rfl rfl rfl) ?_
 rintro k ⟨hk, hr⟩
 simp only at hk hr ⊢
 refine .seq ?_
 refine .rn ?_
 refine .seq ?_
 refine .condS rfl (fun c16 => ?_) (fun c16 => ?_)
 ·try simp at c16
  have hw2 : IntKind.i64.wrap ((k : Int) + 1) = (k : Int) + 1 := wrap64 (by omega) (by omega)
  obtain ⟨s, hs, hse⟩ := (hgi _ (List.getElem_mem c16)).nat
  have hL := hll ws[s] (List.getElem_mem hs)
  have hka : k < a.length := by omega
  have hkb : k < b.length := by omega
  have hgk : nx g k = (s : Int) := by rw [nx_at c16, hse]
  have ea : pg ws g a k = rkL ws[s] s a[k] := by unfold pg; rw [hgk, nx_at hka, prk_at hs]
  have eb : pg ws g b k = rkL ws[s] s b[k] := by unfold pg; rw [hgk, nx_at hkb, prk_at hs]
  have hss := someG_succ ws g a b k
  rw [ea, eb] at hss
  refine .skip ?_
  refine .seq ?_
  refine .block ?_
  refine .seq ?_
  refine .rn ?_
  refine .seq ?_
  refine .regionL [0,1,2,3] rfl zz0 ?_
  refine .rn [0,1] [2,3] ?_
  refine .step rfl rfl (.pure rfl rfl rfl Tryz.call152 (by decide) (p152 ws s hs) (by first | rfl | simp [*]) ?_)
  rintro _ rfl
  refine .rn [3] [] ?_
  refine .done ?_
  refine .seq ?_
  refine .seq ?_
  refine .drawn (ms := [0,0,0,6,14,31,0,0,0,384,896,2047,4095]) (W := [5,11]) (items := [.op 0, .op 1, .op 2, .op 3, .op 4, .op 6, .op 7, .op 8, .op 9, .op 10, .op 5, .ck 10, .op 11, .op 12]) rfl zz0 zz0 zz0 ?_
  refine .rd rfl rfl (by decide) rfl (by decide) zz1 ?_   -- 0
  refine .rd rfl rfl (by decide) rfl (by decide) zz1 ?_   -- 1
  refine .rd rfl rfl (by decide) rfl (by decide) zz1 ?_   -- 2
  refine .rd rfl rfl (by decide) rfl (by decide) zz1 ?_   -- 3
  refine .rd rfl rfl (by decide) rfl (by decide) zz1 ?_   -- 4
  refine .rd rfl rfl (by decide) rfl (by decide) zz1 ?_   -- 6
  refine .rd rfl rfl (by decide) rfl (by decide) zz1 ?_   -- 7
  refine .rd rfl rfl (by decide) rfl (by decide) zz1 ?_   -- 8
  refine .rd rfl rfl (by decide) rfl (by decide) zz1 ?_   -- 9
  refine .rd rfl rfl (by decide) rfl (by decide) zz1 ?_   -- 10
  refine .wr rfl rfl (by decide) (.pure rfl rfl rfl Tryz.call182 (by decide) (p182 ws[s] s a[k] hL) (by first | rfl | simp [*]) ?_)
  rintro _ rfl
  refine .ck rfl zz0 ?_   -- 10
  refine .wr rfl rfl (by decide) (.pure rfl rfl rfl Tryz.call182 (by decide) (p182 ws[s] s b[k] hL) (by first | rfl | simp [*]) ?_)
  rintro _ rfl
  refine .rd rfl rfl (by decide) rfl (by decide) zz1 ?_   -- 12
  refine .done ?_
  refine .condS rfl (fun c35 => ?_) (fun c35 => ?_)
  ·try simp at c35
   refine .seq ?_
   refine .rn ?_
   refine .ret ?_
   refine ⟨_, _, zz2,zz2, ?_⟩
   refine congrArg PV.bool (betG_no c16 ?_).symm
   rw [ea, eb]; exact c35
  ·try simp at c35
   refine .skip ?_
   refine .drawn (ms := [0,1,3,3,3,27,59,127,3,3,3,1539,3587,8191,16383,32767,65535]) (W := [7,13]) (items := [.op 0, .op 1, .op 2, .op 3, .op 4, .op 5, .op 6, .op 8, .op 9, .op 10, .op 11, .op 12, .op 7, .ck 12, .op 13, .op 14, .op 15, .op 16]) rfl zz0 zz0 zz0 ?_
   refine .rd rfl rfl (by decide) rfl (by decide) zz1 ?_   -- 0
   refine .rd rfl rfl (by decide) rfl (by decide) zz1 ?_   -- 1
   refine .split (t := 37) rfl (fun c37 => ?_) (fun c37 => ?_)
   ·try rw [c37]
    try simp at c37
    refine .un rfl rfl (by decide) ?_   -- 2
    refine .un rfl rfl (by decide) ?_   -- 3
    refine .un rfl rfl (by decide) ?_   -- 4
    refine .un rfl rfl (by decide) ?_   -- 5
    refine .un rfl rfl (by decide) ?_   -- 6
    refine .un rfl rfl (by decide) ?_   -- 8
    refine .un rfl rfl (by decide) ?_   -- 9
    refine .un rfl rfl (by decide) ?_   -- 10
    refine .un rfl rfl (by decide) ?_   -- 11
    refine .un rfl rfl (by decide) ?_   -- 12
    refine .un rfl rfl (by decide) ?_   -- 7
    refine .ckU rfl rfl rfl ?_   -- 12
    refine .un rfl rfl (by decide) ?_   -- 13
    refine .un rfl rfl (by decide) ?_   -- 14
    refine .rd rfl rfl (by decide) rfl (by decide) zz1 ?_   -- 15
    refine .rd rfl rfl (by decide) rfl (by decide) zz1 ?_   -- 16
    refine .done ?_
    refine .rn ?_
    refine ⟨k + 1, ⟨by omega, fun i hi => ?_⟩, zz3,(.mk [] [] zz4 zz5 rfl rfl rfl)⟩
    by_cases h : i = k
    ·rw [h, ea, eb]; exact c35
    ·exact hr i (by omega)
   ·try rw [c37]
    try simp at c37
    refine .rd rfl rfl (by decide) rfl (by decide) zz1 ?_   -- 2
    refine .rd rfl rfl (by decide) rfl (by decide) zz1 ?_   -- 3
    refine .rd rfl rfl (by decide) rfl (by decide) zz1 ?_   -- 4
    refine .rd rfl rfl (by decide) rfl (by decide) zz1 ?_   -- 5
    refine .rd rfl rfl (by decide) rfl (by decide) zz1 ?_   -- 6
    refine .rd rfl rfl (by decide) rfl (by decide) zz1 ?_   -- 8
    refine .rd rfl rfl (by decide) rfl (by decide) zz1 ?_   -- 9
    refine .rd rfl rfl (by decide) rfl (by decide) zz1 ?_   -- 10
    refine .rd rfl rfl (by decide) rfl (by decide) zz1 ?_   -- 11
    refine .rd rfl rfl (by decide) rfl (by decide) zz1 ?_   -- 12
    refine .wr rfl rfl (by decide) (.pure rfl rfl rfl Tryz.call182 (by decide) (p182 ws[s] s a[k] hL) (by first | rfl | simp [*]) ?_)
    rintro _ rfl
    refine .ck rfl zz0 ?_   -- 12
    refine .wr rfl rfl (by decide) (.pure rfl rfl rfl Tryz.call182 (by decide) (p182 ws[s] s b[k] hL) (by first | rfl | simp [*]) ?_)
    rintro _ rfl
    refine .rd rfl rfl (by decide) rfl (by decide) zz1 ?_   -- 14
    refine .rd rfl rfl (by decide) rfl (by decide) zz1 ?_   -- 15
    refine .rd rfl rfl (by decide) rfl (by decide) zz1 ?_   -- 16
    refine .done ?_
    refine .rn ?_
    refine ⟨k + 1, ⟨by omega, fun i hi => ?_⟩, zz3,(.mk [] [] zz4 zz5 rfl rfl rfl)⟩
    by_cases h : i = k
    ·rw [h, ea, eb]; exact c35
    ·exact hr i (by omega)
 ·try simp at c16
  refine .exit ?_
  refine .seq ?_
  refine .rn ?_
  refine .ret ?_
  refine ⟨_, _, zz2,zz2, ?_⟩
  have hkn : k = g.length := by omega
  rw [betG_yes (fun i hi => hr i (by omega)), hkn]
theorem idn_in {n : Nat} : ∀ x ∈ idn n, InN n x := fun x hx => by
 obtain ⟨k, hk, rfl⟩ := List.mem_map.1 hx
 have := List.mem_range.1 hk
 exact ⟨by omega, by omega⟩
theorem betE_zero {ws : List (List Int)} {a b : List Int} (h : betE ws a b = 0) : gts ws a = true ∧ gts ws b = true := by
 unfold betE at h
 split at h
 ·split at h
  ·rename_i h2; rwa [Bool.and_eq_true] at h2
  ·cases h
 ·contradiction
theorem gotE_two {ws : List (List Int)} {a b : List Int} : gotE ws [a, b] = betE ws a b := by
 unfold gotE betE
 simp only [List.any_cons, List.any_nil, Bool.or_false]
 cases gts ws a <;> cases gts ws b <;> rfl
theorem gotE_one {ws : List (List Int)} {a : List Int} : gotE ws [a] = gE ws a := by
 unfold gotE gE
 simp only [List.any_cons, List.any_nil, Bool.or_false]
 cases gts ws a <;> rfl
theorem p61 (ws : List (List Int)) (a b : List Int) (hl : ws.length < 4294967296) (hll : ∀ l ∈ ws, l.length < 4294967296) (h2 : a.length < 4294967296) (h3 : b.length < 4294967296) : VPure Tryz.prog 61 [encM ws, ints a, ints b] fun r => r = .tup [.bool (betI ws a b), .int .i64 (betE ws a b)] := by
 refine .of_body Tryz.func61 rfl rfl ?_
 refine .seq ?_
 refine .rn ?_
 refine .seq ?_
 refine .seq ?_
 refine .regionL [0,1,2,3,4,5] rfl zz0 ?_
 refine .rn [0,1,2,3] [4,5] ?_
 refine .step rfl rfl (.borrow rfl rfl rfl Tryz.call97 (by decide) (by first | (simp <;> rfl) | (simp [*] <;> rfl) | (simp [*]; done)) (p97 ws [a, b] hl hll (by simp) (by simp [h2, h3])) (by rintro _ rfl <;> first | (simp; done) | rfl) ?_)
 rw [gotE_two]; rintro _ rfl
 refine .rn [5] [] ?_
 refine .done ?_
 refine .seq ?_
 refine .rn ?_
 refine .condS rfl (fun c15 => ?_) (fun c15 => ?_)
 ·try simp at c15
  refine .seq ?_
  refine .rn ?_
  refine .ret ?_
  refine ⟨_, _, zz2,zz2, ?_⟩
  rw [betI_err rfl c15]
 ·try simp at c15
  obtain ⟨ga, gb⟩ := betE_zero c15
  have hal := (gts_spec ga).1
  have hbl := (gts_spec gb).1
  refine .skip ?_
  refine .seq ?_
  refine .drawn (ms := [0,0,2,0,0,31,63,127]) (W := [2,5]) (items := [.op 0, .op 1, .op 3, .op 4, .op 2, .ck 0, .op 5, .op 6, .op 7]) rfl zz0 zz0 zz0 ?_
  refine .rd rfl rfl (by decide) rfl (by decide) zz1 ?_   -- 0
  refine .rd rfl rfl (by decide) rfl (by decide) zz1 ?_   -- 1
  refine .rd rfl rfl (by decide) rfl (by decide) zz1 ?_   -- 3
  refine .rd rfl rfl (by decide) rfl (by decide) zz1 ?_   -- 4
  refine .wr rfl rfl (by decide) (.pure rfl rfl rfl Tryz.call131 (by decide) (p131 ws hl) (by first | rfl | simp [*]) ?_)
  rintro _ rfl
  refine .ck rfl zz0 ?_   -- 0
  refine .wr rfl rfl (by decide) (.pure rfl rfl rfl Tryz.call100 (by decide) (p100 ws (idn ws.length) a b hl hll (by rw [idn_len]; exact hl) idn_in (by rw [idn_len]; omega) (by rw [idn_len]; omega)) (by first | rfl | simp [*]) ?_)
  rintro _ rfl
  refine .rd rfl rfl (by decide) rfl (by decide) zz1 ?_   -- 6
  refine .rd rfl rfl (by decide) rfl (by decide) zz1 ?_   -- 7
  refine .done ?_
  refine .ret ?_
  refine ⟨_, _, zz2,zz2, ?_⟩
  unfold betI
  rw [c15, betS_G ws a b hal]; rfl
end Go.Am.Hi
end

section
namespace Go.Am.Hi
open Go Go.Am Go.Proofs
set_option maxRecDepth 100000
set_option maxHeartbeats 4000000
set_option linter.unusedSimpArgs false
set_option linter.unusedVariables false
attribute [local simp] vrun vwanted vyielded vop vopA vputAll VHeap.back hidI hidF backL bm Nat.testBit_eq_decide_div_mod_eq veval vevals vparts vO vbuiltin vlen vappend velems vcopy vmakeSlice vbuildSlice valloc vbox vmakeMap vload vpartT vpart vstore vfieldAddr vfield vindexAddr vindex vextract vslice vsliceZ vbounds vbnd zeroO vidx vlookup vmget vmapUpdate vdelete vclear vnilq vnilp vnils vbin vsc vsc1 vscs vscl abinOp aint ashift aunOp aconvert amaxs amax2 pvcV pvc pvcs tput tget vargs VHeap.get VHeap.alloc VHeap.put VHeap.drop VHeap.empty vlook vput vdrop psplice pfill preps chunk List.range List.range.loop vresults vresult vresultV frz frzL PV.isF PV.allF PV.scal PV.allS retP subT allFT PV.one PV.ids PV.idsL dropL beq_eq ble_dec blt_dec
def lkB (F : List (Int × Int)) (c : Int) : Option Int := (F.find? fun p => decide (p.1 = c)).map (·.2)
def lkD (F : List (Int × Int)) (c : Int) : Int := (lkB F c).getD 0
def mpB (F : List (Int × Int)) : List (PV × PV) := F.map fun p => (.int .i64 p.1, .int .i64 p.2)
theorem pfind_mpB (n : Int) : ∀ F : List (Int × Int), pfind .i64 n (mpB F) = some ((lkB F n).map (PV.int .i64))
 | [] => rfl
 | (a, v) :: r => by
  have ih := pfind_mpB n r
  simp only [mpB, List.map_cons, pfind] at ih ⊢
  rw [ih]
  unfold lkB
  by_cases h : a = n
  ·subst h; simp
  ·simp [h]
theorem pmset_mpB (n v : Int) (F : List (Int × Int)) (h : lkB F n = none) : pmset .i64 n (.int .i64 v) (mpB F) = some (mpB (F ++ [(n, v)])) := by
 unfold pmset
 rw [pfind_mpB, h]
 simp [mpB]
theorem lkB_none {F : List (Int × Int)} {c : Int} : lkB F c = none ↔ ∀ y ∈ F, ¬y.1 = c := by
 unfold lkB
 rw [Option.map_eq_none_iff, List.find?_eq_none]
 simp
theorem lkB_snoc {F : List (Int × Int)} {n v : Int} (h : lkB F n = none) : lkB (F ++ [(n, v)]) n = some v := by
 unfold lkB at h ⊢
 rw [Option.map_eq_none_iff] at h
 rw [List.find?_append, h]
 simp
theorem pmset_over (n v w : Int) (F : List (Int × Int)) (h : lkB F n = none) : pmset .i64 n (.int .i64 w) (mpB (F ++ [(n, v)])) = some (mpB (F ++ [(n, w)])) := by
 unfold pmset
 rw [pfind_mpB, lkB_snoc h]
 have h2 := lkB_none.1 h
 simp only [mpB, Option.map_some, List.map_append, List.map_map, List.map_cons, List.map_nil]
 congr 2
 ·refine List.map_congr_left fun y hy => ?_
  simp [qput, h2 y hy]
 ·simp [qput]
theorem look53f (n : Int) (F : List (Int × Int)) (vh : VHeap) : vlookup Tryz.prog vh 53 (.vmap (mpB F)) (.int .i64 n) false = some (.int .i64 (lkD F n)) := by
 have h1 := pfind_mpB n F
 simp only [vlookup, vmget]
 unfold lkD
 cases h : lkB F n <;> rw [h] at h1 <;> simp [h1]
theorem look53m (i : Nat) (n : Int) (F : List (Int × Int)) (vh : VHeap) (hg : vh.get i = some (.map (mpB F))) : vlookup Tryz.prog vh 53 (.mapv i) (.int .i64 n) false = some (.int .i64 (lkD F n)) := by
 have h1 := pfind_mpB n F
 simp only [vlookup, vmget, hg]
 unfold lkD
 cases h : lkB F n <;> rw [h] at h1 <;> simp [h1]
theorem look53o (i : Nat) (n : Int) (F : List (Int × Int)) (vh : VHeap) (hg : vh.get i = some (.map (mpB F))) : vlookup Tryz.prog vh 53 (.mapv i) (.int .i64 n) true = some (.tup [.int .i64 (lkD F n), .bool (lkB F n).isSome]) := by
 have h1 := pfind_mpB n F
 simp only [vlookup, vmget, hg]
 unfold lkD
 cases h : lkB F n <;> rw [h] at h1 <;> simp [h1]
def lpF (f : Int → Int) (s : Int) : Nat → Int → Bool
 | 0, _ => false
 | m + 1, a => decide (a = s) || lpF f s m (f a)
theorem lpF_iff {f : Int → Int} {s : Int} : ∀ {m : Nat} {a : Int}, lpF f s m a = true ↔ ∃ k, k < m ∧ itr f k a = s
 | 0, a => ⟨fun h => (by cases h), fun ⟨k, hk, _⟩ => absurd hk (Nat.not_lt_zero k)⟩
 | m + 1, a => by
  show (decide (a = s) || lpF f s m (f a)) = true ↔ _
  rw [Bool.or_eq_true, decide_eq_true_eq, lpF_iff]
  constructor
  ·rintro (h | ⟨k, hk, h⟩)
   ·exact ⟨0, by omega, h⟩
   ·exact ⟨k + 1, by omega, h⟩
  ·rintro ⟨k, hk, h⟩
   cases k with
   | zero => exact .inl h
   | succ k => exact .inr ⟨k, by omega, h⟩
theorem lpF_back {f : Int → Int} {s : Int} {m : Nat} : lpF f s m (f s) = true ↔ Back f m s := by
 rw [lpF_iff]
 constructor
 ·rintro ⟨k, hk, h⟩; exact ⟨k + 1, by omega, by omega, h⟩
 ·rintro ⟨k, h1, h2, h⟩
  cases k with
  | zero => omega
  | succ k => exact ⟨k, by omega, h⟩
theorem lpF_yes {f : Int → Int} {s a : Int} {m : Nat} (hm : 0 < m) (h : a = s) : lpF f s m a = true := by
 cases m with
 | zero => omega
 | succ m => show (decide (a = s) || _) = true; rw [decide_eq_true h]; rfl
theorem lpF_next {f : Int → Int} {s a : Int} {m k : Nat} (hm : k < m) (h : ¬a = s) : lpF f s (m - k) a = lpF f s (m - (k + 1)) (f a) := by
 obtain ⟨q, hq⟩ : ∃ q, m - k = q + 1 := ⟨m - k - 1, by omega⟩
 rw [hq, show m - (k + 1) = q by omega]
 show (decide (a = s) || _) = _
 rw [decide_eq_false h, Bool.false_or]
theorem p145 (B : List (Int × Int)) (s : Int) (hl : B.length < 4294967296) : VPure Tryz.prog 145 [.vmap (mpB B), .int .i64 s] fun r => r = .bool (lpF (lkD B) s B.length (lkD B s)) := by
 have hlen : (mpB B).length = B.length := by simp [mpB]
 have hlk := fun (n : Int) (vh : VHeap) => look53f n B vh
 refine .of_body Tryz.func145 rfl rfl ?_
 refine .seq ?_
 refine .run zz0 (by simp [*, -vlookup] <;> first | exact ⟨rfl, rfl⟩ | exact rfl) ?_
 refine .seq ?_
 refine .run zz0 (by simp [*, -vlookup] <;> first | exact ⟨rfl, rfl⟩ | exact rfl) ?_
 refine .seq ?_
 refine .seq ?_
 refine .run zz0 (by simp [*, -vlookup] <;> first | exact ⟨rfl, rfl⟩ | exact rfl) ?_
 refine .block ?_
 refine .loopS (fun st : Nat × Int => ([(0, .vmap (mpB B)),(1, .int .i64 s),(5, .int .i64 st.2),(10, .int .i64 B.length),(11, .int .i64 st.1)], VHeap.empty)) (fun st => st.1 ≤ B.length ∧ lpF (lkD B) s (B.length - st.1) st.2 = lpF (lkD B) s B.length (lkD B s)) (fun st => B.length - st.1) (0, lkD B s) ⟨Nat.zero_le _, rfl⟩ (.mk [] [] zz4 zz5 rfl rfl rfl) ?_
 rintro ⟨k, a⟩ ⟨hk, hr⟩
 simp only at hk hr ⊢
 refine .seq ?_
 refine .run zz0 (by simp [*, -vlookup] <;> first | exact ⟨rfl, rfl⟩ | exact rfl) ?_
 refine .seq ?_
 refine .condS rfl (fun c12 => ?_) (fun c12 => ?_)
 ·try simp at c12
  have hw2 : IntKind.i64.wrap ((k : Int) + 1) = (k : Int) + 1 := wrap64 (by omega) (by omega)
  refine .skip ?_
  refine .seq ?_
  refine .block ?_
  refine .seq ?_
  refine .seq ?_
  refine .run zz0 (by simp [*, -vlookup] <;> first | exact ⟨rfl, rfl⟩ | exact rfl) ?_
  refine .condS rfl (fun c15 => ?_) (fun c15 => ?_)
  ·try simp at c15
   refine .seq ?_
   refine .run zz0 (by simp [*, -vlookup] <;> first | exact ⟨rfl, rfl⟩ | exact rfl) ?_
   refine .ret ?_
   refine ⟨_, _, zz2,zz2, ?_⟩
   rw [← hr, lpF_yes (by omega) c15]
  ·try simp at c15
   refine .skip ?_
   refine .run zz0 (by simp [*, -vlookup] <;> first | exact ⟨rfl, rfl⟩ | exact rfl) ?_
   refine .run zz0 (by simp [*, -vlookup] <;> first | exact ⟨rfl, rfl⟩ | exact rfl) ?_
   refine ⟨(k + 1, lkD B a), ⟨c12, ?_⟩, zz3,(.mk [] [] zz4 zz5 rfl rfl rfl)⟩
   rw [← hr, lpF_next c12 c15]
 ·try simp at c12
  refine .exit ?_
  refine .seq ?_
  refine .run zz0 (by simp [*, -vlookup] <;> first | exact ⟨rfl, rfl⟩ | exact rfl) ?_
  refine .ret ?_
  refine ⟨_, _, zz2,zz2, ?_⟩
  have hkn : B.length - k = 0 := by omega
  rw [← hr, hkn]; rfl
theorem p143 (G R : List Int) (s : Nat) (hs : s < R.length) : VPure Tryz.prog 143 [.int .i64 s, .vp [ints G, ints R]] fun r => r = .bool (decide (nx R s = 0)) := by
 have hR := nx_at hs
 refine .of_body Tryz.func143 rfl rfl ?_
 refine .seq ?_
 refine .rn ?_
 refine .seq ?_
 refine .rn ?_
 refine .ret ?_
 refine ⟨_, _, zz2,zz2, ?_⟩
 rw [hR]; rfl
theorem p144 (l : List Int) : VPure Tryz.prog 144 [ints l] fun r => r = .func 169 [] [.vp [ints l]] := by
 refine .of_body Tryz.func144 rfl rfl ?_
 refine .seq ?_
 refine .rn ?_
 refine .seq ?_
 refine .rn ?_
 refine .ret ?_
 refine ⟨_, _, zz2,zz2, ?_⟩
 first | rfl | (simp [*]; done) | (simp_all; done)
end Go.Am.Hi
end

section
namespace Go.Am.Hi
open Go Go.Am Go.Proofs
set_option maxRecDepth 100000
set_option linter.unusedSimpArgs false
set_option linter.unusedVariables false

def lfB (R : List Int) (s : Int) : Bool := decide (nx R s = 0)
def cntR (R : List Int) (n : Nat) : Nat := ((List.range n).filter fun s : Nat => lfB R s).length
def bsM (ws : List (List Int)) (R : List Int) (k : Nat) : List (Int × Int) := ((List.range k).filter fun s : Nat => lfB R s).map fun s : Nat => ((s : Int), bstP (lfB R) (ws.getD s []) s)
theorem bsM_len (ws : List (List Int)) (R : List Int) (k : Nat) : (bsM ws R k).length = cntR R k := by unfold bsM cntR; rw [List.length_map]
theorem cntR_le (R : List Int) (n : Nat) : cntR R n ≤ n := by
 unfold cntR
 refine Nat.le_trans (List.length_filter_le _ _) ?_
 rw [List.length_range]; exact Nat.le_refl _
theorem bsM_yes {ws : List (List Int)} {R : List Int} {k : Nat} (h : lfB R k = true) : bsM ws R (k + 1) = bsM ws R k ++ [((k : Int), bstP (lfB R) (ws.getD k []) k)] := by
 unfold bsM
 rw [List.range_succ, List.filter_append, List.map_append]
 simp [h]
theorem bsM_no {ws : List (List Int)} {R : List Int} {k : Nat} (h : lfB R k = false) : bsM ws R (k + 1) = bsM ws R k := by
 unfold bsM
 rw [List.range_succ, List.filter_append, List.map_append]
 simp [h]
theorem bsM_new (ws : List (List Int)) (R : List Int) (k : Nat) : lkB (bsM ws R k) k = none := by
 rw [lkB_none]
 intro y hy
 unfold bsM at hy
 obtain ⟨s, hs, rfl⟩ := List.mem_map.1 hy
 have := List.mem_range.1 (List.mem_filter.1 hs).1
 simp only
 omega
theorem bsM_lk (ws : List (List Int)) (R : List Int) (n : Nat) : ∀ s : Nat, s < n → lkB (bsM ws R n) s = if lfB R s then some (bstP (lfB R) (ws.getD s []) s) else none := by
 induction n with
 | zero => intro s hs; omega
 | succ n ih =>
  intro s hs
  have key : ∀ v : Int, ¬s = n → lkB (bsM ws R n ++ [((n : Int), v)]) s = lkB (bsM ws R n) s := fun v h => by
   unfold lkB
   rw [List.find?_append]
   have : List.find? (fun p : Int × Int => decide (p.1 = (s : Int))) [((n : Int), v)] = none := by simp; omega
   rw [this, Option.or_none]
  by_cases hn : lfB R n = true
  ·rw [bsM_yes hn]
   by_cases h : s = n
   ·subst h; rw [lkB_snoc (bsM_new ws R s), if_pos hn]
   ·rw [key _ h]; exact ih s (by omega)
  ·rw [bsM_no (by simpa using hn)]
   by_cases h : s = n
   ·subst h; rw [bsM_new, if_neg hn]
   ·exact ih s (by omega)
def bsF (ws : List (List Int)) (R : List Int) : Int → Int := lkD (bsM ws R ws.length)
theorem bsF_at {ws : List (List Int)} {R : List Int} {s : Nat} (hs : s < ws.length) (h : nx R s = 0) : bsF ws R s = bstP (lfB R) ws[s] s := by
 unfold bsF lkD
 rw [bsM_lk ws R _ s hs, if_pos (show lfB R s = true from decide_eq_true h)]
 simp [hs]
def LfP (ws : List (List Int)) (R : List Int) (i : Int) : Prop := InN ws.length i ∧ nx R i = 0
theorem LfP.best {ws : List (List Int)} {R : List Int} (hm : Mkt ws) {i : Int} (h : LfP ws R i) : LfP ws R (bsF ws R i) ∧ ∀ k, LfP ws R k → prk ws i (bsF ws R i) ≤ prk ws i k := by
 obtain ⟨h1, h2⟩ := h
 obtain ⟨s, hs, rfl⟩ := h1.nat
 rw [bsF_at hs h2]
 refine ⟨⟨bstP_mem (fun x hx => (hm.inn s hs x hx).1) h1, ?_⟩, fun k hk => ?_⟩
 ·exact of_decide_eq_true (bstP_in (p := lfB R) (decide_eq_true h2))
 ·exact prk_le hs (bstP_le (fun hx => (hm.inn s hs _ hx).2 rfl) (decide_eq_true hk.2))
def inC (ws : List (List Int)) (R : List Int) (s : Nat) : Bool := lfB R s && lpF (bsF ws R) s (cntR R ws.length) (bsF ws R s)
theorem inC_iff {ws : List (List Int)} {R : List Int} {s : Nat} : inC ws R s = true ↔ nx R s = 0 ∧ Back (bsF ws R) (cntR R ws.length) s := by
 unfold inC lfB
 rw [Bool.and_eq_true, decide_eq_true_eq, lpF_back]
theorem filter_fewer {p q : Nat → Bool} {l : List Nat} (h : ∀ x ∈ l, q x = true → p x = true) {s : Nat} (hs : s ∈ l) (h1 : p s = true) (h2 : q s = false) : (l.filter q).length < (l.filter p).length := by
 induction l with
 | nil => cases hs
 | cons a t ih =>
  have hle : ∀ (t : List Nat),(∀ x ∈ t, q x = true → p x = true) → (t.filter q).length ≤ (t.filter p).length := by
   intro t
   induction t with
   | nil => intro _; exact Nat.le_refl _
   | cons b u ih2 =>
    intro hb
    have i2 := ih2 fun x hx => hb x (List.mem_cons_of_mem _ hx)
    have hb1 := hb b List.mem_cons_self
    simp only [List.filter_cons]
    cases hq : q b with
    | true => rw [hb1 hq]; simp only [if_true, List.length_cons]; omega
    | false => cases p b <;> simp <;> omega
  have hht := hle t fun x hx => h x (List.mem_cons_of_mem _ hx)
  simp only [List.filter_cons]
  rcases List.mem_cons.1 hs with rfl | hs
  ·rw [h1, h2]; simp; omega
  ·have i2 := ih (fun x hx => h x (List.mem_cons_of_mem _ hx)) hs
   have ha := h a List.mem_cons_self
   cases hq : q a with
   | true => rw [ha hq]; simp only [if_true, List.length_cons]; omega
   | false => cases p a <;> simp <;> omega
theorem deal_step {ws : List (List Int)} (hm : Mkt ws) {G R G' R' : List Int} {r : Nat} (h : Rnd ws (LfP ws R) (nx G) (nx R) r) (hr : 1 ≤ r) (hne : cntR R ws.length ≠ 0) (hG : ∀ j : Nat, j < ws.length → nx G' j = if inC ws R j then bsF ws R j else nx G j) (hR : ∀ j : Nat, j < ws.length → nx R' j = if inC ws R j then (r : Int) else nx R j) :
  Rnd ws (LfP ws R') (nx G') (nx R') ((r + 1 : Nat) : Int) ∧ cntR R' ws.length < cntR R ws.length := by
 have hC : ∀ j : Nat, j < ws.length → (inC ws R j = true ↔ LfP ws R j ∧ Back (bsF ws R) (cntR R ws.length) j) := fun j hj => by
  rw [inC_iff]
  exact ⟨fun ⟨h1, h2⟩ => ⟨⟨⟨by omega, by omega⟩, h1⟩, h2⟩, fun ⟨h1, h2⟩ => ⟨h1.2, h2⟩⟩
 have hr1 : (1 : Int) ≤ r := by omega
 constructor
 ·have hcast : ((r + 1 : Nat) : Int) = (r : Int) + 1 := by omega
  rw [hcast]
  refine h.step hr1 (C := fun i => LfP ws R i ∧ Back (bsF ws R) (cntR R ws.length) i) (b := bsF ws R) (fun i hi => ⟨hi.1.1, hi.1⟩) (fun i hi => ⟨(hi.1.best hm).1, hi.2.step⟩) (fun i j hi hj he => hi.2.inj hj.2 he) (fun i k hi hk hlk => (hi.1.best hm).2 k hlk) (fun i hi => ?_) (fun i hi hn => ?_) (fun i hi => ?_) (fun i hi hn => ?_) (fun i => ?_)
  ·obtain ⟨j, hj, rfl⟩ := hi.1.1.nat
   rw [hG j hj, if_pos ((hC j hj).2 hi)]
  ·obtain ⟨j, hj, rfl⟩ := hi.nat
   rw [hG j hj, if_neg fun hh => hn ((hC j hj).1 hh)]
  ·obtain ⟨j, hj, rfl⟩ := hi.1.1.nat
   rw [hR j hj, if_pos ((hC j hj).2 hi)]
  ·obtain ⟨j, hj, rfl⟩ := hi.nat
   rw [hR j hj, if_neg fun hh => hn ((hC j hj).1 hh)]
  ·constructor
   ·rintro ⟨h1, h2⟩
    obtain ⟨j, hj, rfl⟩ := h1.nat
    rw [hR j hj] at h2
    by_cases hc : inC ws R j = true
    ·rw [if_pos hc] at h2; omega
    ·rw [if_neg hc] at h2
     exact ⟨⟨h1, h2⟩, fun hh => hc ((hC j hj).2 hh)⟩
   ·rintro ⟨⟨h1, h2⟩, hn⟩
    obtain ⟨j, hj, rfl⟩ := h1.nat
    exact ⟨h1, by rw [hR j hj, if_neg fun hh => hn ((hC j hj).1 hh)]; exact h2⟩
 ·-- somebody is in a loop
  have hmem : ∀ x : Int, x ∈ ((List.range ws.length).filter fun s : Nat => lfB R s).map (fun s : Nat => (s : Int)) ↔ LfP ws R x := fun x => by
   rw [List.mem_map]
   constructor
   ·rintro ⟨s, hs, rfl⟩
    rw [List.mem_filter, List.mem_range] at hs
    exact ⟨⟨by omega, by omega⟩, of_decide_eq_true hs.2⟩
   ·rintro ⟨h1, h2⟩
    obtain ⟨s, hs, rfl⟩ := h1.nat
    exact ⟨s, List.mem_filter.2 ⟨List.mem_range.2 hs, decide_eq_true h2⟩, rfl⟩
  have hlen : (((List.range ws.length).filter fun s : Nat => lfB R s).map (fun s : Nat => (s : Int))).length = cntR R ws.length := by rw [List.length_map]; rfl
  obtain ⟨a, ha⟩ : ∃ a, a ∈ ((List.range ws.length).filter fun s : Nat => lfB R s).map (fun s : Nat => (s : Int)) := by
   refine List.exists_mem_of_ne_nil _ fun hh => hne ?_
   rw [← hlen, hh]; rfl
  obtain ⟨s, hs, hb⟩ := back_some (b := bsF ws R) (fun x hx => (hmem _).2 (((hmem x).1 hx).best hm).1) ha
  rw [hlen] at hb
  have hsl := (hmem s).1 hs
  obtain ⟨j, hj, rfl⟩ := hsl.1.nat
  have hcj : inC ws R j = true := (hC j hj).2 ⟨hsl, hb⟩
  refine filter_fewer (s := j) (fun x hx hq => ?_) (List.mem_range.2 hj) (decide_eq_true hsl.2) ?_
  ·have hx := List.mem_range.1 hx
   have hq := of_decide_eq_true hq
   rw [hR x hx] at hq
   by_cases hc : inC ws R x = true
   ·rw [if_pos hc] at hq; omega
   ·rw [if_neg hc] at hq; exact decide_eq_true hq
  ·refine decide_eq_false ?_
   rw [hR j hj, if_pos hcj]; omega
theorem nx_set {l : List Int} {k j : Nat} (v : Int) (hk : k < l.length) : nx (l.set k v) j = if j = k then v else nx l j := by
 unfold nx
 rw [Int.toNat_natCast, List.getD_eq_getElem?_getD, List.getD_eq_getElem?_getD, List.getElem?_set]
 by_cases h : k = j
 ·subst h; simp [hk]
 ·rw [if_neg h, if_neg (fun hh => h hh.symm)]
theorem deal_end {ws : List (List Int)} {G R : List Int} {r : Nat} (h : Rnd ws (LfP ws R) (nx G) (nx R) r) (hG : G.length = ws.length) (hR : R.length = ws.length) (hr : r ≤ ws.length + 1) (hc : cntR R ws.length = 0) : AccL ws G R := by
 have hno : ∀ i, InN ws.length i → ¬LfP ws R i := fun i hi hl => by
  obtain ⟨j, hj, rfl⟩ := hi.nat
  have : ((List.range ws.length).filter fun s : Nat => lfB R s) = [] := List.eq_nil_of_length_eq_zero hc
  have hm : j ∈ (List.range ws.length).filter fun s : Nat => lfB R s := List.mem_filter.2 ⟨List.mem_range.2 hj, decide_eq_true hl.2⟩
  rw [this] at hm; cases hm
 refine ⟨hG, hR, h.acc hno, fun i hi => ?_⟩
 have := (h.r1 i hi (hno i hi)).2
 omega
theorem deal_start (ws : List (List Int)) (G : List Int) : Rnd ws (LfP ws (List.replicate ws.length 0)) (nx G) (nx (List.replicate ws.length 0)) ((1 : Nat) : Int) := by
 refine Rnd.start ws _ (fun i hi => ⟨hi, ?_⟩) _ _
 obtain ⟨j, hj, rfl⟩ := hi.nat
 rw [nx_at (by simpa using hj)]
 simp
end Go.Am.Hi
end

section
namespace Go.Am.Hi
open Go Go.Am Go.Proofs
set_option maxRecDepth 100000
set_option maxHeartbeats 4000000
set_option linter.unusedSimpArgs false
set_option linter.unusedVariables false
attribute [local simp] vrun vwanted vyielded vop vopA vputAll VHeap.back hidI hidF backL bm Nat.testBit_eq_decide_div_mod_eq veval vevals vparts vO vbuiltin vlen vappend velems vcopy vmakeSlice vbuildSlice valloc vbox vmakeMap vload vpartT vpart vstore vfieldAddr vfield vindexAddr vindex vextract vslice vsliceZ vbounds vbnd zeroO vidx vlookup vmget vmapUpdate vdelete vclear vnilq vnilp vnils vbin vsc vsc1 vscs vscl abinOp aint ashift aunOp aconvert amaxs amax2 pvcV pvc pvcs tput tget vargs VHeap.get VHeap.alloc VHeap.put VHeap.drop VHeap.empty vlook vput vdrop psplice pfill preps chunk List.range List.range.loop vresults vresult vresultV frz frzL PV.isF PV.allF PV.scal PV.allS retP subT allFT PV.one PV.ids PV.idsL dropL beq_eq ble_dec blt_dec
@[simp] theorem bstP_nil (p : Int → Bool) (s : Int) : bstP p [] s = s := rfl
theorem skip_eq {p : Nat → Bool} {s j : Nat} (h : p s = false) : (decide (j < s) && p j) = (decide (j < s + 1) && p j) := by
 by_cases hj : j = s
 ·subst hj; rw [h, Bool.and_false, Bool.and_false]
 ·rw [show decide (j < s) = decide (j < s + 1) from decide_eq_decide.2 ⟨fun _ => by omega, fun _ => by omega⟩]
theorem put_eq {p : Nat → Bool} {s j : Nat} {b g : Int → Int} (h : p s = true) : (if j = s then b s else if decide (j < s) && p j then b j else g j) = if decide (j < s + 1) && p j then b j else g j := by
 by_cases hj : j = s
 ·subst hj; rw [h, if_pos rfl, if_pos (by simp)]
 ·rw [if_neg hj, show decide (j < s) = decide (j < s + 1) from decide_eq_decide.2 ⟨fun _ => by omega, fun _ => by omega⟩]
theorem bstP_hit {p : Int → Bool} {l : List Int} {s : Int} {i : Nat} (h : i < l.length) (hp : p l[i] = true) : bstP p (l.drop i) s = l[i] := by
 unfold bstP
 rw [List.drop_eq_getElem_cons h, List.find?_cons_of_pos hp]; rfl
theorem bstP_miss {p : Int → Bool} {l : List Int} {s : Int} {i : Nat} (h : i < l.length) (hp : p l[i] = false) : bstP p (l.drop i) s = bstP p (l.drop (i + 1)) s := by
 unfold bstP
 rw [List.drop_eq_getElem_cons h, List.find?_cons_of_neg (by simp [hp])]
theorem frz_dealL (vh : VHeap) (i j : Nat) (G R : List Int) (n : Nat) (hG : G.length = n) (hR : R.length = n) (h1 : vh.get i = some (.arr false 1 (G.map (PV.int .i64)))) (h2 : vh.get j = some (.arr false 1 (R.map (PV.int .i64)))) : frzL vh [.own i 0 n n, .own j 0 n n] = some [ints G, ints R] := by
 have e1 := frz_own_int vh i n G h1
 have e2 := frz_own_int vh j n R h2
 rw [hG] at e1
 rw [hR] at e2
 simp only [frz] at e1 e2
 simp only [frz, frzL]
 rw [e1, e2]
theorem frz_deal (vh : VHeap) (i j : Nat) (G R : List Int) (n : Nat) (hG : G.length = n) (hR : R.length = n) (h1 : vh.get i = some (.arr false 1 (G.map (PV.int .i64)))) (h2 : vh.get j = some (.arr false 1 (R.map (PV.int .i64)))) : frz vh (.agg [.own i 0 n n, .own j 0 n n]) = some (.agg [ints G, ints R]) := by
 have e1 := frz_own_int vh i n G h1
 have e2 := frz_own_int vh j n R h2
 rw [hG] at e1
 rw [hR] at e2
 simp only [frz] at e1 e2
 simp only [frz, frzL]
 rw [e1, e2]; rfl
theorem p96 (ws : List (List Int)) (hm : Mkt ws) (hll : ∀ l ∈ ws, l.length < 4294967296) : VPure Tryz.prog 96 [encM ws] fun r => ∃ G R, r = .agg [ints G, ints R] ∧ AccL ws G R := by
 have hn16 := hm.le
 have hl2 : ((ws.length : Nat) : Int) ≤ 4294967296 := by omega
 refine .of_body Tryz.func96 rfl rfl ?_
 refine .seq ?_
 refine .run zz0 (by simp [*, -vlookup] <;> first | exact ⟨rfl, rfl⟩ | exact rfl) ?_
 refine .scope ?_
 refine .seq ?_
 refine .run zz0 (by simp [*, -vlookup] <;> first | exact ⟨rfl, rfl⟩ | exact rfl) ?_
 refine .seq ?_
 refine .drawnF (ms := [0,1,0,4,15,0,63]) (W := [1,6]) (As := [5,3]) (items := [.op 0, .op 2, .op 3, .op 5, .op 1, .op 4, .op 6]) rfl zz0 zz0 zz0 zz0 (by decide) ?_
 refine .rd rfl rfl (by decide) (by decide) (by decide) rfl (by decide) (by simp [*, -vlookup] <;> first | exact ⟨rfl, rfl⟩ | exact rfl) ?_   -- 0
 refine .rd rfl rfl (by decide) (by decide) (by decide) rfl (by decide) (by simp [*, -vlookup] <;> first | exact ⟨rfl, rfl⟩ | exact rfl) ?_   -- 2
 refine .al rfl rfl (by decide) (by decide) (by decide) (by decide) (by simp [*, -vlookup] <;> first | exact ⟨rfl, rfl⟩ | exact rfl) ?_   -- 3
 refine .al rfl rfl (by decide) (by decide) (by decide) (by decide) (by simp [*, -vlookup] <;> first | exact ⟨rfl, rfl⟩ | exact rfl) ?_   -- 5
 refine .wr rfl rfl (by decide) (.vop (by simp [*, -vlookup] <;> first | exact ⟨rfl, rfl⟩ | exact rfl) (by decide) ?_)   -- 1
 refine .rd rfl rfl (by decide) (by decide) (by decide) rfl (by decide) (by simp [*, -vlookup] <;> first | exact ⟨rfl, rfl⟩ | exact rfl) ?_   -- 4
 refine .wr rfl rfl (by decide) (.vop (by simp [*, -vlookup] <;> first | exact ⟨rfl, rfl⟩ | exact rfl) (by decide) ?_)   -- 6
 refine .done ?_
 refine .seq ?_
 refine .run zz0 (by simp [*, -vlookup] <;> first | exact ⟨rfl, rfl⟩ | exact rfl) ?_
 refine .seq ?_
 refine .label ?_
 refine .seq ?_
 refine .seq ?_
 refine .run zz0 (by simp [*, -vlookup] <;> first | exact ⟨rfl, rfl⟩ | exact rfl) ?_
 refine .block ?_
 refine .loopS (fun st : Nat × List Int × List Int => ([(1, .vp [.vec (ws.map ints)]),(2, .ptr 1 0),(3, .int .i64 ws.length),(4, .ptr 3 0),(5, .ptr 5 0),(6, .int .i64 st.1)], ⟨6,[(5, .box [.func 143 [] [.ptr 3 0]]),(4, .arr false 1 ((st.2.1).map (.int .i64))),(3, .box [.own 4 0 ws.length ws.length, .own 2 0 ws.length ws.length]),(2, .arr false 1 ((st.2.2).map (.int .i64))),(1, .box [.sl0, .sl0])]⟩)) (fun st => (st.2.1.length = ws.length ∧ st.2.2.length = ws.length) ∧ (1 ≤ st.1 ∧ st.1 + cntR st.2.2 ws.length ≤ ws.length + 1) ∧ Rnd ws (LfP ws st.2.2) (nx st.2.1) (nx st.2.2) st.1) (fun st => cntR st.2.2 ws.length) (1, List.replicate ws.length 0, List.replicate ws.length 0) ⟨⟨by simp, by simp⟩, ⟨Nat.le_refl _, by have := cntR_le (List.replicate ws.length 0) ws.length; simp only; omega⟩, deal_start ws _⟩ (.mk [0] [] zz14 zz15 rfl rfl rfl) ?_
 rintro ⟨r, G, R⟩ ⟨⟨hGl, hRl⟩, ⟨hr1, hr2⟩, hI⟩
 simp only at hGl hRl hr1 hr2 hI ⊢
 have hwr : IntKind.i64.wrap ((r : Int) + 1) = (r : Int) + 1 := wrap64 (by omega) (by omega)
 refine .seq ?_
 refine .block ?_
 refine .seq ?_
 refine .run zz0 (by simp [*, -vlookup] <;> first | exact ⟨rfl, rfl⟩ | exact rfl) ?_
 refine .seq ?_
 refine .seq ?_
 refine .run zz0 (by simp [*, -vlookup] <;> first | exact ⟨rfl, rfl⟩ | exact rfl) ?_
 refine .block ?_
 refine .loopS (fun k : Nat => ([(1, .vp [.vec (ws.map ints)]),(2, .ptr 1 0),(3, .int .i64 ws.length),(4, .ptr 3 0),(5, .ptr 5 0),(6, .int .i64 r),(7, .ptr 7 0),(26, .int .i64 ws.length),(27, .int .i64 k)], ⟨8,[(7, .box [.mapv 6]),(6, .map (mpB (bsM ws R k))),(5, .box [.func 143 [] [.ptr 3 0]]),(4, .arr false 1 ((G).map (.int .i64))),(3, .box [.own 4 0 ws.length ws.length, .own 2 0 ws.length ws.length]),(2, .arr false 1 ((R).map (.int .i64))),(1, .box [.sl0, .sl0])]⟩)) (fun k => k ≤ ws.length) (fun k => ws.length - k) 0 (Nat.zero_le _) (.mk [] [] zz8 zz9 rfl rfl rfl) ?_
 rintro k hk
 simp only at hk ⊢
 refine .seq ?_
 refine .run zz0 (by simp [*, -vlookup] <;> first | exact ⟨rfl, rfl⟩ | exact rfl) ?_
 refine .seq ?_
 refine .condS rfl (fun c28 => ?_) (fun c28 => ?_)
 ·try simp at c28
  have hw2 : IntKind.i64.wrap ((k : Int) + 1) = (k : Int) + 1 := wrap64 (by omega) (by omega)
  have hkR : k < R.length := by omega
  have hL := hll ws[k] (List.getElem_mem c28)
  have hZ : ∀ vh : VHeap, vh.get 4 = some (.arr false 1 (G.map (.int .i64))) → vh.get 2 = some (.arr false 1 (R.map (.int .i64))) → frzL vh [.own 4 0 ws.length ws.length, .own 2 0 ws.length ws.length] = some [ints G, ints R] := fun vh h1 h2 => frz_dealL vh 4 2 G R _ hGl hRl h1 h2
  refine .skip ?_
  refine .seq ?_
  refine .block ?_
  refine .seq ?_
  refine .run zz0 (by simp [*, -vlookup] <;> first | exact ⟨rfl, rfl⟩ | exact rfl) ?_
  refine .seq ?_
  refine .seq ?_
  refine .regionL [0,1,2,3] rfl zz0 ?_
  refine .run (l := [0,1]) (r := [2,3]) zz0 (by simp [*, -vlookup] <;> first | exact ⟨rfl, rfl⟩ | exact rfl) ?_
  refine .step rfl rfl (.borrowD rfl rfl rfl Tryz.call143 (by decide) (show DeepL _ [.int .i64 k, .ptr 3 0] [.int .i64 k, .vp [ints G, ints R]] from ⟨.frz (by simp), .ptr (cs2 := [ints G, ints R]) rfl (hZ _ rfl rfl) rfl, trivial⟩) (p143 G R k hkR) (by rintro _ rfl <;> first | (simp; done) | rfl) ?_)
  rintro _ rfl
  refine .run (l := [3]) (r := []) zz0 (by simp [*, -vlookup] <;> first | exact ⟨rfl, rfl⟩ | exact rfl) ?_
  refine .done ?_
  refine .condS rfl (fun c33 => ?_) (fun c33 => ?_)
  ·try simp at c33
   have hB := bsM_no (ws := ws) (R := R) (k := k) (decide_eq_false c33)
   refine .exit ?_
   refine .run zz0 (by simp [*, -vlookup] <;> first | exact ⟨rfl, rfl⟩ | exact rfl) ?_
   refine ⟨k + 1,zz3,zz3,(.mk [] [] zz8 zz9 rfl rfl rfl)⟩
  ·try simp at c33
   have hB := bsM_yes (ws := ws) (R := R) (k := k) (decide_eq_true c33)
   rw [show ws.getD k [] = ws[k] by simp [c28]] at hB
   obtain ⟨B, hBB⟩ : ∃ B, bsM ws R k = B := ⟨_, rfl⟩
   have hNew := bsM_new ws R k
   rw [hBB] at hNew
   rw [hBB] at hB ⊢
   have hs0 := fun v : Int => pmset_mpB (k : Int) v B hNew
   have hs1 := fun v w : Int => pmset_over (k : Int) v w B hNew
   have hD0 : bstP (lfB R) (List.drop ws[k].length ws[k]) k = k := by rw [List.drop_length]; rfl
   have hwl : IntKind.i64.wrap ((ws[k].length : Int) - 1) = (ws[k].length : Int) - 1 := wrap64 (by omega) (by omega)
   refine .skip ?_
   refine .seq ?_
   refine .run zz0 (by simp [*, -vlookup] <;> first | exact ⟨rfl, rfl⟩ | exact rfl) ?_
   refine .seq ?_
   refine .regionL [0,1,2,3,4,5] rfl zz0 ?_
   refine .run (l := [0,1,2,3,4]) (r := [5]) zz0 (by simp [*, -vlookup] <;> first | exact ⟨rfl, rfl⟩ | exact rfl) ?_
   refine .step rfl rfl (.pure rfl rfl rfl Tryz.call144 (by decide) (p144 ws[k]) (by first | rfl | simp [*]) ?_)
   rintro _ rfl
   refine .done ?_
   refine .block ?_
   refine .rangeFunc rfl Tryz.call169 Tryz.func169 rfl rfl rfl ?_
   refine .seq ?_
   refine .run zz0 (by simp [*, -vlookup] <;> first | exact ⟨rfl, rfl⟩ | exact rfl) ?_
   refine .block ?_
   refine .loopS (fun j : Nat => ([(0, .yld 9),(1, .vp [ints ws[k]]),(3, .int .i64 ((j : Int) - 1))], ⟨10,[(9, .loop 85 #[43,44] _ _ [(1, .vp [.vec (ws.map ints)]),(2, .ptr 1 0),(3, .int .i64 ws.length),(4, .ptr 3 0),(5, .ptr 5 0),(6, .int .i64 r),(7, .ptr 7 0),(8, .ptr 8 0),(26, .int .i64 ws.length),(27, .int .i64 k)] none),(8, .box [.int .i64 k]),(7, .box [.mapv 6]),(6, .map (mpB (B ++ [((k : Int), bstP (lfB R) (ws[k].drop j) k)]))),(5, .box [.func 143 [] [.ptr 3 0]]),(4, .arr false 1 ((G).map (.int .i64))),(3, .box [.own 4 0 ws.length ws.length, .own 2 0 ws.length ws.length]),(2, .arr false 1 ((R).map (.int .i64))),(1, .box [.sl0, .sl0])]⟩)) (fun j => j ≤ ws[k].length) (fun j => j) ws[k].length (Nat.le_refl _) (.mk [] [] zz8 zz9 rfl rfl rfl) ?_
   rintro j hj
   simp only at hj ⊢
   refine .seq ?_
   refine .seq ?_
   refine .run zz0 (by simp [*, -vlookup] <;> first | exact ⟨rfl, rfl⟩ | exact rfl) ?_
   refine .condS rfl (fun c8 => ?_) (fun c8 => ?_)
   ·try simp at c8
    obtain ⟨i, rfl⟩ : ∃ i, j = i + 1 := ⟨j - 1, by omega⟩
    have hji : ((i + 1 : Nat) : Int) - 1 = (i : Int) := by omega
    have hil : i < ws[k].length := by omega
    have hwi : IntKind.i64.wrap ((i : Int) - 1) = (i : Int) - 1 := wrap64 (by omega) (by omega)
    obtain ⟨p, hp, hpe⟩ := (hm.inn k c28 _ (List.getElem_mem hil)).1.nat
    have hpR : p < R.length := by omega
    refine .skip ?_
    refine .seq ?_
    refine .block ?_
    refine .seq ?_
    refine .regionL [0,1,2,3,4,5,6,7] rfl zz0 ?_
    refine .run (l := [0,1,2,3,4,5]) (r := [6,7]) zz0 (by simp [*, -vlookup] <;> first | exact ⟨rfl, rfl⟩ | exact rfl) ?_
    refine .step rfl rfl (.yield rfl rfl rfl rfl rfl (by decide) rfl ?_)
    refine .run zz0 (by simp [*, -vlookup] <;> first | exact ⟨rfl, rfl⟩ | exact rfl) ?_
    refine .block ?_
    refine .seq ?_
    refine .regionL [0,1,2] rfl zz0 ?_
    refine .run (l := [0,1]) (r := [2]) zz0 (by simp [*, -vlookup] <;> first | exact ⟨rfl, rfl⟩ | exact rfl) ?_
    refine .step rfl rfl (.borrowD rfl rfl rfl Tryz.call143 (by decide) (show DeepL _ [.int .i64 p, .ptr 3 0] [.int .i64 p, .vp [ints G, ints R]] from ⟨.frz (by simp), .ptr (cs2 := [ints G, ints R]) rfl (hZ _ rfl rfl) rfl, trivial⟩) (p143 G R p hpR) (by rintro _ rfl <;> first | (simp; done) | rfl) ?_)
    rintro _ rfl
    refine .done ?_
    refine .condS rfl (fun c47 => ?_) (fun c47 => ?_)
    ·try simp at c47
     have hD1 : bstP (lfB R) (List.drop i ws[k]) k = p := by rw [← hpe]; exact bstP_hit hil (by rw [hpe]; exact decide_eq_true c47)
     refine .run zz0 (by simp [*, -vlookup] <;> first | exact ⟨rfl, rfl⟩ | exact rfl) ?_
     change VOps _ _ _ _ _ _ _ _
     refine .run (l := [7]) (r := []) zz0 (by simp [*, -vlookup] <;> first | exact ⟨rfl, rfl⟩ | exact rfl) ?_
     refine .done ?_
     refine .condF rfl ?_
     refine .skip ?_
     refine .run zz0 (by simp [*, -vlookup] <;> first | exact ⟨rfl, rfl⟩ | exact rfl) ?_
     refine ⟨i, by omega, by omega, (.mk [] [] zz8 zz9 rfl rfl rfl)⟩
    ·try simp at c47
     have hD1 : bstP (lfB R) (List.drop i ws[k]) k = bstP (lfB R) (List.drop (i + 1) ws[k]) k := bstP_miss hil (by rw [hpe]; exact decide_eq_false c47)
     refine .skip ?_
     change VOps _ _ _ _ _ _ _ _
     refine .run (l := [7]) (r := []) zz0 (by simp [*, -vlookup] <;> first | exact ⟨rfl, rfl⟩ | exact rfl) ?_
     refine .done ?_
     refine .condF rfl ?_
     refine .skip ?_
     refine .run zz0 (by simp [*, -vlookup] <;> first | exact ⟨rfl, rfl⟩ | exact rfl) ?_
     refine ⟨i, by omega, by omega, (.mk [] [] zz8 zz9 rfl rfl rfl)⟩
   ·try simp at c8
    have hj0 : j = 0 := by omega
    subst hj0
    rw [List.drop_zero, ← hB]
    refine .exit ?_
    change rfEnd _ _ _ _
    refine rf_none rfl ?_
    refine .run zz0 (by simp [*, -vlookup] <;> first | exact ⟨rfl, rfl⟩ | exact rfl) ?_
    refine ⟨k + 1, c28, by omega, (.mk [] [] zz8 zz9 rfl rfl rfl)⟩
 ·try simp at c28
  have hkn : k = ws.length := by omega
  subst hkn
  have hBl := bsM_len ws R ws.length
  have hlen : (mpB (bsM ws R ws.length)).length = cntR R ws.length := by rw [← hBl]; simp [mpB]
  have hbf : lkD (bsM ws R ws.length) = bsF ws R := rfl
  refine .exit ?_
  refine .seq ?_
  refine .seq ?_
  refine .run zz0 (by simp [*, -vlookup] <;> first | exact ⟨rfl, rfl⟩ | exact rfl) ?_
  refine .condS rfl (fun c54 => ?_) (fun c54 => ?_)
  ·try simp at c54
   refine .exit ?_
   refine .seq ?_
   refine .run zz0 (by simp [*, -vlookup] <;> first | exact ⟨rfl, rfl⟩ | exact rfl) ?_
   refine .ret ?_
   refine ⟨_, .agg [ints G, ints R],zz2, frz_deal _ 4 2 G R _ hGl hRl rfl rfl, ⟨G, R, rfl, deal_end hI hGl hRl (by omega) c54⟩⟩
  ·try simp at c54
   refine .skip ?_
   refine .seq ?_
   refine .run zz0 (by simp [*, -vlookup] <;> first | exact ⟨rfl, rfl⟩ | exact rfl) ?_
   refine .block ?_
   refine .loopS (fun st : Nat × List Int × List Int => ([(1, .vp [.vec (ws.map ints)]),(2, .ptr 1 0),(3, .int .i64 ws.length),(4, .ptr 3 0),(5, .ptr 5 0),(6, .int .i64 r),(7, .ptr 7 0),(55, .int .i64 ws.length),(56, .int .i64 st.1)], ⟨8,[(7, .box [.mapv 6]),(6, .map (mpB (bsM ws R ws.length))),(5, .box [.func 143 [] [.ptr 3 0]]),(4, .arr false 1 ((st.2.1).map (.int .i64))),(3, .box [.own 4 0 ws.length ws.length, .own 2 0 ws.length ws.length]),(2, .arr false 1 ((st.2.2).map (.int .i64))),(1, .box [.sl0, .sl0])]⟩)) (fun st => st.1 ≤ ws.length ∧ (st.2.1.length = ws.length ∧ st.2.2.length = ws.length) ∧ (∀ j : Nat, j < ws.length → nx st.2.1 j = if decide (j < st.1) && inC ws R j then bsF ws R j else nx G j) ∧ ∀ j : Nat, j < ws.length → nx st.2.2 j = if decide (j < st.1) && inC ws R j then (r : Int) else nx R j) (fun st => ws.length - st.1) (0, G, R) ⟨Nat.zero_le _, ⟨hGl, hRl⟩, fun j hj => by simp, fun j hj => by simp⟩ (.mk [] [] zz8 zz9 rfl rfl rfl) ?_
   rintro ⟨s, G', R'⟩ ⟨hs, ⟨hGl', hRl'⟩, hG', hR'⟩
   simp only at hs hGl' hRl' hG' hR' ⊢
   refine .seq ?_
   refine .run zz0 (by simp [*, -vlookup] <;> first | exact ⟨rfl, rfl⟩ | exact rfl) ?_
   refine .seq ?_
   refine .condS rfl (fun c57 => ?_) (fun c57 => ?_)
   ·try simp at c57
    have hws : IntKind.i64.wrap ((s : Int) + 1) = (s : Int) + 1 := wrap64 (by omega) (by omega)
    have hx1 := fun (vh : VHeap) h => look53o 6 (s : Int) (bsM ws R ws.length) vh h
    have hx2 := fun (vh : VHeap) h => look53m 6 (s : Int) (bsM ws R ws.length) vh h
    rw [hbf] at hx1 hx2
    have hks : (lkB (bsM ws R ws.length) s).isSome = lfB R s := by rw [bsM_lk ws R ws.length s c57]; cases lfB R s <;> rfl
    refine .skip ?_
    refine .seq ?_
    refine .block ?_
    refine .seq ?_
    refine .run zz0 (by simp [*, -vlookup] <;> first | exact ⟨rfl, rfl⟩ | exact rfl) ?_
    refine .seq ?_
    refine .run zz0 (by simp [*, -vlookup] <;> first | exact ⟨rfl, rfl⟩ | exact rfl) ?_
    refine .seq ?_
    refine .regionL [0,1,2,3,4,5] rfl zz0 ?_
    refine .run (l := [0,1]) (r := [2,3,4,5]) zz0 (by simp [*, -vlookup] <;> first | exact ⟨rfl, rfl⟩ | exact rfl) ?_
    refine .split (t := 66) rfl (fun c66 => ?_) (fun c66 => ?_)
    ·try rw [c66]
     try simp at c66
     refine .run (l := [2,3]) (r := [4,5]) zz0 (by simp [*, -vlookup] <;> first | exact ⟨rfl, rfl⟩ | exact rfl) ?_
     refine .step rfl rfl (.borrow rfl rfl rfl Tryz.call145 (by decide) (by first | (simp <;> rfl) | (simp [*] <;> rfl) | (simp [*]; done)) (p145 (bsM ws R ws.length) s (by rw [hBl]; have := cntR_le R ws.length; omega)) (by rintro _ rfl <;> first | (simp; done) | rfl) ?_)
     rintro _ rfl
     refine .run (l := [5]) (r := []) zz0 (by simp [*, -vlookup] <;> first | exact ⟨rfl, rfl⟩ | exact rfl) ?_
     refine .done ?_
     refine .condS rfl (fun c70 => ?_) (fun c70 => ?_)
     ·try simp at c70
      have hin : inC ws R s = true := by unfold inC; rw [c66, c70]; rfl
      have hsG : s < G'.length := by omega
      have hsR : s < R'.length := by omega
      have hP1 := set_put G' s (bsF ws R s) hsG
      have hP2 := set_put R' s (r : Int) hsR
      have hs1 : s + 1 ≤ ws.length := c57
      refine .drawn (ms := [0,1,0,0,8,0,0,0,192,0,455,1479,4095,8191]) (W := [11,13]) (items := [.op 0, .op 1, .op 2, .op 3, .op 4, .op 5, .op 6, .op 7, .op 8, .op 9, .op 10, .op 11, .ck 4, .op 12, .op 13]) rfl zz0 zz0 zz0 ?_
      refine .rd rfl rfl (by decide) rfl (by decide) (by simp [*, -vlookup] <;> first | exact ⟨rfl, rfl⟩ | exact rfl) ?_   -- 0
      refine .rd rfl rfl (by decide) rfl (by decide) (by simp [*, -vlookup] <;> first | exact ⟨rfl, rfl⟩ | exact rfl) ?_   -- 1
      refine .rd rfl rfl (by decide) rfl (by decide) (by simp [*, -vlookup] <;> first | exact ⟨rfl, rfl⟩ | exact rfl) ?_   -- 2
      refine .rd rfl rfl (by decide) rfl (by decide) (by simp [*, -vlookup] <;> first | exact ⟨rfl, rfl⟩ | exact rfl) ?_   -- 3
      refine .rd rfl rfl (by decide) rfl (by decide) (by simp [*, -vlookup] <;> first | exact ⟨rfl, rfl⟩ | exact rfl) ?_   -- 4
      refine .rd rfl rfl (by decide) rfl (by decide) (by simp [*, -vlookup] <;> first | exact ⟨rfl, rfl⟩ | exact rfl) ?_   -- 5
      refine .rd rfl rfl (by decide) rfl (by decide) (by simp [*, -vlookup] <;> first | exact ⟨rfl, rfl⟩ | exact rfl) ?_   -- 6
      refine .rd rfl rfl (by decide) rfl (by decide) (by simp [*, -vlookup] <;> first | exact ⟨rfl, rfl⟩ | exact rfl) ?_   -- 7
      refine .rd rfl rfl (by decide) rfl (by decide) (by simp [*, -vlookup] <;> first | exact ⟨rfl, rfl⟩ | exact rfl) ?_   -- 8
      refine .rd rfl rfl (by decide) rfl (by decide) (by simp [*, -vlookup] <;> first | exact ⟨rfl, rfl⟩ | exact rfl) ?_   -- 9
      refine .rd rfl rfl (by decide) rfl (by decide) (by simp [*, -vlookup] <;> first | exact ⟨rfl, rfl⟩ | exact rfl) ?_   -- 10
      refine .wr rfl rfl (by decide) (.stor (todo' := [4]) rfl rfl rfl rfl (by simp [*, -vlookup] <;> first | exact ⟨rfl, rfl⟩ | exact rfl) rfl (⟨⟨by decide +kernel, _, _, rfl, (by simp [*, -vlookup] <;> first | exact ⟨rfl, rfl⟩ | exact rfl)⟩, trivial⟩) ?_)   -- 11
      refine .ck rfl zz0 ?_   -- 4
      refine .rd rfl rfl (by decide) rfl (by decide) (by simp [*, -vlookup] <;> first | exact ⟨rfl, rfl⟩ | exact rfl) ?_   -- 12
      refine .wr rfl rfl (by decide) (.vop (by simp [*, -vlookup] <;> first | exact ⟨rfl, rfl⟩ | exact rfl) (by decide) ?_)   -- 13
      refine .done ?_
      refine .run zz0 (by simp [*, -vlookup] <;> first | exact ⟨rfl, rfl⟩ | exact rfl) ?_
      refine ⟨(s + 1, G'.set s (bsF ws R s), R'.set s (r : Int)), ⟨c57, ⟨by simp [hGl'], by simp [hRl']⟩, fun j hj => ?_, fun j hj => ?_⟩, by simp only; omega, (.mk [] [] zz8 zz9 rfl rfl rfl)⟩
      ·simp only; rw [nx_set _ hsG, hG' j hj]; exact put_eq hin
      ·simp only; rw [nx_set _ hsR, hR' j hj]; exact put_eq (b := fun _ => (r : Int)) hin
     ·try simp at c70
      have hin : inC ws R s = false := by unfold inC; rw [c66, c70]; rfl
      refine .skip ?_
      refine .run zz0 (by simp [*, -vlookup] <;> first | exact ⟨rfl, rfl⟩ | exact rfl) ?_
      refine ⟨(s + 1, G', R'), ⟨c57, ⟨hGl', hRl'⟩, fun j hj => ?_, fun j hj => ?_⟩, by simp only; omega, (.mk [] [] zz8 zz9 rfl rfl rfl)⟩
      ·simp only; rw [hG' j hj, skip_eq hin]
      ·simp only; rw [hR' j hj, skip_eq hin]
    ·try rw [c66]
     try simp at c66
     have hin : inC ws R s = false := by unfold inC; rw [c66]; rfl
     refine .run (l := [2,3,4,5]) (r := []) zz0 (by simp [*, -vlookup] <;> first | exact ⟨rfl, rfl⟩ | exact rfl) ?_
     refine .done ?_
     refine .condF rfl ?_
     refine .skip ?_
     refine .run zz0 (by simp [*, -vlookup] <;> first | exact ⟨rfl, rfl⟩ | exact rfl) ?_
     refine ⟨(s + 1, G', R'), ⟨c57, ⟨hGl', hRl'⟩, fun j hj => ?_, fun j hj => ?_⟩, by simp only; omega, (.mk [] [] zz8 zz9 rfl rfl rfl)⟩
     ·simp only; rw [hG' j hj, skip_eq hin]
     ·simp only; rw [hR' j hj, skip_eq hin]
   ·try simp at c57
    refine .exit ?_
    refine .run zz0 (by simp [*, -vlookup] <;> first | exact ⟨rfl, rfl⟩ | exact rfl) ?_
    have hsn : s = ws.length := by omega
    subst hsn
    obtain ⟨hS1, hS2⟩ := deal_step hm hI hr1 c54 (G' := G') (R' := R') (fun j hj => by rw [hG' j hj, decide_eq_true hj, Bool.true_and]) (fun j hj => by rw [hR' j hj, decide_eq_true hj, Bool.true_and])
    refine ⟨(r + 1, G', R'), ⟨⟨hGl', hRl'⟩, ⟨by simp only; omega, by simp only; omega⟩, hS1⟩, hS2,(.mk [] [] zz8 zz9 rfl rfl rfl)⟩
end Go.Am.Hi
end
