/-
  What is used in the proof of a statement (part HiC); no condition.
-/
import Derived.Test.YtmgglkdilpglgaaGreatHiZ
import Derived.Test.YtmgglkdilpglgaaGreatVm2
import Derived.Test.YtmgglkdilpglgaaGreatHiT
import Derived.Test.YtmgglkdilpglgaaGreatHiB
set_option linter.all false
section
namespace Go.Am.Hi
open Go Go.Am Go.Proofs
set_option maxRecDepth 100000
set_option maxHeartbeats 4000000
set_option linter.unusedSimpArgs false
set_option linter.unusedVariables false
attribute [local simp] vrun vwanted vyielded vop vopA vputAll VHeap.back hidI hidF backL bm Nat.testBit_eq_decide_div_mod_eq veval vevals vparts vO vbuiltin vlen vappend velems vcopy vmakeSlice vbuildSlice valloc vbox vmakeMap vload vpartT vpart vstore vfieldAddr vfield vindexAddr vindex vextract vslice vsliceZ vbounds vbnd zeroO vidx vlookup vmget vmapUpdate vdelete vclear vnilq vnilp vnils vbin vsc vsc1 vscs vscl abinOp aint ashift aunOp aconvert amaxs amax2 pvcV pvc pvcs tput tget vargs VHeap.get VHeap.alloc VHeap.put VHeap.drop VHeap.empty vlook vput vdrop psplice pfill preps chunk List.range List.range.loop vresults vresult vresultV frz frzL PV.isF PV.allF PV.scal PV.allS retP subT allFT PV.one PV.ids PV.idsL dropL beq_eq ble_dec blt_dec
def expE (n : Int) (F : List (Int × Int)) : Int := if 1 ≤ n ∧ n ≤ 24 then (if 24 < F.length then 2 else fndE n [] F) else 1
def expL (n : Int) (F : List (Int × Int)) : List Int := if expE n F = 0 then rowX n.toNat F else []
def expN (n : Int) (F : List (Int × Int)) (lp : List Int → Nat) : Int := if expE n F = 0 then n - lp (rowX n.toNat F) else 0
theorem expE_one {n : Int} {F : List (Int × Int)} (h : ¬(1 ≤ n ∧ n ≤ 24)) : expE n F = 1 := if_neg h
theorem expE_in {n : Int} {F : List (Int × Int)} (h : 1 ≤ n ∧ n ≤ 24) (h2 : ¬24 < F.length) : expE n F = fndE n [] F := by rw [expE, if_pos h, if_neg h2]
theorem expE_two {n : Int} {F : List (Int × Int)} (h : 1 ≤ n ∧ n ≤ 24) (h2 : 24 < F.length) : expE n F = 2 := by rw [expE, if_pos h, if_pos h2]
def FI (n : Nat) (F : List (Int × Int)) (k : Nat) : Prop := k ≤ F.length ∧ fndE n (F.take k) (F.drop k) = fndE n [] F ∧ FOK n (F.take k)
theorem FI.zero (n : Nat) (F : List (Int × Int)) : FI n F 0 := ⟨Nat.zero_le _, by simp, by simpa using FOK.nil n⟩
theorem sw_snoc (F : List (Int × Int)) (x : Int × Int) : sw (F ++ [x]) = sw F ++ [(x.2, x.1)] := by simp [sw]
theorem look53 (i : Nat) (n : Int) (F : List (Int × Int)) (vh : VHeap) (hg : vh.get i = some (.map (mpI F))) : vlookup Tryz.prog vh 53 (.mapv i) (.int .i64 n) true = some (.tup [.int .i64 ((lk F n).getD 0), .bool (lk F n).isSome]) := by
  have h1 := pfind_mpI n F
  simp only [vlookup, vmget, hg]
  cases h : lk F n <;> rw [h] at h1 <;> simp [h1]
theorem velems_own (vh : VHeap) (i k : Nat) (l : List Int) (hg : vh.get i = some (.arr false 1 (l.map (PV.int .i64)))) : velems vh 1 (.own i 0 l.length k) = some (l.map (PV.int .i64)) := by
  have h2 : (l.map (PV.int .i64)).take l.length = l.map (PV.int .i64) := by
    have := List.take_length (l := l.map (PV.int .i64)); simpa using this
  simp only [hg, velems, all_one_int, beq_eq, ble_dec, List.drop_zero, chunk, cond_false, h2, List.length_map]
  simp
theorem soft_exp (e : Int) : Soft (.tup [.sl0, .int .i64 0, .int .i64 e]) (.tup [ints [], .int .i64 0, .int .i64 e]) := soft_tup (AltL.cons .sl0v (AltL.cons (.same _ rfl) (AltL.cons (.same _ rfl) AltL.nil)))
theorem p46 (n : Int) (F : List (Int × Int)) (hl : F.length < 4294967296) (hrow : expE n F = 0 → rowB (rowX n.toNat F) = true) : VPure Tryz.prog 46 [.int .i64 n, .vec (F.map encX)] fun r => Soft r (.tup [ints (expL n F), .int .i64 (expN n F fun r => (lpH r r.length).length), .int .i64 (expE n F)]) := by
  refine .of_body Tryz.func46 rfl rfl ?_
  refine .seq ?_
  refine .run zz0 (by simp [*, -vlookup] <;> first | exact ⟨rfl, rfl⟩ | exact rfl) ?_
  refine .seq ?_
  refine .seq ?_
  refine .regionL [0,1,2] rfl zz0 ?_
  refine .run (l := [0]) (r := [1,2]) zz0 (by simp [*, -vlookup] <;> first | exact ⟨rfl, rfl⟩ | exact rfl) ?_
  refine .step rfl rfl (.pure rfl rfl rfl Tryz.call70 (by decide) (p70 n 1 24) (by first | rfl | simp [*]) ?_)
  rintro _ rfl
  refine .run (l := [2]) (r := []) zz0 (by simp [*, -vlookup] <;> first | exact ⟨rfl, rfl⟩ | exact rfl) ?_
  refine .done ?_
  refine .condS rfl (fun c24 => ?_) (fun c24 => ?_)
  · try simp at c24
    refine .seq ?_
    refine .run zz0 (by simp [*, -vlookup] <;> first | exact ⟨rfl, rfl⟩ | exact rfl) ?_
    refine .ret ?_
    refine ⟨_, _, zz2,zz2, ?_⟩
    have e := expE_one (F := F) (n := n) (by omega)
    simp only [expL, expN, e]
    exact soft_exp 1
  · try simp at c24
    refine .skip ?_
    refine .seq ?_
    refine .seq ?_
    refine .run zz0 (by simp [*, -vlookup] <;> first | exact ⟨rfl, rfl⟩ | exact rfl) ?_
    refine .condS rfl (fun c27 => ?_) (fun c27 => ?_)
    · try simp at c27
      refine .seq ?_
      refine .run zz0 (by simp [*, -vlookup] <;> first | exact ⟨rfl, rfl⟩ | exact rfl) ?_
      refine .ret ?_
      refine ⟨_, _, zz2,zz2, ?_⟩
      have e := expE_two (F := F) c24 (by omega)
      simp only [expL, expN, e]
      exact soft_exp 2
    · try simp at c27
      obtain ⟨m, rfl⟩ : ∃ m : Nat, n = m := ⟨n.toNat, by omega⟩
      have hm1 : 1 ≤ m := by omega
      have hm2 : m ≤ 24 := by omega
      have hE := expE_in (F := F) c24 (by omega)
      have hwm : IntKind.i64.wrap ((m : Int) - 1) = (m : Int) - 1 := wrap64 (by omega) (by omega)
      have hFl : F.length ≤ 24 := by omega
      have hm3 : (m : Int) ≤ 4294967296 := by omega
      have hz := cutX_zero m F
      refine .skip ?_
      refine .seq ?_
      refine .run zz0 (by simp [*, -vlookup] <;> first | exact ⟨rfl, rfl⟩ | exact rfl) ?_
      refine .seq ?_
      refine .seq ?_
      refine .run zz0 (by simp [*, -vlookup] <;> first | exact ⟨rfl, rfl⟩ | exact rfl) ?_
      refine .block ?_
      refine .loopS (fun k : Nat => ([(0, .int .i64 m),(7, .mapv 0),(8, .mapv 1),(30, .vec (F.map encX)),(31, .int .i64 F.length),(32, .int .i64 k)], ⟨2,[(1, .map (mpI (sw (F.take k)))),(0, .map (mpI (F.take k)))]⟩)) (fun k => FI m F k) (fun k => F.length - k) 0 (FI.zero m F) (.mk [] [] zz4 zz5 rfl rfl rfl) ?_
      rintro k ⟨hk, hf, hok⟩
      simp only at hk hf hok ⊢
      obtain ⟨G, hG⟩ : ∃ G, F.take k = G := ⟨_, rfl⟩
      rw [hG]
      rw [hG] at hok
      refine .seq ?_
      refine .run zz0 (by simp [*, -vlookup] <;> first | exact ⟨rfl, rfl⟩ | exact rfl) ?_
      refine .seq ?_
      refine .condS rfl (fun c33 => ?_) (fun c33 => ?_)
      · try simp at c33
        have hw2 : IntKind.i64.wrap ((k : Int) + 1) = (k : Int) + 1 := wrap64 (by omega) (by omega)
        rw [fndE_drop c33, hG] at hf
        have hx1 := look53 0 F[k].1 G
        have hx2 := look53 1 F[k].2 (sw G)
        have hEx : encX F[k] = .agg [.int .i64 F[k].1, .int .i64 F[k].2] := rfl
        refine .skip ?_
        refine .seq ?_
        refine .block ?_
        refine .seq ?_
        refine .run zz0 (by simp [*, -vlookup] <;> first | exact ⟨rfl, rfl⟩ | exact rfl) ?_
        refine .seq ?_
        refine .seq ?_
        refine .regionL [0,1,2,3,4,5,6,7,8,9,10,11,12,13] rfl zz0 ?_
        refine .run (l := [0,1,2,3]) (r := [4,5,6,7,8,9,10,11,12,13]) zz0 (by simp [*, -vlookup] <;> first | exact ⟨rfl, rfl⟩ | exact rfl) ?_
        refine .step rfl rfl (.pure rfl rfl rfl Tryz.call70 (by decide) (p70 F[k].1 0 ((m : Int) - 1)) (by first | rfl | simp [*]) ?_)
        rintro _ rfl
        refine .run (l := [5,6]) (r := [7,8,9,10,11,12,13]) zz0 (by simp [*, -vlookup] <;> first | exact ⟨rfl, rfl⟩ | exact rfl) ?_
        refine .split (t := 42) rfl (fun c42 => ?_) (fun c42 => ?_)
        · try rw [c42]
          try simp at c42
          refine .run (l := [7,8,9,10,11,12,13]) (r := []) zz0 (by simp [*, -vlookup] <;> first | exact ⟨rfl, rfl⟩ | exact rfl) ?_
          refine .done ?_
          refine .condT rfl ?_
          refine .seq ?_
          refine .run zz0 (by simp [*, -vlookup] <;> first | exact ⟨rfl, rfl⟩ | exact rfl) ?_
          refine .ret ?_
          refine ⟨_, _, zz2,zz2, ?_⟩
          have e : expE m F = 1 := by rw [hE, ← hf, inF_no (fun h => by omega)]; rfl
          simp only [expL, expN, e]
          exact soft_exp 1
        · try rw [c42]
          try simp at c42
          refine .run (l := [7,8,9,10]) (r := [11,12,13]) zz0 (by simp [*, -vlookup] <;> first | exact ⟨rfl, rfl⟩ | exact rfl) ?_
          refine .step rfl rfl (.pure rfl rfl rfl Tryz.call70 (by decide) (p70 F[k].2 0 ((m : Int) - 1)) (by first | rfl | simp [*]) ?_)
          rintro _ rfl
          refine .run (l := [12,13]) (r := []) zz0 (by simp [*, -vlookup] <;> first | exact ⟨rfl, rfl⟩ | exact rfl) ?_
          refine .done ?_
          refine .condS rfl (fun c49 => ?_) (fun c49 => ?_)
          · try simp at c49
            refine .seq ?_
            refine .run zz0 (by simp [*, -vlookup] <;> first | exact ⟨rfl, rfl⟩ | exact rfl) ?_
            refine .ret ?_
            refine ⟨_, _, zz2,zz2, ?_⟩
            have e : expE m F = 1 := by rw [hE, ← hf, inF_no (fun h => by omega)]; rfl
            simp only [expL, expN, e]
            exact soft_exp 1
          · try simp at c49
            refine .skip ?_
            refine .seq ?_
            refine .run zz0 (by simp [*, -vlookup] <;> first | exact ⟨rfl, rfl⟩ | exact rfl) ?_
            refine .seq ?_
            refine .run zz0 (by simp [*, -vlookup] <;> first | exact ⟨rfl, rfl⟩ | exact rfl) ?_
            refine .seq ?_
            refine .seq ?_
            refine .regionL [0,1,2,3] rfl zz0 ?_
            refine .run (l := [0,1]) (r := [2,3]) zz0 (by simp [*, -vlookup] <;> first | exact ⟨rfl, rfl⟩ | exact rfl) ?_
            refine .split (t := 65) rfl (fun c65 => ?_) (fun c65 => ?_)
            · try rw [c65]
              try simp at c65
              refine .run (l := [2,3]) (r := []) zz0 (by simp [*, -vlookup] <;> first | exact ⟨rfl, rfl⟩ | exact rfl) ?_
              refine .done ?_
              refine .condT rfl ?_
              refine .seq ?_
              refine .run zz0 (by simp [*, -vlookup] <;> first | exact ⟨rfl, rfl⟩ | exact rfl) ?_
              refine .ret ?_
              refine ⟨_, _, zz2,zz2, ?_⟩
              obtain ⟨v, hv⟩ := Option.isSome_iff_exists.1 c65
              have e : expE m F = 9 := by rw [hE, ← hf, if_pos (inF_iff.2 ⟨c42, c49⟩), if_pos (clF_yes1 hv)]
              simp only [expL, expN, e]
              exact soft_exp 9
            · try rw [c65]
              try simp at c65
              refine .run (l := [2,3]) (r := []) zz0 (by simp [*, -vlookup] <;> first | exact ⟨rfl, rfl⟩ | exact rfl) ?_
              refine .done ?_
              refine .condS rfl (fun c67 => ?_) (fun c67 => ?_)
              · try simp at c67
                refine .seq ?_
                refine .run zz0 (by simp [*, -vlookup] <;> first | exact ⟨rfl, rfl⟩ | exact rfl) ?_
                refine .ret ?_
                refine ⟨_, _, zz2,zz2, ?_⟩
                obtain ⟨v, hv⟩ := Option.isSome_iff_exists.1 c67
                have e : expE m F = 9 := by rw [hE, ← hf, if_pos (inF_iff.2 ⟨c42, c49⟩), if_pos (clF_yes2 hv)]
                simp only [expL, expN, e]
                exact soft_exp 9
              · try simp at c67
                have hp1 := pmset_mpI F[k].1 F[k].2 G c65
                have hp2 := pmset_mpI F[k].2 F[k].1 (sw G) c67
                have hT : F.take (k + 1) = G ++ [F[k]] := by rw [List.take_succ_eq_append_getElem c33, hG]
                have hM1 : mpI (F.take (k + 1)) = mpI (G ++ [(F[k].1, F[k].2)]) := by rw [hT]
                have hM2 : mpI (sw (F.take (k + 1))) = mpI (sw G ++ [(F[k].2, F[k].1)]) := by rw [hT, sw_snoc]
                rw [if_pos (inF_iff.2 ⟨c42, c49⟩), if_neg (by rw [clF_no c65 c67]; simp)] at hf
                have hok2 : FOK m (F.take (k + 1)) := by rw [hT]; exact hok.snoc (by omega) c65 c67
                clear hT
                refine .skip ?_
                refine .drawn (ms := [0,0,2,0,0,16,0,64,0,256,199,2047]) (W := [10,11]) (items := [.op 0, .op 1, .op 2, .op 3, .op 4, .op 5, .op 6, .op 7, .op 8, .op 9, .op 10, .ck 9, .ck 5, .op 11]) rfl zz0 zz0 zz0 ?_
                refine .rd rfl rfl (by decide) rfl (by decide) (by simp [*, -vlookup] <;> first | exact ⟨rfl, rfl⟩ | exact rfl) ?_   -- 0
                refine .rd rfl rfl (by decide) rfl (by decide) (by simp [*, -vlookup] <;> first | exact ⟨rfl, rfl⟩ | exact rfl) ?_   -- 1
                refine .rd rfl rfl (by decide) rfl (by decide) (by simp [*, -vlookup] <;> first | exact ⟨rfl, rfl⟩ | exact rfl) ?_   -- 2
                refine .rd rfl rfl (by decide) rfl (by decide) (by simp [*, -vlookup] <;> first | exact ⟨rfl, rfl⟩ | exact rfl) ?_   -- 3
                refine .rd rfl rfl (by decide) rfl (by decide) (by simp [*, -vlookup] <;> first | exact ⟨rfl, rfl⟩ | exact rfl) ?_   -- 4
                refine .rd rfl rfl (by decide) rfl (by decide) (by simp [*, -vlookup] <;> first | exact ⟨rfl, rfl⟩ | exact rfl) ?_   -- 5
                refine .rd rfl rfl (by decide) rfl (by decide) (by simp [*, -vlookup] <;> first | exact ⟨rfl, rfl⟩ | exact rfl) ?_   -- 6
                refine .rd rfl rfl (by decide) rfl (by decide) (by simp [*, -vlookup] <;> first | exact ⟨rfl, rfl⟩ | exact rfl) ?_   -- 7
                refine .rd rfl rfl (by decide) rfl (by decide) (by simp [*, -vlookup] <;> first | exact ⟨rfl, rfl⟩ | exact rfl) ?_   -- 8
                refine .rd rfl rfl (by decide) rfl (by decide) (by simp [*, -vlookup] <;> first | exact ⟨rfl, rfl⟩ | exact rfl) ?_   -- 9
                refine .wr rfl rfl (by decide) (.mput (todo' := [9,5]) rfl rfl rfl rfl (by simp [*, -vlookup] <;> first | exact ⟨rfl, rfl⟩ | exact rfl) rfl (⟨⟨by decide +kernel, _, _, rfl, (by simp [*, -vlookup] <;> first | exact ⟨rfl, rfl⟩ | exact rfl)⟩, ⟨⟨by decide +kernel, _, _, rfl, (by simp [*, -vlookup] <;> first | exact ⟨rfl, rfl⟩ | exact rfl)⟩, trivial⟩⟩) ?_)   -- 10
                refine .ck rfl zz0 ?_   -- 9
                refine .ck rfl zz0 ?_   -- 5
                refine .wr rfl rfl (by decide) (.vop (by simp [*, -vlookup] <;> first | exact ⟨rfl, rfl⟩ | exact rfl) (by decide) ?_)   -- 11
                refine .done ?_
                refine .run zz0 (by simp [*, -vlookup] <;> first | exact ⟨rfl, rfl⟩ | exact rfl) ?_
                refine ⟨k + 1, ⟨c33, hf, hok2⟩, zz3,(.mk [] [] zz4 zz5 rfl rfl rfl)⟩
      · try simp at c33
        have hkn : k = F.length := by omega
        have hGF : G = F := by rw [← hG, hkn, List.take_length]
        subst hGF
        have hE0 : expE m G = 0 := by rw [hE, ← hf, hkn, List.drop_length]; rfl
        have hrw := hrow hE0
        refine .exit ?_
        refine .seq ?_
        refine .run zz0 (by simp [*, -vlookup] <;> first | exact ⟨rfl, rfl⟩ | exact rfl) ?_
        refine .seq ?_
        refine .seq ?_
        refine .run zz0 (by simp [*, -vlookup] <;> first | exact ⟨rfl, rfl⟩ | exact rfl) ?_
        refine .block ?_
        refine .loopS (fun c : Nat => ([(0, .int .i64 m),(7, .mapv 0),(8, .mapv 1),(15, .own 2 0 m m),(82, .int .i64 m),(83, .int .i64 c)], ⟨3,[(2, .arr false 1 ((cutX m G c).map (.int .i64))),(1, .map (mpI (sw G))),(0, .map (mpI G))]⟩)) (fun c => c ≤ m) (fun c => m - c) 0 (by simp) (.mk [] [] zz4 zz5 rfl rfl rfl) ?_
        rintro c hc
        simp only at hc ⊢
        have hx1 := look53 0 c G
        have hcl := cutX_len m G c
        refine .seq ?_
        refine .run zz0 (by simp [*, -vlookup] <;> first | exact ⟨rfl, rfl⟩ | exact rfl) ?_
        refine .seq ?_
        refine .condS rfl (fun c84 => ?_) (fun c84 => ?_)
        · try simp at c84
          have hwc : IntKind.i64.wrap ((c : Int) + 1) = (c : Int) + 1 := wrap64 (by omega) (by omega)
          have hcm : c + 1 ≤ m := c84
          have hput := set_put (cutX m G c) c (cellX m G c) (by omega)
          rw [cutX_put m G c c84] at hput
          refine .skip ?_
          refine .seq ?_
          refine .block ?_
          refine .seq ?_
          refine .run zz0 (by simp [*, -vlookup] <;> first | exact ⟨rfl, rfl⟩ | exact rfl) ?_
          refine .seq ?_
          refine .seq ?_
          refine .run zz0 (by simp [*, -vlookup] <;> first | exact ⟨rfl, rfl⟩ | exact rfl) ?_
          refine .seq ?_
          refine .run zz0 (by simp [*, -vlookup] <;> first | exact ⟨rfl, rfl⟩ | exact rfl) ?_
          refine .condS rfl (fun c92 => ?_) (fun c92 => ?_)
          · try simp at c92
            obtain ⟨v, hv⟩ := Option.isSome_iff_exists.1 c92
            have hcv : cellX m G c = v := by rw [cellX, hv]
            rw [hcv] at hput
            refine .seq ?_
            refine .run zz0 (by simp [*, -vlookup] <;> first | exact ⟨rfl, rfl⟩ | exact rfl) ?_
            refine .exit ?_
            refine .run zz0 (by simp [*, -vlookup] <;> first | exact ⟨rfl, rfl⟩ | exact rfl) ?_
            refine ⟨c + 1, c84,zz3,(.mk [] [] zz4 zz5 rfl rfl rfl)⟩
          · try simp at c92
            refine .skip ?_
            refine .seq ?_
            refine .run zz0 (by simp [*, -vlookup] <;> first | exact ⟨rfl, rfl⟩ | exact rfl) ?_
            refine .seq ?_
            refine .block ?_
            refine .loopS (fun s : Nat × List Int => ([(0, .int .i64 m),(7, .mapv 0),(8, .mapv 1),(15, .own 2 0 m m),(16, .int .i64 c),(19, .int .i64 s.1),(82, .int .i64 m),(83, .int .i64 c)], ⟨3,[(2, .arr false 1 ((cutX m G c).map (.int .i64))),(1, .map (mpI (sw G))),(0, .map (mpI G))]⟩)) (fun s => WB m G c s.1 s.2) (fun s => m - s.2.length) (c, []) (WB.zero c84) (.mk [] [] zz4 zz5 rfl rfl rfl) ?_
            rintro ⟨a, l⟩ hW
            simp only at hW ⊢
            have hWl := hW.len
            have hx2 := look53 1 a (sw G)
            refine .block ?_
            refine .seq ?_
            refine .run zz0 (by simp [*, -vlookup] <;> first | exact ⟨rfl, rfl⟩ | exact rfl) ?_
            refine .seq ?_
            refine .seq ?_
            refine .run zz0 (by simp [*, -vlookup] <;> first | exact ⟨rfl, rfl⟩ | exact rfl) ?_
            refine .condS rfl (fun c105 => ?_) (fun c105 => ?_)
            · try simp at c105
              have hst := hW.stop c105
              have hcv : cellX m G c = a := by rw [cellX, c92, hst]
              rw [hcv] at hput
              refine .exit ?_
              refine .run zz0 (by simp [*, -vlookup] <;> first | exact ⟨rfl, rfl⟩ | exact rfl) ?_
              refine .run zz0 (by simp [*, -vlookup] <;> first | exact ⟨rfl, rfl⟩ | exact rfl) ?_
              refine ⟨c + 1, c84,zz3,(.mk [] [] zz4 zz5 rfl rfl rfl)⟩
            · try simp at c105
              obtain ⟨v, hv⟩ := Option.isSome_iff_exists.1 c105
              obtain ⟨hv0, hN⟩ := hW.next hok c92 hv
              have hvt : ((v.toNat : Nat) : Int) = v := Int.toNat_of_nonneg hv0
              refine .skip ?_
              refine .run zz0 (by simp [*, -vlookup] <;> first | exact ⟨rfl, rfl⟩ | exact rfl) ?_
              refine ⟨(v.toNat, (a : Int) :: l), hN, by simp; omega, (.mk [] [] zz4 zz5 rfl rfl rfl)⟩
        · try simp at c84
          have hcn : c = m := by omega
          have hcX : cutX m G c = rowX m G := by rw [hcn, cutX_all]
          have hrl : (rowX m G).length = m := by rw [← hcX, hcl]
          have hvel : ∀ vh : VHeap, vh.get 2 = some (.arr false 1 ((cutX m G c).map (.int .i64))) → velems vh 1 (.own 2 0 m m) = some ((rowX m G).map (.int .i64)) := fun vh hg => by
            have hv2 := velems_own vh 2 m (rowX m G) (by rw [← hcX]; exact hg)
            rw [hrl] at hv2; exact hv2
          have hrw2 : rowB (rowX m G) = true := by simpa using hrw
          have hlp := lpH_len (rowX m G) (rowX m G).length
          have hwr : IntKind.i64.wrap ((m : Int) - (lpH (rowX m G) (rowX m G).length).length) = (m : Int) - (lpH (rowX m G) (rowX m G).length).length := wrap64 (by omega) (by omega)
          refine .exit ?_
          refine .seq ?_
          refine .rec (vts2 := [(0, .int .i64 m),(15, ints (rowX m G))]) (vh2 := ⟨0,[]⟩) (.mk [0,1,2] [] (by repeat' (first | exact trivial | refine And.intro (Exists.intro _ (And.intro rfl ?_)) ?_ | exact Alt.fown 2 0 m m false 1 _ _ rfl rfl (hvel _ rfl) | (refine Alt.same _ ?_; first | rfl | (simp [*]; done)))) zz5 rfl rfl rfl) ?_
          refine .regionL [0,1,2,3,4,5,6,7,8] rfl zz0 ?_
          refine .run (l := [0,1,2]) (r := [3,4,5,6,7,8]) zz0 (by simp [*, -vlookup] <;> first | exact ⟨rfl, rfl⟩ | exact rfl) ?_
          refine .step rfl rfl (.pure rfl rfl rfl Tryz.call110 (by decide) (p110 (rowX m G) hrw2) (by first | rfl | simp [*]) ?_)
          rintro _ rfl
          refine .run (l := [4,5,6,7,8]) (r := []) zz0 (by simp [*, -vlookup] <;> first | exact ⟨rfl, rfl⟩ | exact rfl) ?_
          refine .done ?_
          refine .ret ?_
          rw [hrl] at hwr
          refine ⟨_, .tup [ints (rowX m G), .int .i64 ((m : Int) - (lpH (rowX m G) m).length), .int .i64 0],zz2,(by simp [hwr]), ?_⟩
          simp only [expL, expN, hE0, if_true, Int.toNat_natCast, hrl]
          exact soft_rfl rfl
theorem p46' (n : Int) (F : List (Int × Int)) (hl : F.length < 4294967296) (hrow : expE n F = 0 → rowB (rowX n.toNat F) = true) : VPure Tryz.prog 46 [.int .i64 n, .vec (F.map encX)] fun r => r = .tup [ints (expL n F), .int .i64 (expN n F fun r => (lpH r r.length).length), .int .i64 (expE n F)] := VPure.soft (p46 n F hl hrow) rfl
end Go.Am.Hi
end

section
namespace Go.Am.Hi
open Go Go.Am Go.Proofs
set_option maxRecDepth 100000
set_option maxHeartbeats 4000000
set_option linter.unusedSimpArgs false
set_option linter.unusedVariables false
attribute [local simp] vrun vwanted vyielded vop vopA vputAll VHeap.back hidI hidF backL bm Nat.testBit_eq_decide_div_mod_eq veval vevals vparts vO vbuiltin vlen vappend velems vcopy vmakeSlice vbuildSlice valloc vbox vmakeMap vload vpartT vpart vstore vfieldAddr vfield vindexAddr vindex vextract vslice vsliceZ vbounds vbnd zeroO vidx vlookup vmget vmapUpdate vdelete vclear vnilq vnilp vnils vbin vsc vsc1 vscs vscl abinOp aint ashift aunOp aconvert amaxs amax2 pvcV pvc pvcs tput tget vargs VHeap.get VHeap.alloc VHeap.put VHeap.drop VHeap.empty vlook vput vdrop psplice pfill preps chunk List.range List.range.loop vresults vresult vresultV frz frzL PV.isF PV.allF PV.scal PV.allS retP subT allFT PV.one PV.ids PV.idsL dropL beq_eq ble_dec blt_dec
def cutG (f : Nat → Int) (n k : Nat) : List Int := (List.range n).map fun (c : Nat) => if c < k then f c else 0
theorem cutG_len (f : Nat → Int) (n k : Nat) : (cutG f n k).length = n := by simp [cutG, -List.range, -List.range.loop]
theorem cutG_zero (f : Nat → Int) (n : Nat) : List.replicate n (PV.int .i64 0) = (cutG f n 0).map (PV.int .i64) := by
  simp [cutG, -List.range, -List.range.loop, Function.comp_def, List.map_const']
theorem cutG_put (f : Nat → Int) (n k : Nat) (h : k < n) : (cutG f n k).set k (f k) = cutG f n (k + 1) := by
  apply List.ext_getElem?
  intro i
  by_cases hi : i < n
  · have e : ∀ j, (cutG f n j)[i]? = some (if i < j then f i else 0) := fun j => by
      simp [cutG, hi, -List.range, -List.range.loop]
    rw [List.getElem?_set, e, e, cutG_len]
    by_cases h1 : k = i
    · subst h1; simp [h]
    · rw [if_neg h1]
      by_cases h2 : i < k
      · rw [if_pos h2, if_pos (by omega)]
      · rw [if_neg h2, if_neg (by omega)]
  · rw [List.getElem?_eq_none (by simp [cutG_len]; omega), List.getElem?_eq_none (by rw [cutG_len]; omega)]
def arrO (n : Nat) (F : List (Int × Int)) : List Int := (List.range n).map fun (c : Nat) => (lk F c).getD (-1)
theorem arrO_len (n : Nat) (F : List (Int × Int)) : (arrO n F).length = n := by simp [arrO, -List.range, -List.range.loop]
theorem arrO_get (n : Nat) (F : List (Int × Int)) (c : Nat) (h : c < n) : (arrO n F)[c]? = some ((lk F c).getD (-1)) := by simp [arrO, h, -List.range, -List.range.loop]
theorem arrO_nil (n : Nat) : cutG (fun _ => -1) n n = arrO n [] := by
  unfold cutG arrO
  apply List.map_congr_left
  intro c hc
  rw [if_pos (List.mem_range.1 hc)]
  rfl
theorem lk_snoc (F : List (Int × Int)) (a v c : Int) : lk (F ++ [(a, v)]) c = match lk F c with | some u => some u | none => if a = c then some v else none := by
  unfold lk
  rw [List.find?_append]
  cases h : F.find? fun p => decide (p.1 = c) with
  | some p => simp
  | none => by_cases h2 : a = c <;> simp [h2]
theorem arrO_put (n : Nat) (F : List (Int × Int)) (a : Nat) (v : Int) (h : a < n) (h1 : lk F a = none ∨ lk F a = some v) : (arrO n F).set a v = arrO n (F ++ [((a : Int), v)]) := by
  apply List.ext_getElem?
  intro i
  by_cases hi : i < n
  · rw [List.getElem?_set, arrO_get _ _ _ hi, arrO_get _ _ _ hi, arrO_len, lk_snoc]
    by_cases h2 : a = i
    · subst h2
      rw [if_pos rfl, if_pos h]
      rcases h1 with h1 | h1 <;> rw [h1] <;> simp
    · rw [if_neg h2]
      have : ¬((a : Int) = i) := by omega
      cases lk F i <;> simp [this]
  · rw [List.getElem?_eq_none (by simp [arrO_len]; omega), List.getElem?_eq_none (by rw [arrO_len]; omega)]
def clo (n : Nat) (F : List (Int × Int)) : Nat → List (Int × Int)
  | 0 => F
  | c + 1 => match lk (clo n F c) c with
    | some _ => clo n F c
    | none => clo n F c ++ [((c : Int), bck (clo n F c) (n + 1) c)]
def rowR (n : Nat) (F : List (Int × Int)) : List Int := arrO n (clo n F n)
theorem WB.ends {n : Nat} {F : List (Int × Int)} (hF : FOK n F) {c : Int} (hc : lk F c = none) : ∀ (k a : Nat) (l : List Int), k + l.length = n → WB n F c a l → ∃ s : Nat, bck F (n + 1) c = s ∧ s < n ∧ lk (sw F) s = none
  | 0, a, l, hk, h => by have := h.len; omega
  | k + 1, a, l, hk, h => by
    cases hs : lk (sw F) a with
    | none => exact ⟨a, h.stop hs, h.1, hs⟩
    | some f =>
      exact WB.ends hF hc k f.toNat ((a : Int) :: l) (by rw [List.length_cons]; omega) (h.next hF hc hs).2
theorem bck_ends {n : Nat} {F : List (Int × Int)} (hF : FOK n F) {c : Nat} (h : c < n) (hc : lk F c = none) : ∃ s : Nat, bck F (n + 1) c = s ∧ s < n ∧ lk (sw F) s = none := WB.ends hF hc n c [] (by simp) (WB.zero h)
theorem clo_ok {n : Nat} {F : List (Int × Int)} (hF : FOK n F) : ∀ c, c ≤ n → FOK n (clo n F c)
  | 0, _ => hF
  | c + 1, h => by
    have ih := clo_ok hF c (by omega)
    unfold clo
    split
    · exact ih
    · rename_i hc
      obtain ⟨s, h1, h2, h3⟩ := bck_ends ih (by omega) hc
      rw [h1]
      exact ih.snoc (by simp only; omega) hc h3
theorem lk_pos {n : Nat} {F : List (Int × Int)} (hF : FOK n F) {c v : Int} (h : lk F c = some v) : 0 ≤ v ∧ v < n := (hF.1 _ (lk_some h)).2
theorem lk_sw_pos {n : Nat} {F : List (Int × Int)} (hF : FOK n F) {c v : Int} (h : lk (sw F) c = some v) : 0 ≤ v ∧ v < n := (hF.1 _ (lk_sw_some h)).1
theorem lk_get_none {F : List (Int × Int)} {c : Int} (h : (lk F c).getD (-1) < 0) (hp : ∀ v, lk F c = some v → 0 ≤ v) : lk F c = none := by
  cases hl : lk F c with
  | none => rfl
  | some v => rw [hl] at h; have := hp v hl; simp at h; omega
theorem lk_get_some {F : List (Int × Int)} {c : Int} (h : 0 ≤ (lk F c).getD (-1)) : ∃ v, lk F c = some v := by
  cases hl : lk F c with
  | none => rw [hl] at h; simp at h
  | some v => exact ⟨v, rfl⟩
theorem FOK.again1 {n : Nat} {F : List (Int × Int)} (hF : FOK n F) {k : Nat} (h : k < F.length) : lk (F.take k) F[k].1 = none ∨ lk (F.take k) F[k].1 = some F[k].2 := by
  cases hl : lk (F.take k) F[k].1 with
  | none => exact .inl rfl
  | some v =>
    have := hF.2.1 _ (List.mem_of_mem_take (lk_some hl)) _ (List.getElem_mem h) rfl
    rw [← this]; exact .inr rfl
theorem FOK.again2 {n : Nat} {F : List (Int × Int)} (hF : FOK n F) {k : Nat} (h : k < F.length) : lk (sw (F.take k)) F[k].2 = none ∨ lk (sw (F.take k)) F[k].2 = some F[k].1 := by
  cases hl : lk (sw (F.take k)) F[k].2 with
  | none => exact .inl rfl
  | some v =>
    have := hF.2.2 _ (List.mem_of_mem_take (lk_sw_some hl)) _ (List.getElem_mem h) rfl
    rw [← this]; exact .inr rfl
theorem lpsR_len (r : List Int) : (lpsR r).length ≤ r.length := by
  unfold lpsR
  split
  · exact lpR_len r r.length
  · exact Nat.zero_le _
def expRL (n : Int) (F : List (Int × Int)) : List Int := if expE n F = 0 then rowR n.toNat F else []
def expRN (n : Int) (F : List (Int × Int)) : Int := if expE n F = 0 then n - (lpsR (rowR n.toNat F)).length else 0
theorem clF_mem {G : List (Int × Int)} {x y : Int × Int} (hy : y ∈ G) (h : y.1 = x.1 ∨ y.2 = x.2) : clF G x = true := by
  unfold clF
  rw [List.any_eq_true]
  exact ⟨y, hy, by simpa using h⟩
theorem soft_expR (e : Int) : Soft (.agg [.sl0, .int .i64 0, .int .i64 e]) (.agg [ints [], .int .i64 0, .int .i64 e]) := soft_agg (AltL.cons .sl0v (AltL.cons (.same _ rfl) (AltL.cons (.same _ rfl) AltL.nil)))
theorem p47 (n : Int) (F : List (Int × Int)) (hl : F.length < 4294967296) : VPure Tryz.prog 47 [.int .i64 n, .vec (F.map encX)] fun r => Soft r (.agg [ints (expRL n F), .int .i64 (expRN n F), .int .i64 (expE n F)]) := by
  refine .of_body Tryz.func47 rfl rfl ?_
  refine .seq ?_
  refine .rn ?_
  refine .seq ?_
  refine .seq ?_
  refine .regionL [0,1,2] rfl zz0 ?_
  refine .rn [0] [1,2] ?_
  refine .step rfl rfl (.pure rfl rfl rfl Tryz.call80 (by decide) (p80 n 1 24) (by first | rfl | simp [*]) ?_)
  rintro _ rfl
  refine .rn [2] [] ?_
  refine .done ?_
  refine .condS rfl (fun c17 => ?_) (fun c17 => ?_)
  · try simp at c17
    refine .seq ?_
    refine .rn ?_
    refine .ret ?_
    refine ⟨_, _, zz2,zz2, ?_⟩
    have e := expE_one (F := F) (n := n) (by omega)
    simp only [expRL, expRN, e]
    exact soft_expR 1
  · try simp at c17
    refine .skip ?_
    refine .seq ?_
    refine .seq ?_
    refine .rn ?_
    refine .condS rfl (fun c21 => ?_) (fun c21 => ?_)
    · try simp at c21
      refine .seq ?_
      refine .rn ?_
      refine .ret ?_
      refine ⟨_, _, zz2,zz2, ?_⟩
      have e := expE_two (F := F) c17 (by omega)
      simp only [expRL, expRN, e]
      exact soft_expR 2
    · try simp at c21
      obtain ⟨m, rfl⟩ : ∃ m : Nat, n = m := ⟨n.toNat, by omega⟩
      have hm1 : 1 ≤ m := by omega
      have hm2 : m ≤ 24 := by omega
      have hE := expE_in (F := F) c17 (by omega)
      have hwm : IntKind.i64.wrap ((m : Int) - 1) = (m : Int) - 1 := wrap64 (by omega) (by omega)
      have hFl : F.length ≤ 24 := by omega
      have hm3 : (m : Int) ≤ 4294967296 := by omega
      have hz := cutG_zero (fun _ => -1) m
      refine .skip ?_
      refine .seq ?_
      refine .seq ?_
      refine .rn ?_
      refine .block ?_
      refine .loopS (fun k : Nat => ([(0, .int .i64 m),(1, .vec (F.map encX)),(4, .ptr 0 0),(5, .int .i64 k)], ⟨1,[(0, .box [.sl0, .int .i64 0, .int .i64 0])]⟩)) (fun k => FI m F k) (fun k => F.length - k) 0 (FI.zero m F) (.mk [] [] zz4 zz5 rfl rfl rfl) ?_
      rintro k ⟨hk, hf, hok⟩
      simp only at hk hf hok ⊢
      refine .seq ?_
      refine .seq ?_
      refine .rn ?_
      refine .condS rfl (fun c26 => ?_) (fun c26 => ?_)
      · try simp at c26
        have hw2 : IntKind.i64.wrap ((k : Int) + 1) = (k : Int) + 1 := wrap64 (by omega) (by omega)
        rw [fndE_drop c26] at hf
        refine .skip ?_
        refine .seq ?_
        refine .block ?_
        refine .seq ?_
        refine .seq ?_
        refine .regionL [0,1,2,3,4,5,6,7,8,9,10,11,12,13,14,15,16,17,18,19] rfl zz0 ?_
        refine .rn [0,1,2,3,4,5,6] [7,8,9,10,11,12,13,14,15,16,17,18,19] ?_
        refine .step rfl rfl (.pure rfl rfl rfl Tryz.call80 (by decide) (p80 F[k].1 0 ((m : Int) - 1)) (by first | rfl | simp [*]) ?_)
        rintro _ rfl
        refine .rn [8,9] [10,11,12,13,14,15,16,17,18,19] ?_
        refine .split (t := 38) rfl (fun c38 => ?_) (fun c38 => ?_)
        · try rw [c38]
          try simp at c38
          refine .rn [10,11,12,13,14,15,16,17,18,19] [] ?_
          refine .done ?_
          refine .condT rfl ?_
          refine .seq ?_
          refine .rn ?_
          refine .ret ?_
          refine ⟨_, _, zz2,zz2, ?_⟩
          have e : expE m F = 1 := by rw [hE, ← hf, inF_no (fun h => by omega)]; rfl
          simp only [expRL, expRN, e]
          exact soft_expR 1
        · try rw [c38]
          try simp at c38
          refine .rn [10,11,12,13,14,15,16] [17,18,19] ?_
          refine .step rfl rfl (.pure rfl rfl rfl Tryz.call80 (by decide) (p80 F[k].2 0 ((m : Int) - 1)) (by first | rfl | simp [*]) ?_)
          rintro _ rfl
          refine .rn [18,19] [] ?_
          refine .done ?_
          refine .condS rfl (fun c48 => ?_) (fun c48 => ?_)
          · try simp at c48
            refine .seq ?_
            refine .rn ?_
            refine .ret ?_
            refine ⟨_, _, zz2,zz2, ?_⟩
            have e : expE m F = 1 := by rw [hE, ← hf, inF_no (fun h => by omega)]; rfl
            simp only [expRL, expRN, e]
            exact soft_expR 1
          · try simp at c48
            refine .skip ?_
            refine .seq ?_
            refine .rn ?_
            refine .block ?_
            refine .loopS (fun j : Nat => ([(0, .int .i64 m),(1, .vec (F.map encX)),(4, .ptr 0 0),(5, .int .i64 k),(6, .int .i64 j)], ⟨1,[(0, .box [.sl0, .int .i64 0, .int .i64 0])]⟩)) (fun j => j ≤ k ∧ ∀ y ∈ F.take j, ¬y.1 = F[k].1 ∧ ¬y.2 = F[k].2) (fun j => k - j) 0 (by simp) (.mk [] [] zz4 zz5 rfl rfl rfl) ?_
            rintro j ⟨hj, hg⟩
            simp only at hj hg ⊢
            refine .seq ?_
            refine .seq ?_
            refine .rn ?_
            refine .condS rfl (fun c52 => ?_) (fun c52 => ?_)
            · try simp at c52
              have hwj : IntKind.i64.wrap ((j : Int) + 1) = (j : Int) + 1 := wrap64 (by omega) (by omega)
              have hjF : j < F.length := by omega
              have hmem : F[j] ∈ F.take k := List.mem_iff_getElem.2 ⟨j, by rw [List.length_take]; omega, List.getElem_take⟩
              refine .skip ?_
              refine .seq ?_
              refine .block ?_
              refine .seq ?_
              refine .drawn (ms := [0,0,3,7,15,0,0,96,224,480,1023,2047,4095,4095,16383,32767,65535,4095,4095,397311,921599,1970175,4194303,8388607]) (W := []) (items := [.op 0, .op 1, .op 2, .op 3, .op 4, .op 5, .op 6, .op 7, .op 8, .op 9, .op 10, .op 11, .op 12, .op 13, .op 14, .op 15, .op 16, .op 17, .op 18, .op 19, .op 20, .op 21, .op 22, .op 23]) rfl zz0 zz0 zz0 ?_
              refine .rd rfl rfl (by decide) rfl (by decide) zz1 ?_   -- 0
              refine .rd rfl rfl (by decide) rfl (by decide) zz1 ?_   -- 1
              refine .rd rfl rfl (by decide) rfl (by decide) zz1 ?_   -- 2
              refine .rd rfl rfl (by decide) rfl (by decide) zz1 ?_   -- 3
              refine .rd rfl rfl (by decide) rfl (by decide) zz1 ?_   -- 4
              refine .rd rfl rfl (by decide) rfl (by decide) zz1 ?_   -- 5
              refine .rd rfl rfl (by decide) rfl (by decide) zz1 ?_   -- 6
              refine .rd rfl rfl (by decide) rfl (by decide) zz1 ?_   -- 7
              refine .rd rfl rfl (by decide) rfl (by decide) zz1 ?_   -- 8
              refine .rd rfl rfl (by decide) rfl (by decide) zz1 ?_   -- 9
              refine .rd rfl rfl (by decide) rfl (by decide) zz1 ?_   -- 10
              refine .rd rfl rfl (by decide) rfl (by decide) zz1 ?_   -- 11
              refine .split (t := 66) rfl (fun c66 => ?_) (fun c66 => ?_)
              · try rw [c66]
                try simp at c66
                refine .un rfl rfl (by decide) ?_   -- 12
                refine .un rfl rfl (by decide) ?_   -- 13
                refine .un rfl rfl (by decide) ?_   -- 14
                refine .un rfl rfl (by decide) ?_   -- 15
                refine .un rfl rfl (by decide) ?_   -- 16
                refine .un rfl rfl (by decide) ?_   -- 17
                refine .un rfl rfl (by decide) ?_   -- 18
                refine .un rfl rfl (by decide) ?_   -- 19
                refine .un rfl rfl (by decide) ?_   -- 20
                refine .un rfl rfl (by decide) ?_   -- 21
                refine .un rfl rfl (by decide) ?_   -- 22
                refine .rd rfl rfl (by decide) rfl (by decide) zz1 ?_   -- 23
                refine .done ?_
                refine .condT rfl ?_
                refine .seq ?_
                refine .rn ?_
                refine .ret ?_
                refine ⟨_, _, zz2,zz2, ?_⟩
                have e : expE m F = 9 := by rw [hE, ← hf, if_pos (inF_iff.2 ⟨c38, c48⟩), if_pos (clF_mem hmem (.inl c66))]
                simp only [expRL, expRN, e]
                exact soft_expR 9
              · try rw [c66]
                try simp at c66
                refine .rd rfl rfl (by decide) rfl (by decide) zz1 ?_   -- 12
                refine .rd rfl rfl (by decide) rfl (by decide) zz1 ?_   -- 13
                refine .rd rfl rfl (by decide) rfl (by decide) zz1 ?_   -- 14
                refine .rd rfl rfl (by decide) rfl (by decide) zz1 ?_   -- 15
                refine .rd rfl rfl (by decide) rfl (by decide) zz1 ?_   -- 16
                refine .rd rfl rfl (by decide) rfl (by decide) zz1 ?_   -- 17
                refine .rd rfl rfl (by decide) rfl (by decide) zz1 ?_   -- 18
                refine .rd rfl rfl (by decide) rfl (by decide) zz1 ?_   -- 19
                refine .rd rfl rfl (by decide) rfl (by decide) zz1 ?_   -- 20
                refine .rd rfl rfl (by decide) rfl (by decide) zz1 ?_   -- 21
                refine .rd rfl rfl (by decide) rfl (by decide) zz1 ?_   -- 22
                refine .rd rfl rfl (by decide) rfl (by decide) zz1 ?_   -- 23
                refine .done ?_
                refine .condS rfl (fun c78 => ?_) (fun c78 => ?_)
                · try simp at c78
                  refine .seq ?_
                  refine .rn ?_
                  refine .ret ?_
                  refine ⟨_, _, zz2,zz2, ?_⟩
                  have e : expE m F = 9 := by rw [hE, ← hf, if_pos (inF_iff.2 ⟨c38, c48⟩), if_pos (clF_mem hmem (.inr c78))]
                  simp only [expRL, expRN, e]
                  exact soft_expR 9
                · try simp at c78
                  refine .skip ?_
                  refine .rn ?_
                  refine ⟨j + 1, ⟨c52, take_all hg hjF ⟨c66, c78⟩⟩, zz3,(.mk [] [] zz4 zz5 rfl rfl rfl)⟩
            · try simp at c52
              have hjk : j = k := by omega
              rw [hjk] at hg
              have hl1 : lk (F.take k) F[k].1 = none := lk_none.2 fun y hy => (hg y hy).1
              have hl2 : lk (sw (F.take k)) F[k].2 = none := lk_sw_none.2 fun y hy => (hg y hy).2
              rw [if_pos (inF_iff.2 ⟨c38, c48⟩), if_neg (by rw [clF_no hl1 hl2]; simp)] at hf
              have hok2 : FOK m (F.take (k + 1)) := by rw [List.take_succ_eq_append_getElem c26]; exact hok.snoc (by omega) hl1 hl2
              refine .exit ?_
              refine .rn ?_
              refine ⟨k + 1, ⟨c26, hf, hok2⟩, zz3,(.mk [] [] zz4 zz5 rfl rfl rfl)⟩
      · try simp at c26
        have hkn : k = F.length := by omega
        rw [hkn, List.take_length] at hok
        have hE0 : expE m F = 0 := by rw [hE, ← hf, hkn, List.drop_length, List.take_length]; rfl
        refine .exit ?_
        refine .seq ?_
        refine .rn ?_
        refine .seq ?_
        refine .seq ?_
        refine .rn ?_
        refine .block ?_
        refine .loopS (fun c : Nat => ([(0, .int .i64 m),(1, .vec (F.map encX)),(4, .ptr 0 0),(7, .own 1 0 m m),(8, .int .i64 c)], ⟨2,[(1, .arr false 1 ((cutG (fun _ => -1) m c).map (.int .i64))),(0, .box [.sl0, .int .i64 0, .int .i64 0])]⟩)) (fun c => c ≤ m) (fun c => m - c) 0 (by simp) (.mk [] [] zz4 zz5 rfl rfl rfl) ?_
        rintro c hc
        simp only at hc ⊢
        obtain ⟨O, hO⟩ : ∃ O, cutG (fun _ => -1) m c = O := ⟨_, rfl⟩
        have hOl : O.length = m := by rw [← hO, cutG_len]
        rw [hO]
        refine .seq ?_
        refine .seq ?_
        refine .rn ?_
        refine .condS rfl (fun c84 => ?_) (fun c84 => ?_)
        · try simp at c84
          have hwc : IntKind.i64.wrap ((c : Int) + 1) = (c : Int) + 1 := wrap64 (by omega) (by omega)
          have hcm : c + 1 ≤ m := c84
          have hput := set_put O c (-1) (by omega)
          have hO2 : cutG (fun _ => -1) m (c + 1) = O.set c (-1) := by rw [← hO, cutG_put _ m c c84]
          refine .skip ?_
          refine .seq ?_
          refine .block ?_
          refine .rn ?_
          refine .rn ?_
          refine ⟨c + 1, c84,zz3,(.mk [] [] zz4 zz5 rfl rfl rfl)⟩
        · try simp at c84
          have hcn : c = m := by omega
          have hOn : O = arrO m [] := by rw [← hO, hcn, arrO_nil]
          refine .exit ?_
          refine .seq ?_
          refine .rn ?_
          refine .seq ?_
          refine .seq ?_
          refine .rn ?_
          refine .block ?_
          refine .loopS (fun c : Nat => ([(0, .int .i64 m),(1, .vec (F.map encX)),(4, .ptr 0 0),(7, .own 1 0 m m),(9, .own 2 0 m m),(10, .int .i64 c)], ⟨3,[(2, .arr false 1 ((cutG (fun _ => -1) m c).map (.int .i64))),(1, .arr false 1 ((arrO m []).map (.int .i64))),(0, .box [.sl0, .int .i64 0, .int .i64 0])]⟩)) (fun c => c ≤ m) (fun c => m - c) 0 (by simp) (.mk [] [] zz4 zz5 rfl rfl rfl) ?_
          rintro d hd
          simp only at hd ⊢
          obtain ⟨B, hB⟩ : ∃ B, cutG (fun _ => -1) m d = B := ⟨_, rfl⟩
          have hBl : B.length = m := by rw [← hB, cutG_len]
          rw [hB]
          refine .seq ?_
          refine .seq ?_
          refine .rn ?_
          refine .condS rfl (fun c94 => ?_) (fun c94 => ?_)
          · try simp at c94
            have hwd : IntKind.i64.wrap ((d : Int) + 1) = (d : Int) + 1 := wrap64 (by omega) (by omega)
            have hdm : d + 1 ≤ m := c94
            have hputB := set_put B d (-1) (by omega)
            have hB2 : cutG (fun _ => -1) m (d + 1) = B.set d (-1) := by rw [← hB, cutG_put _ m d c94]
            refine .skip ?_
            refine .seq ?_
            refine .block ?_
            refine .rn ?_
            refine .rn ?_
            refine ⟨d + 1, c94,zz3,(.mk [] [] zz4 zz5 rfl rfl rfl)⟩
          · try simp at c94
            have hdn : d = m := by omega
            have hBn : B = arrO m [] := by rw [← hB, hdn, arrO_nil]
            refine .exit ?_
            refine .seq ?_
            refine .seq ?_
            refine .rn ?_
            refine .block ?_
            refine .loopS (fun i : Nat => ([(0, .int .i64 m),(1, .vec (F.map encX)),(4, .ptr 0 0),(7, .own 1 0 m m),(9, .own 2 0 m m),(11, .int .i64 i)], ⟨3,[(2, .arr false 1 ((arrO m (sw (F.take i))).map (.int .i64))),(1, .arr false 1 ((arrO m (F.take i)).map (.int .i64))),(0, .box [.sl0, .int .i64 0, .int .i64 0])]⟩)) (fun i => i ≤ F.length) (fun i => F.length - i) 0 (by simp) (.mk [] [] zz4 zz5 rfl rfl rfl) ?_
            rintro i hi
            simp only at hi ⊢
            obtain ⟨U, hU⟩ : ∃ U, arrO m (F.take i) = U := ⟨_, rfl⟩
            obtain ⟨V, hV⟩ : ∃ V, arrO m (sw (F.take i)) = V := ⟨_, rfl⟩
            have hUl : U.length = m := by rw [← hU, arrO_len]
            have hVl : V.length = m := by rw [← hV, arrO_len]
            rw [hU, hV]
            refine .seq ?_
            refine .seq ?_
            refine .rn ?_
            refine .condS rfl (fun c103 => ?_) (fun c103 => ?_)
            · try simp at c103
              have hwi : IntKind.i64.wrap ((i : Int) + 1) = (i : Int) + 1 := wrap64 (by omega) (by omega)
              obtain ⟨a, b, hx, ha, hb⟩ : ∃ a b : Nat, F[i] = ((a : Int),(b : Int)) ∧ a < m ∧ b < m := by
                have h := hok.1 _ (List.getElem_mem c103)
                exact ⟨F[i].1.toNat, F[i].2.toNat, by rw [Int.toNat_of_nonneg h.1.1, Int.toNat_of_nonneg h.2.1], by omega, by omega⟩
              have hag1 := hok.again1 c103
              have hag2 := hok.again2 c103
              rw [hx] at hag1 hag2
              have ha2 : a + 1 ≤ m := ha
              have hb2 : b + 1 ≤ m := hb
              have hEx : encX F[i] = .agg [.int .i64 a, .int .i64 b] := by rw [hx]; rfl
              have hp1 := set_put U a b (by omega)
              have hp2 := set_put V b a (by omega)
              have hT1 : arrO m (F.take (i + 1)) = U.set a b := by rw [List.take_succ_eq_append_getElem c103, hx, ← hU, arrO_put _ _ _ _ ha hag1]
              have hT2 : arrO m (sw (F.take (i + 1))) = V.set b a := by rw [List.take_succ_eq_append_getElem c103, hx, sw_snoc, ← hV, arrO_put _ _ _ _ hb hag2]
              clear hx
              refine .skip ?_
              refine .seq ?_
              refine .block ?_
              refine .seq ?_
              refine .drawn (ms := [0,0,0,6,14,30,0,0,192,448,960,2047,4095]) (W := [12]) (items := [.op 0, .op 1, .op 2, .op 3, .op 4, .op 5, .op 6, .op 7, .op 8, .op 9, .op 10, .op 11, .op 12]) rfl zz0 zz0 zz0 ?_
              refine .rd rfl rfl (by decide) rfl (by decide) zz1 ?_   -- 0
              refine .rd rfl rfl (by decide) rfl (by decide) zz1 ?_   -- 1
              refine .rd rfl rfl (by decide) rfl (by decide) zz1 ?_   -- 2
              refine .rd rfl rfl (by decide) rfl (by decide) zz1 ?_   -- 3
              refine .rd rfl rfl (by decide) rfl (by decide) zz1 ?_   -- 4
              refine .rd rfl rfl (by decide) rfl (by decide) zz1 ?_   -- 5
              refine .rd rfl rfl (by decide) rfl (by decide) zz1 ?_   -- 6
              refine .rd rfl rfl (by decide) rfl (by decide) zz1 ?_   -- 7
              refine .rd rfl rfl (by decide) rfl (by decide) zz1 ?_   -- 8
              refine .rd rfl rfl (by decide) rfl (by decide) zz1 ?_   -- 9
              refine .rd rfl rfl (by decide) rfl (by decide) zz1 ?_   -- 10
              refine .rd rfl rfl (by decide) rfl (by decide) zz1 ?_   -- 11
              refine .wr rfl rfl (by decide) (.vop zz1 (by decide) ?_)   -- 12
              refine .done ?_
              refine .drawn (ms := [0,0,0,6,14,30,0,0,192,448,960,2047,4095]) (W := [12]) (items := [.op 0, .op 1, .op 2, .op 3, .op 4, .op 5, .op 6, .op 7, .op 8, .op 9, .op 10, .op 11, .op 12]) rfl zz0 zz0 zz0 ?_
              refine .rd rfl rfl (by decide) rfl (by decide) zz1 ?_   -- 0
              refine .rd rfl rfl (by decide) rfl (by decide) zz1 ?_   -- 1
              refine .rd rfl rfl (by decide) rfl (by decide) zz1 ?_   -- 2
              refine .rd rfl rfl (by decide) rfl (by decide) zz1 ?_   -- 3
              refine .rd rfl rfl (by decide) rfl (by decide) zz1 ?_   -- 4
              refine .rd rfl rfl (by decide) rfl (by decide) zz1 ?_   -- 5
              refine .rd rfl rfl (by decide) rfl (by decide) zz1 ?_   -- 6
              refine .rd rfl rfl (by decide) rfl (by decide) zz1 ?_   -- 7
              refine .rd rfl rfl (by decide) rfl (by decide) zz1 ?_   -- 8
              refine .rd rfl rfl (by decide) rfl (by decide) zz1 ?_   -- 9
              refine .rd rfl rfl (by decide) rfl (by decide) zz1 ?_   -- 10
              refine .rd rfl rfl (by decide) rfl (by decide) zz1 ?_   -- 11
              refine .wr rfl rfl (by decide) (.vop zz1 (by decide) ?_)   -- 12
              refine .done ?_
              refine .rn ?_
              refine ⟨i + 1, c103,zz3,(.mk [] [] zz4 zz5 rfl rfl rfl)⟩
            · try simp at c103
              have hin : i = F.length := by omega
              have hUn : U = arrO m (clo m F 0) := by rw [← hU, hin, List.take_length]; rfl
              have hVn : V = arrO m (sw (clo m F 0)) := by rw [← hV, hin, List.take_length]; rfl
              refine .exit ?_
              refine .seq ?_
              refine .seq ?_
              refine .rn ?_
              refine .block ?_
              refine .loopS (fun c : Nat => ([(0, .int .i64 m),(4, .ptr 0 0),(7, .own 1 0 m m),(9, .own 2 0 m m),(12, .int .i64 c)], ⟨3,[(2, .arr false 1 ((arrO m (sw (clo m F c))).map (.int .i64))),(1, .arr false 1 ((arrO m (clo m F c)).map (.int .i64))),(0, .box [.sl0, .int .i64 0, .int .i64 0])]⟩)) (fun c => c ≤ m) (fun c => m - c) 0 (by simp) (.mk [] [] zz4 zz5 rfl rfl rfl) ?_
              clear hUn hVn hU hV hUl hVl
              rintro c hc
              simp only at hc ⊢
              obtain ⟨G, hG⟩ : ∃ G, clo m F c = G := ⟨_, rfl⟩
              have hokG : FOK m G := by rw [← hG]; exact clo_ok hok c hc
              rw [hG]
              obtain ⟨U, hU⟩ : ∃ U, arrO m G = U := ⟨_, rfl⟩
              obtain ⟨V, hV⟩ : ∃ V, arrO m (sw G) = V := ⟨_, rfl⟩
              have hUl : U.length = m := by rw [← hU, arrO_len]
              have hVl : V.length = m := by rw [← hV, arrO_len]
              rw [hU, hV]
              refine .seq ?_
              refine .seq ?_
              refine .rn ?_
              refine .condS rfl (fun c132 => ?_) (fun c132 => ?_)
              · try simp at c132
                have hwc : IntKind.i64.wrap ((c : Int) + 1) = (c : Int) + 1 := wrap64 (by omega) (by omega)
                have hcm : c + 1 ≤ m := c132
                have hUc : U[c]'(by omega) = (lk G c).getD (-1) := by
                  have := arrO_get m G c c132
                  rw [hU, List.getElem?_eq_getElem (by omega)] at this
                  injection this
                refine .skip ?_
                refine .seq ?_
                refine .block ?_
                refine .seq ?_
                refine .seq ?_
                refine .rn ?_
                refine .condS rfl (fun c139 => ?_) (fun c139 => ?_)
                · try simp at c139
                  obtain ⟨v, hv⟩ := lk_get_some c139
                  have hC : clo m F (c + 1) = G := by rw [clo, hG, hv]
                  refine .exit ?_
                  refine .rn ?_
                  refine ⟨c + 1, c132,zz3,(.mk [] [] zz4 zz5 rfl rfl rfl)⟩
                · try simp at c139
                  have hcl := lk_get_none c139 (fun v hv => (lk_pos hokG hv).1)
                  refine .skip ?_
                  refine .seq ?_
                  refine .rn ?_
                  refine .seq ?_
                  refine .block ?_
                  refine .loopS (fun s : Nat × List Int => ([(0, .int .i64 m),(4, .ptr 0 0),(7, .own 1 0 m m),(9, .own 2 0 m m),(12, .int .i64 c),(13, .int .i64 s.1)], ⟨3,[(2, .arr false 1 (V.map (.int .i64))),(1, .arr false 1 (U.map (.int .i64))),(0, .box [.sl0, .int .i64 0, .int .i64 0])]⟩)) (fun s => WB m G c s.1 s.2) (fun s => m - s.2.length) (c, []) (WB.zero c132) (.mk [] [] zz4 zz5 rfl rfl rfl) ?_
                  rintro ⟨a, l⟩ hW
                  simp only at hW ⊢
                  have hWl := hW.len
                  have ha := hW.1
                  have ham : a + 1 ≤ m := ha
                  have hVa : V[a]'(by omega) = (lk (sw G) a).getD (-1) := by
                    have := arrO_get m (sw G) a ha
                    rw [hV, List.getElem?_eq_getElem (by omega)] at this
                    injection this
                  refine .seq ?_
                  refine .seq ?_
                  refine .rn ?_
                  refine .condS rfl (fun c145 => ?_) (fun c145 => ?_)
                  · try simp at c145
                    obtain ⟨f, hf2⟩ := lk_get_some c145
                    obtain ⟨hf0, hN⟩ := hW.next hokG hcl hf2
                    have hft : ((f.toNat : Nat) : Int) = f := Int.toNat_of_nonneg hf0
                    refine .skip ?_
                    refine .block ?_
                    refine .rn ?_
                    refine ⟨(f.toNat, (a : Int) :: l), hN, by simp; omega, (.mk [] [] zz4 zz5 rfl rfl rfl)⟩
                  · try simp at c145
                    have hal := lk_get_none c145 (fun v hv => (lk_sw_pos hokG hv).1)
                    have hst := hW.stop hal
                    have hC : clo m F (c + 1) = G ++ [((c : Int),(a : Int))] := by rw [clo, hG, hcl, hst]
                    have hp1 := set_put U c a (by omega)
                    have hp2 := set_put V a c (by omega)
                    have hT1 : arrO m (clo m F (c + 1)) = U.set c a := by rw [hC, ← hU, arrO_put _ _ _ _ c132 (.inl hcl)]
                    have hT2 : arrO m (sw (clo m F (c + 1))) = V.set a c := by rw [hC, sw_snoc, ← hV, arrO_put _ _ _ _ ha (.inl hal)]
                    clear hC
                    refine .exit ?_
                    refine .seq ?_
                    refine .rn ?_
                    refine .rn ?_
                    refine .rn ?_
                    refine ⟨c + 1, c132,zz3,(.mk [] [] zz4 zz5 rfl rfl rfl)⟩
              · try simp at c132
                have hcn : c = m := by omega
                have hUr : U = rowR m F := by rw [← hU, ← hG, hcn]; rfl
                have hrl : (rowR m F).length = m := by rw [← hUr, hUl]
                have hvel : ∀ vh : VHeap, vh.get 1 = some (.arr false 1 (U.map (.int .i64))) → velems vh 1 (.own 1 0 m m) = some ((rowR m F).map (.int .i64)) := fun vh hg => by
                  have hv2 := velems_own vh 1 m (rowR m F) (by rw [← hUr]; exact hg)
                  rw [hrl] at hv2; exact hv2
                refine .exit ?_
                refine .seq ?_
                refine .rec (vts2 := [(0, .int .i64 m),(4, .ptr 0 0),(7, ints (rowR m F))]) (vh2 := ⟨1,[(0, .box [.sl0, .int .i64 0, .int .i64 0])]⟩) (.mk [1,2] [] (by repeat' (first | exact trivial | refine And.intro (Exists.intro _ (And.intro rfl ?_)) ?_ | exact Alt.fown 1 0 m m false 1 _ _ rfl rfl (hvel _ rfl) | exact Alt.ptr _ _ _ (Nat.le_of_ble_eq_true rfl) rfl | (refine Alt.same _ ?_; first | rfl | (simp [*]; done)))) zz5 rfl rfl rfl) ?_
                refine .regionL [0,1,2,3] rfl zz0 ?_
                refine .rn [0] [1,2,3] ?_
                refine .step rfl rfl (.pure rfl rfl rfl Tryz.call43 (by decide) (p43' (rowR m F) (by omega)) (by first | rfl | simp [*]) ?_)
                rintro _ rfl
                refine .rn [2,3] [] ?_
                refine .done ?_
                refine .seq ?_
                refine .rn ?_
                refine .ret ?_
                have hlp := lpsR_len (rowR m F)
                have hwr : IntKind.i64.wrap ((m : Int) - (lpsR (rowR m F)).length) = (m : Int) - (lpsR (rowR m F)).length := wrap64 (by omega) (by omega)
                refine ⟨_, .agg [ints (rowR m F), .int .i64 ((m : Int) - (lpsR (rowR m F)).length), .int .i64 0],zz2,(by simp [hwr]), ?_⟩
                simp only [expRL, expRN, hE0, if_true, Int.toNat_natCast]
                exact soft_rfl rfl
theorem p47' (n : Int) (F : List (Int × Int)) (hl : F.length < 4294967296) : VPure Tryz.prog 47 [.int .i64 n, .vec (F.map encX)] fun r => r = .agg [ints (expRL n F), .int .i64 (expRN n F), .int .i64 (expE n F)] := VPure.soft (p47 n F hl) rfl
end Go.Am.Hi
end
