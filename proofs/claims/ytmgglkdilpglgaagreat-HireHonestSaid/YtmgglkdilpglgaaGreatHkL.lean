/-
  What is used in the proof of a statement (part HkL); no condition.
-/
import Derived.Test.YtmgglkdilpglgaaGreatHiZ
import Derived.Test.YtmgglkdilpglgaaGreatVm2
import Derived.Test.YtmgglkdilpglgaaGreatHiT
import Derived.Test.YtmgglkdilpglgaaGreatHjD
set_option linter.all false
section
namespace Go.Am.Hi
open Go Go.Am Go.Proofs
set_option maxRecDepth 100000
set_option maxHeartbeats 4000000
set_option linter.unusedSimpArgs false
set_option linter.unusedVariables false
attribute [local simp] vrun vwanted vyielded vop vopA vputAll VHeap.back hidI hidF backL bm Nat.testBit_eq_decide_div_mod_eq veval vevals vparts vO vbuiltin vlen vappend velems vcopy vmakeSlice vbuildSlice valloc vbox vmakeMap vload vpartT vpart vstore vfieldAddr vfield vindexAddr vindex vextract vslice vsliceZ vbounds vbnd zeroO vidx vlookup vmget vmapUpdate vdelete vclear vnilq vnilp vnils vbin vsc vsc1 vscs vscl abinOp aint ashift aunOp aconvert amaxs amax2 pvcV pvc pvcs tput tget vargs VHeap.get VHeap.alloc VHeap.put VHeap.drop VHeap.empty vlook vput vdrop psplice pfill preps chunk List.range List.range.loop vresults vresult vresultV frz frzL PV.isF PV.allF PV.scal PV.allS retP subT allFT PV.one PV.ids PV.idsL dropL beq_eq ble_dec blt_dec
theorem p5 (ws : List (List Int)) (a : Nat) (w : List Int) (hl : ws.length < 4611686018427387904) (hll : ∀ l ∈ ws, l.length < 17592186043905) (ha : a < 256) (hw : w.length < 4611686018427387904) : VPure Tryz.prog 5 [encM ws, .int .u8 a, ints w] fun r => r = .bool true := by
  obtain ⟨bm, hbm⟩ : ∃ b, (decide (ws.length ≤ 12) && decide (mkE ws = 0)) = b := ⟨_, rfl⟩
  refine .of_body Tryz.func5 rfl rfl ?_
  refine .seq ?_
  refine .rn ?_
  refine .seq ?_
  refine .seq ?_
  refine .regionL [0,1,2,3,4,5,6,7] rfl zz0 ?_
  refine .rn [0] [1,2,3,4,5,6,7] ?_
  refine .step rfl rfl (.pure rfl rfl rfl Tryz.call30 (by decide) ((by have := p30 ws hl hll; rw [hbm] at this; exact this)) (by first | rfl | simp [*]) ?_)
  rintro _ rfl
  refine .rn [2,3] [4,5,6,7] ?_
  refine .split (t := 17) rfl (fun c17 => ?_) (fun c17 => ?_)
  · first | cases c17 | (simp only [Bool.not_eq_true', Bool.not_eq_false', Bool.not_not, Bool.not_true, Bool.not_false] at c17; cases c17) | try rw [c17]
    try simp at c17
    refine .rn [4,5,6,7] [] ?_
    refine .done ?_
    refine .condT rfl ?_
    refine .seq ?_
    refine .regionL [0,1] rfl zz0 ?_
    refine .step rfl rfl (.pure rfl rfl rfl Tryz.call15 (by decide) (p15) (by first | rfl | simp [*]) ?_)
    rintro _ rfl
    refine .rn [1] [] ?_
    refine .done ?_
    refine .ret ?_
    refine ⟨_, _, zz2,zz2, ?_⟩
    first | rfl | (simp [*]; done) | (simp_all; done)
  · first | cases c17 | (simp only [Bool.not_eq_true', Bool.not_eq_false', Bool.not_not, Bool.not_true, Bool.not_false] at c17; cases c17) | try rw [c17]
    try simp at c17
    refine .rn [4,5,6,7] [] ?_
    refine .done ?_
    refine .condS rfl (fun c21 => ?_) (fun c21 => ?_)
    · try simp at c21
      refine .seq ?_
      refine .regionL [0,1] rfl zz0 ?_
      refine .step rfl rfl (.pure rfl rfl rfl Tryz.call15 (by decide) (p15) (by first | rfl | simp [*]) ?_)
      rintro _ rfl
      refine .rn [1] [] ?_
      refine .done ?_
      refine .ret ?_
      refine ⟨_, _, zz2,zz2, ?_⟩
      first | rfl | (simp [*]; done) | (simp_all; done)
    · try simp at c21
      have hw4 : w.length < 4294967296 := by omega
      have hbm2 := hbm
      rw [Bool.and_eq_true, decide_eq_true_eq, decide_eq_true_eq] at hbm2
      obtain ⟨hn12, hm0⟩ := hbm2
      clear hbm
      have hm := mkt_of hm0
      have hl4 : ws.length < 4294967296 := by omega
      have hrows := mkt_rows hm
      have hl4r : ∀ l ∈ ws, l.length < 4294967296 := fun l h => by have := hrows l h; omega
      have hpos := hm.pos
      have hwa : IntKind.i64.wrap (a : Int) = a := wrap64 (by omega) (by omega)
      have htm : (a : Int).tmod (ws.length : Int) = ((a % ws.length : Nat) : Int) := Int.ofNat_tmod _ _
      have hne : ¬ws = [] := by rintro rfl; simp at hpos
      obtain ⟨s, hs⟩ : ∃ s, a % ws.length = s := ⟨_, rfl⟩
      rw [hs] at htm
      have hsw : s < ws.length := by rw [← hs]; exact Nat.mod_lt _ hpos
      have hLs := hl4r ws[s] (List.getElem_mem hsw)
      refine .skip ?_
      refine .seq ?_
      refine .rn ?_
      refine .seq ?_
      refine .regionL [0,1,2,3,4,5,6,7,8,9] rfl zz0 ?_
      refine .rn [0,1,2] [3,4,5,6,7,8,9] ?_
      refine .step rfl rfl (.pure rfl rfl rfl Tryz.call31 (by decide) (VPure.soft (p31 ws s w hl4 hl4r hw4) rfl) (by first | rfl | simp [*]) ?_)
      rintro _ rfl
      refine .rn [4,5,6,7,8,9] [] ?_
      refine .done ?_
      refine .seq ?_
      refine .seq ?_
      refine .rn ?_
      refine .condS rfl (fun c37 => ?_) (fun c37 => ?_)
      · try simp at c37
        have hW : tlW ws s w = [] := tlW_err rfl c37
        refine .seq ?_
        refine .regionL [0,1,2,3,4,5,6,7] rfl zz0 ?_
        refine .step rfl rfl (.pure rfl rfl rfl Tryz.call15 (by decide) (p15) (by first | rfl | simp [*]) ?_)
        rintro _ rfl
        refine .rn [1] [2,3,4,5,6,7] ?_
        refine .split (t := 39) rfl (fun c39 => ?_) (fun c39 => ?_)
        · first | cases c39 | (simp only [Bool.not_eq_true', Bool.not_eq_false', Bool.not_not, Bool.not_true, Bool.not_false] at c39; cases c39) | try rw [c39]
          try simp at c39
          refine .rn [2,3,4,5,6,7] [] ?_
          refine .done ?_
          refine .ret ?_
          refine ⟨_, _, zz2,zz2, ?_⟩
          first | rfl | (simp [*]; done) | (simp_all; done)
        · first | cases c39 | (simp only [Bool.not_eq_true', Bool.not_eq_false', Bool.not_not, Bool.not_true, Bool.not_false] at c39; cases c39) | try rw [c39]
          try simp at c39
      · try simp at c37
        have hW : tlW ws s w = tellW ws s w := tlW_yes c37
        have hE : mkE (tellW ws s w) = 0 := by rw [← tlE_new hm0 (by omega)]; exact c37
        have hVl : (tellW ws s w).length = ws.length := tellW_len _ _ _
        have hVr : ∀ l ∈ tellW ws s w, l.length < 4294967296 := fun l h => (tellW_mem h).elim (hl4r l) fun h => by rw [h]; exact hw4
        have hhon := fun (R Q : List Int) (h1 : MkR ws R) (h2 : MkR (tellW ws s w) Q) => honest hsw hm0 hE h1 h2
        rw [hW]
        obtain ⟨V, hV⟩ : ∃ V, tellW ws s w = V := ⟨_, rfl⟩
        rw [hV] at hE hVl hVr hhon hW ⊢
        refine .skip ?_
        refine .seq ?_
        refine .regionL [0,1,2,3,4,5,6,7] rfl zz0 ?_
        refine .rn [0] [1,2,3,4,5,6,7] ?_
        refine .step rfl rfl (.pure rfl rfl rfl Tryz.call32 (by decide) (p32 ws hl4 hl4r) (by first | rfl | simp [*]) ?_)
        rintro _ ⟨R, rfl, hMR⟩
        refine .rn [2,3,4,5,6,7] [] ?_
        refine .done ?_
        refine .seq ?_
        refine .regionL [0,1,2,3,4,5,6,7] rfl zz0 ?_
        refine .rn [0] [1,2,3,4,5,6,7] ?_
        refine .step rfl rfl (.pure rfl rfl rfl Tryz.call32 (by decide) (p32 V (by omega) hVr) (by first | rfl | simp [*]) ?_)
        rintro _ ⟨Q, rfl, hMQ⟩
        refine .rn [2,3,4,5,6,7] [] ?_
        refine .done ?_
        refine .seq ?_
        have hho := hhon R Q hMR hMQ
        clear hhon
        obtain ⟨G, hG⟩ : ∃ G, mkG ws = G := ⟨_, rfl⟩
        obtain ⟨H, hH⟩ : ∃ H, mkG V = H := ⟨_, rfl⟩
        have hA := accP hMR hm0 hG
        have hB := accP hMQ hE hH
        have hGl := hA.gl
        have hHl : H.length = ws.length := by rw [hB.gl, hVl]
        have hsG : s < G.length := by omega
        have hsH : s < H.length := by omega
        rw [hG, hH, nx_at hsG, nx_at hsH] at hho
        rw [hG, hH]
        refine .drawn (ms := [0,1,3,7,15,31,63,127,255,511,1023,2047,4095,1023,16383,32767,65535,131071,262143,524287,131071,2097151,4194303,8388607,16777215,16777215,16777215,83886079,16777215,486539263,1023410175,2147483647,16777215,16777215,16777215,17196646399,16777215,120275861503,257714814975,549755813887,1099511627775,2199023255551,4398046511103]) (W := [0,31,39]) (items := [.op 0, .op 1, .op 2, .op 3, .op 4, .op 5, .op 6, .op 7, .op 8, .op 9, .op 10, .op 11, .op 12, .op 13, .op 14, .op 15, .op 16, .op 17, .op 18, .op 19, .op 20, .op 21, .op 22, .op 23, .op 24, .op 25, .op 26, .op 27, .op 28, .op 29, .op 30, .op 32, .op 33, .op 34, .op 35, .op 36, .op 37, .op 38, .op 31, .ck 38, .ck 35, .ck 32, .op 39, .op 40, .op 41, .op 42]) rfl zz0 zz0 zz0 ?_
        refine .wr rfl rfl (by decide) (.pure rfl rfl rfl Tryz.call15 (by decide) (p15) (by first | rfl | simp [*]) ?_)
        rintro _ rfl
        refine .rd rfl rfl (by decide) rfl (by decide) zz1 ?_   -- 1
        refine .split (t := 56) rfl (fun c56 => ?_) (fun c56 => ?_)
        · first | cases c56 | (simp only [Bool.not_eq_true', Bool.not_eq_false', Bool.not_not, Bool.not_true, Bool.not_false] at c56; cases c56) | try rw [c56]
          try simp at c56
          refine .rd rfl rfl (by decide) rfl (by decide) zz1 ?_   -- 2
          refine .rd rfl rfl (by decide) rfl (by decide) zz1 ?_   -- 3
          refine .rd rfl rfl (by decide) rfl (by decide) zz1 ?_   -- 4
          refine .rd rfl rfl (by decide) rfl (by decide) zz1 ?_   -- 5
          refine .split (t := 60) rfl (fun c60 => ?_) (fun c60 => ?_)
          · first | cases c60 | (simp only [Bool.not_eq_true', Bool.not_eq_false', Bool.not_not, Bool.not_true, Bool.not_false] at c60; cases c60) | try rw [c60]
            try simp at c60
            refine .rd rfl rfl (by decide) rfl (by decide) zz1 ?_   -- 6
            refine .rd rfl rfl (by decide) rfl (by decide) zz1 ?_   -- 7
            refine .rd rfl rfl (by decide) rfl (by decide) zz1 ?_   -- 8
            refine .rd rfl rfl (by decide) rfl (by decide) zz1 ?_   -- 9
            refine .split (t := 64) rfl (fun c64 => ?_) (fun c64 => ?_)
            · first | cases c64 | (simp only [Bool.not_eq_true', Bool.not_eq_false', Bool.not_not, Bool.not_true, Bool.not_false] at c64; cases c64) | try rw [c64]
              try simp at c64
              refine .rd rfl rfl (by decide) rfl (by decide) zz1 ?_   -- 10
              refine .rd rfl rfl (by decide) rfl (by decide) zz1 ?_   -- 11
              refine .rd rfl rfl (by decide) rfl (by decide) zz1 ?_   -- 12
              refine .rd rfl rfl (by decide) rfl (by decide) zz1 ?_   -- 13
              refine .rd rfl rfl (by decide) rfl (by decide) zz1 ?_   -- 14
              refine .rd rfl rfl (by decide) rfl (by decide) zz1 ?_   -- 15
              refine .rd rfl rfl (by decide) rfl (by decide) zz1 ?_   -- 16
              refine .split (t := 71) rfl (fun c71 => ?_) (fun c71 => ?_)
              · first | cases c71 | (simp only [Bool.not_eq_true', Bool.not_eq_false', Bool.not_not, Bool.not_true, Bool.not_false] at c71; cases c71) | try rw [c71]
                try simp at c71
                refine .rd rfl rfl (by decide) rfl (by decide) zz1 ?_   -- 17
                refine .rd rfl rfl (by decide) rfl (by decide) zz1 ?_   -- 18
                refine .rd rfl rfl (by decide) rfl (by decide) zz1 ?_   -- 19
                refine .rd rfl rfl (by decide) rfl (by decide) zz1 ?_   -- 20
                refine .rd rfl rfl (by decide) rfl (by decide) zz1 ?_   -- 21
                refine .rd rfl rfl (by decide) rfl (by decide) zz1 ?_   -- 22
                refine .rd rfl rfl (by decide) rfl (by decide) zz1 ?_   -- 23
                refine .split (t := 78) rfl (fun c78 => ?_) (fun c78 => ?_)
                · first | cases c78 | (simp only [Bool.not_eq_true', Bool.not_eq_false', Bool.not_not, Bool.not_true, Bool.not_false] at c78; cases c78) | try rw [c78]
                  try simp at c78
                  refine .rd rfl rfl (by decide) rfl (by decide) zz1 ?_   -- 24
                  refine .rd rfl rfl (by decide) rfl (by decide) zz1 ?_   -- 25
                  refine .rd rfl rfl (by decide) rfl (by decide) zz1 ?_   -- 26
                  refine .rd rfl rfl (by decide) rfl (by decide) zz1 ?_   -- 27
                  refine .rd rfl rfl (by decide) rfl (by decide) zz1 ?_   -- 28
                  refine .rd rfl rfl (by decide) rfl (by decide) zz1 ?_   -- 29
                  refine .rd rfl rfl (by decide) rfl (by decide) zz1 ?_   -- 30
                  refine .rd rfl rfl (by decide) rfl (by decide) zz1 ?_   -- 32
                  refine .rd rfl rfl (by decide) rfl (by decide) zz1 ?_   -- 33
                  refine .rd rfl rfl (by decide) rfl (by decide) zz1 ?_   -- 34
                  refine .rd rfl rfl (by decide) rfl (by decide) zz1 ?_   -- 35
                  refine .rd rfl rfl (by decide) rfl (by decide) zz1 ?_   -- 36
                  refine .rd rfl rfl (by decide) rfl (by decide) zz1 ?_   -- 37
                  refine .rd rfl rfl (by decide) rfl (by decide) zz1 ?_   -- 38
                  refine .wr rfl rfl (by decide) (.pure rfl rfl rfl Tryz.call33 (by decide) ((by first | exact p33 ws s H[s] hsw hLs | exact p33 ws s G[s] hsw hLs)) (by first | rfl | simp [*]) ?_)
                  rintro _ rfl
                  refine .ck rfl zz0 ?_   -- 38
                  refine .ck rfl zz0 ?_   -- 35
                  refine .ck rfl zz0 ?_   -- 32
                  refine .wr rfl rfl (by decide) (.pure rfl rfl rfl Tryz.call33 (by decide) ((by first | exact p33 ws s H[s] hsw hLs | exact p33 ws s G[s] hsw hLs)) (by first | rfl | simp [*]) ?_)
                  rintro _ rfl
                  refine .rd rfl rfl (by decide) rfl (by decide) zz1 ?_   -- 40
                  refine .rd rfl rfl (by decide) rfl (by decide) zz1 ?_   -- 41
                  refine .rd rfl rfl (by decide) rfl (by decide) zz1 ?_   -- 42
                  refine .done ?_
                  refine .ret ?_
                  refine ⟨_, _, zz2,zz2, ?_⟩
                  first | rfl | (simp [*]; done) | (simp_all; done)
                · first | cases c78 | (simp only [Bool.not_eq_true', Bool.not_eq_false', Bool.not_not, Bool.not_true, Bool.not_false] at c78; cases c78) | try rw [c78]
                  try simp at c78
              · first | cases c71 | (simp only [Bool.not_eq_true', Bool.not_eq_false', Bool.not_not, Bool.not_true, Bool.not_false] at c71; cases c71) | try rw [c71]
                try simp at c71
            · first | cases c64 | (simp only [Bool.not_eq_true', Bool.not_eq_false', Bool.not_not, Bool.not_true, Bool.not_false] at c64; cases c64) | try rw [c64]
              try simp at c64
          · first | cases c60 | (simp only [Bool.not_eq_true', Bool.not_eq_false', Bool.not_not, Bool.not_true, Bool.not_false] at c60; cases c60) | try rw [c60]
            try simp at c60
        · first | cases c56 | (simp only [Bool.not_eq_true', Bool.not_eq_false', Bool.not_not, Bool.not_true, Bool.not_false] at c56; cases c56) | try rw [c56]
          try simp at c56
end Go.Am.Hi
end
