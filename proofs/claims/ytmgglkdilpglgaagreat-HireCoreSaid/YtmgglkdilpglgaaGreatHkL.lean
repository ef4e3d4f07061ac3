/-
  What is used in the proof of a statement (part HkL); no condition.
-/
import Derived.Test.YtmgglkdilpglgaaGreatHiZ
import Derived.Test.YtmgglkdilpglgaaGreatVm2
import Derived.Test.YtmgglkdilpglgaaGreatHiT
import Derived.Test.YtmgglkdilpglgaaGreatHjD
set_option linter.all false
section
namespace Go.Am.Hi
open Go Go.Am Go.Proofs
set_option maxRecDepth 100000
set_option maxHeartbeats 4000000
set_option linter.unusedSimpArgs false
set_option linter.unusedVariables false
attribute [local simp] vrun vwanted vyielded vop vopA vputAll VHeap.back hidI hidF backL bm Nat.testBit_eq_decide_div_mod_eq veval vevals vparts vO vbuiltin vlen vappend velems vcopy vmakeSlice vbuildSlice valloc vbox vmakeMap vload vpartT vpart vstore vfieldAddr vfield vindexAddr vindex vextract vslice vsliceZ vbounds vbnd zeroO vidx vlookup vmget vmapUpdate vdelete vclear vnilq vnilp vnils vbin vsc vsc1 vscs vscl abinOp aint ashift aunOp aconvert amaxs amax2 pvcV pvc pvcs tput tget vargs VHeap.get VHeap.alloc VHeap.put VHeap.drop VHeap.empty vlook vput vdrop psplice pfill preps chunk List.range List.range.loop vresults vresult vresultV frz frzL PV.isF PV.allF PV.scal PV.allS retP subT allFT PV.one PV.ids PV.idsL dropL beq_eq ble_dec blt_dec
theorem p13 (ws : List (List Int)) (G0 R0 g o : List Int) (hl : ws.length < 4611686018427387904) (hll : ∀ l ∈ ws, l.length < 17592186043905) (hg0 : G0.length < 4611686018427387904) (hr0 : R0.length < 4611686018427387904) (hg : g.length < 4611686018427387904) (ho : o.length < 4611686018427387904) : VPure Tryz.prog 13 [encM ws, .agg [ints G0, ints R0], ints g, ints o] fun r => r = .bool true := by
  obtain ⟨bm, hbm⟩ : ∃ b, (decide (ws.length ≤ 12) && decide (mkE ws = 0)) = b := ⟨_, rfl⟩
  refine .of_body Tryz.func13 rfl rfl ?_
  refine .seq ?_
  refine .rn ?_
  refine .seq ?_
  refine .seq ?_
  refine .regionL [0,1,2,3,4,5,6,7,8,9,10,11,12,13,14,15,16,17,18,19,20,21,22,23,24] rfl zz0 ?_
  refine .rn [0] [1,2,3,4,5,6,7,8,9,10,11,12,13,14,15,16,17,18,19,20,21,22,23,24] ?_
  refine .step rfl rfl (.pure rfl rfl rfl Tryz.call30 (by decide) ((by have := p30 ws hl hll; rw [hbm] at this; exact this)) (by first | rfl | simp [*]) ?_)
  rintro _ rfl
  refine .rn [2,3] [4,5,6,7,8,9,10,11,12,13,14,15,16,17,18,19,20,21,22,23,24] ?_
  refine .split (t := 22) rfl (fun c22 => ?_) (fun c22 => ?_)
  · first | cases c22 | (simp only [Bool.not_eq_true', Bool.not_eq_false', Bool.not_not, Bool.not_true, Bool.not_false] at c22; cases c22) | try rw [c22]
    try simp at c22
    refine .rn [4,5,6,7,8,9,10,11,12,13,14,15,16,17,18,19,20,21,22,23,24] [] ?_
    refine .done ?_
    refine .condT rfl ?_
    refine .seq ?_
    refine .regionL [0,1] rfl zz0 ?_
    refine .step rfl rfl (.pure rfl rfl rfl Tryz.call15 (by decide) (p15) (by first | rfl | simp [*]) ?_)
    rintro _ rfl
    refine .rn [1] [] ?_
    refine .done ?_
    refine .ret ?_
    refine ⟨_, _, zz2,zz2, ?_⟩
    first | rfl | (simp [*]; done) | (simp_all; done)
  · first | cases c22 | (simp only [Bool.not_eq_true', Bool.not_eq_false', Bool.not_not, Bool.not_true, Bool.not_false] at c22; cases c22) | try rw [c22]
    try simp at c22
    refine .rn [4,5,6,7,8,9] [10,11,12,13,14,15,16,17,18,19,20,21,22,23,24] ?_
    refine .split (t := 28) rfl (fun c28 => ?_) (fun c28 => ?_)
    · first | cases c28 | (simp only [Bool.not_eq_true', Bool.not_eq_false', Bool.not_not, Bool.not_true, Bool.not_false] at c28; cases c28) | try rw [c28]
      try simp at c28
      refine .rn [10,11,12,13,14,15,16,17,18,19,20,21,22,23,24] [] ?_
      refine .done ?_
      refine .condT rfl ?_
      refine .seq ?_
      refine .regionL [0,1] rfl zz0 ?_
      refine .step rfl rfl (.pure rfl rfl rfl Tryz.call15 (by decide) (p15) (by first | rfl | simp [*]) ?_)
      rintro _ rfl
      refine .rn [1] [] ?_
      refine .done ?_
      refine .ret ?_
      refine ⟨_, _, zz2,zz2, ?_⟩
      first | rfl | (simp [*]; done) | (simp_all; done)
    · first | cases c28 | (simp only [Bool.not_eq_true', Bool.not_eq_false', Bool.not_not, Bool.not_true, Bool.not_false] at c28; cases c28) | try rw [c28]
      try simp at c28
      refine .rn [10,11,12,13,14,15] [16,17,18,19,20,21,22,23,24] ?_
      refine .split (t := 34) rfl (fun c34 => ?_) (fun c34 => ?_)
      · first | cases c34 | (simp only [Bool.not_eq_true', Bool.not_eq_false', Bool.not_not, Bool.not_true, Bool.not_false] at c34; cases c34) | try rw [c34]
        try simp at c34
        refine .rn [16,17,18,19,20,21,22,23,24] [] ?_
        refine .done ?_
        refine .condT rfl ?_
        refine .seq ?_
        refine .regionL [0,1] rfl zz0 ?_
        refine .step rfl rfl (.pure rfl rfl rfl Tryz.call15 (by decide) (p15) (by first | rfl | simp [*]) ?_)
        rintro _ rfl
        refine .rn [1] [] ?_
        refine .done ?_
        refine .ret ?_
        refine ⟨_, _, zz2,zz2, ?_⟩
        first | rfl | (simp [*]; done) | (simp_all; done)
      · first | cases c34 | (simp only [Bool.not_eq_true', Bool.not_eq_false', Bool.not_not, Bool.not_true, Bool.not_false] at c34; cases c34) | try rw [c34]
        try simp at c34
        refine .rn [16,17,18,19,20] [21,22,23,24] ?_
        refine .split (t := 39) rfl (fun c39 => ?_) (fun c39 => ?_)
        · first | cases c39 | (simp only [Bool.not_eq_true', Bool.not_eq_false', Bool.not_not, Bool.not_true, Bool.not_false] at c39; cases c39) | try rw [c39]
          try simp at c39
          refine .rn [21,22,23,24] [] ?_
          refine .done ?_
          refine .condT rfl ?_
          refine .seq ?_
          refine .regionL [0,1] rfl zz0 ?_
          refine .step rfl rfl (.pure rfl rfl rfl Tryz.call15 (by decide) (p15) (by first | rfl | simp [*]) ?_)
          rintro _ rfl
          refine .rn [1] [] ?_
          refine .done ?_
          refine .ret ?_
          refine ⟨_, _, zz2,zz2, ?_⟩
          first | rfl | (simp [*]; done) | (simp_all; done)
        · first | cases c39 | (simp only [Bool.not_eq_true', Bool.not_eq_false', Bool.not_not, Bool.not_true, Bool.not_false] at c39; cases c39) | try rw [c39]
          try simp at c39
          refine .rn [21,22,23,24] [] ?_
          refine .done ?_
          refine .condS rfl (fun c43 => ?_) (fun c43 => ?_)
          · try simp at c43
            refine .seq ?_
            refine .regionL [0,1] rfl zz0 ?_
            refine .step rfl rfl (.pure rfl rfl rfl Tryz.call15 (by decide) (p15) (by first | rfl | simp [*]) ?_)
            rintro _ rfl
            refine .rn [1] [] ?_
            refine .done ?_
            refine .ret ?_
            refine ⟨_, _, zz2,zz2, ?_⟩
            first | rfl | (simp [*]; done) | (simp_all; done)
          · try simp at c43
            have hg0' : G0.length < 4294967296 := by omega
            have hr0' : R0.length < 4294967296 := by omega
            have hg' : g.length < 4294967296 := by omega
            have ho' : o.length < 4294967296 := by omega
            have hbm2 := hbm
            rw [Bool.and_eq_true, decide_eq_true_eq, decide_eq_true_eq] at hbm2
            obtain ⟨hn12, hm0⟩ := hbm2
            clear hbm
            have hm := mkt_of hm0
            have hl4 : ws.length < 4294967296 := by omega
            have hrows := mkt_rows hm
            have hl4r : ∀ l ∈ ws, l.length < 4294967296 := fun l h => by have := hrows l h; omega
            refine .skip ?_
            refine .seq ?_
            refine .regionL [0,1,2,3,4,5,6,7] rfl zz0 ?_
            refine .rn [0] [1,2,3,4,5,6,7] ?_
            refine .step rfl rfl (.pure rfl rfl rfl Tryz.call32 (by decide) (p32 ws hl4 hl4r) (by first | rfl | simp [*]) ?_)
            rintro _ ⟨R, rfl, hMR⟩
            refine .rn [2,3,4,5,6,7] [] ?_
            refine .done ?_
            refine .seq ?_
            refine .seq ?_
            obtain ⟨G, hG⟩ : ∃ G, mkG ws = G := ⟨_, rfl⟩
            have hA := accP hMR hm0 hG
            rw [hG]
            have hGl := hA.gl
            have hRl := hA.rl
            have hd : dlE ws G R = 0 := dlE_yes hm0 (dlB_iff.2 hA)
            have hgE : gE ws G = 0 := gE_ok hm0 hA.gts
            have hoE : oE ws G g o = 8 := oE_no hgE (Bool.eq_false_iff.2 fun h => ObjP.not hm hA.g (oB_iff.1 h))
            have hbI : betI ws G0 G = false := bet_not hm hA.g
            have hG4 : G.length < 4294967296 := by omega
            have hR4 : R.length < 4294967296 := by omega
            refine .regionL [0,1,2,3,4,5,6,7,8,9,10,11,12,13,14,15,16] rfl zz0 ?_
            refine .rn [0,1,2] [3,4,5,6,7,8,9,10,11,12,13,14,15,16] ?_
            refine .split (t := 52) rfl (fun c52 => ?_) (fun c52 => ?_)
            · first | cases c52 | (simp only [Bool.not_eq_true', Bool.not_eq_false', Bool.not_not, Bool.not_true, Bool.not_false] at c52; cases c52) | try rw [c52]
              try simp at c52
            · first | cases c52 | (simp only [Bool.not_eq_true', Bool.not_eq_false', Bool.not_not, Bool.not_true, Bool.not_false] at c52; cases c52) | try rw [c52]
              try simp at c52
              refine .rn [3,4] [5,6,7,8,9,10,11,12,13,14,15,16] ?_
              refine .step rfl rfl (.pure rfl rfl rfl Tryz.call41 (by decide) (p41 ws G R hl4 hl4r hG4 hR4) (by first | rfl | simp [*]) ?_)
              rintro _ rfl
              refine .rn [6,7,8] [9,10,11,12,13,14,15,16] ?_
              refine .split (t := 58) rfl (fun c58 => ?_) (fun c58 => ?_)
              · first | cases c58 | (simp only [Bool.not_eq_true', Bool.not_eq_false', Bool.not_not, Bool.not_true, Bool.not_false] at c58; cases c58) | try rw [c58]
                try simp at c58
              · first | cases c58 | (simp only [Bool.not_eq_true', Bool.not_eq_false', Bool.not_not, Bool.not_true, Bool.not_false] at c58; cases c58) | try rw [c58]
                try simp at c58
                refine .rn [9,10,11,12,13,14,15,16] [] ?_
                refine .done ?_
                refine .condS rfl (fun c66 => ?_) (fun c66 => ?_)
                · try simp at c66
                · try simp at c66
                  refine .skip ?_
                  refine .join (fun _ : Unit => ([(4, .vp [.vec (ws.map ints)]),(5, .vp [ints G0, ints R0]),(9, .vp [ints G, ints R])], VHeap.empty)) (fun _ => True) ?_ ?_
                  · skip
                    refine .seq ?_
                    obtain ⟨b71, hb71⟩ : ∃ b, (dlE ws G0 R0 == 0) = b := ⟨_, rfl⟩
                    refine .regionL [0,1,2,3,4,5,6,7,8,9,10,11,12,13,14,15,16,17,18,19,20] rfl zz0 ?_
                    refine .rn [0,1] [2,3,4,5,6,7,8,9,10,11,12,13,14,15,16,17,18,19,20] ?_
                    refine .step rfl rfl (.pure rfl rfl rfl Tryz.call41 (by decide) (p41 ws G0 R0 hl4 hl4r hg0' hr0') (by first | rfl | simp [*]) ?_)
                    rintro _ rfl
                    refine .rn [3,4] [5,6,7,8,9,10,11,12,13,14,15,16,17,18,19,20] ?_
                    refine .split (t := 71) rfl (fun c71 => ?_) (fun c71 => ?_)
                    · first | cases c71 | (simp only [Bool.not_eq_true', Bool.not_eq_false', Bool.not_not, Bool.not_true, Bool.not_false] at c71; cases c71) | try rw [c71]
                      try simp at c71
                      have hGG : G0 = G := (dlB_iff.1 (dlE_zero (by simpa using hb71))).same hm hA
                      refine .rn [5,6,7,8] [9,10,11,12,13,14,15,16,17,18,19,20] ?_
                      refine .step rfl rfl (.pure rfl rfl rfl Tryz.call27 (by decide) (p27 G G hG4 hG4) (by first | rfl | simp [*]) ?_)
                      rintro _ rfl
                      refine .rn [10,11,12] [13,14,15,16,17,18,19,20] ?_
                      refine .split (t := 79) rfl (fun c79 => ?_) (fun c79 => ?_)
                      · first | cases c79 | (simp only [Bool.not_eq_true', Bool.not_eq_false', Bool.not_not, Bool.not_true, Bool.not_false] at c79; cases c79) | try rw [c79]
                        try simp at c79
                      · first | cases c79 | (simp only [Bool.not_eq_true', Bool.not_eq_false', Bool.not_not, Bool.not_true, Bool.not_false] at c79; cases c79) | try rw [c79]
                        try simp at c79
                        refine .rn [13,14,15,16,17] [18,19,20] ?_
                        refine .step rfl rfl (.pure rfl rfl rfl Tryz.call35 (by decide) (p35 ws G g o hl4 hl4r hG4 hg' ho') (by first | rfl | simp [*]) ?_)
                        rintro _ rfl
                        refine .rn [19,20] [] ?_
                        refine .done ?_
                        refine .condS rfl (fun c87 => ?_) (fun c87 => ?_)
                        · try simp at c87
                        · try simp at c87
                          refine .skip ?_
                          subst hGG
                          exact ⟨(), trivial, (.mk [0,1,2] [] zz17 zz18 rfl rfl rfl)⟩
                    · first | cases c71 | (simp only [Bool.not_eq_true', Bool.not_eq_false', Bool.not_not, Bool.not_true, Bool.not_false] at c71; cases c71) | try rw [c71]
                      try simp at c71
                      refine .rn [5,6,7,8,9,10,11,12,13,14,15,16,17] [18,19,20] ?_
                      refine .step rfl rfl (.pure rfl rfl rfl Tryz.call35 (by decide) (p35 ws G g o hl4 hl4r hG4 hg' ho') (by first | rfl | simp [*]) ?_)
                      rintro _ rfl
                      refine .rn [19,20] [] ?_
                      refine .done ?_
                      refine .condS rfl (fun c87 => ?_) (fun c87 => ?_)
                      · try simp at c87
                      · try simp at c87
                        refine .skip ?_
                        exact ⟨(), trivial, (.mk [0,1,2] [] zz17 zz18 rfl rfl rfl)⟩
                  · skip
                    rintro _ _
                    simp only
                    refine .join (fun _ : Unit => ([(4, .vp [.vec (ws.map ints)]),(9, .vp [ints G, ints R])], VHeap.empty)) (fun _ => True) ?_ ?_
                    · skip
                      refine .seq ?_
                      refine .regionL [0,1,2,3,4,5,6,7,8,9,10] rfl zz0 ?_
                      refine .rn [0,1,2,3,4] [5,6,7,8,9,10] ?_
                      refine .step rfl rfl (.pure rfl rfl rfl Tryz.call61 (by decide) (p61 ws G0 G hl4 hl4r hg0' hG4) (by first | rfl | simp [*]) ?_)
                      rintro _ rfl
                      refine .rn [6,7,8,9,10] [] ?_
                      refine .done ?_
                      refine .seq ?_
                      obtain ⟨b99, hb99⟩ : ∃ b, (betE ws G0 G == 0) = b := ⟨_, rfl⟩
                      refine .regionL [0,1,2,3,4] rfl zz0 ?_
                      refine .rn [0,1,2] [3,4] ?_
                      refine .split (t := 99) rfl (fun c99 => ?_) (fun c99 => ?_)
                      · first | cases c99 | (simp only [Bool.not_eq_true', Bool.not_eq_false', Bool.not_not, Bool.not_true, Bool.not_false] at c99; cases c99) | try rw [c99]
                        try simp at c99
                        refine .rn [3,4] [] ?_
                        refine .done ?_
                        refine .condS rfl (fun c101 => ?_) (fun c101 => ?_)
                        · try simp at c101
                        · try simp at c101
                          refine .skip ?_
                          exact ⟨(), trivial, (.mk [] [] zz8 zz9 rfl rfl rfl)⟩
                      · first | cases c99 | (simp only [Bool.not_eq_true', Bool.not_eq_false', Bool.not_not, Bool.not_true, Bool.not_false] at c99; cases c99) | try rw [c99]
                        try simp at c99
                        refine .rn [3,4] [] ?_
                        refine .done ?_
                        refine .condF rfl ?_
                        refine .skip ?_
                        exact ⟨(), trivial, (.mk [] [] zz8 zz9 rfl rfl rfl)⟩
                    · skip
                      rintro _ _
                      simp only
                      refine .seq ?_
                      refine .regionL [0,1,2,3,4,5,6,7,8,9,10,11,12] rfl zz0 ?_
                      refine .rn [0,1,2] [3,4,5,6,7,8,9,10,11,12] ?_
                      refine .step rfl rfl (.pure rfl rfl rfl Tryz.call34 (by decide) (p34p ws G hl4 hl4r hG4) (by first | rfl | simp [*]) ?_)
                      rintro _ ⟨g2, o2, is, rfl, hO⟩
                      refine .rn [4,5,6,7,8,9,10,11,12] [] ?_
                      refine .done ?_
                      refine .seq ?_
                      refine .seq ?_
                      obtain rfl : is = false := by
                        rcases hO with h | h
                        · exact h.1
                        · exact absurd hG.symm h.2.2.1
                      refine .rn ?_
                      refine .block ?_
                      refine .loopS (fun k : Nat => ([(4, .vp [.vec (ws.map ints)]),(15, .bool false),(16, .int .i64 0),(112, ints G),(113, .int .i64 G.length),(114, .int .i64 k)], VHeap.empty)) (fun k => k ≤ G.length) (fun k => G.length - k) 0 (Nat.zero_le _) (.mk [] [] zz8 zz9 rfl rfl rfl) ?_
                      rintro k hk
                      simp only at hk ⊢
                      refine .seq ?_
                      refine .rn ?_
                      refine .seq ?_
                      refine .condS rfl (fun c115 => ?_) (fun c115 => ?_)
                      · try simp at c115
                        have hw2 : IntKind.i64.wrap ((k : Int) + 1) = (k : Int) + 1 := wrap64 (by omega) (by omega)
                        have hkw : k < ws.length := by omega
                        have hkG : k < G.length := by omega
                        have hL := hl4r ws[k] (List.getElem_mem hkw)
                        have hle : prk ws k G[k] ≤ ws[k].length := by
                          have h1 := hA.acc.own (i := (k : Int)) ⟨by omega, by omega⟩
                          rw [hm.own ⟨by omega, by omega⟩, nx_at hkG] at h1
                          simpa [hkw] using h1
                        refine .skip ?_
                        refine .seq ?_
                        refine .block ?_
                        refine .seq ?_
                        refine .rn ?_
                        refine .seq ?_
                        refine .drawn (ms := [0,0,0,7,0,16,0,112,240,496,1023]) (W := [3]) (items := [.op 0, .op 1, .op 2, .op 4, .op 5, .op 6, .op 7, .op 8, .op 9, .op 3, .ck 9, .ck 8, .ck 5, .op 10]) rfl zz0 zz0 zz0 ?_
                        refine .rd rfl rfl (by decide) rfl (by decide) zz1 ?_   -- 0
                        refine .rd rfl rfl (by decide) rfl (by decide) zz1 ?_   -- 1
                        refine .rd rfl rfl (by decide) rfl (by decide) zz1 ?_   -- 2
                        refine .rd rfl rfl (by decide) rfl (by decide) zz1 ?_   -- 4
                        refine .rd rfl rfl (by decide) rfl (by decide) zz1 ?_   -- 5
                        refine .rd rfl rfl (by decide) rfl (by decide) zz1 ?_   -- 6
                        refine .rd rfl rfl (by decide) rfl (by decide) zz1 ?_   -- 7
                        refine .rd rfl rfl (by decide) rfl (by decide) zz1 ?_   -- 8
                        refine .rd rfl rfl (by decide) rfl (by decide) zz1 ?_   -- 9
                        refine .wr rfl rfl (by decide) (.pure rfl rfl rfl Tryz.call33 (by decide) (p33 ws k G[k] hkw hL) (by first | rfl | simp [*]) ?_)
                        rintro _ rfl
                        refine .ck rfl zz0 ?_   -- 9
                        refine .ck rfl zz0 ?_   -- 8
                        refine .ck rfl zz0 ?_   -- 5
                        refine .rd rfl rfl (by decide) rfl (by decide) zz1 ?_   -- 10
                        refine .done ?_
                        refine .condS rfl (fun c129 => ?_) (fun c129 => ?_)
                        · try simp at c129
                          exfalso; omega
                        · try simp at c129
                          refine .skip ?_
                          refine .rn ?_
                          refine ⟨k + 1, hkG, zz3,(.mk [] [] zz8 zz9 rfl rfl rfl)⟩
                      · try simp at c115
                        refine .exit ?_
                        refine .seq ?_
                        refine .regionL [0,1,2,3,4,5,6,7,8,9] rfl zz0 ?_
                        refine .step rfl rfl (.pure rfl rfl rfl Tryz.call15 (by decide) (p15) (by first | rfl | simp [*]) ?_)
                        rintro _ rfl
                        refine .rn [1] [2,3,4,5,6,7,8,9] ?_
                        refine .split (t := 132) rfl (fun c132 => ?_) (fun c132 => ?_)
                        · first | cases c132 | (simp only [Bool.not_eq_true', Bool.not_eq_false', Bool.not_not, Bool.not_true, Bool.not_false] at c132; cases c132) | try rw [c132]
                          try simp at c132
                          refine .rn [2,3,4,5] [6,7,8,9] ?_
                          refine .split (t := 136) rfl (fun c136 => ?_) (fun c136 => ?_)
                          · first | cases c136 | (simp only [Bool.not_eq_true', Bool.not_eq_false', Bool.not_not, Bool.not_true, Bool.not_false] at c136; cases c136) | try rw [c136]
                            try simp at c136
                            refine .rn [6,7,8,9] [] ?_
                            refine .done ?_
                            refine .ret ?_
                            refine ⟨_, _, zz2,zz2, ?_⟩
                            first | rfl | (simp [*]; done) | (simp_all; done)
                          · first | cases c136 | (simp only [Bool.not_eq_true', Bool.not_eq_false', Bool.not_not, Bool.not_true, Bool.not_false] at c136; cases c136) | try rw [c136]
                            try simp at c136
                        · first | cases c132 | (simp only [Bool.not_eq_true', Bool.not_eq_false', Bool.not_not, Bool.not_true, Bool.not_false] at c132; cases c132) | try rw [c132]
                          try simp at c132
end Go.Am.Hi
end
