/-
  What is used in the proof of a statement (part HiD); no condition.
-/
import Derived.Test.YtmgglkdilpglgaaGreatHiZ
import Derived.Test.YtmgglkdilpglgaaGreatVm2
import Derived.Test.YtmgglkdilpglgaaGreatHiT
import Derived.Test.YtmgglkdilpglgaaGreatHiS
import Derived.Test.YtmgglkdilpglgaaGreatHiC
set_option linter.all false
section
namespace Go.Am.Hi
open Go Go.Am Go.Proofs
set_option maxRecDepth 100000
set_option maxHeartbeats 4000000
set_option linter.unusedSimpArgs false
set_option linter.unusedVariables false
attribute [local simp] vrun vwanted vyielded vop vopA vputAll VHeap.back hidI hidF backL bm Nat.testBit_eq_decide_div_mod_eq veval vevals vparts vO vbuiltin vlen vappend velems vcopy vmakeSlice vbuildSlice valloc vbox vmakeMap vload vpartT vpart vstore vfieldAddr vfield vindexAddr vindex vextract vslice vsliceZ vbounds vbnd zeroO vidx vlookup vmget vmapUpdate vdelete vclear vnilq vnilp vnils vbin vsc vsc1 vscs vscl abinOp aint ashift aunOp aconvert amaxs amax2 pvcV pvc pvcs tput tget vargs VHeap.get VHeap.alloc VHeap.put VHeap.drop VHeap.empty vlook vput vdrop psplice pfill preps chunk List.range List.range.loop vresults vresult vresultV frz frzL PV.isF PV.allF PV.scal PV.allS retP subT allFT PV.one PV.ids PV.idsL dropL beq_eq ble_dec blt_dec
theorem lpsR_small (row : List Int) (h : row.length < 4294967296) : (lpsR row).length < 4294967296 ∧ ∀ x ∈ lpsR row, x.length < 4294967296 := by
  have h1 := lpsR_len row
  refine ⟨by omega, fun x hx => ?_⟩
  unfold lpsR at hx
  split at hx
  · rename_i hb
    have hR := (rowB_iff.1 hb).2.2
    have h2 := lpR_flat row row.length
    have h3 : x.length ≤ (lpR row row.length).flatten.length := by
      obtain ⟨s, t, hst⟩ := List.append_of_mem hx
      rw [hst]
      simp
      omega
    have h4 : row.length * (row.length + 1) ≤ 24 * 25 := Nat.mul_le_mul hR (by omega)
    omega
  · cases hx
theorem excL_small (row : List Int) (l : List (Int × Int)) (h : row.length < 4294967296) : (excL row l).length < 4294967296 := by
  unfold excL
  split
  · rw [exch_len]; exact h
  · decide
theorem expRL_small (n : Int) (F : List (Int × Int)) : (expRL n F).length < 4294967296 := by
  unfold expRL
  split
  · rename_i h
    have : n ≤ 24 := by
      unfold expE at h
      split at h
      · rename_i h2; exact h2.2
      · cases h
    rw [rowR, arrO_len]; omega
  · decide
theorem lpsE_iff {row : List Int} : lpsE row = 0 ↔ rowB row = true := by
  unfold lpsE
  cases rowB row <;> simp
theorem p8 (row : List Int) (l : List (Int × Int)) (n : Int) (F q : List (Int × Int)) (H1 : row.length < 4611686018427387904) (H2 : l.length < 4611686018427387904) (H3 : F.length < 4611686018427387904) (hA : lpsH row = lpsR row) (hC1 : expE n F = 0 → rowB (rowX n.toNat F) = true) (hC2 : expL n F = expRL n F) (hC3 : (expN n F fun r => (lpH r r.length).length) = expRN n F) (hD1 : rowB row = true → RS row q) (hD2 : rowB row = false → q = []) (hD3 : rowB row = true → chkS (lpsR row).length row q = 0) (hK : chkS (lpH row row.length).length row l = chkS (lpsR row).length row l) (hq : q.length < 4294967296) : VPure Tryz.prog 8 [ints row, .vec (l.map encX), .int .i64 n, .vec (F.map encX)] fun r => r = .bool true := by
  refine .of_body Tryz.func8 rfl rfl ?_
  refine .seq ?_
  refine .rn ?_
  refine .seq ?_
  refine .seq ?_
  refine .regionL [0,1,2,3,4,5,6,7,8,9,10,11,12] rfl zz0 ?_
  refine .rn [0,1,2,3] [4,5,6,7,8,9,10,11,12] ?_
  refine .split (t := 25) rfl (fun c25 => ?_) (fun c25 => ?_)
  · try rw [c25]
    try simp at c25
    refine .rn [4,5,6,7,8,9,10,11,12] [] ?_
    refine .done ?_
    refine .condT rfl ?_
    refine .seq ?_
    refine .regionL [0,1] rfl zz0 ?_
    refine .step rfl rfl (.pure rfl rfl rfl Tryz.call15 (by decide) (p15) (by first | rfl | simp [*]) ?_)
    rintro _ rfl
    refine .rn [1] [] ?_
    refine .done ?_
    refine .ret ?_
    refine ⟨_, _, zz2,zz2, ?_⟩
    first | rfl | (simp [*]; done) | (simp_all; done)
  · try rw [c25]
    try simp at c25
    refine .rn [4,5,6,7,8] [9,10,11,12] ?_
    refine .split (t := 30) rfl (fun c30 => ?_) (fun c30 => ?_)
    · try rw [c30]
      try simp at c30
      refine .rn [9,10,11,12] [] ?_
      refine .done ?_
      refine .condT rfl ?_
      refine .seq ?_
      refine .regionL [0,1] rfl zz0 ?_
      refine .step rfl rfl (.pure rfl rfl rfl Tryz.call15 (by decide) (p15) (by first | rfl | simp [*]) ?_)
      rintro _ rfl
      refine .rn [1] [] ?_
      refine .done ?_
      refine .ret ?_
      refine ⟨_, _, zz2,zz2, ?_⟩
      first | rfl | (simp [*]; done) | (simp_all; done)
    · try rw [c30]
      try simp at c30
      refine .rn [9,10,11,12] [] ?_
      refine .done ?_
      refine .condS rfl (fun c34 => ?_) (fun c34 => ?_)
      · try simp at c34
        refine .seq ?_
        refine .regionL [0,1] rfl zz0 ?_
        refine .step rfl rfl (.pure rfl rfl rfl Tryz.call15 (by decide) (p15) (by first | rfl | simp [*]) ?_)
        rintro _ rfl
        refine .rn [1] [] ?_
        refine .done ?_
        refine .ret ?_
        refine ⟨_, _, zz2,zz2, ?_⟩
        first | rfl | (simp [*]; done) | (simp_all; done)
      · try simp at c34
        have h1 : row.length < 4294967296 := by omega
        have h2 : l.length < 4294967296 := by omega
        have h3 : F.length < 4294967296 := by omega
        obtain ⟨hs1, hs2⟩ := lpsR_small row h1
        have hs3 := excL_small row l h1
        have hs4 := expRL_small n F
        refine .skip ?_
        refine .seq ?_
        refine .regionL [0,1,2,3,4,5,6] rfl zz0 ?_
        refine .rn [0] [1,2,3,4,5,6] ?_
        refine .step rfl rfl (.pure rfl rfl rfl Tryz.call42 (by decide) (p42' row h1) (by first | rfl | simp [*]) ?_)
        rintro _ rfl
        refine .rn [2,3,4,5,6] [] ?_
        refine .done ?_
        refine .seq ?_
        refine .regionL [0,1,2,3] rfl zz0 ?_
        refine .rn [0] [1,2,3] ?_
        refine .step rfl rfl (.pure rfl rfl rfl Tryz.call43 (by decide) (p43' row h1) (by first | rfl | simp [*]) ?_)
        rintro _ rfl
        refine .rn [2,3] [] ?_
        refine .done ?_
        refine .seq ?_
        refine .regionL [0,1,2,3,4,5,6,7] rfl zz0 ?_
        refine .rn [0,1] [2,3,4,5,6,7] ?_
        refine .step rfl rfl (.pure rfl rfl rfl Tryz.call44 (by decide) (p44' row l h1 h2) (by first | rfl | simp [*]) ?_)
        rintro _ rfl
        refine .rn [3,4,5,6,7] [] ?_
        refine .done ?_
        refine .seq ?_
        refine .regionL [0,1,2,3,4] rfl zz0 ?_
        refine .rn [0,1] [2,3,4] ?_
        refine .step rfl rfl (.pure rfl rfl rfl Tryz.call45 (by decide) (p45' row l h1 h2) (by first | rfl | simp [*]) ?_)
        rintro _ rfl
        refine .rn [3,4] [] ?_
        refine .done ?_
        refine .seq ?_
        refine .regionL [0,1,2,3,4,5,6,7,8,9] rfl zz0 ?_
        refine .rn [0,1] [2,3,4,5,6,7,8,9] ?_
        refine .step rfl rfl (.pure rfl rfl rfl Tryz.call46 (by decide) (p46' n F h3 hC1) (by first | rfl | simp [*]) ?_)
        rintro _ rfl
        refine .rn [3,4,5,6,7,8,9] [] ?_
        refine .done ?_
        refine .seq ?_
        refine .regionL [0,1,2,3,4] rfl zz0 ?_
        refine .rn [0,1] [2,3,4] ?_
        refine .step rfl rfl (.pure rfl rfl rfl Tryz.call47 (by decide) (p47' n F h3) (by first | rfl | simp [*]) ?_)
        rintro _ rfl
        refine .rn [3,4] [] ?_
        refine .done ?_
        refine .seq ?_
        refine .regionL [0,1,2,3,4,5,6] rfl zz0 ?_
        refine .rn [0] [1,2,3,4,5,6] ?_
        refine .step rfl rfl (.pure rfl rfl rfl Tryz.call48 (by decide) ((VPure.soft (p48 row q h1 hD1 hD2) (by simp [PV.isF]))) (by first | rfl | simp [*]) ?_)
        rintro _ rfl
        refine .rn [2,3,4,5,6] [] ?_
        refine .done ?_
        refine .seq ?_
        refine .seq ?_
        refine .regionL [0,1,2,3,4,5,6,7,8,9,10,11,12,13,14,15,16,17,18,19,20,21,22] rfl zz0 ?_
        refine .rn [0,1,2,3,4] [5,6,7,8,9,10,11,12,13,14,15,16,17,18,19,20,21,22] ?_
        refine .split (t := 71) rfl (fun c71 => ?_) (fun c71 => ?_)
        · try rw [c71]
          try simp at c71
        · try rw [c71]
          try simp at c71
          refine .rn [5,6,7] [8,9,10,11,12,13,14,15,16,17,18,19,20,21,22] ?_
          refine .split (t := 74) rfl (fun c74 => ?_) (fun c74 => ?_)
          · try rw [c74]
            try simp at c74
            have hz := hD3 (lpsE_iff.1 c74)
            refine .rn [8,9] [10,11,12,13,14,15,16,17,18,19,20,21,22] ?_
            refine .step rfl rfl (.pure rfl rfl rfl Tryz.call49 (by decide) ((by first | exact p49 row q h1 hq | exact p49 row l h1 h2)) (by first | rfl | simp [*]) ?_)
            rintro _ rfl
            refine .rn [11,12,13,14] [15,16,17,18,19,20,21,22] ?_
            refine .split (t := 81) rfl (fun c81 => ?_) (fun c81 => ?_)
            · try rw [c81]
              try simp at c81
            · try rw [c81]
              try simp at c81
              refine .rn [15,16,17] [18,19,20,21,22] ?_
              refine .split (t := 84) rfl (fun c84 => ?_) (fun c84 => ?_)
              · try rw [c84]
                try simp at c84
              · try rw [c84]
                try simp at c84
                refine .rn [18,19,20,21,22] [] ?_
                refine .done ?_
                refine .condF rfl ?_
                refine .skip ?_
                refine .seq ?_
                refine .regionL [0,1,2,3,4,5,6,7,8,9,10,11,12,13,14,15,16,17,18,19,20,21,22] rfl zz0 ?_
                refine .rn [0,1,2] [3,4,5,6,7,8,9,10,11,12,13,14,15,16,17,18,19,20,21,22] ?_
                refine .step rfl rfl (.pure rfl rfl rfl Tryz.call50 (by decide) (p50 (lpsR row) (lpsR row) hs1 hs1 hs2 hs2) (by first | rfl | simp [*]) ?_)
                rintro _ rfl
                refine .rn [4] [5,6,7,8,9,10,11,12,13,14,15,16,17,18,19,20,21,22] ?_
                refine .split (t := 94) rfl (fun c94 => ?_) (fun c94 => ?_)
                · try rw [c94]
                  try simp at c94
                  refine .rn [5,6,7,8,9,10] [11,12,13,14,15,16,17,18,19,20,21,22] ?_
                  refine .split (t := 100) rfl (fun c100 => ?_) (fun c100 => ?_)
                  · try rw [c100]
                    try simp at c100
                    refine .rn [11,12,13] [14,15,16,17,18,19,20,21,22] ?_
                    refine .step rfl rfl (.pure rfl rfl rfl Tryz.call27 (by decide) ((by first | exact p27 (excL row l) (excL row l) hs3 hs3 | exact p27 (expRL n F) (expRL n F) hs4 hs4)) (by first | rfl | simp [*]) ?_)
                    rintro _ rfl
                    refine .rn [15,16] [17,18,19,20,21,22] ?_
                    refine .split (t := 106) rfl (fun c106 => ?_) (fun c106 => ?_)
                    · try rw [c106]
                      try simp at c106
                      refine .rn [17,18,19,20,21,22] [] ?_
                      refine .done ?_
                      refine .seq ?_
                      refine .regionL [0,1,2,3,4,5,6,7,8,9,10,11,12,13,14,15,16,17,18,19,20,21,22,23,24,25,26,27,28,29,30,31] rfl zz0 ?_
                      refine .step rfl rfl (.pure rfl rfl rfl Tryz.call15 (by decide) (p15) (by first | rfl | simp [*]) ?_)
                      rintro _ rfl
                      refine .rn [1] [2,3,4,5,6,7,8,9,10,11,12,13,14,15,16,17,18,19,20,21,22,23,24,25,26,27,28,29,30,31] ?_
                      refine .split (t := 113) rfl (fun c113 => ?_) (fun c113 => ?_)
                      · try rw [c113]
                        try simp at c113
                        refine .rn [2,3,4] [5,6,7,8,9,10,11,12,13,14,15,16,17,18,19,20,21,22,23,24,25,26,27,28,29,30,31] ?_
                        refine .split (t := 116) rfl (fun c116 => ?_) (fun c116 => ?_)
                        · try rw [c116]
                          try simp at c116
                          refine .rn [5,6,7] [8,9,10,11,12,13,14,15,16,17,18,19,20,21,22,23,24,25,26,27,28,29,30,31] ?_
                          refine .step rfl rfl (.pure rfl rfl rfl Tryz.call27 (by decide) ((by first | exact p27 (excL row l) (excL row l) hs3 hs3 | exact p27 (expRL n F) (expRL n F) hs4 hs4)) (by first | rfl | simp [*]) ?_)
                          rintro _ rfl
                          refine .rn [9,10] [11,12,13,14,15,16,17,18,19,20,21,22,23,24,25,26,27,28,29,30,31] ?_
                          refine .split (t := 122) rfl (fun c122 => ?_) (fun c122 => ?_)
                          · try rw [c122]
                            try simp at c122
                            refine .rn [11,12,13,14,15,16] [17,18,19,20,21,22,23,24,25,26,27,28,29,30,31] ?_
                            refine .split (t := 128) rfl (fun c128 => ?_) (fun c128 => ?_)
                            · try rw [c128]
                              try simp at c128
                              refine .rn [17,18,19,20,21,22] [23,24,25,26,27,28,29,30,31] ?_
                              refine .split (t := 134) rfl (fun c134 => ?_) (fun c134 => ?_)
                              · try rw [c134]
                                try simp at c134
                                refine .rn [23,24] [25,26,27,28,29,30,31] ?_
                                refine .step rfl rfl (.pure rfl rfl rfl Tryz.call51 (by decide) (p51 row l h1 h2) (by first | rfl | simp [*]) ?_)
                                rintro _ rfl
                                refine .rn [26,27] [28,29,30,31] ?_
                                refine .step rfl rfl (.pure rfl rfl rfl Tryz.call49 (by decide) ((by first | exact p49 row q h1 hq | exact p49 row l h1 h2)) (by first | rfl | simp [*]) ?_)
                                rintro _ rfl
                                refine .rn [29,30,31] [] ?_
                                refine .done ?_
                                refine .ret ?_
                                refine ⟨_, _, zz2,zz2, ?_⟩
                                first | rfl | (simp [*]; done) | (simp_all; done)
                              · try rw [c134]
                                try simp at c134
                            · try rw [c128]
                              try simp at c128
                          · try rw [c122]
                            try simp at c122
                        · try rw [c116]
                          try simp at c116
                      · try rw [c113]
                        try simp at c113
                    · try rw [c106]
                      try simp at c106
                  · try rw [c100]
                    try simp at c100
                · try rw [c94]
                  try simp at c94
          · try rw [c74]
            try simp at c74
            have hqe : q = [] := hD2 (by rw [Bool.eq_false_iff]; exact fun h => c74 (lpsE_iff.2 h))
            refine .rn [8,9,10,11,12,13,14,15,16,17] [18,19,20,21,22] ?_
            refine .split (t := 84) rfl (fun c84 => ?_) (fun c84 => ?_)
            · try rw [c84]
              try simp at c84
              refine .rn [18,19,20,21,22] [] ?_
              refine .done ?_
              refine .condS rfl (fun c89 => ?_) (fun c89 => ?_)
              · try simp at c89
              · try simp at c89
                refine .skip ?_
                refine .seq ?_
                refine .regionL [0,1,2,3,4,5,6,7,8,9,10,11,12,13,14,15,16,17,18,19,20,21,22] rfl zz0 ?_
                refine .rn [0,1,2] [3,4,5,6,7,8,9,10,11,12,13,14,15,16,17,18,19,20,21,22] ?_
                refine .step rfl rfl (.pure rfl rfl rfl Tryz.call50 (by decide) (p50 (lpsR row) (lpsR row) hs1 hs1 hs2 hs2) (by first | rfl | simp [*]) ?_)
                rintro _ rfl
                refine .rn [4] [5,6,7,8,9,10,11,12,13,14,15,16,17,18,19,20,21,22] ?_
                refine .split (t := 94) rfl (fun c94 => ?_) (fun c94 => ?_)
                · try rw [c94]
                  try simp at c94
                  refine .rn [5,6,7,8,9,10] [11,12,13,14,15,16,17,18,19,20,21,22] ?_
                  refine .split (t := 100) rfl (fun c100 => ?_) (fun c100 => ?_)
                  · try rw [c100]
                    try simp at c100
                    refine .rn [11,12,13] [14,15,16,17,18,19,20,21,22] ?_
                    refine .step rfl rfl (.pure rfl rfl rfl Tryz.call27 (by decide) ((by first | exact p27 (excL row l) (excL row l) hs3 hs3 | exact p27 (expRL n F) (expRL n F) hs4 hs4)) (by first | rfl | simp [*]) ?_)
                    rintro _ rfl
                    refine .rn [15,16] [17,18,19,20,21,22] ?_
                    refine .split (t := 106) rfl (fun c106 => ?_) (fun c106 => ?_)
                    · try rw [c106]
                      try simp at c106
                      refine .rn [17,18,19,20,21,22] [] ?_
                      refine .done ?_
                      refine .seq ?_
                      refine .regionL [0,1,2,3,4,5,6,7,8,9,10,11,12,13,14,15,16,17,18,19,20,21,22,23,24,25,26,27,28,29,30,31] rfl zz0 ?_
                      refine .step rfl rfl (.pure rfl rfl rfl Tryz.call15 (by decide) (p15) (by first | rfl | simp [*]) ?_)
                      rintro _ rfl
                      refine .rn [1] [2,3,4,5,6,7,8,9,10,11,12,13,14,15,16,17,18,19,20,21,22,23,24,25,26,27,28,29,30,31] ?_
                      refine .split (t := 113) rfl (fun c113 => ?_) (fun c113 => ?_)
                      · try rw [c113]
                        try simp at c113
                        refine .rn [2,3,4] [5,6,7,8,9,10,11,12,13,14,15,16,17,18,19,20,21,22,23,24,25,26,27,28,29,30,31] ?_
                        refine .split (t := 116) rfl (fun c116 => ?_) (fun c116 => ?_)
                        · try rw [c116]
                          try simp at c116
                          refine .rn [5,6,7] [8,9,10,11,12,13,14,15,16,17,18,19,20,21,22,23,24,25,26,27,28,29,30,31] ?_
                          refine .step rfl rfl (.pure rfl rfl rfl Tryz.call27 (by decide) ((by first | exact p27 (excL row l) (excL row l) hs3 hs3 | exact p27 (expRL n F) (expRL n F) hs4 hs4)) (by first | rfl | simp [*]) ?_)
                          rintro _ rfl
                          refine .rn [9,10] [11,12,13,14,15,16,17,18,19,20,21,22,23,24,25,26,27,28,29,30,31] ?_
                          refine .split (t := 122) rfl (fun c122 => ?_) (fun c122 => ?_)
                          · try rw [c122]
                            try simp at c122
                            refine .rn [11,12,13,14,15,16] [17,18,19,20,21,22,23,24,25,26,27,28,29,30,31] ?_
                            refine .split (t := 128) rfl (fun c128 => ?_) (fun c128 => ?_)
                            · try rw [c128]
                              try simp at c128
                              refine .rn [17,18,19,20,21,22] [23,24,25,26,27,28,29,30,31] ?_
                              refine .split (t := 134) rfl (fun c134 => ?_) (fun c134 => ?_)
                              · try rw [c134]
                                try simp at c134
                                refine .rn [23,24] [25,26,27,28,29,30,31] ?_
                                refine .step rfl rfl (.pure rfl rfl rfl Tryz.call51 (by decide) (p51 row l h1 h2) (by first | rfl | simp [*]) ?_)
                                rintro _ rfl
                                refine .rn [26,27] [28,29,30,31] ?_
                                refine .step rfl rfl (.pure rfl rfl rfl Tryz.call49 (by decide) ((by first | exact p49 row q h1 hq | exact p49 row l h1 h2)) (by first | rfl | simp [*]) ?_)
                                rintro _ rfl
                                refine .rn [29,30,31] [] ?_
                                refine .done ?_
                                refine .ret ?_
                                refine ⟨_, _, zz2,zz2, ?_⟩
                                first | rfl | (simp [*]; done) | (simp_all; done)
                              · try rw [c134]
                                try simp at c134
                            · try rw [c128]
                              try simp at c128
                          · try rw [c122]
                            try simp at c122
                        · try rw [c116]
                          try simp at c116
                      · try rw [c113]
                        try simp at c113
                    · try rw [c106]
                      try simp at c106
                  · try rw [c100]
                    try simp at c100
                · try rw [c94]
                  try simp at c94
            · try rw [c84]
              try simp at c84
              refine .rn [18,19,20,21,22] [] ?_
              refine .done ?_
              refine .condF rfl ?_
              refine .skip ?_
              refine .seq ?_
              refine .regionL [0,1,2,3,4,5,6,7,8,9,10,11,12,13,14,15,16,17,18,19,20,21,22] rfl zz0 ?_
              refine .rn [0,1,2] [3,4,5,6,7,8,9,10,11,12,13,14,15,16,17,18,19,20,21,22] ?_
              refine .step rfl rfl (.pure rfl rfl rfl Tryz.call50 (by decide) (p50 (lpsR row) (lpsR row) hs1 hs1 hs2 hs2) (by first | rfl | simp [*]) ?_)
              rintro _ rfl
              refine .rn [4] [5,6,7,8,9,10,11,12,13,14,15,16,17,18,19,20,21,22] ?_
              refine .split (t := 94) rfl (fun c94 => ?_) (fun c94 => ?_)
              · try rw [c94]
                try simp at c94
                refine .rn [5,6,7,8,9,10] [11,12,13,14,15,16,17,18,19,20,21,22] ?_
                refine .split (t := 100) rfl (fun c100 => ?_) (fun c100 => ?_)
                · try rw [c100]
                  try simp at c100
                  refine .rn [11,12,13] [14,15,16,17,18,19,20,21,22] ?_
                  refine .step rfl rfl (.pure rfl rfl rfl Tryz.call27 (by decide) ((by first | exact p27 (excL row l) (excL row l) hs3 hs3 | exact p27 (expRL n F) (expRL n F) hs4 hs4)) (by first | rfl | simp [*]) ?_)
                  rintro _ rfl
                  refine .rn [15,16] [17,18,19,20,21,22] ?_
                  refine .split (t := 106) rfl (fun c106 => ?_) (fun c106 => ?_)
                  · try rw [c106]
                    try simp at c106
                    refine .rn [17,18,19,20,21,22] [] ?_
                    refine .done ?_
                    refine .seq ?_
                    refine .regionL [0,1,2,3,4,5,6,7,8,9,10,11,12,13,14,15,16,17,18,19,20,21,22,23,24,25,26,27,28,29,30,31] rfl zz0 ?_
                    refine .step rfl rfl (.pure rfl rfl rfl Tryz.call15 (by decide) (p15) (by first | rfl | simp [*]) ?_)
                    rintro _ rfl
                    refine .rn [1] [2,3,4,5,6,7,8,9,10,11,12,13,14,15,16,17,18,19,20,21,22,23,24,25,26,27,28,29,30,31] ?_
                    refine .split (t := 113) rfl (fun c113 => ?_) (fun c113 => ?_)
                    · try rw [c113]
                      try simp at c113
                      refine .rn [2,3,4] [5,6,7,8,9,10,11,12,13,14,15,16,17,18,19,20,21,22,23,24,25,26,27,28,29,30,31] ?_
                      refine .split (t := 116) rfl (fun c116 => ?_) (fun c116 => ?_)
                      · try rw [c116]
                        try simp at c116
                        refine .rn [5,6,7] [8,9,10,11,12,13,14,15,16,17,18,19,20,21,22,23,24,25,26,27,28,29,30,31] ?_
                        refine .step rfl rfl (.pure rfl rfl rfl Tryz.call27 (by decide) ((by first | exact p27 (excL row l) (excL row l) hs3 hs3 | exact p27 (expRL n F) (expRL n F) hs4 hs4)) (by first | rfl | simp [*]) ?_)
                        rintro _ rfl
                        refine .rn [9,10] [11,12,13,14,15,16,17,18,19,20,21,22,23,24,25,26,27,28,29,30,31] ?_
                        refine .split (t := 122) rfl (fun c122 => ?_) (fun c122 => ?_)
                        · try rw [c122]
                          try simp at c122
                          refine .rn [11,12,13,14,15,16] [17,18,19,20,21,22,23,24,25,26,27,28,29,30,31] ?_
                          refine .split (t := 128) rfl (fun c128 => ?_) (fun c128 => ?_)
                          · try rw [c128]
                            try simp at c128
                            refine .rn [17,18,19,20,21,22] [23,24,25,26,27,28,29,30,31] ?_
                            refine .split (t := 134) rfl (fun c134 => ?_) (fun c134 => ?_)
                            · try rw [c134]
                              try simp at c134
                              refine .rn [23,24] [25,26,27,28,29,30,31] ?_
                              refine .step rfl rfl (.pure rfl rfl rfl Tryz.call51 (by decide) (p51 row l h1 h2) (by first | rfl | simp [*]) ?_)
                              rintro _ rfl
                              refine .rn [26,27] [28,29,30,31] ?_
                              refine .step rfl rfl (.pure rfl rfl rfl Tryz.call49 (by decide) ((by first | exact p49 row q h1 hq | exact p49 row l h1 h2)) (by first | rfl | simp [*]) ?_)
                              rintro _ rfl
                              refine .rn [29,30,31] [] ?_
                              refine .done ?_
                              refine .ret ?_
                              refine ⟨_, _, zz2,zz2, ?_⟩
                              first | rfl | (simp [*]; done) | (simp_all; done)
                            · try rw [c134]
                              try simp at c134
                          · try rw [c128]
                            try simp at c128
                        · try rw [c122]
                          try simp at c122
                      · try rw [c116]
                        try simp at c116
                    · try rw [c113]
                      try simp at c113
                  · try rw [c106]
                    try simp at c106
                · try rw [c100]
                  try simp at c100
              · try rw [c94]
                try simp at c94
end Go.Am.Hi
end

section
namespace Go.Am.Hi
open Go Go.Am Go.Proofs
set_option maxRecDepth 100000
set_option linter.unusedSimpArgs false
set_option linter.unusedVariables false

def Shut (row S : List Int) : Prop := ∀ x, 0 ≤ x → x < (row.length : Int) → nx row x ∈ S → x ∈ S
theorem nx_mem {row : List Int} {x : Int} (h0 : 0 ≤ x) (h1 : x < (row.length : Int)) : nx row x ∈ row := by
  unfold nx
  rw [List.getD_eq_getElem?_getD, List.getElem?_eq_getElem (by omega), Option.getD_some]
  exact List.getElem_mem _
theorem nx_in {row : List Int} (hr : ∀ n ∈ row, 0 ≤ n ∧ n ≤ (row.length : Int) - 1) {x : Int} (h0 : 0 ≤ x) (h1 : x < (row.length : Int)) : 0 ≤ nx row x ∧ nx row x < (row.length : Int) := by
  have := hr _ (nx_mem h0 h1)
  omega
theorem nx_inj {row : List Int} (hn : row.Nodup) {x y : Int} (h0 : 0 ≤ x) (h1 : x < (row.length : Int)) (h2 : 0 ≤ y) (h3 : y < (row.length : Int)) (he : nx row x = nx row y) : x = y := by
  unfold nx at he
  rw [List.getD_eq_getElem?_getD, List.getElem?_eq_getElem (by omega), Option.getD_some, List.getD_eq_getElem?_getD, List.getElem?_eq_getElem (by omega), Option.getD_some] at he
  rcases Nat.lt_trichotomy x.toNat y.toNat with h | h | h
  · exact absurd he ((List.pairwise_iff_getElem.1 hn) _ _ (by omega) (by omega) h)
  · omega
  · exact absurd he.symm ((List.pairwise_iff_getElem.1 hn) _ _ (by omega) (by omega) h)
theorem wlk_bar {row S : List Int} (hr : ∀ n ∈ row, 0 ≤ n ∧ n ≤ (row.length : Int) - 1) (hS : Shut row S) : ∀ (k : Nat) (c : Int) (l : List Int),0 ≤ c → c < (row.length : Int) → c ∉ S → wlk row S k c l = wlk row [] k c l
  | 0, _, _, _, _, _ => rfl
  | k + 1, c, l, h0, h1, hc => by
    have h2 := nx_in hr h0 h1
    have ih := wlk_bar hr hS k (nx row c) (l ++ [c]) h2.1 h2.2 (fun h => hc (hS c h0 h1 h))
    unfold wlk
    by_cases hl : c ∈ l
    · rw [if_pos (List.mem_append_right _ hl), if_pos (by simpa using hl)]
    · rw [if_neg (fun h => by rcases List.mem_append.1 h with h | h; exact hc h; exact hl h), if_neg (by simpa using hl), ih]
def WY (row : List Int) (c : Int) : List Int → Int → Prop
  | [], a => a = c
  | [x], a => x = c ∧ nx row x = a
  | x :: y :: r, a => x = c ∧ nx row x = y ∧ WY row y (y :: r) a
theorem wlk_spec {row : List Int} (hn : row.Nodup) (hr : ∀ n ∈ row, 0 ≤ n ∧ n ≤ (row.length : Int) - 1) : ∀ (k : Nat) (a : Int) (l : List Int), k + l.length = row.length + 1 → (∀ x ∈ l, 0 ≤ x ∧ x < (row.length : Int)) → l.Nodup → 0 ≤ a → a < (row.length : Int) → (∀ i (h : i + 1 < l.length), nx row (l[i]'(by omega)) = l[i + 1]) → (∀ h : 0 < l.length, nx row (l[l.length - 1]'(by omega)) = a) →
    ∃ m, wlk row [] k a l = m ∧ m.Nodup ∧ (∀ x ∈ m, 0 ≤ x ∧ x < (row.length : Int)) ∧ (∃ t, m = l ++ t) ∧ 0 < m.length ∧ (l = [] → m[0]? = some a) ∧ (∀ i (h : i + 1 < m.length), nx row (m[i]'(by omega)) = m[i + 1]) ∧ ∀ h : 0 < m.length, nx row (m[m.length - 1]'(by omega)) = m[0]
  | 0, a, l, hk, h1, h2, h3, h4, h5, h6 => by
    have := in_len h2 h1
    omega
  | k + 1, a, l, hk, h1, h2, h3, h4, h5, h6 => by
    unfold wlk
    by_cases ha : a ∈ l
    · rw [if_pos (by simpa using ha)]
      have hl : 0 < l.length := List.length_pos_of_mem ha
      refine ⟨l, rfl, h2, h1, ⟨[], by simp⟩, hl, fun h => by rw [h] at hl; simp at hl, h5, fun h => ?_⟩
      have h7 := h6 h
      obtain ⟨i, hi, he⟩ := List.mem_iff_getElem.1 ha
      cases i with
      | zero => rw [h7, he]
      | succ i =>
        exfalso
        have h8 := h5 i hi
        have h9 : l[i]'(by omega) = l[l.length - 1]'(by omega) := by
          refine nx_inj hn (h1 _ (List.getElem_mem _)).1 (h1 _ (List.getElem_mem _)).2 (h1 _ (List.getElem_mem _)).1 (h1 _ (List.getElem_mem _)).2 ?_
          rw [h8, h7, he]
        exact absurd h9 ((List.pairwise_iff_getElem.1 h2) i (l.length - 1) (by omega) (by omega) (by omega))
    · rw [if_neg (by simpa using ha)]
      have hnx := nx_in hr h3 h4
      obtain ⟨m, e1, e2, e3, ⟨t, e4⟩, e5, e6, e7, e8⟩ := wlk_spec hn hr k (nx row a) (l ++ [a]) (by rw [List.length_append, List.length_singleton]; omega) (fun x hx => by
        rcases List.mem_append.1 hx with hx | hx
        · exact h1 x hx
        · rw [List.mem_singleton] at hx; rw [hx]; exact ⟨h3, h4⟩) (by
        rw [List.nodup_append]
        refine ⟨h2, by simp, fun x hx b hb hab => ha ?_⟩
        rw [List.mem_singleton] at hb
        rw [← hb, ← hab]; exact hx) hnx.1 hnx.2 (fun i hi => by
        rw [List.length_append, List.length_singleton] at hi
        by_cases hil : i + 1 < l.length
        · rw [List.getElem_append_left (by omega), List.getElem_append_left hil]
          exact h5 i hil
        · rw [List.getElem_append_left (by omega), List.getElem_append_right (by omega)]
          simp only [List.getElem_singleton]
          have := h6 (by omega)
          rw [← this]
          congr 2
          omega) (fun h => by simp)
      refine ⟨m, e1, e2, e3, ⟨a :: t, by rw [e4]; simp⟩, e5, fun h => ?_, e7, e8⟩
      subst h
      rw [e4]; simp
end Go.Am.Hi
end

section
namespace Go.Am.Hi
open Go Go.Am Go.Proofs
set_option maxRecDepth 100000
set_option linter.unusedSimpArgs false
set_option linter.unusedVariables false

structure LI (row : List Int) (k : Nat) : Prop where
  same : lpH row k = lpR row k
  nd : (lpR row k).flatten.Nodup
  rng : ∀ x ∈ (lpR row k).flatten, 0 ≤ x ∧ x < (row.length : Int)
  shut : Shut row (lpR row k).flatten
  all : ∀ i : Nat, i < k → (i : Int) ∈ (lpR row k).flatten
theorem loop_of {row : List Int} (hn : row.Nodup) (hr : ∀ n ∈ row, 0 ≤ n ∧ n ≤ (row.length : Int) - 1) {k : Nat} (hk : k < row.length) : ∃ t : List Int, wlk row [] (row.length + 1) k [] = (k : Int) :: t ∧ ((k : Int) :: t).Nodup ∧ (∀ x ∈ (k : Int) :: t, 0 ≤ x ∧ x < (row.length : Int)) ∧ (∀ i (h : i + 1 < ((k : Int) :: t).length), nx row (((k : Int) :: t)[i]'(by omega)) = ((k : Int) :: t)[i + 1]) ∧ nx row (((k : Int) :: t)[((k : Int) :: t).length - 1]'(by simp)) = k := by
  obtain ⟨m, e1, e2, e3, _, e5, e6, e7, e8⟩ := wlk_spec hn hr (row.length + 1) k [] (by simp) (by simp) (by simp) (by omega) (by omega) (fun i h => by simp at h) (fun h => by simp at h)
  cases m with
  | nil => simp at e5
  | cons a t =>
    have := e6 rfl
    simp at this
    subst this
    exact ⟨t, e1, e2, e3, e7, by have := e8 e5; simpa using this⟩
theorem loop_out {row S : List Int} (hr : ∀ n ∈ row, 0 ≤ n ∧ n ≤ (row.length : Int) - 1) (hS : Shut row S) {m : List Int} (h1 : ∀ x ∈ m, 0 ≤ x ∧ x < (row.length : Int)) (h2 : ∀ i (h : i + 1 < m.length), nx row (m[i]'(by omega)) = m[i + 1]) (h0 : ∀ h : 0 < m.length, m[0] ∉ S) : ∀ i (h : i < m.length), m[i] ∉ S
  | 0, h => h0 h
  | i + 1, h => fun hm => by
    have ih := loop_out hr hS h1 h2 h0 i (by omega)
    rw [← h2 i h] at hm
    have := h1 _ (List.getElem_mem (show i < m.length by omega))
    exact ih (hS _ this.1 this.2 hm)
theorem li {row : List Int} (hn : row.Nodup) (hr : ∀ n ∈ row, 0 ≤ n ∧ n ≤ (row.length : Int) - 1) : ∀ k, k ≤ row.length → LI row k
  | 0, _ => ⟨rfl, by simp [lpR], by simp [lpR], fun x _ _ h => by simp [lpR] at h, fun i h => by omega⟩
  | k + 1, hk => by
    have ih := li hn hr k (by omega)
    by_cases hm : (k : Int) ∈ (lpR row k).flatten
    · have e1 : lpR row (k + 1) = lpR row k := by rw [lpR, if_pos hm]
      have e2 : lpH row (k + 1) = lpH row k := by rw [lpH, if_pos (by rw [ih.same]; exact hm)]
      refine ⟨by rw [e1, e2, ih.same], by rw [e1]; exact ih.nd, by rw [e1]; exact ih.rng, by rw [e1]; exact ih.shut, fun i hi => ?_⟩
      rw [e1]
      by_cases h : i = k
      · rw [h]; exact hm
      · exact ih.all i (by omega)
    · obtain ⟨t, w1, w2, w3, w4, w5⟩ := loop_of hn hr (show k < row.length by omega)
      have e1 : lpR row (k + 1) = lpR row k ++ [(k : Int) :: t] := by rw [lpR, if_neg hm, w1]
      have e2 : lpH row (k + 1) = lpR row k ++ [(k : Int) :: t] := by
        rw [lpH, if_neg (by rw [ih.same]; exact hm), ih.same, wlk_bar hr ih.shut _ _ _ (by omega) (by omega) hm, w1]
      have e3 : (lpR row (k + 1)).flatten = (lpR row k).flatten ++ (k : Int) :: t := by rw [e1, List.flatten_append]; simp
      have hout := loop_out hr ih.shut w3 w4 (fun _ => hm)
      refine ⟨by rw [e1, e2], ?_, ?_, ?_, ?_⟩
      · rw [e3, List.nodup_append]
        refine ⟨ih.nd, w2, fun a ha b hb hab => ?_⟩
        obtain ⟨i, hi, he⟩ := List.mem_iff_getElem.1 hb
        exact hout i hi (by rw [he, ← hab]; exact ha)
      · rw [e3]
        intro x hx
        rcases List.mem_append.1 hx with hx | hx
        · exact ih.rng x hx
        · exact w3 x hx
      · rw [e3]
        intro x h0 h1 hx
        rcases List.mem_append.1 hx with hx | hx
        · exact List.mem_append_left _ (ih.shut x h0 h1 hx)
        · refine List.mem_append_right _ ?_
          obtain ⟨i, hi, he⟩ := List.mem_iff_getElem.1 hx
          cases i with
          | zero =>
            have h2 := w3 _ (List.getElem_mem (show ((k : Int) :: t).length - 1 < ((k : Int) :: t).length by simp))
            have h3 : x = ((k : Int) :: t)[((k : Int) :: t).length - 1]'(by simp) := nx_inj hn h0 h1 h2.1 h2.2 (by rw [w5, ← he]; rfl)
            rw [h3]; exact List.getElem_mem _
          | succ i =>
            have h2 := w3 _ (List.getElem_mem (show i < ((k : Int) :: t).length by omega))
            have h3 : x = ((k : Int) :: t)[i]'(by omega) := nx_inj hn h0 h1 h2.1 h2.2 (by rw [w4 i hi, he])
            rw [h3]; exact List.getElem_mem _
      · intro i hi
        rw [e3]
        by_cases h : i = k
        · rw [h]; exact List.mem_append_right _ List.mem_cons_self
        · exact List.mem_append_left _ (ih.all i (by omega))
theorem lps_eq (row : List Int) : lpsH row = lpsR row := by
  unfold lpsH lpsR
  split
  · rename_i h
    have hR := rowB_iff.1 h
    exact (li hR.1.1 hR.1.2 row.length (Nat.le_refl _)).same
  · rfl
theorem chk_eq (row : List Int) (l : List (Int × Int)) : chkS (lpH row row.length).length row l = chkS (lpsR row).length row l := by
  unfold chkS
  by_cases h : exE row l = 0
  · have hb := (exE_zero h).1
    have := lps_eq row
    unfold lpsH lpsR at this
    rw [if_pos hb, if_pos hb] at this
    rw [this]
    unfold lpsR
    rw [if_pos hb]
  · rw [if_neg h, if_neg h]

def GQ (n : Nat) : List Int → List (Int × Int) → Prop
  | _, [] => True
  | R, x :: q => (wrF 0 R = x.1 ∧ nx R x.1 = x.2 ∧ goodX n x = true) ∧ GQ n (swp R x) q
theorem exch_append (R : List Int) (p q : List (Int × Int)) : exch R (p ++ q) = exch (exch R p) q := List.foldl_append
theorem GQ_append {n : Nat} : ∀ {R : List Int} {p q : List (Int × Int)}, GQ n R p → GQ n (exch R p) q → GQ n R (p ++ q)
  | _, [], _, _, h => h
  | _, _ :: _, _, h1, h2 => ⟨h1.1, GQ_append h1.2 h2⟩
theorem GQ_at {n : Nat} : ∀ {R : List Int} {q : List (Int × Int)}, GQ n R q → ∀ (i : Nat) (h : i < q.length), wrF 0 (exch R (q.take i)) = q[i].1 ∧ nx (exch R (q.take i)) q[i].1 = q[i].2 ∧ goodX n q[i] = true
  | _, [], _, i, h => by simp at h
  | _, x :: q, h, 0, _ => h.1
  | R, x :: q, h, i + 1, hi => GQ_at (R := swp R x) h.2 i (by simpa using hi)
theorem GQ_good {n : Nat} : ∀ {R : List Int} {q : List (Int × Int)}, GQ n R q → ∀ x ∈ q, goodX n x = true
  | _, [], _, x, h => by cases h
  | _, y :: q, h, x, hx => by
    rcases List.mem_cons.1 hx with rfl | hx
    · exact h.1.2.2
    · exact GQ_good h.2 x hx
theorem wrF_first : ∀ (R : List Int) (i c : Nat), i ≤ c → (∀ j (h : j < R.length), j + i < c → R[j] = ((j + i : Nat) : Int)) → (∀ h : c - i < R.length, R[c - i] ≠ (c : Int)) → c - i < R.length → wrF i R = c
  | [], i, c, _, _, _, h => by simp at h
  | a :: r, i, c, hic, h1, h2, h3 => by
    unfold wrF
    by_cases he : i = c
    · subst he
      have := h2 h3
      simp at this
      rw [if_neg (fun h => this h.symm)]
    · have := h1 0 (by simp) (by omega)
      simp at this
      rw [if_pos this.symm]
      refine wrF_first r (i + 1) c (by omega) (fun j hj hlt => ?_) (fun h => ?_) (by simp at h3; omega)
      · have := h1 (j + 1) (by simp; omega) (by omega)
        simp at this ⊢
        rw [this]; omega
      · have := h2 h3
        rw [List.getElem_cons] at this
        simp only [show ¬c - i = 0 by omega, dite_false] at this
        simpa [show c - i - 1 = c - (i + 1) by omega] using this
theorem wrF_none : ∀ (R : List Int) (i : Nat),(∀ j (h : j < R.length), R[j] = ((j + i : Nat) : Int)) → wrF i R = -1
  | [], _, _ => rfl
  | a :: r, i, h => by
    have := h 0 (by simp)
    simp at this
    unfold wrF
    rw [if_pos this.symm]
    refine wrF_none r (i + 1) fun j hj => ?_
    have := h (j + 1) (by simp; omega)
    simp at this ⊢
    rw [this]; omega
end Go.Am.Hi
end

section
namespace Go.Am.Hi
open Go Go.Am Go.Proofs
set_option maxRecDepth 100000
set_option linter.unusedSimpArgs false
set_option linter.unusedVariables false

def stI (row T : List Int) : List Int := (List.range row.length).map fun (i : Nat) => if (i : Int) ∈ T then (i : Int) else nx row i
def stL (row T : List Int) (c : Nat) (v : Int) : List Int := (List.range row.length).map fun (i : Nat) => if i = c then v else if (i : Int) ∈ T then (i : Int) else nx row i
theorem stL_len (row T : List Int) (c : Nat) (v : Int) : (stL row T c v).length = row.length := by simp [stL]
theorem stI_len (row T : List Int) : (stI row T).length = row.length := by simp [stI]
theorem stL_get (row T : List Int) (c : Nat) (v : Int) (i : Nat) (h : i < row.length) : (stL row T c v)[i]? = some (if i = c then v else if (i : Int) ∈ T then (i : Int) else nx row i) := by simp [stL, h]
theorem stI_get (row T : List Int) (i : Nat) (h : i < row.length) : (stI row T)[i]? = some (if (i : Int) ∈ T then (i : Int) else nx row i) := by simp [stI, h]
theorem stI_nil (row : List Int) : stI row [] = row := by
  apply List.ext_getElem?
  intro i
  by_cases h : i < row.length
  · rw [stI_get _ _ _ h, List.getElem?_eq_getElem h]
    simp [nx, List.getD_eq_getElem?_getD, List.getElem?_eq_getElem h]
  · rw [List.getElem?_eq_none (by rw [stI_len]; omega), List.getElem?_eq_none (by omega)]
theorem stI_stL (row T : List Int) (c : Nat) (hc : (c : Int) ∉ T) : stI row T = stL row T c (nx row c) := by
  unfold stI stL
  apply List.map_congr_left
  intro i hi
  by_cases h : i = c
  · subst h; rw [if_neg hc, if_pos rfl]
  · rw [if_neg h]
theorem stL_stI (row T S : List Int) (c : Nat) (h : ∀ i : Nat, (i : Int) ∈ S ↔ (i : Int) ∈ T ∨ i = c) : stL row T c c = stI row S := by
  unfold stI stL
  apply List.map_congr_left
  intro i hi
  by_cases h1 : i = c
  · rw [if_pos h1, if_pos ((h i).2 (.inr h1)), h1]
  · rw [if_neg h1]
    by_cases h2 : (i : Int) ∈ T
    · rw [if_pos h2, if_pos ((h i).2 (.inl h2))]
    · rw [if_neg h2, if_neg (fun h3 => by rcases (h i).1 h3 with h4 | h4; exact h2 h4; exact h1 h4)]
theorem stL_swp (row T : List Int) (c v : Nat) (hc : c < row.length) (hv : v < row.length) (hvT : (v : Int) ∉ T) (hvc : v ≠ c) : swp (stL row T c v) ((c : Int),(v : Int)) = stL row (T ++ [(v : Int)]) c (nx row v) := by
  have g1 : (stL row T c v).getD c 0 = v := by rw [List.getD_eq_getElem?_getD, stL_get _ _ _ _ _ hc, if_pos rfl]; rfl
  have g2 : (stL row T c v).getD v 0 = nx row v := by rw [List.getD_eq_getElem?_getD, stL_get _ _ _ _ _ hv, if_neg hvc, if_neg hvT]; rfl
  unfold swp
  simp only [Int.toNat_natCast]
  rw [g1, g2]
  apply List.ext_getElem?
  intro i
  by_cases h : i < row.length
  · rw [List.getElem?_set, List.getElem?_set, List.length_set, stL_len, stL_get _ _ _ _ _ h, stL_get _ _ _ _ _ h]
    by_cases h1 : v = i
    · subst h1
      rw [if_pos rfl, if_pos h, if_neg hvc, if_pos (by simp)]
    · rw [if_neg h1]
      by_cases h2 : c = i
      · subst h2; rw [if_pos rfl, if_pos h, if_pos rfl]
      · rw [if_neg h2]
        have h4 : ¬i = c := fun h => h2 h.symm
        have h3 : ((i : Int) ∈ T ++ [(v : Int)]) ↔ (i : Int) ∈ T := by
          simp only [List.mem_append, List.mem_singleton]
          exact ⟨fun h => h.elim id fun h => absurd h (by omega), .inl⟩
        simp only [h3, h4, if_false]
  · rw [List.getElem?_eq_none (by simp [stL_len]; omega), List.getElem?_eq_none (by rw [stL_len]; omega)]
def TW (row : List Int) (c : Nat) : Int → List Int → Prop
  | v, [] => v = c
  | v, x :: t => x = v ∧ TW row c (nx row v) t
theorem TW_of {row : List Int} {c : Nat} : ∀ {a : Int} {t : List Int},(∀ i (h : i + 1 < (a :: t).length), nx row ((a :: t)[i]'(by omega)) = (a :: t)[i + 1]) → nx row ((a :: t)[(a :: t).length - 1]'(by simp)) = c → TW row c (nx row a) t
  | a, [], _, h => h
  | a, b :: t, h1, h2 => by
    have h3 := h1 0 (by simp)
    simp at h3
    refine ⟨h3.symm, ?_⟩
    rw [h3]
    exact TW_of (fun i h => by have := h1 (i + 1) (by simp at h ⊢; omega); simpa using this) (by simpa using h2)
theorem loop_plan {row : List Int} {c : Nat} (hc : c < row.length) : ∀ (t T : List Int) (v : Int), TW row c v t → (∀ x ∈ t, (0 ≤ x ∧ x < (row.length : Int)) ∧ x ≠ c ∧ x ∉ T) → t.Nodup → (∀ i : Nat, i < c → (i : Int) ∈ T) → (c : Int) ∉ T →
    GQ row.length (stL row T c v) (t.map fun x => ((c : Int), x)) ∧ exch (stL row T c v) (t.map fun x => ((c : Int), x)) = stL row (T ++ t) c c
  | [], T, v, h, _, _, _, _ => ⟨trivial, by rw [show v = c from h]; simp [exch]⟩
  | x :: t, T, v, h, hx, hn, hT, hcT => by
    obtain ⟨rfl, h2⟩ := h
    obtain ⟨h3, h4, h5⟩ := hx x List.mem_cons_self
    obtain ⟨w, rfl⟩ : ∃ w : Nat, x = w := ⟨x.toNat, by omega⟩
    have hw : w < row.length := by omega
    have hwc : w ≠ c := by omega
    have hs := stL_swp row T c w hc hw h5 hwc
    rw [List.nodup_cons] at hn
    obtain ⟨i1, i2⟩ := loop_plan hc t (T ++ [(w : Int)]) (nx row w) h2 (fun y hy => by
      obtain ⟨k1, k2, k3⟩ := hx y (List.mem_cons_of_mem _ hy)
      refine ⟨k1, k2, fun h => ?_⟩
      rcases List.mem_append.1 h with h | h
      · exact k3 h
      · rw [List.mem_singleton] at h; exact hn.1 (by rw [← h]; exact hy)) hn.2 (fun i hi => List.mem_append_left _ (hT i hi)) (fun h => by
      rcases List.mem_append.1 h with h | h
      · exact hcT h
      · rw [List.mem_singleton] at h; omega)
    refine ⟨⟨⟨?_, ?_, ?_⟩, ?_⟩, ?_⟩
    · refine wrF_first _ 0 c (by omega) (fun j hj hjc => ?_) (fun h => ?_) (by rw [stL_len]; omega)
      · have := stL_get row T c w j (by omega)
        rw [List.getElem?_eq_getElem hj, if_neg (by omega), if_pos (hT j (by omega))] at this
        injection this
      · have := stL_get row T c w (c - 0) (by omega)
        rw [List.getElem?_eq_getElem h, if_pos (by omega)] at this
        injection this with this
        rw [this]; omega
    · unfold nx
      rw [List.getD_eq_getElem?_getD, Int.toNat_natCast, stL_get _ _ _ _ _ hc, if_pos rfl]; rfl
    · exact goodX_iff.2 ⟨by simp only; omega, by simp only; omega, fun h => hwc (by simp only at h; omega)⟩
    · rw [hs]; exact i1
    · show exch (swp (stL row T c w) ((c : Int),(w : Int))) _ = _
      rw [hs, i2, List.append_assoc]; rfl
def plS (m : List Int) : List (Int × Int) := match m with
  | [] => []
  | c :: t => t.map fun x => (c, x)
def plan (row : List Int) (k : Nat) : List (Int × Int) := (lpR row k).flatMap plS
theorem plan_ok {row : List Int} (hn : row.Nodup) (hr : ∀ n ∈ row, 0 ≤ n ∧ n ≤ (row.length : Int) - 1) : ∀ k, k ≤ row.length → GQ row.length row (plan row k) ∧ exch row (plan row k) = stI row (lpR row k).flatten ∧ (plan row k).length + (lpR row k).length = (lpR row k).flatten.length
  | 0, _ => ⟨trivial, by rw [show (lpR row 0).flatten = [] from rfl, stI_nil]; rfl, rfl⟩
  | k + 1, hk => by
    obtain ⟨i1, i2, i3⟩ := plan_ok hn hr k (by omega)
    have L := li hn hr k (by omega)
    have L1 := li hn hr (k + 1) hk
    by_cases hm : (k : Int) ∈ (lpR row k).flatten
    · have e1 : lpR row (k + 1) = lpR row k := by rw [lpR, if_pos hm]
      unfold plan
      rw [e1]
      exact ⟨i1, i2, i3⟩
    · obtain ⟨t, w1, w2, w3, w4, w5⟩ := loop_of hn hr (show k < row.length by omega)
      have e1 : lpR row (k + 1) = lpR row k ++ [(k : Int) :: t] := by rw [lpR, if_neg hm, w1]
      have e3 : (lpR row (k + 1)).flatten = (lpR row k).flatten ++ (k : Int) :: t := by rw [e1, List.flatten_append]; simp
      have hdis := L1.nd
      rw [e3, List.nodup_append] at hdis
      have e4 : plan row (k + 1) = plan row k ++ t.map fun x => ((k : Int), x) := by
        unfold plan
        rw [e1, List.flatMap_append]
        simp [plS]
      rw [List.nodup_cons] at w2
      obtain ⟨p1, p2⟩ := loop_plan (show k < row.length by omega) t (lpR row k).flatten (nx row k) (TW_of w4 w5) (fun x hx => ⟨w3 x (List.mem_cons_of_mem _ hx), fun h => w2.1 (by rw [← h]; exact hx), fun h => hdis.2.2 x h x (List.mem_cons_of_mem _ hx) rfl⟩) w2.2 L.all hm
      rw [← stI_stL row _ k hm] at p1 p2
      refine ⟨?_, ?_, ?_⟩
      · rw [e4]
        exact GQ_append i1 (by rw [i2]; exact p1)
      · rw [e4, exch_append, i2, p2, e3]
        refine stL_stI _ _ _ _ fun i => ?_
        simp only [List.mem_append, List.mem_cons]
        constructor
        · rintro (h | h | h)
          · exact .inl (.inl h)
          · exact .inr (by omega)
          · exact .inl (.inr h)
        · rintro ((h | h) | h)
          · exact .inl h
          · exact .inr (.inr h)
          · exact .inr (.inl (by omega))
      · rw [e4, e3, e1]
        simp only [List.length_append, List.length_map, List.length_cons, List.length_nil]
        omega
theorem flat_len {row : List Int} (hn : row.Nodup) (hr : ∀ n ∈ row, 0 ≤ n ∧ n ≤ (row.length : Int) - 1) : (lpR row row.length).flatten.length = row.length := by
  have L := li hn hr row.length (Nat.le_refl _)
  refine Nat.le_antisymm (in_len L.nd L.rng) ?_
  have := List.Nodup.length_le_of_subset (l₁ := (List.range row.length).map Int.ofNat) (l₂ := (lpR row row.length).flatten) (by
    rw [List.Nodup, List.pairwise_map]
    exact (List.nodup_range (n := row.length)).imp fun h h2 => h (by injection h2)) (fun x hx => by
    obtain ⟨i, hi, rfl⟩ := List.mem_map.1 hx
    exact L.all i (List.mem_range.1 hi))
  simpa using this
theorem plan_rs {row : List Int} (hb : rowB row = true) : RS row (plan row row.length) ∧ chkS (lpsR row).length row (plan row row.length) = 0 := by
  have hR := rowB_iff.1 hb
  obtain ⟨p1, p2, p3⟩ := plan_ok hR.1.1 hR.1.2 row.length (Nat.le_refl _)
  have L := li hR.1.1 hR.1.2 row.length (Nat.le_refl _)
  have hf := flat_len hR.1.1 hR.1.2
  have hw : wrF 0 (exch row (plan row row.length)) = -1 := by
    rw [p2]
    refine wrF_none _ 0 fun j hj => ?_
    rw [stI_len] at hj
    have := stI_get row (lpR row row.length).flatten j hj
    rw [List.getElem?_eq_getElem (by rw [stI_len]; exact hj), if_pos (L.all j hj)] at this
    injection this
  have hlen : (plan row row.length).length ≤ 120 := by omega
  refine ⟨⟨GQ_at p1, hw, hlen⟩, ?_⟩
  have hE : exE row (plan row row.length) = 0 := by
    rw [exE, if_pos hb, if_neg (by omega), if_pos (List.all_eq_true.2 (GQ_good p1))]
  unfold chkS
  rw [if_pos hE, if_pos]
  refine ⟨by rw [hw]; decide, ?_⟩
  unfold lpsR
  rw [if_pos hb]
  omega
end Go.Am.Hi
end

section
namespace Go.Am.Hi
open Go Go.Am Go.Proofs
set_option maxRecDepth 100000
set_option linter.unusedSimpArgs false
set_option linter.unusedVariables false

theorem bck_chain {n : Nat} {F : List (Int × Int)} (hF : FOK n F) {c : Int} (hc : lk F c = none) : ∀ (k a : Nat) (l : List Int), k + l.length = n → WB n F c a l → ∃ (s : Nat) (l2 : List Int), bck F (n + 1) c = s ∧ WB n F c s l2 ∧ lk (sw F) s = none
  | 0, a, l, hk, h => by have := h.len; omega
  | k + 1, a, l, hk, h => by
    cases hs : lk (sw F) a with
    | none => exact ⟨a, l, h.stop hs, h, hs⟩
    | some f => exact bck_chain hF hc k f.toNat ((a : Int) :: l) (by rw [List.length_cons]; omega) (h.next hF hc hs).2
theorem CH.same {n : Nat} {F : List (Int × Int)} (hF : FOK n F) {c d : Int} (hc : lk F c = none) (hd : lk F d = none) : ∀ {s : Int} {l r : List Int}, CH F c (s :: l) → CH F d (s :: r) → c = d
  | s, [],[], h1, h2 => by rw [← show s = c from h1, ← show s = d from h2]
  | s, [], b :: r, h1, h2 => by
    have : s = c := h1
    subst this
    exact absurd rfl (lk_none.1 hc _ h2.1)
  | s, a :: l, [], h1, h2 => by
    have : s = d := h2
    subst this
    exact absurd rfl (lk_none.1 hd _ h1.1)
  | s, a :: l, b :: r, h1, h2 => by
    have := hF.2.1 _ h1.1 _ h2.1 rfl
    injection this with _ h3
    subst h3
    exact CH.same hF hc hd h1.2 h2.2
theorem bck_inj {n : Nat} {F : List (Int × Int)} (hF : FOK n F) {c d : Nat} (h1 : c < n) (h2 : d < n) (hc : lk F c = none) (hd : lk F d = none) (he : bck F (n + 1) c = bck F (n + 1) d) : c = d := by
  obtain ⟨s, l, e1, w1, _⟩ := bck_chain hF hc n c [] (by simp) (WB.zero h1)
  obtain ⟨s2, l2, e2, w2, _⟩ := bck_chain hF hd n d [] (by simp) (WB.zero h2)
  rw [e1, e2] at he
  have := CH.same hF hc hd (s := s) w1.2.1 (by rw [he]; exact w2.2.1)
  omega
def tailF (n : Nat) (F : List (Int × Int)) (c : Nat) : List (Int × Int) := ((List.range c).filter fun (d : Nat) => (lk F d).isNone).map fun (d : Nat) => ((d : Int), bck F (n + 1) d)
theorem tailF_succ (n : Nat) (F : List (Int × Int)) (c : Nat) : tailF n F (c + 1) = tailF n F c ++ (if (lk F c).isNone then [((c : Int), bck F (n + 1) c)] else []) := by
  unfold tailF
  rw [List.range_succ, List.filter_append, List.map_append]
  cases h : (lk F c).isNone <;> simp [h]
theorem mem_tailF {n : Nat} {F : List (Int × Int)} {c : Nat} {x : Int × Int} : x ∈ tailF n F c ↔ ∃ d : Nat, d < c ∧ lk F d = none ∧ x = ((d : Int), bck F (n + 1) d) := by
  unfold tailF
  rw [List.mem_map]
  constructor
  · rintro ⟨d, hd, rfl⟩
    rw [List.mem_filter, List.mem_range, Option.isNone_iff_eq_none] at hd
    exact ⟨d, hd.1, hd.2, rfl⟩
  · rintro ⟨d, h1, h2, rfl⟩
    exact ⟨d, by rw [List.mem_filter, List.mem_range, Option.isNone_iff_eq_none]; exact ⟨h1, h2⟩, rfl⟩
theorem lk_append (F G : List (Int × Int)) (c : Int) : lk (F ++ G) c = match lk F c with | some u => some u | none => lk G c := by
  unfold lk
  rw [List.find?_append]
  cases F.find? fun p => decide (p.1 = c) <;> rfl
theorem sw_append (F G : List (Int × Int)) : sw (F ++ G) = sw F ++ sw G := by simp [sw]
theorem bck_more {n : Nat} {F : List (Int × Int)} (hF : FOK n F) {c : Nat} (hcn : c < n) (hc : lk F c = none) : ∀ (k a : Nat) (l : List Int), k + l.length = n + 1 → WB n F c a l → bck (F ++ tailF n F c) k a = bck F k a
  | 0, _, _, _, _ => rfl
  | k + 1, a, l, hk, h => by
    unfold bck
    rw [sw_append, lk_append]
    cases hs : lk (sw F) a with
    | some f =>
      obtain ⟨h0, hN⟩ := h.next hF hc hs
      have := bck_more hF hcn hc k f.toNat ((a : Int) :: l) (by rw [List.length_cons]; omega) hN
      rw [Int.toNat_of_nonneg h0] at this
      exact this
    | none =>
      simp only
      cases ht : lk (sw (tailF n F c)) a with
      | none => rfl
      | some d =>
        exfalso
        obtain ⟨e, h1, h2, h3⟩ := mem_tailF.1 (lk_sw_some ht)
        injection h3 with h4 h5
        have := bck_inj hF (show e < n by omega) hcn h2 hc (by rw [← h5, h.stop hs])
        omega
theorem clo_eq {n : Nat} {F : List (Int × Int)} (hF : FOK n F) : ∀ c, c ≤ n → clo n F c = F ++ tailF n F c
  | 0, _ => by simp [clo, tailF]
  | c + 1, h => by
    have ih := clo_eq hF c (by omega)
    unfold clo
    rw [tailF_succ, ih, lk_append]
    cases hl : lk F c with
    | some v => simp
    | none =>
      have ht : lk (tailF n F c) c = none := lk_none.2 fun y hy he => by
        obtain ⟨d, h1, _, rfl⟩ := mem_tailF.1 hy
        simp only at he
        omega
      simp only [ht, Option.isNone_none, if_true]
      rw [bck_more hF (by omega) hl (n + 1) c [] (by simp) (WB.zero (by omega)), List.append_assoc]
theorem row_cell {n : Nat} {F : List (Int × Int)} (hF : FOK n F) {c : Nat} (h : c < n) : (lk (clo n F n) c).getD (-1) = cellX n F c := by
  rw [clo_eq hF n (Nat.le_refl _), lk_append, cellX]
  cases hl : lk F c with
  | some v => rfl
  | none =>
    simp only
    cases ht : lk (tailF n F n) c with
    | none => exact absurd rfl (lk_none.1 ht ((c : Int), bck F (n + 1) c) (mem_tailF.2 ⟨c, h, hl, rfl⟩))
    | some v =>
      obtain ⟨d, _, _, h3⟩ := mem_tailF.1 (lk_some ht)
      injection h3 with h4 h5
      rw [show d = c by omega] at h5
      exact h5
theorem row_eq {n : Nat} {F : List (Int × Int)} (hF : FOK n F) : rowR n F = rowX n F := by
  unfold rowR rowX arrO
  apply List.map_congr_left
  intro c hc
  exact row_cell hF (List.mem_range.1 hc)
theorem row_row {n : Nat} {F : List (Int × Int)} (hF : FOK n F) (h1 : 1 ≤ n) (h2 : n ≤ 24) : rowB (rowX n F) = true := by
  have hG := clo_ok hF n (Nat.le_refl _)
  have hlen : (rowX n F).length = n := by simp [rowX]
  have hall : ∀ c, c < n → ∃ v, lk (clo n F n) c = some v := fun c hc => by
    cases hl : lk (clo n F n) c with
    | some v => exact ⟨v, rfl⟩
    | none =>
      exfalso
      rw [clo_eq hF n (Nat.le_refl _), lk_append] at hl
      cases hf : lk F c with
      | some v => rw [hf] at hl; cases hl
      | none =>
        rw [hf] at hl
        exact absurd rfl (lk_none.1 hl ((c : Int), bck F (n + 1) c) (mem_tailF.2 ⟨c, hc, hf, rfl⟩))
  rw [rowB_iff, hlen, ← row_eq hF]
  refine ⟨⟨?_, fun x hx => ?_⟩, h1, h2⟩
  · unfold rowR arrO
    rw [List.Nodup, List.pairwise_map]
    refine (List.pairwise_lt_range (n := n)).imp_of_mem fun {a b} ha hb hlt he => ?_
    obtain ⟨v, hv⟩ := hall a (List.mem_range.1 ha)
    obtain ⟨w, hw⟩ := hall b (List.mem_range.1 hb)
    rw [hv, hw] at he
    simp only [Option.getD_some] at he
    have := hG.2.2 _ (lk_some hv) _ (lk_some hw) he
    injection this with h3 _
    omega
  · unfold rowR arrO at hx
    obtain ⟨c, hc, rfl⟩ := List.mem_map.1 hx
    obtain ⟨v, hv⟩ := hall c (List.mem_range.1 hc)
    rw [hv]
    have := lk_pos hG hv
    simp only [Option.getD_some]
    omega
theorem fnd_ok {n : Nat} : ∀ {F G : List (Int × Int)}, fndE n G F = 0 → FOK n G → FOK n (G ++ F)
  | [], G, _, h => by simpa using h
  | x :: r, G, h, hG => by
    unfold fndE at h
    split at h
    · rename_i h1
      split at h
      · cases h
      · rename_i h2
        have h3 := inF_iff.1 h1
        have hno : ∀ y ∈ G, ¬y.1 = x.1 ∧ ¬y.2 = x.2 := fun y hy => ⟨fun he => h2 (clF_mem hy (.inl he)), fun he => h2 (clF_mem hy (.inr he))⟩
        have := fnd_ok h (hG.snoc (x := x) (by omega) (lk_none.2 fun y hy => (hno y hy).1) (lk_sw_none.2 fun y hy => (hno y hy).2))
        rw [List.append_assoc] at this
        exact this
    · cases h
theorem exp_ok {n : Int} {F : List (Int × Int)} (h : expE n F = 0) : ∃ m : Nat, n = m ∧ 1 ≤ m ∧ m ≤ 24 ∧ FOK m F := by
  unfold expE at h
  split at h
  · rename_i h1
    split at h
    · cases h
    · obtain ⟨m, rfl⟩ : ∃ m : Nat, n = m := ⟨n.toNat, by omega⟩
      exact ⟨m, rfl, by omega, by omega, by simpa using fnd_ok h (FOK.nil m)⟩
  · cases h
theorem exp_row (n : Int) (F : List (Int × Int)) : expE n F = 0 → rowB (rowX n.toNat F) = true := fun h => by
  obtain ⟨m, rfl, h1, h2, h3⟩ := exp_ok h
  exact row_row h3 h1 h2
theorem exp_eqL (n : Int) (F : List (Int × Int)) : expL n F = expRL n F := by
  unfold expL expRL
  split
  · rename_i h
    obtain ⟨m, rfl, h1, h2, h3⟩ := exp_ok h
    exact (row_eq h3).symm
  · rfl
theorem exp_eqN (n : Int) (F : List (Int × Int)) : (expN n F fun r => (lpH r r.length).length) = expRN n F := by
  unfold expN expRN
  split
  · rename_i h
    have hb := exp_row n F h
    obtain ⟨m, rfl, h1, h2, h3⟩ := exp_ok h
    have := lps_eq (rowX m F)
    simp only [Int.toNat_natCast] at hb ⊢
    rw [row_eq h3, ← this, lpsH, if_pos hb]
  · rfl
theorem casesSaid (row : List Int) (l : List (Int × Int)) (n : Int) (F : List (Int × Int)) (h1 : row.length < 4611686018427387904) (h2 : l.length < 4611686018427387904) (h3 : F.length < 4611686018427387904) : VPure Tryz.prog 8 [ints row, .vec (l.map encX), .int .i64 n, .vec (F.map encX)] fun r => r = .bool true := by
  cases hb : rowB row with
  | true =>
    obtain ⟨r1, r2⟩ := plan_rs hb
    exact p8 row l n F (plan row row.length) h1 h2 h3 (lps_eq row) (exp_row n F) (exp_eqL n F) (exp_eqN n F) (fun _ => r1) (fun h => by rw [hb] at h; cases h) (fun _ => r2) (chk_eq row l) (by have := r1.2.2; omega)
  | false =>
    exact p8 row l n F [] h1 h2 h3 (lps_eq row) (exp_row n F) (exp_eqL n F) (exp_eqN n F) (fun h => by rw [hb] at h; cases h) (fun _ => rfl) (fun h => by rw [hb] at h; cases h) (chk_eq row l) (by simp)
end Go.Am.Hi
end
