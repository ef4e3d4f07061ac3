/-
  What is used in the proof of a statement (part HkL); no condition.
-/
import Derived.Test.YtmgglkdilpglgaaGreatHiZ
import Derived.Test.YtmgglkdilpglgaaGreatVm2
import Derived.Test.YtmgglkdilpglgaaGreatHiT
import Derived.Test.YtmgglkdilpglgaaGreatHjD
set_option linter.all false
section
namespace Go.Am.Hi
open Go Go.Am Go.Proofs
set_option maxRecDepth 100000
set_option maxHeartbeats 4000000
set_option linter.unusedSimpArgs false
set_option linter.unusedVariables false
attribute [local simp] vrun vwanted vyielded vop vopA vputAll VHeap.back hidI hidF backL bm Nat.testBit_eq_decide_div_mod_eq veval vevals vparts vO vbuiltin vlen vappend velems vcopy vmakeSlice vbuildSlice valloc vbox vmakeMap vload vpartT vpart vstore vfieldAddr vfield vindexAddr vindex vextract vslice vsliceZ vbounds vbnd zeroO vidx vlookup vmget vmapUpdate vdelete vclear vnilq vnilp vnils vbin vsc vsc1 vscs vscl abinOp aint ashift aunOp aconvert amaxs amax2 pvcV pvc pvcs tput tget vargs VHeap.get VHeap.alloc VHeap.put VHeap.drop VHeap.empty vlook vput vdrop psplice pfill preps chunk List.range List.range.loop vresults vresult vresultV frz frzL PV.isF PV.allF PV.scal PV.allS retP subT allFT PV.one PV.ids PV.idsL dropL beq_eq ble_dec blt_dec
def shf (n a k : Nat) : List Int := (List.range k).map fun i : Nat => (((i + a) % n : Nat) : Int)
theorem shf_len (n a k : Nat) : (shf n a k).length = k := by unfold shf; rw [List.length_map, List.length_range]
theorem shf_succ (n a k : Nat) : shf n a (k + 1) = shf n a k ++ [(((k + a) % n : Nat) : Int)] := by unfold shf; rw [List.range_succ, List.map_append]; rfl
theorem ObjP.some {ws : List (List Int)} {l g o : List Int} (h : ObjP ws l g o) : someG ws g o (nowL l g) g.length = true := by
  have h1 := oB_iff.2 h
  rw [oB_bet h.len h.row] at h1
  unfold betG at h1
  rw [Bool.and_eq_true] at h1
  exact h1.2
theorem p6 (ws : List (List Int)) (a : Nat) (l0 : List Int) (hl : ws.length < 4611686018427387904) (hll : ∀ l ∈ ws, l.length < 17592186043905) (ha : a < 256) (hw : l0.length < 4611686018427387904) : VPure Tryz.prog 6 [encM ws, .int .u8 a, ints l0] fun r => r = .bool true := by
  obtain ⟨bm, hbm⟩ : ∃ b, (decide (ws.length ≤ 12) && decide (mkE ws = 0)) = b := ⟨_, rfl⟩
  refine .of_body Tryz.func6 rfl rfl ?_
  refine .seq ?_
  refine .rn ?_
  refine .seq ?_
  refine .seq ?_
  refine .regionL [0,1,2,3,4,5,6,7] rfl zz0 ?_
  refine .rn [0] [1,2,3,4,5,6,7] ?_
  refine .step rfl rfl (.pure rfl rfl rfl Tryz.call30 (by decide) ((by have := p30 ws hl hll; rw [hbm] at this; exact this)) (by first | rfl | simp [*]) ?_)
  rintro _ rfl
  refine .rn [2,3] [4,5,6,7] ?_
  refine .split (t := 21) rfl (fun c21 => ?_) (fun c21 => ?_)
  · first | cases c21 | (simp only [Bool.not_eq_true', Bool.not_eq_false', Bool.not_not, Bool.not_true, Bool.not_false] at c21; cases c21) | try rw [c21]
    try simp at c21
    refine .rn [4,5,6,7] [] ?_
    refine .done ?_
    refine .condT rfl ?_
    refine .seq ?_
    refine .regionL [0,1] rfl zz0 ?_
    refine .step rfl rfl (.pure rfl rfl rfl Tryz.call15 (by decide) (p15) (by first | rfl | simp [*]) ?_)
    rintro _ rfl
    refine .rn [1] [] ?_
    refine .done ?_
    refine .ret ?_
    refine ⟨_, _, zz2,zz2, ?_⟩
    first | rfl | (simp [*]; done) | (simp_all; done)
  · first | cases c21 | (simp only [Bool.not_eq_true', Bool.not_eq_false', Bool.not_not, Bool.not_true, Bool.not_false] at c21; cases c21) | try rw [c21]
    try simp at c21
    refine .rn [4,5,6,7] [] ?_
    refine .done ?_
    refine .condS rfl (fun c25 => ?_) (fun c25 => ?_)
    · try simp at c25
      refine .seq ?_
      refine .regionL [0,1] rfl zz0 ?_
      refine .step rfl rfl (.pure rfl rfl rfl Tryz.call15 (by decide) (p15) (by first | rfl | simp [*]) ?_)
      rintro _ rfl
      refine .rn [1] [] ?_
      refine .done ?_
      refine .ret ?_
      refine ⟨_, _, zz2,zz2, ?_⟩
      first | rfl | (simp [*]; done) | (simp_all; done)
    · try simp at c25
      have hw4 : l0.length < 4294967296 := by omega
      have hbm2 := hbm
      rw [Bool.and_eq_true, decide_eq_true_eq, decide_eq_true_eq] at hbm2
      obtain ⟨hn12, hm0⟩ := hbm2
      clear hbm
      have hm := mkt_of hm0
      have hl4 : ws.length < 4294967296 := by omega
      have hrows := mkt_rows hm
      have hl4r : ∀ l ∈ ws, l.length < 4294967296 := fun l h => by have := hrows l h; omega
      have hpos := hm.pos
      refine .skip ?_
      refine .seq ?_
      refine .regionL [0,1,2,3,4,5,6,7] rfl zz0 ?_
      refine .rn [0] [1,2,3,4,5,6,7] ?_
      refine .step rfl rfl (.pure rfl rfl rfl Tryz.call32 (by decide) (p32 ws hl4 hl4r) (by first | rfl | simp [*]) ?_)
      rintro _ ⟨R, rfl, hMR⟩
      refine .rn [2,3,4,5,6,7] [] ?_
      refine .done ?_
      refine .seq ?_
      refine .seq ?_
      obtain ⟨G, hG⟩ : ∃ G, mkG ws = G := ⟨_, rfl⟩
      have hA := accP hMR hm0 hG
      rw [hG]
      have hGl := hA.gl
      have hG4 : G.length < 4294967296 := by omega
      refine .rn ?_
      refine .condS rfl (fun c33 => ?_) (fun c33 => ?_)
      · try simp at c33
      · try simp at c33
        refine .skip ?_
        refine .seq ?_
        refine .rn ?_
        refine .join (fun l : List Int => ([(2, ints l),(3, .vp [.vec (ws.map ints)]),(7, .vp [ints G, ints R]),(9, .int .i64 ws.length)], VHeap.empty)) (fun l => l.length = ws.length) ?_ ?_
        · skip
          refine .seq ?_
          refine .rn ?_
          refine .condS rfl (fun c40 => ?_) (fun c40 => ?_)
          · try simp at c40
            refine .seq ?_
            refine .rn ?_
            refine .seq ?_
            refine .rn ?_
            refine .block ?_
            refine .loopS (fun k : Nat => ([(1, .int .u8 a),(2, .grow 2 k true),(3, .vp [.vec (ws.map ints)]),(7, .vp [ints G, ints R]),(9, .int .i64 ws.length),(41, .int .i64 ws.length),(42, .int .i64 k)], ⟨3,[(2, .grow 1 ((shf ws.length a k).map (.int .i64)))]⟩)) (fun k => k ≤ ws.length) (fun k => ws.length - k) 0 (Nat.zero_le _) (.mk [0,1] [] zz24 zz25 rfl rfl rfl) ?_
            rintro k hk
            simp only at hk ⊢
            have hSl := shf_len ws.length a k
            have hS := shf_succ ws.length a k
            obtain ⟨S, hSS⟩ : ∃ S, shf ws.length a k = S := ⟨_, rfl⟩
            rw [hSS] at hSl hS ⊢
            refine .seq ?_
            refine .rn ?_
            refine .seq ?_
            refine .condS rfl (fun c43 => ?_) (fun c43 => ?_)
            · try simp at c43
              have hw2 : IntKind.i64.wrap ((k : Int) + 1) = (k : Int) + 1 := wrap64 (by omega) (by omega)
              have hwa : IntKind.i64.wrap (a : Int) = a := wrap64 (by omega) (by omega)
              have hwk : IntKind.i64.wrap ((k : Int) + (a : Int)) = ((k + a : Nat) : Int) := by rw [wrap64 (by omega) (by omega)]; omega
              have htm : ((k + a : Nat) : Int).tmod (ws.length : Int) = (((k + a) % ws.length : Nat) : Int) := Int.ofNat_tmod _ _
              have hne : ¬ws = [] := by rintro rfl; simp at hpos
              have hk4 : k + 1 ≤ 4294967296 := by omega
              obtain ⟨x, hx⟩ : ∃ x, k + a = x := ⟨_, rfl⟩
              rw [hx] at hwk htm hS
              refine .skip ?_
              refine .seq ?_
              refine .block ?_
              refine .seq ?_
              refine .rn ?_
              refine .rn ?_
              refine .rn ?_
              refine ⟨k + 1, c43,zz3,(.mk [] [(2,4)] zz8 zz9 rfl rfl rfl)⟩
            · try simp at c43
              have hkn : k = ws.length := by omega
              refine .exit ?_
              exact ⟨S, by rw [hSl, hkn],(.mk [2] [] zz8 zz9 rfl rfl rfl)⟩
          · try simp at c40
            refine .skip ?_
            exact ⟨l0, by omega, (.mk [0,1] [] zz24 zz25 rfl rfl rfl)⟩
        · skip
          rintro l hl2
          simp only at hl2 ⊢
          have hl24 : l.length < 4294967296 := by omega
          refine .seq ?_
          refine .regionL [0,1,2,3,4,5,6,7,8,9,10,11] rfl zz0 ?_
          refine .rn [0,1] [2,3,4,5,6,7,8,9,10,11] ?_
          refine .step rfl rfl (.pure rfl rfl rfl Tryz.call34 (by decide) (p34p ws l hl4 hl4r hl24) (by first | rfl | simp [*]) ?_)
          rintro _ ⟨g, o, is, rfl, hO⟩
          refine .rn [3,4,5,6,7,8,9,10,11] [] ?_
          refine .done ?_
          refine .seq ?_
          refine .seq ?_
          refine .rn ?_
          refine .condS rfl (fun c64 => ?_) (fun c64 => ?_)
          · try simp at c64
            have hg1 := gE_bad hm0 c64
            refine .seq ?_
            refine .regionL [0,1,2,3,4,5] rfl zz0 ?_
            refine .step rfl rfl (.pure rfl rfl rfl Tryz.call15 (by decide) (p15) (by first | rfl | simp [*]) ?_)
            rintro _ rfl
            refine .rn [1] [2,3,4,5] ?_
            refine .split (t := 66) rfl (fun c66 => ?_) (fun c66 => ?_)
            · first | cases c66 | (simp only [Bool.not_eq_true', Bool.not_eq_false', Bool.not_not, Bool.not_true, Bool.not_false] at c66; cases c66) | try rw [c66]
              try simp at c66
              refine .rn [2,3,4,5] [] ?_
              refine .done ?_
              refine .ret ?_
              refine ⟨_, _, zz2,zz2, ?_⟩
              first | rfl | (simp [*]; done) | (simp_all; done)
            · first | cases c66 | (simp only [Bool.not_eq_true', Bool.not_eq_false', Bool.not_not, Bool.not_true, Bool.not_false] at c66; cases c66) | try rw [c66]
              try simp at c66
          · try simp at c64
            obtain ⟨d, hd⟩ : ∃ d, decide (l = G) = d := ⟨_, rfl⟩
            have his : is = !d := by
              rcases hO with h | h
              · rw [h.1, ← hd, decide_eq_true (by rw [h.2.2.2 c64, hG])]; rfl
              · rw [h.1, ← hd, decide_eq_false fun hh => h.2.2.1 (by rw [hh, hG])]; rfl
            subst his
            refine .skip ?_
            refine .seq ?_
            refine .seq ?_
            refine .regionL [0,1,2,3,4,5] rfl zz0 ?_
            refine .rn [0,1,2,3] [4,5] ?_
            refine .step rfl rfl (.pure rfl rfl rfl Tryz.call27 (by decide) ((by have := p27 l G hl24 hG4; rw [hd] at this; exact this)) (by first | rfl | simp [*]) ?_)
            rintro _ rfl
            refine .rn [5] [] ?_
            refine .done ?_
            refine .condS rfl (fun c75 => ?_) (fun c75 => ?_)
            · try simp at c75
            · try simp at c75
              refine .skip ?_
              refine .seq ?_
              refine .seq ?_
              refine .rn ?_
              refine .condS rfl (fun c77 => ?_) (fun c77 => ?_)
              · try simp at c77
                refine .seq ?_
                refine .regionL [0,1] rfl zz0 ?_
                refine .step rfl rfl (.pure rfl rfl rfl Tryz.call15 (by decide) (p15) (by first | rfl | simp [*]) ?_)
                rintro _ rfl
                refine .rn [1] [] ?_
                refine .done ?_
                refine .ret ?_
                refine ⟨_, _, zz2,zz2, ?_⟩
                first | rfl | (simp [*]; done) | (simp_all; done)
              · try simp at c77
                have hP : ObjP ws l g o := by
                  rcases hO with h | h
                  · exact absurd h.1 (by rw [c77]; decide)
                  · exact h.2.2.2
                have hoE : oE ws l g o = 0 := oE_yes c64 (oB_iff.2 hP)
                have hogl := hP.len
                have hgl4 := hP.glen
                have hg4 : g.length < 4294967296 := by omega
                have hsome := hP.some
                refine .skip ?_
                refine .seq ?_
                refine .seq ?_
                refine .regionL [0,1,2,3,4,5,6,7,8,9,10,11,12] rfl zz0 ?_
                refine .rn [0,1,2,3] [4,5,6,7,8,9,10,11,12] ?_
                refine .step rfl rfl (.pure rfl rfl rfl Tryz.call35 (by decide) (p35 ws l g o hl4 hl4r hl24 hg4 (by omega)) (by first | rfl | simp [*]) ?_)
                rintro _ rfl
                refine .rn [5,6] [7,8,9,10,11,12] ?_
                refine .split (t := 85) rfl (fun c85 => ?_) (fun c85 => ?_)
                · first | cases c85 | (simp only [Bool.not_eq_true', Bool.not_eq_false', Bool.not_not, Bool.not_true, Bool.not_false] at c85; cases c85) | try rw [c85]
                  try simp at c85
                · first | cases c85 | (simp only [Bool.not_eq_true', Bool.not_eq_false', Bool.not_not, Bool.not_true, Bool.not_false] at c85; cases c85) | try rw [c85]
                  try simp at c85
                  refine .rn [7,8,9,10,11,12] [] ?_
                  refine .done ?_
                  refine .condS rfl (fun c91 => ?_) (fun c91 => ?_)
                  · try simp at c91
                  · try simp at c91
                    refine .skip ?_
                    refine .seq ?_
                    refine .rn ?_
                    refine .seq ?_
                    refine .seq ?_
                    refine .rn ?_
                    refine .block ?_
                    refine .loopS (fun k : Nat => ([(2, ints l),(3, .vp [.vec (ws.map ints)]),(9, .int .i64 ws.length),(11, ints g),(12, ints o),(15, .bool (someG ws g o (nowL l g) k)),(92, ints g),(93, .int .i64 g.length),(94, .int .i64 k)], VHeap.empty)) (fun k => k ≤ g.length) (fun k => g.length - k) 0 (Nat.zero_le _) (.mk [] [] zz8 zz9 rfl rfl rfl) ?_
                    rintro k hk
                    simp only at hk ⊢
                    have hss := someG_succ ws g o (nowL l g) k
                    obtain ⟨sg, hsg⟩ : ∃ b, someG ws g o (nowL l g) k = b := ⟨_, rfl⟩
                    rw [hsg] at hss ⊢
                    refine .seq ?_
                    refine .rn ?_
                    refine .seq ?_
                    refine .condS rfl (fun c95 => ?_) (fun c95 => ?_)
                    · try simp at c95
                      have hw2 : IntKind.i64.wrap ((k : Int) + 1) = (k : Int) + 1 := wrap64 (by omega) (by omega)
                      have hR := rowO_iff.1 (hP.row k c95)
                      have hle := hP.le k c95
                      have hko : k < o.length := by omega
                      rw [nx_at c95, nx_at hko] at hR
                      obtain ⟨s, hs, hse⟩ := hR.1.nat
                      have hog := hR.2.2.1
                      have hsl : s < l.length := by omega
                      have hL := hl4r ws[s] (List.getElem_mem hs)
                      have ea : pg ws g o k = prk ws s o[k] := by unfold pg; rw [nx_at c95, nx_at hko, hse]
                      have eb : pg ws g (nowL l g) k = prk ws s l[s] := by unfold pg; rw [nowL_at c95, nx_at c95, hse, nx_at hsl]
                      rw [ea, eb] at hss
                      rw [nx_at c95, nx_at hko, hse, nx_at hsl] at hle
                      have h101 : ¬((s : Int) < 0) := by omega
                      have h106 : ¬(ws.length ≤ s) := by omega
                      clear hR
                      refine .skip ?_
                      refine .seq ?_
                      refine .block ?_
                      refine .seq ?_
                      refine .rn ?_
                      refine .seq ?_
                      refine .seq ?_
                      refine .drawn (ms := [0,1,3,7,7,31,63,127,255,255,255,1791,3839,8191,16383,32767,65535,131071,131071,131071,131071,1703935,3801087,8388607,131071,131071,131071,131071,201457663,469893119,1073741823,2147483647,4294967295]) (W := [13,23,30]) (items := [.op 0, .op 1, .op 2, .op 3, .op 4, .op 5, .op 6, .op 7, .op 8, .op 9, .op 10, .op 11, .op 12, .op 13, .op 14, .op 15, .op 16, .op 17, .op 18, .op 19, .op 20, .op 21, .op 22, .op 24, .op 25, .op 26, .op 27, .op 28, .op 29, .op 23, .ck 29, .ck 24, .op 30, .op 31, .op 32]) rfl zz0 zz0 zz0 ?_
                      refine .rd rfl rfl (by decide) rfl (by decide) zz1 ?_   -- 0
                      refine .rd rfl rfl (by decide) rfl (by decide) zz1 ?_   -- 1
                      refine .rd rfl rfl (by decide) rfl (by decide) zz1 ?_   -- 2
                      refine .split (t := 101) rfl (fun c101 => ?_) (fun c101 => ?_)
                      · first | cases c101 | (simp only [Bool.not_eq_true', Bool.not_eq_false', Bool.not_not, Bool.not_true, Bool.not_false] at c101; cases c101) | try rw [c101]
                        try simp at c101
                      · first | cases c101 | (simp only [Bool.not_eq_true', Bool.not_eq_false', Bool.not_not, Bool.not_true, Bool.not_false] at c101; cases c101) | try rw [c101]
                        try simp at c101
                        refine .rd rfl rfl (by decide) rfl (by decide) zz1 ?_   -- 3
                        refine .rd rfl rfl (by decide) rfl (by decide) zz1 ?_   -- 4
                        refine .rd rfl rfl (by decide) rfl (by decide) zz1 ?_   -- 5
                        refine .rd rfl rfl (by decide) rfl (by decide) zz1 ?_   -- 6
                        refine .rd rfl rfl (by decide) rfl (by decide) zz1 ?_   -- 7
                        refine .split (t := 106) rfl (fun c106 => ?_) (fun c106 => ?_)
                        · first | cases c106 | (simp only [Bool.not_eq_true', Bool.not_eq_false', Bool.not_not, Bool.not_true, Bool.not_false] at c106; cases c106) | try rw [c106]
                          try simp at c106
                        · first | cases c106 | (simp only [Bool.not_eq_true', Bool.not_eq_false', Bool.not_not, Bool.not_true, Bool.not_false] at c106; cases c106) | try rw [c106]
                          try simp at c106
                          refine .rd rfl rfl (by decide) rfl (by decide) zz1 ?_   -- 8
                          refine .rd rfl rfl (by decide) rfl (by decide) zz1 ?_   -- 9
                          refine .rd rfl rfl (by decide) rfl (by decide) zz1 ?_   -- 10
                          refine .rd rfl rfl (by decide) rfl (by decide) zz1 ?_   -- 11
                          refine .rd rfl rfl (by decide) rfl (by decide) zz1 ?_   -- 12
                          refine .wr rfl rfl (by decide) (.pure rfl rfl rfl Tryz.call29 (by decide) (p29 g o[k] hg4) (by first | rfl | simp [*]) ?_)
                          rintro _ rfl
                          refine .rd rfl rfl (by decide) rfl (by decide) zz1 ?_   -- 14
                          refine .rd rfl rfl (by decide) rfl (by decide) zz1 ?_   -- 15
                          refine .rd rfl rfl (by decide) rfl (by decide) zz1 ?_   -- 16
                          refine .split (t := 115) rfl (fun c115 => ?_) (fun c115 => ?_)
                          · first | cases c115 | (simp only [Bool.not_eq_true', Bool.not_eq_false', Bool.not_not, Bool.not_true, Bool.not_false] at c115; cases c115) | try rw [c115]
                            try simp at c115
                          · first | cases c115 | (simp only [Bool.not_eq_true', Bool.not_eq_false', Bool.not_not, Bool.not_true, Bool.not_false] at c115; cases c115) | try rw [c115]
                            try simp at c115
                            refine .rd rfl rfl (by decide) rfl (by decide) zz1 ?_   -- 17
                            refine .rd rfl rfl (by decide) rfl (by decide) zz1 ?_   -- 18
                            refine .rd rfl rfl (by decide) rfl (by decide) zz1 ?_   -- 19
                            refine .rd rfl rfl (by decide) rfl (by decide) zz1 ?_   -- 20
                            refine .rd rfl rfl (by decide) rfl (by decide) zz1 ?_   -- 21
                            refine .rd rfl rfl (by decide) rfl (by decide) zz1 ?_   -- 22
                            refine .rd rfl rfl (by decide) rfl (by decide) zz1 ?_   -- 24
                            refine .rd rfl rfl (by decide) rfl (by decide) zz1 ?_   -- 25
                            refine .rd rfl rfl (by decide) rfl (by decide) zz1 ?_   -- 26
                            refine .rd rfl rfl (by decide) rfl (by decide) zz1 ?_   -- 27
                            refine .rd rfl rfl (by decide) rfl (by decide) zz1 ?_   -- 28
                            refine .rd rfl rfl (by decide) rfl (by decide) zz1 ?_   -- 29
                            refine .wr rfl rfl (by decide) (.pure rfl rfl rfl Tryz.call33 (by decide) ((by first | exact p33 ws s o[k] hs hL | exact p33 ws s l[s] hs hL)) (by first | rfl | simp [*]) ?_)
                            rintro _ rfl
                            refine .ck rfl zz0 ?_   -- 29
                            refine .ck rfl zz0 ?_   -- 24
                            refine .wr rfl rfl (by decide) (.pure rfl rfl rfl Tryz.call33 (by decide) ((by first | exact p33 ws s o[k] hs hL | exact p33 ws s l[s] hs hL)) (by first | rfl | simp [*]) ?_)
                            rintro _ rfl
                            refine .rd rfl rfl (by decide) rfl (by decide) zz1 ?_   -- 31
                            refine .rd rfl rfl (by decide) rfl (by decide) zz1 ?_   -- 32
                            refine .done ?_
                            refine .condS rfl (fun c131 => ?_) (fun c131 => ?_)
                            · try simp at c131
                              exfalso; omega
                            · try simp at c131
                              refine .skip ?_
                              refine .drawn (ms := [0,1,3,3,3,3,51,115,255,3,3,3,3,6147,14339,32767,65535,131071,262143]) (W := [8,15]) (items := [.op 0, .op 1, .op 2, .op 3, .op 4, .op 5, .op 6, .op 7, .op 9, .op 10, .op 11, .op 12, .op 13, .op 14, .op 8, .ck 14, .ck 9, .op 15, .op 16, .op 17, .op 18]) rfl zz0 zz0 zz0 ?_
                              refine .rd rfl rfl (by decide) rfl (by decide) zz1 ?_   -- 0
                              refine .rd rfl rfl (by decide) rfl (by decide) zz1 ?_   -- 1
                              refine .split (t := 133) rfl (fun c133 => ?_) (fun c133 => ?_)
                              · first | cases c133 | (simp only [Bool.not_eq_true', Bool.not_eq_false', Bool.not_not, Bool.not_true, Bool.not_false] at c133; cases c133) | try rw [c133]
                                try simp at c133
                                refine .un rfl rfl (by decide) ?_   -- 2
                                refine .un rfl rfl (by decide) ?_   -- 3
                                refine .un rfl rfl (by decide) ?_   -- 4
                                refine .un rfl rfl (by decide) ?_   -- 5
                                refine .un rfl rfl (by decide) ?_   -- 6
                                refine .un rfl rfl (by decide) ?_   -- 7
                                refine .un rfl rfl (by decide) ?_   -- 9
                                refine .un rfl rfl (by decide) ?_   -- 10
                                refine .un rfl rfl (by decide) ?_   -- 11
                                refine .un rfl rfl (by decide) ?_   -- 12
                                refine .un rfl rfl (by decide) ?_   -- 13
                                refine .un rfl rfl (by decide) ?_   -- 14
                                refine .un rfl rfl (by decide) ?_   -- 8
                                refine .ckU rfl rfl rfl ?_   -- 14
                                refine .ckU rfl rfl rfl ?_   -- 9
                                refine .un rfl rfl (by decide) ?_   -- 15
                                refine .un rfl rfl (by decide) ?_   -- 16
                                refine .rd rfl rfl (by decide) rfl (by decide) zz1 ?_   -- 17
                                refine .rd rfl rfl (by decide) rfl (by decide) zz1 ?_   -- 18
                                refine .done ?_
                                refine .rn ?_
                                refine ⟨k + 1, c95,zz3,(.mk [] [] zz8 zz9 rfl rfl rfl)⟩
                              · first | cases c133 | (simp only [Bool.not_eq_true', Bool.not_eq_false', Bool.not_not, Bool.not_true, Bool.not_false] at c133; cases c133) | try rw [c133]
                                try simp at c133
                                refine .rd rfl rfl (by decide) rfl (by decide) zz1 ?_   -- 2
                                refine .rd rfl rfl (by decide) rfl (by decide) zz1 ?_   -- 3
                                refine .rd rfl rfl (by decide) rfl (by decide) zz1 ?_   -- 4
                                refine .rd rfl rfl (by decide) rfl (by decide) zz1 ?_   -- 5
                                refine .rd rfl rfl (by decide) rfl (by decide) zz1 ?_   -- 6
                                refine .rd rfl rfl (by decide) rfl (by decide) zz1 ?_   -- 7
                                refine .rd rfl rfl (by decide) rfl (by decide) zz1 ?_   -- 9
                                refine .rd rfl rfl (by decide) rfl (by decide) zz1 ?_   -- 10
                                refine .rd rfl rfl (by decide) rfl (by decide) zz1 ?_   -- 11
                                refine .rd rfl rfl (by decide) rfl (by decide) zz1 ?_   -- 12
                                refine .rd rfl rfl (by decide) rfl (by decide) zz1 ?_   -- 13
                                refine .rd rfl rfl (by decide) rfl (by decide) zz1 ?_   -- 14
                                refine .wr rfl rfl (by decide) (.pure rfl rfl rfl Tryz.call33 (by decide) ((by first | exact p33 ws s o[k] hs hL | exact p33 ws s l[s] hs hL)) (by first | rfl | simp [*]) ?_)
                                rintro _ rfl
                                refine .ck rfl zz0 ?_   -- 14
                                refine .ck rfl zz0 ?_   -- 9
                                refine .wr rfl rfl (by decide) (.pure rfl rfl rfl Tryz.call33 (by decide) ((by first | exact p33 ws s o[k] hs hL | exact p33 ws s l[s] hs hL)) (by first | rfl | simp [*]) ?_)
                                rintro _ rfl
                                refine .rd rfl rfl (by decide) rfl (by decide) zz1 ?_   -- 16
                                refine .rd rfl rfl (by decide) rfl (by decide) zz1 ?_   -- 17
                                refine .rd rfl rfl (by decide) rfl (by decide) zz1 ?_   -- 18
                                refine .done ?_
                                refine .rn ?_
                                refine ⟨k + 1, c95,zz3,(.mk [] [] zz8 zz9 rfl rfl rfl)⟩
                    · try simp at c95
                      have hkn : k = g.length := by omega
                      have hsgt : sg = true := by rw [← hsg, hkn]; exact hsome
                      refine .exit ?_
                      refine .seq ?_
                      refine .regionL [0,1,2,3,4] rfl zz0 ?_
                      refine .step rfl rfl (.pure rfl rfl rfl Tryz.call15 (by decide) (p15) (by first | rfl | simp [*]) ?_)
                      rintro _ rfl
                      refine .rn [1] [2,3,4] ?_
                      refine .split (t := 152) rfl (fun c152 => ?_) (fun c152 => ?_)
                      · first | cases c152 | (simp only [Bool.not_eq_true', Bool.not_eq_false', Bool.not_not, Bool.not_true, Bool.not_false] at c152; cases c152) | try rw [c152]
                        try simp at c152
                        refine .rn [2,3,4] [] ?_
                        refine .done ?_
                        refine .ret ?_
                        refine ⟨_, _, zz2,zz2, ?_⟩
                        first | rfl | (simp [*]; done) | (simp_all; done)
                      · first | cases c152 | (simp only [Bool.not_eq_true', Bool.not_eq_false', Bool.not_not, Bool.not_true, Bool.not_false] at c152; cases c152) | try rw [c152]
                        try simp at c152
end Go.Am.Hi
end
