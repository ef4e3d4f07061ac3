/-
 What is used in the proof of a statement (part HkL); no condition.
-/
import Derived.Test.YtmgglkdilpglgaaGreatHiZ
import Derived.Test.YtmgglkdilpglgaaGreatVm2
import Derived.Test.YtmgglkdilpglgaaGreatHiT
import Derived.Test.YtmgglkdilpglgaaGreatHjD
set_option linter.all false
section
namespace Go.Am.Hi
open Go Go.Am Go.Proofs
set_option maxRecDepth 100000
set_option maxHeartbeats 4000000
set_option linter.unusedSimpArgs false
set_option linter.unusedVariables false
attribute [local simp] vrun vwanted vyielded vop vopA vputAll VHeap.back hidI hidF backL bm Nat.testBit_eq_decide_div_mod_eq veval vevals vparts vO vbuiltin vlen vappend velems vcopy vmakeSlice vbuildSlice valloc vbox vmakeMap vload vpartT vpart vstore vfieldAddr vfield vindexAddr vindex vextract vslice vsliceZ vbounds vbnd zeroO vidx vlookup vmget vmapUpdate vdelete vclear vnilq vnilp vnils vbin vsc vsc1 vscs vscl abinOp aint ashift aunOp aconvert amaxs amax2 pvcV pvc pvcs tput tget vargs VHeap.get VHeap.alloc VHeap.put VHeap.drop VHeap.empty vlook vput vdrop psplice pfill preps chunk List.range List.range.loop vresults vresult vresultV frz frzL PV.isF PV.allF PV.scal PV.allS retP subT allFT PV.one PV.ids PV.idsL dropL beq_eq ble_dec blt_dec
theorem p11 (ws : List (List Int)) (a b g o : List Int) (s : Int) (w : List Int) (hl : ws.length < 4611686018427387904) (ha : a.length < 4611686018427387904) (hb : b.length < 4611686018427387904) (hg : g.length < 4611686018427387904) (ho : o.length < 4611686018427387904) (hw : w.length < 4611686018427387904) : VPure Tryz.prog 11 [encM ws, ints a, ints b, ints g, ints o, .int .i64 s, ints w] fun r => r = .bool true := by
 obtain ⟨bs, hbs⟩ : ∃ b, shortB ws = b := ⟨_, rfl⟩
 refine .of_body Tryz.func11 rfl rfl ?_
 refine .seq ?_
 refine .rn ?_
 refine .seq ?_
 refine .seq ?_
 refine .regionL [0,1,2,3,4,5,6,7,8,9,10,11,12,13,14,15,16,17,18,19,20,21,22,23,24,25,26,27] rfl zz0 ?_
 refine .rn [0] [1,2,3,4,5,6,7,8,9,10,11,12,13,14,15,16,17,18,19,20,21,22,23,24,25,26,27] ?_
 refine .step rfl rfl (.pure rfl rfl rfl Tryz.call36 (by decide) ((by have := p36 ws hl; rw [hbs] at this; exact this)) (by first | rfl | simp [*]) ?_)
 rintro _ rfl
 refine .rn [2,3] [4,5,6,7,8,9,10,11,12,13,14,15,16,17,18,19,20,21,22,23,24,25,26,27] ?_
 refine .split (t := 29) rfl (fun c29 => ?_) (fun c29 => ?_)
 ·first | cases c29 | (simp only [Bool.not_eq_true', Bool.not_eq_false', Bool.not_not, Bool.not_true, Bool.not_false] at c29; cases c29) | try rw [c29]
  try simp at c29
  refine .rn [4,5,6,7,8,9,10,11,12,13,14,15,16,17,18,19,20,21,22,23,24,25,26,27] [] ?_
  refine .done ?_
  refine .condT rfl ?_
  refine .seq ?_
  refine .regionL [0,1] rfl zz0 ?_
  refine .step rfl rfl (.pure rfl rfl rfl Tryz.call15 (by decide) (p15) (by first | rfl | simp [*]) ?_)
  rintro _ rfl
  refine .rn [1] [] ?_
  refine .done ?_
  refine .ret ?_
  refine ⟨_, _, zz2,zz2, ?_⟩
  first | rfl | (simp [*]; done) | (simp_all; done)
 ·first | cases c29 | (simp only [Bool.not_eq_true', Bool.not_eq_false', Bool.not_not, Bool.not_true, Bool.not_false] at c29; cases c29) | try rw [c29]
  try simp at c29
  refine .rn [4,5,6,7,8] [9,10,11,12,13,14,15,16,17,18,19,20,21,22,23,24,25,26,27] ?_
  refine .split (t := 34) rfl (fun c34 => ?_) (fun c34 => ?_)
  ·first | cases c34 | (simp only [Bool.not_eq_true', Bool.not_eq_false', Bool.not_not, Bool.not_true, Bool.not_false] at c34; cases c34) | try rw [c34]
   try simp at c34
   refine .rn [9,10,11,12,13,14,15,16,17,18,19,20,21,22,23,24,25,26,27] [] ?_
   refine .done ?_
   refine .condT rfl ?_
   refine .seq ?_
   refine .regionL [0,1] rfl zz0 ?_
   refine .step rfl rfl (.pure rfl rfl rfl Tryz.call15 (by decide) (p15) (by first | rfl | simp [*]) ?_)
   rintro _ rfl
   refine .rn [1] [] ?_
   refine .done ?_
   refine .ret ?_
   refine ⟨_, _, zz2,zz2, ?_⟩
   first | rfl | (simp [*]; done) | (simp_all; done)
  ·first | cases c34 | (simp only [Bool.not_eq_true', Bool.not_eq_false', Bool.not_not, Bool.not_true, Bool.not_false] at c34; cases c34) | try rw [c34]
   try simp at c34
   refine .rn [9,10,11,12,13] [14,15,16,17,18,19,20,21,22,23,24,25,26,27] ?_
   refine .split (t := 39) rfl (fun c39 => ?_) (fun c39 => ?_)
   ·first | cases c39 | (simp only [Bool.not_eq_true', Bool.not_eq_false', Bool.not_not, Bool.not_true, Bool.not_false] at c39; cases c39) | try rw [c39]
    try simp at c39
    refine .rn [14,15,16,17,18,19,20,21,22,23,24,25,26,27] [] ?_
    refine .done ?_
    refine .condT rfl ?_
    refine .seq ?_
    refine .regionL [0,1] rfl zz0 ?_
    refine .step rfl rfl (.pure rfl rfl rfl Tryz.call15 (by decide) (p15) (by first | rfl | simp [*]) ?_)
    rintro _ rfl
    refine .rn [1] [] ?_
    refine .done ?_
    refine .ret ?_
    refine ⟨_, _, zz2,zz2, ?_⟩
    first | rfl | (simp [*]; done) | (simp_all; done)
   ·first | cases c39 | (simp only [Bool.not_eq_true', Bool.not_eq_false', Bool.not_not, Bool.not_true, Bool.not_false] at c39; cases c39) | try rw [c39]
    try simp at c39
    refine .rn [14,15,16,17,18] [19,20,21,22,23,24,25,26,27] ?_
    refine .split (t := 44) rfl (fun c44 => ?_) (fun c44 => ?_)
    ·first | cases c44 | (simp only [Bool.not_eq_true', Bool.not_eq_false', Bool.not_not, Bool.not_true, Bool.not_false] at c44; cases c44) | try rw [c44]
     try simp at c44
     refine .rn [19,20,21,22,23,24,25,26,27] [] ?_
     refine .done ?_
     refine .condT rfl ?_
     refine .seq ?_
     refine .regionL [0,1] rfl zz0 ?_
     refine .step rfl rfl (.pure rfl rfl rfl Tryz.call15 (by decide) (p15) (by first | rfl | simp [*]) ?_)
     rintro _ rfl
     refine .rn [1] [] ?_
     refine .done ?_
     refine .ret ?_
     refine ⟨_, _, zz2,zz2, ?_⟩
     first | rfl | (simp [*]; done) | (simp_all; done)
    ·first | cases c44 | (simp only [Bool.not_eq_true', Bool.not_eq_false', Bool.not_not, Bool.not_true, Bool.not_false] at c44; cases c44) | try rw [c44]
     try simp at c44
     refine .rn [19,20,21,22,23] [24,25,26,27] ?_
     refine .split (t := 49) rfl (fun c49 => ?_) (fun c49 => ?_)
     ·first | cases c49 | (simp only [Bool.not_eq_true', Bool.not_eq_false', Bool.not_not, Bool.not_true, Bool.not_false] at c49; cases c49) | try rw [c49]
      try simp at c49
      refine .rn [24,25,26,27] [] ?_
      refine .done ?_
      refine .condT rfl ?_
      refine .seq ?_
      refine .regionL [0,1] rfl zz0 ?_
      refine .step rfl rfl (.pure rfl rfl rfl Tryz.call15 (by decide) (p15) (by first | rfl | simp [*]) ?_)
      rintro _ rfl
      refine .rn [1] [] ?_
      refine .done ?_
      refine .ret ?_
      refine ⟨_, _, zz2,zz2, ?_⟩
      first | rfl | (simp [*]; done) | (simp_all; done)
     ·first | cases c49 | (simp only [Bool.not_eq_true', Bool.not_eq_false', Bool.not_not, Bool.not_true, Bool.not_false] at c49; cases c49) | try rw [c49]
      try simp at c49
      refine .rn [24,25,26,27] [] ?_
      refine .done ?_
      refine .condS rfl (fun c53 => ?_) (fun c53 => ?_)
      ·try simp at c53
       refine .seq ?_
       refine .regionL [0,1] rfl zz0 ?_
       refine .step rfl rfl (.pure rfl rfl rfl Tryz.call15 (by decide) (p15) (by first | rfl | simp [*]) ?_)
       rintro _ rfl
       refine .rn [1] [] ?_
       refine .done ?_
       refine .ret ?_
       refine ⟨_, _, zz2,zz2, ?_⟩
       first | rfl | (simp [*]; done) | (simp_all; done)
      ·try simp at c53
       have ha' : a.length < 4294967296 := by omega
       have hb' : b.length < 4294967296 := by omega
       have hg' : g.length < 4294967296 := by omega
       have ho' : o.length < 4294967296 := by omega
       have hw' : w.length < 4294967296 := by omega
       obtain ⟨hw30, hl30⟩ := short_spec hbs
       clear hbs
       have hl4 : ws.length < 4294967296 := by omega
       have hl4r : ∀ l ∈ ws, l.length < 4294967296 := fun l hl => by have := hl30 l hl; omega
       have hTl : (tlW ws s w).length < 4294967296 := by
        unfold tlW
        split
        ·rw [tellW_len]; exact hl4
        ·decide
       have hTr : ∀ l ∈ tlW ws s w, l.length < 4294967296 := fun l h => by
        unfold tlW at h
        split at h
        ·exact (tellW_mem h).elim (hl4r l) fun h => by rw [h]; exact hw'
        ·cases h
       refine .skip ?_
       refine .seq ?_
       refine .regionL [0,1,2,3,4,5,6,7,8] rfl zz0 ?_
       refine .rn [0,1,2] [3,4,5,6,7,8] ?_
       refine .step rfl rfl (.pure rfl rfl rfl Tryz.call61 (by decide) (p61 ws a b hl4 hl4r ha' hb') (by first | rfl | simp [*]) ?_)
       rintro _ rfl
       refine .rn [4,5,6,7,8] [] ?_
       refine .done ?_
       refine .seq ?_
       refine .regionL [0,1,2,3,4,5] rfl zz0 ?_
       refine .rn [0,1,2] [3,4,5] ?_
       refine .step rfl rfl (.pure rfl rfl rfl Tryz.call62 (by decide) (p62 ws a b hl4 hl4r ha' hb') (by first | rfl | simp [*]) ?_)
       rintro _ rfl
       refine .rn [4,5] [] ?_
       refine .done ?_
       refine .seq ?_
       refine .regionL [0,1,2,3,4,5,6,7,8,9] rfl zz0 ?_
       refine .rn [0,1,2] [3,4,5,6,7,8,9] ?_
       refine .step rfl rfl (.pure rfl rfl rfl Tryz.call31 (by decide) (VPure.soft (p31 ws s w hl4 hl4r hw') rfl) (by first | rfl | simp [*]) ?_)
       rintro _ rfl
       refine .rn [4,5,6,7,8,9] [] ?_
       refine .done ?_
       refine .seq ?_
       refine .regionL [0,1,2,3,4,5] rfl zz0 ?_
       refine .rn [0,1,2] [3,4,5] ?_
       refine .step rfl rfl (.pure rfl rfl rfl Tryz.call63 (by decide) (VPure.soft (p63 ws s w hl4 hl4r hw') rfl) (by first | rfl | simp [*]) ?_)
       rintro _ rfl
       refine .rn [4,5] [] ?_
       refine .done ?_
       refine .seq ?_
       refine .seq ?_
       obtain ⟨T, hT⟩ : ∃ T, tlW ws s w = T := ⟨_, rfl⟩
       obtain ⟨e1, he1⟩ : ∃ e, tlE ws s w = e := ⟨_, rfl⟩
       obtain ⟨e2, he2⟩ : ∃ e, betE ws a b = e := ⟨_, rfl⟩
       obtain ⟨e3, he3⟩ : ∃ e, betI ws a b = e := ⟨_, rfl⟩
       rw [hT] at hTl hTr
       rw [hT, he1, he2, he3]
       refine .drawn (ms := [0,0,2,7,15,31,31,95,255,511,1023,2047,4095,2047,10239,26623,65535,131071,262143,524287,1048575,1048575,3145727,8388607,16777215,33554431,67108863,67108863,67108863,67108863,1073741823,67108863,67108863,67108863,67108863,34359738367,68719476735,137438953471]) (W := [16,30,35]) (items := [.op 0, .op 1, .op 2, .op 3, .op 4, .op 5, .op 6, .op 7, .op 8, .op 9, .op 10, .op 11, .op 12, .op 13, .op 14, .op 15, .op 16, .op 17, .op 18, .op 19, .op 20, .op 21, .op 22, .op 23, .op 24, .op 25, .op 26, .op 27, .op 28, .op 29, .op 31, .op 32, .op 33, .op 34, .op 30, .ck 31, .op 35, .op 36, .op 37]) rfl zz0 zz0 zz0 ?_
       refine .rd rfl rfl (by decide) rfl (by decide) zz1 ?_   -- 0
       refine .rd rfl rfl (by decide) rfl (by decide) zz1 ?_   -- 1
       refine .rd rfl rfl (by decide) rfl (by decide) zz1 ?_   -- 2
       refine .rd rfl rfl (by decide) rfl (by decide) zz1 ?_   -- 3
       refine .rd rfl rfl (by decide) rfl (by decide) zz1 ?_   -- 4
       refine .split (t := 81) rfl (fun c81 => ?_) (fun c81 => ?_)
       ·first | cases c81 | (simp only [Bool.not_eq_true', Bool.not_eq_false', Bool.not_not, Bool.not_true, Bool.not_false] at c81; cases c81) | try rw [c81]
        try simp at c81
       ·first | cases c81 | (simp only [Bool.not_eq_true', Bool.not_eq_false', Bool.not_not, Bool.not_true, Bool.not_false] at c81; cases c81) | try rw [c81]
        try simp at c81
        refine .rd rfl rfl (by decide) rfl (by decide) zz1 ?_   -- 5
        refine .rd rfl rfl (by decide) rfl (by decide) zz1 ?_   -- 6
        refine .rd rfl rfl (by decide) rfl (by decide) zz1 ?_   -- 7
        refine .rd rfl rfl (by decide) rfl (by decide) zz1 ?_   -- 8
        refine .rd rfl rfl (by decide) rfl (by decide) zz1 ?_   -- 9
        refine .rd rfl rfl (by decide) rfl (by decide) zz1 ?_   -- 10
        refine .split (t := 87) rfl (fun c87 => ?_) (fun c87 => ?_)
        ·first | cases c87 | (simp only [Bool.not_eq_true', Bool.not_eq_false', Bool.not_not, Bool.not_true, Bool.not_false] at c87; cases c87) | try rw [c87]
         try simp at c87
        ·first | cases c87 | (simp only [Bool.not_eq_true', Bool.not_eq_false', Bool.not_not, Bool.not_true, Bool.not_false] at c87; cases c87) | try rw [c87]
         try simp at c87
         refine .rd rfl rfl (by decide) rfl (by decide) zz1 ?_   -- 11
         refine .rd rfl rfl (by decide) rfl (by decide) zz1 ?_   -- 12
         refine .rd rfl rfl (by decide) rfl (by decide) zz1 ?_   -- 13
         refine .rd rfl rfl (by decide) rfl (by decide) zz1 ?_   -- 14
         refine .rd rfl rfl (by decide) rfl (by decide) zz1 ?_   -- 15
         refine .wr rfl rfl (by decide) (.pure rfl rfl rfl Tryz.call50 (by decide) (p50n T T hTl hTl hTr hTr) (by first | rfl | simp [*]) ?_)
         rintro _ rfl
         refine .rd rfl rfl (by decide) rfl (by decide) zz1 ?_   -- 17
         refine .rd rfl rfl (by decide) rfl (by decide) zz1 ?_   -- 18
         refine .rd rfl rfl (by decide) rfl (by decide) zz1 ?_   -- 19
         refine .split (t := 96) rfl (fun c96 => ?_) (fun c96 => ?_)
         ·first | cases c96 | (simp only [Bool.not_eq_true', Bool.not_eq_false', Bool.not_not, Bool.not_true, Bool.not_false] at c96; cases c96) | try rw [c96]
          try simp at c96
         ·first | cases c96 | (simp only [Bool.not_eq_true', Bool.not_eq_false', Bool.not_not, Bool.not_true, Bool.not_false] at c96; cases c96) | try rw [c96]
          try simp at c96
          refine .rd rfl rfl (by decide) rfl (by decide) zz1 ?_   -- 20
          refine .rd rfl rfl (by decide) rfl (by decide) zz1 ?_   -- 21
          refine .rd rfl rfl (by decide) rfl (by decide) zz1 ?_   -- 22
          refine .rd rfl rfl (by decide) rfl (by decide) zz1 ?_   -- 23
          refine .rd rfl rfl (by decide) rfl (by decide) zz1 ?_   -- 24
          refine .rd rfl rfl (by decide) rfl (by decide) zz1 ?_   -- 25
          refine .split (t := 102) rfl (fun c102 => ?_) (fun c102 => ?_)
          ·first | cases c102 | (simp only [Bool.not_eq_true', Bool.not_eq_false', Bool.not_not, Bool.not_true, Bool.not_false] at c102; cases c102) | try rw [c102]
           try simp at c102
          ·first | cases c102 | (simp only [Bool.not_eq_true', Bool.not_eq_false', Bool.not_not, Bool.not_true, Bool.not_false] at c102; cases c102) | try rw [c102]
           try simp at c102
           refine .rd rfl rfl (by decide) rfl (by decide) zz1 ?_   -- 26
           refine .rd rfl rfl (by decide) rfl (by decide) zz1 ?_   -- 27
           refine .rd rfl rfl (by decide) rfl (by decide) zz1 ?_   -- 28
           refine .rd rfl rfl (by decide) rfl (by decide) zz1 ?_   -- 29
           refine .rd rfl rfl (by decide) rfl (by decide) zz1 ?_   -- 31
           refine .rd rfl rfl (by decide) rfl (by decide) zz1 ?_   -- 32
           refine .rd rfl rfl (by decide) rfl (by decide) zz1 ?_   -- 33
           refine .rd rfl rfl (by decide) rfl (by decide) zz1 ?_   -- 34
           refine .wr rfl rfl (by decide) (.pure rfl rfl rfl Tryz.call35 (by decide) (p35 ws a g o hl4 hl4r ha' hg' ho') (by first | rfl | simp [*]) ?_)
           rintro _ rfl
           refine .ck rfl zz0 ?_   -- 31
           refine .wr rfl rfl (by decide) (.pure rfl rfl rfl Tryz.call64 (by decide) (p64 ws a g o hl4 hl4r ha' hg' ho') (by first | rfl | simp [*]) ?_)
           rintro _ rfl
           refine .rd rfl rfl (by decide) rfl (by decide) zz1 ?_   -- 36
           refine .rd rfl rfl (by decide) rfl (by decide) zz1 ?_   -- 37
           refine .done ?_
           refine .condS rfl (fun c114 => ?_) (fun c114 => ?_)
           ·try simp at c114
           ·try simp at c114
            refine .skip ?_
            refine .seq ?_
            refine .regionL [0,1,2,3,4,5,6,7,8,9,10,11] rfl zz0 ?_
            refine .rn [0,1] [2,3,4,5,6,7,8,9,10,11] ?_
            refine .step rfl rfl (.pure rfl rfl rfl Tryz.call34 (by decide) (p34p ws a hl4 hl4r ha') (by first | rfl | simp [*]) ?_)
            rintro _ ⟨g2, o2, is, rfl, hO⟩
            refine .rn [3,4,5,6,7,8,9,10,11] [] ?_
            refine .done ?_
            refine .seq ?_
            refine .seq ?_
            refine .regionL [0,1,2,3,4] rfl zz0 ?_
            refine .rn [0,1,2] [3,4] ?_
            refine .step rfl rfl (.pure rfl rfl rfl Tryz.call65 (by decide) (p65 ws a hl4 hl4r ha') (by first | rfl | simp [*]) ?_)
            rintro _ rfl
            refine .rn [4] [] ?_
            refine .done ?_
            refine .condS rfl (fun c127 => ?_) (fun c127 => ?_)
            ·try simp at c127
            ·try simp at c127
             refine .skip ?_
             refine .seq ?_
             refine .regionL [0,1,2,3] rfl zz0 ?_
             refine .rn [0] [1,2,3] ?_
             refine .step rfl rfl (.pure rfl rfl rfl Tryz.call37 (by decide) (p37 ws hl4 hl4r) (by first | rfl | simp [*]) ?_)
             rintro _ rfl
             refine .rn [2,3] [] ?_
             refine .done ?_
             refine .seq ?_
             refine .seq ?_
             obtain ⟨hg2, ho2⟩ := hO.len
             have hOb : gE ws a = 0 → ¬a = mkG ws → is = true ∧ oE ws a g2 o2 = 0 := fun h1 h2 => by
              rcases hO with h | h
              ·exact absurd (h.2.2.2 h1) h2
              ·exact ⟨h.1, oE_yes h1 (oB_iff.2 h.2.2.2)⟩
             have hNo : (¬gE ws a = 0 ∨ a = mkG ws) → is = false ∧ g2 = [] ∧ o2 = [] := fun h1 => by
              rcases hO with h | h
              ·exact ⟨h.1, h.2.1, h.2.2.1⟩
              ·exact h1.elim (fun h2 => absurd h.2.1 h2) fun h2 => absurd h2 h.2.2.1
             have hGl : (mkG ws).length ≤ ws.length := by
              by_cases h0 : mkE ws = 0
              ·unfold mkG
               rw [if_pos h0]
               unfold madeL
               split
               ·rename_i h; exact Nat.le_of_eq (Classical.choose_spec h).1
               ·exact Nat.zero_le _
              ·rw [mkG_err h0]; exact Nat.zero_le _
             obtain ⟨G, hG⟩ : ∃ G, mkG ws = G := ⟨_, rfl⟩
             rw [hG] at hNo hOb hGl ⊢
             clear hO
             obtain ⟨b132, hb132⟩ : ∃ b, (gE ws a != 0) = b := ⟨_, rfl⟩
             refine .regionL [0,1,2,3,4,5,6,7] rfl zz0 ?_
             refine .rn [0,1,2] [3,4,5,6,7] ?_
             refine .split (t := 132) rfl (fun c132 => ?_) (fun c132 => ?_)
             ·first | cases c132 | (simp only [Bool.not_eq_true', Bool.not_eq_false', Bool.not_not, Bool.not_true, Bool.not_false] at c132; cases c132) | try rw [c132]
              try simp at c132
              obtain ⟨rfl, rfl, rfl⟩ := hNo (.inl (by simpa using hb132))
              refine .rn [3,4,5,6,7] [] ?_
              refine .done ?_
              refine .condT rfl ?_
              refine .seq ?_
              refine .regionL [0,1,2,3,4,5,6,7,8,9,10,11,12,13,14,15] rfl zz0 ?_
              refine .step rfl rfl (.pure rfl rfl rfl Tryz.call15 (by decide) (p15) (by first | rfl | simp [*]) ?_)
              rintro _ rfl
              refine .rn [1] [2,3,4,5,6,7,8,9,10,11,12,13,14,15] ?_
              refine .split (t := 139) rfl (fun c139 => ?_) (fun c139 => ?_)
              ·first | cases c139 | (simp only [Bool.not_eq_true', Bool.not_eq_false', Bool.not_not, Bool.not_true, Bool.not_false] at c139; cases c139) | try rw [c139]
               try simp at c139
               refine .rn [2,3,4,5] [6,7,8,9,10,11,12,13,14,15] ?_
               refine .split (t := 143) rfl (fun c143 => ?_) (fun c143 => ?_)
               ·first | cases c143 | (simp only [Bool.not_eq_true', Bool.not_eq_false', Bool.not_not, Bool.not_true, Bool.not_false] at c143; cases c143) | try rw [c143]
                try simp at c143
                refine .rn [6,7,8,9,10] [11,12,13,14,15] ?_
                refine .split (t := 148) rfl (fun c148 => ?_) (fun c148 => ?_)
                ·first | cases c148 | (simp only [Bool.not_eq_true', Bool.not_eq_false', Bool.not_not, Bool.not_true, Bool.not_false] at c148; cases c148) | try rw [c148]
                 try simp at c148
                 refine .rn [11,12,13,14,15] [] ?_
                 refine .done ?_
                 refine .ret ?_
                 refine ⟨_, _, zz2,zz2, ?_⟩
                 first | rfl | (simp [*]; done) | (simp_all; done)
                ·first | cases c148 | (simp only [Bool.not_eq_true', Bool.not_eq_false', Bool.not_not, Bool.not_true, Bool.not_false] at c148; cases c148) | try rw [c148]
                 try simp at c148
               ·first | cases c143 | (simp only [Bool.not_eq_true', Bool.not_eq_false', Bool.not_not, Bool.not_true, Bool.not_false] at c143; cases c143) | try rw [c143]
                try simp at c143
              ·first | cases c139 | (simp only [Bool.not_eq_true', Bool.not_eq_false', Bool.not_not, Bool.not_true, Bool.not_false] at c139; cases c139) | try rw [c139]
               try simp at c139
             ·first | cases c132 | (simp only [Bool.not_eq_true', Bool.not_eq_false', Bool.not_not, Bool.not_true, Bool.not_false] at c132; cases c132) | try rw [c132]
              try simp at c132
              have hgE : gE ws a = 0 := by simpa using hb132
              refine .rn [3,4,5] [6,7] ?_
              refine .step rfl rfl (.pure rfl rfl rfl Tryz.call27 (by decide) (p27 a G ha' (by omega)) (by first | rfl | simp [*]) ?_)
              rintro _ rfl
              refine .rn [7] [] ?_
              refine .done ?_
              refine .condS rfl (fun c137 => ?_) (fun c137 => ?_)
              ·try simp at c137
               obtain ⟨rfl, rfl, rfl⟩ := hNo (.inr (by first | exact c137 | simpa using c137))
               refine .seq ?_
               refine .regionL [0,1,2,3,4,5,6,7,8,9,10,11,12,13,14,15] rfl zz0 ?_
               refine .step rfl rfl (.pure rfl rfl rfl Tryz.call15 (by decide) (p15) (by first | rfl | simp [*]) ?_)
               rintro _ rfl
               refine .rn [1] [2,3,4,5,6,7,8,9,10,11,12,13,14,15] ?_
               refine .split (t := 139) rfl (fun c139 => ?_) (fun c139 => ?_)
               ·first | cases c139 | (simp only [Bool.not_eq_true', Bool.not_eq_false', Bool.not_not, Bool.not_true, Bool.not_false] at c139; cases c139) | try rw [c139]
                try simp at c139
                refine .rn [2,3,4,5] [6,7,8,9,10,11,12,13,14,15] ?_
                refine .split (t := 143) rfl (fun c143 => ?_) (fun c143 => ?_)
                ·first | cases c143 | (simp only [Bool.not_eq_true', Bool.not_eq_false', Bool.not_not, Bool.not_true, Bool.not_false] at c143; cases c143) | try rw [c143]
                 try simp at c143
                 refine .rn [6,7,8,9,10] [11,12,13,14,15] ?_
                 refine .split (t := 148) rfl (fun c148 => ?_) (fun c148 => ?_)
                 ·first | cases c148 | (simp only [Bool.not_eq_true', Bool.not_eq_false', Bool.not_not, Bool.not_true, Bool.not_false] at c148; cases c148) | try rw [c148]
                  try simp at c148
                  refine .rn [11,12,13,14,15] [] ?_
                  refine .done ?_
                  refine .ret ?_
                  refine ⟨_, _, zz2,zz2, ?_⟩
                  first | rfl | (simp [*]; done) | (simp_all; done)
                 ·first | cases c148 | (simp only [Bool.not_eq_true', Bool.not_eq_false', Bool.not_not, Bool.not_true, Bool.not_false] at c148; cases c148) | try rw [c148]
                  try simp at c148
                ·first | cases c143 | (simp only [Bool.not_eq_true', Bool.not_eq_false', Bool.not_not, Bool.not_true, Bool.not_false] at c143; cases c143) | try rw [c143]
                 try simp at c143
               ·first | cases c139 | (simp only [Bool.not_eq_true', Bool.not_eq_false', Bool.not_not, Bool.not_true, Bool.not_false] at c139; cases c139) | try rw [c139]
                try simp at c139
              ·try simp at c137
               obtain ⟨rfl, hoE⟩ := hOb hgE (by first | exact c137 | simpa using c137)
               refine .skip ?_
               refine .seq ?_
               refine .regionL [0,1,2,3,4,5,6,7,8,9,10,11,12] rfl zz0 ?_
               refine .step rfl rfl (.pure rfl rfl rfl Tryz.call15 (by decide) (p15) (by first | rfl | simp [*]) ?_)
               rintro _ rfl
               refine .rn [1] [2,3,4,5,6,7,8,9,10,11,12] ?_
               refine .split (t := 154) rfl (fun c154 => ?_) (fun c154 => ?_)
               ·first | cases c154 | (simp only [Bool.not_eq_true', Bool.not_eq_false', Bool.not_not, Bool.not_true, Bool.not_false] at c154; cases c154) | try rw [c154]
                try simp at c154
                refine .rn [2,3,4] [5,6,7,8,9,10,11,12] ?_
                refine .split (t := 157) rfl (fun c157 => ?_) (fun c157 => ?_)
                ·first | cases c157 | (simp only [Bool.not_eq_true', Bool.not_eq_false', Bool.not_not, Bool.not_true, Bool.not_false] at c157; cases c157) | try rw [c157]
                 try simp at c157
                 refine .rn [5,6,7,8] [9,10,11,12] ?_
                 refine .step rfl rfl (.pure rfl rfl rfl Tryz.call64 (by decide) (p64 ws a g2 o2 hl4 hl4r ha' (by omega) (by omega)) (by first | rfl | simp [*]) ?_)
                 rintro _ rfl
                 refine .rn [10,11,12] [] ?_
                 refine .done ?_
                 refine .ret ?_
                 refine ⟨_, _, zz2,zz2, ?_⟩
                 first | rfl | (simp [*]; done) | (simp_all; done)
                ·first | cases c157 | (simp only [Bool.not_eq_true', Bool.not_eq_false', Bool.not_not, Bool.not_true, Bool.not_false] at c157; cases c157) | try rw [c157]
                 try simp at c157
               ·first | cases c154 | (simp only [Bool.not_eq_true', Bool.not_eq_false', Bool.not_not, Bool.not_true, Bool.not_false] at c154; cases c154) | try rw [c154]
                try simp at c154
end Go.Am.Hi
end
