/-
 What is used in the proof of a statement (part HnW); no condition.
-/
import Derived.Test.YtmgglkdilpglgaaGreatHiZ
import Derived.Test.YtmgglkdilpglgaaGreatVm2
import Derived.Test.YtmgglkdilpglgaaGreatHiT
import Derived.Test.YtmgglkdilpglgaaGreatHmC
import Derived.Test.YtmgglkdilpglgaaGreatHmA
import Derived.Test.YtmgglkdilpglgaaGreatHiS
set_option linter.all false
set_option maxHeartbeats 40000000
set_option maxRecDepth 100000
section
namespace Go.Am.Hi
open Go Go.Am Go.Proofs
attribute [local simp] vrun vwanted vyielded vop vopA vputAll VHeap.back hidI hidF backL bm Nat.testBit_eq_decide_div_mod_eq veval vevals vparts vO vbuiltin vlen vappend velems vcopy vmakeSlice vbuildSlice valloc vbox vmakeMap vload vpartT vpart vstore vfieldAddr vfield vindexAddr vindex vextract vslice vsliceZ vbounds vbnd zeroO vidx vlookup vmget vmapUpdate vdelete vclear vnilq vnilp vnils vbin vsc vsc1 vscs vscl abinOp aint ashift aunOp aconvert amaxs amax2 pvcV pvc pvcs tput tget vargs VHeap.get VHeap.alloc VHeap.put VHeap.drop VHeap.empty vlook vput vdrop psplice pfill preps chunk List.range List.range.loop vresults vresult vresultV frz frzL PV.isF PV.allF PV.scal PV.allS retP subT allFT PV.one PV.ids PV.idsL dropL beq_eq ble_dec blt_dec
attribute [local simp] pfind_mpG pmset_mpG pkeep_mpG
def rightP (R : Reg) : Prop := R.ts.length ≤ 60 ∧ R.ps.length ≤ 24 ∧ (chkR R).1 = 0
instance (R : Reg) : Decidable (rightP R) := by unfold rightP; infer_instance
def dayI (a : Nat) : Int := ((a % 731 : Nat) : Int)
theorem tmod_day (a : Nat) (ha : a < 65536) : (IntKind.i64.wrap (a : Int)).tmod 731 = dayI a := by
 have e2 : IntKind.i64.wrap (a : Int) = (a : Int) := wrap64 (by omega) (by omega)
 rw [e2]
 exact Int.ofNat_tmod a 731
theorem dayI_b (a : Nat) : 0 ≤ dayI a ∧ dayI a ≤ 730 := by unfold dayI; omega
theorem byL_take (l : List He) (k : Nat) (hk : k < l.length) (h : (l.map (·.p)).Nodup) : alk (byL (l.take k)) l[k].p = none ∧ aset (byL (l.take k)) l[k].p l[k].s = byL (l.take (k + 1)) := by
 have hn : l[k].p ∉ (byL (l.take k)).map (·.1) := by
  unfold byL
  rw [List.map_map]
  intro hm
  obtain ⟨i, hi, he⟩ := List.mem_iff_getElem.1 hm
  simp only [List.length_map, List.length_take] at hi
  simp only [List.getElem_map, Function.comp, List.getElem_take] at he
  have := List.pairwise_iff_getElem.1 h i k (by simp; omega) (by simpa using hk) (by omega)
  simp only [List.getElem_map] at this
  exact this he
 refine ⟨alk_none.2 hn, ?_⟩
 rw [aset_new hn]
 unfold byL
 rw [List.take_succ_eq_append_getElem hk, List.map_append]; rfl
theorem haL_take (l : List He) (k : Nat) (hk : k < l.length) (h : (l.map (·.s)).Nodup) : alk (haL (l.take k)) l[k].s = none ∧ aset (haL (l.take k)) l[k].s true = haL (l.take (k + 1)) := by
 have hn : l[k].s ∉ (haL (l.take k)).map (·.1) := by
  unfold haL
  rw [List.map_map]
  intro hm
  obtain ⟨i, hi, he⟩ := List.mem_iff_getElem.1 hm
  simp only [List.length_map, List.length_take] at hi
  simp only [List.getElem_map, Function.comp, List.getElem_take] at he
  have := List.pairwise_iff_getElem.1 h i k (by simp; omega) (by simpa using hk) (by omega)
  simp only [List.getElem_map] at this
  exact this he
 refine ⟨alk_none.2 hn, ?_⟩
 rw [aset_new hn]
 unfold haL
 rw [List.take_succ_eq_append_getElem hk, List.map_append]; rfl
structure Hand (R : Reg) (e : Int) (H : List He) (F : List Int) (Y : List (Int × Int)) (Q : Int → List Int) : Prop where
  ho : holdV R e = helds H
  fr : freeV R e = ints F
  on : onE R e = 0
  by_ : ∀ p, alk (byL H) p = alk Y p
  ps : (H.map (·.p)).Nodup
  ss : (H.map (·.s)).Nodup
  ab : ∀ u ∈ H, 0 ≤ u.a ∧ u.a ≤ e ∧ u.a + 7 ≤ u.b
  ln : H.length + F.length = R.ps.length
  wh : ∀ p ∈ R.ps, wherT R p e = ((alk Y p).getD 0,(alk Y p).isSome, 0)
  fm : ∀ p ∈ R.ps, decide (p ∈ F) = !(alk Y p).isSome
  wa : ∀ p ∈ R.ps, waitT R p e = (ints (Q p),0)
  hw : ∀ p s, alk Y p = some s → s ∉ Q p
  nd : ∀ p, (Q p).Nodup
  ql : ∀ p, (Q p).length ≤ 120
theorem hand_of {R : Reg} (h : (chkR R).1 = 0) {e : Int} (h0 : 0 ≤ e ∧ e ≤ 730) : Hand R e (heldL (behD R e)) (R.ps.filter fun id => !(alk (behD R e).y id).isSome) (behD R e).y (behD R e).line := by
 have hon : onE R e = 0 := by unfold onE; rw [if_pos h, if_pos h0]
 have hb := beh_ok h e
 have h4 := beh4 h h0.1
 have hr := regE_bounds (chk_ok h).1
 have hpie : ∀ p ∈ R.ps, pieE R p = 0 := fun p hp => by unfold pieE; rw [if_pos h, if_pos hp]
 refine ⟨by unfold holdV; rw [if_pos hon], by unfold freeV; rw [if_pos hon], hon, byL_eq hb.1 hb.2, heldL_ps hb.1 hb.2, by rw [heldL_s hb.1]; exact sortK_nodup hb.2, fun u hu => ?_, held_free hb.1 hb.2 h4.1 hr.2.2.2.2.2.2, fun p hp => ?_, fun p hp => ?_, fun p hp => ?_, h4.1.hw, h4.1.nd, hb.1.line⟩
 ·have := h4.1.ab _ _ ((heldL_in hb.1).1 hu)
  have := h4.2
  omega
 ·unfold wherT; rw [if_pos (hpie p hp), if_pos hon]
 ·rw [Bool.eq_iff_iff]; simp [List.mem_filter, hp]
 ·unfold waitT; rw [if_pos (hpie p hp), if_pos hon]
theorem p29t (l : List Int) (j : Nat) (v : Int) (hl : l.length < 4294967296) : VPure Tryz.prog 29 [.vec (List.take j (l.map (PV.int .i64))), .int .i64 v] fun r => r = .bool (decide (v ∈ l.take j)) := by
 rw [← List.map_take]
 exact p29 (l.take j) v (by rw [List.length_take]; omega)
theorem p28 (R : Reg) (hl1 : R.ps.length < 4611686018427387904) (hl2 : R.ts.length < 4611686018427387904) : VPure Tryz.prog 28 [encR R] fun r => r = .bool (decide (rightP R)) := by
 unfold encR
 refine .of_body Tryz.func28 rfl rfl ?_
 refine .seq (.rn ?_)
 refine .seq (.seq ?_)
 refine .rec (vts2 := [(1, .vp [ints R.ps, .int .i64 R.sc, turns R.ts])]) (vh2 := ⟨0,[]⟩) (.mk [0] [] zz12 zz13 rfl rfl rfl) ?_
 refine .regionL [0,1,2,3,4,5,6,7,8,9] rfl zz0 ?_
 refine .rn [0,1,2,3,4] [5,6,7,8,9] ?_
 refine .split (t := 9) rfl (fun c9 => ?_) (fun c9 => ?_)
 ·first | cases c9 | cases bnt c9 | cases bnf c9 | try rw [c9]
  try simp at c9
  refine .rn [5,6,7,8,9] [] ?_
  refine .done (.condT rfl (.seq (.rn ?_)))
  refine .ret ?_
  refine ⟨_, _, zz2,zz2, ?_⟩
  rw [decide_eq_false (fun h => by have := h.1; omega)]
 ·first | cases c9 | cases bnt c9 | cases bnf c9 | try rw [c9]
  try simp at c9
  refine .rn [5,6,7,8,9] [] ?_
  refine .done ?_
  refine .condS rfl (fun c14 => ?_) (fun c14 => ?_)
  ·try simp at c14
   refine .seq (.rn ?_)
   refine .ret ?_
   refine ⟨_, _, zz2,zz2, ?_⟩
   rw [decide_eq_false (fun h => by have := h.2.1; omega)]
  ·try simp at c14
   refine .skip (.seq ?_)
   refine .regionL [0,1,2,3,4,5,6] rfl zz0 ?_
   refine .rn [0] [1,2,3,4,5,6] ?_
   refine .pc rfl rfl rfl rfl rfl Tryz.call16 (p16 R (by omega) (by omega)) ?_
   refine .rn [2,3,4,5,6] [] ?_
   refine .done (.seq (.rn ?_))
   refine .ret ?_
   refine ⟨_, _, zz2,zz2, ?_⟩
   exact congrArg PV.bool (decide_eq_decide.2 ⟨fun h => ⟨by omega, by omega, h⟩, fun h => h.2.2⟩)
theorem p4w (hs : VPure Tryz.prog 15 [] fun r => r = .bool true) (R : Reg) (a : Nat) (ha : a < 65536) (hl1 : R.ps.length < 4611686018427387904) (hl2 : R.ts.length < 4611686018427387904) : VPure Tryz.prog 4 [encR R, .int .u16 a] fun r => r = .bool true := by
 refine .of_body Tryz.func4 rfl rfl ?_
 refine .seq (.rn ?_)
 refine .seq (.seq ?_)
 refine .rec (vts2 := [(1, .int .u16 a),(2, .vp [ints R.ps, .int .i64 R.sc, turns R.ts])]) (vh2 := ⟨0,[]⟩) (.mk [0] [] zz12 zz13 rfl rfl rfl) ?_
 have hday := tmod_day a ha
 refine .regionL [0,1,2] rfl zz0 ?_
 refine .rn [0] [1,2] ?_
 refine .pc rfl rfl rfl rfl rfl Tryz.call28 (p28 R hl1 hl2) ?_
 refine .rn [2] [] ?_
 refine .done ?_
 refine .condS rfl (fun c29 => ?_) (fun c29 => ?_)
 ·try simp at c29
  refine .seq ?_
  refine .regionL [0,1] rfl zz0 ?_
  refine .pc rfl rfl rfl rfl rfl Tryz.call15 (hs) ?_
  refine .rn [1] [] ?_
  refine .done (.ret ?_)
  refine ⟨_, _, zz2,zz2, ?_⟩
  first | rfl | (simp [*]; done) | (simp_all; done)
 ·try simp at c29
  have hh := hand_of c29.2.2 (dayI_b a)
  have heb := dayI_b a
  obtain ⟨e, he⟩ : ∃ e, dayI a = e := ⟨_, rfl⟩
  rw [he] at hday hh heb
  obtain ⟨H, hH⟩ : ∃ H, heldL (behD R e) = H := ⟨_, rfl⟩
  obtain ⟨F, hF⟩ : ∃ F, (R.ps.filter fun id => !(alk (behD R e).y id).isSome) = F := ⟨_, rfl⟩
  obtain ⟨Y, hY⟩ : ∃ Y, (behD R e).y = Y := ⟨_, rfl⟩
  obtain ⟨Q, hQ⟩ : ∃ Q, (behD R e).line = Q := ⟨_, rfl⟩
  rw [hH, hF, hY, hQ] at hh
  have hon := hh.on
  have hm1 : R.ps.length < 4294967296 := by have := c29.2.1; omega
  have hm2 : R.ts.length < 4294967296 := by have := c29.1; omega
  have hHl : H.length < 1000 := by have := hh.ln; have := c29.2.1; omega
  have hFl : F.length < 1000 := by have := hh.ln; have := c29.2.1; omega
  refine .skip (.seq (.rn ?_))
  refine .seq ?_
  refine .regionL [0,1,2,3,4,5,6,7] rfl zz0 ?_
  refine .rn [0,1] [2,3,4,5,6,7] ?_
  refine .pc rfl rfl rfl rfl rfl Tryz.call18 (p18 R e hm1 hm2) ?_
  rw [hh.ho, hh.on]
  refine .rn [3,4,5,6,7] [] ?_
  refine .done (.seq ?_)
  refine .regionL [0,1,2,3,4,5,6,7] rfl zz0 ?_
  refine .rn [0,1] [2,3,4,5,6,7] ?_
  refine .pc rfl rfl rfl rfl rfl Tryz.call22 (p22 R e hm1 hm2) ?_
  rw [hh.fr, hh.on]
  refine .rn [3,4,5,6,7] [] ?_
  refine .done (.seq (.seq ?_))
  refine .regionL [0,1,2,3,4,5] rfl zz0 ?_
  refine .rn [0,1,2] [3,4,5] ?_
  refine .split (t := 48) rfl (fun c48 => ?_) (fun c48 => ?_)
  ·first | cases c48 | cases bnt c48 | cases bnf c48 | try rw [c48]
   try simp at c48
  ·first | cases c48 | cases bnt c48 | cases bnf c48 | try rw [c48]
   try simp at c48
   refine .rn [3,4,5] [] ?_
   refine .done ?_
   refine .condS rfl (fun c51 => ?_) (fun c51 => ?_)
   ·try simp at c51
   ·try simp at c51
    refine .skip (.seq (.rn ?_))
    refine .seq (.seq (.rn ?_))
    refine .block ?_
    refine .loopS (fun k : Nat => ([(2, .vp [ints R.ps, .int .i64 R.sc, turns R.ts]),(5, .int .i64 e),(6, helds H),(8, ints F),(10, .mapv 0),(11, .mapv 1),(54, .vec (H.map encHe)),(55, .int .i64 H.length),(56, .int .i64 k)], ⟨2,[(1, .map (mpG PV.bool (haL (H.take k)))),(0, .map (mpG (PV.int .i64) (byL (H.take k))))]⟩)) (fun k => k ≤ H.length) (fun k => H.length - k) 0 (by simp) (.mk [] [] zz8 zz9 rfl rfl rfl) ?_
    intro k hk
    simp only at hk ⊢
    refine .seq (.rn ?_)
    refine .seq ?_
    refine .condS rfl (fun c57 => ?_) (fun c57 => ?_)
    ·try simp at c57
     obtain ⟨u, hu⟩ : ∃ u, H[k] = u := ⟨_, rfl⟩
     have hB := byL_take H k c57 hh.ps
     have hA := haL_take H k c57 hh.ss
     rw [hu] at hB hA
     obtain ⟨hB1, hB2⟩ := hB
     obtain ⟨hA1, hA2⟩ := hA
     have hab := hh.ab u (hu ▸ List.getElem_mem c57)
     have hw2 := wr1 k
     have hw7 : IntKind.i64.wrap (u.a + 7) = u.a + 7 := wrap64 (by have := hab; omega) (by have := hab; omega)
     have hna : ¬ e < u.a := by omega
     have hnb : ¬ u.b < u.a + 7 := by omega
     refine .skip (.seq (.block (.seq (.rn ?_))))
     refine .seq (.seq (.rn ?_))
     refine .seq ?_
     refine .regionL [0,1,2,3,4,5,6,7,8,9,10,11,12,13,14,15,16,17,18,19,20] rfl zz0 ?_
     refine .rn [0,1] [2,3,4,5,6,7,8,9,10,11,12,13,14,15,16,17,18,19,20] ?_
     refine .split (t := 68) rfl (fun c68 => ?_) (fun c68 => ?_)
     ·first | cases c68 | cases bnt c68 | cases bnf c68 | try rw [c68]
      try simp at c68
     ·first | cases c68 | cases bnt c68 | cases bnf c68 | try rw [c68]
      try simp at c68
      refine .rn [2,3,4,5,6,7] [8,9,10,11,12,13,14,15,16,17,18,19,20] ?_
      refine .split (t := 74) rfl (fun c74 => ?_) (fun c74 => ?_)
      ·first | cases c74 | cases bnt c74 | cases bnf c74 | try rw [c74]
       try simp at c74
      ·first | cases c74 | cases bnt c74 | cases bnf c74 | try rw [c74]
       try simp at c74
       refine .rn [8,9,10,11,12,13] [14,15,16,17,18,19,20] ?_
       refine .split (t := 80) rfl (fun c80 => ?_) (fun c80 => ?_)
       ·first | cases c80 | cases bnt c80 | cases bnf c80 | try rw [c80]
        try simp at c80
       ·first | cases c80 | cases bnt c80 | cases bnf c80 | try rw [c80]
        try simp at c80
        refine .rn [14,15,16,17,18,19,20] [] ?_
        refine .done ?_
        refine .condS rfl (fun c87 => ?_) (fun c87 => ?_)
        ·try simp at c87
        ·try simp at c87
         refine .skip ?_
         refine .drawn (ms := [0,0,2,0,0,16,0,64,199,511]) (W := [8,9]) (items := [.op 0, .op 1, .op 2, .op 3, .op 4, .op 5, .op 6, .op 7, .op 8, .ck 5, .op 9]) rfl zz0 zz0 zz0 ?_
         refine .rx ?_
         refine .rx ?_
         refine .rx ?_
         refine .rx ?_
         refine .rx ?_
         refine .rx ?_
         refine .rx ?_
         refine .rx ?_
         refine .wr rfl rfl (by decide) (.mput (todo' := [5]) rfl rfl rfl rfl zz1 rfl (⟨⟨by decide +kernel, _, _, rfl, zz1⟩, trivial⟩) ?_)
         refine .ck rfl zz0 ?_
         refine .wv ?_
         refine .done (.rn ?_)
         refine ⟨k + 1,zz3,zz3,(.mk [] [] zz8 zz9 rfl rfl rfl)⟩
    ·try simp at c57
     have hkn : k = H.length := by omega
     subst hkn
     have hwl : IntKind.i64.wrap ((H.length : Int) + (F.length : Int)) = (H.length : Int) + (F.length : Int) := wrap64 (by omega) (by omega)
     have hln : (H.length : Int) + (F.length : Int) = (R.ps.length : Int) := by have := hh.ln; omega
     refine .exit (.seq (.seq (.rn ?_)))
     refine .condS rfl (fun c105 => ?_) (fun c105 => ?_)
     ·try simp at c105
      exfalso; have := hh.ln; omega
     ·try simp at c105
      refine .skip (.seq (.seq (.rn ?_)))
      refine .block ?_
      refine .loopS (fun k : Nat => ([(2, .vp [ints R.ps, .int .i64 R.sc, turns R.ts]),(5, .int .i64 e),(8, ints F),(10, .mapv 0),(107, ints R.ps),(108, .int .i64 R.ps.length),(109, .int .i64 k)], ⟨1,[(0, .map (mpG (PV.int .i64) (byL H)))]⟩)) (fun k => k ≤ R.ps.length) (fun k => R.ps.length - k) 0 (by simp) (.mk [] [] zz8 zz9 rfl rfl rfl) ?_
      intro k hk
      simp only at hk ⊢
      refine .seq (.rn ?_)
      refine .seq ?_
      refine .condS rfl (fun c110 => ?_) (fun c110 => ?_)
      ·try simp at c110
       obtain ⟨p, hp⟩ : ∃ p, R.ps[k] = p := ⟨_, rfl⟩
       have hpm : p ∈ R.ps := hp ▸ List.getElem_mem c110
       have hw2 := wr1 k
       have hwh := hh.wh p hpm
       have hwa := hh.wa p hpm
       have hfm := hh.fm p hpm
       have hby := hh.by_ p
       have hql := hh.ql p
       have hnd := hh.nd p
       have hhw := hh.hw p
       obtain ⟨W, hW⟩ : ∃ W, Q p = W := ⟨_, rfl⟩
       rw [hW] at hwa hql hnd hhw
       obtain ⟨o, ho⟩ : ∃ o, alk Y p = o := ⟨_, rfl⟩
       rw [ho] at hwh hfm hby hhw
       rcases o with _ | s
       ·skip
        refine .skip (.seq (.block (.seq (.rn ?_))))
        refine .seq ?_
        refine .regionL [0,1,2,3,4,5,6,7,8,9,10] rfl zz0 ?_
        refine .rn [0,1,2] [3,4,5,6,7,8,9,10] ?_
        refine .pc rfl rfl rfl rfl rfl Tryz.call20 (p20 R p e hm1 hm2) ?_
        rw [hwh]
        refine .rn [4,5,6,7,8,9,10] [] ?_
        refine .done (.seq (.rn ?_))
        refine .seq (.seq ?_)
        refine .regionL [0,1,2,3,4,5,6,7,8,9,10,11,12,13,14,15,16,17,18] rfl zz0 ?_
        refine .rn [0,1,2] [3,4,5,6,7,8,9,10,11,12,13,14,15,16,17,18] ?_
        refine .split (t := 129) rfl (fun c129 => ?_) (fun c129 => ?_)
        ·first | cases c129 | cases bnt c129 | cases bnf c129 | try rw [c129]
         try simp at c129
        ·first | cases c129 | cases bnt c129 | cases bnf c129 | try rw [c129]
         try simp at c129
         refine .rn [3,4,5,6,7] [8,9,10,11,12,13,14,15,16,17,18] ?_
         refine .split (t := 134) rfl (fun c134 => ?_) (fun c134 => ?_)
         ·first | cases c134 | cases bnt c134 | cases bnf c134 | try rw [c134]
          try simp at c134
         ·first | cases c134 | cases bnt c134 | cases bnf c134 | try rw [c134]
          try simp at c134
          refine .rn [8,9,10,11,12] [13,14,15,16,17,18] ?_
          refine .split (t := 139) rfl (fun c139 => ?_) (fun c139 => ?_)
          ·first | cases c139 | cases bnt c139 | cases bnf c139 | try rw [c139]
           try simp at c139
          ·first | cases c139 | cases bnt c139 | cases bnf c139 | try rw [c139]
           try simp at c139
           refine .rn [13,14,15] [16,17,18] ?_
           refine .pc rfl rfl rfl rfl rfl Tryz.call29 (p29 F p (by omega)) ?_
           rw [hfm]
           refine .rn [17,18] [] ?_
           refine .done ?_
           refine .condS rfl (fun c145 => ?_) (fun c145 => ?_)
           ·try simp at c145
           ·try simp at c145
            refine .skip (.seq ?_)
            refine .regionL [0,1,2,3,4,5,6,7,8] rfl zz0 ?_
            refine .rn [0,1,2] [3,4,5,6,7,8] ?_
            refine .pc rfl rfl rfl rfl rfl Tryz.call24 (p24 R p e hm1 hm2) ?_
            rw [hwa]
            refine .rn [4,5,6,7,8] [] ?_
            refine .done (.seq (.seq ?_))
            refine .regionL [0,1,2,3,4,5,6,7,8,9] rfl zz0 ?_
            refine .rn [0,1,2] [3,4,5,6,7,8,9] ?_
            refine .split (t := 155) rfl (fun c155 => ?_) (fun c155 => ?_)
            ·first | cases c155 | cases bnt c155 | cases bnf c155 | try rw [c155]
             try simp at c155
            ·first | cases c155 | cases bnt c155 | cases bnf c155 | try rw [c155]
             try simp at c155
             refine .rn [3,4] [5,6,7,8,9] ?_
             refine .split (t := 157) rfl (fun c157 => ?_) (fun c157 => ?_)
             ·first | cases c157 | cases bnt c157 | cases bnf c157 | try rw [c157]
              try simp at c157
             ·first | cases c157 | cases bnt c157 | cases bnf c157 | try rw [c157]
              try simp at c157
              refine .rn [5,6,7,8,9] [] ?_
              refine .done (.condF rfl (.skip (.seq (.rn ?_))))
              refine .block ?_
              refine .loopS (fun j : Nat => ([(2, .vp [ints R.ps, .int .i64 R.sc, turns R.ts]),(5, .int .i64 e),(8, ints F),(10, .mapv 0),(23, ints W),(107, ints R.ps),(108, .int .i64 R.ps.length),(109, .int .i64 k),(163, ints W),(164, .int .i64 W.length),(165, .int .i64 j)], ⟨1,[(0, .map (mpG (PV.int .i64) (byL H)))]⟩)) (fun j => j ≤ W.length) (fun j => W.length - j) 0 (by simp) (.mk [] [] zz8 zz9 rfl rfl rfl) ?_
              intro j hj
              simp only at hj ⊢
              refine .seq (.rn ?_)
              refine .seq ?_
              refine .condS rfl (fun c166 => ?_) (fun c166 => ?_)
              ·try simp at c166
               have hwj := wr1 j
               have hjn : W[j] ∉ W.take j := fun hm => by
                obtain ⟨i, hi, he⟩ := List.mem_iff_getElem.1 hm
                simp only [List.length_take] at hi
                rw [List.getElem_take] at he
                exact List.pairwise_iff_getElem.1 hnd i j (by omega) c166 (by omega) he
               refine .skip (.seq (.block (.seq (.rn ?_))))
               refine .seq ?_
               refine .regionL [0,1,2,3,4] rfl zz0 ?_
               refine .rn [0,1,2,3] [4] ?_
               refine .pc rfl rfl rfl rfl rfl Tryz.call29 (p29t W j W[j] (by omega)) ?_
               rw [decide_eq_false hjn]
               refine .done ?_
               refine .condS rfl (fun c174 => ?_) (fun c174 => ?_)
               ·try simp at c174
               ·try simp at c174
                refine .skip (.rn ?_)
                refine ⟨j + 1,zz3,zz3,(.mk [] [] zz8 zz9 rfl rfl rfl)⟩
              ·try simp at c166
               refine .exit (.rn ?_)
               refine ⟨k + 1,zz3,zz3,(.mk [] [] zz8 zz9 rfl rfl rfl)⟩
       ·skip
        refine .skip (.seq (.block (.seq (.rn ?_))))
        refine .seq ?_
        refine .regionL [0,1,2,3,4,5,6,7,8,9,10] rfl zz0 ?_
        refine .rn [0,1,2] [3,4,5,6,7,8,9,10] ?_
        refine .pc rfl rfl rfl rfl rfl Tryz.call20 (p20 R p e hm1 hm2) ?_
        rw [hwh]
        refine .rn [4,5,6,7,8,9,10] [] ?_
        refine .done (.seq (.rn ?_))
        refine .seq (.seq ?_)
        refine .regionL [0,1,2,3,4,5,6,7,8,9,10,11,12,13,14,15,16,17,18] rfl zz0 ?_
        refine .rn [0,1,2] [3,4,5,6,7,8,9,10,11,12,13,14,15,16,17,18] ?_
        refine .split (t := 129) rfl (fun c129 => ?_) (fun c129 => ?_)
        ·first | cases c129 | cases bnt c129 | cases bnf c129 | try rw [c129]
         try simp at c129
        ·first | cases c129 | cases bnt c129 | cases bnf c129 | try rw [c129]
         try simp at c129
         refine .rn [3,4,5,6,7] [8,9,10,11,12,13,14,15,16,17,18] ?_
         refine .split (t := 134) rfl (fun c134 => ?_) (fun c134 => ?_)
         ·first | cases c134 | cases bnt c134 | cases bnf c134 | try rw [c134]
          try simp at c134
         ·first | cases c134 | cases bnt c134 | cases bnf c134 | try rw [c134]
          try simp at c134
          refine .rn [8,9,10,11,12] [13,14,15,16,17,18] ?_
          refine .split (t := 139) rfl (fun c139 => ?_) (fun c139 => ?_)
          ·first | cases c139 | cases bnt c139 | cases bnf c139 | try rw [c139]
           try simp at c139
          ·first | cases c139 | cases bnt c139 | cases bnf c139 | try rw [c139]
           try simp at c139
           refine .rn [13,14,15] [16,17,18] ?_
           refine .pc rfl rfl rfl rfl rfl Tryz.call29 (p29 F p (by omega)) ?_
           rw [hfm]
           refine .rn [17,18] [] ?_
           refine .done ?_
           refine .condS rfl (fun c145 => ?_) (fun c145 => ?_)
           ·try simp at c145
           ·try simp at c145
            refine .skip (.seq ?_)
            refine .regionL [0,1,2,3,4,5,6,7,8] rfl zz0 ?_
            refine .rn [0,1,2] [3,4,5,6,7,8] ?_
            refine .pc rfl rfl rfl rfl rfl Tryz.call24 (p24 R p e hm1 hm2) ?_
            rw [hwa]
            refine .rn [4,5,6,7,8] [] ?_
            refine .done (.seq (.seq ?_))
            refine .regionL [0,1,2,3,4,5,6,7,8,9] rfl zz0 ?_
            refine .rn [0,1,2] [3,4,5,6,7,8,9] ?_
            refine .split (t := 155) rfl (fun c155 => ?_) (fun c155 => ?_)
            ·first | cases c155 | cases bnt c155 | cases bnf c155 | try rw [c155]
             try simp at c155
            ·first | cases c155 | cases bnt c155 | cases bnf c155 | try rw [c155]
             try simp at c155
             refine .rn [3,4] [5,6,7,8,9] ?_
             refine .split (t := 157) rfl (fun c157 => ?_) (fun c157 => ?_)
             ·first | cases c157 | cases bnt c157 | cases bnf c157 | try rw [c157]
              try simp at c157
              refine .rn [5,6] [7,8,9] ?_
              refine .pc rfl rfl rfl rfl rfl Tryz.call29 (p29 W s (by omega)) ?_
              rw [decide_eq_false (hhw s rfl)]
              refine .rn [8,9] [] ?_
              refine .done ?_
              refine .condS rfl (fun c162 => ?_) (fun c162 => ?_)
              ·try simp at c162
              ·try simp at c162
               refine .skip (.seq (.rn ?_))
               refine .block ?_
               refine .loopS (fun j : Nat => ([(2, .vp [ints R.ps, .int .i64 R.sc, turns R.ts]),(5, .int .i64 e),(8, ints F),(10, .mapv 0),(23, ints W),(107, ints R.ps),(108, .int .i64 R.ps.length),(109, .int .i64 k),(163, ints W),(164, .int .i64 W.length),(165, .int .i64 j)], ⟨1,[(0, .map (mpG (PV.int .i64) (byL H)))]⟩)) (fun j => j ≤ W.length) (fun j => W.length - j) 0 (by simp) (.mk [] [] zz8 zz9 rfl rfl rfl) ?_
               intro j hj
               simp only at hj ⊢
               refine .seq (.rn ?_)
               refine .seq ?_
               refine .condS rfl (fun c166 => ?_) (fun c166 => ?_)
               ·try simp at c166
                have hwj := wr1 j
                have hjn : W[j] ∉ W.take j := fun hm => by
                 obtain ⟨i, hi, he⟩ := List.mem_iff_getElem.1 hm
                 simp only [List.length_take] at hi
                 rw [List.getElem_take] at he
                 exact List.pairwise_iff_getElem.1 hnd i j (by omega) c166 (by omega) he
                refine .skip (.seq (.block (.seq (.rn ?_))))
                refine .seq ?_
                refine .regionL [0,1,2,3,4] rfl zz0 ?_
                refine .rn [0,1,2,3] [4] ?_
                refine .pc rfl rfl rfl rfl rfl Tryz.call29 (p29t W j W[j] (by omega)) ?_
                rw [decide_eq_false hjn]
                refine .done ?_
                refine .condS rfl (fun c174 => ?_) (fun c174 => ?_)
                ·try simp at c174
                ·try simp at c174
                 refine .skip (.rn ?_)
                 refine ⟨j + 1,zz3,zz3,(.mk [] [] zz8 zz9 rfl rfl rfl)⟩
               ·try simp at c166
                refine .exit (.rn ?_)
                refine ⟨k + 1,zz3,zz3,(.mk [] [] zz8 zz9 rfl rfl rfl)⟩
             ·first | cases c157 | cases bnt c157 | cases bnf c157 | try rw [c157]
              try simp at c157
      ·try simp at c110
       refine .exit (.seq ?_)
       refine .regionL [0,1] rfl zz0 ?_
       refine .pc rfl rfl rfl rfl rfl Tryz.call15 (hs) ?_
       refine .rn [1] [] ?_
       refine .done (.ret ?_)
       refine ⟨_, _, zz2,zz2, ?_⟩
       first | rfl | (simp [*]; done) | (simp_all; done)
theorem p4 (R : Reg) (a : Nat) (hR : R.ps.length < inex ∧ R.ts.length < inex) (ha : a < 65536) : VPure Tryz.prog 4 [encR R, .int .u16 a] fun r => r = .bool true := p4w p15 R a ha hR.1 hR.2
end Go.Am.Hi
end
