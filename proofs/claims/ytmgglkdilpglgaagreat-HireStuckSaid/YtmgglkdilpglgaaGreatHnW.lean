/-
 What is used in the proof of a statement (part HnW); no condition.
-/
import Derived.Test.YtmgglkdilpglgaaGreatHiZ
import Derived.Test.YtmgglkdilpglgaaGreatVm2
import Derived.Test.YtmgglkdilpglgaaGreatHiT
import Derived.Test.YtmgglkdilpglgaaGreatHmC
import Derived.Test.YtmgglkdilpglgaaGreatHmA
import Derived.Test.YtmgglkdilpglgaaGreatHiS
set_option linter.all false
set_option maxHeartbeats 40000000
set_option maxRecDepth 100000
section
namespace Go.Am.Hi
open Go Go.Am Go.Proofs
attribute [local simp] vrun vwanted vyielded vop vopA vputAll VHeap.back hidI hidF backL bm Nat.testBit_eq_decide_div_mod_eq veval vevals vparts vO vbuiltin vlen vappend velems vcopy vmakeSlice vbuildSlice valloc vbox vmakeMap vload vpartT vpart vstore vfieldAddr vfield vindexAddr vindex vextract vslice vsliceZ vbounds vbnd zeroO vidx vlookup vmget vmapUpdate vdelete vclear vnilq vnilp vnils vbin vsc vsc1 vscs vscl abinOp aint ashift aunOp aconvert amaxs amax2 pvcV pvc pvcs tput tget vargs VHeap.get VHeap.alloc VHeap.put VHeap.drop VHeap.empty vlook vput vdrop psplice pfill preps chunk List.range List.range.loop vresults vresult vresultV frz frzL PV.isF PV.allF PV.scal PV.allS retP subT allFT PV.one PV.ids PV.idsL dropL beq_eq ble_dec blt_dec
attribute [local simp] pfind_mpG pmset_mpG pkeep_mpG
def rightP (R : Reg) : Prop := R.ts.length ≤ 60 ∧ R.ps.length ≤ 24 ∧ (chkR R).1 = 0
instance (R : Reg) : Decidable (rightP R) := by unfold rightP; infer_instance
def dayI (a : Nat) : Int := ((a % 731 : Nat) : Int)
theorem tmod_day (a : Nat) (ha : a < 65536) : (IntKind.i64.wrap (a : Int)).tmod 731 = dayI a := by
 have e2 : IntKind.i64.wrap (a : Int) = (a : Int) := wrap64 (by omega) (by omega)
 rw [e2]
 exact Int.ofNat_tmod a 731
theorem dayI_b (a : Nat) : 0 ≤ dayI a ∧ dayI a ≤ 730 := by unfold dayI; omega
structure Hand (R : Reg) (e : Int) (H : List He) (F : List Int) (Y : List (Int × Int)) (Q : Int → List Int) : Prop where
  ho : holdV R e = helds H
  fr : freeV R e = ints F
  on : onE R e = 0
  by_ : ∀ p, alk (byL H) p = alk Y p
  ps : (H.map (·.p)).Nodup
  ss : (H.map (·.s)).Nodup
  ab : ∀ u ∈ H, 0 ≤ u.a ∧ u.a ≤ e ∧ u.a + 7 ≤ u.b
  ln : H.length + F.length = R.ps.length
  wh : ∀ p ∈ R.ps, wherT R p e = ((alk Y p).getD 0,(alk Y p).isSome, 0)
  fm : ∀ p ∈ R.ps, decide (p ∈ F) = !(alk Y p).isSome
  wa : ∀ p ∈ R.ps, waitT R p e = (ints (Q p),0)
  hw : ∀ p s, alk Y p = some s → s ∉ Q p
  nd : ∀ p, (Q p).Nodup
  ql : ∀ p, (Q p).length ≤ 120
theorem hand_of {R : Reg} (h : (chkR R).1 = 0) {e : Int} (h0 : 0 ≤ e ∧ e ≤ 730) : Hand R e (heldL (behD R e)) (R.ps.filter fun id => !(alk (behD R e).y id).isSome) (behD R e).y (behD R e).line := by
 have hon : onE R e = 0 := by unfold onE; rw [if_pos h, if_pos h0]
 have hb := beh_ok h e
 have h4 := beh4 h h0.1
 have hr := regE_bounds (chk_ok h).1
 have hpie : ∀ p ∈ R.ps, pieE R p = 0 := fun p hp => by unfold pieE; rw [if_pos h, if_pos hp]
 refine ⟨by unfold holdV; rw [if_pos hon], by unfold freeV; rw [if_pos hon], hon, byL_eq hb.1 hb.2, heldL_ps hb.1 hb.2, by rw [heldL_s hb.1]; exact sortK_nodup hb.2, fun u hu => ?_, held_free hb.1 hb.2 h4.1 hr.2.2.2.2.2.2, fun p hp => ?_, fun p hp => ?_, fun p hp => ?_, h4.1.hw, h4.1.nd, hb.1.line⟩
 ·have := h4.1.ab _ _ ((heldL_in hb.1).1 hu)
  have := h4.2
  omega
 ·unfold wherT; rw [if_pos (hpie p hp), if_pos hon]
 ·rw [Bool.eq_iff_iff]; simp [List.mem_filter, hp]
 ·unfold waitT; rw [if_pos (hpie p hp), if_pos hon]
theorem p28 (R : Reg) (hl1 : R.ps.length < 4611686018427387904) (hl2 : R.ts.length < 4611686018427387904) : VPure Tryz.prog 28 [encR R] fun r => r = .bool (decide (rightP R)) := by
 unfold encR
 refine .of_body Tryz.func28 rfl rfl ?_
 refine .seq (.rn ?_)
 refine .seq (.seq ?_)
 refine .rec (vts2 := [(1, .vp [ints R.ps, .int .i64 R.sc, turns R.ts])]) (vh2 := ⟨0,[]⟩) (.mk [0] [] zz10 zz11 rfl rfl rfl) ?_
 refine .regionL [0,1,2,3,4,5,6,7,8,9] rfl zz0 ?_
 refine .rn [0,1,2,3,4] [5,6,7,8,9] ?_
 refine .split (t := 9) rfl (fun c9 => ?_) (fun c9 => ?_)
 ·first | cases c9 | cases bnt c9 | cases bnf c9 | try rw [c9]
  try simp at c9
  refine .rn [5,6,7,8,9] [] ?_
  refine .done (.condT rfl (.seq (.rn ?_)))
  refine .ret ?_
  refine ⟨_, _, zz2,zz2, ?_⟩
  rw [decide_eq_false (fun h => by have := h.1; omega)]
 ·first | cases c9 | cases bnt c9 | cases bnf c9 | try rw [c9]
  try simp at c9
  refine .rn [5,6,7,8,9] [] ?_
  refine .done ?_
  refine .condS rfl (fun c14 => ?_) (fun c14 => ?_)
  ·try simp at c14
   refine .seq (.rn ?_)
   refine .ret ?_
   refine ⟨_, _, zz2,zz2, ?_⟩
   rw [decide_eq_false (fun h => by have := h.2.1; omega)]
  ·try simp at c14
   refine .skip (.seq ?_)
   refine .regionL [0,1,2,3,4,5,6] rfl zz0 ?_
   refine .rn [0] [1,2,3,4,5,6] ?_
   refine .pc rfl rfl rfl rfl rfl Tryz.call16 (p16 R (by omega) (by omega)) ?_
   refine .rn [2,3,4,5,6] [] ?_
   refine .done (.seq (.rn ?_))
   refine .ret ?_
   refine ⟨_, _, zz2,zz2, ?_⟩
   exact congrArg PV.bool (decide_eq_decide.2 ⟨fun h => ⟨by omega, by omega, h⟩, fun h => h.2.2⟩)
attribute [local simp] pfind_mpG pmset_mpG pkeep_mpG
def waitB (D : Dk) (ps : List Int) (s : Int) (is : Int → Bool) : Bool := (ps.all fun p => !decide (s ∈ D.line p) || (match alk D.y p with | some b => is b | none => false)) && ((ps.any fun p => decide (s ∈ D.line p)) && (alk D.x s).isSome)
theorem waitB_iff {D : Dk} {ps : List Int} {s : Int} {is : Int → Bool} : waitB D ps s is = true ↔ (∀ p ∈ ps, s ∈ D.line p → ∃ b, alk D.y p = some b ∧ is b = true) ∧ (∃ p ∈ ps, s ∈ D.line p) ∧ ∃ u, alk D.x s = some u := by
 unfold waitB
 rw [Bool.and_eq_true, Bool.and_eq_true, List.all_eq_true, List.any_eq_true, Option.isSome_iff_exists]
 refine and_congr ⟨fun h p hp hm => ?_, fun h p hp => ?_⟩ (and_congr ⟨fun ⟨p, hp, hm⟩ => ⟨p, hp, by simpa using hm⟩, fun ⟨p, hp, hm⟩ => ⟨p, hp, by simpa using hm⟩⟩ Iff.rfl)
 ·have := h p hp
  simp only [hm, decide_true, Bool.not_true, Bool.false_or] at this
  cases hb : alk D.y p with
  | none => rw [hb] at this; cases this
  | some b => rw [hb] at this; exact ⟨b, rfl, this⟩
 ·by_cases hm : s ∈ D.line p
  ·obtain ⟨b, hb, hi⟩ := h p hp hm
   simp [hb, hi]
  ·simp [hm]
theorem waitB_no {D : Dk} {ps : List Int} {s : Int} {is : Int → Bool} {p : Int} (hp : p ∈ ps) (hm : s ∈ D.line p) (hn : ∀ b, alk D.y p = some b → is b = false) : waitB D ps s is = false := by
 cases h : waitB D ps s is with
 | false => rfl
 | true =>
  obtain ⟨b, hb, hi⟩ := (waitB_iff.1 h).1 p hp hm
  rw [hn b hb] at hi; cases hi
theorem waitB_end {D : Dk} {ps : List Int} {s : Int} {is : Int → Bool} (h : ∀ p ∈ ps, s ∈ D.line p → ∃ b, alk D.y p = some b ∧ is b = true) : waitB D ps s is = ((ps.any fun p => decide (s ∈ D.line p)) && (alk D.x s).isSome) := by
 unfold waitB
 rw [show (ps.all fun p => !decide (s ∈ D.line p) || (match alk D.y p with | some b => is b | none => false)) = true from ?_, Bool.true_and]
 rw [List.all_eq_true]
 intro p hp
 by_cases hm : s ∈ D.line p
 ·obtain ⟨b, hb, hi⟩ := h p hp hm
  simp [hb, hi]
 ·simp [hm]
theorem p123 (D : Dk) (s : Int) : VPure Tryz.prog 123 [dkD D, .int .i64 s] fun r => r = .bool (alk D.x s).isSome := by
 refine .of_body Tryz.func123 rfl rfl ?_
 refine .seq (.rn ?_)
 refine .seq ?_
 refine .regionL [0,1,2,3,4,5,6,7,8] rfl zz0 ?_
 refine .rn [0,1] [2,3,4,5,6,7,8] ?_
 refine .pc rfl rfl rfl rfl rfl Tryz.call158 (p158 D.d s D.x D.y D.q) ?_
 refine .rn [3,4,5,6,7,8] [] ?_
 refine .done (.seq (.rn ?_))
 refine .ret ?_
 refine ⟨_, _, zz2,zz2, ?_⟩
 first | rfl | (simp [*]; done) | (simp_all; done)
theorem p127 (D : Dk) (R : Reg) (s : Int) (is : Int → Bool) (f : FuncId) (xs ys : List PV) (hl : R.ps.length < 4294967296) (hq : ∀ p l, alk D.q p = some l → l.length < 4294967296) (hx : PV.allF xs = true) (hy : PV.allF ys = true) (hcf : ∀ cs w, (callFunc f cs).run Tryz.prog w = .ok (.enter f cs) w) (hp : ∀ n, VPure Tryz.prog f (xs ++ [.int .i64 n] ++ ys) fun r => r = .bool (is n)) : VPure Tryz.prog 127 [dkD D, encR R, .int .i64 s, .func f xs ys] fun r => r = .bool (waitB D R.ps s is) := by
 unfold encR
 have hdk : dkD D = .vp [.int .i64 D.d, .vmap (mpG encHe D.x), .vmap (mpG (PV.int .i64) D.y), .vmap (mpG ints D.q)] := rfl
 refine .of_body Tryz.func127 rfl rfl ?_
 refine .seq (.rn ?_)
 refine .seq (.rn ?_)
 refine .seq (.seq (.rn ?_))
 refine .block ?_
 refine .loopS (fun k : Nat => ([(0, dkD D),(2, .int .i64 s),(3, .func f xs ys),(9, .bool ((R.ps.take k).any fun p => decide (s ∈ D.line p))),(15, ints R.ps),(16, .int .i64 R.ps.length),(17, .int .i64 k)], ⟨0,[]⟩)) (fun k => k ≤ R.ps.length ∧ ∀ p ∈ R.ps.take k, s ∈ D.line p → ∃ b, alk D.y p = some b ∧ is b = true) (fun k => R.ps.length - k) 0 ⟨by simp, by simp⟩ (.mk [] [] zz8 zz9 rfl rfl rfl) ?_
 rintro k ⟨hk, hr⟩
 simp only at hk hr ⊢
 refine .seq (.rn ?_)
 refine .seq ?_
 refine .condS rfl (fun c18 => ?_) (fun c18 => ?_)
 ·try simp at c18
  have hw2 := wr1 k
  obtain ⟨p, hpe⟩ : ∃ p, R.ps[k] = p := ⟨_, rfl⟩
  have hpm : p ∈ R.ps := hpe ▸ List.getElem_mem c18
  have htk : R.ps.take (k + 1) = R.ps.take k ++ [p] := by rw [List.take_succ_eq_append_getElem c18, hpe]
  obtain ⟨o, ho⟩ : ∃ o, alk D.y p = o := ⟨_, rfl⟩
  refine .skip (.seq (.block (.seq (.rn ?_))))
  refine .seq (.seq ?_)
  refine .regionL [0,1,2,3,4] rfl zz0 ?_
  refine .rn [0,1,2] [3,4] ?_
  refine .pc rfl rfl rfl rfl rfl Tryz.call160 (p160 D.d s p D.x D.y D.q (hq p)) ?_
  have hln : (alk D.q p).getD [] = D.line p := rfl
  rw [hln]
  refine .rn [4] [] ?_
  refine .done ?_
  refine .condS rfl (fun c25 => ?_) (fun c25 => ?_)
  ·try simp at c25
   refine .exit (.rn ?_)
   refine ⟨k + 1, ⟨zz3, fun p' hp' => ?_⟩, zz3,(.mk [] [] zz8 zz9 rfl rfl rfl)⟩
   rw [htk] at hp'
   rcases List.mem_append.1 hp' with h | h
   ·exact hr p' h
   ·have : p' = p := by simpa using h
    subst this; exact fun hm => absurd hm c25
  ·try simp at c25
   rcases o with _ | b
   ·skip
    refine .skip (.seq (.rn ?_))
    refine .seq (.rn ?_)
    refine .seq ?_
    refine .regionL [0,1,2,3,4,5,6,7] rfl zz0 ?_
    refine .rn [0,1,2] [3,4,5,6,7] ?_
    refine .split (t := 37) rfl (fun c37 => ?_) (fun c37 => ?_)
    ·try rw [c37]
     try simp at c37
     refine .rn [3,4,5,6,7] [] ?_
     refine .done (.condT rfl (.seq (.rn ?_)))
     refine .ret ?_
     refine ⟨_, _, zz2,zz2, ?_⟩
     exact congrArg PV.bool (waitB_no hpm c25 fun b hb => by rw [ho] at hb; cases hb).symm
    ·try rw [c37]
     try simp at c37
   ·skip
    refine .skip (.seq (.rn ?_))
    refine .seq (.rn ?_)
    refine .seq ?_
    refine .regionL [0,1,2,3,4,5,6,7] rfl zz0 ?_
    refine .rn [0,1,2] [3,4,5,6,7] ?_
    refine .split (t := 37) rfl (fun c37 => ?_) (fun c37 => ?_)
    ·try rw [c37]
     try simp at c37
    ·try rw [c37]
     try simp at c37
     refine .rn [3,4] [5,6,7] ?_
     refine .step rfl rfl (.pure rfl rfl rfl hcf (by decide) (hp b) (by first | rfl | simp [*]) ?_)
     rintro _ rfl
     refine .rn [6,7] [] ?_
     refine .done ?_
     refine .condS rfl (fun c42 => ?_) (fun c42 => ?_)
     ·try simp at c42
      refine .seq (.rn ?_)
      refine .ret ?_
      refine ⟨_, _, zz2,zz2, ?_⟩
      exact congrArg PV.bool (waitB_no hpm c25 fun b' hb => by rw [ho] at hb; injection hb with hb; subst hb; simpa using c42).symm
     ·try simp at c42
      refine .skip (.rn ?_)
      refine ⟨k + 1, ⟨zz3, fun p' hp' => ?_⟩, zz3,(.mk [] [] zz8 zz9 rfl rfl rfl)⟩
      rw [htk] at hp'
      rcases List.mem_append.1 hp' with h | h
      ·exact hr p' h
      ·have : p' = p := by simpa using h
       subst this; exact fun _ => ⟨b, ho, by simpa using c42⟩
 ·try simp at c18
  have hkn : k = R.ps.length := by omega
  rw [hkn, List.take_length] at hr
  have hE := waitB_end hr
  refine .exit (.seq ?_)
  refine .regionL [0,1,2,3,4,5,6] rfl zz0 ?_
  refine .rn [0,1] [2,3,4,5,6] ?_
  refine .split (t := 45) rfl (fun c45 => ?_) (fun c45 => ?_)
  ·try rw [c45]
   try simp at c45
   refine .rn [2,3] [4,5,6] ?_
   refine .pc rfl rfl rfl rfl rfl Tryz.call123 (p123 D s) ?_
   refine .rn [5,6] [] ?_
   refine .done (.ret ?_)
   refine ⟨_, _, zz2,zz2, ?_⟩
   rw [hE]; simp_all
  ·try rw [c45]
   try simp at c45
   refine .rn [2,3,4,5,6] [] ?_
   refine .done (.ret ?_)
   refine ⟨_, _, zz2,zz2, ?_⟩
   rw [hE]; simp_all
attribute [local simp] pfind_mpG pmset_mpG pkeep_mpG
theorem p93l (l : List Int) (p : Int → Bool) (f : FuncId) (xs ys : List PV) (hl : l.length < 4294967296) (hne : 0 < l.length) (hx : PV.allF xs = true) (hy : PV.allF ys = true) (hcf : ∀ cs w, (callFunc f cs).run Tryz.prog w = .ok (.enter f cs) w) (hp : ∀ a ∈ l, VPure Tryz.prog f (xs ++ [.int .i64 a] ++ ys) fun r => r = .bool (p a)) : VCall Tryz.prog 93 [.sub 0 0 l.length, .func f xs ys] ⟨1,[(0, .arr false 1 (l.map (.int .i64)))]⟩ fun v vh' => ∃ m, ∃ cs : List Int, (v = .sub 0 0 m ∨ v = .vec [] ∧ m = 0) ∧ vh'.get 0 = some (.arr false 1 (cs.map (.int .i64))) ∧ (cs.take m = (l.filter fun a => !p a) ∧ m = (l.filter fun a => !p a).length ∧ m ≤ cs.length) := by
 have hl0 : ¬ l = [] := by rintro rfl; simp at hne
 have hxz : ∀ vh, frzL vh xs = some xs := fun vh => frzL_id vh hx
 have hyz : ∀ vh, frzL vh ys = some ys := fun vh => frzL_id vh hy
 refine .of_body Tryz.func93 rfl rfl ?_
 refine .seq (.rn ?_)
 refine .seq ?_
 refine .regionL [0,1,2,3] rfl zz0 ?_
 refine .rn [0,1] [2,3] ?_
 refine .step rfl rfl (.borrow rfl rfl rfl Tryz.call133 (by decide) (by first | (simp <;> rfl) | (simp [*] <;> rfl) | (simp [*]; done)) (p133 l p f xs ys (by omega) hx hy hcf hp) (by rintro _ rfl <;> first | (simp; done) | rfl) ?_)
 rintro _ rfl
 refine .rn [3] [] ?_
 refine .done (.seq (.seq (.rn ?_)))
 refine .condS rfl (fun c12 => ?_) (fun c12 => ?_)
 ·try simp at c12
  refine .seq (.rn ?_)
  refine .ret ?_
  refine ⟨_, zz2, l.length, l, .inl rfl, rfl, ?_⟩
  rw [idxF_neg p l 0 c12, List.take_length]
  exact ⟨rfl, rfl, Nat.le_refl _⟩
 ·try simp at c12
  obtain ⟨i0, hi0, hie, hp0, hbef⟩ := idxF_pos p l 0 c12
  rw [Nat.zero_add] at hie
  have hw1 := wr1 i0
  refine .skip (.seq (.seq (.rn ?_)))
  refine .block ?_
  refine .loopS (fun st : Nat × Nat × List Int => ([(0, .sub 0 0 l.length),(1, .func f xs ys),(5, .int .i64 st.1),(6, .int .i64 st.2.1)], ⟨1,[(0, .arr false 1 (st.2.2.map (.int .i64)))]⟩)) (fun st => st.2.2.length = l.length ∧ st.1 < st.2.1 ∧ st.2.1 ≤ l.length ∧ st.2.2.take st.1 = (l.take st.2.1).filter (fun a => !p a) ∧ st.2.2.drop st.2.1 = l.drop st.2.1) (fun st => l.length - st.2.1) (i0, i0 + 1, l) ⟨rfl, by simp, hi0, by rw [List.take_succ_eq_append_getElem hi0, List.filter_append, hbef]; simp [hp0], rfl⟩ (.mk [] [] zz8 zz9 rfl rfl rfl) ?_
  rintro ⟨i, j, cs⟩ ⟨hcl, hij, hjl, htk, hdr⟩
  simp only at hcl hij hjl htk hdr ⊢
  refine .seq (.seq (.rn ?_))
  refine .condS rfl (fun c19 => ?_) (fun c19 => ?_)
  ·try simp at c19
   have hw2 := wr1 j
   have hw3 := wr1 i
   have hj : cs[j]? = some l[j] := by rw [get_of_drop hdr]; simp [c19]
   have hjc : j < cs.length := by omega
   have hcj : cs[j] = l[j] := by rw [List.getElem?_eq_getElem hjc] at hj; injection hj
   have hil : i < l.length := by omega
   have hi1 : i + 1 ≤ l.length := by omega
   have hp := hp l[j] (List.getElem_mem c19)
   refine .skip (.seq (.block (.seq (.rn ?_))))
   refine .seq ?_
   refine .regionL [0,1,2,3] rfl zz0 ?_
   refine .rn [0,1] [2,3] ?_
   refine .step rfl rfl (.pure rfl rfl rfl hcf (by decide) (hp) (by first | rfl | simp [*]) ?_)
   rintro _ rfl
   refine .rn [3] [] ?_
   refine .done ?_
   refine .condS rfl (fun c29 => ?_) (fun c29 => ?_)
   ·try simp at c29
    refine .seq (.rn ?_)
    refine .rn ?_
    refine .rn ?_
    refine ⟨(i + 1, j + 1, cs.set i l[j]), ⟨by simp [hcl], by simp; omega, c19, ?_, ?_⟩, zz3, .mk [] [] zz8 ⟨⟨Nat.le_of_ble_eq_true rfl, Or.inr ⟨rfl, _, rfl, ?_⟩⟩, trivial⟩ rfl rfl rfl⟩
    ·simp only
     rw [List.take_succ_eq_append_getElem (by simp; omega), List.take_set_of_le (Nat.le_refl i), htk, List.take_succ_eq_append_getElem c19, List.filter_append]
     simp [c29]
    ·simp only
     rw [List.drop_set_of_lt (by omega)]
     exact drop_succ_of hdr
    ·refine congrArg (VObj.arr _ _) ?_
     rw [List.set_eq_take_append_cons_drop, if_pos (by omega)]
     simp
   ·try simp at c29
    refine .skip (.rn ?_)
    refine ⟨(i, j + 1, cs), ⟨hcl, by simp; omega, c19, ?_, drop_succ_of hdr⟩, zz3,(.mk [] [] zz8 zz9 rfl rfl rfl)⟩
    simp only
    rw [htk, List.take_succ_eq_append_getElem c19, List.filter_append]
    simp [c29]
  ·try simp at c19
   have hjn : j = l.length := by omega
   obtain ⟨m, hm⟩ : ∃ m, l.length - i = m + 1 := ⟨l.length - i - 1, by omega⟩
   have hin : ¬ l.length = i := by omega
   have hil : i ≤ l.length := by omega
   have him : i + (m + 1) ≤ l.length := by omega
   refine .exit (.seq (.rn ?_))
   refine .seq (.rn ?_)
   refine .ret ?_
   rw [hjn, List.take_length] at htk
   have e0 : (l.filter fun a => !p a).length = i := by rw [← htk, List.length_take]; omega
   have e1 : (List.map (PV.int .i64) cs).take i = (cs.take i).map (.int .i64) := by rw [List.map_take]
   have hz : List.replicate (m + 1) (PV.int .i64 0) = (List.replicate (m + 1) (0 : Int)).map (.int .i64) := by simp
   refine ⟨_, zz2, i, cs.take i ++ List.replicate (m + 1) 0 ++ cs.drop (i + (m + 1)), ?_, ?_, ?_⟩
   ·by_cases hi0 : i = 0
    ·exact .inr ⟨by simp [hi0], hi0⟩
    ·exact .inl (by simp [hi0])
   ·simp
   ·refine ⟨?_, e0.symm, by simp; omega⟩
    rw [List.append_assoc, List.take_left' (by rw [List.length_take]; omega), htk]
end Go.Am.Hi
end
section
namespace Go.Am.Hi
open Go Go.Am Go.Proofs
structure StuckP (D : Dk) (ps : List Int) (L : List Int) : Prop where
  sub : L.Sublist (sortK D.x)
  self : ∀ s ∈ L, waitB D ps s (fun n => decide (n ∈ L)) = true
  max : ∀ M : List Int, (∀ s ∈ M, waitB D ps s (fun n => decide (n ∈ M)) = true) → ∀ s ∈ M, s ∈ L
structure StuckI (D : Dk) (ps : List Int) (L : List Int) : Prop where
  sub : L.Sublist (sortK D.x)
  max : ∀ M : List Int, (∀ s ∈ M, waitB D ps s (fun n => decide (n ∈ M)) = true) → ∀ s ∈ M, s ∈ L
theorem waitB_mono {D : Dk} {ps : List Int} {s : Int} {is is' : Int → Bool} (h : ∀ n, is n = true → is' n = true) (hw : waitB D ps s is = true) : waitB D ps s is' = true := by
 rw [waitB_iff] at hw ⊢
 exact ⟨fun p hp hm => let ⟨b, h1, h2⟩ := hw.1 p hp hm; ⟨b, h1, h b h2⟩, hw.2⟩
theorem StuckI.start (D : Dk) (ps : List Int) : StuckI D ps (sortK D.x) := by
 refine ⟨List.Sublist.refl _, fun M hM s hs => ?_⟩
 obtain ⟨u, hu⟩ := (waitB_iff.1 (hM s hs)).2.2
 have : s ∈ D.x.map (·.1) := by
  rcases Classical.em (s ∈ D.x.map (·.1)) with h | h
  ·exact h
  ·rw [alk_none.2 h] at hu; cases hu
 exact (List.mergeSort_perm (D.x.map (·.1)) (fun x y => decide (x ≤ y))).mem_iff.2 this
theorem StuckI.next {D : Dk} {ps L : List Int} (h : StuckI D ps L) : StuckI D ps (L.filter fun s => waitB D ps s (fun n => decide (n ∈ L))) := by
 refine ⟨List.filter_sublist.trans h.sub, fun M hM s hs => List.mem_filter.2 ⟨h.max M hM s hs, ?_⟩⟩
 refine waitB_mono (fun n hn => ?_) (hM s hs)
 have : n ∈ M := by simpa using hn
 simpa using h.max M hM n this
theorem StuckI.fin {D : Dk} {ps L : List Int} (h : StuckI D ps L) (he : (L.filter fun s => waitB D ps s (fun n => decide (n ∈ L))).length = L.length) : StuckP D ps L := by
 refine ⟨h.sub, fun s hs => ?_, h.max⟩
 have : (L.filter fun s => waitB D ps s (fun n => decide (n ∈ L))) = L := List.filter_sublist.eq_of_length he
 rw [← this] at hs
 exact (List.mem_filter.1 hs).2
def stkB (D : Dk) (ps : List Int) (M : List Int) : Prop := M ≠ [] ∧ (∀ i (h : i + 1 < M.length), M[i]'(by omega) < M[i + 1]) ∧ ∀ s ∈ M, waitB D ps s (fun n => decide (n ∈ M)) = true
theorem sortK_lt {D : Dk} {n : Nat} (hN : NdX D n) : (sortK D.x).Pairwise (· < ·) := by
 have h1 : (sortK D.x).Pairwise fun x y => decide (x ≤ y) = true := List.pairwise_mergeSort (fun a b c h1 h2 => by simp at h1 h2 ⊢; omega) (fun a b => by simp; omega) _
 have h2 := sortK_nodup hN
 refine List.pairwise_iff_getElem.2 fun i j hi hj hlt => ?_
 have a := List.pairwise_iff_getElem.1 h1 i j hi hj hlt
 have b := List.pairwise_iff_getElem.1 h2 i j hi hj hlt
 simp at a
 omega
theorem StuckP.check {D : Dk} {ps L : List Int} {n : Nat} (hN : NdX D n) (h : StuckP D ps L) : stkB D ps L ↔ L ≠ [] := by
 refine ⟨fun h1 => h1.1, fun h1 => ⟨h1, fun i hi => ?_, h.self⟩⟩
 exact List.pairwise_iff_getElem.1 ((sortK_lt hN).sublist h.sub) i (i + 1) (by omega) hi (by omega)
end Go.Am.Hi
end
section
namespace Go.Am.Hi
open Go Go.Am Go.Proofs
attribute [local simp] vrun vwanted vyielded vop vopA vputAll VHeap.back hidI hidF backL bm Nat.testBit_eq_decide_div_mod_eq veval vevals vparts vO vbuiltin vlen vappend velems vcopy vmakeSlice vbuildSlice valloc vbox vmakeMap vload vpartT vpart vstore vfieldAddr vfield vindexAddr vindex vextract vslice vsliceZ vbounds vbnd zeroO vidx vlookup vmget vmapUpdate vdelete vclear vnilq vnilp vnils vbin vsc vsc1 vscs vscl abinOp aint ashift aunOp aconvert amaxs amax2 pvcV pvc pvcs tput tget vargs VHeap.get VHeap.alloc VHeap.put VHeap.drop VHeap.empty vlook vput vdrop psplice pfill preps chunk List.range List.range.loop vresults vresult vresultV frz frzL PV.isF PV.allF PV.scal PV.allS retP subT allFT PV.one PV.ids PV.idsL dropL beq_eq ble_dec blt_dec
attribute [local simp] pfind_mpG pmset_mpG pkeep_mpG
theorem vel_subI (vh : VHeap) (i : Nat) (cs : List Int) (m : Nat) (hm : m ≤ cs.length) (hg : vh.get i = some (.arr false 1 (cs.map (.int .i64)))) : velems vh 1 (.sub i 0 m) = some ((cs.take m).map (.int .i64)) := by
 have h1 : ((cs.map (PV.int .i64)).take m).all PV.one = true := by
  rw [List.all_eq_true]; intro x hx
  obtain ⟨y, _, rfl⟩ := List.mem_map.1 (List.mem_of_mem_take hx); rfl
 simp only [hg, velems, beq_eq, ble_dec, List.drop_zero, chunk, cond_false, List.length_map]
 simp [hm, h1, List.map_take]
theorem lend_1 (L : List Int) (x y : PV) (hx : x.isF = true) (hy : y.isF = true) : AltS 0 (fun i => [0].contains i) (rho []) (vargs 0 [.grow 2 L.length false, .func 126 [] [x, y, .ptr 1 0]]) ⟨3,[(2, .grow 1 (L.map (.int .i64))),(1, .box [.func 125 [] [.ptr 0 0]]),(0, .box [ints L])]⟩
  (vargs 0 [.grow 2 L.length false, .func 126 [] [x, y, .ptr 1 0]]) ⟨3,[(2, .grow 1 (L.map (.int .i64))),(1, .box [.func 125 [] [.vp [ints L]]])]⟩ := by
 refine altS_mk [0] [] ?_ ?_ rfl rfl rfl
 ·repeat' (first | exact trivial | refine And.intro (Exists.intro _ (And.intro rfl ?_)) ?_ | exact Alt.grow _ _ _ _ (Nat.le_of_ble_eq_true rfl) rfl | exact Alt.func' AltL.nil (AltL.cons (.same x hx) (AltL.cons (.same y hy) (AltL.cons (Alt.ptr _ _ _ (Nat.le_of_ble_eq_true rfl) rfl) AltL.nil))))
 ·repeat' (first | exact trivial | refine And.intro (And.intro (Nat.le_of_ble_eq_true rfl) (Or.inr (And.intro rfl (Exists.intro _ (And.intro rfl ?_))))) ?_ | rfl | exact AltL.cons (Alt.func' AltL.nil (AltL.cons (Alt.fptr 0 0 _ rfl rfl rfl (Nat.zero_le _)) AltL.nil)) AltL.nil)
theorem lend_2 (L : List Int) (h0 : 0 < L.length) (x y c : PV) (hx : x.isF = true) (hy : y.isF = true) (hc : c.isF = true) : AltS 0 (fun i => [1].contains i) (rho [(0,2)]) (vargs 0 [.grow 2 L.length false, .func 126 [] [x, y, .ptr 1 0]]) ⟨3,[(2, .grow 1 (L.map (.int .i64))),(1, .box [c])]⟩
  (vargs 0 [.sub 0 0 L.length, .func 126 [] [x, y, .vp [c]]]) ⟨1,[(0, .arr false 1 (L.map (.int .i64)))]⟩ := by
 obtain ⟨a, r, hcr⟩ : ∃ a r, L = a :: r := by
  cases L with
  | nil => simp at h0
  | cons a r => exact ⟨a, r, rfl⟩
 refine altS_mk [1] [(0,2)] ?_ ?_ rfl rfl rfl
 ·repeat' (first | exact trivial | refine And.intro (Exists.intro _ (And.intro rfl ?_)) ?_ | exact Alt.growS 2 0 L.length false 1 _ Nat.zero_lt_one rfl rfl (by simp) h0 | exact Alt.func' AltL.nil (AltL.cons (.same x hx) (AltL.cons (.same y hy) (AltL.cons (Alt.fptr 1 0 [c] rfl rfl (by simp [PV.allF, hc]) (Nat.zero_le _)) AltL.nil))))
 ·exact ⟨⟨Nat.le_of_ble_eq_true rfl, Or.inr ⟨rfl, _, rfl, ⟨rfl, ⟨.int .i64 a, r.map (.int .i64), by rw [hcr]; rfl⟩, sorted_cells L⟩⟩⟩, trivial⟩
theorem grow_live (L : List Int) (h0 : 0 < L.length) : (VObj.grow 1 (L.map (.int .i64))).live = true := by
 cases L with
 | nil => simp at h0
 | cons a r => rfl
theorem alt_subI {vh : VHeap} {n2 : Nat} {D : Nat → Bool} {ρ : Nat → Nat} (i : Nat) (cs : List Int) (m : Nat) (hm : m ≤ cs.length) (hD : D i = true) (hg : vh.get i = some (.arr false 1 (cs.map (.int .i64)))) : Alt vh n2 D ρ (.sub i 0 m) (ints (cs.take m)) :=
 .fsub i 0 m false 1 _ _ hD hg (vel_subI vh i cs m hm hg)
theorem p125 (L : List Int) (n : Int) (hl : L.length < 4294967296) : VPure Tryz.prog 125 [.int .i64 n, .vp [ints L]] fun r => r = .bool (decide (n ∈ L)) := by
 refine .of_body Tryz.func125 rfl rfl ?_
 refine .seq (.rn ?_)
 refine .seq ?_
 refine .regionL [0,1,2,3] rfl zz0 ?_
 refine .rn [0,1] [2,3] ?_
 refine .pc rfl rfl rfl rfl rfl Tryz.call99 (p99 L n hl) ?_
 refine .rn [3] [] ?_
 refine .done (.ret ?_)
 refine ⟨_, _, zz2,zz2, ?_⟩
 first | rfl | (simp [*]; done) | (simp_all; done)
theorem p129 (L : List Int) (n : Int) (hl : L.length < 4294967296) : VPure Tryz.prog 129 [.int .i64 n, .vp [ints L]] fun r => r = .bool (decide (n ∈ L)) := by
 refine .of_body Tryz.func129 rfl rfl ?_
 refine .seq (.rn ?_)
 refine .seq ?_
 refine .regionL [0,1,2,3] rfl zz0 ?_
 refine .rn [0,1] [2,3] ?_
 refine .pc rfl rfl rfl rfl rfl Tryz.call99 (p99 L n hl) ?_
 refine .rn [3] [] ?_
 refine .done (.ret ?_)
 refine ⟨_, _, zz2,zz2, ?_⟩
 first | rfl | (simp [*]; done) | (simp_all; done)
theorem p126 (D : Dk) (R : Reg) (L : List Int) (s : Int) (hl : R.ps.length < 4294967296) (hq : ∀ p l, alk D.q p = some l → l.length < 4294967296) (hL : L.length < 4294967296) : VPure Tryz.prog 126 [.int .i64 s, .vp [dkD D], .vp [ints R.ps, .int .i64 R.sc, turns R.ts], .vp [.func 125 [] [.vp [ints L]]]] fun r => r = .bool (!waitB D R.ps s fun n => decide (n ∈ L)) := by
 refine .of_body Tryz.func126 rfl rfl ?_
 refine .seq (.rn ?_)
 refine .seq ?_
 refine .regionL [0,1,2,3,4,5,6] rfl zz0 ?_
 refine .rn [0,1,2,3] [4,5,6] ?_
 refine .pc rfl rfl rfl rfl rfl Tryz.call127 (p127 D R s (fun n => decide (n ∈ L)) 125 [] [.vp [ints L]] hl hq rfl rfl Tryz.call125 (fun n => p125 L n hL)) ?_
 refine .rn [5,6] [] ?_
 refine .done (.ret ?_)
 refine ⟨_, _, zz2,zz2, ?_⟩
 first | rfl | (simp [*]; done) | (simp_all; done)
theorem p56 (R : Reg) (day : Int) (hl1 : R.ps.length < 4294967296) (hl2 : R.ts.length < 4294967296) (h : onE R day = 0) : VPure Tryz.prog 56 [encR R, .int .i64 day] fun r => ∃ L : List Int, StuckP (behD R day) R.ps L ∧ r = .tup [ints L, .int .i64 0] := by
 unfold encR
 have hV : onV R day = .vp [.int .i64 (behD R day).d, .vmap (mpG encHe (behD R day).x), .vmap (mpG (PV.int .i64) (behD R day).y), .vmap (mpG ints (behD R day).q)] := by unfold onV; rw [if_pos h]; rfl
 have hb := beh_ok (onE_chk h) day
 obtain ⟨D, hD⟩ : ∃ D, behD R day = D := ⟨_, rfl⟩
 have hp := p85 R day hl1 hl2
 rw [hV, h, hD] at hp
 rw [hD] at hb ⊢
 unfold encR at hp
 have hq : ∀ p l, alk D.q p = some l → l.length < 4294967296 := fun p l hl => by have := hb.1.len p l hl; omega
 have hdl : D.x.length < 1000 := by have := hb.2.ln; omega
 have hsk := sortK_len D.x
 have hsl : (sortK D.x).length < 1000 := by rw [sortK_len]; have := hb.2.ln; omega
 refine .of_body Tryz.func56 rfl rfl ?_
 rcases Nat.eq_zero_or_pos D.x.length with hz | hz
 ·
  refine .seq (.rn ?_)
  refine .scope ?_
  refine .seq ?_
  refine .regionL [0,1,2,3,4,5,6,7,8] rfl zz0 ?_
  refine .rn [0,1] [2,3,4,5,6,7,8] ?_
  refine .pc rfl rfl rfl rfl rfl Tryz.call85 (hp) ?_
  refine .rn [3,4,5,6,7,8] [] ?_
  refine .done (.seq (.seq (.rn ?_)))
  refine .condS rfl (fun c18 => ?_) (fun c18 => ?_)
  ·try simp at c18
  ·try simp at c18
   refine .skip (.seq ?_)
   refine .rec (vts2 := [(2, .vp [ints R.ps, .int .i64 R.sc, turns R.ts]),(6, .vp [.vp [.int .i64 D.d, .vmap (mpG encHe D.x), .vmap (mpG (PV.int .i64) D.y), .vmap (mpG ints D.q)]])]) (vh2 := ⟨0,[]⟩) (.mk [0,1] [] zz10 zz11 rfl rfl rfl) ?_
   refine .regionL [0,1,2,3,4,5,6,7] rfl zz0 ?_
   refine .rn [0,1,2,3] [4,5,6,7] ?_
   refine .pc rfl rfl rfl rfl rfl Tryz.call124 (p124 (mpG encHe D.x)) ?_
   have hx0 : D.x = [] := List.eq_nil_of_length_eq_zero hz
   rw [hx0]
   refine .pc rfl rfl rfl rfl rfl Tryz.call73 (VPure.soft p73me rfl) ?_
   refine .rn [6,7] [] ?_
   refine .done (.seq ?_)
   refine .label ?_
   refine .seq (.block ?_)
   refine .loopS (fun L : List Int => ([(2, .vp [ints R.ps, .int .i64 R.sc, turns R.ts]),(6, .vp [.vp [.int .i64 D.d, .vmap (mpG encHe D.x), .vmap (mpG (PV.int .i64) D.y), .vmap (mpG ints D.q)]]),(8, .ptr 0 0)], ⟨1,[(0, .box [ints L])]⟩)) (fun L => StuckI D R.ps L) (fun L => L.length) (sortK D.x) (StuckI.start D R.ps) (.mk [] [] zz8 ⟨⟨Nat.le_of_ble_eq_true rfl, Or.inr ⟨rfl, _, rfl, AltL.cons (Alt.ofEq rfl (by simp [sortK, hx0, ints])) AltL.nil⟩⟩, trivial⟩ rfl rfl rfl) ?_
   intro L hI
   simp only at hI ⊢
   first | clear hx0 | skip
   have hLl : L.length < 1000 := Nat.lt_of_le_of_lt hI.sub.length_le hsl
   rcases Nat.eq_zero_or_pos L.length with hL0 | hL0
   ·skip
    refine .block (.seq (.rn ?_))
    refine .seq ?_
    obtain ⟨zv, zm, hv⟩ : ∃ (zv : PV) (zm : Nat), zv = .sl0 ∨ zv = .vec [] ∧ zm = 0 := ⟨.sl0,0, .inl rfl⟩
    have hLe : L = [] := List.eq_nil_of_length_eq_zero hL0
    subst hLe
    refine .rec (vts2 := [(2, .vp [ints R.ps, .int .i64 R.sc, turns R.ts]),(6, .vp [.vp [.int .i64 D.d, .vmap (mpG encHe D.x), .vmap (mpG (PV.int .i64) D.y), .vmap (mpG ints D.q)]]),(8, .vp [ints []]),(9, .ptr 1 0)]) (vh2 := ⟨2,[(1, .box [.func 125 [] [.vp [ints []]]])]⟩) (.mk [0] [] zz10 ⟨⟨Nat.le_of_ble_eq_true rfl, Or.inr ⟨rfl, _, rfl, AltL.cons (Alt.func' AltL.nil (AltL.cons (Alt.fptr 0 0 _ rfl rfl rfl (Nat.zero_le _)) AltL.nil)) AltL.nil⟩⟩, trivial⟩ rfl rfl rfl) ?_
    refine .rec (vts2 := [(2, .vp [ints R.ps, .int .i64 R.sc, turns R.ts]),(6, .vp [.vp [.int .i64 D.d, .vmap (mpG encHe D.x), .vmap (mpG (PV.int .i64) D.y), .vmap (mpG ints D.q)]]),(8, .vp [ints []]),(9, .vp [.func 125 [] [.vp [ints []]]])]) (vh2 := ⟨0,[]⟩) (.mk [1] [] zz10 zz11 rfl rfl rfl) ?_
    refine .regionL [0,1,2,3,4] rfl zz0 ?_
    refine .rn [0] [1,2,3,4] ?_
    refine .pc rfl rfl rfl rfl rfl Tryz.call94 (p94a [] (by simp)) ?_
    refine .rn [2] [3,4] ?_
    refine .pc rfl rfl rfl rfl rfl Tryz.call93 (p93e 126 [] [.vp [.vp [.int .i64 D.d, .vmap (mpG encHe D.x), .vmap (mpG (PV.int .i64) D.y), .vmap (mpG ints D.q)]], .vp [ints R.ps, .int .i64 R.sc, turns R.ts], .vp [.func 125 [] [.vp [ints []]]]] rfl (by simp [PV.allF, PV.isF, ints]) Tryz.call126) ?_
    rcases hv with rfl | ⟨rfl, rfl⟩
    ·skip
     refine .rn [4] [] ?_
     refine .done (.seq (.seq (.rn ?_)))
     refine .condS rfl (fun c35 => ?_) (fun c35 => ?_)
     ·try simp at c35
      refine .exit (.seq (.rn ?_))
      refine .ret ?_
      refine ⟨_, _, zz2,zz2, ?_⟩
      exact ⟨[], hI.fin rfl, rfl⟩
     ·try simp at c35
    ·skip
     refine .rn [4] [] ?_
     refine .done (.seq (.seq (.rn ?_)))
     refine .condS rfl (fun c35 => ?_) (fun c35 => ?_)
     ·try simp at c35
      refine .exit (.seq (.rn ?_))
      refine .ret ?_
      refine ⟨_, _, zz2,zz2, ?_⟩
      exact ⟨[], hI.fin rfl, rfl⟩
     ·try simp at c35
   ·skip
    refine .block (.seq (.rn ?_))
    refine .seq ?_
    refine .regionL [0,1,2,3,4] rfl zz0 ?_
    refine .rn [0] [1,2,3,4] ?_
    refine .step rfl rfl (.call rfl rfl rfl Tryz.call94 (by decide) (((VCall.fresh' (by simp) (p94g L hL0 (by omega)) rfl hL0)).mono ?_))
    rintro _ _ ⟨rfl, rfl⟩
    refine .rn [2] [3,4] ?_
    refine .step rfl rfl (.call rfl rfl rfl Tryz.call93 (by decide) (((VCall.lend2 (i := 2) rfl (grow_live L hL0) (lend_1 L _ _ (by simp [PV.isF]) (by simp [PV.isF, ints])) (lend_2 L hL0 _ _ _ (by simp [PV.isF]) (by simp [PV.isF, ints]) (by simp [PV.isF, PV.allF, ints])) rfl (p93l L (fun s => !waitB D R.ps s fun n => decide (n ∈ L)) 126 [] [.vp [dkD D], .vp [ints R.ps, .int .i64 R.sc, turns R.ts], .vp [.func 125 [] [.vp [ints L]]]] (by omega) hL0 rfl (by simp [PV.allF, PV.isF, ints]) Tryz.call126 (fun s _ => p126 D R L s hl1 hq (by omega))))).mono ?_))
    rintro _ _ ⟨m, cs, hv, rfl, hcs, hm, hml⟩
    simp only [Bool.not_not] at hcs hm
    replace hm := hm.symm
    rcases hv with rfl | ⟨rfl, rfl⟩
    ·skip
     refine .rn [4] [] ?_
     refine .done (.seq (.seq (.rn ?_)))
     refine .condS rfl (fun c35 => ?_) (fun c35 => ?_)
     ·try simp at c35
      refine .exit (.seq (.rn ?_))
      refine .ret ?_
      refine ⟨_, _, zz2,zz2, ?_⟩
      exact ⟨L, hI.fin (by omega), rfl⟩
     ·try simp at c35
      have hfl : (L.filter fun s => waitB D R.ps s fun n => decide (n ∈ L)).length ≤ L.length := List.length_filter_le _ _
      refine .skip (.rn ?_)
      refine ⟨L.filter fun s => waitB D R.ps s fun n => decide (n ∈ L), hI.next, (by omega),(.mk [2] [] zz8 ⟨⟨Nat.le_of_ble_eq_true rfl, Or.inr ⟨rfl, _, rfl, AltL.cons (hcs ▸ alt_subI 2 cs m hml rfl rfl) AltL.nil⟩⟩, trivial⟩ rfl rfl rfl)⟩
    ·skip
     refine .rn [4] [] ?_
     refine .done (.seq (.seq (.rn ?_)))
     refine .condS rfl (fun c35 => ?_) (fun c35 => ?_)
     ·try simp at c35
      exfalso; omega
     ·try simp at c35
      have hfl : (L.filter fun s => waitB D R.ps s fun n => decide (n ∈ L)).length ≤ L.length := List.length_filter_le _ _
      have hnil : (L.filter fun s => waitB D R.ps s fun n => decide (n ∈ L)) = [] := List.eq_nil_of_length_eq_zero hm
      refine .skip (.rn ?_)
      refine ⟨L.filter fun s => waitB D R.ps s fun n => decide (n ∈ L), hI.next, (by omega),(.mk [2] [] zz8 ⟨⟨Nat.le_of_ble_eq_true rfl, Or.inr ⟨rfl, _, rfl, AltL.cons (Alt.ofEq rfl (by rw [hnil]; rfl)) AltL.nil⟩⟩, trivial⟩ rfl rfl rfl)⟩
 ·
  refine .seq (.rn ?_)
  refine .scope ?_
  refine .seq ?_
  refine .regionL [0,1,2,3,4,5,6,7,8] rfl zz0 ?_
  refine .rn [0,1] [2,3,4,5,6,7,8] ?_
  refine .pc rfl rfl rfl rfl rfl Tryz.call85 (hp) ?_
  refine .rn [3,4,5,6,7,8] [] ?_
  refine .done (.seq (.seq (.rn ?_)))
  refine .condS rfl (fun c18 => ?_) (fun c18 => ?_)
  ·try simp at c18
  ·try simp at c18
   refine .skip (.seq ?_)
   refine .rec (vts2 := [(2, .vp [ints R.ps, .int .i64 R.sc, turns R.ts]),(6, .vp [.vp [.int .i64 D.d, .vmap (mpG encHe D.x), .vmap (mpG (PV.int .i64) D.y), .vmap (mpG ints D.q)]])]) (vh2 := ⟨0,[]⟩) (.mk [0,1] [] zz10 zz11 rfl rfl rfl) ?_
   refine .regionL [0,1,2,3,4,5,6,7] rfl zz0 ?_
   refine .rn [0,1,2,3] [4,5,6,7] ?_
   refine .pc rfl rfl rfl rfl rfl Tryz.call124 (p124 (mpG encHe D.x)) ?_
   refine .step rfl rfl (.call rfl rfl rfl Tryz.call73 (by decide) (((VCall.fresh' (by simp [sortK_len]) (p73m D.x (by omega) hb.2.nd hz) (by simp [PV.allF, PV.isF]) hz)).mono ?_))
   rintro _ _ ⟨rfl, rfl⟩
   refine .rn [6,7] [] ?_
   refine .done (.seq ?_)
   refine .label ?_
   refine .seq (.block ?_)
   refine .loopS (fun L : List Int => ([(2, .vp [ints R.ps, .int .i64 R.sc, turns R.ts]),(6, .vp [.vp [.int .i64 D.d, .vmap (mpG encHe D.x), .vmap (mpG (PV.int .i64) D.y), .vmap (mpG ints D.q)]]),(8, .ptr 0 0)], ⟨1,[(0, .box [ints L])]⟩)) (fun L => StuckI D R.ps L) (fun L => L.length) (sortK D.x) (StuckI.start D R.ps) (.mk [0] [(0,1)] zz8 zz9 rfl rfl rfl) ?_
   intro L hI
   simp only at hI ⊢
   first | clear hx0 | skip
   have hLl : L.length < 1000 := Nat.lt_of_le_of_lt hI.sub.length_le hsl
   rcases Nat.eq_zero_or_pos L.length with hL0 | hL0
   ·skip
    refine .block (.seq (.rn ?_))
    refine .seq ?_
    obtain ⟨zv, zm, hv⟩ : ∃ (zv : PV) (zm : Nat), zv = .sl0 ∨ zv = .vec [] ∧ zm = 0 := ⟨.sl0,0, .inl rfl⟩
    have hLe : L = [] := List.eq_nil_of_length_eq_zero hL0
    subst hLe
    refine .rec (vts2 := [(2, .vp [ints R.ps, .int .i64 R.sc, turns R.ts]),(6, .vp [.vp [.int .i64 D.d, .vmap (mpG encHe D.x), .vmap (mpG (PV.int .i64) D.y), .vmap (mpG ints D.q)]]),(8, .vp [ints []]),(9, .ptr 1 0)]) (vh2 := ⟨2,[(1, .box [.func 125 [] [.vp [ints []]]])]⟩) (.mk [0] [] zz10 ⟨⟨Nat.le_of_ble_eq_true rfl, Or.inr ⟨rfl, _, rfl, AltL.cons (Alt.func' AltL.nil (AltL.cons (Alt.fptr 0 0 _ rfl rfl rfl (Nat.zero_le _)) AltL.nil)) AltL.nil⟩⟩, trivial⟩ rfl rfl rfl) ?_
    refine .rec (vts2 := [(2, .vp [ints R.ps, .int .i64 R.sc, turns R.ts]),(6, .vp [.vp [.int .i64 D.d, .vmap (mpG encHe D.x), .vmap (mpG (PV.int .i64) D.y), .vmap (mpG ints D.q)]]),(8, .vp [ints []]),(9, .vp [.func 125 [] [.vp [ints []]]])]) (vh2 := ⟨0,[]⟩) (.mk [1] [] zz10 zz11 rfl rfl rfl) ?_
    refine .regionL [0,1,2,3,4] rfl zz0 ?_
    refine .rn [0] [1,2,3,4] ?_
    refine .pc rfl rfl rfl rfl rfl Tryz.call94 (p94a [] (by simp)) ?_
    refine .rn [2] [3,4] ?_
    refine .pc rfl rfl rfl rfl rfl Tryz.call93 (p93e 126 [] [.vp [.vp [.int .i64 D.d, .vmap (mpG encHe D.x), .vmap (mpG (PV.int .i64) D.y), .vmap (mpG ints D.q)]], .vp [ints R.ps, .int .i64 R.sc, turns R.ts], .vp [.func 125 [] [.vp [ints []]]]] rfl (by simp [PV.allF, PV.isF, ints]) Tryz.call126) ?_
    rcases hv with rfl | ⟨rfl, rfl⟩
    ·skip
     refine .rn [4] [] ?_
     refine .done (.seq (.seq (.rn ?_)))
     refine .condS rfl (fun c35 => ?_) (fun c35 => ?_)
     ·try simp at c35
      refine .exit (.seq (.rn ?_))
      refine .ret ?_
      refine ⟨_, _, zz2,zz2, ?_⟩
      exact ⟨[], hI.fin rfl, rfl⟩
     ·try simp at c35
    ·skip
     refine .rn [4] [] ?_
     refine .done (.seq (.seq (.rn ?_)))
     refine .condS rfl (fun c35 => ?_) (fun c35 => ?_)
     ·try simp at c35
      refine .exit (.seq (.rn ?_))
      refine .ret ?_
      refine ⟨_, _, zz2,zz2, ?_⟩
      exact ⟨[], hI.fin rfl, rfl⟩
     ·try simp at c35
   ·skip
    refine .block (.seq (.rn ?_))
    refine .seq ?_
    refine .regionL [0,1,2,3,4] rfl zz0 ?_
    refine .rn [0] [1,2,3,4] ?_
    refine .step rfl rfl (.call rfl rfl rfl Tryz.call94 (by decide) (((VCall.fresh' (by simp) (p94g L hL0 (by omega)) rfl hL0)).mono ?_))
    rintro _ _ ⟨rfl, rfl⟩
    refine .rn [2] [3,4] ?_
    refine .step rfl rfl (.call rfl rfl rfl Tryz.call93 (by decide) (((VCall.lend2 (i := 2) rfl (grow_live L hL0) (lend_1 L _ _ (by simp [PV.isF]) (by simp [PV.isF, ints])) (lend_2 L hL0 _ _ _ (by simp [PV.isF]) (by simp [PV.isF, ints]) (by simp [PV.isF, PV.allF, ints])) rfl (p93l L (fun s => !waitB D R.ps s fun n => decide (n ∈ L)) 126 [] [.vp [dkD D], .vp [ints R.ps, .int .i64 R.sc, turns R.ts], .vp [.func 125 [] [.vp [ints L]]]] (by omega) hL0 rfl (by simp [PV.allF, PV.isF, ints]) Tryz.call126 (fun s _ => p126 D R L s hl1 hq (by omega))))).mono ?_))
    rintro _ _ ⟨m, cs, hv, rfl, hcs, hm, hml⟩
    simp only [Bool.not_not] at hcs hm
    replace hm := hm.symm
    rcases hv with rfl | ⟨rfl, rfl⟩
    ·skip
     refine .rn [4] [] ?_
     refine .done (.seq (.seq (.rn ?_)))
     refine .condS rfl (fun c35 => ?_) (fun c35 => ?_)
     ·try simp at c35
      refine .exit (.seq (.rn ?_))
      refine .ret ?_
      refine ⟨_, _, zz2,zz2, ?_⟩
      exact ⟨L, hI.fin (by omega), rfl⟩
     ·try simp at c35
      have hfl : (L.filter fun s => waitB D R.ps s fun n => decide (n ∈ L)).length ≤ L.length := List.length_filter_le _ _
      refine .skip (.rn ?_)
      refine ⟨L.filter fun s => waitB D R.ps s fun n => decide (n ∈ L), hI.next, (by omega),(.mk [2] [] zz8 ⟨⟨Nat.le_of_ble_eq_true rfl, Or.inr ⟨rfl, _, rfl, AltL.cons (hcs ▸ alt_subI 2 cs m hml rfl rfl) AltL.nil⟩⟩, trivial⟩ rfl rfl rfl)⟩
    ·skip
     refine .rn [4] [] ?_
     refine .done (.seq (.seq (.rn ?_)))
     refine .condS rfl (fun c35 => ?_) (fun c35 => ?_)
     ·try simp at c35
      exfalso; omega
     ·try simp at c35
      have hfl : (L.filter fun s => waitB D R.ps s fun n => decide (n ∈ L)).length ≤ L.length := List.length_filter_le _ _
      have hnil : (L.filter fun s => waitB D R.ps s fun n => decide (n ∈ L)) = [] := List.eq_nil_of_length_eq_zero hm
      refine .skip (.rn ?_)
      refine ⟨L.filter fun s => waitB D R.ps s fun n => decide (n ∈ L), hI.next, (by omega),(.mk [2] [] zz8 ⟨⟨Nat.le_of_ble_eq_true rfl, Or.inr ⟨rfl, _, rfl, AltL.cons (Alt.ofEq rfl (by rw [hnil]; rfl)) AltL.nil⟩⟩, trivial⟩ rfl rfl rfl)⟩
attribute [local simp] pfind_mpG pmset_mpG pkeep_mpG
open Classical in
noncomputable def stkE (R : Reg) (day : Int) (L : List Int) : Int := if onE R day = 0 then (if stkB (behD R day) R.ps L then 0 else 8) else onE R day
def stkAt (D : Dk) (ps : List Int) (L : List Int) (j : Nat) : Prop := ∀ h : j < L.length, (0 < j → L[j - 1]'(by omega) < L[j]) ∧ waitB D ps L[j] (fun n => decide (n ∈ L)) = true
theorem stk_no {D : Dk} {ps L : List Int} {k : Nat} (hk : k < L.length) (h : ¬ stkAt D ps L k) : ¬ stkB D ps L := fun hb => h fun hk' => by
 refine ⟨fun h0 => ?_, hb.2.2 _ (List.getElem_mem hk')⟩
 have := hb.2.1 (k - 1) (by omega)
 have e : k - 1 + 1 = k := by omega
 simp only [e] at this
 exact this
theorem stk_yes {D : Dk} {ps L : List Int} (h0 : 0 < L.length) (h : ∀ j, j < L.length → stkAt D ps L j) : stkB D ps L := by
 refine ⟨fun he => by simp [he] at h0, fun i hi => ?_, fun s hs => ?_⟩
 ·have := (h (i + 1) hi hi).1 (by omega)
  simpa using this
 ·obtain ⟨j, hj, rfl⟩ := List.mem_iff_getElem.1 hs
  exact (h j hj hj).2
theorem stkE_0 {R : Reg} {day : Int} {L : List Int} (h : onE R day = 0) (hb : stkB (behD R day) R.ps L) : stkE R day L = 0 := by unfold stkE; rw [if_pos h, if_pos hb]
theorem stkE_8 {R : Reg} {day : Int} {L : List Int} (h : onE R day = 0) (hb : ¬ stkB (behD R day) R.ps L) : stkE R day L = 8 := by unfold stkE; rw [if_pos h, if_neg hb]
theorem p59 (R : Reg) (day : Int) (L : List Int) (hl1 : R.ps.length < 4294967296) (hl2 : R.ts.length < 4294967296) (hL : L.length < 4294967296) : VPure Tryz.prog 59 [encR R, .int .i64 day, ints L] fun r => r = .int .i64 (stkE R day L) := by
 unfold encR
 have hp := p85 R day hl1 hl2
 unfold encR at hp
 refine .of_body Tryz.func59 rfl rfl ?_
 refine .seq (.rn ?_)
 refine .seq ?_
 refine .regionL [0,1,2,3,4,5,6,7] rfl zz0 ?_
 refine .rn [0,1] [2,3,4,5,6,7] ?_
 refine .pc rfl rfl rfl rfl rfl Tryz.call85 (hp) ?_
 refine .rn [3,4,5,6,7] [] ?_
 refine .done (.seq (.seq (.rn ?_)))
 refine .condS rfl (fun c19 => ?_) (fun c19 => ?_)
 ·try simp at c19
  refine .seq (.rn ?_)
  refine .ret ?_
  refine ⟨_, _, zz2,zz2, ?_⟩
  unfold stkE; rw [if_neg c19]
 ·try simp at c19
  have hV : onV R day = .vp [.int .i64 (behD R day).d, .vmap (mpG encHe (behD R day).x), .vmap (mpG (PV.int .i64) (behD R day).y), .vmap (mpG ints (behD R day).q)] := by unfold onV; rw [if_pos c19]; rfl
  have hb := beh_ok (onE_chk c19) day
  rw [hV]
  have h8 := fun hn => stkE_8 (R := R) (day := day) (L := L) c19 hn
  have h0 := fun hn => stkE_0 (R := R) (day := day) (L := L) c19 hn
  obtain ⟨D, hD⟩ : ∃ D, behD R day = D := ⟨_, rfl⟩
  rw [hD] at hb h8 h0
  rw [hD]
  have hq : ∀ p l, alk D.q p = some l → l.length < 4294967296 := fun p l hl => by have := hb.1.len p l hl; omega
  refine .skip (.seq ?_)
  refine .rec (vts2 := [(3, .vp [ints R.ps, .int .i64 R.sc, turns R.ts]),(5, .vp [ints L]),(7, .vp [.int .i64 D.d, .vmap (mpG encHe D.x), .vmap (mpG (PV.int .i64) D.y), .vmap (mpG ints D.q)])]) (vh2 := ⟨0,[]⟩) (.mk [0,1] [] zz10 zz11 rfl rfl rfl) ?_
  refine .rn ?_
  refine .seq (.seq (.rn ?_))
  refine .block ?_
  refine .loopS (fun k : Nat => ([(3, .vp [ints R.ps, .int .i64 R.sc, turns R.ts]),(5, .vp [ints L]),(7, .vp [.int .i64 D.d, .vmap (mpG encHe D.x), .vmap (mpG (PV.int .i64) D.y), .vmap (mpG ints D.q)]),(9, .func 129 [] [.vp [ints L]]),(22, ints L),(23, .int .i64 L.length),(24, .int .i64 k)], ⟨0,[]⟩)) (fun k => k ≤ L.length ∧ ∀ j, j < k → stkAt D R.ps L j) (fun k => L.length - k) 0 ⟨by simp, fun j hj => absurd hj (Nat.not_lt_zero j)⟩ (.mk [] [] zz8 zz9 rfl rfl rfl) ?_
  rintro k ⟨hk, hr⟩
  simp only at hk hr ⊢
  refine .seq (.rn ?_)
  refine .seq ?_
  refine .condS rfl (fun c25 => ?_) (fun c25 => ?_)
  ·try simp at c25
   have hw2 := wr1 k
   obtain ⟨w, hw⟩ : ∃ w, waitB D R.ps L[k] (fun n => decide (n ∈ L)) = w := ⟨_, rfl⟩
   have hk1 : k - 1 < L.length := by omega
   refine .skip (.seq (.block (.seq (.rn ?_))))
   refine .seq ?_
   refine .regionL [0,1,2,3,4,5,6,7,8,9,10,11,12,13,14,15,16,17,18] rfl zz0 ?_
   refine .rn [0,1,2] [3,4,5,6,7,8,9,10,11,12,13,14,15,16,17,18] ?_
   refine .split (t := 31) rfl (fun c31 => ?_) (fun c31 => ?_)
   ·first | cases c31 | cases bnt c31 | cases bnf c31 | try rw [c31]
    try simp at c31
    have hw3 : IntKind.i64.wrap ((k : Int) - 1) = ((k - 1 : Nat) : Int) := by rw [wrap64 (by omega) (by omega)]; omega
    refine .rn [3,4,5,6,7,8,9,10,11] [12,13,14,15,16,17,18] ?_
    refine .split (t := 40) rfl (fun c40 => ?_) (fun c40 => ?_)
    ·first | cases c40 | cases bnt c40 | cases bnf c40 | try rw [c40]
     try simp at c40
     refine .rn [12,13,14,15,16,17,18] [] ?_
     refine .done (.condT rfl (.seq (.rn ?_)))
     refine .ret ?_
     refine ⟨_, _, zz2,zz2, ?_⟩
     exact congrArg _ (h8 (stk_no c25 fun hh => by have := (hh c25).1 c31; omega)).symm
    ·first | cases c40 | cases bnt c40 | cases bnf c40 | try rw [c40]
     try simp at c40
     refine .rn [12,13,14,15] [16,17,18] ?_
     refine .pc rfl rfl rfl rfl rfl Tryz.call127 (p127 D R L[k] (fun n => decide (n ∈ L)) 129 [] [.vp [ints L]] hl1 hq rfl (by simp [PV.allF, PV.isF, ints]) Tryz.call129 (fun n => p129 L n hL)) ?_
     rw [hw]
     refine .rn [17,18] [] ?_
     refine .done ?_
     refine .condS rfl (fun c47 => ?_) (fun c47 => ?_)
     ·try simp at c47
      refine .seq (.rn ?_)
      refine .ret ?_
      refine ⟨_, _, zz2,zz2, ?_⟩
      exact congrArg _ (h8 (stk_no c25 fun hh => by have := (hh c25).2; rw [hw] at this; simp_all)).symm
     ·try simp at c47
      refine .skip (.rn ?_)
      refine ⟨k + 1, ⟨c25, fun j hj => ?_⟩, zz3,(.mk [] [] zz8 zz9 rfl rfl rfl)⟩
      rcases Nat.lt_or_ge j k with h | h
      ·exact hr j h
      ·have : j = k := by omega
       subst this; exact fun _ => ⟨fun _ => by omega, by rw [hw]; simp_all⟩
   ·first | cases c31 | cases bnt c31 | cases bnf c31 | try rw [c31]
    try simp at c31
    have hk0 : ¬ 0 < k := by omega
    clear c31
    refine .rn [3,4,5,6,7,8,9,10,11,12,13,14,15] [16,17,18] ?_
    refine .pc rfl rfl rfl rfl rfl Tryz.call127 (p127 D R L[k] (fun n => decide (n ∈ L)) 129 [] [.vp [ints L]] hl1 hq rfl (by simp [PV.allF, PV.isF, ints]) Tryz.call129 (fun n => p129 L n hL)) ?_
    rw [hw]
    refine .rn [17,18] [] ?_
    refine .done ?_
    refine .condS rfl (fun c47 => ?_) (fun c47 => ?_)
    ·try simp at c47
     refine .seq (.rn ?_)
     refine .ret ?_
     refine ⟨_, _, zz2,zz2, ?_⟩
     exact congrArg _ (h8 (stk_no c25 fun hh => by have := (hh c25).2; rw [hw] at this; simp_all)).symm
    ·try simp at c47
     refine .skip (.rn ?_)
     refine ⟨k + 1, ⟨c25, fun j hj => ?_⟩, zz3,(.mk [] [] zz8 zz9 rfl rfl rfl)⟩
     rcases Nat.lt_or_ge j k with h | h
     ·exact hr j h
     ·have : j = k := by omega
      subst this; exact fun _ => ⟨fun _ => by omega, by rw [hw]; simp_all⟩
  ·try simp at c25
   have hkn : k = L.length := by omega
   subst hkn
   refine .exit (.seq (.seq (.rn ?_)))
   refine .condS rfl (fun c51 => ?_) (fun c51 => ?_)
   ·try simp at c51
    refine .seq (.rn ?_)
    refine .ret ?_
    refine ⟨_, _, zz2,zz2, ?_⟩
    exact congrArg _ (h8 fun hh => hh.1 (by simp_all)).symm
   ·try simp at c51
    refine .skip (.seq (.rn ?_))
    refine .ret ?_
    refine ⟨_, _, zz2,zz2, ?_⟩
    exact congrArg _ (h0 (stk_yes (List.length_pos_iff.2 (by simp_all)) hr)).symm
def encA (x : Int × Int) : PV := .agg [.int .i64 x.1, .int .i64 x.2]
@[simp] theorem encA_mk (a p : Int) : encA (a, p) = .agg [.int .i64 a, .int .i64 p] := rfl
@[simp] theorem encA_cells (x : Int × Int) : (encA x).cells = [.int .i64 x.1, .int .i64 x.2] := rfl
@[simp] theorem allSz_encA (l : List (Int × Int)) : allSz 2 (l.map encA) = true := by
 induction l with
 | nil => rfl
 | cons a r ih => simp [allSz]
def ready1 (D : Dk) (p : Int) : Option (Int × Int) := match alk D.y p with
 | some _ => none
 | none => match D.line p with
  | [] => none
  | a :: _ => if (alk D.x a).isSome then none else some (a, p)
def readyL (D : Dk) (ps : List Int) : List (Int × Int) := ps.filterMap (ready1 D)
theorem ready_take (D : Dk) (ps : List Int) (k : Nat) (h : k < ps.length) : readyL D (ps.take (k + 1)) = readyL D (ps.take k) ++ (match ready1 D ps[k] with | none => [] | some x => [x]) := by
 unfold readyL
 rw [List.take_succ_eq_append_getElem h, List.filterMap_append]
 simp only [List.filterMap_cons, List.filterMap_nil]
 cases ready1 D ps[k] <;> rfl
theorem readyL_len (D : Dk) (ps : List Int) : (readyL D ps).length ≤ ps.length := List.length_filterMap_le _ _
theorem p54 (R : Reg) (day : Int) (hl1 : R.ps.length < 4294967296) (hl2 : R.ts.length < 4294967296) (h : onE R day = 0) : VPure Tryz.prog 54 [encR R, .int .i64 day] fun r => r = .tup [.vec ((readyL (behD R day) R.ps).map encA), .int .i64 0] := by
 unfold encR
 have hV : onV R day = .vp [.int .i64 (behD R day).d, .vmap (mpG encHe (behD R day).x), .vmap (mpG (PV.int .i64) (behD R day).y), .vmap (mpG ints (behD R day).q)] := by unfold onV; rw [if_pos h]; rfl
 obtain ⟨D, hD⟩ : ∃ D, behD R day = D := ⟨_, rfl⟩
 have hp := p85 R day hl1 hl2
 rw [hV, h, hD] at hp
 rw [hD]
 unfold encR at hp
 refine .of_body Tryz.func54 rfl rfl ?_
 refine .seq (.rn ?_)
 refine .seq ?_
 refine .regionL [0,1,2,3,4,5,6,7] rfl zz0 ?_
 refine .rn [0,1] [2,3,4,5,6,7] ?_
 refine .pc rfl rfl rfl rfl rfl Tryz.call85 (hp) ?_
 refine .rn [3,4,5,6,7] [] ?_
 refine .done (.seq (.seq (.rn ?_)))
 refine .condS rfl (fun c21 => ?_) (fun c21 => ?_)
 ·try simp at c21
 ·try simp at c21
  refine .skip (.seq ?_)
  refine .rec (vts2 := [(2, .vp [ints R.ps, .int .i64 R.sc, turns R.ts]),(6, .vp [.int .i64 D.d, .vmap (mpG encHe D.x), .vmap (mpG (PV.int .i64) D.y), .vmap (mpG ints D.q)])]) (vh2 := ⟨0,[]⟩) (.mk [0] [] zz10 zz11 rfl rfl rfl) ?_
  refine .rn ?_
  refine .seq (.seq (.rn ?_))
  refine .block ?_
  refine .loopS (fun k : Nat => ([(6, .vp [.int .i64 D.d, .vmap (mpG encHe D.x), .vmap (mpG (PV.int .i64) D.y), .vmap (mpG ints D.q)]),(8, .grow 0 (readyL D (R.ps.take k)).length true),(24, ints R.ps),(25, .int .i64 R.ps.length),(26, .int .i64 k)], ⟨1,[(0, .grow 2 ((readyL D (R.ps.take k)).map encA))]⟩)) (fun k => k ≤ R.ps.length) (fun k => R.ps.length - k) 0 (by simp) (.mk [] [] zz8 zz9 rfl rfl rfl) ?_
  intro k hk
  simp only at hk ⊢
  refine .seq (.rn ?_)
  refine .seq ?_
  refine .condS rfl (fun c27 => ?_) (fun c27 => ?_)
  ·try simp at c27
   have hw2 := wr1 k
   have hT := ready_take D R.ps k c27
   obtain ⟨p, hpe⟩ : ∃ p, R.ps[k] = p := ⟨_, rfl⟩
   rw [hpe] at hT
   have hlen := readyL_len D (R.ps.take k)
   rw [List.length_take] at hlen
   obtain ⟨Z, hZ⟩ : ∃ Z, readyL D (R.ps.take k) = Z := ⟨_, rfl⟩
   rw [hZ] at hT hlen
   rw [hZ]
   have hb : Z.length + 1 ≤ 4294967296 := by omega
   obtain ⟨o, ho⟩ : ∃ o, alk D.y p = o := ⟨_, rfl⟩
   obtain ⟨w, hw⟩ : ∃ w, alk D.q p = w := ⟨_, rfl⟩
   rcases o with _ | s
   rcases w with _ | _ | ⟨a, r⟩
   ·skip
    refine .skip (.seq (.block (.seq (.rn ?_))))
    refine .seq (.seq (.rn ?_))
    refine .seq ?_
    have hT1 : readyL D (R.ps.take (k + 1)) = Z := by rw [hT]; simp [ready1, ho, Dk.line, hw]
    clear hT
    refine .regionL [0,1,2,3,4,5,6,7,8,9,10] rfl zz0 ?_
    refine .rn [0,1] [2,3,4,5,6,7,8,9,10] ?_
    refine .split (t := 40) rfl (fun c40 => ?_) (fun c40 => ?_)
    ·first | cases c40 | cases bnt c40 | cases bnf c40 | try rw [c40]
     try simp at c40
    ·first | cases c40 | cases bnt c40 | cases bnf c40 | try rw [c40]
     try simp at c40
     refine .rn [2,3,4,5,6,7,8,9,10] [] ?_
     refine .done ?_
     refine .condS rfl (fun c49 => ?_) (fun c49 => ?_)
     ·try simp at c49
      refine .exit (.rn ?_)
      refine ⟨k + 1, c27,zz3,(.mk [] [] zz8 zz9 rfl rfl rfl)⟩
     ·try simp at c49
   ·skip
    refine .skip (.seq (.block (.seq (.rn ?_))))
    refine .seq (.seq (.rn ?_))
    refine .seq ?_
    have hT1 : readyL D (R.ps.take (k + 1)) = Z := by rw [hT]; simp [ready1, ho, Dk.line, hw]
    clear hT
    refine .regionL [0,1,2,3,4,5,6,7,8,9,10] rfl zz0 ?_
    refine .rn [0,1] [2,3,4,5,6,7,8,9,10] ?_
    refine .split (t := 40) rfl (fun c40 => ?_) (fun c40 => ?_)
    ·first | cases c40 | cases bnt c40 | cases bnf c40 | try rw [c40]
     try simp at c40
    ·first | cases c40 | cases bnt c40 | cases bnf c40 | try rw [c40]
     try simp at c40
     refine .rn [2,3,4,5,6,7,8,9,10] [] ?_
     refine .done ?_
     refine .condS rfl (fun c49 => ?_) (fun c49 => ?_)
     ·try simp at c49
      refine .exit (.rn ?_)
      refine ⟨k + 1, c27,zz3,(.mk [] [] zz8 zz9 rfl rfl rfl)⟩
     ·try simp at c49
   ·skip
    refine .skip (.seq (.block (.seq (.rn ?_))))
    refine .seq (.seq (.rn ?_))
    refine .seq ?_
    refine .regionL [0,1,2,3,4,5,6,7,8,9,10] rfl zz0 ?_
    refine .rn [0,1] [2,3,4,5,6,7,8,9,10] ?_
    refine .split (t := 40) rfl (fun c40 => ?_) (fun c40 => ?_)
    ·first | cases c40 | cases bnt c40 | cases bnf c40 | try rw [c40]
     try simp at c40
    ·first | cases c40 | cases bnt c40 | cases bnf c40 | try rw [c40]
     try simp at c40
     refine .rn [2,3,4,5,6,7,8,9,10] [] ?_
     refine .done ?_
     refine .condS rfl (fun c49 => ?_) (fun c49 => ?_)
     ·try simp at c49
      exfalso; omega
     ·try simp at c49
      refine .skip (.seq (.rn ?_))
      refine .seq ?_
      refine .regionL [0,1,2,3] rfl zz0 ?_
      refine .rn [0,1] [2,3] ?_
      refine .pc rfl rfl rfl rfl rfl Tryz.call123 (p123 D a) ?_
      obtain ⟨z, hz⟩ : ∃ z, (alk D.x a).isSome = z := ⟨_, rfl⟩
      rw [hz]
      refine .rn [3] [] ?_
      refine .done ?_
      refine .condS rfl (fun c61 => ?_) (fun c61 => ?_)
      ·try simp at c61
       have hT1 : readyL D (R.ps.take (k + 1)) = Z ++ [(a, p)] := by rw [hT]; simp [ready1, ho, Dk.line, hw, hz, c61]
       clear hT
       refine .rn ?_
       refine .rn ?_
       refine ⟨k + 1, c27,zz3,(.mk [] [(0,2)] zz8 zz9 rfl rfl rfl)⟩
      ·try simp at c61
       have hT1 : readyL D (R.ps.take (k + 1)) = Z := by rw [hT]; simp [ready1, ho, Dk.line, hw, hz, c61]
       clear hT
       refine .skip (.rn ?_)
       refine ⟨k + 1, c27,zz3,(.mk [] [] zz8 zz9 rfl rfl rfl)⟩
   ·skip
    refine .skip (.seq (.block (.seq (.rn ?_))))
    refine .seq (.seq (.rn ?_))
    refine .seq ?_
    have hT1 : readyL D (R.ps.take (k + 1)) = Z := by rw [hT]; simp [ready1, ho]
    clear hT
    refine .regionL [0,1,2,3,4,5,6,7,8,9,10] rfl zz0 ?_
    refine .rn [0,1] [2,3,4,5,6,7,8,9,10] ?_
    refine .split (t := 40) rfl (fun c40 => ?_) (fun c40 => ?_)
    ·first | cases c40 | cases bnt c40 | cases bnf c40 | try rw [c40]
     try simp at c40
     refine .rn [2,3,4,5,6,7,8,9,10] [] ?_
     refine .done (.condT rfl (.exit (.rn ?_)))
     refine ⟨k + 1, c27,zz3,(.mk [] [] zz8 zz9 rfl rfl rfl)⟩
    ·first | cases c40 | cases bnt c40 | cases bnf c40 | try rw [c40]
     try simp at c40
  ·try simp at c27
   have hkn : k = R.ps.length := by omega
   subst hkn
   refine .exit (.seq (.rn ?_))
   refine .ret ?_
   refine ⟨_, _, zz2,zz2, ?_⟩
   first | rfl | (simp [*]; done) | (simp_all; done)
attribute [local simp] pfind_mpG pmset_mpG pkeep_mpG
theorem ready_mem {D : Dk} {ps : List Int} {x : Int × Int} (h : x ∈ readyL D ps) : alk D.x x.1 = none := by
 unfold readyL at h
 obtain ⟨p, _, hx⟩ := List.mem_filterMap.1 h
 unfold ready1 at hx
 split at hx
 ·cases hx
 ·split at hx
  ·cases hx
  ·split at hx
   ·cases hx
   ·rename_i hb
    injection hx with hx; subst hx
    simpa using hb
theorem ready_out {D : Dk} {ps L : List Int} (hL : StuckP D ps L) {x : Int × Int} (h : x ∈ readyL D ps) : x.1 ∉ L := fun hm => by
 have h1 := ready_mem h
 obtain ⟨u, hu⟩ := (waitB_iff.1 (hL.self _ hm)).2.2
 rw [h1] at hu; cases hu
theorem stkE_iff {R : Reg} {e : Int} {L : List Int} (h : onE R e = 0) : stkE R e L = 0 ↔ stkB (behD R e) R.ps L := by
 unfold stkE
 rw [if_pos h]
 split
 ·rename_i hb; exact Iff.intro (fun _ => hb) (fun _ => rfl)
 ·rename_i hb; exact Iff.intro (fun hh => absurd hh (by decide)) (fun hh => absurd hh hb)
theorem p12w (hs : VPure Tryz.prog 15 [] fun r => r = .bool true) (R : Reg) (a : Nat) (L0 : List Int) (hl1 : R.ps.length < 4611686018427387904) (hl2 : R.ts.length < 4611686018427387904) (ha : a < 65536) (h0l : L0.length < 4611686018427387904) : VPure Tryz.prog 12 [encR R, .int .u16 a, ints L0] fun r => r = .bool true := by
 refine .of_body Tryz.func12 rfl rfl ?_
 refine .seq (.rn ?_)
 refine .seq (.seq ?_)
 refine .rec (vts2 := [(1, .int .u16 a),(2, ints L0),(3, .vp [ints R.ps, .int .i64 R.sc, turns R.ts])]) (vh2 := ⟨0,[]⟩) (.mk [0] [] zz10 zz11 rfl rfl rfl) ?_
 have hday := tmod_day a ha
 refine .regionL [0,1,2,3,4,5,6,7] rfl zz0 ?_
 refine .rn [0] [1,2,3,4,5,6,7] ?_
 refine .pc rfl rfl rfl rfl rfl Tryz.call28 (p28 R hl1 hl2) ?_
 obtain ⟨z, hz⟩ : ∃ z, decide (rightP R) = z := ⟨_, rfl⟩
 rw [hz]
 refine .rn [2,3] [4,5,6,7] ?_
 refine .split (t := 28) rfl (fun c28 => ?_) (fun c28 => ?_)
 ·first | cases c28 | cases bnt c28 | cases bnf c28 | try rw [c28]
  try simp at c28
  refine .rn [4,5,6,7] [] ?_
  refine .done (.condT rfl (.seq ?_))
  refine .regionL [0,1] rfl zz0 ?_
  refine .pc rfl rfl rfl rfl rfl Tryz.call15 (hs) ?_
  refine .rn [1] [] ?_
  refine .done (.ret ?_)
  refine ⟨_, _, zz2,zz2, ?_⟩
  first | rfl | (simp [*]; done) | (simp_all; done)
 ·first | cases c28 | cases bnt c28 | cases bnf c28 | try rw [c28]
  try simp at c28
  refine .rn [4,5,6,7] [] ?_
  refine .done ?_
  refine .condS rfl (fun c32 => ?_) (fun c32 => ?_)
  ·try simp at c32
   refine .seq ?_
   refine .regionL [0,1] rfl zz0 ?_
   refine .pc rfl rfl rfl rfl rfl Tryz.call15 (hs) ?_
   refine .rn [1] [] ?_
   refine .done (.ret ?_)
   refine ⟨_, _, zz2,zz2, ?_⟩
   first | rfl | (simp [*]; done) | (simp_all; done)
  ·try simp at c32
   have hr : rightP R := by simp_all
   have hh := hand_of hr.2.2 (dayI_b a)
   have heb := dayI_b a
   have hb := beh_ok hr.2.2 (dayI a)
   obtain ⟨e, he⟩ : ∃ e, dayI a = e := ⟨_, rfl⟩
   rw [he] at hday hh heb hb
   have hon := hh.on
   have hm1 : R.ps.length < 4294967296 := by have := hr.2.1; omega
   have hm2 : R.ts.length < 4294967296 := by have := hr.1; omega
   obtain ⟨D, hD⟩ : ∃ D, behD R e = D := ⟨_, rfl⟩
   have hst := p56 R e hm1 hm2 hon
   have hrd := p54 R e hm1 hm2 hon
   have hse : ∀ M, stkE R e M = 0 ↔ stkB (behD R e) R.ps M := fun M => stkE_iff hon
   rw [hD] at hh hb hst hrd hse
   have h0m : L0.length ≤ 20 := by omega
   refine .skip (.seq (.rn ?_))
   refine .seq ?_
   refine .regionL [0,1,2,3,4,5,6,7] rfl zz0 ?_
   refine .rn [0,1] [2,3,4,5,6,7] ?_
   refine .step rfl rfl (.pure rfl rfl rfl Tryz.call56 (by decide) (hst) (by first | rfl | simp [*]) ?_)
   rintro _ ⟨L, hL, rfl⟩
   have hLl : L.length < 1000 := by have := hL.sub.length_le; rw [sortK_len] at this; have := hb.2.ln; omega
   have hL0 : L.length < 4294967296 := by omega
   refine .rn [3,4,5,6,7] [] ?_
   refine .done (.seq (.seq ?_))
   refine .regionL [0,1,2,3,4,5,6,7,8,9,10,11,12] rfl zz0 ?_
   refine .rn [0,1,2] [3,4,5,6,7,8,9,10,11,12] ?_
   refine .split (t := 45) rfl (fun c45 => ?_) (fun c45 => ?_)
   ·first | cases c45 | cases bnt c45 | cases bnf c45 | try rw [c45]
    try simp at c45
   ·first | cases c45 | cases bnt c45 | cases bnf c45 | try rw [c45]
    try simp at c45
    refine .rn [3,4,5] [6,7,8,9,10,11,12] ?_
    refine .pc rfl rfl rfl rfl rfl Tryz.call59 (p59 R e L hm1 hm2 hL0) ?_
    obtain ⟨c1, hc1⟩ : ∃ c, stkE R e L = c := ⟨_, rfl⟩
    have hcc : (c1 = 0) = (0 < L.length) := propext (by rw [← hc1, hse, hL.check hb.2]; exact List.length_pos_iff.symm)
    rw [hc1]
    clear hc1
    refine .rn [7,8,9,10,11,12] [] ?_
    refine .done ?_
    refine .condS rfl (fun c55 => ?_) (fun c55 => ?_)
    ·try simp at c55
     exact absurd (by rw [Bool.eq_iff_iff]; simp [hcc]) c55
    ·try simp at c55
     refine .skip ?_
     refine .join (fun _ : Unit => ([(3, .vp [ints R.ps, .int .i64 R.sc, turns R.ts]),(7, .int .i64 e),(8, ints L)], VHeap.empty)) (fun _ => True) ?_ ?_
     ·skip
      refine .seq ?_
      refine .regionL [0,1,2,3,4] rfl zz0 ?_
      refine .rn [0,1,2] [3,4] ?_
      refine .pc rfl rfl rfl rfl rfl Tryz.call59 (p59 R e L0 hm1 hm2 (by omega)) ?_
      obtain ⟨c2, hc2⟩ : ∃ c, stkE R e L0 = c := ⟨_, rfl⟩
      rw [hc2]
      clear hcc
      refine .rn [4] [] ?_
      refine .done ?_
      refine .condS rfl (fun c60 => ?_) (fun c60 => ?_)
      ·try simp at c60
       have hin : ∀ s ∈ L0, s ∈ L := hL.max L0 ((hse L0).1 (by rw [hc2]; exact c60)).2.2
       refine .seq (.rn ?_)
       refine .block ?_
       refine .loopS (fun k : Nat => ([(3, .vp [ints R.ps, .int .i64 R.sc, turns R.ts]),(7, .int .i64 e),(8, ints L),(61, ints L0),(62, .int .i64 L0.length),(63, .int .i64 k)], VHeap.empty)) (fun k => k ≤ L0.length) (fun k => L0.length - k) 0 (by simp) (.mk [] [] zz8 zz9 rfl rfl rfl) ?_
       intro k hk
       simp only at hk ⊢
       refine .seq (.rn ?_)
       refine .seq ?_
       refine .condS rfl (fun c64 => ?_) (fun c64 => ?_)
       ·try simp at c64
        have hw2 := wr1 k
        have hmem := hin L0[k] (List.getElem_mem c64)
        refine .skip (.seq (.block (.seq (.rn ?_))))
        refine .seq ?_
        refine .regionL [0,1,2,3] rfl zz0 ?_
        refine .rn [0,1] [2,3] ?_
        refine .pc rfl rfl rfl rfl rfl Tryz.call29 (p29 L L0[k] hL0) ?_
        rw [decide_eq_true hmem]
        refine .rn [3] [] ?_
        refine .done ?_
        refine .condS rfl (fun c70 => ?_) (fun c70 => ?_)
        ·try simp at c70
        ·try simp at c70
         refine .skip (.rn ?_)
         refine ⟨k + 1,zz3,zz3,(.mk [] [] zz8 zz9 rfl rfl rfl)⟩
       ·try simp at c64
        refine .exit ?_
        exact ⟨(), trivial, (.mk [] [] zz8 zz9 rfl rfl rfl)⟩
      ·try simp at c60
       refine .skip ?_
       exact ⟨(), trivial, (.mk [] [] zz8 zz9 rfl rfl rfl)⟩
     ·skip
      rintro _ _
      simp only
      refine .seq (.seq (.rn ?_))
      refine .block ?_
      refine .loopS (fun k : Nat => ([(3, .vp [ints R.ps, .int .i64 R.sc, turns R.ts]),(7, .int .i64 e),(8, ints L),(73, ints R.ps),(74, .int .i64 R.ps.length),(75, .int .i64 k)], VHeap.empty)) (fun k => k ≤ R.ps.length) (fun k => R.ps.length - k) 0 (by simp) (.mk [] [] zz8 zz9 rfl rfl rfl) ?_
      intro k hk
      simp only at hk ⊢
      refine .seq (.rn ?_)
      refine .seq ?_
      refine .condS rfl (fun c76 => ?_) (fun c76 => ?_)
      ·try simp at c76
       obtain ⟨p, hp⟩ : ∃ p, R.ps[k] = p := ⟨_, rfl⟩
       have hpm : p ∈ R.ps := hp ▸ List.getElem_mem c76
       have hw2 := wr1 k
       have hwh := hh.wh p hpm
       have hwa := hh.wa p hpm
       have hql := hh.ql p
       have hself : ∀ s ∈ L, s ∈ D.line p → ∃ b, alk D.y p = some b ∧ b ∈ L := fun s hs hm => by
        obtain ⟨b, h1, h2⟩ := (waitB_iff.1 (hL.self s hs)).1 p hpm hm
        exact ⟨b, h1, by simpa using h2⟩
       obtain ⟨W, hW⟩ : ∃ W, D.line p = W := ⟨_, rfl⟩
       rw [hW] at hwa hql hself
       obtain ⟨o, ho⟩ : ∃ o, alk D.y p = o := ⟨_, rfl⟩
       rw [ho] at hwh hself
       rcases o with _ | s
       ·skip
        refine .skip (.seq (.block (.seq (.rn ?_))))
        refine .seq ?_
        refine .regionL [0,1,2,3,4,5,6,7,8,9,10] rfl zz0 ?_
        refine .rn [0,1,2] [3,4,5,6,7,8,9,10] ?_
        refine .pc rfl rfl rfl rfl rfl Tryz.call20 (p20 R p e hm1 hm2) ?_
        rw [hwh]
        refine .rn [4,5,6,7,8,9,10] [] ?_
        refine .done (.seq ?_)
        refine .regionL [0,1,2,3,4,5,6,7,8] rfl zz0 ?_
        refine .rn [0,1,2] [3,4,5,6,7,8] ?_
        refine .pc rfl rfl rfl rfl rfl Tryz.call24 (p24 R p e hm1 hm2) ?_
        rw [hwa]
        refine .rn [4,5,6,7,8] [] ?_
        refine .done (.seq (.seq ?_))
        refine .regionL [0,1,2,3,4,5] rfl zz0 ?_
        refine .rn [0,1,2] [3,4,5] ?_
        refine .split (t := 96) rfl (fun c96 => ?_) (fun c96 => ?_)
        ·first | cases c96 | cases bnt c96 | cases bnf c96 | try rw [c96]
         try simp at c96
        ·first | cases c96 | cases bnt c96 | cases bnf c96 | try rw [c96]
         try simp at c96
         refine .rn [3,4,5] [] ?_
         refine .done ?_
         refine .condS rfl (fun c99 => ?_) (fun c99 => ?_)
         ·try simp at c99
         ·try simp at c99
          refine .skip (.seq (.rn ?_))
          refine .block ?_
          refine .loopS (fun j : Nat => ([(3, .vp [ints R.ps, .int .i64 R.sc, turns R.ts]),(7, .int .i64 e),(8, ints L),(14, .int .i64 0),(15, .bool false),(73, ints R.ps),(74, .int .i64 R.ps.length),(75, .int .i64 k),(100, ints W),(101, .int .i64 W.length),(102, .int .i64 j)], VHeap.empty)) (fun j => j ≤ W.length) (fun j => W.length - j) 0 (by simp) (.mk [] [] zz8 zz9 rfl rfl rfl) ?_
          intro j hj
          simp only at hj ⊢
          refine .seq (.rn ?_)
          refine .seq ?_
          refine .condS rfl (fun c103 => ?_) (fun c103 => ?_)
          ·try simp at c103
           have hwj := wr1 j
           obtain ⟨x, hx⟩ : ∃ x, W[j] = x := ⟨_, rfl⟩
           have hxm : x ∈ W := hx ▸ List.getElem_mem c103
           refine .skip (.seq (.block (.seq (.rn ?_))))
           refine .seq ?_
           refine .regionL [0,1,2,3,4,5,6,7,8,9,10,11,12] rfl zz0 ?_
           refine .rn [0,1] [2,3,4,5,6,7,8,9,10,11,12] ?_
           refine .pc rfl rfl rfl rfl rfl Tryz.call29 (p29 L x hL0) ?_
           obtain ⟨y, hy⟩ : ∃ y, decide (x ∈ L) = y := ⟨_, rfl⟩
           rw [hy]
           refine .rn [3] [4,5,6,7,8,9,10,11,12] ?_
           refine .split (t := 109) rfl (fun c109 => ?_) (fun c109 => ?_)
           ·first | cases c109 | cases bnt c109 | cases bnf c109 | try rw [c109]
            try simp at c109
            obtain ⟨b, hb1, _⟩ := hself x (of_decide_eq_true hy) hxm; cases hb1
           ·first | cases c109 | cases bnt c109 | cases bnf c109 | try rw [c109]
            try simp at c109
            refine .rn [4,5,6,7,8,9,10,11,12] [] ?_
            refine .done (.condF rfl (.skip (.rn ?_)))
            refine ⟨j + 1,zz3,zz3,(.mk [] [] zz8 zz9 rfl rfl rfl)⟩
          ·try simp at c103
           refine .exit (.rn ?_)
           refine ⟨k + 1,zz3,zz3,(.mk [] [] zz8 zz9 rfl rfl rfl)⟩
       ·skip
        refine .skip (.seq (.block (.seq (.rn ?_))))
        refine .seq ?_
        refine .regionL [0,1,2,3,4,5,6,7,8,9,10] rfl zz0 ?_
        refine .rn [0,1,2] [3,4,5,6,7,8,9,10] ?_
        refine .pc rfl rfl rfl rfl rfl Tryz.call20 (p20 R p e hm1 hm2) ?_
        rw [hwh]
        refine .rn [4,5,6,7,8,9,10] [] ?_
        refine .done (.seq ?_)
        refine .regionL [0,1,2,3,4,5,6,7,8] rfl zz0 ?_
        refine .rn [0,1,2] [3,4,5,6,7,8] ?_
        refine .pc rfl rfl rfl rfl rfl Tryz.call24 (p24 R p e hm1 hm2) ?_
        rw [hwa]
        refine .rn [4,5,6,7,8] [] ?_
        refine .done (.seq (.seq ?_))
        refine .regionL [0,1,2,3,4,5] rfl zz0 ?_
        refine .rn [0,1,2] [3,4,5] ?_
        refine .split (t := 96) rfl (fun c96 => ?_) (fun c96 => ?_)
        ·first | cases c96 | cases bnt c96 | cases bnf c96 | try rw [c96]
         try simp at c96
        ·first | cases c96 | cases bnt c96 | cases bnf c96 | try rw [c96]
         try simp at c96
         refine .rn [3,4,5] [] ?_
         refine .done ?_
         refine .condS rfl (fun c99 => ?_) (fun c99 => ?_)
         ·try simp at c99
         ·try simp at c99
          refine .skip (.seq (.rn ?_))
          refine .block ?_
          refine .loopS (fun j : Nat => ([(3, .vp [ints R.ps, .int .i64 R.sc, turns R.ts]),(7, .int .i64 e),(8, ints L),(14, .int .i64 s),(15, .bool true),(73, ints R.ps),(74, .int .i64 R.ps.length),(75, .int .i64 k),(100, ints W),(101, .int .i64 W.length),(102, .int .i64 j)], VHeap.empty)) (fun j => j ≤ W.length) (fun j => W.length - j) 0 (by simp) (.mk [] [] zz8 zz9 rfl rfl rfl) ?_
          intro j hj
          simp only at hj ⊢
          refine .seq (.rn ?_)
          refine .seq ?_
          refine .condS rfl (fun c103 => ?_) (fun c103 => ?_)
          ·try simp at c103
           have hwj := wr1 j
           obtain ⟨x, hx⟩ : ∃ x, W[j] = x := ⟨_, rfl⟩
           have hxm : x ∈ W := hx ▸ List.getElem_mem c103
           refine .skip (.seq (.block (.seq (.rn ?_))))
           refine .seq ?_
           refine .regionL [0,1,2,3,4,5,6,7,8,9,10,11,12] rfl zz0 ?_
           refine .rn [0,1] [2,3,4,5,6,7,8,9,10,11,12] ?_
           refine .pc rfl rfl rfl rfl rfl Tryz.call29 (p29 L x hL0) ?_
           obtain ⟨y, hy⟩ : ∃ y, decide (x ∈ L) = y := ⟨_, rfl⟩
           rw [hy]
           refine .rn [3] [4,5,6,7,8,9,10,11,12] ?_
           refine .split (t := 109) rfl (fun c109 => ?_) (fun c109 => ?_)
           ·first | cases c109 | cases bnt c109 | cases bnf c109 | try rw [c109]
            try simp at c109
            have hsL : s ∈ L := by obtain ⟨b, hb1, hb2⟩ := hself x (of_decide_eq_true hy) hxm; injection hb1 with hb1; subst hb1; exact hb2
            refine .rn [4,5,6] [7,8,9,10,11,12] ?_
            refine .split (t := 112) rfl (fun c112 => ?_) (fun c112 => ?_)
            ·first | cases c112 | cases bnt c112 | cases bnf c112 | try rw [c112]
             try simp at c112
            ·first | cases c112 | cases bnt c112 | cases bnf c112 | try rw [c112]
             try simp at c112
             refine .rn [7,8] [9,10,11,12] ?_
             refine .pc rfl rfl rfl rfl rfl Tryz.call29 (p29 L s hL0) ?_
             rw [decide_eq_true hsL]
             refine .rn [10,11,12] [] ?_
             refine .done ?_
             refine .condS rfl (fun c118 => ?_) (fun c118 => ?_)
             ·try simp at c118
             ·try simp at c118
              refine .skip (.rn ?_)
              refine ⟨j + 1,zz3,zz3,(.mk [] [] zz8 zz9 rfl rfl rfl)⟩
           ·first | cases c109 | cases bnt c109 | cases bnf c109 | try rw [c109]
            try simp at c109
            refine .rn [4,5,6,7,8,9,10,11,12] [] ?_
            refine .done (.condF rfl (.skip (.rn ?_)))
            refine ⟨j + 1,zz3,zz3,(.mk [] [] zz8 zz9 rfl rfl rfl)⟩
          ·try simp at c103
           refine .exit (.rn ?_)
           refine ⟨k + 1,zz3,zz3,(.mk [] [] zz8 zz9 rfl rfl rfl)⟩
      ·try simp at c76
       refine .exit (.seq ?_)
       refine .regionL [0,1,2,3,4,5,6,7] rfl zz0 ?_
       refine .rn [0,1] [2,3,4,5,6,7] ?_
       refine .pc rfl rfl rfl rfl rfl Tryz.call54 (hrd) ?_
       obtain ⟨Z, hZ⟩ : ∃ Z, readyL D R.ps = Z := ⟨_, rfl⟩
       have hZl : Z.length < 1000 := by rw [← hZ]; have := readyL_len D R.ps; have := hr.2.1; omega
       have hZm : ∀ x ∈ Z, x.1 ∉ L := fun x hx => ready_out hL (by rw [hZ]; exact hx)
       rw [hZ]
       refine .rn [3,4,5,6,7] [] ?_
       refine .done (.seq (.seq (.rn ?_)))
       refine .block ?_
       refine .loopS (fun k : Nat => ([(8, ints L),(22, .int .i64 0),(127, .vec (Z.map encA)),(128, .int .i64 Z.length),(129, .int .i64 k)], VHeap.empty)) (fun k => k ≤ Z.length) (fun k => Z.length - k) 0 (by simp) (.mk [] [] zz8 zz9 rfl rfl rfl) ?_
       intro k hk
       simp only at hk ⊢
       refine .seq (.rn ?_)
       refine .seq ?_
       refine .condS rfl (fun c130 => ?_) (fun c130 => ?_)
       ·try simp at c130
        have hw2 := wr1 k
        obtain ⟨x, hx⟩ : ∃ x, Z[k] = x := ⟨_, rfl⟩
        have hxm := hZm x (hx ▸ List.getElem_mem c130)
        obtain ⟨xa, xb⟩ := x
        refine .skip (.seq (.block (.seq (.rn ?_))))
        refine .seq ?_
        refine .regionL [0,1,2,3] rfl zz0 ?_
        refine .rn [0,1,2] [3] ?_
        refine .pc rfl rfl rfl rfl rfl Tryz.call29 (p29 L xa hL0) ?_
        rw [decide_eq_false hxm]
        refine .done ?_
        refine .condS rfl (fun c136 => ?_) (fun c136 => ?_)
        ·try simp at c136
        ·try simp at c136
         refine .skip (.rn ?_)
         refine ⟨k + 1,zz3,zz3,(.mk [] [] zz8 zz9 rfl rfl rfl)⟩
       ·try simp at c130
        refine .exit (.seq ?_)
        refine .regionL [0,1,2,3,4,5] rfl zz0 ?_
        refine .pc rfl rfl rfl rfl rfl Tryz.call15 (hs) ?_
        refine .rn [1] [2,3,4,5] ?_
        refine .split (t := 139) rfl (fun c139 => ?_) (fun c139 => ?_)
        ·first | cases c139 | cases bnt c139 | cases bnf c139 | try rw [c139]
         try simp at c139
         refine .rn [2,3,4,5] [] ?_
         refine .done (.ret ?_)
         refine ⟨_, _, zz2,zz2, ?_⟩
         first | rfl | (simp [*]; done) | (simp_all; done)
        ·first | cases c139 | cases bnt c139 | cases bnf c139 | try rw [c139]
         try simp at c139
theorem p12 (R : Reg) (a : Nat) (L0 : List Int) (hR : R.ps.length < inex ∧ R.ts.length < inex) (ha : a < 65536) (h0 : L0.length < inex) : VPure Tryz.prog 12 [encR R, .int .u16 a, ints L0] fun r => r = .bool true := p12w p15 R a L0 hR.1 hR.2 ha h0
end Go.Am.Hi
end
