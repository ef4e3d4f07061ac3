/-
 What is used in the proof of a statement (part DsG); no condition.
-/
import Derived.Test.YtnablaecbohhmaaGreatDsT
import Derived.Test.YtnablaecbohhmaaGreatVm2
import Derived.Test.YtnablaecbohhmaaGreatDsF
set_option linter.all false
section
namespace Go.Am.Ds
open Go Go.Am Go.Proofs
set_option maxRecDepth 100000
set_option maxHeartbeats 4000000
set_option linter.unusedSimpArgs false
set_option linter.unusedVariables false
attribute [local simp] vrun vwanted vyielded vop vopA vputAll VHeap.back hidI hidF backL bm Nat.testBit_eq_decide_div_mod_eq veval vevals vparts vO vbuiltin vlen vappend velems vcopy vmakeSlice vbuildSlice valloc vbox vmakeMap vload vpartT vpart vstore vfieldAddr vfield vindexAddr vindex vextract vslice vsliceZ vbounds vbnd zeroO vidx vlookup vmget vmapUpdate vdelete vclear vnilq vnilp vnils vbin vsc vsc1 vscs vscl abinOp aint ashift aunOp aconvert amaxs amax2 pvcV pvc pvcs tput tget vargs VHeap.get VHeap.alloc VHeap.put VHeap.drop VHeap.empty vlook vput vdrop psplice pfill preps chunk List.range List.range.loop vresults vresult vresultV frz frzL PV.isF PV.allF PV.scal PV.allS retP subT allFT PV.one PV.ids PV.idsL dropL beq_eq ble_dec blt_dec
attribute [local simp] zW tup2
def stepC (x : List Int × Int) (y : Int × Int) : List Int × Int := if x.1 ≠ [] ∧ x.2 < y.2 then x else if x.1 = [] ∨ y.2 < x.2 then ([y.1], y.2) else (x.1 ++ [y.1], x.2)
def choF (s : List Wit) (c : Wit) : List Int × Int := (parS s c).foldl stepC ([],0)
def chP (s : List Wit) (c : Wit) (k : Nat) : List Int × Int := (headP c ++ ((idsS s).take k).filterMap (stepP s c)).foldl stepC ([],0)
theorem chP_zero (s : List Wit) (c : Wit) : chP s c 0 = (headP c).foldl stepC ([],0) := by simp [chP]
theorem chP_all (s : List Wit) (c : Wit) : chP s c (idsS s).length = choF s c := by simp [chP, choF, parS]
theorem chP_succ (s : List Wit) (c : Wit) (k : Nat) (h : k < (idsS s).length) : chP s c (k + 1) = ((stepP s c (idsS s)[k]).toList).foldl stepC (chP s c k) := by
 simp only [chP, take_succ_fm _ _ _ h, List.foldl_append]
theorem foldC_len : ∀ (l : List (Int × Int)) (x : List Int × Int),(l.foldl stepC x).1.length ≤ x.1.length + l.length
 | [], x => by simp
 | y :: r, x => by
  have ih := foldC_len r (stepC x y)
  have : (stepC x y).1.length ≤ x.1.length + 1 := by
   unfold stepC
   split
   ·omega
   ·split <;> simp
  simp only [List.foldl_cons, List.length_cons]
  omega
theorem chP_len (s : List Wit) (c : Wit) (k : Nat) : (chP s c k).1.length ≤ k + 1 := by
 have h1 : (((idsS s).take k).filterMap (stepP s c)).length ≤ k := Nat.le_trans (List.length_filterMap_le _ _) (by simp; omega)
 have h2 : (headP c).length ≤ 1 := by unfold headP; split <;> simp
 have := foldC_len (headP c ++ ((idsS s).take k).filterMap (stepP s c)) ([],0)
 simp only [List.length_append, List.length_nil] at this
 simp only [chP]; omega
def encC (x : List Int × Int) : PV := .agg [ints x.1, .int .i64 x.2]
@[simp] theorem allSz_encC (l : List (List Int × Int)) : allSz 2 (l.map encC) = true := allSz_map (f := encC) (n := 2) (fun _ => rfl) l
@[simp] theorem allOne_encC (l : List (List Int × Int)) : allOne (l.map encC) = true := allOne_map (f := encC) (fun _ => rfl) l
def chE (s : List Wit) : Int := if checkS s = 0 then (if ∃ c ∈ s, (choF s c).1 = [] then 9 else 0) else checkS s
def chL (s : List Wit) : List (List Int × Int) := if chE s = 0 then s.map (choF s) else []
theorem p108 (s : List Wit) (hl : s.length < 4294967296) : VPure Tryz.prog 108 [encS s] fun r => Soft r (.tup [.vec ((chL s).map encC), .int .i64 (chE s)]) := by
 refine .of_body Tryz.func108 rfl rfl ?_
 refine .seq ?_
 refine .rn ?_
 refine .seq ?_
 refine .seq ?_
 refine .regionL [0,1,2] rfl zz0 ?_
 refine .rn [0] [1,2] ?_
 refine .step rfl rfl (.pure rfl rfl rfl Tryz.call35 (by decide) (p35 s hl) (by first | rfl | simp [*]) ?_)
 rintro _ rfl
 refine .rn [2] [] ?_
 refine .done ?_
 refine .seq ?_
 refine .rn ?_
 refine .condS rfl (fun c14 => ?_) (fun c14 => ?_)
 ·try simp at c14
  refine .seq ?_
  refine .rn ?_
  refine .ret ?_
  refine ⟨_, _, zz4,zz4, ?_⟩
  have e1 : chE s = checkS s := by unfold chE; rw [if_neg c14]
  have e2 : chL s = [] := by unfold chL; rw [e1, if_neg c14]
  rw [e1, e2]
  exact soft_tup (AltL.cons .sl0v (AltL.cons (.same _ rfl) AltL.nil))
 ·try simp at c14
  have hck := checkS_lens c14
  refine .skip ?_
  refine .seq ?_
  refine .rn ?_
  refine .seq ?_
  refine .seq ?_
  refine .rn ?_
  refine .block ?_
  refine .loopS (fun i : Nat => ([(1, .ptr 0 0),(5, .grow 1 i true),(17, .vec (s.map encW)),(18, .int .i64 s.length),(19, .int .i64 i)], ⟨2,[(1, .grow 2 (((s.take i).map (choF s)).map encC)),(0, .box [.vec (s.map encW)])]⟩)) (fun i => i ≤ s.length ∧ ∀ c ∈ s.take i, (choF s c).1 ≠ []) (fun i => s.length - i) 0 (by simp) (.mk [] [] zz10 zz11 rfl rfl rfl) ?_
  rintro i ⟨hi, hne⟩
  simp only at hi hne ⊢
  refine .seq ?_
  refine .rn ?_
  refine .seq ?_
  refine .condS rfl (fun c20 => ?_) (fun c20 => ?_)
  ·try simp at c20
   have hw2 : IntKind.i64.wrap ((i : Int) + 1) = (i : Int) + 1 := wrap64 (by omega) (by omega)
   obtain ⟨hw1, hw3, hw4⟩ := hck s[i] (List.getElem_mem c20)
   have hE : encW s[i] = .agg [.int .i64 s[i].id, .int .i64 s[i].known, ints s[i].slips, ints s[i].mended, ints s[i].models, .int .i64 s[i].lo, .int .i64 s[i].hi] := rfl
   refine .skip ?_
   refine .seq ?_
   refine .block ?_
   refine .seq ?_
   refine .rn ?_
   refine .seq ?_
   refine .rn ?_
   refine .seq ?_
   refine .seq ?_
   refine .regionL [0,1,2] rfl zz0 ?_
   refine .rn [0,1] [2] ?_
   refine .step rfl rfl (.pure rfl rfl rfl Tryz.call106 (by decide) (p106 s s[i]) (by first | rfl | simp [*]) ?_)
   rintro _ rfl
   refine .done ?_
   refine .block ?_
   refine .rangeFunc rfl Tryz.call166 Tryz.func166 rfl rfl rfl ?_
   refine .seq ?_
   refine .seq ?_
   refine .regionL [0,1,2,3,4,5,6] rfl zz0 ?_
   refine .rn [0] [1,2,3,4,5,6] ?_
   refine .step rfl rfl (.pure rfl rfl rfl Tryz.call101 (by decide) (p101a s[i] hw4) (by first | rfl | simp [*]) ?_)
   rintro _ rfl
   refine .rn [2,3,4,5,6] [] ?_
   refine .done ?_
   refine .seq ?_
   refine .regionL [0,1,2,3,4,5,6,7,8,9] rfl zz0 ?_
   refine .rn [0,1,2] [3,4,5,6,7,8,9] ?_
   refine .split (t := 18) rfl (fun c18 => ?_) (fun c18 => ?_)
   ·try rw [c18]
    try simp at c18
    have hO : chP s s[i] 0 = ([0],(s[i].slips.length : Int)) := by rw [chP_zero, headP, if_pos c18]; simp [stepC]
    refine .rn [3,4,5,6] [7,8,9] ?_
    refine .step rfl rfl (.yield rfl rfl rfl rfl rfl (by decide) rfl ?_)
    refine .seq ?_
    refine .rn ?_
    refine .rn ?_
    refine .block ?_
    refine .seq ?_
    refine .seq ?_
    refine .regionL [0,1,2,3,4,5,6,7,8,9] rfl zz0 ?_
    refine .rn [0,1,2,3,4] [5,6,7,8,9] ?_
    refine .split (t := 32) rfl (fun c32 => ?_) (fun c32 => ?_)
    ·try rw [c32]
     try simp at c32
    ·try rw [c32]
     try simp at c32
     refine .rn [5,6,7,8,9] [] ?_
     refine .done ?_
     refine .condF rfl ?_
     refine .skip ?_
     refine .seq ?_
     refine .seq ?_
     refine .regionL [0,1,2,3,4,5,6,7,8,9] rfl zz0 ?_
     refine .rn [0,1,2,3,4] [5,6,7,8,9] ?_
     refine .split (t := 42) rfl (fun c42 => ?_) (fun c42 => ?_)
     ·try rw [c42]
      try simp at c42
      refine .rn [5,6,7,8,9] [] ?_
      refine .done ?_
      refine .condT rfl ?_
      refine .rn ?_
      refine .rn ?_
      change VOps _ _ _ _ _ _ _ _
      refine .rn [8,9] [] ?_
      refine .done ?_
      refine .condF rfl ?_
      refine .skip ?_
      refine .seq ?_
      refine .regionL [0,1,2,3] rfl zz0 ?_
      refine .rn [0] [1,2,3] ?_
      refine .step rfl rfl (.pure rfl rfl rfl Tryz.call99 (by decide) (p99' s hl) (by first | rfl | simp [*]) ?_)
      rintro _ rfl
      refine .rn [2,3] [] ?_
      refine .done ?_
      refine .block ?_
      refine .loopS (fun k : Nat => ([(0, .yld 4),(1, .vp (encW s[i]).cells),(2, .vp (encS s).cells),(27, ints (idsS s)),(28, .int .i64 (idsS s).length),(29, .int .i64 k)], ⟨6,[(5, .grow 1 ((chP s s[i] k).1.map (.int .i64))),(4, .loop 66 #[26,27] _ _ [(8, .ptr 3 0)] none),(3, .box [.grow 5 (chP s s[i] k).1.length true, .int .i64 (chP s s[i] k).2]),(1, .grow 2 (((s.take i).map (choF s)).map encC)),(0, .box [.vec (s.map encW)])]⟩)) (fun k => k ≤ (idsS s).length) (fun k => (idsS s).length - k) 0 (by simp) (.mk [] [(5,6)] zz10 zz11 rfl rfl rfl) ?_
      rintro k hk
      simp only at hk ⊢
      have hol := chP_len s s[i] k
      refine .seq ?_
      refine .rn ?_
      refine .seq ?_
      refine .condS rfl (fun c30 => ?_) (fun c30 => ?_)
      ·try simp at c30
       have hw2' : IntKind.i64.wrap ((k : Int) + 1) = (k : Int) + 1 := by have := idsS_len s; exact wrap64 (by omega) (by omega)
       have hmem := find_ids (List.getElem_mem c30)
       obtain ⟨j, hj, hje, hgb⟩ := getW_some hmem
       obtain ⟨hv1, hv2, hv3⟩ := hck s[j] (List.getElem_mem hj)
       have hE2 : encW s[j] = .agg [.int .i64 s[j].id, .int .i64 s[j].known, ints s[j].slips, ints s[j].mended, ints s[j].models, .int .i64 s[j].lo, .int .i64 s[j].hi] := rfl
       have hb : (chP s s[i] k).1.length + 1 ≤ 4294967296 := by have := idsS_len s; omega
       refine .skip ?_
       refine .seq ?_
       refine .block ?_
       refine .seq ?_
       refine .rn ?_
       refine .seq ?_
       refine .drawnF (ms := [0,1,0,0,12,31,63,0,255]) (W := [4,8]) (As := [7]) (items := [.op 0, .op 1, .op 2, .op 3, .op 7, .op 4, .ck 1, .op 5, .op 6, .op 8]) rfl zz0 zz0 zz0 zz0 (by decide) ?_
       refine .rd rfl rfl (by decide) (by decide) (by decide) rfl (by decide) zz1 ?_   -- 0
       refine .rd rfl rfl (by decide) (by decide) (by decide) rfl (by decide) zz1 ?_   -- 1
       refine .rd rfl rfl (by decide) (by decide) (by decide) rfl (by decide) zz1 ?_   -- 2
       refine .rd rfl rfl (by decide) (by decide) (by decide) rfl (by decide) zz1 ?_   -- 3
       refine .al rfl rfl (by decide) (by decide) (by decide) (by decide) zz1 ?_   -- 7
       refine .wr rfl rfl (by decide) (.pure rfl rfl rfl Tryz.call105 (by decide) (p105' s _ hl) (by first | rfl | simp [*]) ?_)
       rintro _ rfl
       refine .ck rfl zz0 ?_   -- 1
       refine .rd rfl rfl (by decide) (by decide) (by decide) rfl (by decide) zz1 ?_   -- 5
       refine .rd rfl rfl (by decide) (by decide) (by decide) rfl (by decide) zz1 ?_   -- 6
       refine .wr rfl rfl (by decide) (.vop zz1 (by decide) ?_)   -- 8
       refine .done ?_
       refine .seq ?_
       refine .seq ?_
       refine .regionL [0,1,2,3,4,5,6] rfl zz0 ?_
       refine .rn [0] [1,2,3,4,5,6] ?_
       refine .step rfl rfl (.borrow rfl rfl rfl Tryz.call101 (by decide) (by first | (simp <;> rfl) | (simp [*] <;> rfl) | (simp [*]; done)) (p101b s[i] s[j] hw1 hw3 hw4 hv1) (by rintro _ rfl <;> simp) ?_)
       rintro _ rfl
       refine .rn [2,3,4,5,6] [] ?_
       refine .done ?_
       refine .seq ?_
       refine .rn ?_
       refine .condS rfl (fun c46 => ?_) (fun c46 => ?_)
       ·try simp at c46
        have hS2 : chP s s[i] (k + 1) = chP s s[i] k := by rw [chP_succ s s[i] k c30, stepP, hgb]; simp [c46]
        refine .exit ?_
        refine .rn ?_
        refine ⟨k + 1, c30,zz5,(.mk [] [] zz10 zz11 rfl rfl rfl)⟩
       ·try simp at c46
        have hS3 : chP s s[i] (k + 1) = stepC (chP s s[i] k) ((idsS s)[k],((ariS s[i] s[j]).length : Int)) := by rw [chP_succ s s[i] k c30, stepP, hgb]; simp [c46]
        refine .skip ?_
        refine .seq ?_
        refine .regionL [0,1,2,3,4,5,6] rfl zz0 ?_
        refine .rn [0,1,2] [3,4,5,6] ?_
        refine .step rfl rfl (.take rfl rfl rfl Tryz.call109 (by decide) (by first | (simp <;> rfl) | (simp [*] <;> rfl) | (simp [*]; done)) (p109 s[i] s[j] hw1 hv1) ?_)
        rintro _ rfl
        refine .rn [4] [5,6] ?_
        refine .step rfl rfl (.yield rfl rfl rfl rfl rfl (by decide) rfl ?_)
        refine .seq ?_
        refine .rn ?_
        refine .rn ?_
        refine .block ?_
        refine .seq ?_
        refine .seq ?_
        refine .regionL [0,1,2,3,4,5,6,7,8,9] rfl zz0 ?_
        refine .rn [0,1,2,3,4] [5,6,7,8,9] ?_
        refine .split (t := 32) rfl (fun c32 => ?_) (fun c32 => ?_)
        ·try rw [c32]
         try simp at c32
         refine .rn [5,6,7,8,9] [] ?_
         refine .done ?_
         refine .condS rfl (fun c37 => ?_) (fun c37 => ?_)
         ·try simp at c37
          refine .exit ?_
          change VOps _ _ _ _ _ _ _ _
          refine .rn [6] [] ?_
          refine .done ?_
          refine .condF rfl ?_
          refine .skip ?_
          refine .rn ?_
          have hS2 : chP s s[i] (k + 1) = chP s s[i] k := by rw [hS3, stepC, if_pos ⟨fun h => by rw [h] at c32; simp at c32, c37⟩]
          clear hS3
          refine ⟨k + 1, c30,zz5,(.mk [] [] zz10 zz11 rfl rfl rfl)⟩
         ·try simp at c37
          refine .skip ?_
          refine .seq ?_
          refine .seq ?_
          refine .regionL [0,1,2,3,4,5,6,7,8,9] rfl zz0 ?_
          refine .rn [0,1,2,3,4] [5,6,7,8,9] ?_
          refine .split (t := 42) rfl (fun c42 => ?_) (fun c42 => ?_)
          ·try rw [c42]
           try simp at c42
           exfalso; simp_all; done
          ·try rw [c42]
           try simp at c42
           refine .rn [5,6,7,8,9] [] ?_
           refine .done ?_
           refine .condS rfl (fun c47 => ?_) (fun c47 => ?_)
           ·try simp at c47
            refine .rn ?_
            refine .rn ?_
            change VOps _ _ _ _ _ _ _ _
            refine .rn [6] [] ?_
            refine .done ?_
            refine .condF rfl ?_
            refine .skip ?_
            refine .rn ?_
            have hS2 : chP s s[i] (k + 1) = ([(idsS s)[k]],((ariS s[i] s[j]).length : Int)) := by rw [hS3, stepC, if_neg (by rintro ⟨_, h⟩; simp only at h; omega), if_pos (.inr c47)]
            clear hS3
            refine ⟨k + 1, c30,zz5,(.mk [] [(5,8)] zz10 zz11 rfl rfl rfl)⟩
           ·try simp at c47
            refine .skip ?_
            refine .rn ?_
            change VOps _ _ _ _ _ _ _ _
            refine .rn [6] [] ?_
            refine .done ?_
            refine .condF rfl ?_
            refine .skip ?_
            refine .rn ?_
            have hS2 : chP s s[i] (k + 1) = ((chP s s[i] k).1 ++ [(idsS s)[k]],(chP s s[i] k).2) := by rw [hS3, stepC, if_neg (by rintro ⟨_, h⟩; simp only at h; omega), if_neg (by rintro (h | h); exact c42 h; simp only at h; omega)]
            clear hS3
            refine ⟨k + 1, c30,zz5,(.mk [] [(5,8)] zz10 zz11 rfl rfl rfl)⟩
        ·try rw [c32]
         try simp at c32
         refine .rn [5,6,7,8,9] [] ?_
         refine .done ?_
         refine .condF rfl ?_
         refine .skip ?_
         refine .seq ?_
         refine .seq ?_
         refine .regionL [0,1,2,3,4,5,6,7,8,9] rfl zz0 ?_
         refine .rn [0,1,2,3,4] [5,6,7,8,9] ?_
         refine .split (t := 42) rfl (fun c42 => ?_) (fun c42 => ?_)
         ·try rw [c42]
          try simp at c42
          refine .rn [5,6,7,8,9] [] ?_
          refine .done ?_
          refine .condT rfl ?_
          refine .rn ?_
          refine .rn ?_
          change VOps _ _ _ _ _ _ _ _
          refine .rn [6] [] ?_
          refine .done ?_
          refine .condF rfl ?_
          refine .skip ?_
          refine .rn ?_
          have hS2 : chP s s[i] (k + 1) = ([(idsS s)[k]],((ariS s[i] s[j]).length : Int)) := by rw [hS3, stepC, if_neg (fun h => h.1 c32), if_pos (.inl c32)]
          clear hS3
          refine ⟨k + 1, c30,zz5,(.mk [] [(5,8)] zz10 zz11 rfl rfl rfl)⟩
         ·try rw [c42]
          try simp at c42
      ·try simp at c30
       have hkn : k = (idsS s).length := by omega
       subst hkn
       have hall : chP s s[i] (idsS s).length = choF s s[i] := chP_all s s[i]
       refine .exit ?_
       change rfEnd _ _ _ _
       refine rf_none rfl ?_
       refine .seq ?_
       refine .seq ?_
       refine .rn ?_
       refine .condS rfl (fun c59 => ?_) (fun c59 => ?_)
       ·try simp at c59
        refine .seq ?_
        refine .rn ?_
        refine .ret ?_
        refine ⟨_, _, zz4,zz4, ?_⟩
        have e1 : chE s = 9 := by unfold chE; rw [if_pos c14, if_pos ⟨s[i], List.getElem_mem c20, c59⟩]
        have e2 : chL s = [] := by unfold chL; rw [e1]; rfl
        rw [e1, e2]
        exact soft_tup (AltL.cons .sl0v (AltL.cons (.same _ rfl) AltL.nil))
       ·try simp at c59
        have hone : allOne [PV.agg [ints (choF s s[i]).1, .int .i64 (choF s s[i]).2]] = true := rfl
        have hib : i ≤ 4294967295 := by omega
        refine .rec (vts2 := [(1, .ptr 0 0),(5, .grow 1 i true),(8, .ptr 3 0),(17, .vec (s.map encW)),(18, .int .i64 s.length),(19, .int .i64 i)]) (vh2 := ⟨6,[(3, .box [ints (choF s s[i]).1, .int .i64 (choF s s[i]).2]),(1, .grow 2 (((s.take i).map (choF s)).map encC)),(0, .box [.vec (s.map encW)])]⟩) (.mk [5] [] zz10 zz11 rfl rfl rfl) ?_
        refine .skip ?_
        refine .rn ?_
        refine .rn ?_
        have hT : (s.take (i + 1)).map (choF s) = (s.take i).map (choF s) ++ [choF s s[i]] := take_succ_map (choF s) s i c20
        have hEc : encC (choF s s[i]) = .agg [ints (choF s s[i]).1, .int .i64 (choF s s[i]).2] := rfl
        refine ⟨i + 1, ⟨zz5, ?_⟩, zz5,(.mk [] [(1,7)] zz10 zz11 rfl rfl rfl)⟩
        intro c hc
        rw [List.take_succ_eq_append_getElem c20] at hc
        rcases List.mem_append.1 hc with hc | hc
        ·exact hne c hc
        ·rw [List.mem_singleton] at hc
         rw [hc]; exact c59
     ·try rw [c42]
      try simp at c42
   ·try rw [c18]
    try simp at c18
    have hO : chP s s[i] 0 = ([],0) := by rw [chP_zero, headP, if_neg c18]; rfl
    refine .rn [3,4,5,6,7,8,9] [] ?_
    refine .done ?_
    refine .condF rfl ?_
    refine .skip ?_
    refine .seq ?_
    refine .regionL [0,1,2,3] rfl zz0 ?_
    refine .rn [0] [1,2,3] ?_
    refine .step rfl rfl (.pure rfl rfl rfl Tryz.call99 (by decide) (p99' s hl) (by first | rfl | simp [*]) ?_)
    rintro _ rfl
    refine .rn [2,3] [] ?_
    refine .done ?_
    refine .block ?_
    refine .loopS (fun k : Nat => ([(0, .yld 4),(1, .vp (encW s[i]).cells),(2, .vp (encS s).cells),(27, ints (idsS s)),(28, .int .i64 (idsS s).length),(29, .int .i64 k)], ⟨6,[(5, .grow 1 ((chP s s[i] k).1.map (.int .i64))),(4, .loop 66 #[26,27] _ _ [(8, .ptr 3 0)] none),(3, .box [.grow 5 (chP s s[i] k).1.length true, .int .i64 (chP s s[i] k).2]),(1, .grow 2 (((s.take i).map (choF s)).map encC)),(0, .box [.vec (s.map encW)])]⟩)) (fun k => k ≤ (idsS s).length) (fun k => (idsS s).length - k) 0 (by simp) (.mk [] [] zz10 zz11 rfl rfl rfl) ?_
    rintro k hk
    simp only at hk ⊢
    have hol := chP_len s s[i] k
    refine .seq ?_
    refine .rn ?_
    refine .seq ?_
    refine .condS rfl (fun c30 => ?_) (fun c30 => ?_)
    ·try simp at c30
     have hw2' : IntKind.i64.wrap ((k : Int) + 1) = (k : Int) + 1 := by have := idsS_len s; exact wrap64 (by omega) (by omega)
     have hmem := find_ids (List.getElem_mem c30)
     obtain ⟨j, hj, hje, hgb⟩ := getW_some hmem
     obtain ⟨hv1, hv2, hv3⟩ := hck s[j] (List.getElem_mem hj)
     have hE2 : encW s[j] = .agg [.int .i64 s[j].id, .int .i64 s[j].known, ints s[j].slips, ints s[j].mended, ints s[j].models, .int .i64 s[j].lo, .int .i64 s[j].hi] := rfl
     have hb : (chP s s[i] k).1.length + 1 ≤ 4294967296 := by have := idsS_len s; omega
     refine .skip ?_
     refine .seq ?_
     refine .block ?_
     refine .seq ?_
     refine .rn ?_
     refine .seq ?_
     refine .drawnF (ms := [0,1,0,0,12,31,63,0,255]) (W := [4,8]) (As := [7]) (items := [.op 0, .op 1, .op 2, .op 3, .op 7, .op 4, .ck 1, .op 5, .op 6, .op 8]) rfl zz0 zz0 zz0 zz0 (by decide) ?_
     refine .rd rfl rfl (by decide) (by decide) (by decide) rfl (by decide) zz1 ?_   -- 0
     refine .rd rfl rfl (by decide) (by decide) (by decide) rfl (by decide) zz1 ?_   -- 1
     refine .rd rfl rfl (by decide) (by decide) (by decide) rfl (by decide) zz1 ?_   -- 2
     refine .rd rfl rfl (by decide) (by decide) (by decide) rfl (by decide) zz1 ?_   -- 3
     refine .al rfl rfl (by decide) (by decide) (by decide) (by decide) zz1 ?_   -- 7
     refine .wr rfl rfl (by decide) (.pure rfl rfl rfl Tryz.call105 (by decide) (p105' s _ hl) (by first | rfl | simp [*]) ?_)
     rintro _ rfl
     refine .ck rfl zz0 ?_   -- 1
     refine .rd rfl rfl (by decide) (by decide) (by decide) rfl (by decide) zz1 ?_   -- 5
     refine .rd rfl rfl (by decide) (by decide) (by decide) rfl (by decide) zz1 ?_   -- 6
     refine .wr rfl rfl (by decide) (.vop zz1 (by decide) ?_)   -- 8
     refine .done ?_
     refine .seq ?_
     refine .seq ?_
     refine .regionL [0,1,2,3,4,5,6] rfl zz0 ?_
     refine .rn [0] [1,2,3,4,5,6] ?_
     refine .step rfl rfl (.borrow rfl rfl rfl Tryz.call101 (by decide) (by first | (simp <;> rfl) | (simp [*] <;> rfl) | (simp [*]; done)) (p101b s[i] s[j] hw1 hw3 hw4 hv1) (by rintro _ rfl <;> simp) ?_)
     rintro _ rfl
     refine .rn [2,3,4,5,6] [] ?_
     refine .done ?_
     refine .seq ?_
     refine .rn ?_
     refine .condS rfl (fun c46 => ?_) (fun c46 => ?_)
     ·try simp at c46
      have hS2 : chP s s[i] (k + 1) = chP s s[i] k := by rw [chP_succ s s[i] k c30, stepP, hgb]; simp [c46]
      refine .exit ?_
      refine .rn ?_
      refine ⟨k + 1, c30,zz5,(.mk [] [] zz10 zz11 rfl rfl rfl)⟩
     ·try simp at c46
      have hS3 : chP s s[i] (k + 1) = stepC (chP s s[i] k) ((idsS s)[k],((ariS s[i] s[j]).length : Int)) := by rw [chP_succ s s[i] k c30, stepP, hgb]; simp [c46]
      refine .skip ?_
      refine .seq ?_
      refine .regionL [0,1,2,3,4,5,6] rfl zz0 ?_
      refine .rn [0,1,2] [3,4,5,6] ?_
      refine .step rfl rfl (.take rfl rfl rfl Tryz.call109 (by decide) (by first | (simp <;> rfl) | (simp [*] <;> rfl) | (simp [*]; done)) (p109 s[i] s[j] hw1 hv1) ?_)
      rintro _ rfl
      refine .rn [4] [5,6] ?_
      refine .step rfl rfl (.yield rfl rfl rfl rfl rfl (by decide) rfl ?_)
      refine .seq ?_
      refine .rn ?_
      refine .rn ?_
      refine .block ?_
      refine .seq ?_
      refine .seq ?_
      refine .regionL [0,1,2,3,4,5,6,7,8,9] rfl zz0 ?_
      refine .rn [0,1,2,3,4] [5,6,7,8,9] ?_
      refine .split (t := 32) rfl (fun c32 => ?_) (fun c32 => ?_)
      ·try rw [c32]
       try simp at c32
       refine .rn [5,6,7,8,9] [] ?_
       refine .done ?_
       refine .condS rfl (fun c37 => ?_) (fun c37 => ?_)
       ·try simp at c37
        refine .exit ?_
        change VOps _ _ _ _ _ _ _ _
        refine .rn [6] [] ?_
        refine .done ?_
        refine .condF rfl ?_
        refine .skip ?_
        refine .rn ?_
        have hS2 : chP s s[i] (k + 1) = chP s s[i] k := by rw [hS3, stepC, if_pos ⟨fun h => by rw [h] at c32; simp at c32, c37⟩]
        clear hS3
        refine ⟨k + 1, c30,zz5,(.mk [] [] zz10 zz11 rfl rfl rfl)⟩
       ·try simp at c37
        refine .skip ?_
        refine .seq ?_
        refine .seq ?_
        refine .regionL [0,1,2,3,4,5,6,7,8,9] rfl zz0 ?_
        refine .rn [0,1,2,3,4] [5,6,7,8,9] ?_
        refine .split (t := 42) rfl (fun c42 => ?_) (fun c42 => ?_)
        ·try rw [c42]
         try simp at c42
         exfalso; simp_all; done
        ·try rw [c42]
         try simp at c42
         refine .rn [5,6,7,8,9] [] ?_
         refine .done ?_
         refine .condS rfl (fun c47 => ?_) (fun c47 => ?_)
         ·try simp at c47
          refine .rn ?_
          refine .rn ?_
          change VOps _ _ _ _ _ _ _ _
          refine .rn [6] [] ?_
          refine .done ?_
          refine .condF rfl ?_
          refine .skip ?_
          refine .rn ?_
          have hS2 : chP s s[i] (k + 1) = ([(idsS s)[k]],((ariS s[i] s[j]).length : Int)) := by rw [hS3, stepC, if_neg (by rintro ⟨_, h⟩; simp only at h; omega), if_pos (.inr c47)]
          clear hS3
          refine ⟨k + 1, c30,zz5,(.mk [] [(5,8)] zz10 zz11 rfl rfl rfl)⟩
         ·try simp at c47
          refine .skip ?_
          refine .rn ?_
          change VOps _ _ _ _ _ _ _ _
          refine .rn [6] [] ?_
          refine .done ?_
          refine .condF rfl ?_
          refine .skip ?_
          refine .rn ?_
          have hS2 : chP s s[i] (k + 1) = ((chP s s[i] k).1 ++ [(idsS s)[k]],(chP s s[i] k).2) := by rw [hS3, stepC, if_neg (by rintro ⟨_, h⟩; simp only at h; omega), if_neg (by rintro (h | h); exact c42 h; simp only at h; omega)]
          clear hS3
          refine ⟨k + 1, c30,zz5,(.mk [] [(5,8)] zz10 zz11 rfl rfl rfl)⟩
      ·try rw [c32]
       try simp at c32
       refine .rn [5,6,7,8,9] [] ?_
       refine .done ?_
       refine .condF rfl ?_
       refine .skip ?_
       refine .seq ?_
       refine .seq ?_
       refine .regionL [0,1,2,3,4,5,6,7,8,9] rfl zz0 ?_
       refine .rn [0,1,2,3,4] [5,6,7,8,9] ?_
       refine .split (t := 42) rfl (fun c42 => ?_) (fun c42 => ?_)
       ·try rw [c42]
        try simp at c42
        refine .rn [5,6,7,8,9] [] ?_
        refine .done ?_
        refine .condT rfl ?_
        refine .rn ?_
        refine .rn ?_
        change VOps _ _ _ _ _ _ _ _
        refine .rn [6] [] ?_
        refine .done ?_
        refine .condF rfl ?_
        refine .skip ?_
        refine .rn ?_
        have hS2 : chP s s[i] (k + 1) = ([(idsS s)[k]],((ariS s[i] s[j]).length : Int)) := by rw [hS3, stepC, if_neg (fun h => h.1 c32), if_pos (.inl c32)]
        clear hS3
        refine ⟨k + 1, c30,zz5,(.mk [] [(5,8)] zz10 zz11 rfl rfl rfl)⟩
       ·try rw [c42]
        try simp at c42
    ·try simp at c30
     have hkn : k = (idsS s).length := by omega
     subst hkn
     have hall : chP s s[i] (idsS s).length = choF s s[i] := chP_all s s[i]
     refine .exit ?_
     change rfEnd _ _ _ _
     refine rf_none rfl ?_
     refine .seq ?_
     refine .seq ?_
     refine .rn ?_
     refine .condS rfl (fun c59 => ?_) (fun c59 => ?_)
     ·try simp at c59
      refine .seq ?_
      refine .rn ?_
      refine .ret ?_
      refine ⟨_, _, zz4,zz4, ?_⟩
      have e1 : chE s = 9 := by unfold chE; rw [if_pos c14, if_pos ⟨s[i], List.getElem_mem c20, c59⟩]
      have e2 : chL s = [] := by unfold chL; rw [e1]; rfl
      rw [e1, e2]
      exact soft_tup (AltL.cons .sl0v (AltL.cons (.same _ rfl) AltL.nil))
     ·try simp at c59
      have hone : allOne [PV.agg [ints (choF s s[i]).1, .int .i64 (choF s s[i]).2]] = true := rfl
      have hib : i ≤ 4294967295 := by omega
      refine .rec (vts2 := [(1, .ptr 0 0),(5, .grow 1 i true),(8, .ptr 3 0),(17, .vec (s.map encW)),(18, .int .i64 s.length),(19, .int .i64 i)]) (vh2 := ⟨6,[(3, .box [ints (choF s s[i]).1, .int .i64 (choF s s[i]).2]),(1, .grow 2 (((s.take i).map (choF s)).map encC)),(0, .box [.vec (s.map encW)])]⟩) (.mk [5] [] zz10 zz11 rfl rfl rfl) ?_
      refine .skip ?_
      refine .rn ?_
      refine .rn ?_
      have hT : (s.take (i + 1)).map (choF s) = (s.take i).map (choF s) ++ [choF s s[i]] := take_succ_map (choF s) s i c20
      have hEc : encC (choF s s[i]) = .agg [ints (choF s s[i]).1, .int .i64 (choF s s[i]).2] := rfl
      refine ⟨i + 1, ⟨zz5, ?_⟩, zz5,(.mk [] [(1,7)] zz10 zz11 rfl rfl rfl)⟩
      intro c hc
      rw [List.take_succ_eq_append_getElem c20] at hc
      rcases List.mem_append.1 hc with hc | hc
      ·exact hne c hc
      ·rw [List.mem_singleton] at hc
       rw [hc]; exact c59
  ·try simp at c20
   have : i = s.length := by omega
   subst this
   rw [List.take_length] at hne
   refine .exit ?_
   refine .seq ?_
   refine .rn ?_
   refine .ret ?_
   refine ⟨_, _, zz4,zz4, ?_⟩
   have e1 : chE s = 0 := by unfold chE; rw [if_pos c14, if_neg (by rintro ⟨c, h1, h2⟩; exact hne c h1 h2)]
   have e2 : chL s = s.map (choF s) := by unfold chL; rw [e1]; rfl
   rw [e1, e2]
   have e3 : List.take s.length (List.map (encC ∘ choF s) s) = List.map encC (List.map (choF s) s) := by rw [List.take_of_length_le (by simp), List.map_map]
   show Soft _ _
   rw [e3]; exact soft_rfl rfl
end Go.Am.Ds
end
