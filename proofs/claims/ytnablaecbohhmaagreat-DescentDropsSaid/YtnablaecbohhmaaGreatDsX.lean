/-
 What is used in the proof of a statement (part DsX); no condition.
-/
import Derived.Test.YtnablaecbohhmaaGreatDsT
import Derived.Test.YtnablaecbohhmaaGreatVm2
import Derived.Test.YtnablaecbohhmaaGreatDsC
import Derived.Test.YtnablaecbohhmaaGreatDsG
import Derived.Test.YtnablaecbohhmaaGreatDsF
import Derived.Test.YtnablaecbohhmaaGreatDsS
set_option linter.all false
namespace Go.Am
open Go Go.Proofs
section
variable {P : Program} {N b : Nat} {vts : VTs} {vh : VHeap}
theorem VOps.pc {ops : Array Oper} {K : VTs → VHeap → Prop} {i : Nat} {r : List Nat} {o : Oper} {fo : Operand} {args : Array Operand} {aT : Array TypeId} {f : FuncId} {xs ys l : List PV} {v : PV} (ho : ops[i]? = some o) (hw : vwanted ops o vts = some true) (hc : o.op = .call ⟨.value fo, args, aT⟩) (hf : veval vts fo = some (.func f xs ys)) (hl : vevals vts args.toList = some l) (hcf : ∀ cs w, (callFunc f cs).run P w = .ok (.enter f cs) w) (hp : VPure P f (xs ++ l ++ ys) fun r => r = v) (k : VOps P N b ops K r (tput vts o.dst v) vh) (hd : dstOK N o.dst = true := by decide) (hF : PV.allF (xs ++ l ++ ys) = true := by first | rfl | simp [*]) : VOps P N b ops K (i :: r) vts vh := .step ho hw (.pure hc hf hl hcf hd hp hF fun r h => by subst h; exact k)
theorem VScr.wp {ops : Array Oper} {W todo : List Nat} {K : VTs → VHeap → Prop} {m : Nat} {r : List SItem} {o : Oper} {fo : Operand} {args : Array Operand} {aT : Array TypeId} {f : FuncId} {xs ys l : List PV} {v : PV} (ho : ops[m]? = some o) (hw : vwanted ops o vts = some true) (hc : o.op = .call ⟨.value fo, args, aT⟩) (hf : veval vts fo = some (.func f xs ys)) (hl : vevals vts args.toList = some l) (hcf : ∀ cs w, (callFunc f cs).run P w = .ok (.enter f cs) w) (hp : VPure P f (xs ++ l ++ ys) fun r => r = v) (k : VScr P N b ops W K r (todoF ops todo o.dst) (tput vts o.dst v) vh) (hW : W.contains m = true := by decide) (hd : dstOK N o.dst = true := by decide) (hF : PV.allF (xs ++ l ++ ys) = true := by first | rfl | simp [*]) : VScr P N b ops W K (.op m :: r) todo vts vh := .wr ho hw hW (.pure hc hf hl hcf hd hp hF fun r h => by subst h; exact k)
theorem VScr.ux {ops : Array Oper} {W todo : List Nat} {K : VTs → VHeap → Prop} {m : Nat} {r : List SItem} {o : Oper} (k : VScr P N b ops W K r (todoF ops todo o.dst) (tput vts o.dst (.tup [])) vh) (ho : ops[m]? = some o := by rfl) (hw : vwanted ops o vts = some false := by rfl) (hd : dstOK N o.dst = true := by decide) : VScr P N b ops W K (.op m :: r) todo vts vh := .un ho hw hd k
theorem VScr.wv {ops : Array Oper} {W todo : List Nat} {K : VTs → VHeap → Prop} {m : Nat} {r : List SItem} {o : Oper} {v : PV} {vh' : VHeap} (k : VScr P N b ops W K r (bif isA o.op then todoF ops todo o.dst else []) (tput vts o.dst v) vh') (ho : ops[m]? = some o := by rfl) (hw : vwanted ops o vts = some true := by rfl) (hW : W.contains m = true := by decide) (hv : vop P vts vh o.op = some (v, vh') := by simp [*] <;> first | exact ⟨rfl, rfl⟩ | exact rfl) (hd : dstOK N o.dst = true := by decide) : VScr P N b ops W K (.op m :: r) todo vts vh := .wr ho hw hW (.vop hv hd k)
theorem VScrF.rf {ops : Array Oper} {ms : List Nat} {W As todo : List Nat} {K : VTs → VHeap → Prop} {m : Nat} {r : List SItem} {o : Oper} {vfl : List (Nat × Nat)} {Ar : List Nat} {v : PV} (k : VScrF P N b ops ms W As K r (bif selfFree o && vfl.isEmpty then m :: todoF ops todo o.dst else todoF ops todo o.dst) vfl Ar (tput vts o.dst v) vh) (ho : ops[m]? = some o := by rfl) (hw : vwanted ops o vts = some true := by rfl) (hW : W.contains m = false := by decide) (hA : Ar.contains m = false := by decide) (hA2 : As.contains m = false := by decide) (hr : isR o.op = true := by rfl) (hd : dstOK N o.dst = true := by decide) (hv : vop P vts (dropL (hidI ms m vfl) vh) o.op = some (v, dropL (hidI ms m vfl) vh) := by simp [*] <;> first | exact ⟨rfl, rfl⟩ | exact rfl) : VScrF P N b ops ms W As K (.op m :: r) todo vfl Ar vts vh := .rd ho hw hW hA hA2 hr hd hv k
theorem wr1 (k : Nat) (h : k < 4611686018427387904 := by omega) : IntKind.i64.wrap ((k : Int) + 1) = (k : Int) + 1 := wrap64 (by omega) (by omega)
end
end Go.Am
namespace Go.Am.Ds
open Go Go.Am Go.Proofs
theorem encW_e (w : Wit) : encW w = .agg [.int .i64 w.id, .int .i64 w.known, ints w.slips, ints w.mended, ints w.models, .int .i64 w.lo, .int .i64 w.hi] := rfl
end Go.Am.Ds
set_option maxHeartbeats 40000000
set_option maxRecDepth 100000
namespace Go.Am
open Go Go.Proofs
section
variable {P : Program} {N b : Nat} {vts : VTs} {vh : VHeap}
theorem VScr.rx {ops : Array Oper} {W todo : List Nat} {K : VTs → VHeap → Prop} {m : Nat} {r : List SItem} {o : Oper} {v : PV} (k : VScr P N b ops W K r (bif selfFree o then m :: todoF ops todo o.dst else todoF ops todo o.dst) (tput vts o.dst v) vh) (ho : ops[m]? = some o := by rfl) (hw : vwanted ops o vts = some true := by rfl) (hW : W.contains m = false := by decide) (hr : isR o.op = true := by rfl) (hd : dstOK N o.dst = true := by decide) (hv : vop P vts vh o.op = some (v, vh) := by simp [*] <;> first | exact ⟨rfl, rfl⟩ | exact rfl) : VScr P N b ops W K (.op m :: r) todo vts vh := .rd ho hw hW hr hd hv k
end
end Go.Am
section
namespace Go.Am
open Go Go.Proofs
theorem wrapu32 {x : Int} (h1 : 0 ≤ x) (h2 : x < 4294967296) : IntKind.u32.wrap x = x := by
 simp [IntKind.wrap, IntKind.bits, IntKind.signed]; omega
end Go.Am
end
section
namespace Go.Am
section
variable {P : Program} {N b : Nat} {vts : VTs} {vh : VHeap}
end
end Go.Am
end
section
namespace Go.Am.Ds
open Go Go.Am Go.Proofs
theorem checkL_nodup : ∀ {l : List Wit} {seen : List Int}, checkL l seen = 0 → (l.map Wit.id).Nodup ∧ ∀ w ∈ l, w.id ∉ seen
 | [], _, _ => ⟨.nil, fun w hw => by cases hw⟩
 | a :: r, seen, h => by
  simp only [checkL] at h
  split at h
  ·split at h
   ·simp at h
   ·rename_i hn
    obtain ⟨h1, h2⟩ := checkL_nodup h
    refine ⟨?_, fun w hw => ?_⟩
    ·rw [List.map_cons, List.nodup_cons]
     refine ⟨fun hm => ?_, h1⟩
     obtain ⟨w, hw, he⟩ := List.mem_map.1 hm
     exact h2 w hw ((mem_insU _ _ _).2 (.inr he))
    ·rcases List.mem_cons.1 hw with rfl | hw
     ·exact hn
     ·exact fun hs => h2 w hw ((mem_insU _ _ _).2 (.inl hs))
  ·rename_i h0; exact absurd h h0
theorem checkS_nodup {s : List Wit} (h : checkS s = 0) : (s.map Wit.id).Nodup := by
 unfold checkS at h
 split at h
 ·simp at h
 ·exact (checkL_nodup h).1
theorem checkS_pos {s : List Wit} (h : checkS s = 0) : ∀ w ∈ s, 0 < w.id := fun w hw => by
 have := (checkS_ok h).2 w hw
 unfold witE at this
 split at this
 ·cases this
 ·omega
theorem idsS_sorted {s : List Wit} (h : (s.map Wit.id).Nodup) : (idsS s).Pairwise (· < ·) := by
 unfold idsS
 have h1 := List.pairwise_mergeSort (le := fun x y : Int => decide (x ≤ y)) (fun a b c h1 h2 => by simp only [decide_eq_true_eq] at *; omega) (fun a b => by simp only [Bool.or_eq_true, decide_eq_true_eq]; omega) (s.map Wit.id)
 have h2 : ((s.map Wit.id).mergeSort fun x y => decide (x ≤ y)).Nodup := (List.mergeSort_perm _ _).nodup_iff.2 h
 have h3 := h1.and h2
 exact h3.imp fun ⟨h4, h5⟩ => by
  simp only [decide_eq_true_eq] at h4
  rcases Int.lt_or_eq_of_le h4 with h6 | h6
  ·exact h6
  ·exact absurd h6 h5
theorem stepP_some {s : List Wit} {c : Wit} {id : Int} {y : Int × Int} : stepP s c id = some y ↔ ∃ p, getW s id = some p ∧ (whyP c p).1 = 0 ∧ y = (id, ((ariS c p).length : Int)) := by
 unfold stepP
 cases hg : getW s id with
 | none => simp
 | some p =>
  simp only
  by_cases h : (whyP c p).1 = 0
  ·rw [if_pos h]
   constructor
   ·intro h2; injection h2 with h2; exact ⟨p, rfl, h, h2.symm⟩
   ·rintro ⟨q, h2, _, h3⟩; injection h2 with h2; subst h2; rw [h3]
  ·rw [if_neg h]
   constructor
   ·intro h2; cases h2
   ·rintro ⟨q, h2, h3, _⟩; injection h2 with h2; subst h2; exact absurd h3 h
theorem parS_mem {s : List Wit} {c : Wit} {y : Int × Int} : y ∈ parS s c ↔ (y = (0,(c.slips.length : Int)) ∧ lastS c 0 = 0) ∨ ∃ p, y.1 ∈ idsS s ∧ getW s y.1 = some p ∧ (whyP c p).1 = 0 ∧ y.2 = ((ariS c p).length : Int) := by
 unfold parS
 rw [List.mem_append, List.mem_filterMap]
 have h0 : y ∈ headP c ↔ y = (0,(c.slips.length : Int)) ∧ lastS c 0 = 0 := by
  unfold headP
  split
  ·rename_i h; simp [h]
  ·rename_i h; simp [h]
 rw [h0]
 constructor
 ·rintro (h | ⟨id, h1, h2⟩)
  ·exact .inl h
  ·obtain ⟨p, h3, h4, h5⟩ := stepP_some.1 h2
   subst h5
   exact .inr ⟨p, h1, h3, h4, rfl⟩
 ·rintro (h | ⟨p, h1, h2, h3, h4⟩)
  ·exact .inl h
  ·exact .inr ⟨y.1, h1, stepP_some.2 ⟨p, h2, h3, Prod.ext rfl h4⟩⟩
theorem fold_spec : ∀ (l : List (Int × Int)) (d : List (Int × Int)) (x : List Int × Int),(d = [] ∧ x.1 = [] ∨ x.1 ≠ [] ∧ (∀ y ∈ d, x.2 ≤ y.2) ∧ ∃ y ∈ d, y.2 = x.2) →
  (d ++ l = [] ∧ (l.foldl stepC x).1 = [] ∨ (l.foldl stepC x).1 ≠ [] ∧ (∀ y ∈ d ++ l, (l.foldl stepC x).2 ≤ y.2) ∧ ∃ y ∈ d ++ l, y.2 = (l.foldl stepC x).2)
 | [], d, x, h => by simpa using h
 | y :: r, d, x, h => by
  have ih := fold_spec r (d ++ [y]) (stepC x y) (.inr (by
   unfold stepC
   split
   ·rename_i h1
    rcases h with ⟨_, h2⟩ | ⟨h2, h3, z, h4, h5⟩
    ·exact absurd h2 h1.1
    ·refine ⟨h2, fun w hw => ?_, z, List.mem_append_left _ h4, h5⟩
     rcases List.mem_append.1 hw with hw | hw
     ·exact h3 w hw
     ·rw [List.mem_singleton] at hw; rw [hw]; omega
   ·rename_i h1
    split
    ·rename_i h2
     refine ⟨by simp, fun w hw => ?_, y, by simp, rfl⟩
     rcases List.mem_append.1 hw with hw | hw
     ·rcases h with ⟨h3, _⟩ | ⟨h3, h4, _⟩
      ·rw [h3] at hw; cases hw
      ·rcases h2 with h2 | h2
       ·exact absurd h2 h3
       ·have := h4 w hw; simp only; omega
     ·rw [List.mem_singleton] at hw; rw [hw]; exact Int.le_refl _
    ·rename_i h2
     have h3 : x.1 ≠ [] := fun h4 => h2 (.inl h4)
     have h4 : ¬ y.2 < x.2 := fun h4 => h2 (.inr h4)
     have h5 : ¬ x.2 < y.2 := fun h5 => h1 ⟨h3, h5⟩
     rcases h with ⟨_, h6⟩ | ⟨_, h7, z, h8, h9⟩
     ·exact absurd h6 h3
     ·refine ⟨by simp, fun w hw => ?_, z, List.mem_append_left _ h8, h9⟩
      rcases List.mem_append.1 hw with hw | hw
      ·exact h7 w hw
      ·rw [List.mem_singleton] at hw; rw [hw]; simp only; omega))
  rw [List.append_assoc, List.singleton_append] at ih
  rw [List.foldl_cons]
  exact ih
theorem choF_spec (s : List Wit) (c : Wit) : (parS s c = [] ∧ (choF s c).1 = []) ∨ ((choF s c).1 ≠ [] ∧ (∀ y ∈ parS s c, (choF s c).2 ≤ y.2) ∧ ∃ y ∈ parS s c, y.2 = (choF s c).2) := by
 have := fold_spec (parS s c) [] ([],0) (.inl ⟨rfl, rfl⟩)
 simpa [choF] using this
end Go.Am.Ds
end
section
namespace Go.Am.Ds
open Go Go.Am Go.Proofs
attribute [local simp] vrun vwanted vyielded vop vopA vputAll VHeap.back hidI hidF backL bm Nat.testBit_eq_decide_div_mod_eq veval vevals vparts vO vbuiltin vlen vappend velems vcopy vmakeSlice vbuildSlice valloc vbox vmakeMap vload vpartT vpart vstore vfieldAddr vfield vindexAddr vindex vextract vslice vsliceZ vbounds vbnd zeroO vidx vlookup vmget vmapUpdate vdelete vclear vnilq vnilp vnils vbin vsc vsc1 vscs vscl abinOp aint ashift aunOp aconvert amaxs amax2 pvcV pvc pvcs tput tget vargs VHeap.get VHeap.alloc VHeap.put VHeap.drop VHeap.empty vlook vput vdrop psplice pfill preps chunk List.range List.range.loop vresults vresult vresultV frz frzL PV.isF PV.allF PV.scal PV.allS retP subT allFT PV.one PV.ids PV.idsL dropL beq_eq ble_dec blt_dec
def longT (w : Wit) : Bool := decide (8 < w.slips.length) || decide (30 < w.mended.length) || decide (24 < w.models.length)
def smallS (s : List Wit) : Bool := !(s.any longT) && decide (s.length ≤ 12)
def stepD (s : List Wit) (c : Wit) (id : Int) : Option Int := match getW s id with
 | none => if id = 0 ∧ lastS c 0 = 0 then some (c.slips.length : Int) else none
 | some p => if (whyP c p).1 = 0 then some ((ariS c p).length : Int) else none
def desL (s : List Wit) (l : List Int) : List (Option Int) := (s.zip l).map fun x => stepD s x.1 x.2
def desP (s : List Wit) (l : List Int) (k : Nat) : Int := (((desL s l).take k).map (·.getD 0)).sum
def desR (s : List Wit) (l : List Int) : Int × Bool := if l.length = s.length ∧ (desL s l).all Option.isSome = true then (desP s l s.length, true) else (0, false)
theorem desL_get (s : List Wit) (l : List Int) (k : Nat) (h : k < s.length) (h2 : k < l.length) : ∃ h3 : k < (desL s l).length, (desL s l)[k] = stepD s s[k] l[k] := by
 refine ⟨by simp [desL]; omega, by simp [desL]⟩
theorem p21 (s : List Wit) (hl : s.length < 4611686018427387904) : VPure Tryz.prog 21 [encS s] fun r => r = .bool (smallS s) := by
 refine .of_body Tryz.func21 rfl rfl ?_
 refine .seq (.rn ?_)
 refine .seq (.seq (.rn ?_))
 refine .block ?_
 refine .loopS (fun i : Nat => ([(1, .ptr 0 0),(3, .int .i64 i)], ⟨1,[(0, .box [.vec (s.map encW)])]⟩)) (fun i => i ≤ s.length ∧ (s.take i).any longT = false) (fun i => s.length - i) 0 (by simp) (.mk [] [] zz14 zz15 rfl rfl rfl) ?_
 rintro i ⟨hi, hr⟩
 simp only at hi hr ⊢
 refine .seq (.seq (.rn ?_))
 refine .condS rfl (fun c8 => ?_) (fun c8 => ?_)
 ·try simp at c8
  have hw2 := wr1 i
  have hA := take_succ_any longT s i c8
  rw [hr] at hA
  refine .skip (.seq (.block (.seq ?_)))
  refine .regionL [0,1,2,3,4,5,6,7,8,9,10,11,12,13,14,15,16,17,18,19,20,21,22,23,24,25,26,27] rfl zz0 ?_
  refine .rn [0,1,2,3,4,5,6,7,8] [9,10,11,12,13,14,15,16,17,18,19,20,21,22,23,24,25,26,27] ?_
  refine .split (t := 19) rfl (fun c19 => ?_) (fun c19 => ?_)
  ·try rw [c19]
   try simp at c19
   refine .rn [9,10,11,12,13,14,15,16,17,18,19,20,21,22,23,24,25,26,27] [] ?_
   refine .done (.condT rfl (.seq (.rn ?_)))
   refine .ret ⟨_, _, zz4,zz4, ?_⟩
   have h : longT s[i] = true := by unfold longT; simp; omega
   unfold smallS; rw [any_get longT s i c8 h]; rfl
  ·try rw [c19]
   try simp at c19
   refine .rn [9,10,11,12,13,14,15,16,17,18] [19,20,21,22,23,24,25,26,27] ?_
   refine .split (t := 29) rfl (fun c29 => ?_) (fun c29 => ?_)
   ·try rw [c29]
    try simp at c29
    refine .rn [19,20,21,22,23,24,25,26,27] [] ?_
    refine .done (.condT rfl (.seq (.rn ?_)))
    refine .ret ⟨_, _, zz4,zz4, ?_⟩
    have h : longT s[i] = true := by unfold longT; simp; omega
    unfold smallS; rw [any_get longT s i c8 h]; rfl
   ·try rw [c29]
    try simp at c29
    refine .rn [19,20,21,22,23,24,25,26,27] [] ?_
    refine .done ?_
    refine .condS rfl (fun c38 => ?_) (fun c38 => ?_)
    ·try simp at c38
     refine .seq (.rn ?_)
     refine .ret ⟨_, _, zz4,zz4, ?_⟩
     have h : longT s[i] = true := by unfold longT; simp; omega
     unfold smallS; rw [any_get longT s i c8 h]; rfl
    ·try simp at c38
     refine .skip (.rn ?_)
     have h : longT s[i] = false := by unfold longT; simp; omega
     rw [h] at hA
     refine ⟨i + 1, ⟨zz5, by simpa using hA⟩, zz5,(.mk [] [] zz14 zz15 rfl rfl rfl)⟩
 ·try simp at c8
  have hi2 : i = s.length := by omega
  subst hi2
  rw [List.take_length] at hr
  refine .exit (.seq (.rn ?_))
  refine .ret ⟨_, _, zz4,zz4, ?_⟩
  unfold smallS; rw [hr]; simp; omega
end Go.Am.Ds
end
section
namespace Go.Am.Ds
open Go Go.Am Go.Proofs
attribute [local simp] vrun vwanted vyielded vop veval vevals vparts vO vbuiltin vlen vappend velems vcopy vmakeSlice vbuildSlice valloc vbox vmakeMap vload vpartT vpart vstore vfieldAddr vfield vindexAddr vindex vextract vslice vsliceZ vbounds vbnd zeroO vidx vlookup vmget vmapUpdate vdelete vnilq vnilp vnils vbin vsc vsc1 vscs vscl abinOp aint ashift aunOp aconvert amaxs amax2 pvcV pvc pvcs tput tget vargs VHeap.get VHeap.alloc VHeap.put VHeap.drop VHeap.empty vlook vput vdrop psplice pfill preps chunk List.range List.range.loop vresults vresult vresultV frz frzL PV.isF PV.allF PV.scal PV.allS retP subT allFT PV.one PV.ids PV.idsL dropL beq_eq ble_dec blt_dec
def bestS (s : List Wit) (k : Nat) : Int := (((chL s).take k).map (·.2)).sum
theorem chL_ok {s : List Wit} (h : chE s = 0) : chL s = s.map (choF s) := by unfold chL; rw [if_pos h]
def cbR (s : List Wit) (l : List Int) (m : Int) : Int := if checkS s = 0 then (if (desR s l).2 = true ∧ chE s = 0 ∧ (desR s l).1 = m ∧ (desR s l).1 = bestS s (chL s).length then 0 else 8) else checkS s
end Go.Am.Ds
end
section
namespace Go.Am.Ds
open Go Go.Am Go.Proofs
theorem getW_own : ∀ {s : List Wit},(s.map Wit.id).Nodup → ∀ {w : Wit}, w ∈ s → getW s w.id = some w
 | a :: r, hn, w, hw => by
  rw [List.map_cons, List.nodup_cons] at hn
  unfold getW
  rw [List.find?_cons]
  rcases List.mem_cons.1 hw with rfl | hw
  ·simp
  ·have : a.id ≠ w.id := fun h => hn.1 (h ▸ List.mem_map_of_mem hw)
   rw [show decide (a.id = w.id) = false from decide_eq_false this]
   exact getW_own hn.2 hw
end Go.Am.Ds
end
section
namespace Go.Am.Ds
open Go Go.Am Go.Proofs
attribute [local simp] vrun vwanted vyielded vop veval vevals vparts vO vbuiltin vlen vappend velems vcopy vmakeSlice vbuildSlice valloc vbox vmakeMap vload vpartT vpart vstore vfieldAddr vfield vindexAddr vindex vextract vslice vsliceZ vbounds vbnd zeroO vidx vlookup vmget vmapUpdate vdelete vnilq vnilp vnils vbin vsc vsc1 vscs vscl abinOp aint ashift aunOp aconvert amaxs amax2 pvcV pvc pvcs tput tget vargs VHeap.get VHeap.alloc VHeap.put VHeap.drop VHeap.empty vlook vput vdrop psplice pfill preps chunk List.range List.range.loop vresults vresult vresultV frz frzL PV.isF PV.allF PV.scal PV.allS retP subT allFT PV.one PV.ids PV.idsL dropL beq_eq ble_dec blt_dec
theorem smallS_len {s : List Wit} (h : smallS s = true) : s.length ≤ 12 := by
 unfold smallS at h
 simp only [Bool.and_eq_true, decide_eq_true_eq] at h
 exact h.2
end Go.Am.Ds
end
section
namespace Go.Am.Ds
open Go Go.Am Go.Proofs
attribute [local simp] vrun vwanted vyielded vop vopA vputAll VHeap.back hidI hidF backL bm Nat.testBit_eq_decide_div_mod_eq veval vevals vparts vO vbuiltin vlen vappend velems vcopy vmakeSlice vbuildSlice valloc vbox vmakeMap vload vpartT vpart vstore vfieldAddr vfield vindexAddr vindex vextract vslice vsliceZ vbounds vbnd zeroO vidx vlookup vmget vmapUpdate vdelete vclear vnilq vnilp vnils vbin vsc vsc1 vscs vscl abinOp aint ashift aunOp aconvert amaxs amax2 pvcV pvc pvcs tput tget vargs VHeap.get VHeap.alloc VHeap.put VHeap.drop VHeap.empty vlook vput vdrop psplice pfill preps chunk List.range List.range.loop vresults vresult vresultV frz frzL PV.isF PV.allF PV.scal PV.allS retP subT allFT PV.one PV.ids PV.idsL dropL beq_eq ble_dec blt_dec
def encK (x : Int × Int) : PV := .agg [.int .i64 x.1, .int .i64 x.2]
@[simp] theorem allSz_encK (l : List (Int × Int)) : allSz 2 (l.map encK) = true := allSz_map (f := encK) (n := 2) (fun _ => rfl) l
@[simp] theorem allOne_encK (l : List (Int × Int)) : allOne (l.map encK) = true := allOne_map (f := encK) (fun _ => rfl) l
theorem take_succ_mem {l : List Int} {n : Int} {i : Nat} (h : i < l.length) (h1 : n ∉ l.take i) (h2 : l[i] ≠ n) : n ∉ l.take (i + 1) := by
 rw [List.take_succ_eq_append_getElem h]
 intro h3
 rcases List.mem_append.1 h3 with h3 | h3
 ·exact h1 h3
 ·rw [List.mem_singleton] at h3; exact h2 h3.symm
theorem p46 (l : List Int) (n : Int) (hl : l.length < 4611686018427387904) : VPure Tryz.prog 46 [ints l, .int .i64 n] fun r => r = .bool (decide (n ∈ l)) := by
 refine .of_body Tryz.func46 rfl rfl ?_
 refine .seq (.rn ?_)
 refine .seq (.seq (.rn ?_))
 refine .block ?_
 refine .loopS (fun i : Nat => ([(0, ints l),(1, .int .i64 n),(5, .int .i64 i)], ⟨0,[]⟩)) (fun i => i ≤ l.length ∧ n ∉ l.take i) (fun i => l.length - i) 0 (by simp) (.mk [] [] zz14 zz15 rfl rfl rfl) ?_
 rintro i ⟨hi, hn⟩
 simp only at hi hn ⊢
 refine .seq (.seq (.rn ?_))
 refine .condS rfl (fun c9 => ?_) (fun c9 => ?_)
 ·try simp at c9
  have hw2 := wr1 i
  refine .skip (.seq (.block (.seq (.rn ?_))))
  refine .condS rfl (fun c17 => ?_) (fun c17 => ?_)
  ·try simp at c17
   refine .seq (.rn ?_)
   refine .ret ⟨_, _, zz4,zz4, ?_⟩
   have : n ∈ l := c17 ▸ List.getElem_mem c9
   simp [this]
  ·try simp at c17
   refine .skip (.rn ?_)
   refine ⟨i + 1, ⟨c9, take_succ_mem c9 hn c17⟩, zz5,(.mk [] [] zz14 zz15 rfl rfl rfl)⟩
 ·try simp at c9
  have : i = l.length := by omega
  subst this
  rw [List.take_length] at hn
  refine .exit (.seq (.rn ?_))
  refine .ret ⟨_, _, zz4,zz4, ?_⟩
  simp [hn]
attribute [local simp] zW tup2
theorem wrapU64 {n : Int} (h1 : 0 ≤ n) (h2 : n < 9223372036854775808) : IntKind.u64.wrap n = n := by
 simp [IntKind.wrap, IntKind.bits, IntKind.signed]; omega
theorem p217 (n : Int) : VPure Tryz.prog 217 [.int .i64 n] fun r => r = .bool false := by
 refine .of_body Tryz.func217 rfl rfl ?_
 refine .seq (.rn ?_)
 refine .seq (.rn ?_)
 refine .ret ⟨_, _, zz4,zz4, ?_⟩
 first | rfl | (simp [*]; done) | (simp_all; done)
theorem p198 (a b : Int) : VPure Tryz.prog 198 [.int .i64 a, .int .i64 b] fun r => r = .bool (decide (a < b)) := by
 refine .of_body Tryz.func198 rfl rfl ?_
 refine .seq (.rn ?_)
 refine .seq ?_
 refine .regionL [0,1,2,3,4,5,6,7,8,9,10,11,12] rfl zz0 ?_
 refine .rn [0] [1,2,3,4,5,6,7,8,9,10,11,12] ?_
 refine .pc rfl rfl rfl rfl rfl Tryz.call217 (p217 _) ?_
 refine .rn [2] [3,4,5,6,7,8,9,10,11,12] ?_
 refine .split (t := 7) rfl (fun c7 => ?_) (fun c7 => ?_)
 ·try rw [c7]
  try simp at c7
 ·try rw [c7]
  try simp at c7
  refine .rn [3,4,5,6,7,8,9,10,11,12] [] ?_
  refine .done (.ret ⟨_, _, zz4,zz4, ?_⟩)
  first | rfl | (simp [*]; done) | (simp_all; done)
theorem p161 (l : List Int) (t : Int) (p : Nat) (hp : p < l.length) (ht : l[p] = t) (hs : l.Pairwise (· < ·)) (hl : l.length < 4294967296) : VPure Tryz.prog 161 [ints l, .int .i64 t] fun r => r = .tup [.int .i64 p, .bool true] := by
 have hlt : ∀ h : Nat, ∀ hh : h < l.length, (l[h] < t ↔ h < p) := fun h hh => by
  rw [List.pairwise_iff_getElem] at hs
  rcases Nat.lt_trichotomy h p with h1 | h1 | h1
  ·have := hs h p hh hp h1; exact ⟨fun _ => h1, fun _ => by omega⟩
  ·subst h1; omega
  ·have := hs p h hp hh h1; omega
 refine .of_body Tryz.func161 rfl rfl ?_
 refine .seq (.rn ?_)
 refine .seq (.rn ?_)
 refine .seq (.rn ?_)
 refine .seq (.block ?_)
 refine .loopS (fun st : Nat × Nat => ([(0, ints l),(1, .int .i64 t),(6, .int .i64 l.length),(7, .int .i64 st.1),(8, .int .i64 st.2)], VHeap.empty)) (fun st => st.1 ≤ p ∧ p ≤ st.2 ∧ st.2 ≤ l.length) (fun st => st.2 - st.1) (0, l.length) ⟨by simp, by simp; omega, by simp⟩ (.mk [] [] zz14 zz15 rfl rfl rfl) ?_
 rintro ⟨i, j⟩ ⟨h1, h2, h3⟩
 simp only at h1 h2 h3 ⊢
 refine .seq (.seq (.rn ?_))
 refine .condS rfl (fun c15 => ?_) (fun c15 => ?_)
 ·try simp at c15
  have hij : i < j := by omega
  have hw1 : IntKind.i64.wrap ((i : Int) + (j : Int)) = (i : Int) + (j : Int) := wrap64 (by omega) (by omega)
  have hw2 : IntKind.u64.wrap ((i : Int) + (j : Int)) = (i : Int) + (j : Int) := wrapU64 (by omega) (by omega)
  have hbits : IntKind.u64.bits = 64 := rfl
  obtain ⟨m, hm, hm1, hm2⟩ : ∃ m : Nat, ((i : Int) + (j : Int)).fdiv 2 = (m : Int) ∧ i ≤ m ∧ m < j := ⟨(i + j) / 2, by rw [Int.fdiv_eq_ediv_of_nonneg _ (by omega)]; omega, by omega, by omega⟩
  have hh : m < l.length := by omega
  have hw3 : IntKind.i64.wrap (m : Int) = (m : Int) := wrap64 (by omega) (by omega)
  have hw4 := wr1 m
  have hcmp := hlt m hh
  refine .skip (.block (.seq (.rn ?_)))
  refine .seq ?_
  refine .regionL [0,1,2,3,4,5] rfl zz0 ?_
  refine .rn [0,1,2,3,4] [5] ?_
  refine .pc rfl rfl rfl rfl rfl Tryz.call198 (p198 _ _) ?_
  refine .done ?_
  refine .condS rfl (fun c27 => ?_) (fun c27 => ?_)
  ·try simp at c27
   refine .rn ?_
   refine ⟨(m + 1, j), ⟨by simp only; omega, h2, h3⟩, by simp only; omega, (.mk [] [] zz14 zz15 rfl rfl rfl)⟩
  ·try simp at c27
   refine .rn ?_
   refine ⟨(i, m), ⟨h1, by simp only; omega, by simp only; omega⟩, by simp only; omega, (.mk [] [] zz14 zz15 rfl rfl rfl)⟩
 ·try simp at c15
  have hip : i = p := by omega
  subst hip
  refine .exit (.seq ?_)
  refine .regionL [0,1,2,3,4,5,6,7,8,9,10,11,12,13,14,15,16,17,18,19,20,21,22,23,24] rfl zz0 ?_
  refine .rn [0,1,2,3,4] [5,6,7,8,9,10,11,12,13,14,15,16,17,18,19,20,21,22,23,24] ?_
  refine .split (t := 35) rfl (fun c35 => ?_) (fun c35 => ?_)
  ·try rw [c35]
   try simp at c35
   refine .rn [5,6,7,8,9,10,11] [12,13,14,15,16,17,18,19,20,21,22,23,24] ?_
   refine .split (t := 42) rfl (fun c42 => ?_) (fun c42 => ?_)
   ·try rw [c42]
    try simp at c42
    refine .rn [12,13,14,15,16,17,18,19,20,21,22,23,24] [] ?_
    refine .done (.ret ⟨_, _, zz4,zz4, ?_⟩)
    first | rfl | (simp [*]; done) | (simp_all; done)
   ·try rw [c42]
    try simp at c42
  ·try rw [c35]
   try simp at c35
attribute [local simp] zW tup2
def kvM (l : List (Int × Int)) : List (Int × PV) := l.map fun x => (x.1, .int .u32 x.2)
def getM (l : List (Int × Int)) (n : Int) : Option Int := (l.find? fun x => decide (x.1 = n)).map (·.2)
def setM (l : List (Int × Int)) (n v : Int) : List (Int × Int) := match getM l n with
 | some _ => l.map fun x => if x.1 = n then (x.1, v) else x
 | none => l ++ [(n, v)]
theorem pfind_kvM (n : Int) : ∀ l : List (Int × Int), pfind .i64 n (kvs (kvM l)) = some ((getM l n).map (PV.int .u32))
 | [] => rfl
 | x :: r => by
  have ih := pfind_kvM n r
  unfold getM kvM kvs at ih ⊢
  simp only [List.map_cons, pfind, decide_true, cond_true]
  rw [ih, List.find?_cons]
  cases h : decide (x.1 = n) <;> simp
theorem map_qput_kvM (n v : Int) : ∀ l : List (Int × Int),(kvs (kvM l)).map (qput n (.int .u32 v)) = kvs (kvM (l.map fun x => if x.1 = n then (x.1, v) else x))
 | [] => rfl
 | x :: r => by
  have ih := map_qput_kvM n v r
  unfold kvM kvs at ih ⊢
  simp only [List.map_cons, qput] at ih ⊢
  rw [ih]
  by_cases h : x.1 = n <;> simp [h]
theorem pmset_kvM (n v : Int) (l : List (Int × Int)) : pmset .i64 n (.int .u32 v) (kvs (kvM l)) = some (kvs (kvM (setM l n v))) := by
 unfold pmset setM
 rw [pfind_kvM]
 cases h : getM l n with
 | none => simp [kvs, kvM]
 | some y => simp [map_qput_kvM]
theorem getM_none {l : List (Int × Int)} {n : Int} (h : getM l n = none) : n ∉ l.map (·.1) := by
 unfold getM at h
 rw [Option.map_eq_none_iff, List.find?_eq_none] at h
 intro h1
 obtain ⟨x, hx, rfl⟩ := List.mem_map.1 h1
 exact h x hx (by simp)
theorem setM_keys (l : List (Int × Int)) (n v : Int) : (setM l n v).map (·.1) = if (getM l n).isSome = true then l.map (·.1) else l.map (·.1) ++ [n] := by
 unfold setM
 cases h : getM l n with
 | none => simp
 | some y =>
  simp only [Option.isSome_some, if_true, List.map_map]
  apply List.map_congr_left
  intro x _
  simp only [Function.comp]
  split <;> rfl
theorem setM_nodup {l : List (Int × Int)} (h : (l.map (·.1)).Nodup) (n v : Int) : ((setM l n v).map (·.1)).Nodup := by
 rw [setM_keys]
 cases h1 : getM l n with
 | some y => simpa using h
 | none =>
  simp only [Option.isSome_none, Bool.false_eq_true, if_false]
  exact List.nodup_append.2 ⟨h, by simp, fun a ha b hb hab => by rw [List.mem_singleton] at hb; subst hab; subst hb; exact getM_none h1 ha⟩
theorem getM_mem {l : List (Int × Int)} {n : Int} : (getM l n).isSome = true ↔ n ∈ l.map (·.1) := by
 unfold getM
 rw [Option.isSome_map, List.find?_isSome]
 simp
theorem setM_mem {l : List (Int × Int)} {n v m : Int} : m ∈ (setM l n v).map (·.1) ↔ m ∈ l.map (·.1) ∨ m = n := by
 rw [setM_keys]
 split
 ·rename_i h
  rw [getM_mem] at h
  exact ⟨.inl, fun h2 => h2.elim id fun h3 => h3 ▸ h⟩
 ·simp
def posI (s : List Wit) (id : Int) : Nat := (idsS s).idxOf id
def orV (a b : Int) : Int := IntKind.u32.wrap ((BitVec.ofInt 32 a ||| BitVec.ofInt 32 b).toNat : Int)
def bitV (k : Nat) : Int := IntKind.u32.wrap (2 ^ min k 32)
def orU (a : Int) (k : Nat) : Int := orV a (bitV k)
@[local simp ↓ high] theorem aint_or32 (a b : Int) : aint .or .u32 a b = some (.int .u32 (orV a b)) := rfl
@[local simp ↓ high] theorem ashl32 (k : Nat) : ashift .shl .u32 1 (k : Int) = some (.int .u32 (bitV k)) := by
 unfold ashift bitV
 have h : ¬ ((k : Int) < 0) := by omega
 rw [decide_eq_false h, cond_false, Int.toNat_natCast, Int.one_mul]; rfl
def putM (k : Nat) (es : List (Int × Int)) (n : Int) : List (Int × Int) := setM es n (orU ((getM es n).getD 0) k)
def heldF (s : List Wit) (es : List (Int × Int)) (w : Wit) : List (Int × Int) := w.slips.foldl (putM (posI s w.id)) es
def heldM (s : List Wit) : List (Int × Int) := s.foldl (heldF s) []
theorem pos_get {s : List Wit} {w : Wit} (hw : w ∈ s) : ∃ h : posI s w.id < (idsS s).length, (idsS s)[posI s w.id] = w.id := by
 have h1 : posI s w.id < (idsS s).length := List.idxOf_lt_length_iff.2 (idsS_mem.2 ⟨w, hw, rfl⟩)
 exact ⟨h1, List.getElem_idxOf h1⟩
theorem p94 (s : List Wit) (h : checkS s = 0) : VPure Tryz.prog 94 [encS s] fun r => r = .vmap (kvs (kvM (heldM s))) := by
 have hl24 := (checkS_ok h).1
 have hidl := idsS_len s
 have hso := idsS_sorted (checkS_nodup h)
 refine .of_body Tryz.func94 rfl rfl ?_
 refine .seq (.rn ?_)
 refine .seq ?_
 refine .regionL [0,1,2,3,4] rfl zz0 ?_
 refine .rn [0,1] [2,3,4] ?_
 refine .pc rfl rfl rfl rfl rfl Tryz.call99 (p99' s (by omega)) ?_
 refine .rn [3,4] [] ?_
 refine .done (.seq (.seq (.rn ?_)))
 refine .block ?_
 refine .loopS (fun st : Nat × List (Int × Int) => ([(3, .mapv 1),(4, ints (idsS s)),(15, .vec (s.map encW)),(16, .int .i64 s.length),(17, .int .i64 st.1)], ⟨2,[(1, .map (kvs (kvM st.2))),(0, .box [.vec (s.map encW)])]⟩)) (fun st => st.1 ≤ s.length ∧ (s.drop st.1).foldl (heldF s) st.2 = heldM s) (fun st => s.length - st.1) (0,[]) ⟨by simp, by simp [heldM]⟩ (.mk [] [] zz14 zz15 rfl rfl rfl) ?_
 rintro ⟨i, es⟩ ⟨hi, hr⟩
 simp only at hi hr ⊢
 refine .seq (.rn ?_)
 refine .seq ?_
 refine .condS rfl (fun c18 => ?_) (fun c18 => ?_)
 ·try simp at c18
  have hw2 := wr1 i
  have hE := encW_e s[i]
  rw [foldl_drop (heldF s) s i c18] at hr
  obtain ⟨hp1, hp2⟩ := pos_get (List.getElem_mem c18)
  have hsl := ((checkS_lens h) s[i] (List.getElem_mem c18)).1
  obtain ⟨p, hp⟩ : ∃ p, posI s s[i].id = p := ⟨_, rfl⟩
  have hp24 : p < 24 := by omega
  refine .skip (.seq (.block (.seq (.rn ?_))))
  refine .seq ?_
  refine .regionL [0,1,2,3,4,5,6,7,8] rfl zz0 ?_
  refine .rn [0,1,2] [3,4,5,6,7,8] ?_
  refine .pc rfl rfl rfl rfl rfl Tryz.call161 ((by have h := p161 (idsS s) s[i].id (posI s s[i].id) hp1 hp2 hso (by omega); rw [hp] at h; exact h)) ?_
  refine .rn [4,5,6,7,8] [] ?_
  refine .done (.seq (.rn ?_))
  refine .block ?_
  refine .loopS (fun st : Nat × List (Int × Int) => ([(3, .mapv 1),(4, ints (idsS s)),(7, .int .i64 p),(15, .vec (s.map encW)),(16, .int .i64 s.length),(17, .int .i64 i),(29, ints s[i].slips),(30, .int .i64 s[i].slips.length),(31, .int .i64 st.1)], ⟨2,[(1, .map (kvs (kvM st.2))),(0, .box [.vec (s.map encW)])]⟩)) (fun st => st.1 ≤ s[i].slips.length ∧ (s[i].slips.drop st.1).foldl (putM p) st.2 = s[i].slips.foldl (putM p) es) (fun st => s[i].slips.length - st.1) (0, es) ⟨by simp, by simp⟩ (.mk [] [] zz14 zz15 rfl rfl rfl) ?_
  rintro ⟨j, es2⟩ ⟨hj, hs⟩
  simp only at hj hs ⊢
  refine .seq (.rn ?_)
  refine .seq ?_
  refine .condS rfl (fun c32 => ?_) (fun c32 => ?_)
  ·try simp at c32
   have hw3 := wr1 j
   rw [foldl_drop (putM p) s[i].slips j c32] at hs
   have hpf := pfind_kvM s[i].slips[j] es2
   have hpm := fun v => pmset_kvM s[i].slips[j] v es2
   rcases hgm : getM es2 s[i].slips[j] with _ | v0 <;> rw [hgm] at hpf <;> simp only [Option.map] at hpf
   ·skip
    refine .skip (.seq (.block (.seq (.rn ?_))))
    refine .drawn (ms := [0,0,3,0,8,31,63]) (W := [6]) (items := [.op 0, .op 1, .op 2, .op 3, .op 4, .op 5, .op 6]) rfl zz0 zz0 zz0 ?_
    refine .rx ?_
    refine .rx ?_
    refine .rx ?_
    refine .rx ?_
    refine .rx ?_
    refine .rx ?_
    refine .wv ?_
    refine .done (.rn ?_)
    have hpu : putM p es2 s[i].slips[j] = setM es2 s[i].slips[j] (orV 0 (bitV p)) := by unfold putM; rw [hgm]; rfl
    refine ⟨(j + 1, putM p es2 s[i].slips[j]), ⟨zz5, hs⟩, zz5,(.mk [] [] zz14 zz15 rfl rfl rfl)⟩
   ·skip
    refine .skip (.seq (.block (.seq (.rn ?_))))
    refine .drawn (ms := [0,0,3,0,8,31,63]) (W := [6]) (items := [.op 0, .op 1, .op 2, .op 3, .op 4, .op 5, .op 6]) rfl zz0 zz0 zz0 ?_
    refine .rx ?_
    refine .rx ?_
    refine .rx ?_
    refine .rx ?_
    refine .rx ?_
    refine .rx ?_
    refine .wv ?_
    refine .done (.rn ?_)
    have hpu : putM p es2 s[i].slips[j] = setM es2 s[i].slips[j] (orV v0 (bitV p)) := by unfold putM; rw [hgm]; rfl
    refine ⟨(j + 1, putM p es2 s[i].slips[j]), ⟨zz5, hs⟩, zz5,(.mk [] [] zz14 zz15 rfl rfl rfl)⟩
  ·try simp at c32
   have hj2 : j = s[i].slips.length := by omega
   refine .exit (.rn ?_)
   refine ⟨(i + 1, es2), ⟨zz5, ?_⟩, zz5,(.mk [] [] zz14 zz15 rfl rfl rfl)⟩
   rw [← hr, heldF, hp, ← hs, hj2, List.drop_length]; rfl
 ·try simp at c18
  have hi2 : i = s.length := by omega
  refine .exit (.seq (.rn ?_))
  refine .ret ⟨_, _, zz4,zz4, ?_⟩
  rw [← hr, hi2, List.drop_length]; rfl
end Go.Am.Ds
end
section
namespace Go.Am.Ds
open Go Go.Am Go.Proofs
theorem getW_zero {s : List Wit} (h : checkS s = 0) : getW s 0 = none := by
 cases hg : getW s 0 with
 | none => rfl
 | some p =>
  obtain ⟨hp, h0⟩ := getW_mem hg
  have := checkS_pos h p hp
  omega
end Go.Am.Ds
end
section
namespace Go.Am.Ds
open Go Go.Am Go.Proofs
theorem nodup_sub : ∀ {l m : List Int}, l.Nodup → (∀ x ∈ l, x ∈ m) → l.length ≤ m.length
 | [], _, _, _ => Nat.zero_le _
 | a :: r, m, hn, h => by
  rw [List.nodup_cons] at hn
  have ha := h a List.mem_cons_self
  have ih := nodup_sub (l := r) (m := m.erase a) hn.2 fun x hx => (List.mem_erase_of_ne (by rintro rfl; exact hn.1 hx)).2 (h x (List.mem_cons_of_mem _ hx))
  rw [List.length_erase_of_mem ha] at ih
  have := List.length_pos_iff.2 (List.ne_nil_of_mem ha)
  rw [List.length_cons]; omega
theorem foldM_mem (k : Nat) : ∀ (l : List Int) (es : List (Int × Int)) (n : Int), n ∈ (l.foldl (putM k) es).map (·.1) ↔ n ∈ es.map (·.1) ∨ n ∈ l
 | [], es, n => by simp
 | a :: r, es, n => by
  rw [List.foldl_cons, foldM_mem k r, putM, setM_mem, List.mem_cons]
  constructor
  ·rintro ((h | h) | h)
   ·exact .inl h
   ·exact .inr (.inl h)
   ·exact .inr (.inr h)
  ·rintro (h | h | h)
   ·exact .inl (.inl h)
   ·exact .inl (.inr h)
   ·exact .inr h
theorem foldM_nodup (k : Nat) : ∀ (l : List Int) (es : List (Int × Int)),(es.map (·.1)).Nodup → ((l.foldl (putM k) es).map (·.1)).Nodup
 | [], _, h => h
 | a :: r, es, h => by rw [List.foldl_cons]; exact foldM_nodup k r _ (setM_nodup h _ _)
theorem heldM_mem {s : List Wit} {n : Int} : n ∈ (heldM s).map (·.1) ↔ ∃ w ∈ s, n ∈ w.slips := by
 have : ∀ (l : List Wit) (es : List (Int × Int)), n ∈ (l.foldl (heldF s) es).map (·.1) ↔ n ∈ es.map (·.1) ∨ ∃ w ∈ l, n ∈ w.slips := by
  intro l
  induction l with
  | nil => intro es; simp
  | cons a r ih =>
   intro es
   rw [List.foldl_cons, ih, heldF, foldM_mem]
   constructor
   ·rintro ((h | h) | ⟨w, h1, h2⟩)
    ·exact .inl h
    ·exact .inr ⟨a, List.mem_cons_self, h⟩
    ·exact .inr ⟨w, List.mem_cons_of_mem _ h1, h2⟩
   ·rintro (h | ⟨w, h1, h2⟩)
    ·exact .inl (.inl h)
    ·rcases List.mem_cons.1 h1 with rfl | h1
     ·exact .inl (.inr h2)
     ·exact .inr ⟨w, h1, h2⟩
 unfold heldM
 rw [this]; simp
theorem heldM_nodup (s : List Wit) : ((heldM s).map (·.1)).Nodup := by
 have : ∀ (l : List Wit) (es : List (Int × Int)),(es.map (·.1)).Nodup → ((l.foldl (heldF s) es).map (·.1)).Nodup := by
  intro l
  induction l with
  | nil => intro es h; exact h
  | cons a r ih => intro es h; exact ih _ (foldM_nodup _ _ _ h)
 exact this s [] (by simp)
theorem heldM_len {s : List Wit} (h : checkS s = 0) : (heldM s).length ≤ 24 * 30 := by
 obtain ⟨h1, h2⟩ := checkS_ok h
 have e1 : ((heldM s).map (·.1)).length ≤ (s.flatMap Wit.slips).length := nodup_sub (heldM_nodup s) fun x hx => by
  obtain ⟨w, hw, hx⟩ := heldM_mem.1 hx
  exact List.mem_flatMap.2 ⟨w, hw, hx⟩
 have e2 : ∀ l : List Wit, (∀ w ∈ l, w.slips.length ≤ 30) → (l.flatMap Wit.slips).length ≤ l.length * 30 := by
  intro l
  induction l with
  | nil => intro _; simp
  | cons a r ih =>
   intro h3
   have := ih fun w hw => h3 w (List.mem_cons_of_mem _ hw)
   have := h3 a List.mem_cons_self
   rw [List.flatMap_cons, List.length_append, List.length_cons]; omega
 have e3 := e2 s fun w hw => (witE_len (h2 w hw)).1
 have e4 : s.length * 30 ≤ 24 * 30 := Nat.mul_le_mul_right 30 h1
 rw [List.length_map] at e1; omega
def slipsL (s : List Wit) : List Int := ((heldM s).map (·.1)).mergeSort fun x y => decide (x ≤ y)
theorem slipsL_len (s : List Wit) : (slipsL s).length = (heldM s).length := by simp [slipsL]
theorem slipsL_mem {s : List Wit} {n : Int} : n ∈ slipsL s ↔ ∃ w ∈ s, n ∈ w.slips := by
 unfold slipsL; rw [List.mem_mergeSort, heldM_mem]
theorem kvM_keys (l : List (Int × Int)) : (kvM l).map (·.1) = l.map (·.1) := by unfold kvM; rw [List.map_map]; rfl
end Go.Am.Ds
end
section
namespace Go.Am.Ds
open Go Go.Am Go.Proofs
attribute [local simp] vrun vwanted vyielded vop vopA vputAll VHeap.back hidI hidF backL bm Nat.testBit_eq_decide_div_mod_eq veval vevals vparts vO vbuiltin vlen vappend velems vcopy vmakeSlice vbuildSlice valloc vbox vmakeMap vload vpartT vpart vstore vfieldAddr vfield vindexAddr vindex vextract vslice vsliceZ vbounds vbnd zeroO vidx vlookup vmget vmapUpdate vdelete vclear vnilq vnilp vnils vbin vsc vsc1 vscs vscl abinOp aint ashift aunOp aconvert amaxs amax2 pvcV pvc pvcs tput tget vargs VHeap.get VHeap.alloc VHeap.put VHeap.drop VHeap.empty vlook vput vdrop psplice pfill preps chunk List.range List.range.loop vresults vresult vresultV frz frzL PV.isF PV.allF PV.scal PV.allS retP subT allFT PV.one PV.ids PV.idsL dropL beq_eq ble_dec blt_dec
attribute [local simp] zW tup2
end Go.Am.Ds
end
section
namespace Go.Am.Ds
open Go Go.Am Go.Proofs
def andV (a b : Int) : Int := IntKind.u32.wrap ((BitVec.ofInt 32 a &&& BitVec.ofInt 32 b).toNat : Int)
def anV (a b : Int) : Int := IntKind.u32.wrap ((BitVec.ofInt 32 a &&& ~~~ BitVec.ofInt 32 b).toNat : Int)
def shrV (a : Int) (k : Nat) : Int := a.fdiv (2 ^ min k 32)
def crossV (x y : Int) : Bool := (andV x y != 0) && ((anV x y != 0) && (anV y x != 0))
def bitB (m : Int) (k : Nat) : Bool := andV (shrV m k) 1 == 1
def amP (m : Int) (l : List Int) (k : Nat) : List Int := (List.range k).filterMap fun i => if bitB m i then l[i]? else none
def amL (m : Int) (l : List Int) : List Int := amP m l l.length
theorem amP_succ (m : Int) (l : List Int) (k : Nat) (h : k < l.length) : amP m l (k + 1) = if bitB m k = true then amP m l k ++ [l[k]] else amP m l k := by
 unfold amP
 rw [List.range_succ, List.filterMap_append]
 by_cases hb : bitB m k = true
 ·rw [if_pos hb]; simp [hb, h]
 ·rw [if_neg hb]; simp [hb]
theorem amP_le (m : Int) (l : List Int) (k : Nat) : (amP m l k).length ≤ k := by
 unfold amP
 exact Nat.le_trans (List.length_filterMap_le _ _) (by simp)
theorem u32_small {n : Nat} (h : n < 4294967296) : IntKind.u32.wrap (n : Int) = (n : Int) := wrapu32 (by omega) (by omega)
theorem bv_nat (n : Nat) : (BitVec.ofInt 32 (n : Int)).toNat = n % 4294967296 := by
 rw [BitVec.ofInt_natCast, BitVec.toNat_ofNat]
theorem andV_nat {a b : Nat} (ha : a < 4294967296) (hb : b < 4294967296) : andV (a : Int) (b : Int) = ((a &&& b : Nat) : Int) := by
 unfold andV
 rw [BitVec.toNat_and, bv_nat, bv_nat, Nat.mod_eq_of_lt ha, Nat.mod_eq_of_lt hb]
 exact u32_small (Nat.lt_of_le_of_lt Nat.and_le_left ha)
theorem orV_nat {a b : Nat} (ha : a < 4294967296) (hb : b < 4294967296) : orV (a : Int) (b : Int) = ((a ||| b : Nat) : Int) := by
 unfold orV
 rw [BitVec.toNat_or, bv_nat, bv_nat, Nat.mod_eq_of_lt ha, Nat.mod_eq_of_lt hb]
 exact u32_small (Nat.or_lt_two_pow (n := 32) ha hb)
def anN (a b : Nat) : Nat := (BitVec.ofInt 32 (a : Int) &&& ~~~ BitVec.ofInt 32 (b : Int)).toNat
theorem anV_nat {a b : Nat} : anV (a : Int) (b : Int) = ((anN a b : Nat) : Int) := by
 unfold anV anN
 exact u32_small (BitVec.isLt _)
theorem anN_bit {a b : Nat} (ha : a < 4294967296) (hb : b < 4294967296) (k : Nat) : (anN a b).testBit k = (a.testBit k && !b.testBit k) := by
 unfold anN
 rw [BitVec.testBit_toNat, BitVec.getLsbD_and, BitVec.getLsbD_not, ← BitVec.testBit_toNat, ← BitVec.testBit_toNat, bv_nat, bv_nat, Nat.mod_eq_of_lt ha, Nat.mod_eq_of_lt hb]
 by_cases hk : k < 32
 ·simp [hk]
 ·have : a.testBit k = false := Nat.testBit_lt_two_pow (Nat.lt_of_lt_of_le ha (show (2 : Nat) ^ 32 ≤ 2 ^ k from Nat.pow_le_pow_right (by omega) (by omega)))
  simp [this, hk]
theorem anN_lt (a b : Nat) : anN a b < 4294967296 := BitVec.isLt _
theorem bitV_nat {k : Nat} (h : k < 32) : bitV k = ((2 ^ k : Nat) : Int) := by
 unfold bitV
 rw [Nat.min_eq_left (by omega)]
 have h1 : (2 : Nat) ^ k < 4294967296 := Nat.pow_lt_pow_right (by omega) (show k < 32 from h)
 have := u32_small h1
 rw [← this]; congr 1
theorem shrV_nat {a k : Nat} (h : k < 32) : shrV (a : Int) k = ((a >>> k : Nat) : Int) := by
 unfold shrV
 rw [Nat.min_eq_left (by omega), Nat.shiftRight_eq_div_pow, Int.fdiv_eq_ediv_of_nonneg _ (by exact Int.le_of_lt (Int.pow_pos (by omega)))]
 push_cast; rfl
theorem bitB_nat {a k : Nat} (ha : a < 4294967296) (h : k < 32) : bitB (a : Int) k = a.testBit k := by
 unfold bitB
 rw [shrV_nat h, show (1 : Int) = ((1 : Nat) : Int) from rfl, andV_nat (Nat.lt_of_le_of_lt (Nat.shiftRight_le _ _) ha) (by omega), Nat.testBit]
 rw [Bool.eq_iff_iff, Nat.and_comm]
 have h2 : 1 &&& (a >>> k) < 2 := by
  rw [Nat.one_and_eq_mod_two]; exact Nat.mod_lt _ (by omega)
 generalize 1 &&& (a >>> k) = x at h2 ⊢
 simp only [beq_iff_eq, bne_iff_ne, ne_eq]
 constructor
 ·intro h3 h4; omega
 ·intro h3; omega
theorem ne_zero_bit {n : Nat} : n ≠ 0 ↔ ∃ k, n.testBit k = true := by
 constructor
 ·intro h; obtain ⟨k, hk⟩ := Nat.exists_testBit_of_ne_zero h; exact ⟨k, hk⟩
 ·rintro ⟨k, hk⟩ h; rw [h, Nat.zero_testBit] at hk; cases hk
def okM (es : List (Int × Int)) (B : Int → Nat → Prop) : Prop := ∀ n, ∃ v : Nat, (getM es n).getD 0 = (v : Int) ∧ v < 4294967296 ∧ ∀ k, v.testBit k = true ↔ B n k
theorem getM_set (es : List (Int × Int)) (n v m : Int) : getM (setM es n v) m = if m = n then some v else getM es m := by
 unfold setM
 cases h : getM es n with
 | none =>
  simp only
  have h0 : es.find? (fun x => decide (x.1 = n)) = none := by unfold getM at h; simpa using h
  unfold getM
  rw [List.find?_append]
  by_cases hm : m = n
  ·subst hm; rw [if_pos rfl, h0]; simp
  ·rw [if_neg hm]
   cases hf : es.find? fun x => decide (x.1 = m) with
   | some x => simp
   | none => simp [Ne.symm hm]
 | some y =>
  simp only
  unfold getM at h ⊢
  induction es with
  | nil => simp at h
  | cons a r ih =>
   rw [List.map_cons, List.find?_cons, List.find?_cons]
   rw [List.find?_cons] at h
   by_cases ha : a.1 = n
   ·by_cases hm : m = n
    ·subst hm; simp [ha]
    ·have h1 : ¬ a.1 = m := fun h1 => hm (h1.symm.trans ha)
     have h2 : ¬ n = m := fun h2 => hm h2.symm
     rw [if_neg hm]
     simp only [ha, if_true, h2, decide_false]
     have : ∀ l : List (Int × Int),((l.map fun x => if x.1 = n then (x.1, v) else x).find? fun x => decide (x.1 = m)).map (·.2) = (l.find? fun x => decide (x.1 = m)).map (·.2) := by
      intro l
      induction l with
      | nil => rfl
      | cons b l ihl =>
       rw [List.map_cons, List.find?_cons, List.find?_cons]
       by_cases hb : b.1 = n
       ·have : ¬ b.1 = m := fun h3 => hm (h3.symm.trans hb)
        simp only [hb, if_true, h2, decide_false]; exact ihl
       ·rw [if_neg hb]
        cases decide (b.1 = m) with
        | true => rfl
        | false => exact ihl
     exact this r
   ·rw [decide_eq_false ha] at h
    rw [if_neg ha]
    by_cases hm : a.1 = m
    ·have h1 : ¬ m = n := fun h1 => ha (hm.trans h1)
     rw [if_neg h1, decide_eq_true hm]
    ·rw [decide_eq_false hm]
     exact ih h
theorem okM_put {es : List (Int × Int)} {B : Int → Nat → Prop} (h : okM es B) {p : Nat} (hp : p < 32) (n : Int) : okM (putM p es n) fun m k => B m k ∨ (m = n ∧ k = p) := by
 intro m
 unfold putM
 rw [getM_set]
 by_cases hm : m = n
 ·subst hm
  rw [if_pos rfl]
  obtain ⟨v, h1, h2, h3⟩ := h m
  refine ⟨v ||| 2 ^ p, ?_, Nat.or_lt_two_pow (n := 32) h2 (Nat.pow_lt_pow_right (by omega) hp), fun k => ?_⟩
  ·rw [Option.getD_some, h1]
   unfold orU
   rw [bitV_nat hp, orV_nat h2 (Nat.pow_lt_pow_right (by omega) hp)]
  ·rw [Nat.testBit_or, Bool.or_eq_true, h3, Nat.testBit_two_pow]
   simp only [decide_eq_true_eq]
   constructor
   ·rintro (h4 | h4)
    ·exact .inl h4
    ·exact .inr ⟨trivial, h4.symm⟩
   ·rintro (h4 | ⟨_, h4⟩)
    ·exact .inl h4
    ·exact .inr h4.symm
 ·rw [if_neg hm]
  obtain ⟨v, h1, h2, h3⟩ := h m
  refine ⟨v, h1, h2, fun k => ?_⟩
  rw [h3]
  exact ⟨.inl, fun h4 => h4.elim id fun h5 => absurd h5.1 hm⟩
theorem okM_fold {p : Nat} (hp : p < 32) : ∀ (l : List Int) {es : List (Int × Int)} {B : Int → Nat → Prop}, okM es B → okM (l.foldl (putM p) es) fun m k => B m k ∨ (m ∈ l ∧ k = p)
 | [], es, B, h => by
  intro n
  obtain ⟨v, h1, h2, h3⟩ := h n
  exact ⟨v, h1, h2, fun k => by rw [h3]; simp⟩
 | a :: r, es, B, h => by
  have ih := okM_fold hp r (okM_put h hp a)
  intro n
  obtain ⟨v, h1, h2, h3⟩ := ih n
  refine ⟨v, h1, h2, fun k => ?_⟩
  rw [h3]
  show ((B n k ∨ n = a ∧ k = p) ∨ n ∈ r ∧ k = p) ↔ (B n k ∨ n ∈ a :: r ∧ k = p)
  rw [List.mem_cons]
  constructor
  ·rintro ((h4 | ⟨h4, h5⟩) | ⟨h4, h5⟩)
   ·exact .inl h4
   ·exact .inr ⟨.inl h4, h5⟩
   ·exact .inr ⟨.inr h4, h5⟩
  ·rintro (h4 | ⟨h4 | h4, h5⟩)
   ·exact .inl (.inl h4)
   ·exact .inl (.inr ⟨h4, h5⟩)
   ·exact .inr ⟨h4, h5⟩
theorem held_bits {s : List Wit} (h : checkS s = 0) : okM (heldM s) fun n k => ∃ w ∈ s, posI s w.id = k ∧ n ∈ w.slips := by
 have hl := (checkS_ok h).1
 have : ∀ (l : List Wit),(∀ w ∈ l, w ∈ s) → ∀ {es : List (Int × Int)} {B : Int → Nat → Prop}, okM es B → okM (l.foldl (heldF s) es) fun n k => B n k ∨ ∃ w ∈ l, posI s w.id = k ∧ n ∈ w.slips := by
  intro l
  induction l with
  | nil =>
   intro _ es B h1 n
   obtain ⟨v, h2, h3, h4⟩ := h1 n
   exact ⟨v, h2, h3, fun k => by rw [h4]; simp⟩
  | cons a r ih =>
   intro hs es B h1 n
   obtain ⟨hp, _⟩ := pos_get (hs a List.mem_cons_self)
   have hp32 : posI s a.id < 32 := by have := idsS_len s; omega
   obtain ⟨v, h2, h3, h4⟩ := ih (fun w hw => hs w (List.mem_cons_of_mem _ hw)) (okM_fold hp32 a.slips h1) n
   refine ⟨v, h2, h3, fun k => ?_⟩
   rw [h4]
   constructor
   ·rintro ((h5 | ⟨h5, h6⟩) | ⟨w, h5, h6⟩)
    ·exact .inl h5
    ·exact .inr ⟨a, List.mem_cons_self, h6.symm, h5⟩
    ·exact .inr ⟨w, List.mem_cons_of_mem _ h5, h6⟩
   ·rintro (h5 | ⟨w, h5, h6, h7⟩)
    ·exact .inl (.inl h5)
    ·rcases List.mem_cons.1 h5 with rfl | h5
     ·exact .inl (.inr ⟨h7, h6.symm⟩)
     ·exact .inr ⟨w, h5, h6, h7⟩
 have h0 : okM [] fun _ _ => False := fun n => ⟨0, rfl, by omega, fun k => by simp⟩
 intro n
 obtain ⟨v, h1, h2, h3⟩ := this s (fun w hw => hw) h0 n
 exact ⟨v, h1, h2, fun k => by rw [h3]; simp⟩
def vM (s : List Wit) (n : Int) : Int := (getM (heldM s) n).getD 0
def crB (s : List Wit) (a b : Int) : Bool := crossV (vM s a) (vM s b)
def crO (s : List Wit) : List Int → Option (Int × Int)
 | [] => none
 | a :: r => match r.find? (crB s a) with
  | some b => some (a, b)
  | none => crO s r
def crR (s : List Wit) : Option (Int × Int) := crO s (slipsL s)
theorem crO_some {s : List Wit} {a b : Int} : ∀ {l : List Int}, crO s l = some (a, b) → a ∈ l ∧ b ∈ l ∧ crB s a b = true
 | [], h => by unfold crO at h; cases h
 | x :: r, h => by
  unfold crO at h
  split at h
  ·rename_i y hy
   injection h with h
   injection h with h1 h2
   subst h1; subst h2
   exact ⟨List.mem_cons_self, List.mem_cons_of_mem _ (List.mem_of_find?_eq_some hy), by simpa using List.find?_some hy⟩
  ·obtain ⟨h1, h2, h3⟩ := crO_some h
   exact ⟨List.mem_cons_of_mem _ h1, List.mem_cons_of_mem _ h2, h3⟩
theorem crO_none {s : List Wit} (hsym : ∀ a b, crB s a b = crB s b a) (hirr : ∀ a, crB s a a = false) : ∀ {l : List Int}, crO s l = none → ∀ a ∈ l, ∀ b ∈ l, crB s a b = false
 | [], _ => fun a ha => by cases ha
 | x :: r, h => by
  unfold crO at h
  split at h
  ·cases h
  ·rename_i hn
   have h1 : ∀ b ∈ r, crB s x b = false := fun b hb => by
    have := List.find?_eq_none.1 hn b hb
    simpa using this
   have h2 := crO_none hsym hirr h
   intro a ha b hb
   rcases List.mem_cons.1 ha with ea | ha2
   ·rcases List.mem_cons.1 hb with eb | hb2
    ·rw [ea, eb]; exact hirr _
    ·rw [ea]; exact h1 b hb2
   ·rcases List.mem_cons.1 hb with eb | hb2
    ·rw [eb, hsym]; exact h1 a ha2
    ·exact h2 a ha2 b hb2
def crP (s : List Wit) (a b : Int) : Prop := (∃ w ∈ s, a ∈ w.slips ∧ b ∈ w.slips) ∧ (∃ w ∈ s, a ∈ w.slips ∧ b ∉ w.slips) ∧ ∃ w ∈ s, b ∈ w.slips ∧ a ∉ w.slips
theorem pos_inj {s : List Wit} (h : checkS s = 0) {w u : Wit} (hw : w ∈ s) (hu : u ∈ s) (e : posI s w.id = posI s u.id) : w = u := by
 obtain ⟨h1, h2⟩ := pos_get hw
 obtain ⟨h3, h4⟩ := pos_get hu
 have h5 : w.id = u.id := by rw [← h2, ← h4]; congr 1
 have e1 := getW_own (checkS_nodup h) hw
 rw [h5, getW_own (checkS_nodup h) hu] at e1
 injection e1 with e1; exact e1.symm
theorem crB_iff {s : List Wit} (h : checkS s = 0) (a b : Int) : crB s a b = true ↔ crP s a b := by
 obtain ⟨x, hx1, hx2, hx3⟩ := held_bits h a
 obtain ⟨y, hy1, hy2, hy3⟩ := held_bits h b
 unfold crB crossV
 rw [show vM s a = (x : Int) from hx1, show vM s b = (y : Int) from hy1, andV_nat hx2 hy2, anV_nat, anV_nat]
 have hz : ∀ n : Nat, (((n : Int) != 0) = true) ↔ ∃ k, n.testBit k = true := fun n => by
  rw [← ne_zero_bit]; simp
 rw [Bool.and_eq_true, Bool.and_eq_true, hz, hz, hz]
 unfold crP
 have e1 : (∃ k, (x &&& y).testBit k = true) ↔ ∃ w ∈ s, a ∈ w.slips ∧ b ∈ w.slips := by
  constructor
  ·rintro ⟨k, hk⟩
   rw [Nat.testBit_and, Bool.and_eq_true, hx3, hy3] at hk
   obtain ⟨⟨w, hw, hwk, hwa⟩, ⟨u, hu, huk, hub⟩⟩ := hk
   have := pos_inj h hw hu (hwk.trans huk.symm)
   subst this
   exact ⟨w, hw, hwa, hub⟩
  ·rintro ⟨w, hw, h1, h2⟩
   refine ⟨posI s w.id, ?_⟩
   rw [Nat.testBit_and, Bool.and_eq_true, hx3, hy3]
   exact ⟨⟨w, hw, rfl, h1⟩, ⟨w, hw, rfl, h2⟩⟩
 have e2 : ∀ {p q : Int} {X Y : Nat}, X < 4294967296 → Y < 4294967296 → (∀ k, X.testBit k = true ↔ ∃ w ∈ s, posI s w.id = k ∧ p ∈ w.slips) → (∀ k, Y.testBit k = true ↔ ∃ w ∈ s, posI s w.id = k ∧ q ∈ w.slips) → ((∃ k, (anN X Y).testBit k = true) ↔ ∃ w ∈ s, p ∈ w.slips ∧ q ∉ w.slips) := by
  intro p q X Y hX hY h1 h2
  constructor
  ·rintro ⟨k, hk⟩
   rw [anN_bit hX hY, Bool.and_eq_true, h1, Bool.not_eq_true'] at hk
   obtain ⟨⟨w, hw, hwk, hwa⟩, hn⟩ := hk
   refine ⟨w, hw, hwa, fun h3 => ?_⟩
   have := (h2 k).2 ⟨w, hw, hwk, h3⟩
   rw [hn] at this; cases this
  ·rintro ⟨w, hw, h3, h4⟩
   refine ⟨posI s w.id, ?_⟩
   rw [anN_bit hX hY, Bool.and_eq_true, h1, Bool.not_eq_true']
   refine ⟨⟨w, hw, rfl, h3⟩, ?_⟩
   cases hb : Y.testBit (posI s w.id) with
   | false => rfl
   | true =>
    obtain ⟨u, hu, huk, hub⟩ := (h2 _).1 hb
    have := pos_inj h hu hw huk
    subst this
    exact absurd hub h4
 rw [e1, e2 hx2 hy2 hx3 hy3, e2 hy2 hx2 hy3 hx3]
theorem crR_iff {s : List Wit} (h : checkS s = 0) : (crR s).isSome = true ↔ ∃ a b, crP s a b := by
 constructor
 ·intro h1
  cases hc : crR s with
  | none => rw [hc] at h1; cases h1
  | some p => exact ⟨p.1, p.2,(crB_iff h _ _).1 (crO_some (by exact hc)).2.2⟩
 ·rintro ⟨a, b, hab⟩
  cases hc : crR s with
  | some p => rfl
  | none =>
   exfalso
   have hsym : ∀ a b, crB s a b = crB s b a := fun a b => by
    rw [Bool.eq_iff_iff, crB_iff h, crB_iff h]
    unfold crP
    constructor
    ·rintro ⟨⟨w, h1, h2, h3⟩, h4, h5⟩; exact ⟨⟨w, h1, h3, h2⟩, h5, h4⟩
    ·rintro ⟨⟨w, h1, h2, h3⟩, h4, h5⟩; exact ⟨⟨w, h1, h3, h2⟩, h5, h4⟩
   have hirr : ∀ a, crB s a a = false := fun a => by
    cases hb : crB s a a with
    | false => rfl
    | true =>
     obtain ⟨_, ⟨w, _, h2, h3⟩, _⟩ := (crB_iff h _ _).1 hb
     exact absurd h2 h3
   have h1 := hab
   obtain ⟨⟨w, hw, h2, h3⟩, _, _⟩ := h1
   have := crO_none hsym hirr hc a (slipsL_mem.2 ⟨w, hw, h2⟩) b (slipsL_mem.2 ⟨w, hw, h3⟩)
   rw [(crB_iff h a b).2 hab] at this; cases this
theorem amL_ne {s : List Wit} (h : checkS s = 0) {v : Nat} (hv : v < 4294967296) (hne : v ≠ 0) (hb : ∀ k, v.testBit k = true → k < (idsS s).length) : amL (v : Int) (idsS s) ≠ [] := by
 obtain ⟨k, hk⟩ := ne_zero_bit.1 hne
 have hl := hb k hk
 have h24 := (checkS_ok h).1
 have hil := idsS_len s
 intro h0
 unfold amL amP at h0
 rw [List.filterMap_eq_nil_iff] at h0
 have := h0 k (List.mem_range.2 hl)
 rw [bitB_nat hv (by omega), hk] at this
 simp at this; omega
theorem cross_ne {s : List Wit} (h : checkS s = 0) {a b : Int} (hc : crB s a b = true) : amL (andV (vM s a) (vM s b)) (idsS s) ≠ [] ∧ amL (anV (vM s a) (vM s b)) (idsS s) ≠ [] ∧ amL (anV (vM s b) (vM s a)) (idsS s) ≠ [] := by
 obtain ⟨x, hx1, hx2, hx3⟩ := held_bits h a
 obtain ⟨y, hy1, hy2, hy3⟩ := held_bits h b
 unfold crB crossV at hc
 rw [show vM s a = (x : Int) from hx1, show vM s b = (y : Int) from hy1] at hc ⊢
 rw [andV_nat hx2 hy2, anV_nat, anV_nat] at hc ⊢
 simp only [Bool.and_eq_true, bne_iff_ne, ne_eq] at hc
 obtain ⟨h1, h2, h3⟩ := hc
 have bx : ∀ k, x.testBit k = true → k < (idsS s).length := fun k hk => by
  obtain ⟨w, hw, rfl, _⟩ := (hx3 k).1 hk; exact (pos_get hw).1
 have by' : ∀ k, y.testBit k = true → k < (idsS s).length := fun k hk => by
  obtain ⟨w, hw, rfl, _⟩ := (hy3 k).1 hk; exact (pos_get hw).1
 refine ⟨amL_ne h (Nat.lt_of_le_of_lt Nat.and_le_left hx2) (by omega) fun k hk => ?_, amL_ne h (anN_lt _ _) (by omega) fun k hk => ?_, amL_ne h (anN_lt _ _) (by omega) fun k hk => ?_⟩
 ·rw [Nat.testBit_and, Bool.and_eq_true] at hk; exact bx k hk.1
 ·rw [anN_bit hx2 hy2, Bool.and_eq_true] at hk; exact bx k hk.1
 ·rw [anN_bit hy2 hx2, Bool.and_eq_true] at hk; exact by' k hk.1
end Go.Am.Ds
end
section
namespace Go.Am.Ds
open Go Go.Am Go.Proofs
attribute [local simp] vrun vwanted vyielded vop vopA vputAll VHeap.back hidI hidF backL bm Nat.testBit_eq_decide_div_mod_eq veval vevals vparts vO vbuiltin vlen vappend velems vcopy vmakeSlice vbuildSlice valloc vbox vmakeMap vload vpartT vpart vstore vfieldAddr vfield vindexAddr vindex vextract vslice vsliceZ vbounds vbnd zeroO vidx vlookup vmget vmapUpdate vdelete vclear vnilq vnilp vnils vbin vsc vsc1 vscs vscl abinOp aint ashift aunOp aconvert amaxs amax2 pvcV pvc pvcs tput tget vargs VHeap.get VHeap.alloc VHeap.put VHeap.drop VHeap.empty vlook vput vdrop psplice pfill preps chunk List.range List.range.loop vresults vresult vresultV frz frzL PV.isF PV.allF PV.scal PV.allS retP subT allFT PV.one PV.ids PV.idsL dropL beq_eq ble_dec blt_dec
attribute [local simp] zW tup2
@[local simp ↓ high] theorem aint_and32 (a b : Int) : aint .and .u32 a b = some (.int .u32 (andV a b)) := rfl
@[local simp ↓ high] theorem aint_an32 (a b : Int) : aint .andNot .u32 a b = some (.int .u32 (anV a b)) := rfl
@[local simp ↓ high] theorem ashr32 (a : Int) (k : Nat) : ashift .shr .u32 a (k : Int) = some (.int .u32 (shrV a k)) := by
 unfold ashift shrV
 have h : ¬ ((k : Int) < 0) := by omega
 rw [decide_eq_false h, cond_false, Int.toNat_natCast]; rfl
theorem p96 (x y : Int) : VPure Tryz.prog 96 [.int .u32 x, .int .u32 y] fun r => r = .tup [.agg [.int .u32 (andV x y), .int .u32 (anV x y), .int .u32 (anV y x)], .bool (crossV x y)] := by
 have hcx : crossV x y = (andV x y != 0 && (anV x y != 0 && anV y x != 0)) := rfl
 refine .of_body Tryz.func96 rfl rfl ?_
 refine .seq (.rn ?_)
 refine .seq (.rn ?_)
 refine .seq ?_
 refine .drawn (ms := [0,0,2,6,14,30,62,126,254,510,1022,2046,4094,8190,1023,32767]) (W := [14]) (items := [.op 0, .op 1, .op 2, .op 3, .op 4, .op 5, .op 6, .op 7, .op 8, .op 9, .op 10, .op 11, .op 12, .op 13, .op 14, .ck 11, .op 15]) rfl zz0 zz0 zz0 ?_
 refine .rx ?_
 refine .rx ?_
 refine .rx ?_
 refine .rx ?_
 refine .rx ?_
 refine .split (t := 21) rfl (fun c21 => ?_) (fun c21 => ?_)
 ·try rw [c21]
  try simp at c21
  have e1 : (andV x y != 0) = true := by simpa using c21
  refine .rx ?_
  refine .rx ?_
  refine .rx ?_
  refine .rx ?_
  refine .rx ?_
  refine .split (t := 26) rfl (fun c26 => ?_) (fun c26 => ?_)
  ·try rw [c26]
   try simp at c26
   have e2 : (anV x y != 0) = true := by simpa using c26
   refine .rx ?_
   refine .rx ?_
   refine .rx ?_
   refine .rx ?_
   refine .wr rfl rfl (by decide) (.stor (todo' := [11]) rfl rfl rfl rfl zz1 rfl (⟨⟨by decide +kernel, _, _, rfl, zz1⟩, trivial⟩) ?_)
   refine .ck rfl zz0 ?_
   refine .rx ?_
   refine .done (.ret ⟨_, _, zz4,zz4, ?_⟩)
   simp only [hcx, e1, e2, Bool.true_and]
  ·try rw [c26]
   try simp at c26
   have e2 : (anV x y != 0) = false := by simp [c26]
   refine .ux ?_
   refine .ux ?_
   refine .ux ?_
   refine .rx ?_
   refine .wr rfl rfl (by decide) (.stor (todo' := []) rfl rfl rfl rfl zz1 rfl trivial ?_)
   refine .ckU rfl rfl rfl ?_
   refine .rx ?_
   refine .done (.ret ⟨_, _, zz4,zz4, ?_⟩)
   simp only [hcx, e1, e2, Bool.false_and, Bool.and_false]
   simp [c26]
 ·try rw [c21]
  try simp at c21
  have e1 : (andV x y != 0) = false := by simp [c21]
  refine .ux ?_
  refine .ux ?_
  refine .ux ?_
  refine .rx ?_
  refine .rx ?_
  refine .ux ?_
  refine .ux ?_
  refine .ux ?_
  refine .rx ?_
  refine .wr rfl rfl (by decide) (.stor (todo' := []) rfl rfl rfl rfl zz1 rfl trivial ?_)
  refine .ckU rfl rfl rfl ?_
  refine .rx ?_
  refine .done (.ret ⟨_, _, zz4,zz4, ?_⟩)
  simp only [hcx, e1, Bool.false_and]
  simp [c21]
theorem p98 (m : Int) (l : List Int) (hl : l.length ≤ 24) : VPure Tryz.prog 98 [.int .u32 m, ints l] fun r => Soft r (ints (amL m l)) := by
 refine .of_body Tryz.func98 rfl rfl ?_
 refine .seq (.rn ?_)
 refine .seq (.rn ?_)
 refine .seq (.seq (.rn ?_))
 refine .block ?_
 refine .loopS (fun k : Nat => ([(0, .int .u32 m),(5, .grow 0 (amP m l k).length true),(8, ints l),(9, .int .i64 l.length),(10, .int .i64 k)], ⟨1,[(0, .grow 1 ((amP m l k).map (.int .i64)))]⟩)) (fun k => k ≤ l.length) (fun k => l.length - k) 0 (by simp [amP]) (.mk [] [] zz14 zz15 rfl rfl rfl) ?_
 rintro k hk
 simp only at hk ⊢
 have hle := amP_le m l k
 refine .seq (.rn ?_)
 refine .seq ?_
 refine .condS rfl (fun c11 => ?_) (fun c11 => ?_)
 ·try simp at c11
  have hw2 := wr1 k
  have hS := amP_succ m l k c11
  have hb : (amP m l k).length ≤ 4294967295 := by omega
  have hone : allOne [PV.int IntKind.i64 l[k]] = true := rfl
  refine .skip (.seq (.block (.seq (.rn ?_))))
  refine .seq (.rn ?_)
  refine .condS rfl (fun c19 => ?_) (fun c19 => ?_)
  ·try simp at c19
   rw [if_pos (show bitB m k = true by unfold bitB; simp [c19])] at hS
   refine .rn ?_
   refine .rn ?_
   refine ⟨k + 1, c11,zz5,(.mk [] [(0,2)] zz14 zz15 rfl rfl rfl)⟩
  ·try simp at c19
   rw [if_neg (show ¬ bitB m k = true by unfold bitB; simp [c19])] at hS
   refine .skip (.rn ?_)
   refine ⟨k + 1, c11,zz5,(.mk [] [] zz14 zz15 rfl rfl rfl)⟩
 ·try simp at c11
  have hk2 : k = l.length := by omega
  subst hk2
  refine .exit (.seq (.rn ?_))
  refine .ret ⟨_, _, zz4,zz4, ?_⟩
  exact soft_rfl rfl
theorem p98' (m : Int) (l : List Int) (hl : l.length ≤ 24) : VPure Tryz.prog 98 [.int .u32 m, ints l] fun r => r = ints (amL m l) := VPure.soft (p98 m l hl) rfl
theorem p97 (m : Int) (s : List Wit) (h : checkS s = 0) (hne : amL m (idsS s) ≠ []) : VPure Tryz.prog 97 [.int .u32 m, .vp (encS s).cells] fun r => r = .int .i64 ((amL m (idsS s)).headD 0) := by
 have hl24 := (checkS_ok h).1
 have hil := idsS_len s
 obtain ⟨b, r, hbr⟩ : ∃ b r, amL m (idsS s) = b :: r := by
  cases hc : amL m (idsS s) with
  | nil => exact absurd hc hne
  | cons b r => exact ⟨b, r, rfl⟩
 refine .of_body Tryz.func97 rfl rfl ?_
 refine .seq (.rn ?_)
 refine .seq ?_
 refine .regionL [0,1,2,3,4,5,6] rfl zz0 ?_
 refine .rn [0,1] [2,3,4,5,6] ?_
 refine .pc rfl rfl rfl rfl rfl Tryz.call99 (p99' s (by omega)) ?_
 refine .pc rfl rfl rfl rfl rfl Tryz.call98 ((by have h := p98' m (idsS s) (by omega); rw [hbr] at h; exact h)) ?_
 refine .rn [4,5,6] [] ?_
 refine .done (.ret ⟨_, _, zz4,zz4, ?_⟩)
 first | rfl | (simp [*]; done) | (simp_all; done)
theorem p95 (s : List Wit) (h : checkS s = 0) : VPure Tryz.prog 95 [.vmap (kvs (kvM (heldM s)))] fun r => r = .tup [.int .i64 ((crR s).getD (0,0)).1, .int .i64 ((crR s).getD (0,0)).2, .bool (crR s).isSome] := by
 have hlen := heldM_len h
 have hsl := slipsL_len s
 have h125 : VPure Tryz.prog 125 [.vmap (kvs (kvM (heldM s)))] fun r => r = ints (slipsL s) := by
  have h := p125 (kvM (heldM s)) (by rw [kvM_keys]; exact heldM_nodup s) (by simp only [kvM, List.length_map]; omega)
  rw [kvM_keys] at h; exact h
 have hpf : ∀ n ∈ slipsL s, pfind .i64 n (kvs (kvM (heldM s))) = some (some (.int .u32 (vM s n))) := fun n hn => by
  have h1 : n ∈ (heldM s).map (·.1) := heldM_mem.2 (slipsL_mem.1 hn)
  have h2 := getM_mem.2 h1
  rw [pfind_kvM]
  unfold vM
  cases hg : getM (heldM s) n with
  | none => rw [hg] at h2; cases h2
  | some v => rfl
 have hL : (slipsL s).length ≤ 720 := by omega
 clear hsl hlen
 have hcr : crR s = crO s (slipsL s) := rfl
 generalize hM : kvs (kvM (heldM s)) = M at hpf h125
 generalize hLL : slipsL s = L at hpf hL h125 hcr
 refine .of_body Tryz.func95 rfl rfl ?_
 refine .seq (.rn ?_)
 refine .scope ?_
 refine .seq ?_
 refine .regionL [0,1,2] rfl zz0 ?_
 refine .rn [0] [1,2] ?_
 refine .pc rfl rfl rfl rfl rfl Tryz.call125 (h125) ?_
 refine .rn [2] [] ?_
 refine .done (.seq (.rn ?_))
 refine .seq ?_
 refine .label ?_
 refine .seq (.seq (.rn ?_))
 refine .block ?_
 refine .loopS (fun k : Nat => ([(0, .vmap M),(5, ints L),(6, .int .i64 0),(7, .int .i64 0),(8, .bool false),(15, ints L),(16, .int .i64 L.length),(17, .int .i64 k)], VHeap.empty)) (fun k => k ≤ L.length ∧ crR s = crO s (L.drop k)) (fun k => L.length - k) 0 ⟨by simp, by simpa using hcr⟩ (.pure (by simp [*]) (by simp)) ?_
 rintro k ⟨hk, hr⟩
 simp only at hk hr ⊢
 refine .seq (.rn ?_)
 refine .seq ?_
 refine .condS rfl (fun c18 => ?_) (fun c18 => ?_)
 ·try simp at c18
  have hw2 := wr1 k
  rw [List.drop_eq_getElem_cons c18] at hr
  obtain ⟨D, hD⟩ : ∃ D, L.drop (k + 1) = D := ⟨_, rfl⟩
  have hDl : D.length = L.length - (k + 1) := by rw [← hD, List.length_drop]
  have hDm : ∀ x ∈ D, x ∈ L := fun x hx => List.mem_of_mem_drop (hD ▸ hx)
  have hDt : (L.map (PV.int .i64)).drop (k + 1) = D.map (.int .i64) := by rw [← List.map_drop, hD]
  have hDt2 : ((L.map (PV.int .i64)).drop (k + 1)).take (L.length - (k + 1)) = D.map (.int .i64) := by rw [hDt]; exact List.take_of_length_le (by rw [List.length_map]; omega)
  have hDt3 : List.take (L.length - (k + 1)) (D.map (PV.int .i64)) = D.map (.int .i64) := List.take_of_length_le (by rw [List.length_map]; omega)
  have hk1' : 0 ≤ (k : Int) + 1 ∧ (k : Int) + 1 ≤ (L.length : Int) := by omega
  have hDn : D.length ≤ 720 := by omega
  clear hDl
  have hpa := hpf L[k] (List.getElem_mem c18)
  have hk1 : k + 1 ≤ L.length := c18
  refine .skip (.seq (.block (.seq (.rn ?_))))
  refine .seq (.rn ?_)
  refine .block ?_
  refine .loopS (fun j : Nat => ([(0, .vmap M),(5, ints L),(6, .int .i64 0),(7, .int .i64 0),(8, .bool false),(10, .int .i64 L[k]),(15, ints L),(16, .int .i64 L.length),(17, .int .i64 k),(25, ints D),(26, .int .i64 D.length),(27, .int .i64 j)], VHeap.empty)) (fun j => j ≤ D.length ∧ D.find? (crB s L[k]) = (D.drop j).find? (crB s L[k])) (fun j => D.length - j) 0 (by simp) (.pure (by simp [*]) (by simp)) ?_
  rintro j ⟨hj, hf⟩
  simp only at hj hf ⊢
  refine .seq (.rn ?_)
  refine .seq ?_
  refine .condS rfl (fun c28 => ?_) (fun c28 => ?_)
  ·try simp at c28
   have hw3 := wr1 j
   rw [List.drop_eq_getElem_cons c28, List.find?_cons] at hf
   have hpb := hpf D[j] (hDm _ (List.getElem_mem c28))
   obtain ⟨cb, hcb⟩ : ∃ x, crB s L[k] D[j] = x := ⟨_, rfl⟩
   have h96 := p96 (vM s L[k]) (vM s D[j])
   rw [show crossV (vM s L[k]) (vM s D[j]) = cb from hcb] at h96
   rw [hcb] at hf
   refine .skip (.seq (.block (.seq (.rn ?_))))
   refine .seq ?_
   refine .regionL [0,1,2,3,4,5,6,7,8,9,10] rfl zz0 ?_
   refine .rn [0,1,2,3,4,5] [6,7,8,9,10] ?_
   refine .pc rfl rfl rfl rfl rfl Tryz.call96 (h96) ?_
   refine .rn [7,8,9,10] [] ?_
   refine .done (.seq (.rn ?_))
   refine .condS rfl (fun c41 => ?_) (fun c41 => ?_)
   ·try simp at c41
    rw [c41] at hf
    refine .seq (.rn ?_)
    refine .exit (.seq (.rn ?_))
    refine .ret ⟨_, _, zz4,zz4, ?_⟩
    have hx : crR s = some (L[k], D[j]) := by rw [hr]; unfold crO; rw [hD, hf]
    rw [hx]; simp [c41]
   ·try simp at c41
    rw [c41] at hf
    refine .skip (.rn ?_)
    refine ⟨j + 1, ⟨c28, hf⟩, zz5, .pure (by simp [*]) (by simp)⟩
  ·try simp at c28
   have hj2 : j = D.length := by omega
   rw [hj2, List.drop_length] at hf
   refine .exit (.rn ?_)
   refine ⟨k + 1, ⟨c18, by
    rw [hr, hD]
    show (match D.find? (crB s L[k]) with | some b => some (L[k], b) | none => crO s D) = crO s D
    rw [hf]; rfl⟩, zz5, .pure (by simp [*]) (by simp)⟩
 ·try simp at c18
  have hk2 : k = L.length := by omega
  rw [hk2, List.drop_length] at hr
  refine .exit (.seq (.rn ?_))
  refine .ret ⟨_, _, zz4,zz4, ?_⟩
  rw [hr]; rfl
def zX : PV := .agg [.int .i64 0, .int .i64 0, .int .i64 0, .int .i64 0, .int .i64 0]
def crX (s : List Wit) (a b : Int) : PV := .agg [.int .i64 a, .int .i64 b, .int .i64 ((amL (andV (vM s a) (vM s b)) (idsS s)).headD 0), .int .i64 ((amL (anV (vM s a) (vM s b)) (idsS s)).headD 0), .int .i64 ((amL (anV (vM s b) (vM s a)) (idsS s)).headD 0)]
def crT (s : List Wit) : PV := if checkS s = 0 then (match crR s with
 | some p => .tup [crX s p.1 p.2, .bool true, .int .i64 0]
 | none => .tup [zX, .bool false, .int .i64 0]) else .tup [zX, .bool false, .int .i64 (checkS s)]
theorem p24 (s : List Wit) (hl : s.length < 4294967296) : VPure Tryz.prog 24 [encS s] fun r => r = crT s := by
 refine .of_body Tryz.func24 rfl rfl ?_
 refine .seq (.rn ?_)
 refine .seq (.seq ?_)
 refine .regionL [0,1,2] rfl zz0 ?_
 refine .rn [0] [1,2] ?_
 refine .pc rfl rfl rfl rfl rfl Tryz.call35 (p35 s hl) ?_
 refine .rn [2] [] ?_
 refine .done (.seq (.rn ?_))
 refine .condS rfl (fun c16 => ?_) (fun c16 => ?_)
 ·try simp at c16
  refine .seq (.rn ?_)
  refine .ret ⟨_, _, zz4,zz4, ?_⟩
  unfold crT zX; rw [if_neg c16]
 ·try simp at c16
  have hpf : ∀ n ∈ slipsL s, pfind .i64 n (kvs (kvM (heldM s))) = some (some (.int .u32 (vM s n))) := fun n hn => by
   have h1 : n ∈ (heldM s).map (·.1) := heldM_mem.2 (slipsL_mem.1 hn)
   have h2 := getM_mem.2 h1
   rw [pfind_kvM]
   unfold vM
   cases hg : getM (heldM s) n with
   | none => rw [hg] at h2; cases h2
   | some v => rfl
  have hT : crT s = match crR s with
   | some p => .tup [crX s p.1 p.2, .bool true, .int .i64 0]
   | none => .tup [zX, .bool false, .int .i64 0] := by unfold crT; rw [if_pos c16]
  have q95 := p95 s c16
  rcases hcr : crR s with _ | ⟨a, b⟩ <;> rw [hcr] at hT q95
  ·skip
   refine .skip (.seq ?_)
   refine .regionL [0,1,2] rfl zz0 ?_
   refine .rn [0] [1,2] ?_
   refine .pc rfl rfl rfl rfl rfl Tryz.call94 (p94 s c16) ?_
   refine .rn [2] [] ?_
   refine .done (.seq ?_)
   refine .regionL [0,1,2,3,4,5,6,7,8] rfl zz0 ?_
   refine .rn [0] [1,2,3,4,5,6,7,8] ?_
   refine .pc rfl rfl rfl rfl rfl Tryz.call95 (q95) ?_
   refine .rn [2,3,4,5,6,7,8] [] ?_
   refine .done (.seq (.seq (.rn ?_)))
   refine .condS rfl (fun c28 => ?_) (fun c28 => ?_)
   ·try simp at c28
    refine .seq (.rn ?_)
    refine .ret ⟨_, _, zz4,zz4, ?_⟩
    rw [hT]; rfl
   ·try simp at c28
  ·skip
   refine .skip (.seq ?_)
   refine .regionL [0,1,2] rfl zz0 ?_
   refine .rn [0] [1,2] ?_
   refine .pc rfl rfl rfl rfl rfl Tryz.call94 (p94 s c16) ?_
   refine .rn [2] [] ?_
   refine .done (.seq ?_)
   refine .regionL [0,1,2,3,4,5,6,7,8] rfl zz0 ?_
   refine .rn [0] [1,2,3,4,5,6,7,8] ?_
   refine .pc rfl rfl rfl rfl rfl Tryz.call95 (q95) ?_
   refine .rn [2,3,4,5,6,7,8] [] ?_
   refine .done (.seq (.seq (.rn ?_)))
   refine .condS rfl (fun c28 => ?_) (fun c28 => ?_)
   ·try simp at c28
   ·try simp at c28
    obtain ⟨hma, hmb, hab⟩ := crO_some (show crO s (slipsL s) = some (a, b) from hcr)
    have hpa := hpf a hma
    have hpb := hpf b hmb
    obtain ⟨n1, n2, n3⟩ := cross_ne c16 hab
    have h96 := p96 (vM s a) (vM s b)
    rw [show crossV (vM s a) (vM s b) = true from hab] at h96
    refine .skip (.seq ?_)
    refine .regionL [0,1,2,3,4,5,6,7,8,9,10,11,12] rfl zz0 ?_
    refine .rn [0,1,2,3,4,5] [6,7,8,9,10,11,12] ?_
    refine .pc rfl rfl rfl rfl rfl Tryz.call96 (h96) ?_
    refine .rn [7,8,9,10,11,12] [] ?_
    refine .done (.seq ?_)
    refine .rec (vts2 := [(1, .vp (encS s).cells),(2, .ptr 1 0),(7, .int .i64 a),(8, .int .i64 b),(10, .ptr 2 0)]) (vh2 := ⟨3,[(2, .box [.int .u32 (andV (vM s a) (vM s b)), .int .u32 (anV (vM s a) (vM s b)), .int .u32 (anV (vM s b) (vM s a))]),(1, .box [.int .i64 0, .int .i64 0, .int .i64 0, .int .i64 0, .int .i64 0])]⟩) (.mk [0] [] (by repeat' (first | exact trivial | refine And.intro (Exists.intro _ (And.intro rfl ?_)) ?_ | exact Alt.fptr 0 0 _ rfl rfl rfl (Nat.zero_le _) | exact Alt.ptr _ _ _ (Nat.le_of_ble_eq_true rfl) rfl | (refine Alt.same _ ?_; first | rfl | (simp [*]; done)))) zz15 rfl rfl rfl) ?_
    refine .rn ?_
    refine .seq ?_
    refine .drawn (ms := [0,0,0,0,8,28,0,0,128,508,0,0,2048,8188,16383,32767,65535,131071]) (W := [5,9,13,15]) (items := [.op 0, .op 1, .op 2, .op 3, .op 4, .op 6, .op 7, .op 8, .op 10, .op 11, .op 12, .op 5, .ck 12, .ck 8, .op 9, .ck 12, .op 13, .op 14, .op 15, .op 16, .op 17]) rfl zz0 zz0 zz0 ?_
    refine .rx ?_
    refine .rx ?_
    refine .rx ?_
    refine .rx ?_
    refine .rx ?_
    refine .rx ?_
    refine .rx ?_
    refine .rx ?_
    refine .rx ?_
    refine .rx ?_
    refine .rx ?_
    refine .wp rfl rfl rfl rfl rfl Tryz.call97 (p97 (andV (vM s a) (vM s b)) s c16 n1) ?_
    refine .ck rfl zz0 ?_
    refine .ck rfl zz0 ?_
    refine .wp rfl rfl rfl rfl rfl Tryz.call97 (p97 (anV (vM s a) (vM s b)) s c16 n2) ?_
    refine .ck rfl zz0 ?_
    refine .wp rfl rfl rfl rfl rfl Tryz.call97 (p97 (anV (vM s b) (vM s a)) s c16 n3) ?_
    refine .rx ?_
    refine .wv ?_
    refine .rx ?_
    refine .rx ?_
    refine .done (.ret ⟨_, _, zz4,zz4, ?_⟩)
    rw [hT]; simp [crX]
end Go.Am.Ds
end
section
namespace Go.Am.Ds
open Go Go.Am Go.Proofs
theorem rising_iff : ∀ {l : List Int} {a : Int}, risingS l a = true ↔ (l.Pairwise (· < ·) ∧ ∀ n ∈ l, a < n ∧ n ≤ 1099511627776)
 | [], a => by simp [risingS]
 | n :: r, a => by
  unfold risingS
  have ih := rising_iff (l := r) (a := n)
  split
  ·rename_i h
   constructor
   ·intro h2; cases h2
   ·rintro ⟨_, h2⟩
    have := h2 n List.mem_cons_self
    omega
  ·rename_i h
   rw [ih, List.pairwise_cons]
   constructor
   ·rintro ⟨h1, h2⟩
    refine ⟨⟨fun x hx => (h2 x hx).1, h1⟩, fun x hx => ?_⟩
    rcases List.mem_cons.1 hx with rfl | hx
    ·omega
    ·have := h2 x hx; omega
   ·rintro ⟨⟨h1, h2⟩, h3⟩
    exact ⟨h2, fun x hx => ⟨h1 x hx, (h3 x (List.mem_cons_of_mem _ hx)).2⟩⟩
structure Bir where
  fr : Nat
  after : Nat
  days : Nat
  own : Nat
  mends : Bool
def ownL (t k : Nat) : List Int := (List.range k).map fun (i : Nat) => ((t + i + 1 : Nat) : Int)
theorem ownL_len (t k : Nat) : (ownL t k).length = k := by simp [ownL]
theorem ownL_mem {t k : Nat} {n : Int} : n ∈ ownL t k ↔ ((t : Int) < n ∧ n ≤ ((t + k : Nat) : Int)) := by
 unfold ownL
 rw [List.mem_map]
 constructor
 ·rintro ⟨i, hi, rfl⟩
  rw [List.mem_range] at hi
  omega
 ·rintro ⟨h1, h2⟩
  exact ⟨(n - t - 1).toNat, by rw [List.mem_range]; omega, by omega⟩
theorem ownL_pw (t k : Nat) : (ownL t k).Pairwise (· < ·) := by
 unfold ownL
 rw [List.pairwise_map]
 exact List.Pairwise.imp (fun h => by omega) List.pairwise_lt_range
def frB (s : List Wit) (b : Bir) : Nat := b.fr % (s.length + 1)
def oldB (s : List Wit) (b : Bir) : List Int := if frB s b = 0 then [] else ((s[frB s b - 1]?).map Wit.slips).getD []
def dayB (s : List Wit) (b : Bir) : Int := if frB s b = 0 then 0 else ((s[frB s b - 1]?).map Wit.hi).getD 0 + 1
def cutB (s : List Wit) (b : Bir) : Bool := b.mends && decide (oldB s b ≠ [])
def menB (s : List Wit) (b : Bir) : List Int := if cutB s b = true then (oldB s b).take 1 else []
def keepB (s : List Wit) (b : Bir) : List Int := if cutB s b = true then (oldB s b).drop 1 else oldB s b
def newB (s : List Wit) (t : Nat) (b : Bir) : Wit := ⟨(s.length : Int) + 1,0, keepB s b ++ ownL t (b.own % 4), menB s b, [], dayB s b + ((b.after % 5 : Nat) : Int), dayB s b + ((b.after % 5 : Nat) : Int) + ((b.days % 5 : Nat) : Int)⟩
structure TrS where
  s : List Wit
  ps : List Int
  t : Nat
  m : Bool
def stepB (x : TrS) (b : Bir) : TrS := ⟨x.s ++ [newB x.s x.t b], x.ps ++ [(frB x.s b : Int)], x.t + b.own % 4, x.m || cutB x.s b⟩
structure TrOK (x : TrS) (ow : List (List Int)) : Prop where
  pl : x.ps.length = x.s.length
  ol : ow.length = x.s.length
  ids : ∀ k (h : k < x.s.length), x.s[k].id = (k : Int) + 1
  kn : ∀ w ∈ x.s, w.known = 0 ∧ w.models = [] ∧ 0 ≤ w.lo ∧ w.lo ≤ w.hi
  sl : ∀ k (h : k < x.s.length), x.s[k].slips.length ≤ 3 * (k + 1) ∧ x.s[k].mended.length ≤ 1
  pw : ∀ w ∈ x.s, w.slips.Pairwise (· < ·) ∧ (∀ n ∈ w.slips, 0 < n ∧ n ≤ (x.t : Int)) ∧ w.mended.Pairwise (· < ·) ∧ (∀ n ∈ w.mended, 0 < n ∧ n ≤ (x.t : Int) ∧ n ∉ w.slips)
  tt : (ow.map List.length).sum = x.t
  nd : ∀ o ∈ ow, o.Nodup ∧ ∀ n ∈ o, n ≤ (x.t : Int)
  o3 : ∀ o ∈ ow, o.length ≤ 3
  oin : ∀ k (h : k < x.s.length) (h2 : k < ow.length), ∀ n ∈ ow[k], n ∈ x.s[k].slips
  late : ∀ k j (h : k < x.s.length) (h2 : k < ow.length) (h3 : j < x.s.length), ∀ n ∈ ow[k], n ∈ x.s[j].slips → j = k ∨ x.s[k].hi < x.s[j].lo
  par : ∀ k (h : k < x.s.length) (h2 : k < ow.length) (h3 : k < x.ps.length),(x.ps[k] = 0 ∧ x.s[k].slips = ow[k]) ∨ ∃ f, ∃ hf : f < k, x.ps[k] = (f : Int) + 1 ∧ x.s[f].hi < x.s[k].lo ∧ (∀ n ∈ x.s[f].slips, n ∈ x.s[k].slips ∨ n ∈ x.s[k].mended) ∧ (∀ n ∈ x.s[k].slips, n ∈ x.s[f].slips ∨ n ∈ ow[k]) ∧ ∀ n ∈ ow[k], n ∉ x.s[f].slips
  cro : x.m = false → ∀ a b, ¬ crP x.s a b
theorem TrOK.nil : TrOK ⟨[],[],0, false⟩ [] := ⟨rfl, rfl, by simp, by simp, by simp, by simp, rfl, by simp, by simp, by simp, by simp, by simp, fun _ a b ⟨⟨w, hw, _⟩, _⟩ => by cases hw⟩
theorem getElem_snoc {α : Type} {l : List α} {a : α} {k : Nat} (h : k < (l ++ [a]).length) : (∃ h2 : k < l.length, (l ++ [a])[k] = l[k]) ∨ (k = l.length ∧ (l ++ [a])[k] = a) := by
 rw [List.length_append, List.length_singleton] at h
 rcases Nat.lt_or_ge k l.length with h2 | h2
 ·exact .inl ⟨h2, List.getElem_append_left h2⟩
 ·have : k = l.length := by omega
  subst this
  exact .inr ⟨rfl, by simp⟩
theorem TrOK.old {x : TrS} {ow : List (List Int)} (h : TrOK x ow) (b : Bir) : (frB x.s b = 0 ∧ oldB x.s b = [] ∧ dayB x.s b = 0) ∨ ∃ f, ∃ hf : f < x.s.length, frB x.s b = f + 1 ∧ oldB x.s b = x.s[f].slips ∧ dayB x.s b = x.s[f].hi + 1 := by
 by_cases h0 : frB x.s b = 0
 ·exact .inl ⟨h0, by rw [oldB, if_pos h0], by rw [dayB, if_pos h0]⟩
 ·have hf : frB x.s b - 1 < x.s.length := by
   have : frB x.s b < x.s.length + 1 := Nat.mod_lt _ (by omega)
   omega
  exact .inr ⟨frB x.s b - 1, hf, by omega, by rw [oldB, if_neg h0]; simp [hf], by rw [dayB, if_neg h0]; simp [hf]⟩
theorem keep_men (s : List Wit) (b : Bir) : oldB s b = menB s b ++ keepB s b := by
 unfold menB keepB
 split
 ·rw [List.take_append_drop]
 ·rfl
theorem TrOK.step {x : TrS} {ow : List (List Int)} (h : TrOK x ow) (b : Bir) : TrOK (stepB x b) (ow ++ [ownL x.t (b.own % 4)]) := by
 have hold := h.old b
 have hkm := keep_men x.s b
 have hml : (menB x.s b).length ≤ 1 := by unfold menB; split <;> simp <;> omega
 have hopw : (oldB x.s b).Pairwise (· < ·) ∧ (∀ n ∈ oldB x.s b, 0 < n ∧ n ≤ (x.t : Int)) ∧ (oldB x.s b).length ≤ 3 * x.s.length := by
  rcases hold with ⟨_, h1, _⟩ | ⟨f, hf, _, h1, _⟩
  ·rw [h1]; simp
  ·rw [h1]
   have h2 := h.pw x.s[f] (List.getElem_mem hf)
   have h3 := (h.sl f hf).1
   exact ⟨h2.1, h2.2.1, by omega⟩
 have hday : 0 ≤ dayB x.s b := by
  rcases hold with ⟨_, _, h1⟩ | ⟨f, hf, _, _, h1⟩
  ·omega
  ·have := h.kn x.s[f] (List.getElem_mem hf)
   omega
 have hol := ownL_len x.t (b.own % 4)
 have ho4 : b.own % 4 < 4 := Nat.mod_lt _ (by omega)
 rw [hkm] at hopw
 obtain ⟨hp1, hp2, hp3⟩ := hopw
 rw [List.pairwise_append] at hp1
 rw [List.length_append] at hp3
 have hnew : (newB x.s x.t b).slips = keepB x.s b ++ ownL x.t (b.own % 4) := rfl
 have hkin : ∀ n ∈ keepB x.s b, 0 < n ∧ n ≤ (x.t : Int) := fun n hn => hp2 n (List.mem_append_right _ hn)
 have hidl : (stepB x b).s = x.s ++ [newB x.s x.t b] := rfl
 have hpsl : (stepB x b).ps = x.ps ++ [(frB x.s b : Int)] := rfl
 have htt : (stepB x b).t = x.t + b.own % 4 := rfl
 have hsn : ∀ j (h3 : j < (stepB x b).s.length), ∀ n ∈ (stepB x b).s[j].slips, n ≤ (x.t : Int) → (∃ h4 : j < x.s.length, (stepB x b).s[j] = x.s[j] ∧ n ∈ x.s[j].slips) ∨ (j = x.s.length ∧ n ∈ keepB x.s b) := by
  intro j h3 n hn hle
  rcases getElem_snoc (l := x.s) (a := newB x.s x.t b) (by rw [hidl] at h3; exact h3) with ⟨h4, h5⟩ | ⟨h4, h5⟩
  ·simp only [hidl] at hn ⊢
   rw [h5] at hn
   exact .inl ⟨h4, h5, hn⟩
  ·simp only [hidl] at hn
   rw [h5, hnew, List.mem_append, ownL_mem] at hn
   refine .inr ⟨h4, ?_⟩
   rcases hn with hn | hn
   ·exact hn
   ·omega
 refine ⟨?_, ?_, ?_, ?_, ?_, ?_, ?_, ?_, ?_, ?_, ?_, ?_, ?_⟩
 ·rw [hidl, hpsl, List.length_append, List.length_append, h.pl]; rfl
 ·rw [hidl, List.length_append, List.length_append, h.ol]; rfl
 ·intro k hk
  simp only [hidl] at hk ⊢
  rcases getElem_snoc hk with ⟨h4, h5⟩ | ⟨h4, h5⟩
  ·rw [h5]; exact h.ids k h4
  ·rw [h5, h4]; rfl
 ·intro w hw
  rw [hidl, List.mem_append, List.mem_singleton] at hw
  rcases hw with hw | rfl
  ·exact h.kn w hw
  ·refine ⟨rfl, rfl, ?_, ?_⟩ <;> simp only [newB] <;> omega
 ·intro k hk
  simp only [hidl] at hk ⊢
  rcases getElem_snoc hk with ⟨h4, h5⟩ | ⟨h4, h5⟩
  ·rw [h5]; exact h.sl k h4
  ·rw [h5, h4, hnew, List.length_append, hol]
   exact ⟨by omega, hml⟩
 ·intro w hw
  rw [hidl, List.mem_append, List.mem_singleton] at hw
  rw [htt]
  rcases hw with hw | rfl
  ·have h1 := h.pw w hw
   refine ⟨h1.1, fun n hn => ?_, h1.2.2.1, fun n hn => ?_⟩
   ·have := h1.2.1 n hn; omega
   ·have := h1.2.2.2 n hn
    exact ⟨this.1, by omega, this.2.2⟩
  ·rw [hnew]
   refine ⟨?_, fun n hn => ?_, hp1.1, fun n hn => ?_⟩
   ·rw [List.pairwise_append]
    refine ⟨hp1.2.1, ownL_pw _ _, fun a ha c hc => ?_⟩
    have h1 := hkin a ha
    rw [ownL_mem] at hc
    omega
   ·rw [List.mem_append, ownL_mem] at hn
    rcases hn with hn | hn
    ·have := hkin n hn; omega
    ·omega
   ·have h1 := hp2 n (List.mem_append_left _ hn)
    refine ⟨h1.1, by omega, fun hn2 => ?_⟩
    rw [List.mem_append, ownL_mem] at hn2
    rcases hn2 with hn2 | hn2
    ·have := hp1.2.2 n hn n hn2; omega
    ·omega
 ·rw [List.map_append, List.sum_append, h.tt]; simp [hol, htt]
 ·intro o ho
  rw [List.mem_append, List.mem_singleton] at ho
  rw [htt]
  rcases ho with ho | rfl
  ·have := h.nd o ho
   exact ⟨this.1, fun n hn => by have := this.2 n hn; omega⟩
  ·exact ⟨(ownL_pw _ _).imp fun h => by omega, fun n hn => by rw [ownL_mem] at hn; omega⟩
 ·intro o ho
  rw [List.mem_append, List.mem_singleton] at ho
  rcases ho with ho | rfl
  ·exact h.o3 o ho
  ·rw [hol]; omega
 ·intro k hk hk2 n hn
  simp only [hidl] at hk ⊢
  rcases getElem_snoc hk with ⟨h4, h5⟩ | ⟨h4, h5⟩
  ·have h6 : k < ow.length := by rw [h.ol]; exact h4
   rw [List.getElem_append_left h6] at hn
   rw [h5]; exact h.oin k h4 h6 n hn
  ·subst h4
   rw [List.getElem_append_right (by rw [h.ol]; omega)] at hn
   simp only [List.getElem_singleton] at hn
   rw [h5, hnew]
   exact List.mem_append_right _ hn
 ·intro k j hk hk2 hj n hn hnj
  simp only [hidl] at hk
  rcases getElem_snoc hk with ⟨h4, h5⟩ | ⟨h4, h5⟩
  ·have h6 : k < ow.length := by rw [h.ol]; exact h4
   rw [List.getElem_append_left h6] at hn
   have hle := (h.nd ow[k] (List.getElem_mem h6)).2 n hn
   simp only [hidl] at hnj ⊢
   rw [h5]
   rcases hsn j hj n hnj hle with ⟨h7, h8, h9⟩ | ⟨h7, h9⟩
   ·simp only [hidl] at h8
    rw [h8]
    exact h.late k j h4 h6 h7 n hn h9
   ·right
    have ho : n ∈ oldB x.s b := by rw [hkm]; exact List.mem_append_right _ h9
    have h8 : (x.s ++ [newB x.s x.t b])[j]'(by rw [← hidl]; exact hj) = newB x.s x.t b := by subst h7; simp
    rw [h8]
    rcases hold with ⟨_, h1, _⟩ | ⟨f, hf, _, h1, h2⟩
    ·rw [h1] at ho; cases ho
    ·rw [h1] at ho
     have hlo : x.s[f].hi < (newB x.s x.t b).lo := by simp only [newB]; omega
     rcases h.late k f h4 h6 hf n hn ho with rfl | h10
     ·exact hlo
     ·have := h.kn x.s[f] (List.getElem_mem hf)
      omega
  ·subst h4
   rw [List.getElem_append_right (by rw [h.ol]; omega)] at hn
   simp only [List.getElem_singleton] at hn
   rw [ownL_mem] at hn
   left
   simp only [hidl] at hj hnj
   rcases getElem_snoc hj with ⟨h7, h8⟩ | ⟨h7, h8⟩
   ·rw [h8] at hnj
    have := (h.pw x.s[j] (List.getElem_mem h7)).2.1 n hnj
    omega
   ·exact h7
 ·intro k hk hk2 hk3
  simp only [hidl] at hk
  simp only [hidl, hpsl] at hk3 ⊢
  rcases getElem_snoc hk with ⟨h4, h5⟩ | ⟨h4, h5⟩
  ·have h6 : k < ow.length := by rw [h.ol]; exact h4
   have h7 : k < x.ps.length := by rw [h.pl]; exact h4
   rw [h5, List.getElem_append_left h6, List.getElem_append_left h7]
   rcases h.par k h4 h6 h7 with h8 | ⟨f, hf, h8⟩
   ·exact .inl h8
   ·refine .inr ⟨f, hf, ?_⟩
    rw [List.getElem_append_left (show f < x.s.length by omega)]
    exact h8
  ·subst h4
   have e1 : (ow ++ [ownL x.t (b.own % 4)])[x.s.length]'hk2 = ownL x.t (b.own % 4) := by rw [List.getElem_append_right (by rw [h.ol]; omega)]; simp
   have e2 : (x.ps ++ [(frB x.s b : Int)])[x.s.length]'hk3 = (frB x.s b : Int) := by rw [List.getElem_append_right (by rw [h.pl]; omega)]; simp
   rw [h5, e1, e2]
   rcases hold with ⟨h0, h1, _⟩ | ⟨f, hf, h0, h1, h2⟩
   ·left
    rw [h1] at hkm
    have := List.append_eq_nil_iff.1 hkm.symm
    rw [hnew, this.2, h0]; exact ⟨rfl, rfl⟩
   ·right
    refine ⟨f, hf, by rw [h0]; omega, ?_, ?_, ?_, ?_⟩
    ·rw [List.getElem_append_left hf]; simp only [newB]; omega
    ·intro n hn
     rw [List.getElem_append_left hf, ← h1, hkm] at hn
     rcases List.mem_append.1 hn with hn | hn
     ·exact .inr hn
     ·exact .inl (by rw [hnew]; exact List.mem_append_left _ hn)
    ·intro n hn
     rw [List.getElem_append_left hf, ← h1, hkm]
     rw [hnew] at hn
     rcases List.mem_append.1 hn with hn | hn
     ·exact .inl (List.mem_append_right _ hn)
     ·exact .inr hn
    ·intro n hn hn2
     rw [List.getElem_append_left hf] at hn2
     have := (h.pw x.s[f] (List.getElem_mem hf)).2.1 n hn2
     rw [ownL_mem] at hn
     omega
 ·intro hm a c hc
  have hm1 : x.m = false ∧ cutB x.s b = false := by
   have : (x.m || cutB x.s b) = false := hm
   simpa using this
  have hkeep : keepB x.s b = oldB x.s b := by unfold keepB; rw [if_neg (by rw [hm1.2]; simp)]
  have hno := h.cro hm1.1
  obtain ⟨⟨w, hw, w1, w2⟩, ⟨u, hu, u1, u2⟩, v, hv, v1, v2⟩ := hc
  rw [hidl, List.mem_append, List.mem_singleton] at hw hu hv
  have hsl : ∀ y ∈ x.s, ∀ n ∈ y.slips, n ≤ (x.t : Int) := fun y hy n hn => ((h.pw y hy).2.1 n hn).2
  have hold2 : ∀ n, n ≤ (x.t : Int) → (n ∈ (newB x.s x.t b).slips ↔ n ∈ oldB x.s b) := fun n hn => by
   rw [hnew, hkeep, List.mem_append, ownL_mem]
   constructor
   ·rintro (h1 | h1)
    ·exact h1
    ·omega
   ·exact .inl
  by_cases ha : a ≤ (x.t : Int)
  ·by_cases hb : c ≤ (x.t : Int)
   ·rcases hold with ⟨_, h1, _⟩ | ⟨f, hf, _, h1, _⟩
    ·rw [h1] at hold2
     have na : a ∉ (newB x.s x.t b).slips := fun h => by rw [hold2 a ha] at h; cases h
     have nc : c ∉ (newB x.s x.t b).slips := fun h => by rw [hold2 c hb] at h; cases h
     refine hno a c ⟨⟨w, ?_, w1, w2⟩, ⟨u, ?_, u1, u2⟩, v, ?_, v1, v2⟩
     ·rcases hw with hw | rfl; exact hw; exact absurd w1 na
     ·rcases hu with hu | rfl; exact hu; exact absurd u1 na
     ·rcases hv with hv | rfl; exact hv; exact absurd v1 nc
    ·rw [h1] at hold2
     have hm3 := List.getElem_mem hf
     have sw : ∀ {y : Wit}, y ∈ x.s ∨ y = newB x.s x.t b → ∃ z ∈ x.s, (a ∈ z.slips ↔ a ∈ y.slips) ∧ (c ∈ z.slips ↔ c ∈ y.slips) := by
      rintro y (hy | rfl)
      ·exact ⟨y, hy, .rfl, .rfl⟩
      ·exact ⟨x.s[f], hm3,(hold2 a ha).symm, (hold2 c hb).symm⟩
     obtain ⟨w', hw', wa, wc⟩ := sw hw
     obtain ⟨u', hu', ua, uc⟩ := sw hu
     obtain ⟨v', hv', va, vc⟩ := sw hv
     exact hno a c ⟨⟨w', hw', wa.2 w1, wc.2 w2⟩, ⟨u', hu', ua.2 u1, fun h => u2 (uc.1 h)⟩, v', hv', vc.2 v1, fun h => v2 (va.1 h)⟩
   ·have e1 : w = newB x.s x.t b := hw.resolve_left fun h => hb (hsl w h c w2)
    have e2 : v = newB x.s x.t b := hv.resolve_left fun h => hb (hsl v h c v1)
    subst e1; subst e2
    exact v2 w1
  ·have e1 : w = newB x.s x.t b := hw.resolve_left fun h => ha (hsl w h a w1)
   have e2 : u = newB x.s x.t b := hu.resolve_left fun h => ha (hsl u h a u1)
   subst e1; subst e2
   exact u2 w2
theorem checkL_of : ∀ {l : List Wit} {seen : List Int},(∀ w ∈ l, witE w = 0) → (l.map Wit.id).Nodup → (∀ w ∈ l, w.id ∉ seen) → checkL l seen = 0
 | [], _, _, _, _ => rfl
 | w :: r, seen, h1, h2, h3 => by
  rw [checkL, if_pos (h1 w List.mem_cons_self), if_neg (h3 w List.mem_cons_self)]
  rw [List.map_cons, List.nodup_cons] at h2
  refine checkL_of (fun v hv => h1 v (List.mem_cons_of_mem _ hv)) h2.2 fun v hv hvs => ?_
  unfold insU at hvs
  split at hvs
  ·exact h3 v (List.mem_cons_of_mem _ hv) hvs
  ·rw [List.mem_append, List.mem_singleton] at hvs
   rcases hvs with h | h
   ·exact h3 v (List.mem_cons_of_mem _ hv) h
   ·exact h2.1 (h ▸ List.mem_map_of_mem hv)
theorem TrOK.nodup {x : TrS} {ow : List (List Int)} (h : TrOK x ow) : (x.s.map Wit.id).Nodup := by
 rw [List.nodup_iff_pairwise_ne, List.pairwise_iff_getElem]
 intro i j hi hj hij
 rw [List.length_map] at hi hj
 rw [List.getElem_map, List.getElem_map, h.ids i hi, h.ids j hj]
 omega
theorem TrOK.getW {x : TrS} {ow : List (List Int)} (h : TrOK x ow) {f : Nat} (hf : f < x.s.length) : getW x.s ((f : Int) + 1) = some x.s[f] := by
 rw [← h.ids f hf]
 exact getW_own h.nodup (List.getElem_mem hf)
theorem TrOK.least {x : TrS} {ow : List (List Int)} (h : TrOK x ow) (hc : checkS x.s = 0) {k : Nat} (hk : k < x.s.length) (h2 : k < ow.length) {y : Int × Int} (hy : y ∈ parS x.s x.s[k]) : (ow[k].length : Int) ≤ y.2 := by
  have hn := (h.nd ow[k] (List.getElem_mem h2)).1
  have hin := h.oin k hk h2
  rcases parS_mem.1 hy with ⟨rfl, _⟩ | ⟨p, hp1, hp2, hp3, hp4⟩
  · have := nodup_sub hn hin
    simp only; omega
  · rw [hp4]
    have : ow[k].length ≤ (ariS x.s[k] p).length := nodup_sub hn fun n hn => by
      unfold ariS
      rw [List.mem_filter]
      refine ⟨hin n hn, ?_⟩
      simp only [Bool.not_eq_true', decide_eq_false_iff_not, mem_setK1]
      intro hnp
      have hpm := (getW_mem hp2).1
      obtain ⟨j, hj, rfl⟩ := List.getElem_of_mem hpm
      rcases h.late k j hk h2 hj n hn hnp with rfl | hlt
      · unfold whyP at hp3; simp at hp3
      · have h3 := h.kn _ (List.getElem_mem hj)
        have h4 := h.kn _ (List.getElem_mem hk)
        unfold whyP at hp3
        rw [if_neg (by rw [h.ids j hj, h.ids k hk]; intro he; have : j = k := by omega
                       subst this; omega)] at hp3
        rw [if_pos (by omega)] at hp3
        simp at hp3
    omega
theorem idxF_all0 {α : Type} {p : α → Bool} : ∀ {l : List α} {k : Nat},(∀ a ∈ l, p a = false) → idxF p k l = -1
 | [], _, _ => rfl
 | a :: r, k, h => by
  rw [idxF, if_neg (by rw [h a List.mem_cons_self]; simp)]
  exact idxF_all0 fun x hx => h x (List.mem_cons_of_mem _ hx)
theorem TrOK.trueP {x : TrS} {ow : List (List Int)} (h : TrOK x ow) (hc : checkS x.s = 0) {k : Nat} (hk : k < x.s.length) (h2 : k < ow.length) (h3 : k < x.ps.length) : stepD x.s x.s[k] x.ps[k] = some (ow[k].length : Int) ∧ (x.ps[k],(ow[k].length : Int)) ∈ parS x.s x.s[k] := by
 have hmd := (h.kn _ (List.getElem_mem hk)).2.1
 have hls : ∀ id, lastS x.s[k] id = 0 := fun id => by unfold lastS; rw [hmd]; simp
 rcases h.par k hk h2 h3 with ⟨h4, h5⟩ | ⟨f, hf, h4, h5, h6, h7, h8⟩
 ·rw [h4]
  refine ⟨?_, parS_mem.2 (.inl ⟨by rw [h5], hls 0⟩)⟩
  unfold stepD
  rw [getW_zero hc]
  simp only
  simp only [hls 0, and_self, if_true, h5]
 ·have hfl : f < x.s.length := by omega
  have hg := h.getW hfl
  have hnd : x.s[k].slips.Nodup := (h.pw _ (List.getElem_mem hk)).1.imp fun h => by omega
  have hw : (whyP x.s[k] x.s[f]).1 = 0 := by
   unfold whyP
   rw [if_neg (by rw [h.ids f hfl, h.ids k hk]; omega), if_neg (by omega), idxF_all0, if_neg (by omega)]
   ·exact hls _
   ·intro n hn
    unfold lackF
    simp only [Bool.not_eq_false', decide_eq_true_eq, mem_setK]
    rcases h6 n hn with h | h
    ·exact ⟨_, List.mem_cons_self, h⟩
    ·exact ⟨_, List.mem_cons_of_mem _ List.mem_cons_self, h⟩
  have hlen : (ariS x.s[k] x.s[f]).length = ow[k].length := by
   apply Nat.le_antisymm
   ·refine nodup_sub (hnd.filter _) fun n hn => ?_
    unfold ariS at hn
    rw [List.mem_filter] at hn
    simp only [Bool.not_eq_true', decide_eq_false_iff_not, mem_setK1] at hn
    exact (h7 n hn.1).resolve_left hn.2
   ·refine nodup_sub (h.nd _ (List.getElem_mem h2)).1 fun n hn => ?_
    unfold ariS
    rw [List.mem_filter]
    refine ⟨h.oin k hk h2 n hn, ?_⟩
    simp only [Bool.not_eq_true', decide_eq_false_iff_not, mem_setK1]
    exact h8 n hn
  refine ⟨?_, parS_mem.2 (.inr ⟨x.s[f], ?_, ?_, hw, ?_⟩)⟩
  ·unfold stepD
   rw [h4, hg]
   simp only
   rw [if_pos hw, hlen]
  ·rw [h4]; exact idsS_mem.2 ⟨_, List.getElem_mem hfl, h.ids f hfl⟩
  ·rw [h4]; exact hg
  ·rw [hlen]
theorem TrOK.choice {x : TrS} {ow : List (List Int)} (h : TrOK x ow) (hc : checkS x.s = 0) {k : Nat} (hk : k < x.s.length) (h2 : k < ow.length) : (choF x.s x.s[k]).1 ≠ [] ∧ (choF x.s x.s[k]).2 = (ow[k].length : Int) := by
 have h3 : k < x.ps.length := by rw [h.pl]; exact hk
 have hp := (h.trueP hc hk h2 h3).2
 rcases choF_spec x.s x.s[k] with ⟨h4, _⟩ | ⟨h4, h5, y, hy, h6⟩
 ·rw [h4] at hp; cases hp
 ·refine ⟨h4, ?_⟩
  have h7 := h5 _ hp
  have h8 := h.least hc hk h2 hy
  simp only at h7
  omega
theorem sum_cast (l : List (List Int)) : (l.map fun o => (o.length : Int)).sum = ((l.map List.length).sum : Nat) := by
 induction l with
 | nil => rfl
 | cons a r ih => simp only [List.map_cons, List.sum_cons, ih]; omega
theorem TrOK.all {x : TrS} {ow : List (List Int)} (h : TrOK x ow) (hc : checkS x.s = 0) : chE x.s = 0 ∧ bestS x.s (chL x.s).length = (x.t : Int) ∧ cbR x.s x.ps x.t = 0 ∧ (x.m = false → (crR x.s).isSome = false) := by
 have he : chE x.s = 0 := by
  unfold chE
  rw [if_pos hc, if_neg]
  rintro ⟨c, hcm, hcn⟩
  obtain ⟨k, hk, rfl⟩ := List.getElem_of_mem hcm
  exact (h.choice hc hk (by rw [h.ol]; exact hk)).1 hcn
 have hb : bestS x.s (chL x.s).length = (x.t : Int) := by
  unfold bestS
  rw [List.take_length, chL_ok he, List.map_map, ← h.tt, ← sum_cast]
  congr 1
  apply List.ext_getElem
  ·simp [h.ol]
  ·intro k h1 h2
   rw [List.length_map] at h1 h2
   simp only [List.getElem_map, Function.comp]
   exact (h.choice hc h1 h2).2
 have hd : desL x.s x.ps = ow.map fun o => some (o.length : Int) := by
  apply List.ext_getElem
  ·simp [desL, h.ol, h.pl]
  ·intro k h1 h2
   rw [List.length_map] at h2
   have h3 : k < x.s.length := by rw [← h.ol]; exact h2
   have h4 : k < x.ps.length := by rw [h.pl]; exact h3
   obtain ⟨h5, h6⟩ := desL_get x.s x.ps k h3 h4
   rw [h6,(h.trueP hc h3 h2 h4).1, List.getElem_map]
 have hr : desR x.s x.ps = ((x.t : Int), true) := by
  unfold desR
  rw [if_pos ⟨h.pl, by rw [hd, List.all_map, List.all_eq_true]; intros; rfl⟩]
  unfold desP
  rw [List.take_of_length_le (by rw [hd, List.length_map, h.ol]; exact Nat.le_refl _), hd, List.map_map, ← h.tt, ← sum_cast]
  rfl
 refine ⟨he, hb, ?_, fun hm => ?_⟩
 ·unfold cbR
  rw [if_pos hc, hr, hb, if_pos ⟨rfl, he, rfl, rfl⟩]
 ·cases hs : (crR x.s).isSome with
  | false => rfl
  | true =>
   obtain ⟨a, b, hab⟩ := (crR_iff hc).1 hs
   exact absurd hab (h.cro hm a b)
end Go.Am.Ds
end
section
namespace Go.Am.Ds
open Go Go.Am Go.Proofs
def hM (s : List Wit) (D : List Int) : List (Int × Int) := (heldM s).filter fun x => !decide (x.1 ∈ D)
def slD (s : List Wit) (D : List Int) : List Int := ((hM s D).map (·.1)).mergeSort fun x y => decide (x ≤ y)
theorem hM_nil (s : List Wit) : hM s [] = heldM s := by unfold hM; simp
theorem hM_snoc (s : List Wit) (D : List Int) (n : Int) : (hM s D).filter (fun x => !decide (x.1 = n)) = hM s (D ++ [n]) := by
 unfold hM
 rw [List.filter_filter]
 apply List.filter_congr
 intro x _
 by_cases h1 : x.1 ∈ D <;> by_cases h2 : x.1 = n <;> simp [h1, h2]
theorem hM_mem {s : List Wit} {D : List Int} {n : Int} : n ∈ (hM s D).map (·.1) ↔ n ∉ D ∧ ∃ w ∈ s, n ∈ w.slips := by
 rw [← heldM_mem]
 unfold hM
 constructor
 ·intro h
  obtain ⟨x, hx, rfl⟩ := List.mem_map.1 h
  rw [List.mem_filter] at hx
  exact ⟨by simpa using hx.2, List.mem_map_of_mem hx.1⟩
 ·rintro ⟨h1, h2⟩
  obtain ⟨x, hx, rfl⟩ := List.mem_map.1 h2
  exact List.mem_map_of_mem (List.mem_filter.2 ⟨hx, by simpa using h1⟩)
theorem hM_nodup (s : List Wit) (D : List Int) : ((hM s D).map (·.1)).Nodup := (List.filter_sublist.map _).nodup (heldM_nodup s)
theorem hM_len (s : List Wit) (D : List Int) : (hM s D).length ≤ (heldM s).length := List.length_filter_le _ _
theorem slD_mem {s : List Wit} {D : List Int} {n : Int} : n ∈ slD s D ↔ n ∉ D ∧ ∃ w ∈ s, n ∈ w.slips := by
 unfold slD; rw [List.mem_mergeSort, hM_mem]
theorem slD_len (s : List Wit) (D : List Int) : (slD s D).length = (hM s D).length := by simp [slD]
theorem getM_filter {p : Int → Bool} {n : Int} (hp : p n = true) : ∀ l : List (Int × Int), getM (l.filter fun x => p x.1) n = getM l n
 | [] => rfl
 | (a, v) :: r => by
  have ih := getM_filter hp r
  unfold getM at ih ⊢
  by_cases ha : a = n
  ·subst ha; simp [hp]
  ·by_cases hpa : p a = true
   ·simp [hpa, ha]; simpa using ih
   ·simp [hpa, ha]; simpa using ih
theorem getM_hM {s : List Wit} {D : List Int} {n : Int} (h : n ∉ D) : getM (hM s D) n = getM (heldM s) n := getM_filter (p := fun m => !decide (m ∈ D)) (by simpa using h) _
def crD (s : List Wit) (D : List Int) : Option (Int × Int) := crO s (slD s D)
theorem crP_symm {s : List Wit} {a b : Int} : crP s a b ↔ crP s b a := by
 constructor <;> rintro ⟨⟨w, h1, h2, h3⟩, h4, h5⟩ <;> exact ⟨⟨w, h1, h3, h2⟩, h5, h4⟩
theorem crD_some {s : List Wit} (h : checkS s = 0) {D : List Int} {a b : Int} (hc : crD s D = some (a, b)) : a ∉ D ∧ b ∉ D ∧ crP s a b := by
 obtain ⟨h1, h2, h3⟩ := crO_some hc
 exact ⟨(slD_mem.1 h1).1,(slD_mem.1 h2).1,(crB_iff h a b).1 h3⟩
theorem crD_none {s : List Wit} (h : checkS s = 0) {D : List Int} (hc : crD s D = none) {a b : Int} (ha : a ∉ D) (hb : b ∉ D) : ¬ crP s a b := fun hp => by
 have hsym : ∀ a b, crB s a b = crB s b a := fun a b => by rw [Bool.eq_iff_iff, crB_iff h, crB_iff h]; exact crP_symm
 have hirr : ∀ a, crB s a a = false := fun a => by
  cases hc : crB s a a with
  | false => rfl
  | true => obtain ⟨_, ⟨w, _, h1, h2⟩, _⟩ := (crB_iff h a a).1 hc; exact absurd h1 h2
 obtain ⟨⟨w, hw, h1, h2⟩, _⟩ := id hp
 have := crO_none hsym hirr hc a (slD_mem.2 ⟨ha, w, hw, h1⟩) b (slD_mem.2 ⟨hb, w, hw, h2⟩)
 rw [(crB_iff h a b).2 hp] at this
 cases this
def cmpL : List Int → List Int → Int
 | [],[] => 0
 | [], _ :: _ => -1
 | _ :: _, [] => 1
 | a :: r, b :: q => if a < b then -1 else if b < a then 1 else cmpL r q
def insD (l : List Int) (n : Int) : List Int := (l ++ [n]).mergeSort fun x y => decide (x ≤ y)
theorem insD_len (l : List Int) (n : Int) : (insD l n).length = l.length + 1 := by simp [insD]
theorem insD_mem {l : List Int} {n m : Int} : m ∈ insD l n ↔ m ∈ l ∨ m = n := by simp [insD]
def bet (best x : Option (List Int)) : Option (List Int) := match x with
 | none => best
 | some l => match best with
  | none => some l
  | some b => if cmpL l b < 0 then some l else some b
theorem bet_some {b x : Option (List Int)} {l : List Int} (h : bet b x = some l) : b = some l ∨ x = some l := by
 unfold bet at h
 cases x with
 | none => exact .inl h
 | some m =>
  cases b with
  | none => exact .inr h
  | some c =>
   simp only at h
   split at h
   ·exact .inr h
   ·exact .inl h
theorem bet_isSome {b x : Option (List Int)} (h : b.isSome = true ∨ x.isSome = true) : (bet b x).isSome = true := by
 unfold bet
 cases x with
 | none => simpa using h
 | some m =>
  cases b with
  | none => rfl
  | some c => simp only; split <;> rfl
def drR (s : List Wit) : Nat → List Int → Option (List Int)
 | 0, D => if (crD s D).isSome = true then none else some []
 | m + 1, D => match crD s D with
  | none => none
  | some p => bet (bet none ((drR s m (D ++ [p.1])).map fun l => insD l p.1)) ((drR s m (D ++ [p.2])).map fun l => insD l p.2)
theorem drR_step {s : List Wit} {m : Nat} {D l : List Int} (h : drR s (m + 1) D = some l) : ∃ a b n r, crD s D = some (a, b) ∧ (n = a ∨ n = b) ∧ drR s m (D ++ [n]) = some r ∧ l = insD r n := by
 unfold drR at h
 cases hc : crD s D with
 | none => rw [hc] at h; cases h
 | some p =>
  obtain ⟨a, b⟩ := p
  rw [hc] at h
  rcases bet_some h with h | h
  ·rcases bet_some h with h | h
   ·cases h
   ·obtain ⟨r, h1, h2⟩ := Option.map_eq_some_iff.1 h
    exact ⟨a, b, a, r, rfl, .inl rfl, h1, h2.symm⟩
  ·obtain ⟨r, h1, h2⟩ := Option.map_eq_some_iff.1 h
   exact ⟨a, b, b, r, rfl, .inr rfl, h1, h2.symm⟩
theorem drR_len {s : List Wit} : ∀ {m : Nat} {D l : List Int}, drR s m D = some l → l.length = m
 | 0, D, l, h => by unfold drR at h; split at h <;> cases h; rfl
 | m + 1, D, l, h => by
  obtain ⟨a, b, n, r, _, _, h3, rfl⟩ := drR_step h
  rw [insD_len, drR_len h3]
theorem drR_ok {s : List Wit} (hs : checkS s = 0) : ∀ {m : Nat} {D l : List Int}, drR s m D = some l → ∀ {a b : Int}, a ∉ D → b ∉ D → a ∉ l → b ∉ l → ¬ crP s a b
 | 0, D, l, h, a, b, ha, hb, _, _ => by
  unfold drR at h
  cases hc : crD s D with
  | none => exact crD_none hs hc ha hb
  | some p => rw [hc] at h; simp at h
 | m + 1, D, l, h, a, b, ha, hb, hal, hbl => by
  obtain ⟨_, _, n, r, _, _, h3, rfl⟩ := drR_step h
  rw [insD_mem, not_or] at hal hbl
  exact drR_ok hs h3 (by simp [ha, hal.2]) (by simp [hb, hbl.2]) hal.1 hbl.1
theorem drR_all {s : List Wit} (hs : checkS s = 0) : ∀ (k : Nat) (D L : List Int), L.length = k → (∀ a b, a ∉ D → b ∉ D → a ∉ L → b ∉ L → ¬ crP s a b) → ∃ m, m ≤ k ∧ (drR s m D).isSome = true
 | k, D, L, hk, h => by
  cases hc : crD s D with
  | none => exact ⟨0, Nat.zero_le _, by unfold drR; rw [hc]; rfl⟩
  | some p =>
   obtain ⟨a, b⟩ := p
   obtain ⟨h1, h2, h3⟩ := crD_some hs hc
   have hin : a ∈ L ∨ b ∈ L := by
    by_cases ha : a ∈ L
    ·exact .inl ha
    ·by_cases hb : b ∈ L
     ·exact .inr hb
     ·exact absurd h3 (h a b h1 h2 ha hb)
   have go : ∀ n, n ∈ L → ∃ m, m + 1 ≤ k ∧ (drR s m (D ++ [n])).isSome = true := fun n hn => by
    have hl := List.length_erase_of_mem hn
    have hp := List.length_pos_of_mem hn
    match k, hk with
    | 0, hk => omega
    | k + 1, hk =>
     obtain ⟨m, h4, h5⟩ := drR_all hs k (D ++ [n]) (L.erase n) (by omega) fun x y hx hy hx2 hy2 => by
      simp only [List.mem_append, List.mem_singleton, not_or] at hx hy
      exact h x y hx.1 hy.1 (fun hh => hx2 ((List.mem_erase_of_ne hx.2).2 hh)) (fun hh => hy2 ((List.mem_erase_of_ne hy.2).2 hh))
     exact ⟨m, by omega, h5⟩
   rcases hin with hn | hn
   ·obtain ⟨m, h4, h5⟩ := go a hn
    refine ⟨m + 1, h4, ?_⟩
    unfold drR; rw [hc]
    exact bet_isSome (.inl (bet_isSome (.inr (by simpa using h5))))
   ·obtain ⟨m, h4, h5⟩ := go b hn
    refine ⟨m + 1, h4, ?_⟩
    unfold drR; rw [hc]
    exact bet_isSome (.inr (by simpa using h5))
def drF (s : List Wit) (m : Nat) : Option (List Int) := drR s m []
def dropR (s : List Wit) : Option (List Int) := if (drF s 0).isSome = true then drF s 0 else if (drF s 1).isSome = true then drF s 1 else if (drF s 2).isSome = true then drF s 2 else drF s 3
theorem dropR_first {s : List Wit} {m : Nat} (hm : m ≤ 3) {l : List Int} (h : drF s m = some l) (h2 : ∀ k, k < m → drF s k = none) : dropR s = some l := by
 unfold dropR
 match m, hm with
 | 0, _ => rw [if_pos (by rw [h]; rfl), h]
 | 1, _ => rw [if_neg (by rw [h2 0 (by omega)]; simp), if_pos (by rw [h]; rfl), h]
 | 2, _ => rw [if_neg (by rw [h2 0 (by omega)]; simp), if_neg (by rw [h2 1 (by omega)]; simp), if_pos (by rw [h]; rfl), h]
 | 3, _ => rw [if_neg (by rw [h2 0 (by omega)]; simp), if_neg (by rw [h2 1 (by omega)]; simp), if_neg (by rw [h2 2 (by omega)]; simp), h]
theorem dropR_none {s : List Wit} (h2 : ∀ k, k ≤ 3 → drF s k = none) : dropR s = none := by
 unfold dropR
 rw [h2 0 (by omega), h2 1 (by omega), h2 2 (by omega), h2 3 (by omega)]; rfl
theorem dropR_some {s : List Wit} {l : List Int} (h : dropR s = some l) : ∃ m, m ≤ 3 ∧ drF s m = some l ∧ ∀ k, k < m → drF s k = none := by
 have go : ∀ k, (drF s k).isSome = true ∨ drF s k = none := fun k => by cases drF s k <;> simp
 rcases go 0 with h0 | h0
 ·refine ⟨0, by omega, ?_, fun k hk => by omega⟩
  unfold dropR at h; rwa [if_pos h0] at h
 ·rcases go 1 with h1 | h1
  ·refine ⟨1, by omega, ?_, fun k hk => by rw [show k = 0 by omega]; exact h0⟩
   unfold dropR at h; rwa [if_neg (by rw [h0]; simp), if_pos h1] at h
  ·rcases go 2 with h3 | h3
   ·refine ⟨2, by omega, ?_, fun k hk => ?_⟩
    ·unfold dropR at h; rwa [if_neg (by rw [h0]; simp), if_neg (by rw [h1]; simp), if_pos h3] at h
    ·rcases (show k = 0 ∨ k = 1 by omega) with rfl | rfl
     ·exact h0
     ·exact h1
   ·refine ⟨3, by omega, ?_, fun k hk => ?_⟩
    ·unfold dropR at h; rwa [if_neg (by rw [h0]; simp), if_neg (by rw [h1]; simp), if_neg (by rw [h3]; simp)] at h
    ·rcases (show k = 0 ∨ k = 1 ∨ k = 2 by omega) with rfl | rfl | rfl
     ·exact h0
     ·exact h1
     ·exact h3
def bareW (l : List Int) (w : Wit) : Wit := { w with slips := w.slips.filter fun n => !decide (n ∈ l) }
def bareS (s : List Wit) (l : List Int) : List Wit := s.map (bareW l)
theorem bare_check {s : List Wit} (h : checkS s = 0) (l : List Int) : checkS (bareS s l) = 0 := by
 obtain ⟨h1, h2⟩ := checkS_ok h
 have h3 := checkS_nodup h
 unfold checkS
 rw [if_neg (by unfold bareS; rw [List.length_map]; omega)]
 refine checkL_of (fun w hw => ?_) ?_ (by simp)
 ·obtain ⟨u, hu, rfl⟩ := List.mem_map.1 hw
  have h4 := h2 u hu
  have h5 := witE_len h4
  have h6 : (bareW l u).slips.length ≤ u.slips.length := List.length_filter_le _ _
  unfold witE at h4 ⊢
  have hr : rightS u = true := by
   revert h4
   repeat' split
   all_goals simp_all
  have hr2 : rightS (bareW l u) = true := by
   rw [rightS_eq] at hr ⊢
   simp only [Bool.and_eq_true] at hr ⊢
   obtain ⟨g1, g2, g3, g4, g5⟩ := hr
   refine ⟨?_, g2, g3, g4, ?_⟩
   ·rw [rising_iff] at g1 ⊢
    exact ⟨g1.1.sublist List.filter_sublist, fun n hn => g1.2 n (List.mem_filter.1 hn).1⟩
   ·rw [Bool.not_eq_true', List.any_eq_false] at g5 ⊢
    intro n hn
    have := g5 n hn
    simp only [decide_eq_true_eq] at this ⊢
    exact fun hh => this (List.mem_filter.1 hh).1
  rw [if_pos hr] at h4
  rw [if_pos hr2]
  revert h4
  rw [if_neg (show ¬ 30 < (bareW l u).slips.length by omega), if_neg (show ¬ 30 < u.slips.length by omega)]
  exact id
 ·unfold bareS
  rw [List.map_map]
  exact h3
theorem bare_crP {s : List Wit} {l : List Int} {a b : Int} : crP (bareS s l) a b ↔ a ∉ l ∧ b ∉ l ∧ crP s a b := by
 have hm : ∀ {w : Wit} {n : Int}, n ∈ (bareW l w).slips ↔ n ∈ w.slips ∧ n ∉ l := fun {w n} => by
  show n ∈ w.slips.filter _ ↔ _
  rw [List.mem_filter]; simp
 constructor
 ·rintro ⟨⟨w, hw, h1, h2⟩, ⟨u, hu, h3, h4⟩, v, hv, h5, h6⟩
  obtain ⟨w, gw, rfl⟩ := List.mem_map.1 hw
  obtain ⟨u, gu, rfl⟩ := List.mem_map.1 hu
  obtain ⟨v, gv, rfl⟩ := List.mem_map.1 hv
  rw [hm] at h1 h2 h3 h4 h5 h6
  exact ⟨h1.2, h2.2, ⟨w, gw, h1.1, h2.1⟩, ⟨u, gu, h3.1, fun h => h4 ⟨h, h2.2⟩⟩, v, gv, h5.1, fun h => h6 ⟨h, h1.2⟩⟩
 ·rintro ⟨ha, hb, ⟨w, hw, h1, h2⟩, ⟨u, hu, h3, h4⟩, v, hv, h5, h6⟩
  exact ⟨⟨_, List.mem_map_of_mem hw, hm.2 ⟨h1, ha⟩, hm.2 ⟨h2, hb⟩⟩, ⟨_, List.mem_map_of_mem hu, hm.2 ⟨h3, ha⟩, fun h => h4 (hm.1 h).1⟩, _, List.mem_map_of_mem hv, hm.2 ⟨h5, hb⟩, fun h => h6 (hm.1 h).1⟩
theorem bare_cross {s : List Wit} (h : checkS s = 0) (l : List Int) : (crR (bareS s l)).isSome = true ↔ ∃ a b, a ∉ l ∧ b ∉ l ∧ crP s a b := by
 rw [crR_iff (bare_check h l)]
 constructor
 ·rintro ⟨a, b, h⟩; exact ⟨a, b, bare_crP.1 h⟩
 ·rintro ⟨a, b, h⟩; exact ⟨a, b, bare_crP.2 h⟩
theorem bare_more {s : List Wit} (h : checkS s = 0) (l : List Int) {k : Nat} (hl : l.length ≤ k) (hk : ∀ m, m ≤ k → drF s m = none) : (crR (bareS s l)).isSome = true := by
 rw [bare_cross h]
 apply Classical.byContradiction
 intro hno
 obtain ⟨m, h1, h2⟩ := drR_all h l.length [] l rfl fun a b _ _ ha hb hc => hno ⟨a, b, ha, hb, hc⟩
 have := hk m (by omega)
 unfold drF at this
 rw [this] at h2; cases h2
theorem cross_bare {s : List Wit} (h : checkS s = 0) : (crR s).isSome = (crR (bareS s [])).isSome := by
 rw [Bool.eq_iff_iff, bare_cross h, crR_iff h]
 simp
theorem drops_none {s : List Wit} (h : checkS s = 0) (hd : dropR s = none) (l : List Int) (hl : l.length ≤ 3) : (crR s).isSome = true ∧ (crR (bareS s l)).isSome = true := by
 have hk : ∀ m, m ≤ 3 → drF s m = none := by
  have go : ∀ k, (drF s k).isSome = true ∨ drF s k = none := fun k => by cases drF s k <;> simp
  intro m hm
  rcases go m with h1 | h1
  ·exfalso
   obtain ⟨j, hj, hj2⟩ : ∃ j, (drF s j).isSome = true ∧ j ≤ 3 ∧ ∀ k, k < j → drF s k = none := by
    rcases go 0 with h2 | h2
    ·exact ⟨0, h2, by omega, fun k hk => by omega⟩
    ·rcases go 1 with h3 | h3
     ·exact ⟨1, h3, by omega, fun k hk => by rw [show k = 0 by omega]; exact h2⟩
     ·rcases go 2 with h4 | h4
      ·exact ⟨2, h4, by omega, fun k hk => by rcases (show k = 0 ∨ k = 1 by omega) with rfl | rfl; exact h2; exact h3⟩
      ·have : m = 3 := by
        rcases (show m = 0 ∨ m = 1 ∨ m = 2 ∨ m = 3 by omega) with rfl | rfl | rfl | rfl
        ·rw [h2] at h1; cases h1
        ·rw [h3] at h1; cases h1
        ·rw [h4] at h1; cases h1
        ·rfl
       subst this
       exact ⟨3, h1, by omega, fun k hk => by rcases (show k = 0 ∨ k = 1 ∨ k = 2 by omega) with rfl | rfl | rfl; exact h2; exact h3; exact h4⟩
   obtain ⟨x, hx⟩ := Option.isSome_iff_exists.1 hj
   rw [dropR_first hj2.1 hx hj2.2] at hd
   cases hd
  ·exact h1
 exact ⟨by rw [cross_bare h]; exact bare_more h [] (Nat.zero_le 3) hk, bare_more h l hl hk⟩
theorem drops_some {s : List Wit} (h : checkS s = 0) {d : List Int} (hd : dropR s = some d) :
  d.length ≤ 3 ∧ (crR (bareS s d)).isSome = false ∧ (crR s).isSome = decide (0 < d.length) ∧ ∀ l : List Int, l.length < d.length → (crR (bareS s l)).isSome = true := by
 obtain ⟨m, hm, h1, h2⟩ := dropR_some hd
 have hl := drR_len h1
 subst hl
 have hno : (crR (bareS s d)).isSome = false := by
  cases hc : (crR (bareS s d)).isSome with
  | false => rfl
  | true =>
   obtain ⟨a, b, ha, hb, hp⟩ := (bare_cross h d).1 hc
   exact absurd hp (drR_ok h h1 (by simp) (by simp) ha hb)
 have hless : ∀ l : List Int, l.length < d.length → (crR (bareS s l)).isSome = true := fun l hl => bare_more h l (Nat.le_refl _) fun k hk => h2 k (by omega)
 refine ⟨hm, hno, ?_, hless⟩
 rw [cross_bare h]
 cases d with
 | nil => exact hno
 | cons a r => rw [hless [] (by simp)]; simp
end Go.Am.Ds
end
section
namespace Go.Am.Ds
open Go Go.Am Go.Proofs
attribute [local simp] vrun vwanted vyielded vop vopA vputAll VHeap.back hidI hidF backL bm Nat.testBit_eq_decide_div_mod_eq veval vevals vparts vO vbuiltin vlen vappend velems vcopy vmakeSlice vbuildSlice valloc vbox vmakeMap vload vpartT vpart vstore vfieldAddr vfield vindexAddr vindex vextract vslice vsliceZ vbounds vbnd zeroO vidx vlookup vmget vmapUpdate vdelete vclear vnilq vnilp vnils vbin vsc vsc1 vscs vscl abinOp aint ashift aunOp aconvert amaxs amax2 pvcV pvc pvcs tput tget vargs VHeap.get VHeap.alloc VHeap.put VHeap.drop VHeap.empty vlook vput vdrop psplice pfill preps chunk List.range List.range.loop vresults vresult vresultV frz frzL PV.isF PV.allF PV.scal PV.allS retP subT allFT PV.one PV.ids PV.idsL dropL beq_eq ble_dec blt_dec
attribute [local simp] zW tup2
theorem rdMap_of {g : Fz} : ∀ {l : List (Int × Int)} {es : List (Value × Value)}, es.length = (kvs (kvM l)).length → (∀ (j : Nat) p p', (kvs (kvM l))[j]? = some p → es[j]? = some p' → FR g p.1 p'.1) → (∀ (j : Nat) p p', (kvs (kvM l))[j]? = some p → es[j]? = some p' → FR g p.2 p'.2) → rdMap es = some (kvM l)
 | [], es, hl, _, _ => by
  have : es = [] := List.eq_nil_of_length_eq_zero (by rw [hl]; rfl)
  subst this; rfl
 | (n, v) :: r, [], hl, _, _ => by simp [kvM, kvs] at hl
 | (n, v) :: r, (a, b) :: es, hl, hk, hv => by
  have h1 := hk 0 _ _ rfl rfl
  have h2 := hv 0 _ _ rfl rfl
  cases h1; cases h2
  have ih := rdMap_of (l := r) (es := es) (g := g) (by simpa [kvM, kvs] using hl) (fun j p p' h3 h4 => hk (j + 1) p p' (by simpa [kvM, kvs] using h3) (by simpa using h4)) (fun j p p' h3 h4 => hv (j + 1) p p' (by simpa [kvM, kvs] using h3) (by simpa using h4))
  simp only [rdMap, pvc, ih, kvM, List.map_cons]
theorem copy158 {vh : VHeap} {i : Nat} {es : List (Int × Int)} (hi : vh.get i = some (.map [])) (hnd : (es.map (·.1)).Nodup) :
  VCall Tryz.prog 158 [.mapv i, .vmap (kvs (kvM es))] vh fun v vh' => v = .tup [] ∧ vh' = vh.put i (.map (kvs (kvM es))) := fun lo g σ h args' ha s => by
 obtain ⟨a0, r0, rfl, hv0, hr0⟩ := ha.inv_cons
 obtain ⟨a1, r1, rfl, hv1, hr1⟩ := hr0.inv_cons
 have := hr1.inv_nil; subst this
 cases hv0 with
 | fr _ _ h => cases h
 | mapv _ o a k hin hs =>
  have hv1 := hv1.isF (by simp [kvM, kvs, PV.isF])
  cases hv1 with
  | vmap _ m es' hgm hlen rk rv =>
   obtain ⟨es0, h1, h2, h3, h4⟩ := (s.obj i _ hi).2
   have : es0 = [] := List.eq_nil_of_length_eq_zero (by have := h3.1; simpa using this.symm)
   subst this
   have hlow := s.low i _ hi rfl
   have hdis := s.dis i _ hi rfl
   have hmh := s.fz _ _ hgm
   have h5 := s.write hi rfl (x' := .map (kvs (kvM es))) (.map es') ⟨es', by rw [AHeap.get_put _ _ _ _ (AHeap.lt_of_get h1), if_pos rfl], h2, ⟨by simp [hlen], fun j p p' hp hp' => ?_⟩, ⟨by simp [hlen], fun j p p' hp hp' => ?_⟩⟩
   ·rw [hs] at h1 hlow hdis h5
    simp only at h1 hlow hdis h5
    have hmo : m ≠ o := fun he => by rw [he, hdis] at hgm; cases hgm
    have hrd := rdMap_of hlen.symm rk rv
    refine (cpyV_ok (lo := lo) (h := h) (h' := h.put o (some (.map es'))) (r := .tuple #[]) (fun h n m es l a b c d e f => cp158 h n m es l a b c d e f) ?_).mono fun r h' hq => ?_
    ·unfold cpyV
     simp only
     rw [show (Nat.beq m o || !Nat.ble lo o) = false by rw [beq_eq, decide_eq_false hmo, show Nat.ble lo o = true by rw [Nat.ble_eq]; exact hlow]; rfl, cond_false, h1, hmh]
     simp only [hrd]
     rw [show nodupI ((kvM es).map (·.1)) = true by rw [kvM_keys]; exact nodupI_iff.2 hnd, cond_true]
    ·obtain ⟨rfl, rfl⟩ := hq
     exact ⟨g, σ, .tup [], _, .fr _ _ (.tup [] #[] rfl (fun i v v' h => by simp at h)), h5.1, Fz.le_refl g, fun _ _ => rfl, h5.2, Nat.le_refl _, GOwn.refl _ _ _ _, rfl, rfl⟩
   ·rw [List.getElem?_map] at hp hp'
    obtain ⟨q, hq, rfl⟩ := Option.map_eq_some_iff.1 hp
    obtain ⟨q', hq', rfl⟩ := Option.map_eq_some_iff.1 hp'
    exact rk j q q' hq hq'
   ·rw [List.getElem?_map] at hp hp'
    obtain ⟨q, hq, rfl⟩ := Option.map_eq_some_iff.1 hp
    obtain ⟨q', hq', rfl⟩ := Option.map_eq_some_iff.1 hp'
    exact rv j q q' hq hq'
theorem filter_keep (l : List (Int × Int)) (n : Int) : (kvs (kvM l)).filter (pkeep n) = kvs (kvM (l.filter fun x => !decide (x.1 = n))) := by
 induction l with
 | nil => rfl
 | cons a r ih =>
  obtain ⟨k, v⟩ := a
  have e : kvs (kvM ((k, v) :: r)) = (.int .i64 k, .int .u32 v) :: kvs (kvM r) := rfl
  rw [e, List.filter_cons, List.filter_cons, ih]
  by_cases hk : k = n
  ·subst hk; simp [pkeep]
  ·simp [pkeep, hk]; rfl
def drV (o : Option (List Int)) (v : PV) (vh' : VHeap) : Prop := ∃ x, v = .tup [x, .bool o.isSome] ∧ (((o.getD []).map (PV.int .i64) = [] ∧ x = .sl0) ∨ ∃ i, x = .grow i (o.getD []).length true ∧ ((o.getD []).map (PV.int .i64) = [] ∨ vh'.get i = some (.grow 1 ((o.getD []).map (.int .i64)))))
theorem freshT {vh : VHeap} {f : FuncId} {args es : List PV} {sz n : Nat} {b : Bool} (hne : es.length = n) (h0 : 0 < sz) (hp : VCall Tryz.prog f args VHeap.empty fun v vh' => ∃ x, v = .tup [x, .bool b] ∧ ((es = [] ∧ x = .sl0) ∨ ∃ i, x = .grow i n true ∧ (es = [] ∨ vh'.get i = some (.grow sz es)))) (hf : PV.allF args = true) :
  VCall Tryz.prog f args vh fun v vh' => v = .tup [.grow vh.next n true, .bool b] ∧ vh' = vh.alloc (.grow sz es) := fun lo g σ h args' ha s => by
 subst hne
 have ha0 : PRs (VR g σ VHeap.empty.next) args args' := (ha.isF hf).vr
 refine (hp lo g σ h args' ha0 (.none s.fz s.lole σ)).mono fun r h' ⟨g', σ', v, vh', h1, h2, h3, h4, h5, h6, h7, x0, h8, h9⟩ => ?_
 subst h8
 have hkeep : ∀ o, o < h.next → h'.get o = h.get o := fun o ho => h5.pres o ho fun i x hx => by cases hx
 have hg : ∀ o x, g' o = some x → o < h.next → ∃ y, g o = some y := fun o x hx ho => by
  rcases h7 o x hx ho with h | ⟨i, y, h, _⟩
  ·exact ⟨_, h⟩
  ·cases h
 obtain ⟨cs', hcs, hv⟩ : ∃ cs' : Array Value, r = .tuple cs' ∧ PRs (VR g' σ' vh'.next) [x0, .bool b] cs'.toList := by
  cases h1 with
  | fr _ _ h => cases h with | tup _ cs' hs r => exact ⟨cs', rfl, by simpa using hs, fun i v v' hv hv' => .fr _ _ (r i v v' hv (by simpa using hv'))⟩
  | tup _ cs' hs r => exact ⟨cs', rfl, by simpa using hs, fun i v v' hv hv' => r i v v' hv (by simpa using hv')⟩
 subst hcs
 obtain ⟨a0, r0, hr0, hv0, hr1⟩ := hv.inv_cons
 obtain ⟨a1, r1, rfl, hv1, hr2⟩ := hr1.inv_cons
 have := hr2.inv_nil; subst this
 have hv1 := hv1.isF rfl
 by_cases hes : es = []
 ·subst hes
  have e1 : a0 = .slice none 0 0 := by
   rcases h9 with ⟨_, rfl⟩ | ⟨i, rfl, _⟩
   ·cases hv0 with
    | fr _ _ h => cases h; rfl
   ·generalize hm : ([] : List PV).length = m at hv0
    generalize htr : true = tr at hv0
    cases hv0 with
    | fr _ _ h => cases h
    | growN => rfl
    | grow0 => cases htr
    | grow _ _ o a k _ hi' hs hn => simp at hm; omega
  subst e1
  have hno : ∀ j z, (vh.alloc (.grow sz [])).get j = some z → (j = vh.next ∧ z = .grow sz []) ∨ (j < vh.next ∧ vh.get j = some z) := fun j z hz => by
   rw [VHeap.get_alloc] at hz
   by_cases hj : j = vh.next
   ·subst hj; simp at hz; exact .inl ⟨rfl, hz.symm⟩
   ·simp [hj] at hz; exact .inr ⟨(s.obj j z hz).1, hz⟩
  refine ⟨g', σ, .tup [.grow vh.next 0 true, .bool b], vh.alloc (.grow sz []), ?_, ⟨fun j z hz => ?_, fun j k z u hz hu hlz hlu he => ?_, fun j z hz hlz => ?_, h2.fz, fun j z hz hlz => ?_, h2.lole⟩, h3, fun _ _ => rfl, ⟨h5.next, fun o ho _ => hkeep o ho, fun j z hz hlz hlt => ?_⟩, Nat.le_succ _, fun o x hx ho => .inl (h7 o x hx ho |>.elim id fun ⟨i, y, h, _⟩ => by cases h), rfl, rfl⟩
  ·have hh : PRs (VR g' σ (vh.alloc (.grow sz [])).next) [.grow vh.next 0 true, .bool b] cs'.toList := by
    rw [hr0]
    exact .cons (.growN _ _) (.cons (.fr _ _ hv1) .nil)
   exact .tup _ _ (by simpa using hh.1) (fun i v v' hv hv' => hh.2 i v v' hv (by simpa using hv'))
  ·rcases hno j z hz with ⟨rfl, rfl⟩ | ⟨hj, hz⟩
   ·exact ⟨Nat.lt_succ_self _, h0, by simp, by decide, .inl rfl⟩
   ·obtain ⟨k1, k2⟩ := s.obj j z hz
    exact ⟨Nat.lt_succ_of_lt hj, k2.mono h3 (Nat.le_succ _) (fun _ _ => rfl) hj fun hlz => hkeep _ (k2.lt hlz)⟩
  ·rcases hno j z hz with ⟨_, rfl⟩ | ⟨hj, hz⟩
   ·cases hlz
   ·rcases hno k u hu with ⟨_, rfl⟩ | ⟨hk, hu⟩
    ·cases hlu
    ·exact s.inj j k z u hz hu hlz hlu he
  ·rcases hno j z hz with ⟨_, rfl⟩ | ⟨hj, hz⟩
   ·cases hlz
   ·exact s.low j z hz hlz
  ·rcases hno j z hz with ⟨_, rfl⟩ | ⟨hj, hz⟩
   ·cases hlz
   ·have hd := s.dis j z hz hlz
    have hlt := (s.obj j z hz).2.lt hlz
    cases hgo : g' (σ j).1 with
    | none => rfl
    | some y =>
     obtain ⟨w, hw⟩ := hg _ y hgo hlt
     rw [hd] at hw; cases hw
  ·rcases hno j z hz with ⟨_, rfl⟩ | ⟨hj, hz⟩
   ·cases hlz
   ·exact ⟨j, z, hz, hlz, rfl⟩
 ·obtain ⟨i, hx, h10⟩ := h9.resolve_left fun h => hes h.1
  clear h9
  subst hx
  have h9 : vh'.get i = some (.grow sz es) := h10.resolve_left hes
  have hne : 0 < es.length := List.length_pos_iff.2 hes
  have hlive : VObj.live (.grow sz es) = true := by
   cases es with
   | nil => exact absurd rfl hes
   | cons => rfl
  obtain ⟨hi, hob⟩ := h2.obj i _ h9
  have hge : h.next ≤ (σ' i).1 := by
   rcases Nat.lt_or_ge (σ' i).1 h.next with hlt | hge
   ·obtain ⟨j, y, hj, _⟩ := h5.own i _ h9 hlive hlt
    cases hj
   ·exact hge
  have hσ : ∀ j, j < vh.next → (σ.put vh.next (σ' i)) j = σ j := fun j hj => Sg.put_ne _ _ (by omega)
  have split : ∀ j z, (vh.alloc (.grow sz es)).get j = some z → (j = vh.next ∧ z = .grow sz es) ∨ (j < vh.next ∧ vh.get j = some z) := fun j z hz => by
   rw [VHeap.get_alloc] at hz
   by_cases hj : j = vh.next
   ·subst hj; simp at hz; exact .inl ⟨rfl, hz.symm⟩
   ·simp [hj] at hz; exact .inr ⟨(s.obj j z hz).1, hz⟩
  refine ⟨g', σ.put vh.next (σ' i), .tup [.grow vh.next es.length true, .bool b], vh.alloc (.grow sz es), ?_, ⟨fun j z hz => ?_, fun j k z u hz hu hlz hlu he => ?_, fun j z hz hlz => ?_, h2.fz, fun j z hz hlz => ?_, h2.lole⟩, h3, hσ, ⟨h5.next, fun o ho _ => hkeep o ho, fun j z hz hlz hlt => ?_⟩, Nat.le_succ _, fun o x hx ho => .inl (h7 o x hx ho |>.elim id fun ⟨i, y, h, _⟩ => by cases h), rfl, rfl⟩
  ·have hh : PRs (VR g' (σ.put vh.next (σ' i)) (vh.alloc (.grow sz es)).next) [.grow vh.next es.length true, .bool b] cs'.toList := by
    rw [hr0]
    refine .cons ?_ (.cons (.fr _ _ hv1) .nil)
    generalize hm : es.length = m at hv0 hne ⊢
    cases hv0 with
    | fr _ _ h => cases h
    | growN => omega
    | grow _ _ o a k _ hi' hs hn => exact .grow vh.next m o a k true (Nat.lt_succ_self _) (by rw [Sg.put_same]; exact hs) hn
   exact .tup _ _ (by simpa using hh.1) (fun i v v' hv hv' => hh.2 i v v' hv (by simpa using hv'))
  ·rcases split j z hz with ⟨rfl, rfl⟩ | ⟨hj, hz⟩
   ·refine ⟨Nat.lt_succ_self _, ?_⟩
    obtain ⟨q0, q1, q2, q3⟩ := hob
    refine ⟨q0, q1, q2, q3.imp_right fun ⟨s0, cs', k1, k2, k3, k4⟩ => ⟨s0, cs', by rw [Sg.put_same]; exact k1, by rw [Sg.put_same]; exact k2, k3, by rw [Sg.put_same]; exact k4⟩⟩
   ·obtain ⟨k1, k2⟩ := s.obj j z hz
    exact ⟨Nat.lt_succ_of_lt hj, k2.mono h3 (Nat.le_succ _) hσ hj fun hlz => hkeep _ (k2.lt hlz)⟩
  ·rcases split j z hz with ⟨hj, _⟩ | ⟨hj, hz⟩ <;> rcases split k u hu with ⟨hk, _⟩ | ⟨hk, hu⟩
   ·rw [hj, hk]
   ·rw [hj, Sg.put_same, hσ k hk] at he
    have := (s.obj k u hu).2.lt hlu; omega
   ·rw [hk, Sg.put_same, hσ j hj] at he
    have := (s.obj j z hz).2.lt hlz; omega
   ·rw [hσ j hj, hσ k hk] at he; exact s.inj j k z u hz hu hlz hlu he
  ·rcases split j z hz with ⟨rfl, rfl⟩ | ⟨hj, hz⟩
   ·rw [Sg.put_same]; exact h2.low i _ h9 hlive
   ·rw [hσ j hj]; exact s.low j z hz hlz
  ·rcases split j z hz with ⟨rfl, rfl⟩ | ⟨hj, hz⟩
   ·rw [Sg.put_same]; exact h2.dis i _ h9 hlive
   ·rw [hσ j hj]
    have hd := s.dis j z hz hlz
    have hlt := (s.obj j z hz).2.lt hlz
    cases hgo : g' (σ j).1 with
    | none => rfl
    | some y =>
     obtain ⟨w, hw⟩ := hg _ y hgo hlt
     rw [hd] at hw; cases hw
  ·rcases split j z hz with ⟨rfl, rfl⟩ | ⟨hj, hz⟩
   ·rw [Sg.put_same] at hlt; omega
   ·rw [hσ j hj] at hlt ⊢; exact ⟨j, z, hz, hlz, rfl⟩
theorem p197 (a b : Int) : VPure Tryz.prog 197 [.int .i64 a, .int .i64 b] fun r => r = .int .i64 (if a < b then -1 else if b < a then 1 else 0) := by
 refine .of_body Tryz.func197 rfl rfl ?_
 refine .seq (.rn ?_)
 refine .seq ?_
 refine .regionL [0,1,2] rfl zz0 ?_
 refine .rn [0] [1,2] ?_
 refine .pc rfl rfl rfl rfl rfl Tryz.call217 (p217 a) ?_
 refine .rn [2] [] ?_
 refine .done (.seq ?_)
 refine .regionL [0,1,2] rfl zz0 ?_
 refine .rn [0] [1,2] ?_
 refine .pc rfl rfl rfl rfl rfl Tryz.call217 (p217 b) ?_
 refine .rn [2] [] ?_
 refine .done (.seq (.seq (.rn ?_)))
 refine .condS rfl (fun c11 => ?_) (fun c11 => ?_)
 ·try simp at c11
 ·try simp at c11
  refine .skip (.seq (.seq (.rn ?_)))
  refine .condS rfl (fun c13 => ?_) (fun c13 => ?_)
  ·try simp at c13
  ·try simp at c13
   refine .skip (.seq (.seq (.rn ?_)))
   refine .condS rfl (fun c16 => ?_) (fun c16 => ?_)
   ·try simp at c16
    refine .seq (.rn ?_)
    refine .ret ⟨_, _, zz4,zz4, ?_⟩
    rw [if_pos c16]
   ·try simp at c16
    refine .skip (.seq (.seq (.rn ?_)))
    refine .condS rfl (fun c19 => ?_) (fun c19 => ?_)
    ·try simp at c19
     refine .seq (.rn ?_)
     refine .ret ⟨_, _, zz4,zz4, ?_⟩
     rw [if_neg (by omega), if_pos c19]
    ·try simp at c19
     refine .skip (.seq (.rn ?_))
     refine .ret ⟨_, _, zz4,zz4, ?_⟩
     rw [if_neg (by omega), if_neg (by omega)]
theorem p160 (l m : List Int) (hl : l.length < 4294967296) : VPure Tryz.prog 160 [ints l, ints m] fun r => r = .int .i64 (cmpL l m) := by
 refine .of_body Tryz.func160 rfl rfl ?_
 refine .seq (.rn ?_)
 refine .seq (.seq (.rn ?_))
 refine .block ?_
 refine .loopS (fun k : Nat => ([(0, ints l),(1, ints m),(9, ints l),(10, .int .i64 l.length),(11, .int .i64 k)], VHeap.empty)) (fun k => k ≤ l.length ∧ k ≤ m.length ∧ cmpL l m = cmpL (l.drop k) (m.drop k)) (fun k => l.length - k) 0 (by simp) (.pure (by simp [*]) (by simp)) ?_
 rintro k ⟨hk, hkm, hr⟩
 simp only at hk hkm hr ⊢
 refine .seq (.rn ?_)
 refine .seq ?_
 refine .condS rfl (fun c12 => ?_) (fun c12 => ?_)
 ·try simp at c12
  have hw2 := wr1 k
  refine .skip (.seq (.block (.seq (.rn ?_))))
  refine .seq (.seq (.rn ?_))
  refine .condS rfl (fun c19 => ?_) (fun c19 => ?_)
  ·try simp at c19
   have : k = m.length := by omega
   rw [this, List.drop_length] at hr
   obtain ⟨x, r, hx⟩ : ∃ x r, l.drop m.length = x :: r := ⟨_, _, List.drop_eq_getElem_cons (by omega)⟩
   refine .seq (.rn ?_)
   refine .ret ⟨_, _, zz4,zz4, ?_⟩
   rw [hr, hx]; rfl
  ·try simp at c19
   have c19 : k < m.length := by omega
   rw [List.drop_eq_getElem_cons c12, List.drop_eq_getElem_cons c19, cmpL] at hr
   refine .skip (.seq (.rn ?_))
   refine .seq ?_
   refine .regionL [0,1,2,3] rfl zz0 ?_
   refine .rn [0,1] [2,3] ?_
   refine .pc rfl rfl rfl rfl rfl Tryz.call197 (p197 l[k] m[k]) ?_
   refine .rn [3] [] ?_
   refine .done (.seq (.rn ?_))
   refine .condS rfl (fun c28 => ?_) (fun c28 => ?_)
   ·try simp at c28
    have hc : cmpL l m = if l[k] < m[k] then -1 else if m[k] < l[k] then 1 else 0 := by
     rw [hr]
     by_cases h1 : l[k] < m[k]
     ·rw [if_pos h1, if_pos h1]
     ·rw [if_neg h1, if_neg h1]
      by_cases h2 : m[k] < l[k]
      ·rw [if_pos h2, if_pos h2]
      ·simp [h1, h2] at c28
    refine .seq (.rn ?_)
    refine .ret ⟨_, _, zz4,zz4, ?_⟩
    rw [hc]
   ·try simp at c28
    have hc : cmpL l m = cmpL (l.drop (k + 1)) (m.drop (k + 1)) := by
     rw [hr]
     by_cases h1 : l[k] < m[k]
     ·simp [h1] at c28
     ·by_cases h2 : m[k] < l[k]
      ·simp [h1, h2] at c28
      ·rw [if_neg h1, if_neg h2]
    refine .skip (.rn ?_)
    refine ⟨k + 1, ⟨c12, c19, hc⟩, zz5, .pure (by simp [*]) (by simp)⟩
 ·try simp at c12
  have hk2 : k = l.length := by omega
  rw [hk2, List.drop_length] at hr
  refine .exit (.seq (.seq (.rn ?_)))
  refine .condS rfl (fun c35 => ?_) (fun c35 => ?_)
  ·try simp at c35
   obtain ⟨x, r, hx⟩ : ∃ x r, m.drop l.length = x :: r := ⟨_, _, List.drop_eq_getElem_cons (by omega)⟩
   refine .seq (.rn ?_)
   refine .ret ⟨_, _, zz4,zz4, ?_⟩
   rw [hr, hx]; rfl
  ·try simp at c35
   have : m.drop l.length = [] := List.drop_eq_nil_of_le (by omega)
   refine .skip (.seq (.rn ?_))
   refine .ret ⟨_, _, zz4,zz4, ?_⟩
   rw [hr, this]; rfl
theorem p95D (s : List Wit) (D0 : List Int) (h : checkS s = 0) : VPure Tryz.prog 95 [.vmap (kvs (kvM (hM s D0)))] fun r => r = .tup [.int .i64 ((crD s D0).getD (0,0)).1, .int .i64 ((crD s D0).getD (0,0)).2, .bool (crD s D0).isSome] := by
 have hlen := heldM_len h
 have hsl := slD_len s D0
 have hle := hM_len s D0
 have h125 : VPure Tryz.prog 125 [.vmap (kvs (kvM (hM s D0)))] fun r => r = ints (slD s D0) := by
  have h := p125 (kvM (hM s D0)) (by rw [kvM_keys]; exact hM_nodup s D0) (by simp only [kvM, List.length_map]; omega)
  rw [kvM_keys] at h; exact h
 have hpf : ∀ n ∈ slD s D0, pfind .i64 n (kvs (kvM (hM s D0))) = some (some (.int .u32 (vM s n))) := fun n hn => by
  have h0 := (slD_mem.1 hn).1
  have h1 : n ∈ (heldM s).map (·.1) := heldM_mem.2 (slD_mem.1 hn).2
  have h2 := getM_mem.2 h1
  rw [pfind_kvM, getM_hM h0]
  unfold vM
  cases hg : getM (heldM s) n with
  | none => rw [hg] at h2; cases h2
  | some v => rfl
 have hL : (slD s D0).length ≤ 720 := by omega
 clear hsl hlen hle
 have hcr : crD s D0 = crO s (slD s D0) := rfl
 generalize hM : kvs (kvM (hM s D0)) = M at hpf h125
 generalize hLL : slD s D0 = L at hpf hL h125 hcr
 refine .of_body Tryz.func95 rfl rfl ?_
 refine .seq (.rn ?_)
 refine .scope ?_
 refine .seq ?_
 refine .regionL [0,1,2] rfl zz0 ?_
 refine .rn [0] [1,2] ?_
 refine .pc rfl rfl rfl rfl rfl Tryz.call125 (h125) ?_
 refine .rn [2] [] ?_
 refine .done (.seq (.rn ?_))
 refine .seq ?_
 refine .label ?_
 refine .seq (.seq (.rn ?_))
 refine .block ?_
 refine .loopS (fun k : Nat => ([(0, .vmap M),(5, ints L),(6, .int .i64 0),(7, .int .i64 0),(8, .bool false),(15, ints L),(16, .int .i64 L.length),(17, .int .i64 k)], VHeap.empty)) (fun k => k ≤ L.length ∧ crD s D0 = crO s (L.drop k)) (fun k => L.length - k) 0 ⟨by simp, by simpa using hcr⟩ (.pure (by simp [*]) (by simp)) ?_
 rintro k ⟨hk, hr⟩
 simp only at hk hr ⊢
 refine .seq (.rn ?_)
 refine .seq ?_
 refine .condS rfl (fun c18 => ?_) (fun c18 => ?_)
 ·try simp at c18
  have hw2 := wr1 k
  rw [List.drop_eq_getElem_cons c18] at hr
  obtain ⟨D, hD⟩ : ∃ D, L.drop (k + 1) = D := ⟨_, rfl⟩
  have hDl : D.length = L.length - (k + 1) := by rw [← hD, List.length_drop]
  have hDm : ∀ x ∈ D, x ∈ L := fun x hx => List.mem_of_mem_drop (hD ▸ hx)
  have hDt : (L.map (PV.int .i64)).drop (k + 1) = D.map (.int .i64) := by rw [← List.map_drop, hD]
  have hDt2 : ((L.map (PV.int .i64)).drop (k + 1)).take (L.length - (k + 1)) = D.map (.int .i64) := by rw [hDt]; exact List.take_of_length_le (by rw [List.length_map]; omega)
  have hDt3 : List.take (L.length - (k + 1)) (D.map (PV.int .i64)) = D.map (.int .i64) := List.take_of_length_le (by rw [List.length_map]; omega)
  have hk1' : 0 ≤ (k : Int) + 1 ∧ (k : Int) + 1 ≤ (L.length : Int) := by omega
  have hDn : D.length ≤ 720 := by omega
  clear hDl
  have hpa := hpf L[k] (List.getElem_mem c18)
  have hk1 : k + 1 ≤ L.length := c18
  refine .skip (.seq (.block (.seq (.rn ?_))))
  refine .seq (.rn ?_)
  refine .block ?_
  refine .loopS (fun j : Nat => ([(0, .vmap M),(5, ints L),(6, .int .i64 0),(7, .int .i64 0),(8, .bool false),(10, .int .i64 L[k]),(15, ints L),(16, .int .i64 L.length),(17, .int .i64 k),(25, ints D),(26, .int .i64 D.length),(27, .int .i64 j)], VHeap.empty)) (fun j => j ≤ D.length ∧ D.find? (crB s L[k]) = (D.drop j).find? (crB s L[k])) (fun j => D.length - j) 0 (by simp) (.pure (by simp [*]) (by simp)) ?_
  rintro j ⟨hj, hf⟩
  simp only at hj hf ⊢
  refine .seq (.rn ?_)
  refine .seq ?_
  refine .condS rfl (fun c28 => ?_) (fun c28 => ?_)
  ·try simp at c28
   have hw3 := wr1 j
   rw [List.drop_eq_getElem_cons c28, List.find?_cons] at hf
   have hpb := hpf D[j] (hDm _ (List.getElem_mem c28))
   obtain ⟨cb, hcb⟩ : ∃ x, crB s L[k] D[j] = x := ⟨_, rfl⟩
   have h96 := p96 (vM s L[k]) (vM s D[j])
   rw [show crossV (vM s L[k]) (vM s D[j]) = cb from hcb] at h96
   rw [hcb] at hf
   refine .skip (.seq (.block (.seq (.rn ?_))))
   refine .seq ?_
   refine .regionL [0,1,2,3,4,5,6,7,8,9,10] rfl zz0 ?_
   refine .rn [0,1,2,3,4,5] [6,7,8,9,10] ?_
   refine .pc rfl rfl rfl rfl rfl Tryz.call96 (h96) ?_
   refine .rn [7,8,9,10] [] ?_
   refine .done (.seq (.rn ?_))
   refine .condS rfl (fun c41 => ?_) (fun c41 => ?_)
   ·try simp at c41
    rw [c41] at hf
    refine .seq (.rn ?_)
    refine .exit (.seq (.rn ?_))
    refine .ret ⟨_, _, zz4,zz4, ?_⟩
    have hx : crD s D0 = some (L[k], D[j]) := by rw [hr]; unfold crO; rw [hD, hf]
    rw [hx]; simp [c41]
   ·try simp at c41
    rw [c41] at hf
    refine .skip (.rn ?_)
    refine ⟨j + 1, ⟨c28, hf⟩, zz5, .pure (by simp [*]) (by simp)⟩
  ·try simp at c28
   have hj2 : j = D.length := by omega
   rw [hj2, List.drop_length] at hf
   refine .exit (.rn ?_)
   refine ⟨k + 1, ⟨c18, by
    rw [hr, hD]
    show (match D.find? (crB s L[k]) with | some b => some (L[k], b) | none => crO s D) = crO s D
    rw [hf]; rfl⟩, zz5, .pure (by simp [*]) (by simp)⟩
 ·try simp at c18
  have hk2 : k = L.length := by omega
  rw [hk2, List.drop_length] at hr
  refine .exit (.seq (.rn ?_))
  refine .ret ⟨_, _, zz4,zz4, ?_⟩
  rw [hr]; rfl
def xD (s : List Wit) (m : Nat) (D : List Int) (n : Int) : Option (List Int) := (drR s m (D ++ [n])).map fun l => insD l n
def bestK (s : List Wit) (m : Nat) (D : List Int) (a b : Int) : Nat → Option (List Int)
 | 0 => none
 | 1 => bet none (xD s m D a)
 | _ => bet (bet none (xD s m D a)) (xD s m D b)
theorem bestK_succ (s : List Wit) (m : Nat) (D : List Int) (a b : Int) {k : Nat} (h : k < 2) : bestK s m D a b (k + 1) = bet (bestK s m D a b k) (xD s m D (if k = 0 then a else b)) := by
 rcases (show k = 0 ∨ k = 1 by omega) with rfl | rfl <;> rfl
theorem xD_len {s : List Wit} {m : Nat} {D : List Int} {n : Int} {l : List Int} (h : xD s m D n = some l) : l.length = m + 1 := by
 unfold xD at h
 obtain ⟨r, h1, rfl⟩ := Option.map_eq_some_iff.1 h
 rw [insD_len, drR_len h1]
theorem bestK_len {s : List Wit} {m : Nat} {D : List Int} {a b : Int} {k : Nat} {l : List Int} (h : bestK s m D a b k = some l) : l.length = m + 1 := by
 match k with
 | 0 => cases h
 | 1 => rcases bet_some h with h | h; cases h; exact xD_len h
 | k + 2 => rcases bet_some h with h | h; (rcases bet_some h with h | h; cases h; exact xD_len h); exact xD_len h
theorem p93z (s : List Wit) (h : checkS s = 0) (D : List Int) : VCall Tryz.prog 93 [.vmap (kvs (kvM (hM s D))), .int .i64 0] VHeap.empty fun v vh' => drV (drR s 0 D) v vh' := by
 have q95 := p95D s D h
 have hd : drR s 0 D = if (crD s D).isSome = true then none else some [] := rfl
 obtain ⟨c, hc⟩ : ∃ c, crD s D = c := ⟨_, rfl⟩
 rw [hc] at q95 hd
 refine .of_body Tryz.func93 rfl rfl ?_
 refine .seq (.rn ?_)
 refine .seq ?_
 refine .regionL [0,1,2,3,4,5,6,7,8] rfl zz0 ?_
 refine .rn [0] [1,2,3,4,5,6,7,8] ?_
 refine .pc rfl rfl rfl rfl rfl Tryz.call95 (q95) ?_
 refine .rn [2,3,4,5,6,7,8] [] ?_
 refine .done (.seq (.seq ?_))
 refine .regionL [0,1,2,3,4,5] rfl zz0 ?_
 refine .rn [0,1,2] [3,4,5] ?_
 refine .split (t := 24) rfl (fun c24 => ?_) (fun c24 => ?_)
 ·try rw [c24]
  try simp at c24
  have hcn : c = none := by cases c <;> simp_all
  subst hcn
  refine .rn [3,4,5] [] ?_
  refine .done (.condT rfl (.seq ?_))
  refine .regionL [0,1,2,3,4,5,6,7] rfl zz0 ?_
  refine .rn [0,1,2] [3,4,5,6,7] ?_
  refine .split (t := 30) rfl (fun c30 => ?_) (fun c30 => ?_)
  ·try rw [c30]
   try simp at c30
   refine .rn [3,4,5,6,7] [] ?_
   refine .done (.ret ?_)
   refine ⟨_, zz4, .sl0, ?_, .inl ⟨?_, rfl⟩⟩ <;> rw [hd] <;> rfl
  ·try rw [c30]
   try simp at c30
 ·try rw [c24]
  try simp at c24
  obtain ⟨p, rfl⟩ : ∃ p, c = some p := by cases c; simp_all; exact ⟨_, rfl⟩
  refine .rn [3,4,5] [] ?_
  refine .done ?_
  refine .condS rfl (fun c27 => ?_) (fun c27 => ?_)
  ·try simp at c27
   refine .seq ?_
   refine .regionL [0,1,2,3,4,5,6,7] rfl zz0 ?_
   refine .rn [0,1,2] [3,4,5,6,7] ?_
   refine .split (t := 30) rfl (fun c30 => ?_) (fun c30 => ?_)
   ·try rw [c30]
    try simp at c30
   ·try rw [c30]
    try simp at c30
    refine .rn [3,4,5,6,7] [] ?_
    refine .done (.ret ?_)
    refine ⟨_, zz4, .sl0, ?_, .inl ⟨?_, rfl⟩⟩ <;> rw [hd] <;> rfl
  ·try simp at c27
theorem p93s (s : List Wit) (h : checkS s = 0) (m : Nat) (hm : m ≤ 3) (ih : ∀ D : List Int, VCall Tryz.prog 93 [.vmap (kvs (kvM (hM s D))), .int .i64 m] VHeap.empty fun v vh' => drV (drR s m D) v vh') (D : List Int) : VCall Tryz.prog 93 [.vmap (kvs (kvM (hM s D))), .int .i64 ((m + 1 : Nat) : Int)] VHeap.empty fun v vh' => drV (drR s (m + 1) D) v vh' := by
 have q95 := p95D s D h
 have hd : drR s (m + 1) D = match crD s D with
  | none => none
  | some p => bestK s m D p.1 p.2 2 := by rw [drR]; rfl
 obtain ⟨c, hc⟩ : ∃ c, crD s D = c := ⟨_, rfl⟩
 rw [hc] at q95 hd
 have hwm : IntKind.i64.wrap (((m + 1 : Nat) : Int) - 1) = (m : Int) := by rw [wrap64 (by omega) (by omega)]; omega
 have hwm2 : IntKind.i64.wrap ((m : Int) + 1 - 1) = (m : Int) := by rw [wrap64 (by omega) (by omega)]; omega
 have hm0 : ¬ ((m : Int) + 1 = 0) := by omega
 have hwm3 : IntKind.i64.wrap (m : Int) = (m : Int) := wrap64 (by omega) (by omega)
 refine .of_body Tryz.func93 rfl rfl ?_
 refine .seq (.rn ?_)
 refine .seq ?_
 refine .regionL [0,1,2,3,4,5,6,7,8] rfl zz0 ?_
 refine .rn [0] [1,2,3,4,5,6,7,8] ?_
 refine .pc rfl rfl rfl rfl rfl Tryz.call95 (q95) ?_
 refine .rn [2,3,4,5,6,7,8] [] ?_
 refine .done (.seq (.seq ?_))
 refine .regionL [0,1,2,3,4,5] rfl zz0 ?_
 refine .rn [0,1,2] [3,4,5] ?_
 refine .split (t := 24) rfl (fun c24 => ?_) (fun c24 => ?_)
 ·try rw [c24]
  try simp at c24
  have hcn : c = none := by cases c <;> simp_all
  subst hcn
  refine .rn [3,4,5] [] ?_
  refine .done (.condT rfl (.seq ?_))
  refine .regionL [0,1,2,3,4,5,6,7] rfl zz0 ?_
  refine .rn [0,1,2] [3,4,5,6,7] ?_
  refine .split (t := 30) rfl (fun c30 => ?_) (fun c30 => ?_)
  ·try rw [c30]
   try simp at c30
   refine .rn [3,4,5,6,7] [] ?_
   refine .done (.ret ?_)
   refine ⟨_, zz4, .sl0, ?_, .inl ⟨?_, rfl⟩⟩ <;> rw [hd] <;> simp [*]
  ·try rw [c30]
   try simp at c30
 ·try rw [c24]
  try simp at c24
  obtain ⟨⟨a, b⟩, rfl⟩ : ∃ p, c = some p := by cases c; simp_all; exact ⟨_, rfl⟩
  simp only at hd
  refine .rn [3,4,5] [] ?_
  refine .done ?_
  refine .condS rfl (fun c27 => ?_) (fun c27 => ?_)
  ·try simp at c27
   exfalso; omega
  ·try simp at c27
   refine .skip (.seq (.rn ?_))
   refine .seq (.seq (.rn ?_))
   refine .block ?_
   refine .loopS (fun k : Nat => ([(0, .vmap (kvs (kvM (hM s D)))),(1, .int .i64 ((m + 1 : Nat) : Int)),(9, .grow 0 ((bestK s m D a b k).getD []).length true),(36, .agg [.int .i64 a, .int .i64 b]),(37, .int .i64 k)], ⟨1,[(0, .grow 1 (((bestK s m D a b k).getD []).map (.int .i64)))]⟩)) (fun k => k ≤ 2) (fun k => 2 - k) 0 (by simp) (.mk [] [] (by repeat' (first | exact trivial | refine And.intro (Exists.intro _ (And.intro rfl ?_)) ?_ | (refine Alt.same _ ?_; first | rfl | (simp [*]; done)) | exact Alt.mapv _ _ (Nat.le_of_ble_eq_true rfl) rfl | exact Alt.grow _ _ _ _ (Nat.le_of_ble_eq_true rfl) rfl | (refine Alt.growE _ _ _ _ _ ?_ (Nat.le_of_ble_eq_true rfl) rfl; simp [*]; done) | exact Alt.ptr _ _ _ (Nat.le_of_ble_eq_true rfl) rfl | exact Alt.own _ _ _ _ _ (Nat.le_of_ble_eq_true rfl) rfl | exact Alt.sub _ _ _ _ (Nat.le_of_ble_eq_true rfl) rfl | exact Alt.yld _ _ (Nat.le_of_ble_eq_true rfl) rfl | exact Alt.sl0 _ _ | (refine Alt.sl0E _ _ _ ?_; simp [*]; done) | exact Alt.e0 _ | exact Alt.sl0v | exact Alt.own0 _ _ _ | (refine Alt.fgrow _ _ _ _ _ rfl rfl ?_; simp [*]; done) | exact Alt.fown _ _ _ _ _ _ _ _ rfl rfl rfl | exact Alt.fmap _ _ rfl rfl | (refine Alt.sl0vE ?_; simp [*] <;> rfl) | (refine Alt.ofEq rfl ?_; simp [*]; done))) (by repeat' (first | exact trivial | refine And.intro (And.intro (Nat.le_of_ble_eq_true rfl) (Or.inr (And.intro rfl (Exists.intro _ (And.intro rfl ?_))))) ?_ | refine And.intro (And.intro (Nat.le_of_ble_eq_true rfl) (Or.inl (Exists.intro _ (And.intro rfl (Nat.le_of_ble_eq_true rfl))))) ?_ | refine And.intro (And.intro (Nat.le_of_ble_eq_true rfl) (Or.inl (Exists.intro _ (And.intro (congrArg (VObj.grow _) (by simp [*])) (Nat.le_of_ble_eq_true rfl))))) ?_ | rfl | exact AltL.nil | (refine congrArg (VObj.grow _) ?_; simp [*]; done) | (refine congrArg VObj.map ?_; simp [*]; done) | (refine congrArg (VObj.arr _ _) ?_; simp [*]; done) | refine AltLp.mk rfl rfl rfl rfl rfl ?_ | refine And.intro (Exists.intro _ (And.intro rfl ?_)) ?_ | refine AltL.cons ?_ ?_ | (refine Alt.same _ ?_; first | rfl | (simp [*]; done)) | exact Alt.mapv _ _ (Nat.le_of_ble_eq_true rfl) rfl | exact Alt.grow _ _ _ _ (Nat.le_of_ble_eq_true rfl) rfl | (refine Alt.growE _ _ _ _ _ ?_ (Nat.le_of_ble_eq_true rfl) rfl; simp [*]; done) | exact Alt.ptr _ _ _ (Nat.le_of_ble_eq_true rfl) rfl | exact Alt.own _ _ _ _ _ (Nat.le_of_ble_eq_true rfl) rfl | exact Alt.sub _ _ _ _ (Nat.le_of_ble_eq_true rfl) rfl | exact Alt.yld _ _ (Nat.le_of_ble_eq_true rfl) rfl | exact Alt.sl0 _ _ | (refine Alt.sl0E _ _ _ ?_; simp [*]; done) | exact Alt.e0 _ | exact Alt.sl0v | exact Alt.own0 _ _ _ | (refine Alt.fgrow _ _ _ _ _ rfl rfl ?_; simp [*]; done) | exact Alt.fown _ _ _ _ _ _ _ _ rfl rfl rfl | exact Alt.fmap _ _ rfl rfl | (refine Alt.sl0vE ?_; simp [*] <;> rfl) | (refine Alt.ofEq rfl ?_; simp [*]; done))) rfl rfl rfl) ?_
   rintro k hk
   simp only at hk ⊢
   have hbl : ∀ l, bestK s m D a b k = some l → l.length = m + 1 := fun l h => bestK_len h
   refine .seq (.rn ?_)
   refine .seq ?_
   refine .condS rfl (fun c38 => ?_) (fun c38 => ?_)
   ·try simp at c38
    have hk2 : k < 2 := by omega
    have hw2 := wr1 k
    have hS := bestK_succ s m D a b hk2
    obtain ⟨n, hn⟩ : ∃ n, (if k = 0 then a else b) = n := ⟨_, rfl⟩
    rw [hn] at hS
    have hk01 : (k = 0 ∧ n = a) ∨ (k = 1 ∧ n = b) := by
     rcases (show k = 0 ∨ k = 1 by omega) with rfl | rfl
     ·exact .inl ⟨rfl, hn.symm⟩
     ·exact .inr ⟨rfl, hn.symm⟩
    obtain ⟨B, hB⟩ : ∃ B, bestK s m D a b k = B := ⟨_, rfl⟩
    rw [hB] at hS hbl
    obtain ⟨L, hL⟩ : ∃ L, B.getD [] = L := ⟨_, rfl⟩
    have hX : xD s m D n = (drR s m (D ++ [n])).map fun l => insD l n := rfl
    obtain ⟨r, hr⟩ : ∃ r, drR s m (D ++ [n]) = r := ⟨_, rfl⟩
    have hrl : ∀ l, r = some l → l.length = m := fun l h => drR_len (hr.trans h)
    have q93 := ih (D ++ [n])
    rw [hr] at q93 hX
    obtain ⟨R, hR⟩ : ∃ R, r.getD [] = R := ⟨_, rfl⟩
    have hRl : R.length ≤ m := by
     rw [← hR]
     cases r with
     | none => exact Nat.zero_le _
     | some l => rw [Option.getD_some, hrl l rfl]; exact Nat.le_refl _
    obtain ⟨rb, hrb⟩ : ∃ rb, r.isSome = rb := ⟨_, rfl⟩
    have hpf := pfind_kvM n (hM s D)
    have hfil := filter_keep (hM s D) n
    rw [hM_snoc] at hfil
    obtain ⟨M, hM1⟩ : ∃ M, kvs (kvM (hM s D)) = M := ⟨_, rfl⟩
    obtain ⟨M2, hM2⟩ : ∃ M2, kvs (kvM (hM s (D ++ [n]))) = M2 := ⟨_, rfl⟩
    have q158 : ∀ {vh : VHeap} {i : Nat}, vh.get i = some (.map []) → VCall Tryz.prog 158 [.mapv i, .vmap M] vh fun v vh' => v = .tup [] ∧ vh' = vh.put i (.map M) := fun {vh i} hi => hM1 ▸ copy158 hi (hM_nodup s D)
    rw [hM1] at hpf hfil
    rw [hM2] at hfil q93
    rw [hM1, hB, hL]
    have q93f : ∀ vh : VHeap, VCall Tryz.prog 93 [.vmap M2, .int .i64 m] vh fun v vh' => v = .tup [.grow vh.next R.length true, .bool rb] ∧ vh' = vh.alloc (.grow 1 (R.map (.int .i64))) := fun vh => by
     refine freshT (by rw [List.length_map]) (by decide) (q93.mono ?_) (by rw [← hM2]; simp [kvM, kvs, PV.isF])
     rintro v vh' ⟨x, h1, h2⟩
     rw [hR] at h2
     rw [hrb] at h1
     exact ⟨x, h1, h2⟩
    refine .skip (.seq (.block (.seq ?_)))
    refine .regionL [0,1] rfl zz0 ?_
    refine .step rfl rfl (.op (v := .int .i64 n) (vh' := ⟨1,[(0, .grow 1 (L.map (.int .i64)))]⟩) (by rcases hk01 with ⟨rfl, rfl⟩ | ⟨rfl, rfl⟩ <;> rfl) (by decide) ?_)
    refine .rn [1] [] ?_
    refine .done (.seq (.rn ?_))
    refine .seq ?_
    refine .regionL [0,1,2] rfl zz0 ?_
    refine .rn [0,1] [2] ?_
    refine .step rfl rfl (.call rfl rfl rfl Tryz.call158 (by decide) (((q158 rfl)).mono ?_))
    rintro _ _ ⟨rfl, rfl⟩
    refine .done (.seq (.rn ?_))
    refine .seq ?_
    refine .rec (vts2 := [(0, .vmap M),(1, .int .i64 ((m + 1 : Nat) : Int)),(9, .grow 0 L.length true),(11, .int .i64 n),(12, .vmap M2),(36, .agg [.int .i64 a, .int .i64 b]),(37, .int .i64 k)]) (vh2 := ⟨1,[(0, .grow 1 (L.map (.int .i64)))]⟩) (.mk [1] [] (by repeat' (first | exact trivial | refine And.intro (Exists.intro _ (And.intro rfl ?_)) ?_ | (refine Alt.same _ ?_; first | rfl | (simp [*]; done)) | exact Alt.mapv _ _ (Nat.le_of_ble_eq_true rfl) rfl | exact Alt.grow _ _ _ _ (Nat.le_of_ble_eq_true rfl) rfl | (refine Alt.growE _ _ _ _ _ ?_ (Nat.le_of_ble_eq_true rfl) rfl; simp [*]; done) | exact Alt.ptr _ _ _ (Nat.le_of_ble_eq_true rfl) rfl | exact Alt.own _ _ _ _ _ (Nat.le_of_ble_eq_true rfl) rfl | exact Alt.sub _ _ _ _ (Nat.le_of_ble_eq_true rfl) rfl | exact Alt.yld _ _ (Nat.le_of_ble_eq_true rfl) rfl | exact Alt.sl0 _ _ | (refine Alt.sl0E _ _ _ ?_; simp [*]; done) | exact Alt.e0 _ | exact Alt.sl0v | exact Alt.own0 _ _ _ | (refine Alt.fgrow _ _ _ _ _ rfl rfl ?_; simp [*]; done) | exact Alt.fown _ _ _ _ _ _ _ _ rfl rfl rfl | exact Alt.fmap _ _ rfl rfl | (refine Alt.sl0vE ?_; simp [*] <;> rfl) | (refine Alt.ofEq rfl ?_; simp [*]; done))) (by repeat' (first | exact trivial | refine And.intro (And.intro (Nat.le_of_ble_eq_true rfl) (Or.inr (And.intro rfl (Exists.intro _ (And.intro rfl ?_))))) ?_ | refine And.intro (And.intro (Nat.le_of_ble_eq_true rfl) (Or.inl (Exists.intro _ (And.intro rfl (Nat.le_of_ble_eq_true rfl))))) ?_ | refine And.intro (And.intro (Nat.le_of_ble_eq_true rfl) (Or.inl (Exists.intro _ (And.intro (congrArg (VObj.grow _) (by simp [*])) (Nat.le_of_ble_eq_true rfl))))) ?_ | rfl | exact AltL.nil | (refine congrArg (VObj.grow _) ?_; simp [*]; done) | (refine congrArg VObj.map ?_; simp [*]; done) | (refine congrArg (VObj.arr _ _) ?_; simp [*]; done) | refine AltLp.mk rfl rfl rfl rfl rfl ?_ | refine And.intro (Exists.intro _ (And.intro rfl ?_)) ?_ | refine AltL.cons ?_ ?_ | (refine Alt.same _ ?_; first | rfl | (simp [*]; done)) | exact Alt.mapv _ _ (Nat.le_of_ble_eq_true rfl) rfl | exact Alt.grow _ _ _ _ (Nat.le_of_ble_eq_true rfl) rfl | (refine Alt.growE _ _ _ _ _ ?_ (Nat.le_of_ble_eq_true rfl) rfl; simp [*]; done) | exact Alt.ptr _ _ _ (Nat.le_of_ble_eq_true rfl) rfl | exact Alt.own _ _ _ _ _ (Nat.le_of_ble_eq_true rfl) rfl | exact Alt.sub _ _ _ _ (Nat.le_of_ble_eq_true rfl) rfl | exact Alt.yld _ _ (Nat.le_of_ble_eq_true rfl) rfl | exact Alt.sl0 _ _ | (refine Alt.sl0E _ _ _ ?_; simp [*]; done) | exact Alt.e0 _ | exact Alt.sl0v | exact Alt.own0 _ _ _ | (refine Alt.fgrow _ _ _ _ _ rfl rfl ?_; simp [*]; done) | exact Alt.fown _ _ _ _ _ _ _ _ rfl rfl rfl | exact Alt.fmap _ _ rfl rfl | (refine Alt.sl0vE ?_; simp [*] <;> rfl) | (refine Alt.ofEq rfl ?_; simp [*]; done))) rfl rfl rfl) ?_
    refine .regionL [0,1,2,3,4,5,6,7,8] rfl zz0 ?_
    refine .rn [0,1,2] [3,4,5,6,7,8] ?_
    refine .step rfl rfl (.call rfl rfl rfl Tryz.call93 (by decide) (((q93f _)).mono ?_))
    rintro _ _ ⟨rfl, rfl⟩
    refine .rn [4,5,6,7,8] [] ?_
    refine .done (.seq (.seq (.rn ?_)))
    refine .condS rfl (fun c54 => ?_) (fun c54 => ?_)
    ·try simp at c54
     have hrn : r = none := by cases r with
      | none => rfl
      | some l => rw [← hrb] at c54; cases c54
     have hS2 : bestK s m D a b (k + 1) = B := by rw [hS, hX, hrn]; rfl
     refine .exit (.rn ?_)
     have hS3 : (bestK s m D a b (k + 1)).getD [] = L := by rw [hS2]; exact hL
     refine ⟨k + 1,zz5,zz5, ?_⟩
     simp only [hS3]
     exact (.mk [] [] (by repeat' (first | exact trivial | refine And.intro (Exists.intro _ (And.intro rfl ?_)) ?_ | (refine Alt.same _ ?_; first | rfl | (simp [*]; done)) | exact Alt.mapv _ _ (Nat.le_of_ble_eq_true rfl) rfl | exact Alt.grow _ _ _ _ (Nat.le_of_ble_eq_true rfl) rfl | (refine Alt.growE _ _ _ _ _ ?_ (Nat.le_of_ble_eq_true rfl) rfl; simp [*]; done) | exact Alt.ptr _ _ _ (Nat.le_of_ble_eq_true rfl) rfl | exact Alt.own _ _ _ _ _ (Nat.le_of_ble_eq_true rfl) rfl | exact Alt.sub _ _ _ _ (Nat.le_of_ble_eq_true rfl) rfl | exact Alt.yld _ _ (Nat.le_of_ble_eq_true rfl) rfl | exact Alt.sl0 _ _ | (refine Alt.sl0E _ _ _ ?_; simp [*]; done) | exact Alt.e0 _ | exact Alt.sl0v | exact Alt.own0 _ _ _ | (refine Alt.fgrow _ _ _ _ _ rfl rfl ?_; simp [*]; done) | exact Alt.fown _ _ _ _ _ _ _ _ rfl rfl rfl | exact Alt.fmap _ _ rfl rfl | (refine Alt.sl0vE ?_; simp [*] <;> rfl) | (refine Alt.ofEq rfl ?_; simp [*]; done))) (by repeat' (first | exact trivial | refine And.intro (And.intro (Nat.le_of_ble_eq_true rfl) (Or.inr (And.intro rfl (Exists.intro _ (And.intro rfl ?_))))) ?_ | refine And.intro (And.intro (Nat.le_of_ble_eq_true rfl) (Or.inl (Exists.intro _ (And.intro rfl (Nat.le_of_ble_eq_true rfl))))) ?_ | refine And.intro (And.intro (Nat.le_of_ble_eq_true rfl) (Or.inl (Exists.intro _ (And.intro (congrArg (VObj.grow _) (by simp [*])) (Nat.le_of_ble_eq_true rfl))))) ?_ | rfl | exact AltL.nil | (refine congrArg (VObj.grow _) ?_; simp [*]; done) | (refine congrArg VObj.map ?_; simp [*]; done) | (refine congrArg (VObj.arr _ _) ?_; simp [*]; done) | refine AltLp.mk rfl rfl rfl rfl rfl ?_ | refine And.intro (Exists.intro _ (And.intro rfl ?_)) ?_ | refine AltL.cons ?_ ?_ | (refine Alt.same _ ?_; first | rfl | (simp [*]; done)) | exact Alt.mapv _ _ (Nat.le_of_ble_eq_true rfl) rfl | exact Alt.grow _ _ _ _ (Nat.le_of_ble_eq_true rfl) rfl | (refine Alt.growE _ _ _ _ _ ?_ (Nat.le_of_ble_eq_true rfl) rfl; simp [*]; done) | exact Alt.ptr _ _ _ (Nat.le_of_ble_eq_true rfl) rfl | exact Alt.own _ _ _ _ _ (Nat.le_of_ble_eq_true rfl) rfl | exact Alt.sub _ _ _ _ (Nat.le_of_ble_eq_true rfl) rfl | exact Alt.yld _ _ (Nat.le_of_ble_eq_true rfl) rfl | exact Alt.sl0 _ _ | (refine Alt.sl0E _ _ _ ?_; simp [*]; done) | exact Alt.e0 _ | exact Alt.sl0v | exact Alt.own0 _ _ _ | (refine Alt.fgrow _ _ _ _ _ rfl rfl ?_; simp [*]; done) | exact Alt.fown _ _ _ _ _ _ _ _ rfl rfl rfl | exact Alt.fmap _ _ rfl rfl | (refine Alt.sl0vE ?_; simp [*] <;> rfl) | (refine Alt.ofEq rfl ?_; simp [*]; done))) rfl rfl rfl)
    ·try simp at c54
     have hrs : r = some R := by
      cases r with
      | none => rw [← hrb] at c54; simp at c54
      | some l => rw [← hR]; rfl
     have hX2 : xD s m D n = some (insD R n) := by rw [hX, hrs]; rfl
     have hRb : R.length ≤ 4294967295 := by omega
     have hmb : m ≤ 4294967295 := by omega
     have hRm : R.length = m := hrl R hrs
     have hone : allOne [PV.int IntKind.i64 n] = true := rfl
     obtain ⟨Q, hQ⟩ : ∃ Q, insD R n = Q := ⟨_, rfl⟩
     have hQl : Q.length = R.length + 1 := by rw [← hQ, insD_len]
     have hQm : (R ++ [n]).mergeSort (fun x y => decide (x ≤ y)) = Q := hQ
     rw [hQ] at hX2
     refine .skip (.seq (.rn ?_))
     refine .seq ?_
     refine .regionL [0,1] rfl zz0 ?_
     refine .rn [0] [1] ?_
     refine .step rfl rfl (.call rfl rfl rfl Tryz.call159 (by decide) (((VCall.sortGrow (zs := R ++ [n]) lsort (by simp) (by simp [hRm]))).mono ?_))
     rintro _ _ ⟨rfl, rfl⟩
     refine .done (.seq ?_)
     refine .rec (vts2 := [(0, .vmap M),(1, .int .i64 ((m + 1 : Nat) : Int)),(9, .grow 0 L.length true),(15, .grow 1 Q.length true),(36, .agg [.int .i64 a, .int .i64 b]),(37, .int .i64 k)]) (vh2 := ⟨2,[(1, .grow 1 (Q.map (.int .i64))),(0, .grow 1 (L.map (.int .i64)))]⟩) (.mk [] [(1,3)] (by repeat' (first | exact trivial | refine And.intro (Exists.intro _ (And.intro rfl ?_)) ?_ | (refine Alt.same _ ?_; first | rfl | (simp [*]; done)) | exact Alt.mapv _ _ (Nat.le_of_ble_eq_true rfl) rfl | exact Alt.grow _ _ _ _ (Nat.le_of_ble_eq_true rfl) rfl | (refine Alt.growE _ _ _ _ _ ?_ (Nat.le_of_ble_eq_true rfl) rfl; simp [*]; done) | exact Alt.ptr _ _ _ (Nat.le_of_ble_eq_true rfl) rfl | exact Alt.own _ _ _ _ _ (Nat.le_of_ble_eq_true rfl) rfl | exact Alt.sub _ _ _ _ (Nat.le_of_ble_eq_true rfl) rfl | exact Alt.yld _ _ (Nat.le_of_ble_eq_true rfl) rfl | exact Alt.sl0 _ _ | (refine Alt.sl0E _ _ _ ?_; simp [*]; done) | exact Alt.e0 _ | exact Alt.sl0v | exact Alt.own0 _ _ _ | (refine Alt.fgrow _ _ _ _ _ rfl rfl ?_; simp [*]; done) | exact Alt.fown _ _ _ _ _ _ _ _ rfl rfl rfl | exact Alt.fmap _ _ rfl rfl | (refine Alt.sl0vE ?_; simp [*] <;> rfl) | (refine Alt.ofEq rfl ?_; simp [*]; done))) (by repeat' (first | exact trivial | refine And.intro (And.intro (Nat.le_of_ble_eq_true rfl) (Or.inr (And.intro rfl (Exists.intro _ (And.intro rfl ?_))))) ?_ | refine And.intro (And.intro (Nat.le_of_ble_eq_true rfl) (Or.inl (Exists.intro _ (And.intro rfl (Nat.le_of_ble_eq_true rfl))))) ?_ | refine And.intro (And.intro (Nat.le_of_ble_eq_true rfl) (Or.inl (Exists.intro _ (And.intro (congrArg (VObj.grow _) (by simp [*])) (Nat.le_of_ble_eq_true rfl))))) ?_ | rfl | exact AltL.nil | (refine congrArg (VObj.grow _) ?_; simp [*]; done) | (refine congrArg VObj.map ?_; simp [*]; done) | (refine congrArg (VObj.arr _ _) ?_; simp [*]; done) | refine AltLp.mk rfl rfl rfl rfl rfl ?_ | refine And.intro (Exists.intro _ (And.intro rfl ?_)) ?_ | refine AltL.cons ?_ ?_ | (refine Alt.same _ ?_; first | rfl | (simp [*]; done)) | exact Alt.mapv _ _ (Nat.le_of_ble_eq_true rfl) rfl | exact Alt.grow _ _ _ _ (Nat.le_of_ble_eq_true rfl) rfl | (refine Alt.growE _ _ _ _ _ ?_ (Nat.le_of_ble_eq_true rfl) rfl; simp [*]; done) | exact Alt.ptr _ _ _ (Nat.le_of_ble_eq_true rfl) rfl | exact Alt.own _ _ _ _ _ (Nat.le_of_ble_eq_true rfl) rfl | exact Alt.sub _ _ _ _ (Nat.le_of_ble_eq_true rfl) rfl | exact Alt.yld _ _ (Nat.le_of_ble_eq_true rfl) rfl | exact Alt.sl0 _ _ | (refine Alt.sl0E _ _ _ ?_; simp [*]; done) | exact Alt.e0 _ | exact Alt.sl0v | exact Alt.own0 _ _ _ | (refine Alt.fgrow _ _ _ _ _ rfl rfl ?_; simp [*]; done) | exact Alt.fown _ _ _ _ _ _ _ _ rfl rfl rfl | exact Alt.fmap _ _ rfl rfl | (refine Alt.sl0vE ?_; simp [*] <;> rfl) | (refine Alt.ofEq rfl ?_; simp [*]; done))) rfl rfl rfl) ?_
     refine .regionL [0,1,2,3,4,5,6,7] rfl zz0 ?_
     refine .rn [0,1,2] [3,4,5,6,7] ?_
     refine .split (t := 63) rfl (fun c63 => ?_) (fun c63 => ?_)
     ·try rw [c63]
      try simp at c63
      have hBn : B = none := by
       cases B with
       | none => rfl
       | some l =>
        have := hbl l rfl
        have e : l = L := hL
        subst e
        simp_all
      have hS2 : bestK s m D a b (k + 1) = some Q := by rw [hS, hX2, hBn]; rfl
      refine .rn [3,4,5,6,7] [] ?_
      refine .done (.condT rfl (.rn ?_))
      refine .rn ?_
      have hS3 : (bestK s m D a b (k + 1)).getD [] = Q := by rw [hS2]; rfl
      refine ⟨k + 1,zz5,zz5, ?_⟩
      simp only [hS3]
      exact (.mk [] [(0,1)] (by repeat' (first | exact trivial | refine And.intro (Exists.intro _ (And.intro rfl ?_)) ?_ | (refine Alt.same _ ?_; first | rfl | (simp [*]; done)) | exact Alt.mapv _ _ (Nat.le_of_ble_eq_true rfl) rfl | exact Alt.grow _ _ _ _ (Nat.le_of_ble_eq_true rfl) rfl | (refine Alt.growE _ _ _ _ _ ?_ (Nat.le_of_ble_eq_true rfl) rfl; simp [*]; done) | exact Alt.ptr _ _ _ (Nat.le_of_ble_eq_true rfl) rfl | exact Alt.own _ _ _ _ _ (Nat.le_of_ble_eq_true rfl) rfl | exact Alt.sub _ _ _ _ (Nat.le_of_ble_eq_true rfl) rfl | exact Alt.yld _ _ (Nat.le_of_ble_eq_true rfl) rfl | exact Alt.sl0 _ _ | (refine Alt.sl0E _ _ _ ?_; simp [*]; done) | exact Alt.e0 _ | exact Alt.sl0v | exact Alt.own0 _ _ _ | (refine Alt.fgrow _ _ _ _ _ rfl rfl ?_; simp [*]; done) | exact Alt.fown _ _ _ _ _ _ _ _ rfl rfl rfl | exact Alt.fmap _ _ rfl rfl | (refine Alt.sl0vE ?_; simp [*] <;> rfl) | (refine Alt.ofEq rfl ?_; simp [*]; done))) (by repeat' (first | exact trivial | refine And.intro (And.intro (Nat.le_of_ble_eq_true rfl) (Or.inr (And.intro rfl (Exists.intro _ (And.intro rfl ?_))))) ?_ | refine And.intro (And.intro (Nat.le_of_ble_eq_true rfl) (Or.inl (Exists.intro _ (And.intro rfl (Nat.le_of_ble_eq_true rfl))))) ?_ | refine And.intro (And.intro (Nat.le_of_ble_eq_true rfl) (Or.inl (Exists.intro _ (And.intro (congrArg (VObj.grow _) (by simp [*])) (Nat.le_of_ble_eq_true rfl))))) ?_ | rfl | exact AltL.nil | (refine congrArg (VObj.grow _) ?_; simp [*]; done) | (refine congrArg VObj.map ?_; simp [*]; done) | (refine congrArg (VObj.arr _ _) ?_; simp [*]; done) | refine AltLp.mk rfl rfl rfl rfl rfl ?_ | refine And.intro (Exists.intro _ (And.intro rfl ?_)) ?_ | refine AltL.cons ?_ ?_ | (refine Alt.same _ ?_; first | rfl | (simp [*]; done)) | exact Alt.mapv _ _ (Nat.le_of_ble_eq_true rfl) rfl | exact Alt.grow _ _ _ _ (Nat.le_of_ble_eq_true rfl) rfl | (refine Alt.growE _ _ _ _ _ ?_ (Nat.le_of_ble_eq_true rfl) rfl; simp [*]; done) | exact Alt.ptr _ _ _ (Nat.le_of_ble_eq_true rfl) rfl | exact Alt.own _ _ _ _ _ (Nat.le_of_ble_eq_true rfl) rfl | exact Alt.sub _ _ _ _ (Nat.le_of_ble_eq_true rfl) rfl | exact Alt.yld _ _ (Nat.le_of_ble_eq_true rfl) rfl | exact Alt.sl0 _ _ | (refine Alt.sl0E _ _ _ ?_; simp [*]; done) | exact Alt.e0 _ | exact Alt.sl0v | exact Alt.own0 _ _ _ | (refine Alt.fgrow _ _ _ _ _ rfl rfl ?_; simp [*]; done) | exact Alt.fown _ _ _ _ _ _ _ _ rfl rfl rfl | exact Alt.fmap _ _ rfl rfl | (refine Alt.sl0vE ?_; simp [*] <;> rfl) | (refine Alt.ofEq rfl ?_; simp [*]; done))) rfl rfl rfl)
     ·try rw [c63]
      try simp at c63
      have hBs : B = some L := by
       cases B with
       | none => subst hL; simp at c63
       | some l => rw [← hL]; rfl
      have hS2 : bestK s m D a b (k + 1) = if cmpL Q L < 0 then some Q else some L := by rw [hS, hX2, hBs]; rfl
      refine .rn [3,4] [5,6,7] ?_
      refine .step rfl rfl (.borrow rfl rfl rfl Tryz.call160 (by decide) (by first | (simp <;> rfl) | (simp [*] <;> rfl) | (simp [*]; done)) (p160 Q L (by omega)) (by rintro _ rfl <;> first | (simp; done) | rfl) ?_)
      rintro _ rfl
      refine .rn [6,7] [] ?_
      refine .done ?_
      refine .condS rfl (fun c68 => ?_) (fun c68 => ?_)
      ·try simp at c68
       rw [if_pos c68] at hS2
       refine .rn ?_
       refine .rn ?_
       have hS3 : (bestK s m D a b (k + 1)).getD [] = Q := by rw [hS2]; rfl
       refine ⟨k + 1,zz5,zz5, ?_⟩
       simp only [hS3]
       exact (.mk [] [(0,1)] (by repeat' (first | exact trivial | refine And.intro (Exists.intro _ (And.intro rfl ?_)) ?_ | (refine Alt.same _ ?_; first | rfl | (simp [*]; done)) | exact Alt.mapv _ _ (Nat.le_of_ble_eq_true rfl) rfl | exact Alt.grow _ _ _ _ (Nat.le_of_ble_eq_true rfl) rfl | (refine Alt.growE _ _ _ _ _ ?_ (Nat.le_of_ble_eq_true rfl) rfl; simp [*]; done) | exact Alt.ptr _ _ _ (Nat.le_of_ble_eq_true rfl) rfl | exact Alt.own _ _ _ _ _ (Nat.le_of_ble_eq_true rfl) rfl | exact Alt.sub _ _ _ _ (Nat.le_of_ble_eq_true rfl) rfl | exact Alt.yld _ _ (Nat.le_of_ble_eq_true rfl) rfl | exact Alt.sl0 _ _ | (refine Alt.sl0E _ _ _ ?_; simp [*]; done) | exact Alt.e0 _ | exact Alt.sl0v | exact Alt.own0 _ _ _ | (refine Alt.fgrow _ _ _ _ _ rfl rfl ?_; simp [*]; done) | exact Alt.fown _ _ _ _ _ _ _ _ rfl rfl rfl | exact Alt.fmap _ _ rfl rfl | (refine Alt.sl0vE ?_; simp [*] <;> rfl) | (refine Alt.ofEq rfl ?_; simp [*]; done))) (by repeat' (first | exact trivial | refine And.intro (And.intro (Nat.le_of_ble_eq_true rfl) (Or.inr (And.intro rfl (Exists.intro _ (And.intro rfl ?_))))) ?_ | refine And.intro (And.intro (Nat.le_of_ble_eq_true rfl) (Or.inl (Exists.intro _ (And.intro rfl (Nat.le_of_ble_eq_true rfl))))) ?_ | refine And.intro (And.intro (Nat.le_of_ble_eq_true rfl) (Or.inl (Exists.intro _ (And.intro (congrArg (VObj.grow _) (by simp [*])) (Nat.le_of_ble_eq_true rfl))))) ?_ | rfl | exact AltL.nil | (refine congrArg (VObj.grow _) ?_; simp [*]; done) | (refine congrArg VObj.map ?_; simp [*]; done) | (refine congrArg (VObj.arr _ _) ?_; simp [*]; done) | refine AltLp.mk rfl rfl rfl rfl rfl ?_ | refine And.intro (Exists.intro _ (And.intro rfl ?_)) ?_ | refine AltL.cons ?_ ?_ | (refine Alt.same _ ?_; first | rfl | (simp [*]; done)) | exact Alt.mapv _ _ (Nat.le_of_ble_eq_true rfl) rfl | exact Alt.grow _ _ _ _ (Nat.le_of_ble_eq_true rfl) rfl | (refine Alt.growE _ _ _ _ _ ?_ (Nat.le_of_ble_eq_true rfl) rfl; simp [*]; done) | exact Alt.ptr _ _ _ (Nat.le_of_ble_eq_true rfl) rfl | exact Alt.own _ _ _ _ _ (Nat.le_of_ble_eq_true rfl) rfl | exact Alt.sub _ _ _ _ (Nat.le_of_ble_eq_true rfl) rfl | exact Alt.yld _ _ (Nat.le_of_ble_eq_true rfl) rfl | exact Alt.sl0 _ _ | (refine Alt.sl0E _ _ _ ?_; simp [*]; done) | exact Alt.e0 _ | exact Alt.sl0v | exact Alt.own0 _ _ _ | (refine Alt.fgrow _ _ _ _ _ rfl rfl ?_; simp [*]; done) | exact Alt.fown _ _ _ _ _ _ _ _ rfl rfl rfl | exact Alt.fmap _ _ rfl rfl | (refine Alt.sl0vE ?_; simp [*] <;> rfl) | (refine Alt.ofEq rfl ?_; simp [*]; done))) rfl rfl rfl)
      ·try simp at c68
       rw [if_neg (by omega)] at hS2
       refine .skip (.rn ?_)
       have hS3 : (bestK s m D a b (k + 1)).getD [] = L := by rw [hS2]; rfl
       refine ⟨k + 1,zz5,zz5, ?_⟩
       simp only [hS3]
       exact (.mk [] [] (by repeat' (first | exact trivial | refine And.intro (Exists.intro _ (And.intro rfl ?_)) ?_ | (refine Alt.same _ ?_; first | rfl | (simp [*]; done)) | exact Alt.mapv _ _ (Nat.le_of_ble_eq_true rfl) rfl | exact Alt.grow _ _ _ _ (Nat.le_of_ble_eq_true rfl) rfl | (refine Alt.growE _ _ _ _ _ ?_ (Nat.le_of_ble_eq_true rfl) rfl; simp [*]; done) | exact Alt.ptr _ _ _ (Nat.le_of_ble_eq_true rfl) rfl | exact Alt.own _ _ _ _ _ (Nat.le_of_ble_eq_true rfl) rfl | exact Alt.sub _ _ _ _ (Nat.le_of_ble_eq_true rfl) rfl | exact Alt.yld _ _ (Nat.le_of_ble_eq_true rfl) rfl | exact Alt.sl0 _ _ | (refine Alt.sl0E _ _ _ ?_; simp [*]; done) | exact Alt.e0 _ | exact Alt.sl0v | exact Alt.own0 _ _ _ | (refine Alt.fgrow _ _ _ _ _ rfl rfl ?_; simp [*]; done) | exact Alt.fown _ _ _ _ _ _ _ _ rfl rfl rfl | exact Alt.fmap _ _ rfl rfl | (refine Alt.sl0vE ?_; simp [*] <;> rfl) | (refine Alt.ofEq rfl ?_; simp [*]; done))) (by repeat' (first | exact trivial | refine And.intro (And.intro (Nat.le_of_ble_eq_true rfl) (Or.inr (And.intro rfl (Exists.intro _ (And.intro rfl ?_))))) ?_ | refine And.intro (And.intro (Nat.le_of_ble_eq_true rfl) (Or.inl (Exists.intro _ (And.intro rfl (Nat.le_of_ble_eq_true rfl))))) ?_ | refine And.intro (And.intro (Nat.le_of_ble_eq_true rfl) (Or.inl (Exists.intro _ (And.intro (congrArg (VObj.grow _) (by simp [*])) (Nat.le_of_ble_eq_true rfl))))) ?_ | rfl | exact AltL.nil | (refine congrArg (VObj.grow _) ?_; simp [*]; done) | (refine congrArg VObj.map ?_; simp [*]; done) | (refine congrArg (VObj.arr _ _) ?_; simp [*]; done) | refine AltLp.mk rfl rfl rfl rfl rfl ?_ | refine And.intro (Exists.intro _ (And.intro rfl ?_)) ?_ | refine AltL.cons ?_ ?_ | (refine Alt.same _ ?_; first | rfl | (simp [*]; done)) | exact Alt.mapv _ _ (Nat.le_of_ble_eq_true rfl) rfl | exact Alt.grow _ _ _ _ (Nat.le_of_ble_eq_true rfl) rfl | (refine Alt.growE _ _ _ _ _ ?_ (Nat.le_of_ble_eq_true rfl) rfl; simp [*]; done) | exact Alt.ptr _ _ _ (Nat.le_of_ble_eq_true rfl) rfl | exact Alt.own _ _ _ _ _ (Nat.le_of_ble_eq_true rfl) rfl | exact Alt.sub _ _ _ _ (Nat.le_of_ble_eq_true rfl) rfl | exact Alt.yld _ _ (Nat.le_of_ble_eq_true rfl) rfl | exact Alt.sl0 _ _ | (refine Alt.sl0E _ _ _ ?_; simp [*]; done) | exact Alt.e0 _ | exact Alt.sl0v | exact Alt.own0 _ _ _ | (refine Alt.fgrow _ _ _ _ _ rfl rfl ?_; simp [*]; done) | exact Alt.fown _ _ _ _ _ _ _ _ rfl rfl rfl | exact Alt.fmap _ _ rfl rfl | (refine Alt.sl0vE ?_; simp [*] <;> rfl) | (refine Alt.ofEq rfl ?_; simp [*]; done))) rfl rfl rfl)
   ·try simp at c38
    have hk2 : k = 2 := by omega
    subst hk2
    obtain ⟨B, hB⟩ : ∃ B, bestK s m D a b 2 = B := ⟨_, rfl⟩
    rw [hB] at hd hbl
    refine .exit (.seq (.rn ?_))
    refine .ret ?_
    refine ⟨_, zz4, .grow 0 (B.getD []).length true, ?_, .inr ⟨0, ?_, .inr ?_⟩⟩
    ·rw [hd]
     cases B with
     | none => simp [hB]
     | some l =>
      have := hbl l rfl
      cases l with
      | nil => simp at this
      | cons x q => simp [hB]
    ·rw [hd]
    ·rw [hd]; rfl
theorem p93 (s : List Wit) (h : checkS s = 0) : ∀ m : Nat, m ≤ 4 → ∀ D : List Int, VCall Tryz.prog 93 [.vmap (kvs (kvM (hM s D))), .int .i64 m] VHeap.empty fun v vh' => drV (drR s m D) v vh'
 | 0, _, D => p93z s h D
 | m + 1, hm, D => p93s s h m (by omega) (fun D => p93 s h m (by omega) D) D
theorem p93f (s : List Wit) (h : checkS s = 0) (m : Nat) (hm : m ≤ 4) (vh : VHeap) : VCall Tryz.prog 93 [.vmap (kvs (kvM (heldM s))), .int .i64 m] vh fun v vh' => v = .tup [.grow vh.next ((drF s m).getD []).length true, .bool (drF s m).isSome] ∧ vh' = vh.alloc (.grow 1 (((drF s m).getD []).map (.int .i64))) := by
 have := p93 s h m hm []
 rw [hM_nil] at this
 exact freshT (by rw [List.length_map]) (by decide) this (by simp [kvM, kvs, PV.isF])
theorem p23 (s : List Wit) (hl : s.length < 4294967296) : VPure Tryz.prog 23 [encS s] fun r => Soft r (.tup [ints (if checkS s = 0 then (dropR s).getD [] else []), .int .i64 (if checkS s = 0 then (if (dropR s).isSome = true then 0 else 2) else checkS s)]) := by
 refine .of_body Tryz.func23 rfl rfl ?_
 refine .seq (.rn ?_)
 refine .seq (.seq ?_)
 refine .regionL [0,1,2] rfl zz0 ?_
 refine .rn [0] [1,2] ?_
 refine .pc rfl rfl rfl rfl rfl Tryz.call35 (p35 s hl) ?_
 refine .rn [2] [] ?_
 refine .done (.seq (.rn ?_))
 refine .condS rfl (fun c11 => ?_) (fun c11 => ?_)
 ·try simp at c11
  refine .seq (.rn ?_)
  refine .ret ⟨_, _, zz4,zz4, ?_⟩
  rw [if_neg c11, if_neg c11]
  exact soft_tup (AltL.cons .sl0v (AltL.cons (.same _ rfl) AltL.nil))
 ·try simp at c11
  have hck : checkS s = 0 := c11
  refine .skip (.seq (.seq (.rn ?_)))
  refine .block ?_
  refine .loopS (fun k : Nat => ([(1, .vp (encS s).cells),(5, .int .i64 k)], VHeap.empty)) (fun k => k ≤ 4 ∧ ∀ j, j < k → drF s j = none) (fun k => 4 - k) 0 ⟨by simp, fun j hj => by omega⟩ (.mk [0] [] (by repeat' (first | exact trivial | refine And.intro (Exists.intro _ (And.intro rfl ?_)) ?_ | exact Alt.fptr 0 0 _ rfl rfl rfl (Nat.zero_le _) | (refine Alt.same _ ?_; first | rfl | (simp [*]; done)))) (by repeat' (first | exact trivial | refine And.intro (And.intro (Nat.le_of_ble_eq_true rfl) (Or.inr (And.intro rfl (Exists.intro _ (And.intro rfl ?_))))) ?_ | refine And.intro (And.intro (Nat.le_of_ble_eq_true rfl) (Or.inl (Exists.intro _ (And.intro rfl (Nat.le_of_ble_eq_true rfl))))) ?_ | refine And.intro (And.intro (Nat.le_of_ble_eq_true rfl) (Or.inl (Exists.intro _ (And.intro (congrArg (VObj.grow _) (by simp [*])) (Nat.le_of_ble_eq_true rfl))))) ?_ | rfl | exact AltL.nil | (refine congrArg (VObj.grow _) ?_; simp [*]; done) | (refine congrArg VObj.map ?_; simp [*]; done) | (refine congrArg (VObj.arr _ _) ?_; simp [*]; done) | refine AltLp.mk rfl rfl rfl rfl rfl ?_ | refine And.intro (Exists.intro _ (And.intro rfl ?_)) ?_ | refine AltL.cons ?_ ?_ | (refine Alt.same _ ?_; first | rfl | (simp [*]; done)) | exact Alt.mapv _ _ (Nat.le_of_ble_eq_true rfl) rfl | exact Alt.grow _ _ _ _ (Nat.le_of_ble_eq_true rfl) rfl | (refine Alt.growE _ _ _ _ _ ?_ (Nat.le_of_ble_eq_true rfl) rfl; simp [*]; done) | exact Alt.ptr _ _ _ (Nat.le_of_ble_eq_true rfl) rfl | exact Alt.own _ _ _ _ _ (Nat.le_of_ble_eq_true rfl) rfl | exact Alt.sub _ _ _ _ (Nat.le_of_ble_eq_true rfl) rfl | exact Alt.yld _ _ (Nat.le_of_ble_eq_true rfl) rfl | exact Alt.sl0 _ _ | (refine Alt.sl0E _ _ _ ?_; simp [*]; done) | exact Alt.e0 _ | exact Alt.sl0v | exact Alt.own0 _ _ _ | (refine Alt.fgrow _ _ _ _ _ rfl rfl ?_; simp [*]; done) | exact Alt.fown _ _ _ _ _ _ _ _ rfl rfl rfl | exact Alt.fmap _ _ rfl rfl | (refine Alt.sl0vE ?_; simp [*] <;> rfl) | (refine Alt.ofEq rfl ?_; simp [*]; done))) rfl rfl rfl) ?_
  rintro k ⟨hk, hno⟩
  simp only at hk hno ⊢
  refine .seq (.seq (.rn ?_))
  refine .condS rfl (fun c14 => ?_) (fun c14 => ?_)
  ·try simp at c14
   have hw2 := wr1 k
   have q94 := p94 s hck
   have q93 := p93f s hck k (by omega)
   obtain ⟨c, hc⟩ : ∃ c, drF s k = c := ⟨_, rfl⟩
   rw [hc] at q93
   obtain ⟨L, hL⟩ : ∃ L, c.getD [] = L := ⟨_, rfl⟩
   rw [hL] at q93
   obtain ⟨cb, hcb⟩ : ∃ cb, c.isSome = cb := ⟨_, rfl⟩
   rw [hcb] at q93
   refine .skip (.seq (.block (.seq ?_)))
   refine .regionL [0,1,2,3,4,5,6,7,8] rfl zz0 ?_
   refine .rn [0] [1,2,3,4,5,6,7,8] ?_
   refine .pc rfl rfl rfl rfl rfl Tryz.call94 (q94) ?_
   refine .rn [2] [3,4,5,6,7,8] ?_
   refine .step rfl rfl (.call rfl rfl rfl Tryz.call93 (by decide) (((q93 _)).mono ?_))
   rintro _ _ ⟨rfl, rfl⟩
   refine .rn [4,5,6,7,8] [] ?_
   refine .done (.seq (.rn ?_))
   refine .condS rfl (fun c24 => ?_) (fun c24 => ?_)
   ·try simp at c24
    have hcs : c = some L := by
     cases c with
     | none => rw [← hcb] at c24; simp at c24
     | some l => rw [← hL]; rfl
    have hd : dropR s = some L := dropR_first (by omega) (hc.trans hcs) hno
    refine .seq (.rn ?_)
    refine .ret ⟨_, _, zz4,zz4, ?_⟩
    rw [if_pos hck, if_pos hck, hd]
    exact soft_rfl rfl
   ·try simp at c24
    have hcn : drF s k = none := by
     rw [hc]
     cases c with
     | none => rfl
     | some l => rw [← hcb] at c24; simp at c24
    refine .skip (.rn ?_)
    refine ⟨k + 1, ⟨by omega, fun j hj => ?_⟩, zz5,(.mk [] [] (by repeat' (first | exact trivial | refine And.intro (Exists.intro _ (And.intro rfl ?_)) ?_ | (refine Alt.same _ ?_; first | rfl | (simp [*]; done)) | exact Alt.mapv _ _ (Nat.le_of_ble_eq_true rfl) rfl | exact Alt.grow _ _ _ _ (Nat.le_of_ble_eq_true rfl) rfl | (refine Alt.growE _ _ _ _ _ ?_ (Nat.le_of_ble_eq_true rfl) rfl; simp [*]; done) | exact Alt.ptr _ _ _ (Nat.le_of_ble_eq_true rfl) rfl | exact Alt.own _ _ _ _ _ (Nat.le_of_ble_eq_true rfl) rfl | exact Alt.sub _ _ _ _ (Nat.le_of_ble_eq_true rfl) rfl | exact Alt.yld _ _ (Nat.le_of_ble_eq_true rfl) rfl | exact Alt.sl0 _ _ | (refine Alt.sl0E _ _ _ ?_; simp [*]; done) | exact Alt.e0 _ | exact Alt.sl0v | exact Alt.own0 _ _ _ | (refine Alt.fgrow _ _ _ _ _ rfl rfl ?_; simp [*]; done) | exact Alt.fown _ _ _ _ _ _ _ _ rfl rfl rfl | exact Alt.fmap _ _ rfl rfl | (refine Alt.sl0vE ?_; simp [*] <;> rfl) | (refine Alt.ofEq rfl ?_; simp [*]; done))) (by repeat' (first | exact trivial | refine And.intro (And.intro (Nat.le_of_ble_eq_true rfl) (Or.inr (And.intro rfl (Exists.intro _ (And.intro rfl ?_))))) ?_ | refine And.intro (And.intro (Nat.le_of_ble_eq_true rfl) (Or.inl (Exists.intro _ (And.intro rfl (Nat.le_of_ble_eq_true rfl))))) ?_ | refine And.intro (And.intro (Nat.le_of_ble_eq_true rfl) (Or.inl (Exists.intro _ (And.intro (congrArg (VObj.grow _) (by simp [*])) (Nat.le_of_ble_eq_true rfl))))) ?_ | rfl | exact AltL.nil | (refine congrArg (VObj.grow _) ?_; simp [*]; done) | (refine congrArg VObj.map ?_; simp [*]; done) | (refine congrArg (VObj.arr _ _) ?_; simp [*]; done) | refine AltLp.mk rfl rfl rfl rfl rfl ?_ | refine And.intro (Exists.intro _ (And.intro rfl ?_)) ?_ | refine AltL.cons ?_ ?_ | (refine Alt.same _ ?_; first | rfl | (simp [*]; done)) | exact Alt.mapv _ _ (Nat.le_of_ble_eq_true rfl) rfl | exact Alt.grow _ _ _ _ (Nat.le_of_ble_eq_true rfl) rfl | (refine Alt.growE _ _ _ _ _ ?_ (Nat.le_of_ble_eq_true rfl) rfl; simp [*]; done) | exact Alt.ptr _ _ _ (Nat.le_of_ble_eq_true rfl) rfl | exact Alt.own _ _ _ _ _ (Nat.le_of_ble_eq_true rfl) rfl | exact Alt.sub _ _ _ _ (Nat.le_of_ble_eq_true rfl) rfl | exact Alt.yld _ _ (Nat.le_of_ble_eq_true rfl) rfl | exact Alt.sl0 _ _ | (refine Alt.sl0E _ _ _ ?_; simp [*]; done) | exact Alt.e0 _ | exact Alt.sl0v | exact Alt.own0 _ _ _ | (refine Alt.fgrow _ _ _ _ _ rfl rfl ?_; simp [*]; done) | exact Alt.fown _ _ _ _ _ _ _ _ rfl rfl rfl | exact Alt.fmap _ _ rfl rfl | (refine Alt.sl0vE ?_; simp [*] <;> rfl) | (refine Alt.ofEq rfl ?_; simp [*]; done))) rfl rfl rfl)⟩
    rcases (show j < k ∨ j = k by omega) with h | rfl
    ·exact hno j h
    ·exact hcn
  ·try simp at c14
   have hd : dropR s = none := dropR_none fun j hj => hno j (by omega)
   refine .exit (.seq (.rn ?_))
   refine .ret ⟨_, _, zz4,zz4, ?_⟩
   rw [if_pos hck, if_pos hck, hd]
   exact soft_tup (AltL.cons .sl0v (AltL.cons (.same _ rfl) AltL.nil))
theorem p23' (s : List Wit) (hl : s.length < 4294967296) : VPure Tryz.prog 23 [encS s] fun r => r = .tup [ints (if checkS s = 0 then (dropR s).getD [] else []), .int .i64 (if checkS s = 0 then (if (dropR s).isSome = true then 0 else 2) else checkS s)] := VPure.soft (p23 s hl) rfl
def bareF (w : Wit) (l : List Int) (k : Nat) : List Int := (w.slips.take k).filter fun n => !decide (n ∈ l)
theorem bareF_succ (w : Wit) (l : List Int) (k : Nat) (h : k < w.slips.length) : bareF w l (k + 1) = if w.slips[k] ∈ l then bareF w l k else bareF w l k ++ [w.slips[k]] := by
 unfold bareF
 rw [List.take_succ_eq_append_getElem h, List.filter_append]
 by_cases hm : w.slips[k] ∈ l
 ·rw [if_pos hm]; simp [hm]
 ·rw [if_neg hm]; simp [hm]
theorem p25 (s : List Wit) (l : List Int) (hl : s.length < 4294967296) (hli : ∀ w ∈ s, w.slips.length < 4294967296) (hlL : l.length < 4611686018427387904) : VPure Tryz.prog 25 [encS s, ints l] fun r => r = encS (bareS s l) := by
 refine .of_body Tryz.func25 rfl rfl ?_
 refine .seq (.rn ?_)
 refine .seq (.rn ?_)
 refine .seq (.seq (.rn ?_))
 refine .block ?_
 refine .loopS (fun k : Nat => ([(1, ints l),(2, .ptr 0 0),(4, .ptr 1 0),(5, .ptr 2 0),(6, .int .i64 k)], ⟨4,[(3, .grow 7 ((bareS (s.take k) l).map encW)),(2, .box [.grow 3 k true]),(1, .box [.sl0]),(0, .box [.vec (s.map encW)])]⟩)) (fun k => k ≤ s.length) (fun k => s.length - k) 0 (by simp) (by have : bareS (s.take 0) l = [] := rfl; exact (.mk [] [] (by repeat' (first | exact trivial | refine And.intro (Exists.intro _ (And.intro rfl ?_)) ?_ | (refine Alt.same _ ?_; first | rfl | (simp [*]; done)) | exact Alt.mapv _ _ (Nat.le_of_ble_eq_true rfl) rfl | exact Alt.grow _ _ _ _ (Nat.le_of_ble_eq_true rfl) rfl | (refine Alt.growE _ _ _ _ _ ?_ (Nat.le_of_ble_eq_true rfl) rfl; simp [*]; done) | exact Alt.ptr _ _ _ (Nat.le_of_ble_eq_true rfl) rfl | exact Alt.own _ _ _ _ _ (Nat.le_of_ble_eq_true rfl) rfl | exact Alt.sub _ _ _ _ (Nat.le_of_ble_eq_true rfl) rfl | exact Alt.yld _ _ (Nat.le_of_ble_eq_true rfl) rfl | exact Alt.sl0 _ _ | (refine Alt.sl0E _ _ _ ?_; simp [*]; done) | exact Alt.e0 _ | exact Alt.sl0v | exact Alt.own0 _ _ _ | (refine Alt.fgrow _ _ _ _ _ rfl rfl ?_; simp [*]; done) | exact Alt.fown _ _ _ _ _ _ _ _ rfl rfl rfl | exact Alt.fmap _ _ rfl rfl | (refine Alt.sl0vE ?_; simp [*] <;> rfl) | (refine Alt.ofEq rfl ?_; simp [*]; done))) (by repeat' (first | exact trivial | refine And.intro (And.intro (Nat.le_of_ble_eq_true rfl) (Or.inr (And.intro rfl (Exists.intro _ (And.intro rfl ?_))))) ?_ | refine And.intro (And.intro (Nat.le_of_ble_eq_true rfl) (Or.inl (Exists.intro _ (And.intro rfl (Nat.le_of_ble_eq_true rfl))))) ?_ | refine And.intro (And.intro (Nat.le_of_ble_eq_true rfl) (Or.inl (Exists.intro _ (And.intro (congrArg (VObj.grow _) (by simp [*])) (Nat.le_of_ble_eq_true rfl))))) ?_ | rfl | exact AltL.nil | (refine congrArg (VObj.grow _) ?_; simp [*]; done) | (refine congrArg VObj.map ?_; simp [*]; done) | (refine congrArg (VObj.arr _ _) ?_; simp [*]; done) | refine AltLp.mk rfl rfl rfl rfl rfl ?_ | refine And.intro (Exists.intro _ (And.intro rfl ?_)) ?_ | refine AltL.cons ?_ ?_ | (refine Alt.same _ ?_; first | rfl | (simp [*]; done)) | exact Alt.mapv _ _ (Nat.le_of_ble_eq_true rfl) rfl | exact Alt.grow _ _ _ _ (Nat.le_of_ble_eq_true rfl) rfl | (refine Alt.growE _ _ _ _ _ ?_ (Nat.le_of_ble_eq_true rfl) rfl; simp [*]; done) | exact Alt.ptr _ _ _ (Nat.le_of_ble_eq_true rfl) rfl | exact Alt.own _ _ _ _ _ (Nat.le_of_ble_eq_true rfl) rfl | exact Alt.sub _ _ _ _ (Nat.le_of_ble_eq_true rfl) rfl | exact Alt.yld _ _ (Nat.le_of_ble_eq_true rfl) rfl | exact Alt.sl0 _ _ | (refine Alt.sl0E _ _ _ ?_; simp [*]; done) | exact Alt.e0 _ | exact Alt.sl0v | exact Alt.own0 _ _ _ | (refine Alt.fgrow _ _ _ _ _ rfl rfl ?_; simp [*]; done) | exact Alt.fown _ _ _ _ _ _ _ _ rfl rfl rfl | exact Alt.fmap _ _ rfl rfl | (refine Alt.sl0vE ?_; simp [*] <;> rfl) | (refine Alt.ofEq rfl ?_; simp [*]; done))) rfl rfl rfl)) ?_
 rintro k hk
 simp only at hk ⊢
 have hbl : (bareS (s.take k) l).length = k := by simp [bareS]; omega
 refine .seq (.seq (.rn ?_))
 refine .condS rfl (fun c14 => ?_) (fun c14 => ?_)
 ·try simp at c14
  have hw2 := wr1 k
  have hE := encW_e s[k]
  have hkl := hli s[k] (List.getElem_mem c14)
  refine .skip (.seq (.block (.seq (.rn ?_))))
  refine .seq (.rn ?_)
  refine .seq (.seq (.rn ?_))
  refine .block ?_
  refine .loopS (fun j : Nat => ([(1, ints l),(2, .ptr 0 0),(4, .ptr 1 0),(5, .ptr 2 0),(6, .int .i64 k),(7, .ptr 4 0),(8, .grow 5 (bareF s[k] l j).length true),(9, .int .i64 j)], ⟨6,[(5, .grow 1 ((bareF s[k] l j).map (.int .i64))),(4, .box [.int .i64 s[k].id, .int .i64 s[k].known, ints s[k].slips, ints s[k].mended, ints s[k].models, .int .i64 s[k].lo, .int .i64 s[k].hi]),(3, .grow 7 ((bareS (s.take k) l).map encW)),(2, .box [.grow 3 k true]),(1, .box [.sl0]),(0, .box [.vec (s.map encW)])]⟩)) (fun j => j ≤ s[k].slips.length) (fun j => s[k].slips.length - j) 0 (by simp) (by have : bareF s[k] l 0 = [] := rfl; exact (.mk [] [] (by repeat' (first | exact trivial | refine And.intro (Exists.intro _ (And.intro rfl ?_)) ?_ | (refine Alt.same _ ?_; first | rfl | (simp [*]; done)) | exact Alt.mapv _ _ (Nat.le_of_ble_eq_true rfl) rfl | exact Alt.grow _ _ _ _ (Nat.le_of_ble_eq_true rfl) rfl | (refine Alt.growE _ _ _ _ _ ?_ (Nat.le_of_ble_eq_true rfl) rfl; simp [*]; done) | exact Alt.ptr _ _ _ (Nat.le_of_ble_eq_true rfl) rfl | exact Alt.own _ _ _ _ _ (Nat.le_of_ble_eq_true rfl) rfl | exact Alt.sub _ _ _ _ (Nat.le_of_ble_eq_true rfl) rfl | exact Alt.yld _ _ (Nat.le_of_ble_eq_true rfl) rfl | exact Alt.sl0 _ _ | (refine Alt.sl0E _ _ _ ?_; simp [*]; done) | exact Alt.e0 _ | exact Alt.sl0v | exact Alt.own0 _ _ _ | (refine Alt.fgrow _ _ _ _ _ rfl rfl ?_; simp [*]; done) | exact Alt.fown _ _ _ _ _ _ _ _ rfl rfl rfl | exact Alt.fmap _ _ rfl rfl | (refine Alt.sl0vE ?_; simp [*] <;> rfl) | (refine Alt.ofEq rfl ?_; simp [*]; done))) (by repeat' (first | exact trivial | refine And.intro (And.intro (Nat.le_of_ble_eq_true rfl) (Or.inr (And.intro rfl (Exists.intro _ (And.intro rfl ?_))))) ?_ | refine And.intro (And.intro (Nat.le_of_ble_eq_true rfl) (Or.inl (Exists.intro _ (And.intro rfl (Nat.le_of_ble_eq_true rfl))))) ?_ | refine And.intro (And.intro (Nat.le_of_ble_eq_true rfl) (Or.inl (Exists.intro _ (And.intro (congrArg (VObj.grow _) (by simp [*])) (Nat.le_of_ble_eq_true rfl))))) ?_ | rfl | exact AltL.nil | (refine congrArg (VObj.grow _) ?_; simp [*]; done) | (refine congrArg VObj.map ?_; simp [*]; done) | (refine congrArg (VObj.arr _ _) ?_; simp [*]; done) | refine AltLp.mk rfl rfl rfl rfl rfl ?_ | refine And.intro (Exists.intro _ (And.intro rfl ?_)) ?_ | refine AltL.cons ?_ ?_ | (refine Alt.same _ ?_; first | rfl | (simp [*]; done)) | exact Alt.mapv _ _ (Nat.le_of_ble_eq_true rfl) rfl | exact Alt.grow _ _ _ _ (Nat.le_of_ble_eq_true rfl) rfl | (refine Alt.growE _ _ _ _ _ ?_ (Nat.le_of_ble_eq_true rfl) rfl; simp [*]; done) | exact Alt.ptr _ _ _ (Nat.le_of_ble_eq_true rfl) rfl | exact Alt.own _ _ _ _ _ (Nat.le_of_ble_eq_true rfl) rfl | exact Alt.sub _ _ _ _ (Nat.le_of_ble_eq_true rfl) rfl | exact Alt.yld _ _ (Nat.le_of_ble_eq_true rfl) rfl | exact Alt.sl0 _ _ | (refine Alt.sl0E _ _ _ ?_; simp [*]; done) | exact Alt.e0 _ | exact Alt.sl0v | exact Alt.own0 _ _ _ | (refine Alt.fgrow _ _ _ _ _ rfl rfl ?_; simp [*]; done) | exact Alt.fown _ _ _ _ _ _ _ _ rfl rfl rfl | exact Alt.fmap _ _ rfl rfl | (refine Alt.sl0vE ?_; simp [*] <;> rfl) | (refine Alt.ofEq rfl ?_; simp [*]; done))) rfl rfl rfl)) ?_
  rintro j hj
  simp only at hj ⊢
  refine .seq (.seq (.rn ?_))
  refine .condS rfl (fun c26 => ?_) (fun c26 => ?_)
  ·try simp at c26
   have hw3 := wr1 j
   have hS := bareF_succ s[k] l j c26
   have hjl : (bareF s[k] l j).length ≤ 4294967295 := Nat.le_trans (List.length_filter_le _ _) (by rw [List.length_take]; omega)
   have hone : allOne [PV.int IntKind.i64 s[k].slips[j]] = true := rfl
   refine .skip (.seq (.block (.seq ?_)))
   refine .regionL [0,1,2,3,4,5,6,7] rfl zz0 ?_
   refine .rn [0,1,2,3,4,5] [6,7] ?_
   refine .pc rfl rfl rfl rfl rfl Tryz.call46 (p46 l s[k].slips[j] hlL) ?_
   refine .rn [7] [] ?_
   refine .done ?_
   refine .condS rfl (fun c36 => ?_) (fun c36 => ?_)
   ·try simp at c36
    rw [if_neg c36] at hS
    refine .rn ?_
    refine .rn ?_
    refine ⟨j + 1,zz5,zz5,(.mk [] [(5,7)] (by repeat' (first | exact trivial | refine And.intro (Exists.intro _ (And.intro rfl ?_)) ?_ | (refine Alt.same _ ?_; first | rfl | (simp [*]; done)) | exact Alt.mapv _ _ (Nat.le_of_ble_eq_true rfl) rfl | exact Alt.grow _ _ _ _ (Nat.le_of_ble_eq_true rfl) rfl | (refine Alt.growE _ _ _ _ _ ?_ (Nat.le_of_ble_eq_true rfl) rfl; simp [*]; done) | exact Alt.ptr _ _ _ (Nat.le_of_ble_eq_true rfl) rfl | exact Alt.own _ _ _ _ _ (Nat.le_of_ble_eq_true rfl) rfl | exact Alt.sub _ _ _ _ (Nat.le_of_ble_eq_true rfl) rfl | exact Alt.yld _ _ (Nat.le_of_ble_eq_true rfl) rfl | exact Alt.sl0 _ _ | (refine Alt.sl0E _ _ _ ?_; simp [*]; done) | exact Alt.e0 _ | exact Alt.sl0v | exact Alt.own0 _ _ _ | (refine Alt.fgrow _ _ _ _ _ rfl rfl ?_; simp [*]; done) | exact Alt.fown _ _ _ _ _ _ _ _ rfl rfl rfl | exact Alt.fmap _ _ rfl rfl | (refine Alt.sl0vE ?_; simp [*] <;> rfl) | (refine Alt.ofEq rfl ?_; simp [*]; done))) (by repeat' (first | exact trivial | refine And.intro (And.intro (Nat.le_of_ble_eq_true rfl) (Or.inr (And.intro rfl (Exists.intro _ (And.intro rfl ?_))))) ?_ | refine And.intro (And.intro (Nat.le_of_ble_eq_true rfl) (Or.inl (Exists.intro _ (And.intro rfl (Nat.le_of_ble_eq_true rfl))))) ?_ | refine And.intro (And.intro (Nat.le_of_ble_eq_true rfl) (Or.inl (Exists.intro _ (And.intro (congrArg (VObj.grow _) (by simp [*])) (Nat.le_of_ble_eq_true rfl))))) ?_ | rfl | exact AltL.nil | (refine congrArg (VObj.grow _) ?_; simp [*]; done) | (refine congrArg VObj.map ?_; simp [*]; done) | (refine congrArg (VObj.arr _ _) ?_; simp [*]; done) | refine AltLp.mk rfl rfl rfl rfl rfl ?_ | refine And.intro (Exists.intro _ (And.intro rfl ?_)) ?_ | refine AltL.cons ?_ ?_ | (refine Alt.same _ ?_; first | rfl | (simp [*]; done)) | exact Alt.mapv _ _ (Nat.le_of_ble_eq_true rfl) rfl | exact Alt.grow _ _ _ _ (Nat.le_of_ble_eq_true rfl) rfl | (refine Alt.growE _ _ _ _ _ ?_ (Nat.le_of_ble_eq_true rfl) rfl; simp [*]; done) | exact Alt.ptr _ _ _ (Nat.le_of_ble_eq_true rfl) rfl | exact Alt.own _ _ _ _ _ (Nat.le_of_ble_eq_true rfl) rfl | exact Alt.sub _ _ _ _ (Nat.le_of_ble_eq_true rfl) rfl | exact Alt.yld _ _ (Nat.le_of_ble_eq_true rfl) rfl | exact Alt.sl0 _ _ | (refine Alt.sl0E _ _ _ ?_; simp [*]; done) | exact Alt.e0 _ | exact Alt.sl0v | exact Alt.own0 _ _ _ | (refine Alt.fgrow _ _ _ _ _ rfl rfl ?_; simp [*]; done) | exact Alt.fown _ _ _ _ _ _ _ _ rfl rfl rfl | exact Alt.fmap _ _ rfl rfl | (refine Alt.sl0vE ?_; simp [*] <;> rfl) | (refine Alt.ofEq rfl ?_; simp [*]; done))) rfl rfl rfl)⟩
   ·try simp at c36
    rw [if_pos c36] at hS
    refine .skip (.rn ?_)
    refine ⟨j + 1,zz5,zz5,(.mk [] [] (by repeat' (first | exact trivial | refine And.intro (Exists.intro _ (And.intro rfl ?_)) ?_ | (refine Alt.same _ ?_; first | rfl | (simp [*]; done)) | exact Alt.mapv _ _ (Nat.le_of_ble_eq_true rfl) rfl | exact Alt.grow _ _ _ _ (Nat.le_of_ble_eq_true rfl) rfl | (refine Alt.growE _ _ _ _ _ ?_ (Nat.le_of_ble_eq_true rfl) rfl; simp [*]; done) | exact Alt.ptr _ _ _ (Nat.le_of_ble_eq_true rfl) rfl | exact Alt.own _ _ _ _ _ (Nat.le_of_ble_eq_true rfl) rfl | exact Alt.sub _ _ _ _ (Nat.le_of_ble_eq_true rfl) rfl | exact Alt.yld _ _ (Nat.le_of_ble_eq_true rfl) rfl | exact Alt.sl0 _ _ | (refine Alt.sl0E _ _ _ ?_; simp [*]; done) | exact Alt.e0 _ | exact Alt.sl0v | exact Alt.own0 _ _ _ | (refine Alt.fgrow _ _ _ _ _ rfl rfl ?_; simp [*]; done) | exact Alt.fown _ _ _ _ _ _ _ _ rfl rfl rfl | exact Alt.fmap _ _ rfl rfl | (refine Alt.sl0vE ?_; simp [*] <;> rfl) | (refine Alt.ofEq rfl ?_; simp [*]; done))) (by repeat' (first | exact trivial | refine And.intro (And.intro (Nat.le_of_ble_eq_true rfl) (Or.inr (And.intro rfl (Exists.intro _ (And.intro rfl ?_))))) ?_ | refine And.intro (And.intro (Nat.le_of_ble_eq_true rfl) (Or.inl (Exists.intro _ (And.intro rfl (Nat.le_of_ble_eq_true rfl))))) ?_ | refine And.intro (And.intro (Nat.le_of_ble_eq_true rfl) (Or.inl (Exists.intro _ (And.intro (congrArg (VObj.grow _) (by simp [*])) (Nat.le_of_ble_eq_true rfl))))) ?_ | rfl | exact AltL.nil | (refine congrArg (VObj.grow _) ?_; simp [*]; done) | (refine congrArg VObj.map ?_; simp [*]; done) | (refine congrArg (VObj.arr _ _) ?_; simp [*]; done) | refine AltLp.mk rfl rfl rfl rfl rfl ?_ | refine And.intro (Exists.intro _ (And.intro rfl ?_)) ?_ | refine AltL.cons ?_ ?_ | (refine Alt.same _ ?_; first | rfl | (simp [*]; done)) | exact Alt.mapv _ _ (Nat.le_of_ble_eq_true rfl) rfl | exact Alt.grow _ _ _ _ (Nat.le_of_ble_eq_true rfl) rfl | (refine Alt.growE _ _ _ _ _ ?_ (Nat.le_of_ble_eq_true rfl) rfl; simp [*]; done) | exact Alt.ptr _ _ _ (Nat.le_of_ble_eq_true rfl) rfl | exact Alt.own _ _ _ _ _ (Nat.le_of_ble_eq_true rfl) rfl | exact Alt.sub _ _ _ _ (Nat.le_of_ble_eq_true rfl) rfl | exact Alt.yld _ _ (Nat.le_of_ble_eq_true rfl) rfl | exact Alt.sl0 _ _ | (refine Alt.sl0E _ _ _ ?_; simp [*]; done) | exact Alt.e0 _ | exact Alt.sl0v | exact Alt.own0 _ _ _ | (refine Alt.fgrow _ _ _ _ _ rfl rfl ?_; simp [*]; done) | exact Alt.fown _ _ _ _ _ _ _ _ rfl rfl rfl | exact Alt.fmap _ _ rfl rfl | (refine Alt.sl0vE ?_; simp [*] <;> rfl) | (refine Alt.ofEq rfl ?_; simp [*]; done))) rfl rfl rfl)⟩
  ·try simp at c26
   have hj2 : j = s[k].slips.length := by omega
   subst hj2
   have hF : bareF s[k] l s[k].slips.length = (bareW l s[k]).slips := by unfold bareF; rw [List.take_length]; rfl
   have hE2 : encW (bareW l s[k]) = .agg [.int .i64 s[k].id, .int .i64 s[k].known, ints (bareW l s[k]).slips, ints s[k].mended, ints s[k].models, .int .i64 s[k].lo, .int .i64 s[k].hi] := rfl
   have hT : bareS (s.take (k + 1)) l = bareS (s.take k) l ++ [bareW l s[k]] := take_succ_map (bareW l) s k c14
   rw [hF]
   obtain ⟨F, hFe⟩ : ∃ F, (bareW l s[k]).slips = F := ⟨_, rfl⟩
   rw [hFe] at hE2 ⊢
   obtain ⟨W, hW⟩ : ∃ W, bareW l s[k] = W := ⟨_, rfl⟩
   rw [hW] at hE2 hT
   have hb : k ≤ 4294967295 := by omega
   refine .rec (vts2 := [(1, ints l),(2, .ptr 0 0),(4, .ptr 1 0),(5, .ptr 2 0),(6, .int .i64 k),(7, .ptr 4 0),(8, ints F)]) (vh2 := ⟨5,[(4, .box [.int .i64 s[k].id, .int .i64 s[k].known, ints s[k].slips, ints s[k].mended, ints s[k].models, .int .i64 s[k].lo, .int .i64 s[k].hi]),(3, .grow 7 ((bareS (s.take k) l).map encW)),(2, .box [.grow 3 k true]),(1, .box [.sl0]),(0, .box [.vec (s.map encW)])]⟩) (.mk [5] [] (by repeat' (first | exact trivial | refine And.intro (Exists.intro _ (And.intro rfl ?_)) ?_ | (refine Alt.same _ ?_; first | rfl | (simp [*]; done)) | exact Alt.mapv _ _ (Nat.le_of_ble_eq_true rfl) rfl | exact Alt.grow _ _ _ _ (Nat.le_of_ble_eq_true rfl) rfl | (refine Alt.growE _ _ _ _ _ ?_ (Nat.le_of_ble_eq_true rfl) rfl; simp [*]; done) | exact Alt.ptr _ _ _ (Nat.le_of_ble_eq_true rfl) rfl | exact Alt.own _ _ _ _ _ (Nat.le_of_ble_eq_true rfl) rfl | exact Alt.sub _ _ _ _ (Nat.le_of_ble_eq_true rfl) rfl | exact Alt.yld _ _ (Nat.le_of_ble_eq_true rfl) rfl | exact Alt.sl0 _ _ | (refine Alt.sl0E _ _ _ ?_; simp [*]; done) | exact Alt.e0 _ | exact Alt.sl0v | exact Alt.own0 _ _ _ | (refine Alt.fgrow _ _ _ _ _ rfl rfl ?_; simp [*]; done) | exact Alt.fown _ _ _ _ _ _ _ _ rfl rfl rfl | exact Alt.fmap _ _ rfl rfl | (refine Alt.sl0vE ?_; simp [*] <;> rfl) | (refine Alt.ofEq rfl ?_; simp [*]; done))) (by repeat' (first | exact trivial | refine And.intro (And.intro (Nat.le_of_ble_eq_true rfl) (Or.inr (And.intro rfl (Exists.intro _ (And.intro rfl ?_))))) ?_ | refine And.intro (And.intro (Nat.le_of_ble_eq_true rfl) (Or.inl (Exists.intro _ (And.intro rfl (Nat.le_of_ble_eq_true rfl))))) ?_ | refine And.intro (And.intro (Nat.le_of_ble_eq_true rfl) (Or.inl (Exists.intro _ (And.intro (congrArg (VObj.grow _) (by simp [*])) (Nat.le_of_ble_eq_true rfl))))) ?_ | rfl | exact AltL.nil | (refine congrArg (VObj.grow _) ?_; simp [*]; done) | (refine congrArg VObj.map ?_; simp [*]; done) | (refine congrArg (VObj.arr _ _) ?_; simp [*]; done) | refine AltLp.mk rfl rfl rfl rfl rfl ?_ | refine And.intro (Exists.intro _ (And.intro rfl ?_)) ?_ | refine AltL.cons ?_ ?_ | (refine Alt.same _ ?_; first | rfl | (simp [*]; done)) | exact Alt.mapv _ _ (Nat.le_of_ble_eq_true rfl) rfl | exact Alt.grow _ _ _ _ (Nat.le_of_ble_eq_true rfl) rfl | (refine Alt.growE _ _ _ _ _ ?_ (Nat.le_of_ble_eq_true rfl) rfl; simp [*]; done) | exact Alt.ptr _ _ _ (Nat.le_of_ble_eq_true rfl) rfl | exact Alt.own _ _ _ _ _ (Nat.le_of_ble_eq_true rfl) rfl | exact Alt.sub _ _ _ _ (Nat.le_of_ble_eq_true rfl) rfl | exact Alt.yld _ _ (Nat.le_of_ble_eq_true rfl) rfl | exact Alt.sl0 _ _ | (refine Alt.sl0E _ _ _ ?_; simp [*]; done) | exact Alt.e0 _ | exact Alt.sl0v | exact Alt.own0 _ _ _ | (refine Alt.fgrow _ _ _ _ _ rfl rfl ?_; simp [*]; done) | exact Alt.fown _ _ _ _ _ _ _ _ rfl rfl rfl | exact Alt.fmap _ _ rfl rfl | (refine Alt.sl0vE ?_; simp [*] <;> rfl) | (refine Alt.ofEq rfl ?_; simp [*]; done))) rfl rfl rfl) ?_
   refine .exit (.seq (.rn ?_))
   refine .rn ?_
   refine .rn ?_
   refine ⟨k + 1,zz5,zz5,(.mk [] [(3,6)] (by repeat' (first | exact trivial | refine And.intro (Exists.intro _ (And.intro rfl ?_)) ?_ | (refine Alt.same _ ?_; first | rfl | (simp [*]; done)) | exact Alt.mapv _ _ (Nat.le_of_ble_eq_true rfl) rfl | exact Alt.grow _ _ _ _ (Nat.le_of_ble_eq_true rfl) rfl | (refine Alt.growE _ _ _ _ _ ?_ (Nat.le_of_ble_eq_true rfl) rfl; simp [*]; done) | exact Alt.ptr _ _ _ (Nat.le_of_ble_eq_true rfl) rfl | exact Alt.own _ _ _ _ _ (Nat.le_of_ble_eq_true rfl) rfl | exact Alt.sub _ _ _ _ (Nat.le_of_ble_eq_true rfl) rfl | exact Alt.yld _ _ (Nat.le_of_ble_eq_true rfl) rfl | exact Alt.sl0 _ _ | (refine Alt.sl0E _ _ _ ?_; simp [*]; done) | exact Alt.e0 _ | exact Alt.sl0v | exact Alt.own0 _ _ _ | (refine Alt.fgrow _ _ _ _ _ rfl rfl ?_; simp [*]; done) | exact Alt.fown _ _ _ _ _ _ _ _ rfl rfl rfl | exact Alt.fmap _ _ rfl rfl | (refine Alt.sl0vE ?_; simp [*] <;> rfl) | (refine Alt.ofEq rfl ?_; simp [*]; done))) (by repeat' (first | exact trivial | refine And.intro (And.intro (Nat.le_of_ble_eq_true rfl) (Or.inr (And.intro rfl (Exists.intro _ (And.intro rfl ?_))))) ?_ | refine And.intro (And.intro (Nat.le_of_ble_eq_true rfl) (Or.inl (Exists.intro _ (And.intro rfl (Nat.le_of_ble_eq_true rfl))))) ?_ | refine And.intro (And.intro (Nat.le_of_ble_eq_true rfl) (Or.inl (Exists.intro _ (And.intro (congrArg (VObj.grow _) (by simp [*])) (Nat.le_of_ble_eq_true rfl))))) ?_ | rfl | exact AltL.nil | (refine congrArg (VObj.grow _) ?_; simp [*]; done) | (refine congrArg VObj.map ?_; simp [*]; done) | (refine congrArg (VObj.arr _ _) ?_; simp [*]; done) | refine AltLp.mk rfl rfl rfl rfl rfl ?_ | refine And.intro (Exists.intro _ (And.intro rfl ?_)) ?_ | refine AltL.cons ?_ ?_ | (refine Alt.same _ ?_; first | rfl | (simp [*]; done)) | exact Alt.mapv _ _ (Nat.le_of_ble_eq_true rfl) rfl | exact Alt.grow _ _ _ _ (Nat.le_of_ble_eq_true rfl) rfl | (refine Alt.growE _ _ _ _ _ ?_ (Nat.le_of_ble_eq_true rfl) rfl; simp [*]; done) | exact Alt.ptr _ _ _ (Nat.le_of_ble_eq_true rfl) rfl | exact Alt.own _ _ _ _ _ (Nat.le_of_ble_eq_true rfl) rfl | exact Alt.sub _ _ _ _ (Nat.le_of_ble_eq_true rfl) rfl | exact Alt.yld _ _ (Nat.le_of_ble_eq_true rfl) rfl | exact Alt.sl0 _ _ | (refine Alt.sl0E _ _ _ ?_; simp [*]; done) | exact Alt.e0 _ | exact Alt.sl0v | exact Alt.own0 _ _ _ | (refine Alt.fgrow _ _ _ _ _ rfl rfl ?_; simp [*]; done) | exact Alt.fown _ _ _ _ _ _ _ _ rfl rfl rfl | exact Alt.fmap _ _ rfl rfl | (refine Alt.sl0vE ?_; simp [*] <;> rfl) | (refine Alt.ofEq rfl ?_; simp [*]; done))) rfl rfl rfl)⟩
 ·try simp at c14
  have hk2 : k = s.length := by omega
  subst hk2
  rw [List.take_length] at hbl ⊢
  refine .exit (.seq (.rn ?_))
  refine .ret ?_
  refine ⟨_, _, zz4,(by simp [hbl] <;> rfl), ?_⟩
  simp [encS]
end Go.Am.Ds
end
section
namespace Go.Am.Ds
open Go Go.Am Go.Proofs
attribute [local simp] vrun vwanted vyielded vop veval vevals vparts vO vbuiltin vlen vappend velems vcopy vmakeSlice vbuildSlice valloc vbox vmakeMap vload vpartT vpart vstore vfieldAddr vfield vindexAddr vindex vextract vslice vsliceZ vbounds vbnd zeroO vidx vlookup vmget vmapUpdate vdelete vnilq vnilp vnils vbin vsc vsc1 vscs vscl abinOp aint ashift aunOp aconvert amaxs amax2 pvcV pvc pvcs tput tget vargs VHeap.get VHeap.alloc VHeap.put VHeap.drop VHeap.empty vlook vput vdrop psplice pfill preps chunk List.range List.range.loop vresults vresult vresultV frz frzL PV.isF PV.allF PV.scal PV.allS retP subT allFT PV.one PV.ids PV.idsL dropL beq_eq ble_dec blt_dec
attribute [local simp] zW tup2
theorem p24x (s : List Wit) (h : checkS s = 0) : VPure Tryz.prog 24 [encS s] fun r => ∃ x1 x2 x3 x4 x5 : Int, r = .tup [.agg [.int .i64 x1, .int .i64 x2, .int .i64 x3, .int .i64 x4, .int .i64 x5], .bool (crR s).isSome, .int .i64 0] := by
 have hp := p24 s (by have := (checkS_ok h).1; omega)
 have hx : ∃ x1 x2 x3 x4 x5 : Int, crT s = .tup [.agg [.int .i64 x1, .int .i64 x2, .int .i64 x3, .int .i64 x4, .int .i64 x5], .bool (crR s).isSome, .int .i64 0] := by
  unfold crT
  rw [if_pos h]
  cases hc : crR s with
  | none => exact ⟨_, _, _, _, _, rfl⟩
  | some p => exact ⟨_, _, _, _, _, rfl⟩
 obtain ⟨x1, x2, x3, x4, x5, hx⟩ := hx
 rw [hx] at hp
 exact hp.mono fun r _ hr => ⟨hr.1, x1, x2, x3, x4, x5, hr.2⟩
end Go.Am.Ds
end
section
namespace Go.Am.Ds
open Go Go.Am Go.Proofs
attribute [local simp] vrun vwanted vyielded vop vopA vputAll VHeap.back hidI hidF backL bm Nat.testBit_eq_decide_div_mod_eq veval vevals vparts vO vbuiltin vlen vappend velems vcopy vmakeSlice vbuildSlice valloc vbox vmakeMap vload vpartT vpart vstore vfieldAddr vfield vindexAddr vindex vextract vslice vsliceZ vbounds vbnd zeroO vidx vlookup vmget vmapUpdate vdelete vclear vnilq vnilp vnils vbin vsc vsc1 vscs vscl abinOp aint ashift aunOp aconvert amaxs amax2 pvcV pvc pvcs tput tget vargs VHeap.get VHeap.alloc VHeap.put VHeap.drop VHeap.empty vlook vput vdrop psplice pfill preps chunk List.range List.range.loop vresults vresult vresultV frz frzL PV.isF PV.allF PV.scal PV.allS retP subT allFT PV.one PV.ids PV.idsL dropL beq_eq ble_dec blt_dec
attribute [local simp] zW tup2
theorem drops_less {d : List Int} {k : Nat} (h : k < d.length) : (d.take k ++ d.drop (k + 1)).length < d.length := by
 rw [List.length_append, List.length_take, List.length_drop]; omega
theorem p3 (s : List Wit) (l : List Int) (hl : s.length < 4611686018427387904) (hlL : l.length < 4611686018427387904) (sanB : Bool) (hsan : VPure Tryz.prog 22 [] fun r => r = .bool sanB) (hsb : sanB = true) : VPure Tryz.prog 3 [encS s, ints l] fun r => r = .bool true := by
 refine .of_body Tryz.func3 rfl rfl ?_
 refine .seq (.rn ?_)
 refine .seq (.seq ?_)
 refine .regionL [0,1,2,3,4,5,6,7] rfl zz0 ?_
 refine .rn [0] [1,2,3,4,5,6,7] ?_
 refine .pc rfl rfl rfl rfl rfl Tryz.call21 (p21 s hl) ?_
 refine .rn [2,3] [4,5,6,7] ?_
 refine .split (t := 24) rfl (fun c24 => ?_) (fun c24 => ?_)
 ·first | cases c24 | try rw [c24]
  try simp at c24
  refine .rn [4,5,6,7] [] ?_
  refine .done (.condT rfl (.seq ?_))
  refine .regionL [0,1] rfl zz0 ?_
  refine .pc rfl rfl rfl rfl rfl Tryz.call22 (hsan) ?_
  refine .rn [1] [] ?_
  refine .done (.ret ⟨_, _, zz4,zz4, ?_⟩)
  first | rfl | (simp [*]; done) | (simp_all; done)
 ·first | cases c24 | try rw [c24]
  try simp at c24
  refine .rn [4,5,6,7] [] ?_
  refine .done ?_
  refine .condS rfl (fun c28 => ?_) (fun c28 => ?_)
  ·try simp at c28
   refine .seq ?_
   refine .regionL [0,1] rfl zz0 ?_
   refine .pc rfl rfl rfl rfl rfl Tryz.call22 (hsan) ?_
   refine .rn [1] [] ?_
   refine .done (.ret ⟨_, _, zz4,zz4, ?_⟩)
   first | rfl | (simp [*]; done) | (simp_all; done)
  ·try simp at c28
   have hl2 := smallS_len c24
   have hl3 : l.length ≤ 3 := by omega
   have hsel : checkS s ≠ 0 ∨ (checkS s = 0 ∧ dropR s = none) ∨ ∃ d, checkS s = 0 ∧ dropR s = some d := by
    by_cases h : checkS s = 0
    ·cases hd : dropR s with
     | none => exact .inr (.inl ⟨h, rfl⟩)
     | some d => exact .inr (.inr ⟨d, h, rfl⟩)
    ·exact .inl h
   have q23 := p23' s (by omega)
   rcases hsel with hck | ⟨hck, hd⟩ | ⟨d, hck, hd⟩
   ·skip
    refine .skip (.seq ?_)
    refine .regionL [0,1,2,3,4,5,6] rfl zz0 ?_
    refine .rn [0] [1,2,3,4,5,6] ?_
    refine .pc rfl rfl rfl rfl rfl Tryz.call23 (q23) ?_
    refine .rn [2,3,4,5,6] [] ?_
    refine .done (.seq ?_)
    refine .regionL [0,1,2,3,4,5,6,7,8,9] rfl zz0 ?_
    refine .rn [0] [1,2,3,4,5,6,7,8,9] ?_
    refine .pc rfl rfl rfl rfl rfl Tryz.call24 ((by have := p24 s (by omega); rw [crT, if_neg hck, zX] at this; exact this)) ?_
    refine .rn [2,3,4,5,6,7,8,9] [] ?_
    refine .done (.seq (.seq (.rn ?_)))
    refine .condS rfl (fun c42 => ?_) (fun c42 => ?_)
    ·try simp at c42
     refine .seq ?_
     refine .regionL [0,1,2,3,4,5,6] rfl zz0 ?_
     refine .pc rfl rfl rfl rfl rfl Tryz.call22 (hsan) ?_
     refine .rn [1] [2,3,4,5,6] ?_
     refine .split (t := 44) rfl (fun c44 => ?_) (fun c44 => ?_)
     ·first | cases c44 | try rw [c44]
      try simp at c44
      refine .rn [2,3,4,5,6] [] ?_
      refine .done (.ret ⟨_, _, zz4,zz4, ?_⟩)
      first | rfl | (simp [*]; done) | (simp_all; done)
     ·first | cases c44 | try rw [c44]
      try simp at c44
    ·try simp at c42
     exact absurd c42 hck
   ·skip
    refine .skip (.seq ?_)
    refine .regionL [0,1,2,3,4,5,6] rfl zz0 ?_
    refine .rn [0] [1,2,3,4,5,6] ?_
    refine .pc rfl rfl rfl rfl rfl Tryz.call23 (q23) ?_
    refine .rn [2,3,4,5,6] [] ?_
    refine .done (.seq ?_)
    refine .regionL [0,1,2,3,4,5,6,7,8,9] rfl zz0 ?_
    refine .rn [0] [1,2,3,4,5,6,7,8,9] ?_
    refine .step rfl rfl (.pure rfl rfl rfl Tryz.call24 (by decide) (p24x s hck) (by first | rfl | simp [*]) ?_)
    rintro _ ⟨x1, x2, x3, x4, x5, rfl⟩
    refine .rn [2,3,4,5,6,7,8,9] [] ?_
    refine .done (.seq (.seq (.rn ?_)))
    refine .condS rfl (fun c42 => ?_) (fun c42 => ?_)
    ·try simp at c42
    ·try simp at c42
     obtain ⟨e1, e2⟩ := drops_none hck hd l hl3
     have hli : ∀ w ∈ s, w.slips.length < 4294967296 := fun w hw => (checkS_lens hck w hw).1
     have q25 := p25 s l (by omega) hli hlL
     have qb := p24x (bareS s l) (bare_check hck l)
     rw [e2] at qb
     obtain ⟨S2, hS2⟩ : ∃ S2, bareS s l = S2 := ⟨_, rfl⟩
     rw [hS2] at q25 qb
     refine .skip (.seq ?_)
     refine .regionL [0,1,2,3,4,5,6,7,8,9,10,11] rfl zz0 ?_
     refine .rn [0,1] [2,3,4,5,6,7,8,9,10,11] ?_
     refine .pc rfl rfl rfl rfl rfl Tryz.call25 (q25) ?_
     refine .step rfl rfl (.pure rfl rfl rfl Tryz.call24 (by decide) (qb) (by first | rfl | simp [*]) ?_)
     rintro _ ⟨y1, y2, y3, y4, y5, rfl⟩
     refine .rn [4,5,6,7,8,9,10,11] [] ?_
     refine .done (.seq (.seq ?_))
     refine .regionL [0,1,2,3,4,5,6,7,8,9] rfl zz0 ?_
     refine .rn [0,1,2] [3,4,5,6,7,8,9] ?_
     refine .split (t := 59) rfl (fun c59 => ?_) (fun c59 => ?_)
     ·first | cases c59 | try rw [c59]
      try simp at c59
     ·first | cases c59 | try rw [c59]
      try simp at c59
      refine .rn [3,4,5] [6,7,8,9] ?_
      refine .split (t := 62) rfl (fun c62 => ?_) (fun c62 => ?_)
      ·first | cases c62 | try rw [c62]
       try simp at c62
       refine .rn [6,7,8,9] [] ?_
       refine .done ?_
       refine .condS rfl (fun c66 => ?_) (fun c66 => ?_)
       ·try simp at c66
       ·try simp at c66
        refine .skip (.seq (.seq (.rn ?_)))
        refine .condS rfl (fun c68 => ?_) (fun c68 => ?_)
        ·try simp at c68
         refine .seq ?_
         refine .regionL [0,1,2,3,4,5,6,7] rfl zz0 ?_
         refine .pc rfl rfl rfl rfl rfl Tryz.call22 (hsan) ?_
         refine .rn [1] [2,3,4,5,6,7] ?_
         refine .split (t := 70) rfl (fun c70 => ?_) (fun c70 => ?_)
         ·first | cases c70 | try rw [c70]
          try simp at c70
          refine .rn [2,3,4] [5,6,7] ?_
          refine .split (t := 73) rfl (fun c73 => ?_) (fun c73 => ?_)
          ·first | cases c73 | try rw [c73]
           try simp at c73
           refine .rn [5,6,7] [] ?_
           refine .done (.ret ⟨_, _, zz4,zz4, ?_⟩)
           first | rfl | (simp [*]; done) | (simp_all; done)
          ·first | cases c73 | try rw [c73]
           try simp at c73
         ·first | cases c70 | try rw [c70]
          try simp at c70
        ·try simp at c68
      ·first | cases c62 | try rw [c62]
       try simp at c62
   ·skip
    refine .skip (.seq ?_)
    refine .regionL [0,1,2,3,4,5,6] rfl zz0 ?_
    refine .rn [0] [1,2,3,4,5,6] ?_
    refine .pc rfl rfl rfl rfl rfl Tryz.call23 (q23) ?_
    refine .rn [2,3,4,5,6] [] ?_
    refine .done (.seq ?_)
    refine .regionL [0,1,2,3,4,5,6,7,8,9] rfl zz0 ?_
    refine .rn [0] [1,2,3,4,5,6,7,8,9] ?_
    refine .step rfl rfl (.pure rfl rfl rfl Tryz.call24 (by decide) (p24x s hck) (by first | rfl | simp [*]) ?_)
    rintro _ ⟨x1, x2, x3, x4, x5, rfl⟩
    refine .rn [2,3,4,5,6,7,8,9] [] ?_
    refine .done (.seq (.seq (.rn ?_)))
    refine .condS rfl (fun c42 => ?_) (fun c42 => ?_)
    ·try simp at c42
    ·try simp at c42
     obtain ⟨d3, e1, e2, e3⟩ := drops_some hck hd
     have hli : ∀ w ∈ s, w.slips.length < 4294967296 := fun w hw => (checkS_lens hck w hw).1
     have q25 := p25 s l (by omega) hli hlL
     have qb := p24x (bareS s l) (bare_check hck l)
     have q25d := p25 s d (by omega) hli (by omega)
     have qd := p24x (bareS s d) (bare_check hck d)
     rw [e1] at qd
     have e4 := e3 l
     have q25x := fun x => p25 s x (by omega) hli
     have qx := fun x => p24x (bareS s x) (bare_check hck x)
     obtain ⟨ol, hol⟩ : ∃ x, (crR (bareS s l)).isSome = x := ⟨_, rfl⟩
     rw [hol] at qb e4
     obtain ⟨S2, hS2⟩ : ∃ S2, bareS s l = S2 := ⟨_, rfl⟩
     rw [hS2] at q25 qb
     obtain ⟨S3, hS3⟩ : ∃ S3, bareS s d = S3 := ⟨_, rfl⟩
     rw [hS3] at q25d qd
     obtain ⟨bs, hbs⟩ : ∃ x, (crR s).isSome = x := ⟨_, rfl⟩
     rw [hbs] at e2
     have hdb : (if d = [] then false else true) = bs := by
      rw [e2]
      cases d <;> simp
     refine .skip (.seq ?_)
     refine .regionL [0,1,2,3,4,5,6,7,8,9,10,11] rfl zz0 ?_
     refine .rn [0,1] [2,3,4,5,6,7,8,9,10,11] ?_
     refine .pc rfl rfl rfl rfl rfl Tryz.call25 (q25) ?_
     refine .step rfl rfl (.pure rfl rfl rfl Tryz.call24 (by decide) (qb) (by first | rfl | simp [*]) ?_)
     rintro _ ⟨y1, y2, y3, y4, y5, rfl⟩
     refine .rn [4,5,6,7,8,9,10,11] [] ?_
     refine .done (.seq (.seq ?_))
     refine .regionL [0,1,2,3,4,5,6,7,8,9] rfl zz0 ?_
     refine .rn [0,1,2] [3,4,5,6,7,8,9] ?_
     refine .split (t := 59) rfl (fun c59 => ?_) (fun c59 => ?_)
     ·first | cases c59 | try rw [c59]
      try simp at c59
     ·first | cases c59 | try rw [c59]
      try simp at c59
      refine .rn [3,4,5] [6,7,8,9] ?_
      refine .split (t := 62) rfl (fun c62 => ?_) (fun c62 => ?_)
      ·first | cases c62 | try rw [c62]
       try simp at c62
      ·first | cases c62 | try rw [c62]
       try simp at c62
       refine .rn [6,7,8,9] [] ?_
       refine .done (.condF rfl (.skip (.seq (.seq (.rn ?_)))))
       refine .condS rfl (fun c68 => ?_) (fun c68 => ?_)
       ·try simp at c68
       ·try simp at c68
        refine .skip (.seq ?_)
        refine .regionL [0,1,2,3,4,5,6,7,8,9,10,11] rfl zz0 ?_
        refine .rn [0,1] [2,3,4,5,6,7,8,9,10,11] ?_
        refine .pc rfl rfl rfl rfl rfl Tryz.call25 (q25d) ?_
        refine .step rfl rfl (.pure rfl rfl rfl Tryz.call24 (by decide) (qd) (by first | rfl | simp [*]) ?_)
        rintro _ ⟨z1, z2, z3, z4, z5, rfl⟩
        refine .rn [4,5,6,7,8,9,10,11] [] ?_
        refine .done (.seq (.seq ?_))
        refine .regionL [0,1,2,3,4,5,6,7,8,9,10,11,12,13,14,15,16,17,18,19,20,21,22] rfl zz0 ?_
        refine .rn [0,1,2] [3,4,5,6,7,8,9,10,11,12,13,14,15,16,17,18,19,20,21,22] ?_
        refine .split (t := 86) rfl (fun c86 => ?_) (fun c86 => ?_)
        ·first | cases c86 | try rw [c86]
         try simp at c86
        ·first | cases c86 | try rw [c86]
         try simp at c86
         refine .rn [3,4,5] [6,7,8,9,10,11,12,13,14,15,16,17,18,19,20,21,22] ?_
         refine .split (t := 89) rfl (fun c89 => ?_) (fun c89 => ?_)
         ·first | cases c89 | try rw [c89]
          try simp at c89
         ·first | cases c89 | try rw [c89]
          try simp at c89
          refine .rn [6,7,8,9,10,11,12] [13,14,15,16,17,18,19,20,21,22] ?_
          refine .split (t := 96) rfl (fun c96 => ?_) (fun c96 => ?_)
          ·first | cases c96 | try rw [c96]
           try simp at c96
          ·first | cases c96 | try rw [c96]
           try simp at c96
           refine .rn [13,14,15,16,17,18] [19,20,21,22] ?_
           refine .split (t := 102) rfl (fun c102 => ?_) (fun c102 => ?_)
           ·first | cases c102 | try rw [c102]
            try simp at c102
            refine .rn [19,20,21,22] [] ?_
            refine .done ?_
            refine .condS rfl (fun c106 => ?_) (fun c106 => ?_)
            ·try simp at c106
            ·try simp at c106
             refine .skip (.seq (.seq (.rn ?_)))
             refine .block ?_
             refine .loopS (fun k : Nat => ([(2, .ptr 0 0),(5, ints d),(16, .int .i64 k)], ⟨1,[(0, .box [.vec (s.map encW)])]⟩)) (fun k => k ≤ d.length) (fun k => d.length - k) 0 (by simp) (.mk [] [] (by repeat' (first | exact trivial | refine And.intro (Exists.intro _ (And.intro rfl ?_)) ?_ | (refine Alt.same _ ?_; first | rfl | (simp [*]; done)) | exact Alt.mapv _ _ (Nat.le_of_ble_eq_true rfl) rfl | exact Alt.grow _ _ _ _ (Nat.le_of_ble_eq_true rfl) rfl | (refine Alt.growE _ _ _ _ _ ?_ (Nat.le_of_ble_eq_true rfl) rfl; simp [*]; done) | exact Alt.ptr _ _ _ (Nat.le_of_ble_eq_true rfl) rfl | exact Alt.own _ _ _ _ _ (Nat.le_of_ble_eq_true rfl) rfl | exact Alt.sub _ _ _ _ (Nat.le_of_ble_eq_true rfl) rfl | exact Alt.yld _ _ (Nat.le_of_ble_eq_true rfl) rfl | exact Alt.sl0 _ _ | (refine Alt.sl0E _ _ _ ?_; simp [*]; done) | exact Alt.e0 _ | exact Alt.sl0v | exact Alt.own0 _ _ _ | (refine Alt.fgrow _ _ _ _ _ rfl rfl ?_; simp [*]; done) | exact Alt.fown _ _ _ _ _ _ _ _ rfl rfl rfl | exact Alt.fmap _ _ rfl rfl | (refine Alt.sl0vE ?_; simp [*] <;> rfl) | (refine Alt.ofEq rfl ?_; simp [*]; done))) (by repeat' (first | exact trivial | refine And.intro (And.intro (Nat.le_of_ble_eq_true rfl) (Or.inr (And.intro rfl (Exists.intro _ (And.intro rfl ?_))))) ?_ | refine And.intro (And.intro (Nat.le_of_ble_eq_true rfl) (Or.inl (Exists.intro _ (And.intro rfl (Nat.le_of_ble_eq_true rfl))))) ?_ | refine And.intro (And.intro (Nat.le_of_ble_eq_true rfl) (Or.inl (Exists.intro _ (And.intro (congrArg (VObj.grow _) (by simp [*])) (Nat.le_of_ble_eq_true rfl))))) ?_ | rfl | exact AltL.nil | (refine congrArg (VObj.grow _) ?_; simp [*]; done) | (refine congrArg VObj.map ?_; simp [*]; done) | (refine congrArg (VObj.arr _ _) ?_; simp [*]; done) | refine AltLp.mk rfl rfl rfl rfl rfl ?_ | refine And.intro (Exists.intro _ (And.intro rfl ?_)) ?_ | refine AltL.cons ?_ ?_ | (refine Alt.same _ ?_; first | rfl | (simp [*]; done)) | exact Alt.mapv _ _ (Nat.le_of_ble_eq_true rfl) rfl | exact Alt.grow _ _ _ _ (Nat.le_of_ble_eq_true rfl) rfl | (refine Alt.growE _ _ _ _ _ ?_ (Nat.le_of_ble_eq_true rfl) rfl; simp [*]; done) | exact Alt.ptr _ _ _ (Nat.le_of_ble_eq_true rfl) rfl | exact Alt.own _ _ _ _ _ (Nat.le_of_ble_eq_true rfl) rfl | exact Alt.sub _ _ _ _ (Nat.le_of_ble_eq_true rfl) rfl | exact Alt.yld _ _ (Nat.le_of_ble_eq_true rfl) rfl | exact Alt.sl0 _ _ | (refine Alt.sl0E _ _ _ ?_; simp [*]; done) | exact Alt.e0 _ | exact Alt.sl0v | exact Alt.own0 _ _ _ | (refine Alt.fgrow _ _ _ _ _ rfl rfl ?_; simp [*]; done) | exact Alt.fown _ _ _ _ _ _ _ _ rfl rfl rfl | exact Alt.fmap _ _ rfl rfl | (refine Alt.sl0vE ?_; simp [*] <;> rfl) | (refine Alt.ofEq rfl ?_; simp [*]; done))) rfl rfl rfl) ?_
             rintro k hk
             simp only at hk ⊢
             refine .seq (.seq (.rn ?_))
             refine .condS rfl (fun c110 => ?_) (fun c110 => ?_)
             ·try simp at c110
              have hw2 := wr1 k
              obtain ⟨x, hx⟩ : ∃ x, d.take k ++ d.drop (k + 1) = x := ⟨_, rfl⟩
              have hxl : x.length < d.length := hx ▸ drops_less c110
              have e5 := e3 x hxl
              have q1 := q25x x (by omega)
              have q2 := qx x
              rw [e5] at q2
              obtain ⟨S4, hS4⟩ : ∃ S4, bareS s x = S4 := ⟨_, rfl⟩
              rw [hS4] at q1 q2
              obtain ⟨A, hA⟩ : ∃ A, d.take k = A := ⟨_, rfl⟩
              obtain ⟨B, hB⟩ : ∃ B, d.drop (k + 1) = B := ⟨_, rfl⟩
              have hT1 : List.take k (d.map (PV.int .i64)) = A.map (PV.int .i64) := by rw [← List.map_take, hA]
              have hT2 : List.drop (k + 1) (d.map (PV.int .i64)) = B.map (PV.int .i64) := by rw [← List.map_drop, hB]
              have hBl : B.length = d.length - (k + 1) := by rw [← hB, List.length_drop]
              have hT3 : List.take (d.length - (k + 1)) (B.map (PV.int .i64)) = B.map (PV.int .i64) := List.take_of_length_le (by rw [List.length_map]; omega)
              have hAl : A.length = k := by rw [← hA, List.length_take]; omega
              have hAb : A.length ≤ 4294967296 := by omega
              have hABl : A.length + B.length ≤ 4294967296 := by omega
              have hABl2 : k + B.length ≤ 4294967296 := by omega
              have hkb : k ≤ 4294967296 := by omega
              clear hBl
              rw [hA, hB] at hx
              rw [show ints x = .vec (A.map (PV.int .i64) ++ B.map (PV.int .i64)) by rw [← hx]; exact congrArg PV.vec List.map_append] at q1
              have hk0 : 0 ≤ (k : Int) ∧ (k : Int) ≤ (d.length : Int) := by omega
              have hk1 : 0 ≤ (k : Int) + 1 ∧ (k : Int) + 1 ≤ (d.length : Int) := by omega
              refine .skip (.seq (.block (.seq ?_)))
              refine .drawn (ms := [0,0,0,6,15,0,0,64,224,511,1023]) (W := [0,4,9]) (items := [.op 1, .op 2, .op 3, .op 5, .op 6, .op 7, .op 8, .op 0, .op 4, .op 9, .op 10]) rfl zz0 zz0 zz0 ?_
              refine .rx ?_
              refine .rx ?_
              refine .rx ?_
              refine .rx ?_
              refine .rx ?_
              refine .rx ?_
              refine .rx ?_
              refine .wv ?_
              refine .wv ?_
              refine .wv ?_
              refine .rx ?_
              refine .done (.seq ?_)
              refine .rec (vts2 := [(2, .ptr 0 0),(5, ints d),(16, .int .i64 k),(17, .vec (A.map (PV.int .i64) ++ B.map (PV.int .i64)))]) (vh2 := ⟨1,[(0, .box [.vec (s.map encW)])]⟩) (.mk [3] [] (by repeat' (first | exact trivial | refine And.intro (Exists.intro _ (And.intro rfl ?_)) ?_ | (refine Alt.same _ ?_; first | rfl | (simp [*]; done)) | exact Alt.mapv _ _ (Nat.le_of_ble_eq_true rfl) rfl | exact Alt.grow _ _ _ _ (Nat.le_of_ble_eq_true rfl) rfl | (refine Alt.growE _ _ _ _ _ ?_ (Nat.le_of_ble_eq_true rfl) rfl; simp [*]; done) | exact Alt.ptr _ _ _ (Nat.le_of_ble_eq_true rfl) rfl | exact Alt.own _ _ _ _ _ (Nat.le_of_ble_eq_true rfl) rfl | exact Alt.sub _ _ _ _ (Nat.le_of_ble_eq_true rfl) rfl | exact Alt.yld _ _ (Nat.le_of_ble_eq_true rfl) rfl | exact Alt.sl0 _ _ | (refine Alt.sl0E _ _ _ ?_; simp [*]; done) | exact Alt.e0 _ | exact Alt.sl0v | exact Alt.own0 _ _ _ | (refine Alt.fgrow _ _ _ _ _ rfl rfl ?_; simp [*]; done) | exact Alt.fown _ _ _ _ _ _ _ _ rfl rfl rfl | exact Alt.fmap _ _ rfl rfl | (refine Alt.sl0vE ?_; simp [*] <;> rfl) | (refine Alt.ofEq rfl ?_; simp [*]; done))) (by repeat' (first | exact trivial | refine And.intro (And.intro (Nat.le_of_ble_eq_true rfl) (Or.inr (And.intro rfl (Exists.intro _ (And.intro rfl ?_))))) ?_ | refine And.intro (And.intro (Nat.le_of_ble_eq_true rfl) (Or.inl (Exists.intro _ (And.intro rfl (Nat.le_of_ble_eq_true rfl))))) ?_ | refine And.intro (And.intro (Nat.le_of_ble_eq_true rfl) (Or.inl (Exists.intro _ (And.intro (congrArg (VObj.grow _) (by simp [*])) (Nat.le_of_ble_eq_true rfl))))) ?_ | rfl | exact AltL.nil | (refine congrArg (VObj.grow _) ?_; simp [*]; done) | (refine congrArg VObj.map ?_; simp [*]; done) | (refine congrArg (VObj.arr _ _) ?_; simp [*]; done) | refine AltLp.mk rfl rfl rfl rfl rfl ?_ | refine And.intro (Exists.intro _ (And.intro rfl ?_)) ?_ | refine AltL.cons ?_ ?_ | (refine Alt.same _ ?_; first | rfl | (simp [*]; done)) | exact Alt.mapv _ _ (Nat.le_of_ble_eq_true rfl) rfl | exact Alt.grow _ _ _ _ (Nat.le_of_ble_eq_true rfl) rfl | (refine Alt.growE _ _ _ _ _ ?_ (Nat.le_of_ble_eq_true rfl) rfl; simp [*]; done) | exact Alt.ptr _ _ _ (Nat.le_of_ble_eq_true rfl) rfl | exact Alt.own _ _ _ _ _ (Nat.le_of_ble_eq_true rfl) rfl | exact Alt.sub _ _ _ _ (Nat.le_of_ble_eq_true rfl) rfl | exact Alt.yld _ _ (Nat.le_of_ble_eq_true rfl) rfl | exact Alt.sl0 _ _ | (refine Alt.sl0E _ _ _ ?_; simp [*]; done) | exact Alt.e0 _ | exact Alt.sl0v | exact Alt.own0 _ _ _ | (refine Alt.fgrow _ _ _ _ _ rfl rfl ?_; simp [*]; done) | exact Alt.fown _ _ _ _ _ _ _ _ rfl rfl rfl | exact Alt.fmap _ _ rfl rfl | (refine Alt.sl0vE ?_; simp [*] <;> rfl) | (refine Alt.ofEq rfl ?_; simp [*]; done))) rfl rfl rfl) ?_
              refine .regionL [0,1,2,3,4,5,6,7,8,9,10,11] rfl zz0 ?_
              refine .rn [0,1] [2,3,4,5,6,7,8,9,10,11] ?_
              refine .pc rfl rfl rfl rfl rfl Tryz.call25 (q1) ?_
              refine .step rfl rfl (.pure rfl rfl rfl Tryz.call24 (by decide) (q2) (by first | rfl | simp [*]) ?_)
              rintro _ ⟨u1, u2, u3, u4, u5, rfl⟩
              refine .rn [4,5,6,7,8,9,10,11] [] ?_
              refine .done (.seq ?_)
              refine .regionL [0,1,2,3,4,5] rfl zz0 ?_
              refine .rn [0,1,2] [3,4,5] ?_
              refine .split (t := 133) rfl (fun c133 => ?_) (fun c133 => ?_)
              ·first | cases c133 | try rw [c133]
               try simp at c133
              ·first | cases c133 | try rw [c133]
               try simp at c133
               refine .rn [3,4,5] [] ?_
               refine .done ?_
               refine .condS rfl (fun c136 => ?_) (fun c136 => ?_)
               ·try simp at c136
               ·try simp at c136
                refine .skip (.rn ?_)
                refine ⟨k + 1, c110,zz5,(.mk [] [] (by repeat' (first | exact trivial | refine And.intro (Exists.intro _ (And.intro rfl ?_)) ?_ | (refine Alt.same _ ?_; first | rfl | (simp [*]; done)) | exact Alt.mapv _ _ (Nat.le_of_ble_eq_true rfl) rfl | exact Alt.grow _ _ _ _ (Nat.le_of_ble_eq_true rfl) rfl | (refine Alt.growE _ _ _ _ _ ?_ (Nat.le_of_ble_eq_true rfl) rfl; simp [*]; done) | exact Alt.ptr _ _ _ (Nat.le_of_ble_eq_true rfl) rfl | exact Alt.own _ _ _ _ _ (Nat.le_of_ble_eq_true rfl) rfl | exact Alt.sub _ _ _ _ (Nat.le_of_ble_eq_true rfl) rfl | exact Alt.yld _ _ (Nat.le_of_ble_eq_true rfl) rfl | exact Alt.sl0 _ _ | (refine Alt.sl0E _ _ _ ?_; simp [*]; done) | exact Alt.e0 _ | exact Alt.sl0v | exact Alt.own0 _ _ _ | (refine Alt.fgrow _ _ _ _ _ rfl rfl ?_; simp [*]; done) | exact Alt.fown _ _ _ _ _ _ _ _ rfl rfl rfl | exact Alt.fmap _ _ rfl rfl | (refine Alt.sl0vE ?_; simp [*] <;> rfl) | (refine Alt.ofEq rfl ?_; simp [*]; done))) (by repeat' (first | exact trivial | refine And.intro (And.intro (Nat.le_of_ble_eq_true rfl) (Or.inr (And.intro rfl (Exists.intro _ (And.intro rfl ?_))))) ?_ | refine And.intro (And.intro (Nat.le_of_ble_eq_true rfl) (Or.inl (Exists.intro _ (And.intro rfl (Nat.le_of_ble_eq_true rfl))))) ?_ | refine And.intro (And.intro (Nat.le_of_ble_eq_true rfl) (Or.inl (Exists.intro _ (And.intro (congrArg (VObj.grow _) (by simp [*])) (Nat.le_of_ble_eq_true rfl))))) ?_ | rfl | exact AltL.nil | (refine congrArg (VObj.grow _) ?_; simp [*]; done) | (refine congrArg VObj.map ?_; simp [*]; done) | (refine congrArg (VObj.arr _ _) ?_; simp [*]; done) | refine AltLp.mk rfl rfl rfl rfl rfl ?_ | refine And.intro (Exists.intro _ (And.intro rfl ?_)) ?_ | refine AltL.cons ?_ ?_ | (refine Alt.same _ ?_; first | rfl | (simp [*]; done)) | exact Alt.mapv _ _ (Nat.le_of_ble_eq_true rfl) rfl | exact Alt.grow _ _ _ _ (Nat.le_of_ble_eq_true rfl) rfl | (refine Alt.growE _ _ _ _ _ ?_ (Nat.le_of_ble_eq_true rfl) rfl; simp [*]; done) | exact Alt.ptr _ _ _ (Nat.le_of_ble_eq_true rfl) rfl | exact Alt.own _ _ _ _ _ (Nat.le_of_ble_eq_true rfl) rfl | exact Alt.sub _ _ _ _ (Nat.le_of_ble_eq_true rfl) rfl | exact Alt.yld _ _ (Nat.le_of_ble_eq_true rfl) rfl | exact Alt.sl0 _ _ | (refine Alt.sl0E _ _ _ ?_; simp [*]; done) | exact Alt.e0 _ | exact Alt.sl0v | exact Alt.own0 _ _ _ | (refine Alt.fgrow _ _ _ _ _ rfl rfl ?_; simp [*]; done) | exact Alt.fown _ _ _ _ _ _ _ _ rfl rfl rfl | exact Alt.fmap _ _ rfl rfl | (refine Alt.sl0vE ?_; simp [*] <;> rfl) | (refine Alt.ofEq rfl ?_; simp [*]; done))) rfl rfl rfl)⟩
             ·try simp at c110
              refine .exit (.seq ?_)
              refine .regionL [0,1] rfl zz0 ?_
              refine .pc rfl rfl rfl rfl rfl Tryz.call22 (hsan) ?_
              refine .rn [1] [] ?_
              refine .done (.ret ⟨_, _, zz4,zz4, ?_⟩)
              first | rfl | (simp [*]; done) | (simp_all; done)
           ·first | cases c102 | try rw [c102]
            try simp at c102
            refine .rn [19,20,21,22] [] ?_
            refine .done (.condF rfl (.skip (.seq (.seq (.rn ?_)))))
            refine .block ?_
            refine .loopS (fun k : Nat => ([(2, .ptr 0 0),(5, ints d),(16, .int .i64 k)], ⟨1,[(0, .box [.vec (s.map encW)])]⟩)) (fun k => k ≤ d.length) (fun k => d.length - k) 0 (by simp) (.mk [] [] (by repeat' (first | exact trivial | refine And.intro (Exists.intro _ (And.intro rfl ?_)) ?_ | (refine Alt.same _ ?_; first | rfl | (simp [*]; done)) | exact Alt.mapv _ _ (Nat.le_of_ble_eq_true rfl) rfl | exact Alt.grow _ _ _ _ (Nat.le_of_ble_eq_true rfl) rfl | (refine Alt.growE _ _ _ _ _ ?_ (Nat.le_of_ble_eq_true rfl) rfl; simp [*]; done) | exact Alt.ptr _ _ _ (Nat.le_of_ble_eq_true rfl) rfl | exact Alt.own _ _ _ _ _ (Nat.le_of_ble_eq_true rfl) rfl | exact Alt.sub _ _ _ _ (Nat.le_of_ble_eq_true rfl) rfl | exact Alt.yld _ _ (Nat.le_of_ble_eq_true rfl) rfl | exact Alt.sl0 _ _ | (refine Alt.sl0E _ _ _ ?_; simp [*]; done) | exact Alt.e0 _ | exact Alt.sl0v | exact Alt.own0 _ _ _ | (refine Alt.fgrow _ _ _ _ _ rfl rfl ?_; simp [*]; done) | exact Alt.fown _ _ _ _ _ _ _ _ rfl rfl rfl | exact Alt.fmap _ _ rfl rfl | (refine Alt.sl0vE ?_; simp [*] <;> rfl) | (refine Alt.ofEq rfl ?_; simp [*]; done))) (by repeat' (first | exact trivial | refine And.intro (And.intro (Nat.le_of_ble_eq_true rfl) (Or.inr (And.intro rfl (Exists.intro _ (And.intro rfl ?_))))) ?_ | refine And.intro (And.intro (Nat.le_of_ble_eq_true rfl) (Or.inl (Exists.intro _ (And.intro rfl (Nat.le_of_ble_eq_true rfl))))) ?_ | refine And.intro (And.intro (Nat.le_of_ble_eq_true rfl) (Or.inl (Exists.intro _ (And.intro (congrArg (VObj.grow _) (by simp [*])) (Nat.le_of_ble_eq_true rfl))))) ?_ | rfl | exact AltL.nil | (refine congrArg (VObj.grow _) ?_; simp [*]; done) | (refine congrArg VObj.map ?_; simp [*]; done) | (refine congrArg (VObj.arr _ _) ?_; simp [*]; done) | refine AltLp.mk rfl rfl rfl rfl rfl ?_ | refine And.intro (Exists.intro _ (And.intro rfl ?_)) ?_ | refine AltL.cons ?_ ?_ | (refine Alt.same _ ?_; first | rfl | (simp [*]; done)) | exact Alt.mapv _ _ (Nat.le_of_ble_eq_true rfl) rfl | exact Alt.grow _ _ _ _ (Nat.le_of_ble_eq_true rfl) rfl | (refine Alt.growE _ _ _ _ _ ?_ (Nat.le_of_ble_eq_true rfl) rfl; simp [*]; done) | exact Alt.ptr _ _ _ (Nat.le_of_ble_eq_true rfl) rfl | exact Alt.own _ _ _ _ _ (Nat.le_of_ble_eq_true rfl) rfl | exact Alt.sub _ _ _ _ (Nat.le_of_ble_eq_true rfl) rfl | exact Alt.yld _ _ (Nat.le_of_ble_eq_true rfl) rfl | exact Alt.sl0 _ _ | (refine Alt.sl0E _ _ _ ?_; simp [*]; done) | exact Alt.e0 _ | exact Alt.sl0v | exact Alt.own0 _ _ _ | (refine Alt.fgrow _ _ _ _ _ rfl rfl ?_; simp [*]; done) | exact Alt.fown _ _ _ _ _ _ _ _ rfl rfl rfl | exact Alt.fmap _ _ rfl rfl | (refine Alt.sl0vE ?_; simp [*] <;> rfl) | (refine Alt.ofEq rfl ?_; simp [*]; done))) rfl rfl rfl) ?_
            rintro k hk
            simp only at hk ⊢
            refine .seq (.seq (.rn ?_))
            refine .condS rfl (fun c110 => ?_) (fun c110 => ?_)
            ·try simp at c110
             have hw2 := wr1 k
             obtain ⟨x, hx⟩ : ∃ x, d.take k ++ d.drop (k + 1) = x := ⟨_, rfl⟩
             have hxl : x.length < d.length := hx ▸ drops_less c110
             have e5 := e3 x hxl
             have q1 := q25x x (by omega)
             have q2 := qx x
             rw [e5] at q2
             obtain ⟨S4, hS4⟩ : ∃ S4, bareS s x = S4 := ⟨_, rfl⟩
             rw [hS4] at q1 q2
             obtain ⟨A, hA⟩ : ∃ A, d.take k = A := ⟨_, rfl⟩
             obtain ⟨B, hB⟩ : ∃ B, d.drop (k + 1) = B := ⟨_, rfl⟩
             have hT1 : List.take k (d.map (PV.int .i64)) = A.map (PV.int .i64) := by rw [← List.map_take, hA]
             have hT2 : List.drop (k + 1) (d.map (PV.int .i64)) = B.map (PV.int .i64) := by rw [← List.map_drop, hB]
             have hBl : B.length = d.length - (k + 1) := by rw [← hB, List.length_drop]
             have hT3 : List.take (d.length - (k + 1)) (B.map (PV.int .i64)) = B.map (PV.int .i64) := List.take_of_length_le (by rw [List.length_map]; omega)
             have hAl : A.length = k := by rw [← hA, List.length_take]; omega
             have hAb : A.length ≤ 4294967296 := by omega
             have hABl : A.length + B.length ≤ 4294967296 := by omega
             have hABl2 : k + B.length ≤ 4294967296 := by omega
             have hkb : k ≤ 4294967296 := by omega
             clear hBl
             rw [hA, hB] at hx
             rw [show ints x = .vec (A.map (PV.int .i64) ++ B.map (PV.int .i64)) by rw [← hx]; exact congrArg PV.vec List.map_append] at q1
             have hk0 : 0 ≤ (k : Int) ∧ (k : Int) ≤ (d.length : Int) := by omega
             have hk1 : 0 ≤ (k : Int) + 1 ∧ (k : Int) + 1 ≤ (d.length : Int) := by omega
             refine .skip (.seq (.block (.seq ?_)))
             refine .drawn (ms := [0,0,0,6,15,0,0,64,224,511,1023]) (W := [0,4,9]) (items := [.op 1, .op 2, .op 3, .op 5, .op 6, .op 7, .op 8, .op 0, .op 4, .op 9, .op 10]) rfl zz0 zz0 zz0 ?_
             refine .rx ?_
             refine .rx ?_
             refine .rx ?_
             refine .rx ?_
             refine .rx ?_
             refine .rx ?_
             refine .rx ?_
             refine .wv ?_
             refine .wv ?_
             refine .wv ?_
             refine .rx ?_
             refine .done (.seq ?_)
             refine .rec (vts2 := [(2, .ptr 0 0),(5, ints d),(16, .int .i64 k),(17, .vec (A.map (PV.int .i64) ++ B.map (PV.int .i64)))]) (vh2 := ⟨1,[(0, .box [.vec (s.map encW)])]⟩) (.mk [3] [] (by repeat' (first | exact trivial | refine And.intro (Exists.intro _ (And.intro rfl ?_)) ?_ | (refine Alt.same _ ?_; first | rfl | (simp [*]; done)) | exact Alt.mapv _ _ (Nat.le_of_ble_eq_true rfl) rfl | exact Alt.grow _ _ _ _ (Nat.le_of_ble_eq_true rfl) rfl | (refine Alt.growE _ _ _ _ _ ?_ (Nat.le_of_ble_eq_true rfl) rfl; simp [*]; done) | exact Alt.ptr _ _ _ (Nat.le_of_ble_eq_true rfl) rfl | exact Alt.own _ _ _ _ _ (Nat.le_of_ble_eq_true rfl) rfl | exact Alt.sub _ _ _ _ (Nat.le_of_ble_eq_true rfl) rfl | exact Alt.yld _ _ (Nat.le_of_ble_eq_true rfl) rfl | exact Alt.sl0 _ _ | (refine Alt.sl0E _ _ _ ?_; simp [*]; done) | exact Alt.e0 _ | exact Alt.sl0v | exact Alt.own0 _ _ _ | (refine Alt.fgrow _ _ _ _ _ rfl rfl ?_; simp [*]; done) | exact Alt.fown _ _ _ _ _ _ _ _ rfl rfl rfl | exact Alt.fmap _ _ rfl rfl | (refine Alt.sl0vE ?_; simp [*] <;> rfl) | (refine Alt.ofEq rfl ?_; simp [*]; done))) (by repeat' (first | exact trivial | refine And.intro (And.intro (Nat.le_of_ble_eq_true rfl) (Or.inr (And.intro rfl (Exists.intro _ (And.intro rfl ?_))))) ?_ | refine And.intro (And.intro (Nat.le_of_ble_eq_true rfl) (Or.inl (Exists.intro _ (And.intro rfl (Nat.le_of_ble_eq_true rfl))))) ?_ | refine And.intro (And.intro (Nat.le_of_ble_eq_true rfl) (Or.inl (Exists.intro _ (And.intro (congrArg (VObj.grow _) (by simp [*])) (Nat.le_of_ble_eq_true rfl))))) ?_ | rfl | exact AltL.nil | (refine congrArg (VObj.grow _) ?_; simp [*]; done) | (refine congrArg VObj.map ?_; simp [*]; done) | (refine congrArg (VObj.arr _ _) ?_; simp [*]; done) | refine AltLp.mk rfl rfl rfl rfl rfl ?_ | refine And.intro (Exists.intro _ (And.intro rfl ?_)) ?_ | refine AltL.cons ?_ ?_ | (refine Alt.same _ ?_; first | rfl | (simp [*]; done)) | exact Alt.mapv _ _ (Nat.le_of_ble_eq_true rfl) rfl | exact Alt.grow _ _ _ _ (Nat.le_of_ble_eq_true rfl) rfl | (refine Alt.growE _ _ _ _ _ ?_ (Nat.le_of_ble_eq_true rfl) rfl; simp [*]; done) | exact Alt.ptr _ _ _ (Nat.le_of_ble_eq_true rfl) rfl | exact Alt.own _ _ _ _ _ (Nat.le_of_ble_eq_true rfl) rfl | exact Alt.sub _ _ _ _ (Nat.le_of_ble_eq_true rfl) rfl | exact Alt.yld _ _ (Nat.le_of_ble_eq_true rfl) rfl | exact Alt.sl0 _ _ | (refine Alt.sl0E _ _ _ ?_; simp [*]; done) | exact Alt.e0 _ | exact Alt.sl0v | exact Alt.own0 _ _ _ | (refine Alt.fgrow _ _ _ _ _ rfl rfl ?_; simp [*]; done) | exact Alt.fown _ _ _ _ _ _ _ _ rfl rfl rfl | exact Alt.fmap _ _ rfl rfl | (refine Alt.sl0vE ?_; simp [*] <;> rfl) | (refine Alt.ofEq rfl ?_; simp [*]; done))) rfl rfl rfl) ?_
             refine .regionL [0,1,2,3,4,5,6,7,8,9,10,11] rfl zz0 ?_
             refine .rn [0,1] [2,3,4,5,6,7,8,9,10,11] ?_
             refine .pc rfl rfl rfl rfl rfl Tryz.call25 (q1) ?_
             refine .step rfl rfl (.pure rfl rfl rfl Tryz.call24 (by decide) (q2) (by first | rfl | simp [*]) ?_)
             rintro _ ⟨u1, u2, u3, u4, u5, rfl⟩
             refine .rn [4,5,6,7,8,9,10,11] [] ?_
             refine .done (.seq ?_)
             refine .regionL [0,1,2,3,4,5] rfl zz0 ?_
             refine .rn [0,1,2] [3,4,5] ?_
             refine .split (t := 133) rfl (fun c133 => ?_) (fun c133 => ?_)
             ·first | cases c133 | try rw [c133]
              try simp at c133
             ·first | cases c133 | try rw [c133]
              try simp at c133
              refine .rn [3,4,5] [] ?_
              refine .done ?_
              refine .condS rfl (fun c136 => ?_) (fun c136 => ?_)
              ·try simp at c136
              ·try simp at c136
               refine .skip (.rn ?_)
               refine ⟨k + 1, c110,zz5,(.mk [] [] (by repeat' (first | exact trivial | refine And.intro (Exists.intro _ (And.intro rfl ?_)) ?_ | (refine Alt.same _ ?_; first | rfl | (simp [*]; done)) | exact Alt.mapv _ _ (Nat.le_of_ble_eq_true rfl) rfl | exact Alt.grow _ _ _ _ (Nat.le_of_ble_eq_true rfl) rfl | (refine Alt.growE _ _ _ _ _ ?_ (Nat.le_of_ble_eq_true rfl) rfl; simp [*]; done) | exact Alt.ptr _ _ _ (Nat.le_of_ble_eq_true rfl) rfl | exact Alt.own _ _ _ _ _ (Nat.le_of_ble_eq_true rfl) rfl | exact Alt.sub _ _ _ _ (Nat.le_of_ble_eq_true rfl) rfl | exact Alt.yld _ _ (Nat.le_of_ble_eq_true rfl) rfl | exact Alt.sl0 _ _ | (refine Alt.sl0E _ _ _ ?_; simp [*]; done) | exact Alt.e0 _ | exact Alt.sl0v | exact Alt.own0 _ _ _ | (refine Alt.fgrow _ _ _ _ _ rfl rfl ?_; simp [*]; done) | exact Alt.fown _ _ _ _ _ _ _ _ rfl rfl rfl | exact Alt.fmap _ _ rfl rfl | (refine Alt.sl0vE ?_; simp [*] <;> rfl) | (refine Alt.ofEq rfl ?_; simp [*]; done))) (by repeat' (first | exact trivial | refine And.intro (And.intro (Nat.le_of_ble_eq_true rfl) (Or.inr (And.intro rfl (Exists.intro _ (And.intro rfl ?_))))) ?_ | refine And.intro (And.intro (Nat.le_of_ble_eq_true rfl) (Or.inl (Exists.intro _ (And.intro rfl (Nat.le_of_ble_eq_true rfl))))) ?_ | refine And.intro (And.intro (Nat.le_of_ble_eq_true rfl) (Or.inl (Exists.intro _ (And.intro (congrArg (VObj.grow _) (by simp [*])) (Nat.le_of_ble_eq_true rfl))))) ?_ | rfl | exact AltL.nil | (refine congrArg (VObj.grow _) ?_; simp [*]; done) | (refine congrArg VObj.map ?_; simp [*]; done) | (refine congrArg (VObj.arr _ _) ?_; simp [*]; done) | refine AltLp.mk rfl rfl rfl rfl rfl ?_ | refine And.intro (Exists.intro _ (And.intro rfl ?_)) ?_ | refine AltL.cons ?_ ?_ | (refine Alt.same _ ?_; first | rfl | (simp [*]; done)) | exact Alt.mapv _ _ (Nat.le_of_ble_eq_true rfl) rfl | exact Alt.grow _ _ _ _ (Nat.le_of_ble_eq_true rfl) rfl | (refine Alt.growE _ _ _ _ _ ?_ (Nat.le_of_ble_eq_true rfl) rfl; simp [*]; done) | exact Alt.ptr _ _ _ (Nat.le_of_ble_eq_true rfl) rfl | exact Alt.own _ _ _ _ _ (Nat.le_of_ble_eq_true rfl) rfl | exact Alt.sub _ _ _ _ (Nat.le_of_ble_eq_true rfl) rfl | exact Alt.yld _ _ (Nat.le_of_ble_eq_true rfl) rfl | exact Alt.sl0 _ _ | (refine Alt.sl0E _ _ _ ?_; simp [*]; done) | exact Alt.e0 _ | exact Alt.sl0v | exact Alt.own0 _ _ _ | (refine Alt.fgrow _ _ _ _ _ rfl rfl ?_; simp [*]; done) | exact Alt.fown _ _ _ _ _ _ _ _ rfl rfl rfl | exact Alt.fmap _ _ rfl rfl | (refine Alt.sl0vE ?_; simp [*] <;> rfl) | (refine Alt.ofEq rfl ?_; simp [*]; done))) rfl rfl rfl)⟩
            ·try simp at c110
             refine .exit (.seq ?_)
             refine .regionL [0,1] rfl zz0 ?_
             refine .pc rfl rfl rfl rfl rfl Tryz.call22 (hsan) ?_
             refine .rn [1] [] ?_
             refine .done (.ret ⟨_, _, zz4,zz4, ?_⟩)
             first | rfl | (simp [*]; done) | (simp_all; done)
end Go.Am.Ds
end
