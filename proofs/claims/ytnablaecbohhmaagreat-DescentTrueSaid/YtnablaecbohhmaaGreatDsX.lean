/-
 What is used in the proof of a statement (part DsX); no condition.
-/
import Derived.Test.YtnablaecbohhmaaGreatDsT
import Derived.Test.YtnablaecbohhmaaGreatVm2
import Derived.Test.YtnablaecbohhmaaGreatDsC
import Derived.Test.YtnablaecbohhmaaGreatDsG
import Derived.Test.YtnablaecbohhmaaGreatDsF
import Derived.Test.YtnablaecbohhmaaGreatDsS
set_option linter.all false
set_option maxHeartbeats 40000000
set_option maxRecDepth 100000
namespace Go.Am
open Go Go.Proofs
section
variable {P : Program} {N b : Nat} {vts : VTs} {vh : VHeap}
theorem VScr.rx {ops : Array Oper} {W todo : List Nat} {K : VTs → VHeap → Prop} {m : Nat} {r : List SItem} {o : Oper} {v : PV} (k : VScr P N b ops W K r (bif selfFree o then m :: todoF ops todo o.dst else todoF ops todo o.dst) (tput vts o.dst v) vh) (ho : ops[m]? = some o := by rfl) (hw : vwanted ops o vts = some true := by rfl) (hW : W.contains m = false := by decide) (hr : isR o.op = true := by rfl) (hd : dstOK N o.dst = true := by decide) (hv : vop P vts vh o.op = some (v, vh) := by simp [*] <;> first | exact ⟨rfl, rfl⟩ | exact rfl) : VScr P N b ops W K (.op m :: r) todo vts vh := .rd ho hw hW hr hd hv k
end
end Go.Am
section
namespace Go.Am
open Go Go.Proofs
theorem wrapu32 {x : Int} (h1 : 0 ≤ x) (h2 : x < 4294967296) : IntKind.u32.wrap x = x := by
 simp [IntKind.wrap, IntKind.bits, IntKind.signed]; omega

end Go.Am
end
section
namespace Go.Am

theorem VW.join {P : Program} {N b : Nat} {Q : VPost} {vts : VTs} {vh : VHeap} {x y : Code} {S : Type} (st : S → VTs × VHeap) (I : S → Prop)
  (hx : VW P N b x (thenV (fun vts' vh' => ∃ s', I s' ∧ Rec b vts' vh' (st s').1 (st s').2) Q) vts vh) (hy : ∀ s, I s → VW P N b y Q (st s).1 (st s).2) : VW P N b (.seq x y) Q vts vh :=
 .seq (hx.mono fun e vts vh hq => by
  cases e with
  | normal => obtain ⟨s', k1, k2⟩ := hq; exact .rec k2 (hy s' k1)
  | exit id => exact hq
  | goto l => exact hq
  | ret => exact hq
  | panic ch => exact hq
  | outgrown => exact hq)

theorem flat_part {sz : Nat} : ∀ {es : List PV} {q : Nat} {e : PV},(∀ e ∈ es, e.cells.length = sz) → es[q]? = some e → ((es.flatMap PV.cells).drop (q * sz)).take sz = e.cells ∧ q * sz + sz ≤ (es.flatMap PV.cells).length
 | [], q, e, _, h => by simp at h
 | a :: r, 0, e, hs, h => by
  simp at h; subst h
  have := hs a List.mem_cons_self
  rw [Nat.zero_mul, List.drop_zero, List.flatMap_cons, List.take_append_of_le_length (by omega), ← this, List.take_length]
  exact ⟨rfl, by rw [List.length_append]; omega⟩
 | a :: r, q + 1, e, hs, h => by
  have h1 := hs a List.mem_cons_self
  obtain ⟨h2, h3⟩ := flat_part (es := r) (q := q) (fun x hx => hs x (List.mem_cons_of_mem _ hx)) (by simpa using h)
  rw [List.flatMap_cons, Nat.succ_mul, show q * sz + sz = a.cells.length + q * sz by omega, List.drop_append, List.drop_eq_nil_of_le (by omega), List.nil_append, show a.cells.length + q * sz - a.cells.length = q * sz by omega]
  exact ⟨h2, by rw [List.length_append]; omega⟩

section
variable {P : Program} {N b : Nat} {vts : VTs} {vh : VHeap}
theorem VStep.idxG {o : Oper} {t e : TypeId} {x y : Operand} {i n q sz : Nat} {nl : Bool} {kd : IntKind} {next : VTs → VHeap → Prop} (ho : o.op = .indexAddr t x y) (ht : telem P t = some (e, sz)) (hx : veval vts x = some (.grow i n nl)) (hy : veval vts y = some (.int kd (q : Int))) (hq : q < n) (hd : dstOK N o.dst = true)
  (hn : next (tput vts o.dst (.ptr i (q * sz))) vh) : VStep P N b o next vts vh := fun lo g σ h ts hts hl s hb => by
 obtain ⟨x', k1, k2⟩ := veval_ok hts hx
 obtain ⟨y', k3, k4⟩ := veval_ok hts hy
 have := k4.isF rfl; cases this
 have hw : vidx (q : Int) n = some q := by unfold vidx; rw [if_pos ⟨by omega, by omega⟩]; rfl
 cases k2 with
 | fr _ _ h => cases h
 | growN => omega
 | grow0 => omega
 | grow _ _ o2 a k _ hi hs hm =>
  have hp : VR g σ vh.next (.ptr i (q * sz)) (.pointer (some ⟨o2, a + q * sz, none⟩)) := .ptr i (q * sz) o2 a k hi hs
  obtain ⟨g1, g2⟩ := vt_put (Fz.le_refl g) (Nat.le_refl _) (fun _ _ => rfl) hts o.dst (hl ▸ hd) hp
  refine .op (v := .pointer (some ⟨o2, a + q * sz, none⟩)) (h' := h) (by rw [ho]; simp only [aop, k1, k3, aindexAddr, ht, vidx_eq, hw, Option.map_some]) ?_
  exact ⟨g, σ, _, vh, ⟨g1, g2.trans hl, s, Fz.le_refl g, fun _ _ => rfl, VF.refl _ _ _, hb, GOwn.refl _ _ _ _⟩, hn⟩
theorem VStep.ldG {o : Oper} {t : TypeId} {x : Operand} {i q sz : Nat} {es cs : List PV} {next : VTs → VHeap → Prop} (ho : o.op = .load t x) (hx : veval vts x = some (.ptr i (q * sz))) (hg : vh.get i = some (.grow sz es)) (he : es[q]? = some (.agg cs)) (hag : tagg P t = some true) (hsz : tsz P t = some sz) (hd : dstOK N o.dst = true)
  (hn : next (tput vts o.dst (.agg cs)) vh) : VStep P N b o next vts vh := fun lo g σ h ts hts hl s hb => by
 obtain ⟨x', k1, k2⟩ := veval_ok hts hx
 cases k2 with
 | fr _ _ h => cases h
 | ptr _ _ o2 a k hi hs =>
  obtain ⟨_, h1, _, h2⟩ := (s.obj i _ hg).2
  rcases h2 with h2 | ⟨s0, cs', h3, h4, h5, _⟩
  ·subst h2; simp at he
  ·rw [hs] at h3 h4
   simp only at h3 h4; subst h4
   obtain ⟨f1, f2⟩ := flat_part h1 he
   have hv : vpartT P t (es.flatMap PV.cells) (q * sz) = some (.agg cs) := by
    unfold vpartT
    rw [hag, hsz]
    simp only
    rw [show Nat.ble (q * sz + sz) (es.flatMap PV.cells).length = true by rw [Nat.ble_eq]; exact f2, cond_true, f1]
    rfl
   obtain ⟨v', e1, e2⟩ := vpartT_ok (σ := σ) (n := vh.next) h3 h5.vr hv
   obtain ⟨g1, g2⟩ := vt_put (Fz.le_refl g) (Nat.le_refl _) (fun _ _ => rfl) hts o.dst (hl ▸ hd) e2
   refine .op (v := v') (h' := h) (by rw [ho]; simp only [aop, k1]; rw [Nat.zero_add, e1]; rfl) ?_
   exact ⟨g, σ, _, vh, ⟨g1, g2.trans hl, s, Fz.le_refl g, fun _ _ => rfl, VF.refl _ _ _, hb, GOwn.refl _ _ _ _⟩, hn⟩
end
end Go.Am
end
section
namespace Go.Am.Ds
open Go Go.Am Go.Proofs
attribute [local simp] vrun vwanted vyielded vop veval vevals vparts vO vbuiltin vlen vappend velems vcopy vmakeSlice vbuildSlice valloc vbox vmakeMap vload vpartT vpart vstore vfieldAddr vfield vindexAddr vindex vextract vslice vsliceZ vbounds vbnd zeroO vidx vlookup vmget vmapUpdate vdelete vnilq vnilp vnils vbin vsc vsc1 vscs vscl abinOp aint ashift aunOp aconvert amaxs amax2 pvcV pvc pvcs tput tget vargs VHeap.get VHeap.alloc VHeap.put VHeap.drop VHeap.empty vlook vput vdrop psplice pfill preps chunk List.range List.range.loop vresults vresult vresultV frz frzL PV.isF PV.allF PV.scal PV.allS retP subT allFT PV.one PV.ids PV.idsL dropL beq_eq ble_dec blt_dec
attribute [local simp] zW tup2
theorem p108' (s : List Wit) (hl : s.length < 4294967296) : VPure Tryz.prog 108 [encS s] fun r => r = .tup [.vec ((chL s).map encC), .int .i64 (chE s)] := VPure.soft (p108 s hl) rfl
end Go.Am.Ds
end
section
namespace Go.Am.Ds
open Go Go.Am Go.Proofs

theorem checkL_nodup : ∀ {l : List Wit} {seen : List Int}, checkL l seen = 0 → (l.map Wit.id).Nodup ∧ ∀ w ∈ l, w.id ∉ seen
 | [], _, _ => ⟨.nil, fun w hw => by cases hw⟩
 | a :: r, seen, h => by
  simp only [checkL] at h
  split at h
  ·split at h
   ·simp at h
   ·rename_i hn
    obtain ⟨h1, h2⟩ := checkL_nodup h
    refine ⟨?_, fun w hw => ?_⟩
    ·rw [List.map_cons, List.nodup_cons]
     refine ⟨fun hm => ?_, h1⟩
     obtain ⟨w, hw, he⟩ := List.mem_map.1 hm
     exact h2 w hw ((mem_insU _ _ _).2 (.inr he))
    ·rcases List.mem_cons.1 hw with rfl | hw
     ·exact hn
     ·exact fun hs => h2 w hw ((mem_insU _ _ _).2 (.inl hs))
  ·rename_i h0; exact absurd h h0
theorem checkS_nodup {s : List Wit} (h : checkS s = 0) : (s.map Wit.id).Nodup := by
 unfold checkS at h
 split at h
 ·simp at h
 ·exact (checkL_nodup h).1
theorem checkS_pos {s : List Wit} (h : checkS s = 0) : ∀ w ∈ s, 0 < w.id := fun w hw => by
 have := (checkS_ok h).2 w hw
 unfold witE at this
 split at this
 ·cases this
 ·omega

theorem idsS_sorted {s : List Wit} (h : (s.map Wit.id).Nodup) : (idsS s).Pairwise (· < ·) := by
 unfold idsS
 have h1 := List.pairwise_mergeSort (le := fun x y : Int => decide (x ≤ y)) (fun a b c h1 h2 => by simp only [decide_eq_true_eq] at *; omega) (fun a b => by simp only [Bool.or_eq_true, decide_eq_true_eq]; omega) (s.map Wit.id)
 have h2 : ((s.map Wit.id).mergeSort fun x y => decide (x ≤ y)).Nodup := (List.mergeSort_perm _ _).nodup_iff.2 h
 have h3 := h1.and h2
 exact h3.imp fun ⟨h4, h5⟩ => by
  simp only [decide_eq_true_eq] at h4
  rcases Int.lt_or_eq_of_le h4 with h6 | h6
  ·exact h6
  ·exact absurd h6 h5
theorem stepP_some {s : List Wit} {c : Wit} {id : Int} {y : Int × Int} : stepP s c id = some y ↔ ∃ p, getW s id = some p ∧ (whyP c p).1 = 0 ∧ y = (id, ((ariS c p).length : Int)) := by
 unfold stepP
 cases hg : getW s id with
 | none => simp
 | some p =>
  simp only
  by_cases h : (whyP c p).1 = 0
  ·rw [if_pos h]
   constructor
   ·intro h2; injection h2 with h2; exact ⟨p, rfl, h, h2.symm⟩
   ·rintro ⟨q, h2, _, h3⟩; injection h2 with h2; subst h2; rw [h3]
  ·rw [if_neg h]
   constructor
   ·intro h2; cases h2
   ·rintro ⟨q, h2, h3, _⟩; injection h2 with h2; subst h2; exact absurd h3 h
theorem parS_mem {s : List Wit} {c : Wit} {y : Int × Int} : y ∈ parS s c ↔ (y = (0,(c.slips.length : Int)) ∧ lastS c 0 = 0) ∨ ∃ p, y.1 ∈ idsS s ∧ getW s y.1 = some p ∧ (whyP c p).1 = 0 ∧ y.2 = ((ariS c p).length : Int) := by
 unfold parS
 rw [List.mem_append, List.mem_filterMap]
 have h0 : y ∈ headP c ↔ y = (0,(c.slips.length : Int)) ∧ lastS c 0 = 0 := by
  unfold headP
  split
  ·rename_i h; simp [h]
  ·rename_i h; simp [h]
 rw [h0]
 constructor
 ·rintro (h | ⟨id, h1, h2⟩)
  ·exact .inl h
  ·obtain ⟨p, h3, h4, h5⟩ := stepP_some.1 h2
   subst h5
   exact .inr ⟨p, h1, h3, h4, rfl⟩
 ·rintro (h | ⟨p, h1, h2, h3, h4⟩)
  ·exact .inl h
  ·exact .inr ⟨y.1, h1, stepP_some.2 ⟨p, h2, h3, Prod.ext rfl h4⟩⟩
theorem fold_spec : ∀ (l : List (Int × Int)) (d : List (Int × Int)) (x : List Int × Int),(d = [] ∧ x.1 = [] ∨ x.1 ≠ [] ∧ (∀ y ∈ d, x.2 ≤ y.2) ∧ ∃ y ∈ d, y.2 = x.2) →
  (d ++ l = [] ∧ (l.foldl stepC x).1 = [] ∨ (l.foldl stepC x).1 ≠ [] ∧ (∀ y ∈ d ++ l, (l.foldl stepC x).2 ≤ y.2) ∧ ∃ y ∈ d ++ l, y.2 = (l.foldl stepC x).2)
 | [], d, x, h => by simpa using h
 | y :: r, d, x, h => by
  have ih := fold_spec r (d ++ [y]) (stepC x y) (.inr (by
   unfold stepC
   split
   ·rename_i h1
    rcases h with ⟨_, h2⟩ | ⟨h2, h3, z, h4, h5⟩
    ·exact absurd h2 h1.1
    ·refine ⟨h2, fun w hw => ?_, z, List.mem_append_left _ h4, h5⟩
     rcases List.mem_append.1 hw with hw | hw
     ·exact h3 w hw
     ·rw [List.mem_singleton] at hw; rw [hw]; omega
   ·rename_i h1
    split
    ·rename_i h2
     refine ⟨by simp, fun w hw => ?_, y, by simp, rfl⟩
     rcases List.mem_append.1 hw with hw | hw
     ·rcases h with ⟨h3, _⟩ | ⟨h3, h4, _⟩
      ·rw [h3] at hw; cases hw
      ·rcases h2 with h2 | h2
       ·exact absurd h2 h3
       ·have := h4 w hw; simp only; omega
     ·rw [List.mem_singleton] at hw; rw [hw]; exact Int.le_refl _
    ·rename_i h2
     have h3 : x.1 ≠ [] := fun h4 => h2 (.inl h4)
     have h4 : ¬ y.2 < x.2 := fun h4 => h2 (.inr h4)
     have h5 : ¬ x.2 < y.2 := fun h5 => h1 ⟨h3, h5⟩
     rcases h with ⟨_, h6⟩ | ⟨_, h7, z, h8, h9⟩
     ·exact absurd h6 h3
     ·refine ⟨by simp, fun w hw => ?_, z, List.mem_append_left _ h8, h9⟩
      rcases List.mem_append.1 hw with hw | hw
      ·exact h7 w hw
      ·rw [List.mem_singleton] at hw; rw [hw]; simp only; omega))
  rw [List.append_assoc, List.singleton_append] at ih
  rw [List.foldl_cons]
  exact ih
theorem choF_spec (s : List Wit) (c : Wit) : (parS s c = [] ∧ (choF s c).1 = []) ∨ ((choF s c).1 ≠ [] ∧ (∀ y ∈ parS s c, (choF s c).2 ≤ y.2) ∧ ∃ y ∈ parS s c, y.2 = (choF s c).2) := by
 have := fold_spec (parS s c) [] ([],0) (.inl ⟨rfl, rfl⟩)
 simpa [choF] using this
end Go.Am.Ds
end
section
namespace Go.Am.Ds
open Go Go.Am Go.Proofs
attribute [local simp] vrun vwanted vyielded vop vopA vputAll VHeap.back hidI hidF backL bm Nat.testBit_eq_decide_div_mod_eq veval vevals vparts vO vbuiltin vlen vappend velems vcopy vmakeSlice vbuildSlice valloc vbox vmakeMap vload vpartT vpart vstore vfieldAddr vfield vindexAddr vindex vextract vslice vsliceZ vbounds vbnd zeroO vidx vlookup vmget vmapUpdate vdelete vclear vnilq vnilp vnils vbin vsc vsc1 vscs vscl abinOp aint ashift aunOp aconvert amaxs amax2 pvcV pvc pvcs tput tget vargs VHeap.get VHeap.alloc VHeap.put VHeap.drop VHeap.empty vlook vput vdrop psplice pfill preps chunk List.range List.range.loop vresults vresult vresultV frz frzL PV.isF PV.allF PV.scal PV.allS retP subT allFT PV.one PV.ids PV.idsL dropL beq_eq ble_dec blt_dec
def parR (s : List Wit) (id : Int) : PV := match getW s id with
 | some p => .vp (encW p).cells
 | none => .ptr0
theorem parR_none {s : List Wit} {id : Int} (h : getW s id = none) : parR s id = .ptr0 := by unfold parR; rw [h]
theorem parR_some {s : List Wit} {id : Int} {p : Wit} (h : getW s id = some p) : parR s id = .vp (encW p).cells := by unfold parR; rw [h]
def stepD (s : List Wit) (c : Wit) (id : Int) : Option Int := match getW s id with
 | none => if id = 0 ∧ lastS c 0 = 0 then some (c.slips.length : Int) else none
 | some p => if (whyP c p).1 = 0 then some ((ariS c p).length : Int) else none
def desL (s : List Wit) (l : List Int) : List (Option Int) := (s.zip l).map fun x => stepD s x.1 x.2
def desP (s : List Wit) (l : List Int) (k : Nat) : Int := (((desL s l).take k).map (·.getD 0)).sum
def desR (s : List Wit) (l : List Int) : Int × Bool := if l.length = s.length ∧ (desL s l).all Option.isSome = true then (desP s l s.length, true) else (0, false)
theorem desL_get (s : List Wit) (l : List Int) (k : Nat) (h : k < s.length) (h2 : k < l.length) : ∃ h3 : k < (desL s l).length, (desL s l)[k] = stepD s s[k] l[k] := by
 refine ⟨by simp [desL]; omega, by simp [desL]⟩
theorem desP_succ (s : List Wit) (l : List Int) (k : Nat) (h : k < s.length) (h2 : k < l.length) : desP s l (k + 1) = desP s l k + (stepD s s[k] l[k]).getD 0 := by
 obtain ⟨h3, h4⟩ := desL_get s l k h h2
 unfold desP
 rw [List.take_succ_eq_append_getElem h3, h4]; simp
theorem desA_succ (s : List Wit) (l : List Int) (k : Nat) (h : k < s.length) (h2 : k < l.length) : ((desL s l).take (k + 1)).all Option.isSome = (((desL s l).take k).all Option.isSome && (stepD s s[k] l[k]).isSome) := by
 obtain ⟨h3, h4⟩ := desL_get s l k h h2
 rw [take_succ_all _ _ _ h3, h4]
theorem ariS_len (c p : Wit) : (ariS c p).length ≤ c.slips.length := by unfold ariS; exact List.length_filter_le _ _
theorem stepD_bd (s : List Wit) (c : Wit) (id : Int) : 0 ≤ (stepD s c id).getD 0 ∧ (stepD s c id).getD 0 ≤ (c.slips.length : Int) := by
 unfold stepD
 cases getW s id with
 | none => simp only; split <;> simp
 | some p =>
  simp only; have := ariS_len c p
  split <;> simp <;> omega
theorem desP_bd (s : List Wit) (l : List Int) (hli : ∀ w ∈ s, w.slips.length < 4294967296 ∧ w.mended.length < 4294967296 ∧ w.models.length < 4294967296) (he : l.length = s.length) : ∀ k, k ≤ s.length → 0 ≤ desP s l k ∧ desP s l k ≤ (k : Int) * 4294967296
 | 0, _ => by simp [desP]
 | k + 1, h => by
  have h1 := desP_bd s l hli he k (by omega)
  rw [desP_succ s l k (by omega) (by omega)]
  have h2 := stepD_bd s s[k] l[k]
  have h3 := (hli s[k] (List.getElem_mem (by omega))).1
  constructor
  ·omega
  ·push_cast; omega
theorem desR_none {s : List Wit} {l : List Int} {k : Nat} (h : k < s.length) (h2 : k < l.length) (hN : stepD s s[k] l[k] = none) : desR s l = (0, false) := by
 obtain ⟨h3, h4⟩ := desL_get s l k h h2
 unfold desR
 rw [if_neg]
 rintro ⟨_, ha⟩
 have := List.all_eq_true.1 ha _ (List.getElem_mem h3)
 rw [h4, hN] at this; cases this
theorem p173 (s : List Wit) (id : Int) (hl : s.length < 4294967296) : VPure Tryz.prog 173 [encS s, .int .i64 id] fun r => r = parR s id := by
 refine .of_body Tryz.func173 rfl rfl ?_
 refine .seq ?_
 refine .rn ?_
 refine .seq ?_
 refine .seq ?_
 refine .regionL [0,1,2,3] rfl zz0 ?_
 refine .rn [0,1] [2,3] ?_
 refine .step rfl rfl (.pure rfl rfl rfl Tryz.call105 (by decide) (p105' s id hl) (by first | rfl | simp [*]) ?_)
 rintro _ rfl
 refine .rn [3] [] ?_
 refine .done ?_
 refine .seq ?_
 refine .rn ?_
 refine .condS rfl (fun c10 => ?_) (fun c10 => ?_)
 ·try simp at c10
  obtain ⟨i, hi, hie, hga⟩ := getW_some c10
  refine .seq ?_
  refine .rn ?_
  refine .ret ?_
  refine ⟨_, _, zz4,zz4, ?_⟩
  rw [parR_some hga]; rfl
 ·try simp at c10
  have hn := getW_none (show findI s id < 0 by omega)
  refine .skip ?_
  refine .seq ?_
  refine .rn ?_
  refine .ret ?_
  refine ⟨_, _, zz4,zz4, ?_⟩
  rw [parR_none hn]
theorem p132 (s : List Wit) (l : List Int) (hl : s.length < 65536) (hlL : l.length < 4611686018427387904) (hli : ∀ w ∈ s, w.slips.length < 4294967296 ∧ w.mended.length < 4294967296 ∧ w.models.length < 4294967296) : VPure Tryz.prog 132 [encS s, ints l] fun r => r = .tup [.int .i64 (desR s l).1, .bool (desR s l).2] := by
 refine .of_body Tryz.func132 rfl rfl ?_
 refine .seq ?_
 refine .rn ?_
 refine .seq ?_
 refine .seq ?_
 refine .rn ?_
 refine .condS rfl (fun c17 => ?_) (fun c17 => ?_)
 ·try simp at c17
  refine .seq ?_
  refine .rn ?_
  refine .ret ?_
  refine ⟨_, _, zz4,zz4, ?_⟩
  rw [desR, if_neg (by rintro ⟨h, _⟩; omega)]
 ·try simp at c17
  have he : l.length = s.length := by omega
  refine .skip ?_
  refine .seq ?_
  refine .rn ?_
  refine .seq ?_
  refine .seq ?_
  refine .rn ?_
  refine .block ?_
  refine .loopS (fun k : Nat => ([(1, ints l),(2, .ptr 0 0),(6, .int .i64 (desP s l k)),(19, .vec (s.map encW)),(20, .int .i64 s.length),(21, .int .i64 k)], ⟨1,[(0, .box [.vec (s.map encW)])]⟩)) (fun k => k ≤ s.length ∧ ((desL s l).take k).all Option.isSome = true) (fun k => s.length - k) 0 (by simp) (.mk [] [] zz14 zz15 rfl rfl rfl) ?_
  rintro k ⟨hk, hal⟩
  simp only at hk hal ⊢
  refine .seq ?_
  refine .rn ?_
  refine .seq ?_
  refine .condS rfl (fun c22 => ?_) (fun c22 => ?_)
  ·try simp at c22
   have hw2 : IntKind.i64.wrap ((k : Int) + 1) = (k : Int) + 1 := wrap64 (by omega) (by omega)
   have hkl : k < l.length := by omega
   obtain ⟨hw1, hw3, hw4⟩ := hli s[k] (List.getElem_mem c22)
   have hbd := desP_bd s l hli he k hk
   have hbd2 := stepD_bd s s[k] l[k]
   have hS := desP_succ s l k c22 hkl
   have hA := desA_succ s l k c22 hkl
   have hW3 : ∀ x : Int, 0 ≤ x → x ≤ 4294967296 → IntKind.i64.wrap (desP s l k + x) = desP s l k + x := fun x h1 h2 => wrap64 (by omega) (by omega)
   have hE : encW s[k] = .agg [.int .i64 s[k].id, .int .i64 s[k].known, ints s[k].slips, ints s[k].mended, ints s[k].models, .int .i64 s[k].lo, .int .i64 s[k].hi] := rfl
   rcases hg : getW s l[k] with _ | p
   ·skip
    refine .skip ?_
    refine .seq ?_
    refine .block ?_
    refine .seq ?_
    refine .rn ?_
    refine .seq ?_
    refine .drawn (ms := [0,0,0,6,14,31,63]) (W := [5]) (items := [.op 0, .op 1, .op 2, .op 3, .op 4, .op 5, .op 6]) rfl zz0 zz0 zz0 ?_
    refine .rx ?_
    refine .rx ?_
    refine .rx ?_
    refine .rx ?_
    refine .rx ?_
    refine .wr rfl rfl (by decide) (.pure rfl rfl rfl Tryz.call173 (by decide) ((by have h := p173 s l[k] (by omega); rw [parR_none hg] at h; exact h)) (by first | rfl | simp [*]) ?_)
    rintro _ rfl
    refine .rx ?_
    refine .done ?_
    refine .seq ?_
    refine .seq ?_
    refine .regionL [0,1,2,3,4,5,6,7,8] rfl zz0 ?_
    refine .rn [0,1,2] [3,4,5,6,7,8] ?_
    refine .split (t := 34) rfl (fun c34 => ?_) (fun c34 => ?_)
    ·try rw [c34]
     try simp at c34
     refine .rn [3,4,5,6,7,8] [] ?_
     refine .done ?_
     refine .condS rfl (fun c40 => ?_) (fun c40 => ?_)
     ·try simp at c40
      have hN : stepD s s[k] l[k] = none := by simp only [stepD, hg]; rw [if_neg (fun h => c40 h.1)]
      refine .seq ?_
      refine .rn ?_
      refine .ret ?_
      refine ⟨_, _, zz4,zz4, ?_⟩
      rw [desR_none c22 hkl hN]
     ·try simp at c40
      refine .skip ?_
      refine .seq ?_
      refine .seq ?_
      refine .regionL [0,1,2,3,4,5,6,7] rfl zz0 ?_
      refine .rn [0,1] [2,3,4,5,6,7] ?_
      refine .step rfl rfl (.pure rfl rfl rfl Tryz.call101 (by decide) (p101a s[k] hw4) (by first | rfl | simp [*]) ?_)
      rintro _ rfl
      refine .rn [3,4,5,6,7] [] ?_
      refine .done ?_
      refine .seq ?_
      refine .rn ?_
      refine .condS rfl (fun c48 => ?_) (fun c48 => ?_)
      ·try simp at c48
       have hN : stepD s s[k] l[k] = none := by simp only [stepD, hg]; rw [if_neg (fun h => c48 h.2)]
       refine .seq ?_
       refine .rn ?_
       refine .ret ?_
       refine ⟨_, _, zz4,zz4, ?_⟩
       rw [desR_none c22 hkl hN]
      ·try simp at c48
       have hN : stepD s s[k] l[k] = some (s[k].slips.length : Int) := by simp only [stepD, hg]; rw [if_pos ⟨c40, c48⟩]
       rw [hN] at hS hA
       simp only [Option.getD_some] at hS
       have hW4 := hW3 (s[k].slips.length : Int) (by omega) (by omega)
       refine .skip ?_
       refine .regionL [0,1,2,3,4,5,6] rfl zz0 ?_
       refine .rn [0,1,2] [3,4,5,6] ?_
       refine .step rfl rfl (.pure rfl rfl rfl Tryz.call109 (by decide) (p109a s[k]) (by first | rfl | simp [*]) ?_)
       rintro _ rfl
       refine .rn [4,5,6] [] ?_
       refine .done ?_
       refine .rn ?_
       refine ⟨k + 1, ⟨zz5, by rw [hA]; simpa using hal⟩, zz5,(.mk [] [] zz14 zz15 rfl rfl rfl)⟩
    ·try rw [c34]
     try simp at c34
   ·skip
    refine .skip ?_
    refine .seq ?_
    refine .block ?_
    refine .seq ?_
    refine .rn ?_
    refine .seq ?_
    refine .drawn (ms := [0,0,0,6,14,31,63]) (W := [5]) (items := [.op 0, .op 1, .op 2, .op 3, .op 4, .op 5, .op 6]) rfl zz0 zz0 zz0 ?_
    refine .rx ?_
    refine .rx ?_
    refine .rx ?_
    refine .rx ?_
    refine .rx ?_
    refine .wr rfl rfl (by decide) (.pure rfl rfl rfl Tryz.call173 (by decide) ((by have h := p173 s l[k] (by omega); rw [parR_some hg] at h; exact h)) (by first | rfl | simp [*]) ?_)
    rintro _ rfl
    refine .rx ?_
    refine .done ?_
    refine .seq ?_
    refine .seq ?_
    refine .regionL [0,1,2,3,4,5,6,7,8] rfl zz0 ?_
    refine .rn [0,1,2] [3,4,5,6,7,8] ?_
    refine .split (t := 34) rfl (fun c34 => ?_) (fun c34 => ?_)
    ·try rw [c34]
     try simp at c34
    ·try rw [c34]
     try simp at c34
     have hp := (getW_mem hg).1
     have hp1 := (hli p hp).1
     refine .rn [3,4,5,6,7,8] [] ?_
     refine .done ?_
     refine .condF rfl ?_
     refine .skip ?_
     refine .seq ?_
     refine .seq ?_
     refine .regionL [0,1,2,3,4,5,6,7] rfl zz0 ?_
     refine .rn [0,1] [2,3,4,5,6,7] ?_
     refine .step rfl rfl (.pure rfl rfl rfl Tryz.call101 (by decide) (p101b s[k] p hw1 hw3 hw4 hp1) (by first | rfl | simp [*]) ?_)
     rintro _ rfl
     refine .rn [3,4,5,6,7] [] ?_
     refine .done ?_
     refine .seq ?_
     refine .rn ?_
     refine .condS rfl (fun c48 => ?_) (fun c48 => ?_)
     ·try simp at c48
      have hN : stepD s s[k] l[k] = none := by simp only [stepD, hg]; rw [if_neg c48]
      refine .seq ?_
      refine .rn ?_
      refine .ret ?_
      refine ⟨_, _, zz4,zz4, ?_⟩
      rw [desR_none c22 hkl hN]
     ·try simp at c48
      have hN : stepD s s[k] l[k] = some ((ariS s[k] p).length : Int) := by simp only [stepD, hg]; rw [if_pos c48]
      rw [hN] at hS hA
      simp only [Option.getD_some] at hS
      have har := ariS_len s[k] p
      have hW4 := hW3 ((ariS s[k] p).length : Int) (by omega) (by omega)
      refine .skip ?_
      refine .regionL [0,1,2,3,4,5,6] rfl zz0 ?_
      refine .rn [0,1,2] [3,4,5,6] ?_
      refine .step rfl rfl (.pure rfl rfl rfl Tryz.call109 (by decide) (p109 s[k] p hw1 hp1) (by first | rfl | simp [*]) ?_)
      rintro _ rfl
      refine .rn [4,5,6] [] ?_
      refine .done ?_
      refine .rn ?_
      refine ⟨k + 1, ⟨zz5, by rw [hA]; simpa using hal⟩, zz5,(.mk [] [] zz14 zz15 rfl rfl rfl)⟩
  ·try simp at c22
   have hk2 : k = s.length := by omega
   subst hk2
   refine .exit ?_
   refine .seq ?_
   refine .rn ?_
   refine .ret ?_
   refine ⟨_, _, zz4,zz4, ?_⟩
   have hall : (desL s l).all Option.isSome = true := by
    rw [List.take_of_length_le (by simp [desL]; omega)] at hal
    simpa using hal
   rw [desR, if_pos ⟨he, hall⟩]
def bestP (s : List Wit) : List Int := (chL s).map fun c => c.1.headD 0
def bestS (s : List Wit) (k : Nat) : Int := (((chL s).take k).map (·.2)).sum
theorem chL_ok {s : List Wit} (h : chE s = 0) : chL s = s.map (choF s) := by unfold chL; rw [if_pos h]
theorem chE_ok {s : List Wit} (h : chE s = 0) : checkS s = 0 ∧ ∀ c ∈ s, (choF s c).1 ≠ [] := by
 unfold chE at h
 split at h
 ·split at h
  ·cases h
  ·rename_i h1 h2; exact ⟨h1, fun c hc h3 => h2 ⟨c, hc, h3⟩⟩
 ·contradiction
theorem choF_bd {s : List Wit} {c : Wit} (h : (choF s c).1 ≠ []) : 0 ≤ (choF s c).2 ∧ (choF s c).2 ≤ (c.slips.length : Int) := by
 rcases choF_spec s c with ⟨_, h1⟩ | ⟨_, _, y, hy, h2⟩
 ·exact absurd h1 h
 ·rcases parS_mem.1 hy with ⟨rfl, _⟩ | ⟨p, _, _, _, h4⟩
  ·simp only at h2; omega
  ·have := ariS_len c p; omega
theorem chL_get {s : List Wit} (h : chE s = 0) {k : Nat} (hk : k < (chL s).length) : ∃ a r d, (chL s)[k] = (a :: r, d) ∧ 0 ≤ d ∧ d < 4294967296 := by
 obtain ⟨h1, h2⟩ := chE_ok h
 have aux : ∀ x ∈ chL s, ∃ c ∈ s, choF s c = x := fun x hx => by rw [chL_ok h] at hx; exact List.mem_map.1 hx
 obtain ⟨c, hc, he⟩ := aux _ (List.getElem_mem hk)
 have h3 := h2 c hc
 have h4 := choF_bd h3
 have h5 := (checkS_lens h1 c hc).1
 cases h6 : (choF s c).1 with
 | nil => exact absurd h6 h3
 | cons a r => exact ⟨a, r, (choF s c).2, by rw [← he, ← h6], h4.1, by omega⟩
theorem chL_len {s : List Wit} (h : chE s = 0) : (chL s).length = s.length := by rw [chL_ok h]; simp
theorem bestS_succ (s : List Wit) (k : Nat) (hk : k < (chL s).length) : bestS s (k + 1) = bestS s k + (chL s)[k].2 := by
 unfold bestS; rw [List.take_succ_eq_append_getElem hk, List.map_append, List.sum_append]; simp only [List.map_cons, List.map_nil, List.sum_cons, List.sum_nil]; omega
theorem bestS_bd {s : List Wit} (h : chE s = 0) : ∀ k, k ≤ (chL s).length → 0 ≤ bestS s k ∧ bestS s k ≤ (k : Int) * 4294967296
 | 0, _ => by simp [bestS]
 | k + 1, hk => by
  have h1 := bestS_bd h k (by omega)
  obtain ⟨a, r, d, he, h2, h3⟩ := chL_get h (show k < (chL s).length by omega)
  rw [bestS_succ s k (by omega), he]
  constructor
  ·omega
  ·push_cast; omega
theorem p63 (s : List Wit) (hl : s.length < 65536) : VPure Tryz.prog 63 [encS s] fun r => Soft r (.tup [.agg [ints (bestP s), .int .i64 (bestS s (chL s).length)], .int .i64 (chE s)]) := by
 refine .of_body Tryz.func63 rfl rfl ?_
 refine .seq ?_
 refine .rn ?_
 refine .seq ?_
 refine .regionL [0,1,2,3,4,5,6] rfl zz0 ?_
 refine .rn [0] [1,2,3,4,5,6] ?_
 refine .step rfl rfl (.pure rfl rfl rfl Tryz.call108 (by decide) (p108' s (by omega)) (by first | rfl | simp [*]) ?_)
 rintro _ rfl
 refine .rn [2,3,4,5,6] [] ?_
 refine .done ?_
 refine .seq ?_
 refine .seq ?_
 refine .rn ?_
 refine .condS rfl (fun c15 => ?_) (fun c15 => ?_)
 ·try simp at c15
  refine .seq ?_
  refine .rn ?_
  refine .ret ?_
  refine ⟨_, _, zz4,zz4, ?_⟩
  have e2 : chL s = [] := by unfold chL; rw [if_neg c15]
  have e3 : bestP s = [] := by unfold bestP; rw [e2]; rfl
  have e4 : bestS s (chL s).length = 0 := by unfold bestS; rw [e2]; rfl
  rw [e3, e4]
  exact soft_tup (AltL.cons (.agg' (.cons .sl0v (.cons (.same _ rfl) .nil))) (AltL.cons (.same _ rfl) AltL.nil))
 ·try simp at c15
  refine .skip ?_
  refine .seq ?_
  refine .rn ?_
  refine .seq ?_
  refine .seq ?_
  refine .rn ?_
  refine .block ?_
  refine .loopS (fun k : Nat => ([(2, .ptr 1 0),(6, .ptr 2 0),(18, .vec ((chL s).map encC)),(19, .int .i64 (chL s).length),(20, .int .i64 k)], ⟨4,[(3, .grow 1 (((bestP s).take k).map (.int .i64))),(2, .box [.grow 3 k true, .int .i64 (bestS s k)]),(1, .box [.sl0, .int .i64 0]),(0, .box [.vec (s.map encW)])]⟩)) (fun k => k ≤ (chL s).length) (fun k => (chL s).length - k) 0 (by simp) (.mk [] [] zz14 zz15 rfl rfl rfl) ?_
  rintro k hk
  simp only at hk ⊢
  refine .seq ?_
  refine .rn ?_
  refine .seq ?_
  refine .condS rfl (fun c21 => ?_) (fun c21 => ?_)
  ·try simp at c21
   have hcl : (chL s).length < 65536 := by have := chL_len c15; omega
   have hw2 : IntKind.i64.wrap ((k : Int) + 1) = (k : Int) + 1 := wrap64 (by omega) (by omega)
   obtain ⟨a, r, d, hc, hd1, hd2⟩ := chL_get c15 c21
   have hE : encC (a :: r, d) = .agg [ints (a :: r), .int .i64 d] := rfl
   have hS := bestS_succ s k c21
   rw [hc] at hS
   simp only at hS
   have hbd := bestS_bd c15 k hk
   have hW4 : IntKind.i64.wrap (bestS s k + d) = bestS s k + d := wrap64 (by omega) (by omega)
   have hT : (bestP s).take (k + 1) = (bestP s).take k ++ [a] := by
    have h1 : k < (bestP s).length := by simpa [bestP] using c21
    rw [List.take_succ_eq_append_getElem h1]; simp [bestP, hc]
   have hln : min k (bestP s).length = k := by simp [bestP]; omega
   have hT2 : List.take (k + 1) (List.map (PV.int .i64) (bestP s)) = List.take k (List.map (PV.int .i64) (bestP s)) ++ [.int .i64 a] := by rw [← List.map_take, hT]; simp
   have hb : k + 1 ≤ 4294967296 := by omega
   refine .skip ?_
   refine .seq ?_
   refine .block ?_
   refine .seq ?_
   refine .rn ?_
   refine .seq ?_
   refine .drawn (ms := [0,1,0,4,12,28,60,127,255,511]) (W := [6,7,9]) (items := [.op 0, .op 1, .op 2, .op 3, .op 4, .op 5, .op 6, .ck 1, .op 7, .op 8, .op 9]) rfl zz0 zz0 zz0 ?_
   refine .rx ?_
   refine .rx ?_
   refine .rx ?_
   refine .rx ?_
   refine .rx ?_
   refine .rx ?_
   refine .wr rfl rfl (by decide) (.vop zz1 (by decide) ?_)
   refine .ck rfl zz0 ?_
   refine .wr rfl rfl (by decide) (.vop zz1 (by decide) ?_)
   refine .rx ?_
   refine .wr rfl rfl (by decide) (.vop zz1 (by decide) ?_)
   refine .done ?_
   refine .rn ?_
   refine .rn ?_
   refine ⟨k + 1, c21,zz5,(.mk [] [(3,6)] zz14 zz15 rfl rfl rfl)⟩
  ·try simp at c21
   have : k = (chL s).length := by omega
   subst this
   have hbl : (bestP s).length = (chL s).length := by simp [bestP]
   refine .exit ?_
   refine .seq ?_
   refine .rn ?_
   refine .ret ?_
   refine ⟨_, _, zz4,(by simp [hbl] <;> rfl), ?_⟩
   have e3 : List.take (chL s).length (List.map (PV.int .i64) (bestP s)) = List.map (PV.int .i64) (bestP s) := List.take_of_length_le (by simp [hbl])
   rw [c15]
   show Soft _ _
   rw [e3]
   exact soft_rfl rfl
theorem p63' (s : List Wit) (hl : s.length < 65536) : VPure Tryz.prog 63 [encS s] fun r => r = .tup [.agg [ints (bestP s), .int .i64 (bestS s (chL s).length)], .int .i64 (chE s)] := VPure.soft (p63 s hl) rfl
def cbR (s : List Wit) (l : List Int) (m : Int) : Int := if checkS s = 0 then (if (desR s l).2 = true ∧ chE s = 0 ∧ (desR s l).1 = m ∧ (desR s l).1 = bestS s (chL s).length then 0 else 8) else checkS s
theorem p55 (s : List Wit) (hl : s.length < 65536) : VPure Tryz.prog 55 [encS s] fun r => r = .tup [.int .i64 (bestS s (chL s).length), .int .i64 (chE s)] := by
 refine .of_body Tryz.func55 rfl rfl ?_
 refine .seq ?_
 refine .rn ?_
 refine .seq ?_
 refine .regionL [0,1,2,3,4,5,6,7] rfl zz0 ?_
 refine .rn [0] [1,2,3,4,5,6,7] ?_
 refine .step rfl rfl (.pure rfl rfl rfl Tryz.call63 (by decide) (p63' s hl) (by first | rfl | simp [*]) ?_)
 rintro _ rfl
 refine .rn [2,3,4,5,6,7] [] ?_
 refine .done ?_
 refine .seq ?_
 refine .rn ?_
 refine .ret ?_
 refine ⟨_, _, zz4,zz4, ?_⟩
 first | rfl | (simp [*]; done) | (simp_all; done)
theorem p56 (s : List Wit) (l : List Int) (m : Int) (hl : s.length < 65536) (hlL : l.length < 4611686018427387904) : VPure Tryz.prog 56 [encS s, .agg [ints l, .int .i64 m]] fun r => r = .int .i64 (cbR s l m) := by
 refine .of_body Tryz.func56 rfl rfl ?_
 refine .seq ?_
 refine .rn ?_
 refine .seq ?_
 refine .seq ?_
 refine .regionL [0,1,2] rfl zz0 ?_
 refine .rn [0] [1,2] ?_
 refine .step rfl rfl (.pure rfl rfl rfl Tryz.call35 (by decide) (p35 s (by omega)) (by first | rfl | simp [*]) ?_)
 rintro _ rfl
 refine .rn [2] [] ?_
 refine .done ?_
 refine .seq ?_
 refine .rn ?_
 refine .condS rfl (fun c13 => ?_) (fun c13 => ?_)
 ·try simp at c13
  refine .seq ?_
  refine .rn ?_
  refine .ret ?_
  refine ⟨_, _, zz4,zz4, ?_⟩
  simp_all [cbR]
 ·try simp at c13
  refine .skip ?_
  refine .seq ?_
  refine .regionL [0,1,2,3,4,5,6,7,8] rfl zz0 ?_
  refine .rn [0,1,2] [3,4,5,6,7,8] ?_
  refine .step rfl rfl (.pure rfl rfl rfl Tryz.call132 (by decide) (p132 s l hl hlL (checkS_lens c13)) (by first | rfl | simp [*]) ?_)
  rintro _ rfl
  refine .rn [4,5,6,7,8] [] ?_
  refine .done ?_
  refine .seq ?_
  refine .regionL [0,1,2,3,4,5,6] rfl zz0 ?_
  refine .rn [0] [1,2,3,4,5,6] ?_
  refine .step rfl rfl (.pure rfl rfl rfl Tryz.call55 (by decide) (p55 s hl) (by first | rfl | simp [*]) ?_)
  rintro _ rfl
  refine .rn [2,3,4,5,6] [] ?_
  refine .done ?_
  refine .seq ?_
  refine .seq ?_
  refine .regionL [0,1,2,3,4,5,6,7,8,9,10,11,12,13,14,15,16] rfl zz0 ?_
  refine .rn [0,1,2] [3,4,5,6,7,8,9,10,11,12,13,14,15,16] ?_
  refine .split (t := 29) rfl (fun c29 => ?_) (fun c29 => ?_)
  ·try rw [c29]
   try simp at c29
   refine .rn [3,4,5,6,7,8,9,10,11,12,13,14,15,16] [] ?_
   refine .done ?_
   refine .condT rfl ?_
   refine .seq ?_
   refine .rn ?_
   refine .ret ?_
   refine ⟨_, _, zz4,zz4, ?_⟩
   simp_all [cbR]
  ·try rw [c29]
   try simp at c29
   refine .rn [3,4,5,6] [7,8,9,10,11,12,13,14,15,16] ?_
   refine .split (t := 33) rfl (fun c33 => ?_) (fun c33 => ?_)
   ·try rw [c33]
    try simp at c33
    refine .rn [7,8,9,10,11,12,13,14,15,16] [] ?_
    refine .done ?_
    refine .condT rfl ?_
    refine .seq ?_
    refine .rn ?_
    refine .ret ?_
    refine ⟨_, _, zz4,zz4, ?_⟩
    simp_all [cbR]
   ·try rw [c33]
    try simp at c33
    refine .rn [7,8,9,10,11,12] [13,14,15,16] ?_
    refine .split (t := 39) rfl (fun c39 => ?_) (fun c39 => ?_)
    ·try rw [c39]
     try simp at c39
     refine .rn [13,14,15,16] [] ?_
     refine .done ?_
     refine .condT rfl ?_
     refine .seq ?_
     refine .rn ?_
     refine .ret ?_
     refine ⟨_, _, zz4,zz4, ?_⟩
     simp_all [cbR]
    ·try rw [c39]
     try simp at c39
     refine .rn [13,14,15,16] [] ?_
     refine .done ?_
     refine .condS rfl (fun c43 => ?_) (fun c43 => ?_)
     ·try simp at c43
      refine .seq ?_
      refine .rn ?_
      refine .ret ?_
      refine ⟨_, _, zz4,zz4, ?_⟩
      simp_all [cbR]
     ·try simp at c43
      refine .skip ?_
      refine .seq ?_
      refine .rn ?_
      refine .ret ?_
      refine ⟨_, _, zz4,zz4, ?_⟩
      simp_all [cbR]
end Go.Am.Ds
end
section
namespace Go.Am.Ds
open Go Go.Am Go.Proofs
theorem getW_own : ∀ {s : List Wit},(s.map Wit.id).Nodup → ∀ {w : Wit}, w ∈ s → getW s w.id = some w
 | a :: r, hn, w, hw => by
  rw [List.map_cons, List.nodup_cons] at hn
  unfold getW
  rw [List.find?_cons]
  rcases List.mem_cons.1 hw with rfl | hw
  ·simp
  ·have : a.id ≠ w.id := fun h => hn.1 (h ▸ List.mem_map_of_mem hw)
   rw [show decide (a.id = w.id) = false from decide_eq_false this]
   exact getW_own hn.2 hw
end Go.Am.Ds
end
section
namespace Go.Am.Ds
open Go Go.Am Go.Proofs
end Go.Am.Ds
end
section
namespace Go.Am.Ds
open Go Go.Am Go.Proofs
end Go.Am.Ds
end
section
namespace Go.Am.Ds
open Go Go.Am Go.Proofs
theorem getW_zero {s : List Wit} (h : checkS s = 0) : getW s 0 = none := by
 cases hg : getW s 0 with
 | none => rfl
 | some p =>
  obtain ⟨hp, h0⟩ := getW_mem hg
  have := checkS_pos h p hp
  omega
end Go.Am.Ds
end
section
namespace Go.Am.Ds
open Go Go.Am Go.Proofs
attribute [local simp] vrun vwanted vyielded vop vopA vputAll VHeap.back hidI hidF backL bm Nat.testBit_eq_decide_div_mod_eq veval vevals vparts vO vbuiltin vlen vappend velems vcopy vmakeSlice vbuildSlice valloc vbox vmakeMap vload vpartT vpart vstore vfieldAddr vfield vindexAddr vindex vextract vslice vsliceZ vbounds vbnd zeroO vidx vlookup vmget vmapUpdate vdelete vclear vnilq vnilp vnils vbin vsc vsc1 vscs vscl abinOp aint ashift aunOp aconvert amaxs amax2 pvcV pvc pvcs tput tget vargs VHeap.get VHeap.alloc VHeap.put VHeap.drop VHeap.empty vlook vput vdrop psplice pfill preps chunk List.range List.range.loop vresults vresult vresultV frz frzL PV.isF PV.allF PV.scal PV.allS retP subT allFT PV.one PV.ids PV.idsL dropL beq_eq ble_dec blt_dec
attribute [local simp] zW tup2
theorem wrapU64 {n : Int} (h1 : 0 ≤ n) (h2 : n < 9223372036854775808) : IntKind.u64.wrap n = n := by
 simp [IntKind.wrap, IntKind.bits, IntKind.signed]; omega
theorem p217 (n : Int) : VPure Tryz.prog 217 [.int .i64 n] fun r => r = .bool false := by
 refine .of_body Tryz.func217 rfl rfl ?_
 refine .seq ?_
 refine .rn ?_
 refine .seq ?_
 refine .rn ?_
 refine .ret ?_
 refine ⟨_, _, zz4,zz4, ?_⟩
 first | rfl | (simp [*]; done) | (simp_all; done)
theorem p198 (a b : Int) : VPure Tryz.prog 198 [.int .i64 a, .int .i64 b] fun r => r = .bool (decide (a < b)) := by
 refine .of_body Tryz.func198 rfl rfl ?_
 refine .seq ?_
 refine .rn ?_
 refine .seq ?_
 refine .regionL [0,1,2,3,4,5,6,7,8,9,10,11,12] rfl zz0 ?_
 refine .rn [0] [1,2,3,4,5,6,7,8,9,10,11,12] ?_
 refine .step rfl rfl (.pure rfl rfl rfl Tryz.call217 (by decide) (p217 _) (by first | rfl | simp [*]) ?_)
 rintro _ rfl
 refine .rn [2] [3,4,5,6,7,8,9,10,11,12] ?_
 refine .split (t := 7) rfl (fun c7 => ?_) (fun c7 => ?_)
 ·try rw [c7]
  try simp at c7
 ·try rw [c7]
  try simp at c7
  refine .rn [3,4,5,6,7,8,9,10,11,12] [] ?_
  refine .done ?_
  refine .ret ?_
  refine ⟨_, _, zz4,zz4, ?_⟩
  first | rfl | (simp [*]; done) | (simp_all; done)
theorem p161 (l : List Int) (t : Int) (p : Nat) (hp : p < l.length) (ht : l[p] = t) (hs : l.Pairwise (· < ·)) (hl : l.length < 4294967296) : VPure Tryz.prog 161 [ints l, .int .i64 t] fun r => r = .tup [.int .i64 p, .bool true] := by
 have hlt : ∀ h : Nat, ∀ hh : h < l.length, (l[h] < t ↔ h < p) := fun h hh => by
  rw [List.pairwise_iff_getElem] at hs
  rcases Nat.lt_trichotomy h p with h1 | h1 | h1
  ·have := hs h p hh hp h1; exact ⟨fun _ => h1, fun _ => by omega⟩
  ·subst h1; omega
  ·have := hs p h hp hh h1; omega
 refine .of_body Tryz.func161 rfl rfl ?_
 refine .seq ?_
 refine .rn ?_
 refine .seq ?_
 refine .rn ?_
 refine .seq ?_
 refine .rn ?_
 refine .seq ?_
 refine .block ?_
 refine .loopS (fun st : Nat × Nat => ([(0, ints l),(1, .int .i64 t),(6, .int .i64 l.length),(7, .int .i64 st.1),(8, .int .i64 st.2)], VHeap.empty)) (fun st => st.1 ≤ p ∧ p ≤ st.2 ∧ st.2 ≤ l.length) (fun st => st.2 - st.1) (0, l.length) ⟨by simp, by simp; omega, by simp⟩ (.mk [] [] zz14 zz15 rfl rfl rfl) ?_
 rintro ⟨i, j⟩ ⟨h1, h2, h3⟩
 simp only at h1 h2 h3 ⊢
 refine .seq ?_
 refine .seq ?_
 refine .rn ?_
 refine .condS rfl (fun c15 => ?_) (fun c15 => ?_)
 ·try simp at c15
  have hij : i < j := by omega
  have hw1 : IntKind.i64.wrap ((i : Int) + (j : Int)) = (i : Int) + (j : Int) := wrap64 (by omega) (by omega)
  have hw2 : IntKind.u64.wrap ((i : Int) + (j : Int)) = (i : Int) + (j : Int) := wrapU64 (by omega) (by omega)
  have hbits : IntKind.u64.bits = 64 := rfl
  obtain ⟨m, hm, hm1, hm2⟩ : ∃ m : Nat, ((i : Int) + (j : Int)).fdiv 2 = (m : Int) ∧ i ≤ m ∧ m < j := ⟨(i + j) / 2, by rw [Int.fdiv_eq_ediv_of_nonneg _ (by omega)]; omega, by omega, by omega⟩
  have hh : m < l.length := by omega
  have hw3 : IntKind.i64.wrap (m : Int) = (m : Int) := wrap64 (by omega) (by omega)
  have hw4 : IntKind.i64.wrap ((m : Int) + 1) = (m : Int) + 1 := wrap64 (by omega) (by omega)
  have hcmp := hlt m hh
  refine .skip ?_
  refine .block ?_
  refine .seq ?_
  refine .rn ?_
  refine .seq ?_
  refine .regionL [0,1,2,3,4,5] rfl zz0 ?_
  refine .rn [0,1,2,3,4] [5] ?_
  refine .step rfl rfl (.pure rfl rfl rfl Tryz.call198 (by decide) (p198 _ _) (by first | rfl | simp [*]) ?_)
  rintro _ rfl
  refine .done ?_
  refine .condS rfl (fun c27 => ?_) (fun c27 => ?_)
  ·try simp at c27
   refine .rn ?_
   refine ⟨(m + 1, j), ⟨by simp only; omega, h2, h3⟩, by simp only; omega, (.mk [] [] zz14 zz15 rfl rfl rfl)⟩
  ·try simp at c27
   refine .rn ?_
   refine ⟨(i, m), ⟨h1, by simp only; omega, by simp only; omega⟩, by simp only; omega, (.mk [] [] zz14 zz15 rfl rfl rfl)⟩
 ·try simp at c15
  have hip : i = p := by omega
  subst hip
  refine .exit ?_
  refine .seq ?_
  refine .regionL [0,1,2,3,4,5,6,7,8,9,10,11,12,13,14,15,16,17,18,19,20,21,22,23,24] rfl zz0 ?_
  refine .rn [0,1,2,3,4] [5,6,7,8,9,10,11,12,13,14,15,16,17,18,19,20,21,22,23,24] ?_
  refine .split (t := 35) rfl (fun c35 => ?_) (fun c35 => ?_)
  ·try rw [c35]
   try simp at c35
   refine .rn [5,6,7,8,9,10,11] [12,13,14,15,16,17,18,19,20,21,22,23,24] ?_
   refine .split (t := 42) rfl (fun c42 => ?_) (fun c42 => ?_)
   ·try rw [c42]
    try simp at c42
    refine .rn [12,13,14,15,16,17,18,19,20,21,22,23,24] [] ?_
    refine .done ?_
    refine .ret ?_
    refine ⟨_, _, zz4,zz4, ?_⟩
    first | rfl | (simp [*]; done) | (simp_all; done)
   ·try rw [c42]
    try simp at c42
  ·try rw [c35]
   try simp at c35
attribute [local simp] zW tup2
def kvM (l : List (Int × Int)) : List (Int × PV) := l.map fun x => (x.1, .int .u32 x.2)
def getM (l : List (Int × Int)) (n : Int) : Option Int := (l.find? fun x => decide (x.1 = n)).map (·.2)
def setM (l : List (Int × Int)) (n v : Int) : List (Int × Int) := match getM l n with
 | some _ => l.map fun x => if x.1 = n then (x.1, v) else x
 | none => l ++ [(n, v)]
theorem pfind_kvM (n : Int) : ∀ l : List (Int × Int), pfind .i64 n (kvs (kvM l)) = some ((getM l n).map (PV.int .u32))
 | [] => rfl
 | x :: r => by
  have ih := pfind_kvM n r
  unfold getM kvM kvs at ih ⊢
  simp only [List.map_cons, pfind, decide_true, cond_true]
  rw [ih, List.find?_cons]
  cases h : decide (x.1 = n) <;> simp
theorem map_qput_kvM (n v : Int) : ∀ l : List (Int × Int),(kvs (kvM l)).map (qput n (.int .u32 v)) = kvs (kvM (l.map fun x => if x.1 = n then (x.1, v) else x))
 | [] => rfl
 | x :: r => by
  have ih := map_qput_kvM n v r
  unfold kvM kvs at ih ⊢
  simp only [List.map_cons, qput] at ih ⊢
  rw [ih]
  by_cases h : x.1 = n <;> simp [h]
theorem pmset_kvM (n v : Int) (l : List (Int × Int)) : pmset .i64 n (.int .u32 v) (kvs (kvM l)) = some (kvs (kvM (setM l n v))) := by
 unfold pmset setM
 rw [pfind_kvM]
 cases h : getM l n with
 | none => simp [kvs, kvM]
 | some y => simp [map_qput_kvM]
theorem getM_none {l : List (Int × Int)} {n : Int} (h : getM l n = none) : n ∉ l.map (·.1) := by
 unfold getM at h
 rw [Option.map_eq_none_iff, List.find?_eq_none] at h
 intro h1
 obtain ⟨x, hx, rfl⟩ := List.mem_map.1 h1
 exact h x hx (by simp)
theorem setM_keys (l : List (Int × Int)) (n v : Int) : (setM l n v).map (·.1) = if (getM l n).isSome = true then l.map (·.1) else l.map (·.1) ++ [n] := by
 unfold setM
 cases h : getM l n with
 | none => simp
 | some y =>
  simp only [Option.isSome_some, if_true, List.map_map]
  apply List.map_congr_left
  intro x _
  simp only [Function.comp]
  split <;> rfl
theorem setM_nodup {l : List (Int × Int)} (h : (l.map (·.1)).Nodup) (n v : Int) : ((setM l n v).map (·.1)).Nodup := by
 rw [setM_keys]
 cases h1 : getM l n with
 | some y => simpa using h
 | none =>
  simp only [Option.isSome_none, Bool.false_eq_true, if_false]
  exact List.nodup_append.2 ⟨h, by simp, fun a ha b hb hab => by rw [List.mem_singleton] at hb; subst hab; subst hb; exact getM_none h1 ha⟩
theorem getM_mem {l : List (Int × Int)} {n : Int} : (getM l n).isSome = true ↔ n ∈ l.map (·.1) := by
 unfold getM
 rw [Option.isSome_map, List.find?_isSome]
 simp
theorem setM_mem {l : List (Int × Int)} {n v m : Int} : m ∈ (setM l n v).map (·.1) ↔ m ∈ l.map (·.1) ∨ m = n := by
 rw [setM_keys]
 split
 ·rename_i h
  rw [getM_mem] at h
  exact ⟨.inl, fun h2 => h2.elim id fun h3 => h3 ▸ h⟩
 ·simp
def posI (s : List Wit) (id : Int) : Nat := (idsS s).idxOf id
def orV (a b : Int) : Int := IntKind.u32.wrap ((BitVec.ofInt 32 a ||| BitVec.ofInt 32 b).toNat : Int)
def bitV (k : Nat) : Int := IntKind.u32.wrap (2 ^ min k 32)
def orU (a : Int) (k : Nat) : Int := orV a (bitV k)
@[local simp ↓ high] theorem aint_or32 (a b : Int) : aint .or .u32 a b = some (.int .u32 (orV a b)) := rfl
@[local simp ↓ high] theorem ashl32 (k : Nat) : ashift .shl .u32 1 (k : Int) = some (.int .u32 (bitV k)) := by
 unfold ashift bitV
 have h : ¬ ((k : Int) < 0) := by omega
 rw [decide_eq_false h, cond_false, Int.toNat_natCast, Int.one_mul]; rfl
def putM (k : Nat) (es : List (Int × Int)) (n : Int) : List (Int × Int) := setM es n (orU ((getM es n).getD 0) k)
def heldF (s : List Wit) (es : List (Int × Int)) (w : Wit) : List (Int × Int) := w.slips.foldl (putM (posI s w.id)) es
def heldM (s : List Wit) : List (Int × Int) := s.foldl (heldF s) []
theorem pos_get {s : List Wit} {w : Wit} (hw : w ∈ s) : ∃ h : posI s w.id < (idsS s).length, (idsS s)[posI s w.id] = w.id := by
 have h1 : posI s w.id < (idsS s).length := List.idxOf_lt_length_iff.2 (idsS_mem.2 ⟨w, hw, rfl⟩)
 exact ⟨h1, List.getElem_idxOf h1⟩
theorem p94 (s : List Wit) (h : checkS s = 0) : VPure Tryz.prog 94 [encS s] fun r => r = .vmap (kvs (kvM (heldM s))) := by
 have hl24 := (checkS_ok h).1
 have hidl := idsS_len s
 have hso := idsS_sorted (checkS_nodup h)
 refine .of_body Tryz.func94 rfl rfl ?_
 refine .seq ?_
 refine .rn ?_
 refine .seq ?_
 refine .regionL [0,1,2,3,4] rfl zz0 ?_
 refine .rn [0,1] [2,3,4] ?_
 refine .step rfl rfl (.pure rfl rfl rfl Tryz.call99 (by decide) (p99' s (by omega)) (by first | rfl | simp [*]) ?_)
 rintro _ rfl
 refine .rn [3,4] [] ?_
 refine .done ?_
 refine .seq ?_
 refine .seq ?_
 refine .rn ?_
 refine .block ?_
 refine .loopS (fun st : Nat × List (Int × Int) => ([(3, .mapv 1),(4, ints (idsS s)),(15, .vec (s.map encW)),(16, .int .i64 s.length),(17, .int .i64 st.1)], ⟨2,[(1, .map (kvs (kvM st.2))),(0, .box [.vec (s.map encW)])]⟩)) (fun st => st.1 ≤ s.length ∧ (s.drop st.1).foldl (heldF s) st.2 = heldM s) (fun st => s.length - st.1) (0,[]) ⟨by simp, by simp [heldM]⟩ (.mk [] [] zz14 zz15 rfl rfl rfl) ?_
 rintro ⟨i, es⟩ ⟨hi, hr⟩
 simp only at hi hr ⊢
 refine .seq ?_
 refine .rn ?_
 refine .seq ?_
 refine .condS rfl (fun c18 => ?_) (fun c18 => ?_)
 ·try simp at c18
  have hw2 : IntKind.i64.wrap ((i : Int) + 1) = (i : Int) + 1 := wrap64 (by omega) (by omega)
  have hE : encW s[i] = .agg [.int .i64 s[i].id, .int .i64 s[i].known, ints s[i].slips, ints s[i].mended, ints s[i].models, .int .i64 s[i].lo, .int .i64 s[i].hi] := rfl
  rw [foldl_drop (heldF s) s i c18] at hr
  obtain ⟨hp1, hp2⟩ := pos_get (List.getElem_mem c18)
  have hsl := ((checkS_lens h) s[i] (List.getElem_mem c18)).1
  obtain ⟨p, hp⟩ : ∃ p, posI s s[i].id = p := ⟨_, rfl⟩
  have hp24 : p < 24 := by omega
  refine .skip ?_
  refine .seq ?_
  refine .block ?_
  refine .seq ?_
  refine .rn ?_
  refine .seq ?_
  refine .regionL [0,1,2,3,4,5,6,7,8] rfl zz0 ?_
  refine .rn [0,1,2] [3,4,5,6,7,8] ?_
  refine .step rfl rfl (.pure rfl rfl rfl Tryz.call161 (by decide) ((by have h := p161 (idsS s) s[i].id (posI s s[i].id) hp1 hp2 hso (by omega); rw [hp] at h; exact h)) (by first | rfl | simp [*]) ?_)
  rintro _ rfl
  refine .rn [4,5,6,7,8] [] ?_
  refine .done ?_
  refine .seq ?_
  refine .rn ?_
  refine .block ?_
  refine .loopS (fun st : Nat × List (Int × Int) => ([(3, .mapv 1),(4, ints (idsS s)),(7, .int .i64 p),(15, .vec (s.map encW)),(16, .int .i64 s.length),(17, .int .i64 i),(29, ints s[i].slips),(30, .int .i64 s[i].slips.length),(31, .int .i64 st.1)], ⟨2,[(1, .map (kvs (kvM st.2))),(0, .box [.vec (s.map encW)])]⟩)) (fun st => st.1 ≤ s[i].slips.length ∧ (s[i].slips.drop st.1).foldl (putM p) st.2 = s[i].slips.foldl (putM p) es) (fun st => s[i].slips.length - st.1) (0, es) ⟨by simp, by simp⟩ (.mk [] [] zz14 zz15 rfl rfl rfl) ?_
  rintro ⟨j, es2⟩ ⟨hj, hs⟩
  simp only at hj hs ⊢
  refine .seq ?_
  refine .rn ?_
  refine .seq ?_
  refine .condS rfl (fun c32 => ?_) (fun c32 => ?_)
  ·try simp at c32
   have hw3 : IntKind.i64.wrap ((j : Int) + 1) = (j : Int) + 1 := wrap64 (by omega) (by omega)
   rw [foldl_drop (putM p) s[i].slips j c32] at hs
   have hpf := pfind_kvM s[i].slips[j] es2
   have hpm := fun v => pmset_kvM s[i].slips[j] v es2
   rcases hgm : getM es2 s[i].slips[j] with _ | v0 <;> rw [hgm] at hpf <;> simp only [Option.map] at hpf
   ·skip
    refine .skip ?_
    refine .seq ?_
    refine .block ?_
    refine .seq ?_
    refine .rn ?_
    refine .drawn (ms := [0,0,3,0,8,31,63]) (W := [6]) (items := [.op 0, .op 1, .op 2, .op 3, .op 4, .op 5, .op 6]) rfl zz0 zz0 zz0 ?_
    refine .rx ?_
    refine .rx ?_
    refine .rx ?_
    refine .rx ?_
    refine .rx ?_
    refine .rx ?_
    refine .wr rfl rfl (by decide) (.vop zz1 (by decide) ?_)
    refine .done ?_
    refine .rn ?_
    have hpu : putM p es2 s[i].slips[j] = setM es2 s[i].slips[j] (orV 0 (bitV p)) := by unfold putM; rw [hgm]; rfl
    refine ⟨(j + 1, putM p es2 s[i].slips[j]), ⟨zz5, hs⟩, zz5,(.mk [] [] zz14 zz15 rfl rfl rfl)⟩
   ·skip
    refine .skip ?_
    refine .seq ?_
    refine .block ?_
    refine .seq ?_
    refine .rn ?_
    refine .drawn (ms := [0,0,3,0,8,31,63]) (W := [6]) (items := [.op 0, .op 1, .op 2, .op 3, .op 4, .op 5, .op 6]) rfl zz0 zz0 zz0 ?_
    refine .rx ?_
    refine .rx ?_
    refine .rx ?_
    refine .rx ?_
    refine .rx ?_
    refine .rx ?_
    refine .wr rfl rfl (by decide) (.vop zz1 (by decide) ?_)
    refine .done ?_
    refine .rn ?_
    have hpu : putM p es2 s[i].slips[j] = setM es2 s[i].slips[j] (orV v0 (bitV p)) := by unfold putM; rw [hgm]; rfl
    refine ⟨(j + 1, putM p es2 s[i].slips[j]), ⟨zz5, hs⟩, zz5,(.mk [] [] zz14 zz15 rfl rfl rfl)⟩
  ·try simp at c32
   have hj2 : j = s[i].slips.length := by omega
   refine .exit ?_
   refine .rn ?_
   refine ⟨(i + 1, es2), ⟨zz5, ?_⟩, zz5,(.mk [] [] zz14 zz15 rfl rfl rfl)⟩
   rw [← hr, heldF, hp, ← hs, hj2, List.drop_length]; rfl
 ·try simp at c18
  have hi2 : i = s.length := by omega
  refine .exit ?_
  refine .seq ?_
  refine .rn ?_
  refine .ret ?_
  refine ⟨_, _, zz4,zz4, ?_⟩
  rw [← hr, hi2, List.drop_length]; rfl
end Go.Am.Ds
end
section
namespace Go.Am.Ds
open Go Go.Am Go.Proofs
theorem nodup_sub : ∀ {l m : List Int}, l.Nodup → (∀ x ∈ l, x ∈ m) → l.length ≤ m.length
 | [], _, _, _ => Nat.zero_le _
 | a :: r, m, hn, h => by
  rw [List.nodup_cons] at hn
  have ha := h a List.mem_cons_self
  have ih := nodup_sub (l := r) (m := m.erase a) hn.2 fun x hx => (List.mem_erase_of_ne (by rintro rfl; exact hn.1 hx)).2 (h x (List.mem_cons_of_mem _ hx))
  rw [List.length_erase_of_mem ha] at ih
  have := List.length_pos_iff.2 (List.ne_nil_of_mem ha)
  rw [List.length_cons]; omega
theorem foldM_mem (k : Nat) : ∀ (l : List Int) (es : List (Int × Int)) (n : Int), n ∈ (l.foldl (putM k) es).map (·.1) ↔ n ∈ es.map (·.1) ∨ n ∈ l
 | [], es, n => by simp
 | a :: r, es, n => by
  rw [List.foldl_cons, foldM_mem k r, putM, setM_mem, List.mem_cons]
  constructor
  ·rintro ((h | h) | h)
   ·exact .inl h
   ·exact .inr (.inl h)
   ·exact .inr (.inr h)
  ·rintro (h | h | h)
   ·exact .inl (.inl h)
   ·exact .inl (.inr h)
   ·exact .inr h
theorem foldM_nodup (k : Nat) : ∀ (l : List Int) (es : List (Int × Int)),(es.map (·.1)).Nodup → ((l.foldl (putM k) es).map (·.1)).Nodup
 | [], _, h => h
 | a :: r, es, h => by rw [List.foldl_cons]; exact foldM_nodup k r _ (setM_nodup h _ _)
theorem heldM_mem {s : List Wit} {n : Int} : n ∈ (heldM s).map (·.1) ↔ ∃ w ∈ s, n ∈ w.slips := by
 have : ∀ (l : List Wit) (es : List (Int × Int)), n ∈ (l.foldl (heldF s) es).map (·.1) ↔ n ∈ es.map (·.1) ∨ ∃ w ∈ l, n ∈ w.slips := by
  intro l
  induction l with
  | nil => intro es; simp
  | cons a r ih =>
   intro es
   rw [List.foldl_cons, ih, heldF, foldM_mem]
   constructor
   ·rintro ((h | h) | ⟨w, h1, h2⟩)
    ·exact .inl h
    ·exact .inr ⟨a, List.mem_cons_self, h⟩
    ·exact .inr ⟨w, List.mem_cons_of_mem _ h1, h2⟩
   ·rintro (h | ⟨w, h1, h2⟩)
    ·exact .inl (.inl h)
    ·rcases List.mem_cons.1 h1 with rfl | h1
     ·exact .inl (.inr h2)
     ·exact .inr ⟨w, h1, h2⟩
 unfold heldM
 rw [this]; simp
theorem heldM_nodup (s : List Wit) : ((heldM s).map (·.1)).Nodup := by
 have : ∀ (l : List Wit) (es : List (Int × Int)),(es.map (·.1)).Nodup → ((l.foldl (heldF s) es).map (·.1)).Nodup := by
  intro l
  induction l with
  | nil => intro es h; exact h
  | cons a r ih => intro es h; exact ih _ (foldM_nodup _ _ _ h)
 exact this s [] (by simp)
theorem heldM_len {s : List Wit} (h : checkS s = 0) : (heldM s).length ≤ 24 * 30 := by
 obtain ⟨h1, h2⟩ := checkS_ok h
 have e1 : ((heldM s).map (·.1)).length ≤ (s.flatMap Wit.slips).length := nodup_sub (heldM_nodup s) fun x hx => by
  obtain ⟨w, hw, hx⟩ := heldM_mem.1 hx
  exact List.mem_flatMap.2 ⟨w, hw, hx⟩
 have e2 : ∀ l : List Wit, (∀ w ∈ l, w.slips.length ≤ 30) → (l.flatMap Wit.slips).length ≤ l.length * 30 := by
  intro l
  induction l with
  | nil => intro _; simp
  | cons a r ih =>
   intro h3
   have := ih fun w hw => h3 w (List.mem_cons_of_mem _ hw)
   have := h3 a List.mem_cons_self
   rw [List.flatMap_cons, List.length_append, List.length_cons]; omega
 have e3 := e2 s fun w hw => (witE_len (h2 w hw)).1
 have e4 : s.length * 30 ≤ 24 * 30 := Nat.mul_le_mul_right 30 h1
 rw [List.length_map] at e1; omega
def slipsL (s : List Wit) : List Int := ((heldM s).map (·.1)).mergeSort fun x y => decide (x ≤ y)
theorem slipsL_len (s : List Wit) : (slipsL s).length = (heldM s).length := by simp [slipsL]
theorem slipsL_mem {s : List Wit} {n : Int} : n ∈ slipsL s ↔ ∃ w ∈ s, n ∈ w.slips := by
 unfold slipsL; rw [List.mem_mergeSort, heldM_mem]
theorem kvM_keys (l : List (Int × Int)) : (kvM l).map (·.1) = l.map (·.1) := by unfold kvM; rw [List.map_map]; rfl
end Go.Am.Ds
end
section
namespace Go.Am.Ds
open Go Go.Am Go.Proofs
attribute [local simp] vrun vwanted vyielded vop vopA vputAll VHeap.back hidI hidF backL bm Nat.testBit_eq_decide_div_mod_eq veval vevals vparts vO vbuiltin vlen vappend velems vcopy vmakeSlice vbuildSlice valloc vbox vmakeMap vload vpartT vpart vstore vfieldAddr vfield vindexAddr vindex vextract vslice vsliceZ vbounds vbnd zeroO vidx vlookup vmget vmapUpdate vdelete vclear vnilq vnilp vnils vbin vsc vsc1 vscs vscl abinOp aint ashift aunOp aconvert amaxs amax2 pvcV pvc pvcs tput tget vargs VHeap.get VHeap.alloc VHeap.put VHeap.drop VHeap.empty vlook vput vdrop psplice pfill preps chunk List.range List.range.loop vresults vresult vresultV frz frzL PV.isF PV.allF PV.scal PV.allS retP subT allFT PV.one PV.ids PV.idsL dropL beq_eq ble_dec blt_dec
attribute [local simp] zW tup2
end Go.Am.Ds
end
section
namespace Go.Am.Ds
open Go Go.Am Go.Proofs
def andV (a b : Int) : Int := IntKind.u32.wrap ((BitVec.ofInt 32 a &&& BitVec.ofInt 32 b).toNat : Int)
def anV (a b : Int) : Int := IntKind.u32.wrap ((BitVec.ofInt 32 a &&& ~~~ BitVec.ofInt 32 b).toNat : Int)
def shrV (a : Int) (k : Nat) : Int := a.fdiv (2 ^ min k 32)
def crossV (x y : Int) : Bool := (andV x y != 0) && ((anV x y != 0) && (anV y x != 0))
def bitB (m : Int) (k : Nat) : Bool := andV (shrV m k) 1 == 1
def amP (m : Int) (l : List Int) (k : Nat) : List Int := (List.range k).filterMap fun i => if bitB m i then l[i]? else none
def amL (m : Int) (l : List Int) : List Int := amP m l l.length
theorem amP_succ (m : Int) (l : List Int) (k : Nat) (h : k < l.length) : amP m l (k + 1) = if bitB m k = true then amP m l k ++ [l[k]] else amP m l k := by
 unfold amP
 rw [List.range_succ, List.filterMap_append]
 by_cases hb : bitB m k = true
 ·rw [if_pos hb]; simp [hb, h]
 ·rw [if_neg hb]; simp [hb]
theorem amP_le (m : Int) (l : List Int) (k : Nat) : (amP m l k).length ≤ k := by
 unfold amP
 exact Nat.le_trans (List.length_filterMap_le _ _) (by simp)
theorem u32_small {n : Nat} (h : n < 4294967296) : IntKind.u32.wrap (n : Int) = (n : Int) := wrapu32 (by omega) (by omega)
theorem bv_nat (n : Nat) : (BitVec.ofInt 32 (n : Int)).toNat = n % 4294967296 := by
 rw [BitVec.ofInt_natCast, BitVec.toNat_ofNat]
theorem andV_nat {a b : Nat} (ha : a < 4294967296) (hb : b < 4294967296) : andV (a : Int) (b : Int) = ((a &&& b : Nat) : Int) := by
 unfold andV
 rw [BitVec.toNat_and, bv_nat, bv_nat, Nat.mod_eq_of_lt ha, Nat.mod_eq_of_lt hb]
 exact u32_small (Nat.lt_of_le_of_lt Nat.and_le_left ha)
theorem orV_nat {a b : Nat} (ha : a < 4294967296) (hb : b < 4294967296) : orV (a : Int) (b : Int) = ((a ||| b : Nat) : Int) := by
 unfold orV
 rw [BitVec.toNat_or, bv_nat, bv_nat, Nat.mod_eq_of_lt ha, Nat.mod_eq_of_lt hb]
 exact u32_small (Nat.or_lt_two_pow (n := 32) ha hb)
def anN (a b : Nat) : Nat := (BitVec.ofInt 32 (a : Int) &&& ~~~ BitVec.ofInt 32 (b : Int)).toNat
theorem anV_nat {a b : Nat} : anV (a : Int) (b : Int) = ((anN a b : Nat) : Int) := by
 unfold anV anN
 exact u32_small (BitVec.isLt _)
theorem anN_bit {a b : Nat} (ha : a < 4294967296) (hb : b < 4294967296) (k : Nat) : (anN a b).testBit k = (a.testBit k && !b.testBit k) := by
 unfold anN
 rw [BitVec.testBit_toNat, BitVec.getLsbD_and, BitVec.getLsbD_not, ← BitVec.testBit_toNat, ← BitVec.testBit_toNat, bv_nat, bv_nat, Nat.mod_eq_of_lt ha, Nat.mod_eq_of_lt hb]
 by_cases hk : k < 32
 ·simp [hk]
 ·have : a.testBit k = false := Nat.testBit_lt_two_pow (Nat.lt_of_lt_of_le ha (show (2 : Nat) ^ 32 ≤ 2 ^ k from Nat.pow_le_pow_right (by omega) (by omega)))
  simp [this, hk]
theorem anN_lt (a b : Nat) : anN a b < 4294967296 := BitVec.isLt _
theorem bitV_nat {k : Nat} (h : k < 32) : bitV k = ((2 ^ k : Nat) : Int) := by
 unfold bitV
 rw [Nat.min_eq_left (by omega)]
 have h1 : (2 : Nat) ^ k < 4294967296 := Nat.pow_lt_pow_right (by omega) (show k < 32 from h)
 have := u32_small h1
 rw [← this]; congr 1
theorem shrV_nat {a k : Nat} (h : k < 32) : shrV (a : Int) k = ((a >>> k : Nat) : Int) := by
 unfold shrV
 rw [Nat.min_eq_left (by omega), Nat.shiftRight_eq_div_pow, Int.fdiv_eq_ediv_of_nonneg _ (by exact Int.le_of_lt (Int.pow_pos (by omega)))]
 push_cast; rfl
theorem bitB_nat {a k : Nat} (ha : a < 4294967296) (h : k < 32) : bitB (a : Int) k = a.testBit k := by
 unfold bitB
 rw [shrV_nat h, show (1 : Int) = ((1 : Nat) : Int) from rfl, andV_nat (Nat.lt_of_le_of_lt (Nat.shiftRight_le _ _) ha) (by omega), Nat.testBit]
 rw [Bool.eq_iff_iff, Nat.and_comm]
 have h2 : 1 &&& (a >>> k) < 2 := by
  rw [Nat.one_and_eq_mod_two]; exact Nat.mod_lt _ (by omega)
 generalize 1 &&& (a >>> k) = x at h2 ⊢
 simp only [beq_iff_eq, bne_iff_ne, ne_eq]
 constructor
 ·intro h3 h4; omega
 ·intro h3; omega
theorem ne_zero_bit {n : Nat} : n ≠ 0 ↔ ∃ k, n.testBit k = true := by
 constructor
 ·intro h; obtain ⟨k, hk⟩ := Nat.exists_testBit_of_ne_zero h; exact ⟨k, hk⟩
 ·rintro ⟨k, hk⟩ h; rw [h, Nat.zero_testBit] at hk; cases hk
def okM (es : List (Int × Int)) (B : Int → Nat → Prop) : Prop := ∀ n, ∃ v : Nat, (getM es n).getD 0 = (v : Int) ∧ v < 4294967296 ∧ ∀ k, v.testBit k = true ↔ B n k
theorem getM_set (es : List (Int × Int)) (n v m : Int) : getM (setM es n v) m = if m = n then some v else getM es m := by
 unfold setM
 cases h : getM es n with
 | none =>
  simp only
  have h0 : es.find? (fun x => decide (x.1 = n)) = none := by unfold getM at h; simpa using h
  unfold getM
  rw [List.find?_append]
  by_cases hm : m = n
  ·subst hm; rw [if_pos rfl, h0]; simp
  ·rw [if_neg hm]
   cases hf : es.find? fun x => decide (x.1 = m) with
   | some x => simp
   | none => simp [Ne.symm hm]
 | some y =>
  simp only
  unfold getM at h ⊢
  induction es with
  | nil => simp at h
  | cons a r ih =>
   rw [List.map_cons, List.find?_cons, List.find?_cons]
   rw [List.find?_cons] at h
   by_cases ha : a.1 = n
   ·by_cases hm : m = n
    ·subst hm; simp [ha]
    ·have h1 : ¬ a.1 = m := fun h1 => hm (h1.symm.trans ha)
     have h2 : ¬ n = m := fun h2 => hm h2.symm
     rw [if_neg hm]
     simp only [ha, if_true, h2, decide_false]
     have : ∀ l : List (Int × Int),((l.map fun x => if x.1 = n then (x.1, v) else x).find? fun x => decide (x.1 = m)).map (·.2) = (l.find? fun x => decide (x.1 = m)).map (·.2) := by
      intro l
      induction l with
      | nil => rfl
      | cons b l ihl =>
       rw [List.map_cons, List.find?_cons, List.find?_cons]
       by_cases hb : b.1 = n
       ·have : ¬ b.1 = m := fun h3 => hm (h3.symm.trans hb)
        simp only [hb, if_true, h2, decide_false]; exact ihl
       ·rw [if_neg hb]
        cases decide (b.1 = m) with
        | true => rfl
        | false => exact ihl
     exact this r
   ·rw [decide_eq_false ha] at h
    rw [if_neg ha]
    by_cases hm : a.1 = m
    ·have h1 : ¬ m = n := fun h1 => ha (hm.trans h1)
     rw [if_neg h1, decide_eq_true hm]
    ·rw [decide_eq_false hm]
     exact ih h
theorem okM_put {es : List (Int × Int)} {B : Int → Nat → Prop} (h : okM es B) {p : Nat} (hp : p < 32) (n : Int) : okM (putM p es n) fun m k => B m k ∨ (m = n ∧ k = p) := by
 intro m
 unfold putM
 rw [getM_set]
 by_cases hm : m = n
 ·subst hm
  rw [if_pos rfl]
  obtain ⟨v, h1, h2, h3⟩ := h m
  refine ⟨v ||| 2 ^ p, ?_, Nat.or_lt_two_pow (n := 32) h2 (Nat.pow_lt_pow_right (by omega) hp), fun k => ?_⟩
  ·rw [Option.getD_some, h1]
   unfold orU
   rw [bitV_nat hp, orV_nat h2 (Nat.pow_lt_pow_right (by omega) hp)]
  ·rw [Nat.testBit_or, Bool.or_eq_true, h3, Nat.testBit_two_pow]
   simp only [decide_eq_true_eq]
   constructor
   ·rintro (h4 | h4)
    ·exact .inl h4
    ·exact .inr ⟨trivial, h4.symm⟩
   ·rintro (h4 | ⟨_, h4⟩)
    ·exact .inl h4
    ·exact .inr h4.symm
 ·rw [if_neg hm]
  obtain ⟨v, h1, h2, h3⟩ := h m
  refine ⟨v, h1, h2, fun k => ?_⟩
  rw [h3]
  exact ⟨.inl, fun h4 => h4.elim id fun h5 => absurd h5.1 hm⟩
theorem okM_fold {p : Nat} (hp : p < 32) : ∀ (l : List Int) {es : List (Int × Int)} {B : Int → Nat → Prop}, okM es B → okM (l.foldl (putM p) es) fun m k => B m k ∨ (m ∈ l ∧ k = p)
 | [], es, B, h => by
  intro n
  obtain ⟨v, h1, h2, h3⟩ := h n
  exact ⟨v, h1, h2, fun k => by rw [h3]; simp⟩
 | a :: r, es, B, h => by
  have ih := okM_fold hp r (okM_put h hp a)
  intro n
  obtain ⟨v, h1, h2, h3⟩ := ih n
  refine ⟨v, h1, h2, fun k => ?_⟩
  rw [h3]
  show ((B n k ∨ n = a ∧ k = p) ∨ n ∈ r ∧ k = p) ↔ (B n k ∨ n ∈ a :: r ∧ k = p)
  rw [List.mem_cons]
  constructor
  ·rintro ((h4 | ⟨h4, h5⟩) | ⟨h4, h5⟩)
   ·exact .inl h4
   ·exact .inr ⟨.inl h4, h5⟩
   ·exact .inr ⟨.inr h4, h5⟩
  ·rintro (h4 | ⟨h4 | h4, h5⟩)
   ·exact .inl (.inl h4)
   ·exact .inl (.inr ⟨h4, h5⟩)
   ·exact .inr ⟨h4, h5⟩
theorem held_bits {s : List Wit} (h : checkS s = 0) : okM (heldM s) fun n k => ∃ w ∈ s, posI s w.id = k ∧ n ∈ w.slips := by
 have hl := (checkS_ok h).1
 have : ∀ (l : List Wit),(∀ w ∈ l, w ∈ s) → ∀ {es : List (Int × Int)} {B : Int → Nat → Prop}, okM es B → okM (l.foldl (heldF s) es) fun n k => B n k ∨ ∃ w ∈ l, posI s w.id = k ∧ n ∈ w.slips := by
  intro l
  induction l with
  | nil =>
   intro _ es B h1 n
   obtain ⟨v, h2, h3, h4⟩ := h1 n
   exact ⟨v, h2, h3, fun k => by rw [h4]; simp⟩
  | cons a r ih =>
   intro hs es B h1 n
   obtain ⟨hp, _⟩ := pos_get (hs a List.mem_cons_self)
   have hp32 : posI s a.id < 32 := by have := idsS_len s; omega
   obtain ⟨v, h2, h3, h4⟩ := ih (fun w hw => hs w (List.mem_cons_of_mem _ hw)) (okM_fold hp32 a.slips h1) n
   refine ⟨v, h2, h3, fun k => ?_⟩
   rw [h4]
   constructor
   ·rintro ((h5 | ⟨h5, h6⟩) | ⟨w, h5, h6⟩)
    ·exact .inl h5
    ·exact .inr ⟨a, List.mem_cons_self, h6.symm, h5⟩
    ·exact .inr ⟨w, List.mem_cons_of_mem _ h5, h6⟩
   ·rintro (h5 | ⟨w, h5, h6, h7⟩)
    ·exact .inl (.inl h5)
    ·rcases List.mem_cons.1 h5 with rfl | h5
     ·exact .inl (.inr ⟨h7, h6.symm⟩)
     ·exact .inr ⟨w, h5, h6, h7⟩
 have h0 : okM [] fun _ _ => False := fun n => ⟨0, rfl, by omega, fun k => by simp⟩
 intro n
 obtain ⟨v, h1, h2, h3⟩ := this s (fun w hw => hw) h0 n
 exact ⟨v, h1, h2, fun k => by rw [h3]; simp⟩
def vM (s : List Wit) (n : Int) : Int := (getM (heldM s) n).getD 0
def crB (s : List Wit) (a b : Int) : Bool := crossV (vM s a) (vM s b)
def crO (s : List Wit) : List Int → Option (Int × Int)
 | [] => none
 | a :: r => match r.find? (crB s a) with
  | some b => some (a, b)
  | none => crO s r
def crR (s : List Wit) : Option (Int × Int) := crO s (slipsL s)
theorem crO_some {s : List Wit} {a b : Int} : ∀ {l : List Int}, crO s l = some (a, b) → a ∈ l ∧ b ∈ l ∧ crB s a b = true
 | [], h => by unfold crO at h; cases h
 | x :: r, h => by
  unfold crO at h
  split at h
  ·rename_i y hy
   injection h with h
   injection h with h1 h2
   subst h1; subst h2
   exact ⟨List.mem_cons_self, List.mem_cons_of_mem _ (List.mem_of_find?_eq_some hy), by simpa using List.find?_some hy⟩
  ·obtain ⟨h1, h2, h3⟩ := crO_some h
   exact ⟨List.mem_cons_of_mem _ h1, List.mem_cons_of_mem _ h2, h3⟩
theorem crO_none {s : List Wit} (hsym : ∀ a b, crB s a b = crB s b a) (hirr : ∀ a, crB s a a = false) : ∀ {l : List Int}, crO s l = none → ∀ a ∈ l, ∀ b ∈ l, crB s a b = false
 | [], _ => fun a ha => by cases ha
 | x :: r, h => by
  unfold crO at h
  split at h
  ·cases h
  ·rename_i hn
   have h1 : ∀ b ∈ r, crB s x b = false := fun b hb => by
    have := List.find?_eq_none.1 hn b hb
    simpa using this
   have h2 := crO_none hsym hirr h
   intro a ha b hb
   rcases List.mem_cons.1 ha with ea | ha2
   ·rcases List.mem_cons.1 hb with eb | hb2
    ·rw [ea, eb]; exact hirr _
    ·rw [ea]; exact h1 b hb2
   ·rcases List.mem_cons.1 hb with eb | hb2
    ·rw [eb, hsym]; exact h1 a ha2
    ·exact h2 a ha2 b hb2
def crP (s : List Wit) (a b : Int) : Prop := (∃ w ∈ s, a ∈ w.slips ∧ b ∈ w.slips) ∧ (∃ w ∈ s, a ∈ w.slips ∧ b ∉ w.slips) ∧ ∃ w ∈ s, b ∈ w.slips ∧ a ∉ w.slips
theorem pos_inj {s : List Wit} (h : checkS s = 0) {w u : Wit} (hw : w ∈ s) (hu : u ∈ s) (e : posI s w.id = posI s u.id) : w = u := by
 obtain ⟨h1, h2⟩ := pos_get hw
 obtain ⟨h3, h4⟩ := pos_get hu
 have h5 : w.id = u.id := by rw [← h2, ← h4]; congr 1
 have e1 := getW_own (checkS_nodup h) hw
 rw [h5, getW_own (checkS_nodup h) hu] at e1
 injection e1 with e1; exact e1.symm
theorem crB_iff {s : List Wit} (h : checkS s = 0) (a b : Int) : crB s a b = true ↔ crP s a b := by
 obtain ⟨x, hx1, hx2, hx3⟩ := held_bits h a
 obtain ⟨y, hy1, hy2, hy3⟩ := held_bits h b
 unfold crB crossV
 rw [show vM s a = (x : Int) from hx1, show vM s b = (y : Int) from hy1, andV_nat hx2 hy2, anV_nat, anV_nat]
 have hz : ∀ n : Nat, (((n : Int) != 0) = true) ↔ ∃ k, n.testBit k = true := fun n => by
  rw [← ne_zero_bit]; simp
 rw [Bool.and_eq_true, Bool.and_eq_true, hz, hz, hz]
 unfold crP
 have e1 : (∃ k, (x &&& y).testBit k = true) ↔ ∃ w ∈ s, a ∈ w.slips ∧ b ∈ w.slips := by
  constructor
  ·rintro ⟨k, hk⟩
   rw [Nat.testBit_and, Bool.and_eq_true, hx3, hy3] at hk
   obtain ⟨⟨w, hw, hwk, hwa⟩, ⟨u, hu, huk, hub⟩⟩ := hk
   have := pos_inj h hw hu (hwk.trans huk.symm)
   subst this
   exact ⟨w, hw, hwa, hub⟩
  ·rintro ⟨w, hw, h1, h2⟩
   refine ⟨posI s w.id, ?_⟩
   rw [Nat.testBit_and, Bool.and_eq_true, hx3, hy3]
   exact ⟨⟨w, hw, rfl, h1⟩, ⟨w, hw, rfl, h2⟩⟩
 have e2 : ∀ {p q : Int} {X Y : Nat}, X < 4294967296 → Y < 4294967296 → (∀ k, X.testBit k = true ↔ ∃ w ∈ s, posI s w.id = k ∧ p ∈ w.slips) → (∀ k, Y.testBit k = true ↔ ∃ w ∈ s, posI s w.id = k ∧ q ∈ w.slips) → ((∃ k, (anN X Y).testBit k = true) ↔ ∃ w ∈ s, p ∈ w.slips ∧ q ∉ w.slips) := by
  intro p q X Y hX hY h1 h2
  constructor
  ·rintro ⟨k, hk⟩
   rw [anN_bit hX hY, Bool.and_eq_true, h1, Bool.not_eq_true'] at hk
   obtain ⟨⟨w, hw, hwk, hwa⟩, hn⟩ := hk
   refine ⟨w, hw, hwa, fun h3 => ?_⟩
   have := (h2 k).2 ⟨w, hw, hwk, h3⟩
   rw [hn] at this; cases this
  ·rintro ⟨w, hw, h3, h4⟩
   refine ⟨posI s w.id, ?_⟩
   rw [anN_bit hX hY, Bool.and_eq_true, h1, Bool.not_eq_true']
   refine ⟨⟨w, hw, rfl, h3⟩, ?_⟩
   cases hb : Y.testBit (posI s w.id) with
   | false => rfl
   | true =>
    obtain ⟨u, hu, huk, hub⟩ := (h2 _).1 hb
    have := pos_inj h hu hw huk
    subst this
    exact absurd hub h4
 rw [e1, e2 hx2 hy2 hx3 hy3, e2 hy2 hx2 hy3 hx3]
theorem crR_iff {s : List Wit} (h : checkS s = 0) : (crR s).isSome = true ↔ ∃ a b, crP s a b := by
 constructor
 ·intro h1
  cases hc : crR s with
  | none => rw [hc] at h1; cases h1
  | some p => exact ⟨p.1, p.2,(crB_iff h _ _).1 (crO_some (by exact hc)).2.2⟩
 ·rintro ⟨a, b, hab⟩
  cases hc : crR s with
  | some p => rfl
  | none =>
   exfalso
   have hsym : ∀ a b, crB s a b = crB s b a := fun a b => by
    rw [Bool.eq_iff_iff, crB_iff h, crB_iff h]
    unfold crP
    constructor
    ·rintro ⟨⟨w, h1, h2, h3⟩, h4, h5⟩; exact ⟨⟨w, h1, h3, h2⟩, h5, h4⟩
    ·rintro ⟨⟨w, h1, h2, h3⟩, h4, h5⟩; exact ⟨⟨w, h1, h3, h2⟩, h5, h4⟩
   have hirr : ∀ a, crB s a a = false := fun a => by
    cases hb : crB s a a with
    | false => rfl
    | true =>
     obtain ⟨_, ⟨w, _, h2, h3⟩, _⟩ := (crB_iff h _ _).1 hb
     exact absurd h2 h3
   have h1 := hab
   obtain ⟨⟨w, hw, h2, h3⟩, _, _⟩ := h1
   have := crO_none hsym hirr hc a (slipsL_mem.2 ⟨w, hw, h2⟩) b (slipsL_mem.2 ⟨w, hw, h3⟩)
   rw [(crB_iff h a b).2 hab] at this; cases this
theorem amL_ne {s : List Wit} (h : checkS s = 0) {v : Nat} (hv : v < 4294967296) (hne : v ≠ 0) (hb : ∀ k, v.testBit k = true → k < (idsS s).length) : amL (v : Int) (idsS s) ≠ [] := by
 obtain ⟨k, hk⟩ := ne_zero_bit.1 hne
 have hl := hb k hk
 have h24 := (checkS_ok h).1
 have hil := idsS_len s
 intro h0
 unfold amL amP at h0
 rw [List.filterMap_eq_nil_iff] at h0
 have := h0 k (List.mem_range.2 hl)
 rw [bitB_nat hv (by omega), hk] at this
 simp at this; omega
theorem cross_ne {s : List Wit} (h : checkS s = 0) {a b : Int} (hc : crB s a b = true) : amL (andV (vM s a) (vM s b)) (idsS s) ≠ [] ∧ amL (anV (vM s a) (vM s b)) (idsS s) ≠ [] ∧ amL (anV (vM s b) (vM s a)) (idsS s) ≠ [] := by
 obtain ⟨x, hx1, hx2, hx3⟩ := held_bits h a
 obtain ⟨y, hy1, hy2, hy3⟩ := held_bits h b
 unfold crB crossV at hc
 rw [show vM s a = (x : Int) from hx1, show vM s b = (y : Int) from hy1] at hc ⊢
 rw [andV_nat hx2 hy2, anV_nat, anV_nat] at hc ⊢
 simp only [Bool.and_eq_true, bne_iff_ne, ne_eq] at hc
 obtain ⟨h1, h2, h3⟩ := hc
 have bx : ∀ k, x.testBit k = true → k < (idsS s).length := fun k hk => by
  obtain ⟨w, hw, rfl, _⟩ := (hx3 k).1 hk; exact (pos_get hw).1
 have by' : ∀ k, y.testBit k = true → k < (idsS s).length := fun k hk => by
  obtain ⟨w, hw, rfl, _⟩ := (hy3 k).1 hk; exact (pos_get hw).1
 refine ⟨amL_ne h (Nat.lt_of_le_of_lt Nat.and_le_left hx2) (by omega) fun k hk => ?_, amL_ne h (anN_lt _ _) (by omega) fun k hk => ?_, amL_ne h (anN_lt _ _) (by omega) fun k hk => ?_⟩
 ·rw [Nat.testBit_and, Bool.and_eq_true] at hk; exact bx k hk.1
 ·rw [anN_bit hx2 hy2, Bool.and_eq_true] at hk; exact bx k hk.1
 ·rw [anN_bit hy2 hx2, Bool.and_eq_true] at hk; exact by' k hk.1
end Go.Am.Ds
end
section
namespace Go.Am.Ds
open Go Go.Am Go.Proofs
attribute [local simp] vrun vwanted vyielded vop vopA vputAll VHeap.back hidI hidF backL bm Nat.testBit_eq_decide_div_mod_eq veval vevals vparts vO vbuiltin vlen vappend velems vcopy vmakeSlice vbuildSlice valloc vbox vmakeMap vload vpartT vpart vstore vfieldAddr vfield vindexAddr vindex vextract vslice vsliceZ vbounds vbnd zeroO vidx vlookup vmget vmapUpdate vdelete vclear vnilq vnilp vnils vbin vsc vsc1 vscs vscl abinOp aint ashift aunOp aconvert amaxs amax2 pvcV pvc pvcs tput tget vargs VHeap.get VHeap.alloc VHeap.put VHeap.drop VHeap.empty vlook vput vdrop psplice pfill preps chunk List.range List.range.loop vresults vresult vresultV frz frzL PV.isF PV.allF PV.scal PV.allS retP subT allFT PV.one PV.ids PV.idsL dropL beq_eq ble_dec blt_dec
attribute [local simp] zW tup2
@[local simp ↓ high] theorem aint_and32 (a b : Int) : aint .and .u32 a b = some (.int .u32 (andV a b)) := rfl
@[local simp ↓ high] theorem aint_an32 (a b : Int) : aint .andNot .u32 a b = some (.int .u32 (anV a b)) := rfl
@[local simp ↓ high] theorem ashr32 (a : Int) (k : Nat) : ashift .shr .u32 a (k : Int) = some (.int .u32 (shrV a k)) := by
 unfold ashift shrV
 have h : ¬ ((k : Int) < 0) := by omega
 rw [decide_eq_false h, cond_false, Int.toNat_natCast]; rfl
theorem p96 (x y : Int) : VPure Tryz.prog 96 [.int .u32 x, .int .u32 y] fun r => r = .tup [.agg [.int .u32 (andV x y), .int .u32 (anV x y), .int .u32 (anV y x)], .bool (crossV x y)] := by
 have hcx : crossV x y = (andV x y != 0 && (anV x y != 0 && anV y x != 0)) := rfl
 refine .of_body Tryz.func96 rfl rfl ?_
 refine .seq ?_
 refine .rn ?_
 refine .seq ?_
 refine .rn ?_
 refine .seq ?_
 refine .drawn (ms := [0,0,2,6,14,30,62,126,254,510,1022,2046,4094,8190,1023,32767]) (W := [14]) (items := [.op 0, .op 1, .op 2, .op 3, .op 4, .op 5, .op 6, .op 7, .op 8, .op 9, .op 10, .op 11, .op 12, .op 13, .op 14, .ck 11, .op 15]) rfl zz0 zz0 zz0 ?_
 refine .rx ?_
 refine .rx ?_
 refine .rx ?_
 refine .rx ?_
 refine .rx ?_
 refine .split (t := 21) rfl (fun c21 => ?_) (fun c21 => ?_)
 ·try rw [c21]
  try simp at c21
  have e1 : (andV x y != 0) = true := by simpa using c21
  refine .rx ?_
  refine .rx ?_
  refine .rx ?_
  refine .rx ?_
  refine .rx ?_
  refine .split (t := 26) rfl (fun c26 => ?_) (fun c26 => ?_)
  ·try rw [c26]
   try simp at c26
   have e2 : (anV x y != 0) = true := by simpa using c26
   refine .rx ?_
   refine .rx ?_
   refine .rx ?_
   refine .rx ?_
   refine .wr rfl rfl (by decide) (.stor (todo' := [11]) rfl rfl rfl rfl zz1 rfl (⟨⟨by decide +kernel, _, _, rfl, zz1⟩, trivial⟩) ?_)
   refine .ck rfl zz0 ?_
   refine .rx ?_
   refine .done ?_
   refine .ret ?_
   refine ⟨_, _, zz4,zz4, ?_⟩
   simp only [hcx, e1, e2, Bool.true_and]
  ·try rw [c26]
   try simp at c26
   have e2 : (anV x y != 0) = false := by simp [c26]
   refine .un rfl rfl (by decide) ?_
   refine .un rfl rfl (by decide) ?_
   refine .un rfl rfl (by decide) ?_
   refine .rx ?_
   refine .wr rfl rfl (by decide) (.stor (todo' := []) rfl rfl rfl rfl zz1 rfl trivial ?_)
   refine .ckU rfl rfl rfl ?_
   refine .rx ?_
   refine .done ?_
   refine .ret ?_
   refine ⟨_, _, zz4,zz4, ?_⟩
   simp only [hcx, e1, e2, Bool.false_and, Bool.and_false]
   simp [c26]
 ·try rw [c21]
  try simp at c21
  have e1 : (andV x y != 0) = false := by simp [c21]
  refine .un rfl rfl (by decide) ?_
  refine .un rfl rfl (by decide) ?_
  refine .un rfl rfl (by decide) ?_
  refine .rx ?_
  refine .rx ?_
  refine .un rfl rfl (by decide) ?_
  refine .un rfl rfl (by decide) ?_
  refine .un rfl rfl (by decide) ?_
  refine .rx ?_
  refine .wr rfl rfl (by decide) (.stor (todo' := []) rfl rfl rfl rfl zz1 rfl trivial ?_)
  refine .ckU rfl rfl rfl ?_
  refine .rx ?_
  refine .done ?_
  refine .ret ?_
  refine ⟨_, _, zz4,zz4, ?_⟩
  simp only [hcx, e1, Bool.false_and]
  simp [c21]
theorem p98 (m : Int) (l : List Int) (hl : l.length ≤ 24) : VPure Tryz.prog 98 [.int .u32 m, ints l] fun r => Soft r (ints (amL m l)) := by
 refine .of_body Tryz.func98 rfl rfl ?_
 refine .seq ?_
 refine .rn ?_
 refine .seq ?_
 refine .rn ?_
 refine .seq ?_
 refine .seq ?_
 refine .rn ?_
 refine .block ?_
 refine .loopS (fun k : Nat => ([(0, .int .u32 m),(5, .grow 0 (amP m l k).length true),(8, ints l),(9, .int .i64 l.length),(10, .int .i64 k)], ⟨1,[(0, .grow 1 ((amP m l k).map (.int .i64)))]⟩)) (fun k => k ≤ l.length) (fun k => l.length - k) 0 (by simp [amP]) (.mk [] [] zz14 zz15 rfl rfl rfl) ?_
 rintro k hk
 simp only at hk ⊢
 have hle := amP_le m l k
 refine .seq ?_
 refine .rn ?_
 refine .seq ?_
 refine .condS rfl (fun c11 => ?_) (fun c11 => ?_)
 ·try simp at c11
  have hw2 : IntKind.i64.wrap ((k : Int) + 1) = (k : Int) + 1 := wrap64 (by omega) (by omega)
  have hS := amP_succ m l k c11
  have hb : (amP m l k).length ≤ 4294967295 := by omega
  have hone : allOne [PV.int IntKind.i64 l[k]] = true := rfl
  refine .skip ?_
  refine .seq ?_
  refine .block ?_
  refine .seq ?_
  refine .rn ?_
  refine .seq ?_
  refine .rn ?_
  refine .condS rfl (fun c19 => ?_) (fun c19 => ?_)
  ·try simp at c19
   rw [if_pos (show bitB m k = true by unfold bitB; simp [c19])] at hS
   refine .rn ?_
   refine .rn ?_
   refine ⟨k + 1, c11,zz5,(.mk [] [(0,2)] zz14 zz15 rfl rfl rfl)⟩
  ·try simp at c19
   rw [if_neg (show ¬ bitB m k = true by unfold bitB; simp [c19])] at hS
   refine .skip ?_
   refine .rn ?_
   refine ⟨k + 1, c11,zz5,(.mk [] [] zz14 zz15 rfl rfl rfl)⟩
 ·try simp at c11
  have hk2 : k = l.length := by omega
  subst hk2
  refine .exit ?_
  refine .seq ?_
  refine .rn ?_
  refine .ret ?_
  refine ⟨_, _, zz4,zz4, ?_⟩
  exact soft_rfl rfl
theorem p98' (m : Int) (l : List Int) (hl : l.length ≤ 24) : VPure Tryz.prog 98 [.int .u32 m, ints l] fun r => r = ints (amL m l) := VPure.soft (p98 m l hl) rfl
theorem p97 (m : Int) (s : List Wit) (h : checkS s = 0) (hne : amL m (idsS s) ≠ []) : VPure Tryz.prog 97 [.int .u32 m, .vp (encS s).cells] fun r => r = .int .i64 ((amL m (idsS s)).headD 0) := by
 have hl24 := (checkS_ok h).1
 have hil := idsS_len s
 obtain ⟨b, r, hbr⟩ : ∃ b r, amL m (idsS s) = b :: r := by
  cases hc : amL m (idsS s) with
  | nil => exact absurd hc hne
  | cons b r => exact ⟨b, r, rfl⟩
 refine .of_body Tryz.func97 rfl rfl ?_
 refine .seq ?_
 refine .rn ?_
 refine .seq ?_
 refine .regionL [0,1,2,3,4,5,6] rfl zz0 ?_
 refine .rn [0,1] [2,3,4,5,6] ?_
 refine .step rfl rfl (.pure rfl rfl rfl Tryz.call99 (by decide) (p99' s (by omega)) (by first | rfl | simp [*]) ?_)
 rintro _ rfl
 refine .step rfl rfl (.pure rfl rfl rfl Tryz.call98 (by decide) ((by have h := p98' m (idsS s) (by omega); rw [hbr] at h; exact h)) (by first | rfl | simp [*]) ?_)
 rintro _ rfl
 refine .rn [4,5,6] [] ?_
 refine .done ?_
 refine .ret ?_
 refine ⟨_, _, zz4,zz4, ?_⟩
 first | rfl | (simp [*]; done) | (simp_all; done)
theorem p95 (s : List Wit) (h : checkS s = 0) : VPure Tryz.prog 95 [.vmap (kvs (kvM (heldM s)))] fun r => r = .tup [.int .i64 ((crR s).getD (0,0)).1, .int .i64 ((crR s).getD (0,0)).2, .bool (crR s).isSome] := by
 have hlen := heldM_len h
 have hsl := slipsL_len s
 have h125 : VPure Tryz.prog 125 [.vmap (kvs (kvM (heldM s)))] fun r => r = ints (slipsL s) := by
  have h := p125 (kvM (heldM s)) (by rw [kvM_keys]; exact heldM_nodup s) (by simp only [kvM, List.length_map]; omega)
  rw [kvM_keys] at h; exact h
 have hpf : ∀ n ∈ slipsL s, pfind .i64 n (kvs (kvM (heldM s))) = some (some (.int .u32 (vM s n))) := fun n hn => by
  have h1 : n ∈ (heldM s).map (·.1) := heldM_mem.2 (slipsL_mem.1 hn)
  have h2 := getM_mem.2 h1
  rw [pfind_kvM]
  unfold vM
  cases hg : getM (heldM s) n with
  | none => rw [hg] at h2; cases h2
  | some v => rfl
 have hL : (slipsL s).length ≤ 720 := by omega
 clear hsl hlen
 have hcr : crR s = crO s (slipsL s) := rfl
 generalize hM : kvs (kvM (heldM s)) = M at hpf h125
 generalize hLL : slipsL s = L at hpf hL h125 hcr
 refine .of_body Tryz.func95 rfl rfl ?_
 refine .seq ?_
 refine .rn ?_
 refine .scope ?_
 refine .seq ?_
 refine .regionL [0,1,2] rfl zz0 ?_
 refine .rn [0] [1,2] ?_
 refine .step rfl rfl (.pure rfl rfl rfl Tryz.call125 (by decide) (h125) (by first | rfl | simp [*]) ?_)
 rintro _ rfl
 refine .rn [2] [] ?_
 refine .done ?_
 refine .seq ?_
 refine .rn ?_
 refine .seq ?_
 refine .label ?_
 refine .seq ?_
 refine .seq ?_
 refine .rn ?_
 refine .block ?_
 refine .loopS (fun k : Nat => ([(0, .vmap M),(5, ints L),(6, .int .i64 0),(7, .int .i64 0),(8, .bool false),(15, ints L),(16, .int .i64 L.length),(17, .int .i64 k)], VHeap.empty)) (fun k => k ≤ L.length ∧ crR s = crO s (L.drop k)) (fun k => L.length - k) 0 ⟨by simp, by simpa using hcr⟩ (.pure (by simp [*]) (by simp)) ?_
 rintro k ⟨hk, hr⟩
 simp only at hk hr ⊢
 refine .seq ?_
 refine .rn ?_
 refine .seq ?_
 refine .condS rfl (fun c18 => ?_) (fun c18 => ?_)
 ·try simp at c18
  have hw2 : IntKind.i64.wrap ((k : Int) + 1) = (k : Int) + 1 := wrap64 (by omega) (by omega)
  rw [List.drop_eq_getElem_cons c18] at hr
  obtain ⟨D, hD⟩ : ∃ D, L.drop (k + 1) = D := ⟨_, rfl⟩
  have hDl : D.length = L.length - (k + 1) := by rw [← hD, List.length_drop]
  have hDm : ∀ x ∈ D, x ∈ L := fun x hx => List.mem_of_mem_drop (hD ▸ hx)
  have hDt : (L.map (PV.int .i64)).drop (k + 1) = D.map (.int .i64) := by rw [← List.map_drop, hD]
  have hDt2 : ((L.map (PV.int .i64)).drop (k + 1)).take (L.length - (k + 1)) = D.map (.int .i64) := by rw [hDt]; exact List.take_of_length_le (by rw [List.length_map]; omega)
  have hDt3 : List.take (L.length - (k + 1)) (D.map (PV.int .i64)) = D.map (.int .i64) := List.take_of_length_le (by rw [List.length_map]; omega)
  have hk1' : 0 ≤ (k : Int) + 1 ∧ (k : Int) + 1 ≤ (L.length : Int) := by omega
  have hDn : D.length ≤ 720 := by omega
  clear hDl
  have hpa := hpf L[k] (List.getElem_mem c18)
  have hk1 : k + 1 ≤ L.length := c18
  refine .skip ?_
  refine .seq ?_
  refine .block ?_
  refine .seq ?_
  refine .rn ?_
  refine .seq ?_
  refine .rn ?_
  refine .block ?_
  refine .loopS (fun j : Nat => ([(0, .vmap M),(5, ints L),(6, .int .i64 0),(7, .int .i64 0),(8, .bool false),(10, .int .i64 L[k]),(15, ints L),(16, .int .i64 L.length),(17, .int .i64 k),(25, ints D),(26, .int .i64 D.length),(27, .int .i64 j)], VHeap.empty)) (fun j => j ≤ D.length ∧ D.find? (crB s L[k]) = (D.drop j).find? (crB s L[k])) (fun j => D.length - j) 0 (by simp) (.pure (by simp [*]) (by simp)) ?_
  rintro j ⟨hj, hf⟩
  simp only at hj hf ⊢
  refine .seq ?_
  refine .rn ?_
  refine .seq ?_
  refine .condS rfl (fun c28 => ?_) (fun c28 => ?_)
  ·try simp at c28
   have hw3 : IntKind.i64.wrap ((j : Int) + 1) = (j : Int) + 1 := wrap64 (by omega) (by omega)
   rw [List.drop_eq_getElem_cons c28, List.find?_cons] at hf
   have hpb := hpf D[j] (hDm _ (List.getElem_mem c28))
   obtain ⟨cb, hcb⟩ : ∃ x, crB s L[k] D[j] = x := ⟨_, rfl⟩
   have h96 := p96 (vM s L[k]) (vM s D[j])
   rw [show crossV (vM s L[k]) (vM s D[j]) = cb from hcb] at h96
   rw [hcb] at hf
   refine .skip ?_
   refine .seq ?_
   refine .block ?_
   refine .seq ?_
   refine .rn ?_
   refine .seq ?_
   refine .regionL [0,1,2,3,4,5,6,7,8,9,10] rfl zz0 ?_
   refine .rn [0,1,2,3,4,5] [6,7,8,9,10] ?_
   refine .step rfl rfl (.pure rfl rfl rfl Tryz.call96 (by decide) (h96) (by first | rfl | simp [*]) ?_)
   rintro _ rfl
   refine .rn [7,8,9,10] [] ?_
   refine .done ?_
   refine .seq ?_
   refine .rn ?_
   refine .condS rfl (fun c41 => ?_) (fun c41 => ?_)
   ·try simp at c41
    rw [c41] at hf
    refine .seq ?_
    refine .rn ?_
    refine .exit ?_
    refine .seq ?_
    refine .rn ?_
    refine .ret ?_
    refine ⟨_, _, zz4,zz4, ?_⟩
    have hx : crR s = some (L[k], D[j]) := by rw [hr]; unfold crO; rw [hD, hf]
    rw [hx]; simp [c41]
   ·try simp at c41
    rw [c41] at hf
    refine .skip ?_
    refine .rn ?_
    refine ⟨j + 1, ⟨c28, hf⟩, zz5, .pure (by simp [*]) (by simp)⟩
  ·try simp at c28
   have hj2 : j = D.length := by omega
   rw [hj2, List.drop_length] at hf
   refine .exit ?_
   refine .rn ?_
   refine ⟨k + 1, ⟨c18, by
    rw [hr, hD]
    show (match D.find? (crB s L[k]) with | some b => some (L[k], b) | none => crO s D) = crO s D
    rw [hf]; rfl⟩, zz5, .pure (by simp [*]) (by simp)⟩
 ·try simp at c18
  have hk2 : k = L.length := by omega
  rw [hk2, List.drop_length] at hr
  refine .exit ?_
  refine .seq ?_
  refine .rn ?_
  refine .ret ?_
  refine ⟨_, _, zz4,zz4, ?_⟩
  rw [hr]; rfl
def zX : PV := .agg [.int .i64 0, .int .i64 0, .int .i64 0, .int .i64 0, .int .i64 0]
def crX (s : List Wit) (a b : Int) : PV := .agg [.int .i64 a, .int .i64 b, .int .i64 ((amL (andV (vM s a) (vM s b)) (idsS s)).headD 0), .int .i64 ((amL (anV (vM s a) (vM s b)) (idsS s)).headD 0), .int .i64 ((amL (anV (vM s b) (vM s a)) (idsS s)).headD 0)]
def crT (s : List Wit) : PV := if checkS s = 0 then (match crR s with
 | some p => .tup [crX s p.1 p.2, .bool true, .int .i64 0]
 | none => .tup [zX, .bool false, .int .i64 0]) else .tup [zX, .bool false, .int .i64 (checkS s)]
theorem p24 (s : List Wit) (hl : s.length < 4294967296) : VPure Tryz.prog 24 [encS s] fun r => r = crT s := by
 refine .of_body Tryz.func24 rfl rfl ?_
 refine .seq ?_
 refine .rn ?_
 refine .seq ?_
 refine .seq ?_
 refine .regionL [0,1,2] rfl zz0 ?_
 refine .rn [0] [1,2] ?_
 refine .step rfl rfl (.pure rfl rfl rfl Tryz.call35 (by decide) (p35 s hl) (by first | rfl | simp [*]) ?_)
 rintro _ rfl
 refine .rn [2] [] ?_
 refine .done ?_
 refine .seq ?_
 refine .rn ?_
 refine .condS rfl (fun c16 => ?_) (fun c16 => ?_)
 ·try simp at c16
  refine .seq ?_
  refine .rn ?_
  refine .ret ?_
  refine ⟨_, _, zz4,zz4, ?_⟩
  unfold crT zX; rw [if_neg c16]
 ·try simp at c16
  have hpf : ∀ n ∈ slipsL s, pfind .i64 n (kvs (kvM (heldM s))) = some (some (.int .u32 (vM s n))) := fun n hn => by
   have h1 : n ∈ (heldM s).map (·.1) := heldM_mem.2 (slipsL_mem.1 hn)
   have h2 := getM_mem.2 h1
   rw [pfind_kvM]
   unfold vM
   cases hg : getM (heldM s) n with
   | none => rw [hg] at h2; cases h2
   | some v => rfl
  have hT : crT s = match crR s with
   | some p => .tup [crX s p.1 p.2, .bool true, .int .i64 0]
   | none => .tup [zX, .bool false, .int .i64 0] := by unfold crT; rw [if_pos c16]
  have q95 := p95 s c16
  rcases hcr : crR s with _ | ⟨a, b⟩ <;> rw [hcr] at hT q95
  ·skip
   refine .skip ?_
   refine .seq ?_
   refine .regionL [0,1,2] rfl zz0 ?_
   refine .rn [0] [1,2] ?_
   refine .step rfl rfl (.pure rfl rfl rfl Tryz.call94 (by decide) (p94 s c16) (by first | rfl | simp [*]) ?_)
   rintro _ rfl
   refine .rn [2] [] ?_
   refine .done ?_
   refine .seq ?_
   refine .regionL [0,1,2,3,4,5,6,7,8] rfl zz0 ?_
   refine .rn [0] [1,2,3,4,5,6,7,8] ?_
   refine .step rfl rfl (.pure rfl rfl rfl Tryz.call95 (by decide) (q95) (by first | rfl | simp [*]) ?_)
   rintro _ rfl
   refine .rn [2,3,4,5,6,7,8] [] ?_
   refine .done ?_
   refine .seq ?_
   refine .seq ?_
   refine .rn ?_
   refine .condS rfl (fun c28 => ?_) (fun c28 => ?_)
   ·try simp at c28
    refine .seq ?_
    refine .rn ?_
    refine .ret ?_
    refine ⟨_, _, zz4,zz4, ?_⟩
    rw [hT]; rfl
   ·try simp at c28
  ·skip
   refine .skip ?_
   refine .seq ?_
   refine .regionL [0,1,2] rfl zz0 ?_
   refine .rn [0] [1,2] ?_
   refine .step rfl rfl (.pure rfl rfl rfl Tryz.call94 (by decide) (p94 s c16) (by first | rfl | simp [*]) ?_)
   rintro _ rfl
   refine .rn [2] [] ?_
   refine .done ?_
   refine .seq ?_
   refine .regionL [0,1,2,3,4,5,6,7,8] rfl zz0 ?_
   refine .rn [0] [1,2,3,4,5,6,7,8] ?_
   refine .step rfl rfl (.pure rfl rfl rfl Tryz.call95 (by decide) (q95) (by first | rfl | simp [*]) ?_)
   rintro _ rfl
   refine .rn [2,3,4,5,6,7,8] [] ?_
   refine .done ?_
   refine .seq ?_
   refine .seq ?_
   refine .rn ?_
   refine .condS rfl (fun c28 => ?_) (fun c28 => ?_)
   ·try simp at c28
   ·try simp at c28
    obtain ⟨hma, hmb, hab⟩ := crO_some (show crO s (slipsL s) = some (a, b) from hcr)
    have hpa := hpf a hma
    have hpb := hpf b hmb
    obtain ⟨n1, n2, n3⟩ := cross_ne c16 hab
    have h96 := p96 (vM s a) (vM s b)
    rw [show crossV (vM s a) (vM s b) = true from hab] at h96
    refine .skip ?_
    refine .seq ?_
    refine .regionL [0,1,2,3,4,5,6,7,8,9,10,11,12] rfl zz0 ?_
    refine .rn [0,1,2,3,4,5] [6,7,8,9,10,11,12] ?_
    refine .step rfl rfl (.pure rfl rfl rfl Tryz.call96 (by decide) (h96) (by first | rfl | simp [*]) ?_)
    rintro _ rfl
    refine .rn [7,8,9,10,11,12] [] ?_
    refine .done ?_
    refine .seq ?_
    refine .rec (vts2 := [(1, .vp (encS s).cells),(2, .ptr 1 0),(7, .int .i64 a),(8, .int .i64 b),(10, .ptr 2 0)]) (vh2 := ⟨3,[(2, .box [.int .u32 (andV (vM s a) (vM s b)), .int .u32 (anV (vM s a) (vM s b)), .int .u32 (anV (vM s b) (vM s a))]),(1, .box [.int .i64 0, .int .i64 0, .int .i64 0, .int .i64 0, .int .i64 0])]⟩) (.mk [0] [] (by repeat' (first | exact trivial | refine And.intro (Exists.intro _ (And.intro rfl ?_)) ?_ | exact Alt.fptr 0 0 _ rfl rfl rfl (Nat.zero_le _) | exact Alt.ptr _ _ _ (Nat.le_of_ble_eq_true rfl) rfl | (refine Alt.same _ ?_; first | rfl | (simp [*]; done)))) zz15 rfl rfl rfl) ?_
    refine .rn ?_
    refine .seq ?_
    refine .drawn (ms := [0,0,0,0,8,28,0,0,128,508,0,0,2048,8188,16383,32767,65535,131071]) (W := [5,9,13,15]) (items := [.op 0, .op 1, .op 2, .op 3, .op 4, .op 6, .op 7, .op 8, .op 10, .op 11, .op 12, .op 5, .ck 12, .ck 8, .op 9, .ck 12, .op 13, .op 14, .op 15, .op 16, .op 17]) rfl zz0 zz0 zz0 ?_
    refine .rx ?_
    refine .rx ?_
    refine .rx ?_
    refine .rx ?_
    refine .rx ?_
    refine .rx ?_
    refine .rx ?_
    refine .rx ?_
    refine .rx ?_
    refine .rx ?_
    refine .rx ?_
    refine .wr rfl rfl (by decide) (.pure rfl rfl rfl Tryz.call97 (by decide) (p97 (andV (vM s a) (vM s b)) s c16 n1) (by first | rfl | simp [*]) ?_)
    rintro _ rfl
    refine .ck rfl zz0 ?_
    refine .ck rfl zz0 ?_
    refine .wr rfl rfl (by decide) (.pure rfl rfl rfl Tryz.call97 (by decide) (p97 (anV (vM s a) (vM s b)) s c16 n2) (by first | rfl | simp [*]) ?_)
    rintro _ rfl
    refine .ck rfl zz0 ?_
    refine .wr rfl rfl (by decide) (.pure rfl rfl rfl Tryz.call97 (by decide) (p97 (anV (vM s b) (vM s a)) s c16 n3) (by first | rfl | simp [*]) ?_)
    rintro _ rfl
    refine .rx ?_
    refine .wr rfl rfl (by decide) (.vop zz1 (by decide) ?_)
    refine .rx ?_
    refine .rx ?_
    refine .done ?_
    refine .ret ?_
    refine ⟨_, _, zz4,zz4, ?_⟩
    rw [hT]; simp [crX]
end Go.Am.Ds
end
section
namespace Go.Am.Ds
open Go Go.Am Go.Proofs

theorem rising_iff : ∀ {l : List Int} {a : Int}, risingS l a = true ↔ (l.Pairwise (· < ·) ∧ ∀ n ∈ l, a < n ∧ n ≤ 1099511627776)
 | [], a => by simp [risingS]
 | n :: r, a => by
  unfold risingS
  have ih := rising_iff (l := r) (a := n)
  split
  ·rename_i h
   constructor
   ·intro h2; cases h2
   ·rintro ⟨_, h2⟩
    have := h2 n List.mem_cons_self
    omega
  ·rename_i h
   rw [ih, List.pairwise_cons]
   constructor
   ·rintro ⟨h1, h2⟩
    refine ⟨⟨fun x hx => (h2 x hx).1, h1⟩, fun x hx => ?_⟩
    rcases List.mem_cons.1 hx with rfl | hx
    ·omega
    ·have := h2 x hx; omega
   ·rintro ⟨⟨h1, h2⟩, h3⟩
    exact ⟨h2, fun x hx => ⟨h1 x hx, (h3 x (List.mem_cons_of_mem _ hx)).2⟩⟩

structure Bir where
  fr : Nat
  after : Nat
  days : Nat
  own : Nat
  mends : Bool

def ownL (t k : Nat) : List Int := (List.range k).map fun (i : Nat) => ((t + i + 1 : Nat) : Int)
theorem ownL_succ (t k : Nat) : ownL t (k + 1) = ownL t k ++ [((t + k + 1 : Nat) : Int)] := by simp [ownL, List.range_succ]
theorem ownL_len (t k : Nat) : (ownL t k).length = k := by simp [ownL]
theorem ownL_mem {t k : Nat} {n : Int} : n ∈ ownL t k ↔ ((t : Int) < n ∧ n ≤ ((t + k : Nat) : Int)) := by
 unfold ownL
 rw [List.mem_map]
 constructor
 ·rintro ⟨i, hi, rfl⟩
  rw [List.mem_range] at hi
  omega
 ·rintro ⟨h1, h2⟩
  exact ⟨(n - t - 1).toNat, by rw [List.mem_range]; omega, by omega⟩
theorem ownL_pw (t k : Nat) : (ownL t k).Pairwise (· < ·) := by
 unfold ownL
 rw [List.pairwise_map]
 exact List.Pairwise.imp (fun h => by omega) List.pairwise_lt_range

def frB (s : List Wit) (b : Bir) : Nat := b.fr % (s.length + 1)
def oldB (s : List Wit) (b : Bir) : List Int := if frB s b = 0 then [] else ((s[frB s b - 1]?).map Wit.slips).getD []
def dayB (s : List Wit) (b : Bir) : Int := if frB s b = 0 then 0 else ((s[frB s b - 1]?).map Wit.hi).getD 0 + 1
def cutB (s : List Wit) (b : Bir) : Bool := b.mends && decide (oldB s b ≠ [])
def menB (s : List Wit) (b : Bir) : List Int := if cutB s b = true then (oldB s b).take 1 else []
def keepB (s : List Wit) (b : Bir) : List Int := if cutB s b = true then (oldB s b).drop 1 else oldB s b
def newB (s : List Wit) (t : Nat) (b : Bir) : Wit := ⟨(s.length : Int) + 1,0, keepB s b ++ ownL t (b.own % 4), menB s b, [], dayB s b + ((b.after % 5 : Nat) : Int), dayB s b + ((b.after % 5 : Nat) : Int) + ((b.days % 5 : Nat) : Int)⟩

structure TrS where
  s : List Wit
  ps : List Int
  t : Nat
  m : Bool
def stepB (x : TrS) (b : Bir) : TrS := ⟨x.s ++ [newB x.s x.t b], x.ps ++ [(frB x.s b : Int)], x.t + b.own % 4, x.m || cutB x.s b⟩
def bldB (l : List Bir) (k : Nat) : TrS := (l.take k).foldl stepB ⟨[],[],0, false⟩
theorem bldB_succ (l : List Bir) (k : Nat) (h : k < l.length) : bldB l (k + 1) = stepB (bldB l k) l[k] := by
 unfold bldB
 rw [List.take_succ_eq_append_getElem h, List.foldl_append]; rfl
theorem bldB_len (l : List Bir) : ∀ k, k ≤ l.length → (bldB l k).s.length = k ∧ (bldB l k).ps.length = k
 | 0, _ => by simp [bldB]
 | k + 1, h => by
  have ih := bldB_len l k (by omega)
  rw [bldB_succ l k (by omega)]
  simp [stepB, ih]

structure TrOK (x : TrS) (ow : List (List Int)) : Prop where
  pl : x.ps.length = x.s.length
  ol : ow.length = x.s.length
  ids : ∀ k (h : k < x.s.length), x.s[k].id = (k : Int) + 1
  kn : ∀ w ∈ x.s, w.known = 0 ∧ w.models = [] ∧ 0 ≤ w.lo ∧ w.lo ≤ w.hi
  sl : ∀ k (h : k < x.s.length), x.s[k].slips.length ≤ 3 * (k + 1) ∧ x.s[k].mended.length ≤ 1
  pw : ∀ w ∈ x.s, w.slips.Pairwise (· < ·) ∧ (∀ n ∈ w.slips, 0 < n ∧ n ≤ (x.t : Int)) ∧ w.mended.Pairwise (· < ·) ∧ (∀ n ∈ w.mended, 0 < n ∧ n ≤ (x.t : Int) ∧ n ∉ w.slips)
  tt : (ow.map List.length).sum = x.t
  nd : ∀ o ∈ ow, o.Nodup ∧ ∀ n ∈ o, n ≤ (x.t : Int)
  o3 : ∀ o ∈ ow, o.length ≤ 3
  oin : ∀ k (h : k < x.s.length) (h2 : k < ow.length), ∀ n ∈ ow[k], n ∈ x.s[k].slips
  late : ∀ k j (h : k < x.s.length) (h2 : k < ow.length) (h3 : j < x.s.length), ∀ n ∈ ow[k], n ∈ x.s[j].slips → j = k ∨ x.s[k].hi < x.s[j].lo
  par : ∀ k (h : k < x.s.length) (h2 : k < ow.length) (h3 : k < x.ps.length),(x.ps[k] = 0 ∧ x.s[k].slips = ow[k]) ∨ ∃ f, ∃ hf : f < k, x.ps[k] = (f : Int) + 1 ∧ x.s[f].hi < x.s[k].lo ∧ (∀ n ∈ x.s[f].slips, n ∈ x.s[k].slips ∨ n ∈ x.s[k].mended) ∧ (∀ n ∈ x.s[k].slips, n ∈ x.s[f].slips ∨ n ∈ ow[k]) ∧ ∀ n ∈ ow[k], n ∉ x.s[f].slips
  cro : x.m = false → ∀ a b, ¬ crP x.s a b

theorem TrOK.nil : TrOK ⟨[],[],0, false⟩ [] := ⟨rfl, rfl, by simp, by simp, by simp, by simp, rfl, by simp, by simp, by simp, by simp, by simp, fun _ a b ⟨⟨w, hw, _⟩, _⟩ => by cases hw⟩

theorem getElem_snoc {α : Type} {l : List α} {a : α} {k : Nat} (h : k < (l ++ [a]).length) : (∃ h2 : k < l.length, (l ++ [a])[k] = l[k]) ∨ (k = l.length ∧ (l ++ [a])[k] = a) := by
 rw [List.length_append, List.length_singleton] at h
 rcases Nat.lt_or_ge k l.length with h2 | h2
 ·exact .inl ⟨h2, List.getElem_append_left h2⟩
 ·have : k = l.length := by omega
  subst this
  exact .inr ⟨rfl, by simp⟩

theorem TrOK.old {x : TrS} {ow : List (List Int)} (h : TrOK x ow) (b : Bir) : (frB x.s b = 0 ∧ oldB x.s b = [] ∧ dayB x.s b = 0) ∨ ∃ f, ∃ hf : f < x.s.length, frB x.s b = f + 1 ∧ oldB x.s b = x.s[f].slips ∧ dayB x.s b = x.s[f].hi + 1 := by
 by_cases h0 : frB x.s b = 0
 ·exact .inl ⟨h0, by rw [oldB, if_pos h0], by rw [dayB, if_pos h0]⟩
 ·have hf : frB x.s b - 1 < x.s.length := by
   have : frB x.s b < x.s.length + 1 := Nat.mod_lt _ (by omega)
   omega
  exact .inr ⟨frB x.s b - 1, hf, by omega, by rw [oldB, if_neg h0]; simp [hf], by rw [dayB, if_neg h0]; simp [hf]⟩

theorem keep_men (s : List Wit) (b : Bir) : oldB s b = menB s b ++ keepB s b := by
 unfold menB keepB
 split
 ·rw [List.take_append_drop]
 ·rfl

theorem TrOK.step {x : TrS} {ow : List (List Int)} (h : TrOK x ow) (b : Bir) : TrOK (stepB x b) (ow ++ [ownL x.t (b.own % 4)]) := by
 have hold := h.old b
 have hkm := keep_men x.s b
 have hml : (menB x.s b).length ≤ 1 := by unfold menB; split <;> simp <;> omega
 have hopw : (oldB x.s b).Pairwise (· < ·) ∧ (∀ n ∈ oldB x.s b, 0 < n ∧ n ≤ (x.t : Int)) ∧ (oldB x.s b).length ≤ 3 * x.s.length := by
  rcases hold with ⟨_, h1, _⟩ | ⟨f, hf, _, h1, _⟩
  ·rw [h1]; simp
  ·rw [h1]
   have h2 := h.pw x.s[f] (List.getElem_mem hf)
   have h3 := (h.sl f hf).1
   exact ⟨h2.1, h2.2.1, by omega⟩
 have hday : 0 ≤ dayB x.s b := by
  rcases hold with ⟨_, _, h1⟩ | ⟨f, hf, _, _, h1⟩
  ·omega
  ·have := h.kn x.s[f] (List.getElem_mem hf)
   omega
 have hol := ownL_len x.t (b.own % 4)
 have ho4 : b.own % 4 < 4 := Nat.mod_lt _ (by omega)
 rw [hkm] at hopw
 obtain ⟨hp1, hp2, hp3⟩ := hopw
 rw [List.pairwise_append] at hp1
 rw [List.length_append] at hp3
 have hnew : (newB x.s x.t b).slips = keepB x.s b ++ ownL x.t (b.own % 4) := rfl
 have hkin : ∀ n ∈ keepB x.s b, 0 < n ∧ n ≤ (x.t : Int) := fun n hn => hp2 n (List.mem_append_right _ hn)
 have hidl : (stepB x b).s = x.s ++ [newB x.s x.t b] := rfl
 have hpsl : (stepB x b).ps = x.ps ++ [(frB x.s b : Int)] := rfl
 have htt : (stepB x b).t = x.t + b.own % 4 := rfl
 have hsn : ∀ j (h3 : j < (stepB x b).s.length), ∀ n ∈ (stepB x b).s[j].slips, n ≤ (x.t : Int) → (∃ h4 : j < x.s.length, (stepB x b).s[j] = x.s[j] ∧ n ∈ x.s[j].slips) ∨ (j = x.s.length ∧ n ∈ keepB x.s b) := by
  intro j h3 n hn hle
  rcases getElem_snoc (l := x.s) (a := newB x.s x.t b) (by rw [hidl] at h3; exact h3) with ⟨h4, h5⟩ | ⟨h4, h5⟩
  ·simp only [hidl] at hn ⊢
   rw [h5] at hn
   exact .inl ⟨h4, h5, hn⟩
  ·simp only [hidl] at hn
   rw [h5, hnew, List.mem_append, ownL_mem] at hn
   refine .inr ⟨h4, ?_⟩
   rcases hn with hn | hn
   ·exact hn
   ·omega
 refine ⟨?_, ?_, ?_, ?_, ?_, ?_, ?_, ?_, ?_, ?_, ?_, ?_, ?_⟩
 ·rw [hidl, hpsl, List.length_append, List.length_append, h.pl]; rfl
 ·rw [hidl, List.length_append, List.length_append, h.ol]; rfl
 ·intro k hk
  simp only [hidl] at hk ⊢
  rcases getElem_snoc hk with ⟨h4, h5⟩ | ⟨h4, h5⟩
  ·rw [h5]; exact h.ids k h4
  ·rw [h5, h4]; rfl
 ·intro w hw
  rw [hidl, List.mem_append, List.mem_singleton] at hw
  rcases hw with hw | rfl
  ·exact h.kn w hw
  ·refine ⟨rfl, rfl, ?_, ?_⟩ <;> simp only [newB] <;> omega
 ·intro k hk
  simp only [hidl] at hk ⊢
  rcases getElem_snoc hk with ⟨h4, h5⟩ | ⟨h4, h5⟩
  ·rw [h5]; exact h.sl k h4
  ·rw [h5, h4, hnew, List.length_append, hol]
   exact ⟨by omega, hml⟩
 ·intro w hw
  rw [hidl, List.mem_append, List.mem_singleton] at hw
  rw [htt]
  rcases hw with hw | rfl
  ·have h1 := h.pw w hw
   refine ⟨h1.1, fun n hn => ?_, h1.2.2.1, fun n hn => ?_⟩
   ·have := h1.2.1 n hn; omega
   ·have := h1.2.2.2 n hn
    exact ⟨this.1, by omega, this.2.2⟩
  ·rw [hnew]
   refine ⟨?_, fun n hn => ?_, hp1.1, fun n hn => ?_⟩
   ·rw [List.pairwise_append]
    refine ⟨hp1.2.1, ownL_pw _ _, fun a ha c hc => ?_⟩
    have h1 := hkin a ha
    rw [ownL_mem] at hc
    omega
   ·rw [List.mem_append, ownL_mem] at hn
    rcases hn with hn | hn
    ·have := hkin n hn; omega
    ·omega
   ·have h1 := hp2 n (List.mem_append_left _ hn)
    refine ⟨h1.1, by omega, fun hn2 => ?_⟩
    rw [List.mem_append, ownL_mem] at hn2
    rcases hn2 with hn2 | hn2
    ·have := hp1.2.2 n hn n hn2; omega
    ·omega
 ·rw [List.map_append, List.sum_append, h.tt]; simp [hol, htt]
 ·intro o ho
  rw [List.mem_append, List.mem_singleton] at ho
  rw [htt]
  rcases ho with ho | rfl
  ·have := h.nd o ho
   exact ⟨this.1, fun n hn => by have := this.2 n hn; omega⟩
  ·exact ⟨(ownL_pw _ _).imp fun h => by omega, fun n hn => by rw [ownL_mem] at hn; omega⟩
 ·intro o ho
  rw [List.mem_append, List.mem_singleton] at ho
  rcases ho with ho | rfl
  ·exact h.o3 o ho
  ·rw [hol]; omega
 ·intro k hk hk2 n hn
  simp only [hidl] at hk ⊢
  rcases getElem_snoc hk with ⟨h4, h5⟩ | ⟨h4, h5⟩
  ·have h6 : k < ow.length := by rw [h.ol]; exact h4
   rw [List.getElem_append_left h6] at hn
   rw [h5]; exact h.oin k h4 h6 n hn
  ·subst h4
   rw [List.getElem_append_right (by rw [h.ol]; omega)] at hn
   simp only [List.getElem_singleton] at hn
   rw [h5, hnew]
   exact List.mem_append_right _ hn
 ·intro k j hk hk2 hj n hn hnj
  simp only [hidl] at hk
  rcases getElem_snoc hk with ⟨h4, h5⟩ | ⟨h4, h5⟩
  ·have h6 : k < ow.length := by rw [h.ol]; exact h4
   rw [List.getElem_append_left h6] at hn
   have hle := (h.nd ow[k] (List.getElem_mem h6)).2 n hn
   simp only [hidl] at hnj ⊢
   rw [h5]
   rcases hsn j hj n hnj hle with ⟨h7, h8, h9⟩ | ⟨h7, h9⟩
   ·simp only [hidl] at h8
    rw [h8]
    exact h.late k j h4 h6 h7 n hn h9
   ·right
    have ho : n ∈ oldB x.s b := by rw [hkm]; exact List.mem_append_right _ h9
    have h8 : (x.s ++ [newB x.s x.t b])[j]'(by rw [← hidl]; exact hj) = newB x.s x.t b := by subst h7; simp
    rw [h8]
    rcases hold with ⟨_, h1, _⟩ | ⟨f, hf, _, h1, h2⟩
    ·rw [h1] at ho; cases ho
    ·rw [h1] at ho
     have hlo : x.s[f].hi < (newB x.s x.t b).lo := by simp only [newB]; omega
     rcases h.late k f h4 h6 hf n hn ho with rfl | h10
     ·exact hlo
     ·have := h.kn x.s[f] (List.getElem_mem hf)
      omega
  ·subst h4
   rw [List.getElem_append_right (by rw [h.ol]; omega)] at hn
   simp only [List.getElem_singleton] at hn
   rw [ownL_mem] at hn
   left
   simp only [hidl] at hj hnj
   rcases getElem_snoc hj with ⟨h7, h8⟩ | ⟨h7, h8⟩
   ·rw [h8] at hnj
    have := (h.pw x.s[j] (List.getElem_mem h7)).2.1 n hnj
    omega
   ·exact h7
 ·intro k hk hk2 hk3
  simp only [hidl] at hk
  simp only [hidl, hpsl] at hk3 ⊢
  rcases getElem_snoc hk with ⟨h4, h5⟩ | ⟨h4, h5⟩
  ·have h6 : k < ow.length := by rw [h.ol]; exact h4
   have h7 : k < x.ps.length := by rw [h.pl]; exact h4
   rw [h5, List.getElem_append_left h6, List.getElem_append_left h7]
   rcases h.par k h4 h6 h7 with h8 | ⟨f, hf, h8⟩
   ·exact .inl h8
   ·refine .inr ⟨f, hf, ?_⟩
    rw [List.getElem_append_left (show f < x.s.length by omega)]
    exact h8
  ·subst h4
   have e1 : (ow ++ [ownL x.t (b.own % 4)])[x.s.length]'hk2 = ownL x.t (b.own % 4) := by rw [List.getElem_append_right (by rw [h.ol]; omega)]; simp
   have e2 : (x.ps ++ [(frB x.s b : Int)])[x.s.length]'hk3 = (frB x.s b : Int) := by rw [List.getElem_append_right (by rw [h.pl]; omega)]; simp
   rw [h5, e1, e2]
   rcases hold with ⟨h0, h1, _⟩ | ⟨f, hf, h0, h1, h2⟩
   ·left
    rw [h1] at hkm
    have := List.append_eq_nil_iff.1 hkm.symm
    rw [hnew, this.2, h0]; exact ⟨rfl, rfl⟩
   ·right
    refine ⟨f, hf, by rw [h0]; omega, ?_, ?_, ?_, ?_⟩
    ·rw [List.getElem_append_left hf]; simp only [newB]; omega
    ·intro n hn
     rw [List.getElem_append_left hf, ← h1, hkm] at hn
     rcases List.mem_append.1 hn with hn | hn
     ·exact .inr hn
     ·exact .inl (by rw [hnew]; exact List.mem_append_left _ hn)
    ·intro n hn
     rw [List.getElem_append_left hf, ← h1, hkm]
     rw [hnew] at hn
     rcases List.mem_append.1 hn with hn | hn
     ·exact .inl (List.mem_append_right _ hn)
     ·exact .inr hn
    ·intro n hn hn2
     rw [List.getElem_append_left hf] at hn2
     have := (h.pw x.s[f] (List.getElem_mem hf)).2.1 n hn2
     rw [ownL_mem] at hn
     omega
 ·intro hm a c hc
  have hm1 : x.m = false ∧ cutB x.s b = false := by
   have : (x.m || cutB x.s b) = false := hm
   simpa using this
  have hkeep : keepB x.s b = oldB x.s b := by unfold keepB; rw [if_neg (by rw [hm1.2]; simp)]
  have hno := h.cro hm1.1
  obtain ⟨⟨w, hw, w1, w2⟩, ⟨u, hu, u1, u2⟩, v, hv, v1, v2⟩ := hc
  rw [hidl, List.mem_append, List.mem_singleton] at hw hu hv
  have hsl : ∀ y ∈ x.s, ∀ n ∈ y.slips, n ≤ (x.t : Int) := fun y hy n hn => ((h.pw y hy).2.1 n hn).2
  have hold2 : ∀ n, n ≤ (x.t : Int) → (n ∈ (newB x.s x.t b).slips ↔ n ∈ oldB x.s b) := fun n hn => by
   rw [hnew, hkeep, List.mem_append, ownL_mem]
   constructor
   ·rintro (h1 | h1)
    ·exact h1
    ·omega
   ·exact .inl
  by_cases ha : a ≤ (x.t : Int)
  ·by_cases hb : c ≤ (x.t : Int)
   ·rcases hold with ⟨_, h1, _⟩ | ⟨f, hf, _, h1, _⟩
    ·rw [h1] at hold2
     have na : a ∉ (newB x.s x.t b).slips := fun h => by rw [hold2 a ha] at h; cases h
     have nc : c ∉ (newB x.s x.t b).slips := fun h => by rw [hold2 c hb] at h; cases h
     refine hno a c ⟨⟨w, ?_, w1, w2⟩, ⟨u, ?_, u1, u2⟩, v, ?_, v1, v2⟩
     ·rcases hw with hw | rfl; exact hw; exact absurd w1 na
     ·rcases hu with hu | rfl; exact hu; exact absurd u1 na
     ·rcases hv with hv | rfl; exact hv; exact absurd v1 nc
    ·rw [h1] at hold2
     have hm3 := List.getElem_mem hf
     have sw : ∀ {y : Wit}, y ∈ x.s ∨ y = newB x.s x.t b → ∃ z ∈ x.s, (a ∈ z.slips ↔ a ∈ y.slips) ∧ (c ∈ z.slips ↔ c ∈ y.slips) := by
      rintro y (hy | rfl)
      ·exact ⟨y, hy, .rfl, .rfl⟩
      ·exact ⟨x.s[f], hm3,(hold2 a ha).symm, (hold2 c hb).symm⟩
     obtain ⟨w', hw', wa, wc⟩ := sw hw
     obtain ⟨u', hu', ua, uc⟩ := sw hu
     obtain ⟨v', hv', va, vc⟩ := sw hv
     exact hno a c ⟨⟨w', hw', wa.2 w1, wc.2 w2⟩, ⟨u', hu', ua.2 u1, fun h => u2 (uc.1 h)⟩, v', hv', vc.2 v1, fun h => v2 (va.1 h)⟩
   ·have e1 : w = newB x.s x.t b := hw.resolve_left fun h => hb (hsl w h c w2)
    have e2 : v = newB x.s x.t b := hv.resolve_left fun h => hb (hsl v h c v1)
    subst e1; subst e2
    exact v2 w1
  ·have e1 : w = newB x.s x.t b := hw.resolve_left fun h => ha (hsl w h a w1)
   have e2 : u = newB x.s x.t b := hu.resolve_left fun h => ha (hsl u h a u1)
   subst e1; subst e2
   exact u2 w2

theorem bldB_ok (l : List Bir) : ∀ k, k ≤ l.length → ∃ ow, TrOK (bldB l k) ow
 | 0, _ => ⟨[], .nil⟩
 | k + 1, h => by
  obtain ⟨ow, ih⟩ := bldB_ok l k (by omega)
  rw [bldB_succ l k (by omega)]
  exact ⟨_, ih.step _⟩

theorem checkL_of : ∀ {l : List Wit} {seen : List Int},(∀ w ∈ l, witE w = 0) → (l.map Wit.id).Nodup → (∀ w ∈ l, w.id ∉ seen) → checkL l seen = 0
 | [], _, _, _, _ => rfl
 | w :: r, seen, h1, h2, h3 => by
  rw [checkL, if_pos (h1 w List.mem_cons_self), if_neg (h3 w List.mem_cons_self)]
  rw [List.map_cons, List.nodup_cons] at h2
  refine checkL_of (fun v hv => h1 v (List.mem_cons_of_mem _ hv)) h2.2 fun v hv hvs => ?_
  unfold insU at hvs
  split at hvs
  ·exact h3 v (List.mem_cons_of_mem _ hv) hvs
  ·rw [List.mem_append, List.mem_singleton] at hvs
   rcases hvs with h | h
   ·exact h3 v (List.mem_cons_of_mem _ hv) h
   ·exact h2.1 (h ▸ List.mem_map_of_mem hv)

theorem TrOK.nodup {x : TrS} {ow : List (List Int)} (h : TrOK x ow) : (x.s.map Wit.id).Nodup := by
 rw [List.nodup_iff_pairwise_ne, List.pairwise_iff_getElem]
 intro i j hi hj hij
 rw [List.length_map] at hi hj
 rw [List.getElem_map, List.getElem_map, h.ids i hi, h.ids j hj]
 omega

theorem sum_3 : ∀ (l : List (List Int)),(∀ o ∈ l, o.length ≤ 3) → (l.map List.length).sum ≤ 3 * l.length
 | [], _ => by simp
 | a :: r, h => by
  have h1 := sum_3 r fun o ho => h o (List.mem_cons_of_mem _ ho)
  have h2 := h a List.mem_cons_self
  simp only [List.map_cons, List.sum_cons, List.length_cons]; omega
theorem TrOK.check {x : TrS} {ow : List (List Int)} (h : TrOK x ow) (hl : x.s.length ≤ 10) (hh : ∀ w ∈ x.s, w.hi ≤ 730) : checkS x.s = 0 := by
 unfold checkS
 rw [if_neg (by omega)]
 refine checkL_of (fun w hw => ?_) h.nodup (by simp)
 obtain ⟨k, hk, rfl⟩ := List.getElem_of_mem hw
 have h1 := h.ids k hk
 have h2 := h.kn _ hw
 have h3 := h.sl k hk
 have h4 := h.pw _ hw
 have h5 := hh _ hw
 have ht : x.t ≤ 30 := by
  rw [← h.tt]
  have := sum_3 ow h.o3
  have := h.ol
  omega
 have hr : rightS x.s[k] = true := by
  rw [rightS_eq, h2.2.1]
  simp only [Bool.and_eq_true, Bool.not_eq_true', decide_eq_false_iff_not, List.not_mem_nil, not_false_eq_true, and_true, true_and]
  refine ⟨rising_iff.2 ⟨h4.1, fun n hn => ?_⟩, rising_iff.2 ⟨h4.2.2.1, fun n hn => ?_⟩, rfl, ?_⟩
  ·have := h4.2.1 n hn; omega
  ·have := h4.2.2.2 n hn; omega
  ·rw [List.any_eq_false]; intro n hn; have := (h4.2.2.2 n hn).2.2; simpa using this
 unfold witE
 rw [if_neg (by omega), if_neg (by omega), if_neg (by omega), if_neg (by omega), if_neg (by omega), if_neg (by omega), if_neg (by omega), if_neg (by rw [h2.2.1]; simp), if_pos hr]
theorem TrOK.getW {x : TrS} {ow : List (List Int)} (h : TrOK x ow) {f : Nat} (hf : f < x.s.length) : getW x.s ((f : Int) + 1) = some x.s[f] := by
 rw [← h.ids f hf]
 exact getW_own h.nodup (List.getElem_mem hf)

theorem TrOK.least {x : TrS} {ow : List (List Int)} (h : TrOK x ow) (hc : checkS x.s = 0) {k : Nat} (hk : k < x.s.length) (h2 : k < ow.length) {y : Int × Int} (hy : y ∈ parS x.s x.s[k]) : (ow[k].length : Int) ≤ y.2 := by
  have hn := (h.nd ow[k] (List.getElem_mem h2)).1
  have hin := h.oin k hk h2
  rcases parS_mem.1 hy with ⟨rfl, _⟩ | ⟨p, hp1, hp2, hp3, hp4⟩
  · have := nodup_sub hn hin
    simp only; omega
  · rw [hp4]
    have : ow[k].length ≤ (ariS x.s[k] p).length := nodup_sub hn fun n hn => by
      unfold ariS
      rw [List.mem_filter]
      refine ⟨hin n hn, ?_⟩
      simp only [Bool.not_eq_true', decide_eq_false_iff_not, mem_setK1]
      intro hnp
      have hpm := (getW_mem hp2).1
      obtain ⟨j, hj, rfl⟩ := List.getElem_of_mem hpm
      rcases h.late k j hk h2 hj n hn hnp with rfl | hlt
      · unfold whyP at hp3; simp at hp3
      · have h3 := h.kn _ (List.getElem_mem hj)
        have h4 := h.kn _ (List.getElem_mem hk)
        unfold whyP at hp3
        rw [if_neg (by rw [h.ids j hj, h.ids k hk]; intro he; have : j = k := by omega
                       subst this; omega)] at hp3
        rw [if_pos (by omega)] at hp3
        simp at hp3
    omega

theorem idxF_all0 {α : Type} {p : α → Bool} : ∀ {l : List α} {k : Nat},(∀ a ∈ l, p a = false) → idxF p k l = -1
 | [], _, _ => rfl
 | a :: r, k, h => by
  rw [idxF, if_neg (by rw [h a List.mem_cons_self]; simp)]
  exact idxF_all0 fun x hx => h x (List.mem_cons_of_mem _ hx)

theorem TrOK.trueP {x : TrS} {ow : List (List Int)} (h : TrOK x ow) (hc : checkS x.s = 0) {k : Nat} (hk : k < x.s.length) (h2 : k < ow.length) (h3 : k < x.ps.length) : stepD x.s x.s[k] x.ps[k] = some (ow[k].length : Int) ∧ (x.ps[k],(ow[k].length : Int)) ∈ parS x.s x.s[k] := by
 have hmd := (h.kn _ (List.getElem_mem hk)).2.1
 have hls : ∀ id, lastS x.s[k] id = 0 := fun id => by unfold lastS; rw [hmd]; simp
 rcases h.par k hk h2 h3 with ⟨h4, h5⟩ | ⟨f, hf, h4, h5, h6, h7, h8⟩
 ·rw [h4]
  refine ⟨?_, parS_mem.2 (.inl ⟨by rw [h5], hls 0⟩)⟩
  unfold stepD
  rw [getW_zero hc]
  simp only
  simp only [hls 0, and_self, if_true, h5]
 ·have hfl : f < x.s.length := by omega
  have hg := h.getW hfl
  have hnd : x.s[k].slips.Nodup := (h.pw _ (List.getElem_mem hk)).1.imp fun h => by omega
  have hw : (whyP x.s[k] x.s[f]).1 = 0 := by
   unfold whyP
   rw [if_neg (by rw [h.ids f hfl, h.ids k hk]; omega), if_neg (by omega), idxF_all0, if_neg (by omega)]
   ·exact hls _
   ·intro n hn
    unfold lackF
    simp only [Bool.not_eq_false', decide_eq_true_eq, mem_setK]
    rcases h6 n hn with h | h
    ·exact ⟨_, List.mem_cons_self, h⟩
    ·exact ⟨_, List.mem_cons_of_mem _ List.mem_cons_self, h⟩
  have hlen : (ariS x.s[k] x.s[f]).length = ow[k].length := by
   apply Nat.le_antisymm
   ·refine nodup_sub (hnd.filter _) fun n hn => ?_
    unfold ariS at hn
    rw [List.mem_filter] at hn
    simp only [Bool.not_eq_true', decide_eq_false_iff_not, mem_setK1] at hn
    exact (h7 n hn.1).resolve_left hn.2
   ·refine nodup_sub (h.nd _ (List.getElem_mem h2)).1 fun n hn => ?_
    unfold ariS
    rw [List.mem_filter]
    refine ⟨h.oin k hk h2 n hn, ?_⟩
    simp only [Bool.not_eq_true', decide_eq_false_iff_not, mem_setK1]
    exact h8 n hn
  refine ⟨?_, parS_mem.2 (.inr ⟨x.s[f], ?_, ?_, hw, ?_⟩)⟩
  ·unfold stepD
   rw [h4, hg]
   simp only
   rw [if_pos hw, hlen]
  ·rw [h4]; exact idsS_mem.2 ⟨_, List.getElem_mem hfl, h.ids f hfl⟩
  ·rw [h4]; exact hg
  ·rw [hlen]

theorem TrOK.choice {x : TrS} {ow : List (List Int)} (h : TrOK x ow) (hc : checkS x.s = 0) {k : Nat} (hk : k < x.s.length) (h2 : k < ow.length) : (choF x.s x.s[k]).1 ≠ [] ∧ (choF x.s x.s[k]).2 = (ow[k].length : Int) := by
 have h3 : k < x.ps.length := by rw [h.pl]; exact hk
 have hp := (h.trueP hc hk h2 h3).2
 rcases choF_spec x.s x.s[k] with ⟨h4, _⟩ | ⟨h4, h5, y, hy, h6⟩
 ·rw [h4] at hp; cases hp
 ·refine ⟨h4, ?_⟩
  have h7 := h5 _ hp
  have h8 := h.least hc hk h2 hy
  simp only at h7
  omega

theorem sum_cast (l : List (List Int)) : (l.map fun o => (o.length : Int)).sum = ((l.map List.length).sum : Nat) := by
 induction l with
 | nil => rfl
 | cons a r ih => simp only [List.map_cons, List.sum_cons, ih]; omega

theorem TrOK.all {x : TrS} {ow : List (List Int)} (h : TrOK x ow) (hc : checkS x.s = 0) : chE x.s = 0 ∧ bestS x.s (chL x.s).length = (x.t : Int) ∧ cbR x.s x.ps x.t = 0 ∧ (x.m = false → (crR x.s).isSome = false) := by
 have he : chE x.s = 0 := by
  unfold chE
  rw [if_pos hc, if_neg]
  rintro ⟨c, hcm, hcn⟩
  obtain ⟨k, hk, rfl⟩ := List.getElem_of_mem hcm
  exact (h.choice hc hk (by rw [h.ol]; exact hk)).1 hcn
 have hb : bestS x.s (chL x.s).length = (x.t : Int) := by
  unfold bestS
  rw [List.take_length, chL_ok he, List.map_map, ← h.tt, ← sum_cast]
  congr 1
  apply List.ext_getElem
  ·simp [h.ol]
  ·intro k h1 h2
   rw [List.length_map] at h1 h2
   simp only [List.getElem_map, Function.comp]
   exact (h.choice hc h1 h2).2
 have hd : desL x.s x.ps = ow.map fun o => some (o.length : Int) := by
  apply List.ext_getElem
  ·simp [desL, h.ol, h.pl]
  ·intro k h1 h2
   rw [List.length_map] at h2
   have h3 : k < x.s.length := by rw [← h.ol]; exact h2
   have h4 : k < x.ps.length := by rw [h.pl]; exact h3
   obtain ⟨h5, h6⟩ := desL_get x.s x.ps k h3 h4
   rw [h6,(h.trueP hc h3 h2 h4).1, List.getElem_map]
 have hr : desR x.s x.ps = ((x.t : Int), true) := by
  unfold desR
  rw [if_pos ⟨h.pl, by rw [hd, List.all_map, List.all_eq_true]; intros; rfl⟩]
  unfold desP
  rw [List.take_of_length_le (by rw [hd, List.length_map, h.ol]; exact Nat.le_refl _), hd, List.map_map, ← h.tt, ← sum_cast]
  rfl
 refine ⟨he, hb, ?_, fun hm => ?_⟩
 ·unfold cbR
  rw [if_pos hc, hr, hb, if_pos ⟨rfl, he, rfl, rfl⟩]
 ·cases hs : (crR x.s).isSome with
  | false => rfl
  | true =>
   obtain ⟨a, b, hab⟩ := (crR_iff hc).1 hs
   exact absurd hab (h.cro hm a b)
end Go.Am.Ds
end
section
namespace Go.Am.Ds
open Go Go.Am Go.Proofs
attribute [local simp] vrun vwanted vyielded vop veval vevals vparts vO vbuiltin vlen vappend velems vcopy vmakeSlice vbuildSlice valloc vbox vmakeMap vload vpartT vpart vstore vfieldAddr vfield vindexAddr vindex vextract vslice vsliceZ vbounds vbnd zeroO vidx vlookup vmget vmapUpdate vdelete vnilq vnilp vnils vbin vsc vsc1 vscs vscl abinOp aint ashift aunOp aconvert amaxs amax2 pvcV pvc pvcs tput tget vargs VHeap.get VHeap.alloc VHeap.put VHeap.drop VHeap.empty vlook vput vdrop psplice pfill preps chunk List.range List.range.loop vresults vresult vresultV frz frzL PV.isF PV.allF PV.scal PV.allS retP subT allFT PV.one PV.ids PV.idsL dropL beq_eq ble_dec blt_dec
attribute [local simp] zW tup2
theorem p24x (s : List Wit) (h : checkS s = 0) : VPure Tryz.prog 24 [encS s] fun r => ∃ x1 x2 x3 x4 x5 : Int, r = .tup [.agg [.int .i64 x1, .int .i64 x2, .int .i64 x3, .int .i64 x4, .int .i64 x5], .bool (crR s).isSome, .int .i64 0] := by
 have hp := p24 s (by have := (checkS_ok h).1; omega)
 have hx : ∃ x1 x2 x3 x4 x5 : Int, crT s = .tup [.agg [.int .i64 x1, .int .i64 x2, .int .i64 x3, .int .i64 x4, .int .i64 x5], .bool (crR s).isSome, .int .i64 0] := by
  unfold crT
  rw [if_pos h]
  cases hc : crR s with
  | none => exact ⟨_, _, _, _, _, rfl⟩
  | some p => exact ⟨_, _, _, _, _, rfl⟩
 obtain ⟨x1, x2, x3, x4, x5, hx⟩ := hx
 rw [hx] at hp
 exact hp.mono fun r _ hr => ⟨hr.1, x1, x2, x3, x4, x5, hr.2⟩
end Go.Am.Ds
end
section
namespace Go.Am.Ds
open Go Go.Am Go.Proofs
attribute [local simp] vrun vwanted vyielded vop vopA vputAll VHeap.back hidI hidF backL bm Nat.testBit_eq_decide_div_mod_eq veval vevals vparts vO vbuiltin vlen vappend velems vcopy vmakeSlice vbuildSlice valloc vbox vmakeMap vload vpartT vpart vstore vfieldAddr vfield vindexAddr vindex vextract vslice vsliceZ vbounds vbnd zeroO vidx vlookup vmget vmapUpdate vdelete vclear vnilq vnilp vnils vbin vsc vsc1 vscs vscl abinOp aint ashift aunOp aconvert amaxs amax2 pvcV pvc pvcs tput tget vargs VHeap.get VHeap.alloc VHeap.put VHeap.drop VHeap.empty vlook vput vdrop psplice pfill preps chunk List.range List.range.loop vresults vresult vresultV frz frzL PV.isF PV.allF PV.scal PV.allS retP subT allFT PV.one PV.ids PV.idsL dropL beq_eq ble_dec blt_dec
attribute [local simp] zW tup2
def encB (b : Bir) : PV := .agg [.int .u8 b.fr, .int .u8 b.after, .int .u8 b.days, .int .u8 b.own, .bool b.mends]
@[simp] theorem encB_isF (w : Bir) : (encB w).isF = true := by simp [encB]
@[simp] theorem allSz_encB (s : List Bir) : allSz 5 (s.map encB) = true := allSz_map (f := encB) (n := 5) (fun _ => rfl) s
@[simp] theorem allOne_encB (s : List Bir) : allOne (s.map encB) = true := allOne_map (f := encB) (fun _ => by simp [PV.one, encB]) s
def byt (b : Bir) : Prop := b.fr < 256 ∧ b.after < 256 ∧ b.days < 256 ∧ b.own < 256
theorem tmodN (a m : Nat) : ((a : Int)).tmod (m : Int) = ((a % m : Nat) : Int) := by rw [Int.tmod_eq_emod_of_nonneg (by omega)]; rfl
theorem p9 (l : List Bir) (hb : ∀ b ∈ l, byt b) (hl : l.length < 4611686018427387904) (sanB : Bool) (hsan : VPure Tryz.prog 22 [] fun r => r = .bool sanB) (hsb : sanB = true) : VPure Tryz.prog 9 [.vec (l.map encB)] fun r => r = .bool true := by
 refine .of_body Tryz.func9 rfl rfl ?_
 refine .seq ?_
 refine .rn ?_
 refine .seq ?_
 refine .seq ?_
 refine .rn ?_
 refine .condS rfl (fun c20 => ?_) (fun c20 => ?_)
 ·try simp at c20
  refine .seq ?_
  refine .regionL [0,1] rfl zz0 ?_
  refine .step rfl rfl (.pure rfl rfl rfl Tryz.call22 (by decide) (hsan) (by first | rfl | simp [*]) ?_)
  rintro _ rfl
  refine .rn [1] [] ?_
  refine .done ?_
  refine .ret ?_
  refine ⟨_, _, zz4,zz4, ?_⟩
  first | rfl | (simp [*]; done) | (simp_all; done)
 ·try simp at c20
  skip
  refine .skip ?_
  refine .seq ?_
  refine .rn ?_
  refine .seq ?_
  refine .rn ?_
  refine .seq ?_
  refine .rn ?_
  refine .seq ?_
  refine .rn ?_
  refine .seq ?_
  refine .seq ?_
  refine .rn ?_
  refine .block ?_
  refine .loopS (fun x : Nat × TrS => ([(0, .vec (l.map encB)),(3, .ptr 0 0),(4, .grow 2 x.2.ps.length true),(5, .int .i64 x.2.t),(6, .bool x.2.m),(7, .int .i64 x.1)], ⟨3,[(2, .grow 1 (x.2.ps.map (.int .i64))),(1, .grow 7 (x.2.s.map encW)),(0, .box [.grow 1 x.2.s.length true])]⟩)) (fun x => x.1 ≤ l.length ∧ x.2 = bldB l x.1 ∧ ∀ w ∈ x.2.s, w.hi ≤ 730) (fun x => l.length - x.1) (0, ⟨[],[],0, false⟩) ⟨by simp, rfl, by simp⟩ (.mk [] [] (by repeat' (first | exact trivial | refine And.intro (Exists.intro _ (And.intro rfl ?_)) ?_ | (refine Alt.same _ ?_; first | rfl | (simp [*]; done)) | exact Alt.mapv _ _ (Nat.le_of_ble_eq_true rfl) rfl | exact Alt.grow _ _ _ _ (Nat.le_of_ble_eq_true rfl) rfl | (refine Alt.growE _ _ _ _ _ ?_ (Nat.le_of_ble_eq_true rfl) rfl; simp [*]; done) | exact Alt.ptr _ _ _ (Nat.le_of_ble_eq_true rfl) rfl | exact Alt.own _ _ _ _ _ (Nat.le_of_ble_eq_true rfl) rfl | exact Alt.sub _ _ _ _ (Nat.le_of_ble_eq_true rfl) rfl | exact Alt.yld _ _ (Nat.le_of_ble_eq_true rfl) rfl | exact Alt.sl0 _ _ | (refine Alt.sl0E _ _ _ ?_; simp [*]; done) | exact Alt.e0 _ | exact Alt.sl0v | exact Alt.own0 _ _ _ | (refine Alt.fgrow _ _ _ _ _ rfl rfl ?_; simp [*]; done) | exact Alt.fown _ _ _ _ _ _ _ _ rfl rfl rfl | (refine Alt.sl0vE ?_; simp [*] <;> rfl) | (refine Alt.ofEq rfl ?_; simp [*]; done))) (by repeat' (first | exact trivial | refine And.intro (And.intro (Nat.le_of_ble_eq_true rfl) (Or.inr (And.intro rfl (Exists.intro _ (And.intro rfl ?_))))) ?_ | refine And.intro (And.intro (Nat.le_of_ble_eq_true rfl) (Or.inl (Exists.intro _ (And.intro rfl (Nat.le_of_ble_eq_true rfl))))) ?_ | refine And.intro (And.intro (Nat.le_of_ble_eq_true rfl) (Or.inl (Exists.intro _ (And.intro (congrArg (VObj.grow _) (by simp [*])) (Nat.le_of_ble_eq_true rfl))))) ?_ | rfl | exact AltL.nil | (refine congrArg (VObj.grow _) ?_; simp [*]; done) | (refine congrArg VObj.map ?_; simp [*]; done) | (refine congrArg (VObj.arr _ _) ?_; simp [*]; done) | refine AltLp.mk rfl rfl rfl rfl rfl ?_ | refine And.intro (Exists.intro _ (And.intro rfl ?_)) ?_ | refine AltL.cons ?_ ?_ | (refine Alt.same _ ?_; first | rfl | (simp [*]; done)) | exact Alt.mapv _ _ (Nat.le_of_ble_eq_true rfl) rfl | exact Alt.grow _ _ _ _ (Nat.le_of_ble_eq_true rfl) rfl | (refine Alt.growE _ _ _ _ _ ?_ (Nat.le_of_ble_eq_true rfl) rfl; simp [*]; done) | exact Alt.ptr _ _ _ (Nat.le_of_ble_eq_true rfl) rfl | exact Alt.own _ _ _ _ _ (Nat.le_of_ble_eq_true rfl) rfl | exact Alt.sub _ _ _ _ (Nat.le_of_ble_eq_true rfl) rfl | exact Alt.yld _ _ (Nat.le_of_ble_eq_true rfl) rfl | exact Alt.sl0 _ _ | (refine Alt.sl0E _ _ _ ?_; simp [*]; done) | exact Alt.e0 _ | exact Alt.sl0v | exact Alt.own0 _ _ _ | (refine Alt.fgrow _ _ _ _ _ rfl rfl ?_; simp [*]; done) | exact Alt.fown _ _ _ _ _ _ _ _ rfl rfl rfl | (refine Alt.sl0vE ?_; simp [*] <;> rfl) | (refine Alt.ofEq rfl ?_; simp [*]; done))) rfl rfl rfl) ?_
  rintro ⟨k, s, ps, t, m⟩ ⟨hk, hX, hh⟩
  simp only at hk hX hh ⊢
  obtain ⟨hsl, hpl⟩ := bldB_len l k hk
  obtain ⟨ow, hok⟩ := bldB_ok l k hk
  rw [← hX] at hsl hpl hok
  simp only at hsl hpl
  refine .seq ?_
  refine .seq ?_
  refine .rn ?_
  refine .condS rfl (fun c25 => ?_) (fun c25 => ?_)
  ·try simp at c25
   have hw2 : IntKind.i64.wrap ((k : Int) + 1) = (k : Int) + 1 := wrap64 (by omega) (by omega)
   obtain ⟨hb1, hb2, hb3, hb4⟩ := hb l[k] (List.getElem_mem c25)
   have hold := hok.old l[k]
   have hX2 := bldB_succ l k c25
   rw [← hX] at hX2
   obtain ⟨b, hbe⟩ : ∃ b, l[k] = b := ⟨_, rfl⟩
   rw [hbe] at hb1 hb2 hb3 hb4 hold hX2
   simp only at hold
   have hE : encB l[k] = .agg [.int .u8 b.fr, .int .u8 b.after, .int .u8 b.days, .int .u8 b.own, .bool b.mends] := by rw [hbe]; rfl
   obtain ⟨f, hf⟩ : ∃ f, frB s b = f := ⟨_, rfl⟩
   have hfm : ((b.fr : Int)).tmod ((k : Int) + 1) = (f : Int) := by
    have := tmodN b.fr (k + 1)
    rw [← hf, frB, hsl, ← this]; rfl
   have hfk : f ≤ k := by
    have := Nat.mod_lt b.fr (show 0 < s.length + 1 by omega)
    rw [← hf]; unfold frB; omega
   have hw3 : IntKind.i64.wrap (b.fr : Int) = (b.fr : Int) := wrap64 (by omega) (by omega)
   have hk1 : ¬ ((k : Int) + 1 = 0) := by omega
   refine .skip ?_
   refine .seq ?_
   refine .block ?_
   refine .seq ?_
   refine .rn ?_
   refine .seq ?_
   refine .rn ?_
   refine .seq ?_
   refine .rn ?_
   refine .join (fun _ : Unit => ([(0, .vec (l.map encB)),(3, .ptr 0 0),(4, .grow 2 ps.length true),(5, .int .i64 t),(6, .bool m),(7, .int .i64 k),(8, .ptr 3 0),(9, .int .i64 f),(10, .int .i64 0)], ⟨4,[(3, .box [.int .i64 ((k : Int) + 1), .int .i64 0, .sl0, .sl0, .sl0, .int .i64 0, .int .i64 0]),(2, .grow 1 (ps.map (.int .i64))),(1, .grow 7 (s.map encW)),(0, .box [.grow 1 s.length true])]⟩)) (fun _ => True) ?_ ?_
   ·skip
    refine .seq ?_
    refine .rn ?_
    refine .condS rfl (fun c32 => ?_) (fun c32 => ?_)
    ·try simp at c32
     refine .rn ?_
     refine ⟨(), trivial, (.mk [] [] (by repeat' (first | exact trivial | refine And.intro (Exists.intro _ (And.intro rfl ?_)) ?_ | (refine Alt.same _ ?_; first | rfl | (simp [*]; done)) | exact Alt.mapv _ _ (Nat.le_of_ble_eq_true rfl) rfl | exact Alt.grow _ _ _ _ (Nat.le_of_ble_eq_true rfl) rfl | (refine Alt.growE _ _ _ _ _ ?_ (Nat.le_of_ble_eq_true rfl) rfl; simp [*]; done) | exact Alt.ptr _ _ _ (Nat.le_of_ble_eq_true rfl) rfl | exact Alt.own _ _ _ _ _ (Nat.le_of_ble_eq_true rfl) rfl | exact Alt.sub _ _ _ _ (Nat.le_of_ble_eq_true rfl) rfl | exact Alt.yld _ _ (Nat.le_of_ble_eq_true rfl) rfl | exact Alt.sl0 _ _ | (refine Alt.sl0E _ _ _ ?_; simp [*]; done) | exact Alt.e0 _ | exact Alt.sl0v | exact Alt.own0 _ _ _ | (refine Alt.fgrow _ _ _ _ _ rfl rfl ?_; simp [*]; done) | exact Alt.fown _ _ _ _ _ _ _ _ rfl rfl rfl | (refine Alt.sl0vE ?_; simp [*] <;> rfl) | (refine Alt.ofEq rfl ?_; simp [*]; done))) (by repeat' (first | exact trivial | refine And.intro (And.intro (Nat.le_of_ble_eq_true rfl) (Or.inr (And.intro rfl (Exists.intro _ (And.intro rfl ?_))))) ?_ | refine And.intro (And.intro (Nat.le_of_ble_eq_true rfl) (Or.inl (Exists.intro _ (And.intro rfl (Nat.le_of_ble_eq_true rfl))))) ?_ | refine And.intro (And.intro (Nat.le_of_ble_eq_true rfl) (Or.inl (Exists.intro _ (And.intro (congrArg (VObj.grow _) (by simp [*])) (Nat.le_of_ble_eq_true rfl))))) ?_ | rfl | exact AltL.nil | (refine congrArg (VObj.grow _) ?_; simp [*]; done) | (refine congrArg VObj.map ?_; simp [*]; done) | (refine congrArg (VObj.arr _ _) ?_; simp [*]; done) | refine AltLp.mk rfl rfl rfl rfl rfl ?_ | refine And.intro (Exists.intro _ (And.intro rfl ?_)) ?_ | refine AltL.cons ?_ ?_ | (refine Alt.same _ ?_; first | rfl | (simp [*]; done)) | exact Alt.mapv _ _ (Nat.le_of_ble_eq_true rfl) rfl | exact Alt.grow _ _ _ _ (Nat.le_of_ble_eq_true rfl) rfl | (refine Alt.growE _ _ _ _ _ ?_ (Nat.le_of_ble_eq_true rfl) rfl; simp [*]; done) | exact Alt.ptr _ _ _ (Nat.le_of_ble_eq_true rfl) rfl | exact Alt.own _ _ _ _ _ (Nat.le_of_ble_eq_true rfl) rfl | exact Alt.sub _ _ _ _ (Nat.le_of_ble_eq_true rfl) rfl | exact Alt.yld _ _ (Nat.le_of_ble_eq_true rfl) rfl | exact Alt.sl0 _ _ | (refine Alt.sl0E _ _ _ ?_; simp [*]; done) | exact Alt.e0 _ | exact Alt.sl0v | exact Alt.own0 _ _ _ | (refine Alt.fgrow _ _ _ _ _ rfl rfl ?_; simp [*]; done) | exact Alt.fown _ _ _ _ _ _ _ _ rfl rfl rfl | (refine Alt.sl0vE ?_; simp [*] <;> rfl) | (refine Alt.ofEq rfl ?_; simp [*]; done))) rfl rfl rfl)⟩
    ·try simp at c32
     refine .skip ?_
     have : f = 0 := by omega
     subst this
     refine ⟨(), trivial, (.mk [] [] (by repeat' (first | exact trivial | refine And.intro (Exists.intro _ (And.intro rfl ?_)) ?_ | (refine Alt.same _ ?_; first | rfl | (simp [*]; done)) | exact Alt.mapv _ _ (Nat.le_of_ble_eq_true rfl) rfl | exact Alt.grow _ _ _ _ (Nat.le_of_ble_eq_true rfl) rfl | (refine Alt.growE _ _ _ _ _ ?_ (Nat.le_of_ble_eq_true rfl) rfl; simp [*]; done) | exact Alt.ptr _ _ _ (Nat.le_of_ble_eq_true rfl) rfl | exact Alt.own _ _ _ _ _ (Nat.le_of_ble_eq_true rfl) rfl | exact Alt.sub _ _ _ _ (Nat.le_of_ble_eq_true rfl) rfl | exact Alt.yld _ _ (Nat.le_of_ble_eq_true rfl) rfl | exact Alt.sl0 _ _ | (refine Alt.sl0E _ _ _ ?_; simp [*]; done) | exact Alt.e0 _ | exact Alt.sl0v | exact Alt.own0 _ _ _ | (refine Alt.fgrow _ _ _ _ _ rfl rfl ?_; simp [*]; done) | exact Alt.fown _ _ _ _ _ _ _ _ rfl rfl rfl | (refine Alt.sl0vE ?_; simp [*] <;> rfl) | (refine Alt.ofEq rfl ?_; simp [*]; done))) (by repeat' (first | exact trivial | refine And.intro (And.intro (Nat.le_of_ble_eq_true rfl) (Or.inr (And.intro rfl (Exists.intro _ (And.intro rfl ?_))))) ?_ | refine And.intro (And.intro (Nat.le_of_ble_eq_true rfl) (Or.inl (Exists.intro _ (And.intro rfl (Nat.le_of_ble_eq_true rfl))))) ?_ | refine And.intro (And.intro (Nat.le_of_ble_eq_true rfl) (Or.inl (Exists.intro _ (And.intro (congrArg (VObj.grow _) (by simp [*])) (Nat.le_of_ble_eq_true rfl))))) ?_ | rfl | exact AltL.nil | (refine congrArg (VObj.grow _) ?_; simp [*]; done) | (refine congrArg VObj.map ?_; simp [*]; done) | (refine congrArg (VObj.arr _ _) ?_; simp [*]; done) | refine AltLp.mk rfl rfl rfl rfl rfl ?_ | refine And.intro (Exists.intro _ (And.intro rfl ?_)) ?_ | refine AltL.cons ?_ ?_ | (refine Alt.same _ ?_; first | rfl | (simp [*]; done)) | exact Alt.mapv _ _ (Nat.le_of_ble_eq_true rfl) rfl | exact Alt.grow _ _ _ _ (Nat.le_of_ble_eq_true rfl) rfl | (refine Alt.growE _ _ _ _ _ ?_ (Nat.le_of_ble_eq_true rfl) rfl; simp [*]; done) | exact Alt.ptr _ _ _ (Nat.le_of_ble_eq_true rfl) rfl | exact Alt.own _ _ _ _ _ (Nat.le_of_ble_eq_true rfl) rfl | exact Alt.sub _ _ _ _ (Nat.le_of_ble_eq_true rfl) rfl | exact Alt.yld _ _ (Nat.le_of_ble_eq_true rfl) rfl | exact Alt.sl0 _ _ | (refine Alt.sl0E _ _ _ ?_; simp [*]; done) | exact Alt.e0 _ | exact Alt.sl0v | exact Alt.own0 _ _ _ | (refine Alt.fgrow _ _ _ _ _ rfl rfl ?_; simp [*]; done) | exact Alt.fown _ _ _ _ _ _ _ _ rfl rfl rfl | (refine Alt.sl0vE ?_; simp [*] <;> rfl) | (refine Alt.ofEq rfl ?_; simp [*]; done))) rfl rfl rfl)⟩
   ·skip
    rintro _ _
    simp only
    obtain ⟨o, ho⟩ : ∃ o, oldB s b = o := ⟨_, rfl⟩
    obtain ⟨d, hd⟩ : ∃ d, dayB s b = d := ⟨_, rfl⟩
    have hol : o.length ≤ 4294967290 := by
     rcases hold with ⟨_, h1, _⟩ | ⟨g, hg, _, h1, _⟩
     ·rw [← ho, h1]; simp
     ·rw [← ho, h1]; have := (hok.sl g hg).1; simp only at this; omega
    refine .join (fun _ : Unit => ([(0, .vec (l.map encB)),(3, .ptr 0 0),(4, .grow 2 ps.length true),(5, .int .i64 t),(6, .bool m),(7, .int .i64 k),(8, .ptr 3 0),(9, .int .i64 f),(10, .int .i64 d)], ⟨5,[(4, .grow 1 (o.map (.int .i64))),(3, .box [.int .i64 ((k : Int) + 1), .int .i64 0, .grow 4 o.length true, .sl0, .sl0, .int .i64 0, .int .i64 0]),(2, .grow 1 (ps.map (.int .i64))),(1, .grow 7 (s.map encW)),(0, .box [.grow 1 s.length true])]⟩)) (fun _ => 0 ≤ d ∧ d ≤ 731) ?_ ?_
    ·skip
     refine .seq ?_
     refine .rn ?_
     refine .condS rfl (fun c43 => ?_) (fun c43 => ?_)
     ·try simp at c43
      obtain ⟨g, hg, hg1, hg2, hg3⟩ : ∃ g, ∃ hg : g < s.length, f = g + 1 ∧ o = s[g].slips ∧ d = s[g].hi + 1 := by
       rcases hold with ⟨h1, _, _⟩ | ⟨g, hg, h1, h2, h3⟩
       ·omega
       ·exact ⟨g, hg, by omega, by rw [← ho, h2], by rw [← hd, h3]⟩
      have hsub : IntKind.i64.wrap ((f : Int) - 1) = (g : Int) := by rw [wrap64 (by omega) (by omega)]; omega
      have hwg : IntKind.i64.wrap (g : Int) = (g : Int) := wrap64 (by omega) (by omega)
      have hEg : encW s[g] = .agg [.int .i64 s[g].id, .int .i64 s[g].known, ints s[g].slips, ints s[g].mended, ints s[g].models, .int .i64 s[g].lo, .int .i64 s[g].hi] := rfl
      have hgh := hh s[g] (List.getElem_mem hg)
      have hgk := hok.kn s[g] (List.getElem_mem hg)
      have hw4 : IntKind.i64.wrap (s[g].hi + 1) = s[g].hi + 1 := wrap64 (by omega) (by omega)
      have hgl : s[g].slips.length ≤ 4294967296 := by rw [← hg2]; omega
      refine .seq ?_
      refine .regionL [0,1,2,3,4,5,6,7] rfl zz0 ?_
      refine .rn [0,1,2,3] [4,5,6,7] ?_
      refine .step rfl rfl (.idxG (q := g) rfl rfl rfl rfl (by omega) (by decide) ?_)
      refine .step rfl rfl (.ldG (q := g) (es := s.map encW) rfl rfl rfl (by simp only [List.getElem?_map, List.getElem?_eq_getElem hg, Option.map_some]; exact congrArg some hEg) rfl rfl (by decide) ?_)
      refine .rn [6,7] [] ?_
      refine .done ?_
      refine .seq ?_
      refine .rn ?_
      refine .rn ?_
      refine ⟨(), ⟨by omega, by omega⟩, (.mk [] [(4,5)] (by repeat' (first | exact trivial | refine And.intro (Exists.intro _ (And.intro rfl ?_)) ?_ | (refine Alt.same _ ?_; first | rfl | (simp [*]; done)) | exact Alt.mapv _ _ (Nat.le_of_ble_eq_true rfl) rfl | exact Alt.grow _ _ _ _ (Nat.le_of_ble_eq_true rfl) rfl | (refine Alt.growE _ _ _ _ _ ?_ (Nat.le_of_ble_eq_true rfl) rfl; simp [*]; done) | exact Alt.ptr _ _ _ (Nat.le_of_ble_eq_true rfl) rfl | exact Alt.own _ _ _ _ _ (Nat.le_of_ble_eq_true rfl) rfl | exact Alt.sub _ _ _ _ (Nat.le_of_ble_eq_true rfl) rfl | exact Alt.yld _ _ (Nat.le_of_ble_eq_true rfl) rfl | exact Alt.sl0 _ _ | (refine Alt.sl0E _ _ _ ?_; simp [*]; done) | exact Alt.e0 _ | exact Alt.sl0v | exact Alt.own0 _ _ _ | (refine Alt.fgrow _ _ _ _ _ rfl rfl ?_; simp [*]; done) | exact Alt.fown _ _ _ _ _ _ _ _ rfl rfl rfl | (refine Alt.sl0vE ?_; simp [*] <;> rfl) | (refine Alt.ofEq rfl ?_; simp [*]; done))) (by repeat' (first | exact trivial | refine And.intro (And.intro (Nat.le_of_ble_eq_true rfl) (Or.inr (And.intro rfl (Exists.intro _ (And.intro rfl ?_))))) ?_ | refine And.intro (And.intro (Nat.le_of_ble_eq_true rfl) (Or.inl (Exists.intro _ (And.intro rfl (Nat.le_of_ble_eq_true rfl))))) ?_ | refine And.intro (And.intro (Nat.le_of_ble_eq_true rfl) (Or.inl (Exists.intro _ (And.intro (congrArg (VObj.grow _) (by simp [*])) (Nat.le_of_ble_eq_true rfl))))) ?_ | rfl | exact AltL.nil | (refine congrArg (VObj.grow _) ?_; simp [*]; done) | (refine congrArg VObj.map ?_; simp [*]; done) | (refine congrArg (VObj.arr _ _) ?_; simp [*]; done) | refine AltLp.mk rfl rfl rfl rfl rfl ?_ | refine And.intro (Exists.intro _ (And.intro rfl ?_)) ?_ | refine AltL.cons ?_ ?_ | (refine Alt.same _ ?_; first | rfl | (simp [*]; done)) | exact Alt.mapv _ _ (Nat.le_of_ble_eq_true rfl) rfl | exact Alt.grow _ _ _ _ (Nat.le_of_ble_eq_true rfl) rfl | (refine Alt.growE _ _ _ _ _ ?_ (Nat.le_of_ble_eq_true rfl) rfl; simp [*]; done) | exact Alt.ptr _ _ _ (Nat.le_of_ble_eq_true rfl) rfl | exact Alt.own _ _ _ _ _ (Nat.le_of_ble_eq_true rfl) rfl | exact Alt.sub _ _ _ _ (Nat.le_of_ble_eq_true rfl) rfl | exact Alt.yld _ _ (Nat.le_of_ble_eq_true rfl) rfl | exact Alt.sl0 _ _ | (refine Alt.sl0E _ _ _ ?_; simp [*]; done) | exact Alt.e0 _ | exact Alt.sl0v | exact Alt.own0 _ _ _ | (refine Alt.fgrow _ _ _ _ _ rfl rfl ?_; simp [*]; done) | exact Alt.fown _ _ _ _ _ _ _ _ rfl rfl rfl | (refine Alt.sl0vE ?_; simp [*] <;> rfl) | (refine Alt.ofEq rfl ?_; simp [*]; done))) rfl rfl rfl)⟩
     ·try simp at c43
      obtain ⟨h1, h2⟩ : o = [] ∧ d = 0 := by
       rcases hold with ⟨_, h2, h3⟩ | ⟨g, hg, h1, _, _⟩
       ·exact ⟨by rw [← ho, h2], by rw [← hd, h3]⟩
       ·omega
      refine .skip ?_
      refine ⟨(), ⟨by omega, by omega⟩, (.mk [] [] (by repeat' (first | exact trivial | refine And.intro (Exists.intro _ (And.intro rfl ?_)) ?_ | (refine Alt.same _ ?_; first | rfl | (simp [*]; done)) | exact Alt.mapv _ _ (Nat.le_of_ble_eq_true rfl) rfl | exact Alt.grow _ _ _ _ (Nat.le_of_ble_eq_true rfl) rfl | (refine Alt.growE _ _ _ _ _ ?_ (Nat.le_of_ble_eq_true rfl) rfl; simp [*]; done) | exact Alt.ptr _ _ _ (Nat.le_of_ble_eq_true rfl) rfl | exact Alt.own _ _ _ _ _ (Nat.le_of_ble_eq_true rfl) rfl | exact Alt.sub _ _ _ _ (Nat.le_of_ble_eq_true rfl) rfl | exact Alt.yld _ _ (Nat.le_of_ble_eq_true rfl) rfl | exact Alt.sl0 _ _ | (refine Alt.sl0E _ _ _ ?_; simp [*]; done) | exact Alt.e0 _ | exact Alt.sl0v | exact Alt.own0 _ _ _ | (refine Alt.fgrow _ _ _ _ _ rfl rfl ?_; simp [*]; done) | exact Alt.fown _ _ _ _ _ _ _ _ rfl rfl rfl | (refine Alt.sl0vE ?_; simp [*] <;> rfl) | (refine Alt.ofEq rfl ?_; simp [*]; done))) (by repeat' (first | exact trivial | refine And.intro (And.intro (Nat.le_of_ble_eq_true rfl) (Or.inr (And.intro rfl (Exists.intro _ (And.intro rfl ?_))))) ?_ | refine And.intro (And.intro (Nat.le_of_ble_eq_true rfl) (Or.inl (Exists.intro _ (And.intro rfl (Nat.le_of_ble_eq_true rfl))))) ?_ | refine And.intro (And.intro (Nat.le_of_ble_eq_true rfl) (Or.inl (Exists.intro _ (And.intro (congrArg (VObj.grow _) (by simp [*])) (Nat.le_of_ble_eq_true rfl))))) ?_ | rfl | exact AltL.nil | (refine congrArg (VObj.grow _) ?_; simp [*]; done) | (refine congrArg VObj.map ?_; simp [*]; done) | (refine congrArg (VObj.arr _ _) ?_; simp [*]; done) | refine AltLp.mk rfl rfl rfl rfl rfl ?_ | refine And.intro (Exists.intro _ (And.intro rfl ?_)) ?_ | refine AltL.cons ?_ ?_ | (refine Alt.same _ ?_; first | rfl | (simp [*]; done)) | exact Alt.mapv _ _ (Nat.le_of_ble_eq_true rfl) rfl | exact Alt.grow _ _ _ _ (Nat.le_of_ble_eq_true rfl) rfl | (refine Alt.growE _ _ _ _ _ ?_ (Nat.le_of_ble_eq_true rfl) rfl; simp [*]; done) | exact Alt.ptr _ _ _ (Nat.le_of_ble_eq_true rfl) rfl | exact Alt.own _ _ _ _ _ (Nat.le_of_ble_eq_true rfl) rfl | exact Alt.sub _ _ _ _ (Nat.le_of_ble_eq_true rfl) rfl | exact Alt.yld _ _ (Nat.le_of_ble_eq_true rfl) rfl | exact Alt.sl0 _ _ | (refine Alt.sl0E _ _ _ ?_; simp [*]; done) | exact Alt.e0 _ | exact Alt.sl0v | exact Alt.own0 _ _ _ | (refine Alt.fgrow _ _ _ _ _ rfl rfl ?_; simp [*]; done) | exact Alt.fown _ _ _ _ _ _ _ _ rfl rfl rfl | (refine Alt.sl0vE ?_; simp [*] <;> rfl) | (refine Alt.ofEq rfl ?_; simp [*]; done))) rfl rfl rfl)⟩
    ·skip
     rintro _ ⟨hd0, hd1⟩
     simp only
     have hw5 : IntKind.i64.wrap (b.after : Int) = (b.after : Int) := wrap64 (by omega) (by omega)
     have hw6 : IntKind.i64.wrap (b.days : Int) = (b.days : Int) := wrap64 (by omega) (by omega)
     have hw7 : IntKind.i64.wrap (b.own : Int) = (b.own : Int) := wrap64 (by omega) (by omega)
     have ha5 : ((b.after : Int)).tmod 5 = ((b.after % 5 : Nat) : Int) := tmodN b.after 5
     have hd5 : ((b.days : Int)).tmod 5 = ((b.days % 5 : Nat) : Int) := tmodN b.days 5
     have ho4 : ((b.own : Int)).tmod 4 = ((b.own % 4 : Nat) : Int) := tmodN b.own 4
     obtain ⟨A, hA, hA5⟩ : ∃ A : Nat, b.after % 5 = A ∧ A < 5 := ⟨_, rfl, Nat.mod_lt _ (by omega)⟩
     obtain ⟨D, hD, hD5⟩ : ∃ D : Nat, b.days % 5 = D ∧ D < 5 := ⟨_, rfl, Nat.mod_lt _ (by omega)⟩
     obtain ⟨q, hq, hq4⟩ : ∃ q : Nat, b.own % 4 = q ∧ q < 4 := ⟨_, rfl, Nat.mod_lt _ (by omega)⟩
     rw [hA] at ha5
     rw [hD] at hd5
     rw [hq] at ho4
     have hw8 : IntKind.i64.wrap (d + (A : Int)) = d + (A : Int) := wrap64 (by omega) (by omega)
     have hw9 : IntKind.i64.wrap (d + (A : Int) + (D : Int)) = d + (A : Int) + (D : Int) := wrap64 (by omega) (by omega)
     have ht3 : t ≤ 3 * k := by
      have h1 := sum_3 ow hok.o3
      have h2 := hok.tt
      have h3 := hok.ol
      simp only at h2 h3
      omega
     refine .seq ?_
     refine .drawn (ms := [0,0,0,6,14,30,62,126,255,0,0,0,3072,7168,15360,31744,64512,130560,0,0,786432,1835008,3932160,8126464,16515072,33553920,67108863,134217727,268435455]) (W := [28]) (items := [.op 0, .op 1, .op 2, .op 3, .op 4, .op 5, .op 6, .op 7, .op 8, .op 9, .op 10, .op 11, .op 12, .op 13, .op 14, .op 15, .op 16, .op 17, .op 18, .op 19, .op 20, .op 21, .op 22, .op 23, .op 24, .op 25, .op 26, .op 27, .op 28]) rfl zz0 zz0 zz0 ?_
     refine .rx ?_
     refine .rx ?_
     refine .rx ?_
     refine .rx ?_
     refine .rx ?_
     refine .rx ?_
     refine .rx ?_
     refine .rx ?_
     refine .rx ?_
     refine .rx ?_
     refine .rx ?_
     refine .rx ?_
     refine .rx ?_
     refine .rx ?_
     refine .rx ?_
     refine .rx ?_
     refine .rx ?_
     refine .rx ?_
     refine .rx ?_
     refine .rx ?_
     refine .rx ?_
     refine .rx ?_
     refine .rx ?_
     refine .rx ?_
     refine .rx ?_
     refine .rx ?_
     refine .rx ?_
     refine .rx ?_
     refine .wr rfl rfl (by decide) (.vop zz1 (by decide) ?_)
     refine .done ?_
     refine .seq ?_
     refine .seq ?_
     refine .rn ?_
     refine .condS rfl (fun c91 => ?_) (fun c91 => ?_)
     ·try simp at c91
      refine .seq ?_
      refine .regionL [0,1] rfl zz0 ?_
      refine .step rfl rfl (.pure rfl rfl rfl Tryz.call22 (by decide) (hsan) (by first | rfl | simp [*]) ?_)
      rintro _ rfl
      refine .rn [1] [] ?_
      refine .done ?_
      refine .ret ?_
      refine ⟨_, _, zz4,zz4, ?_⟩
      first | rfl | (simp [*]; done) | (simp_all; done)
     ·try simp at c91
      skip
      obtain ⟨kp, hkp⟩ : ∃ x, keepB s b = x := ⟨_, rfl⟩
      obtain ⟨mn, hmn⟩ : ∃ x, menB s b = x := ⟨_, rfl⟩
      obtain ⟨m2, hm2⟩ : ∃ x, (m || cutB s b) = x := ⟨_, rfl⟩
      have hkl : kp.length ≤ 4294967290 := by
       have := congrArg List.length (keep_men s b)
       rw [ho, hkp, List.length_append] at this
       omega
      refine .skip ?_
      refine .join (fun nl : Bool => ([(0, .vec (l.map encB)),(3, .ptr 0 0),(4, .grow 2 ps.length true),(5, .int .i64 t),(6, .bool m2),(7, .int .i64 k),(8, .ptr 3 0),(9, .int .i64 f)], ⟨5,[(4, .grow 1 (kp.map (.int .i64))),(3, .box [.int .i64 ((k : Int) + 1), .int .i64 0, .grow 4 kp.length nl, ints mn, .sl0, .int .i64 (d + A), .int .i64 (d + A + D)]),(2, .grow 1 (ps.map (.int .i64))),(1, .grow 7 (s.map encW)),(0, .box [.grow 1 s.length true])]⟩)) (fun _ => True) ?_ ?_
      ·skip
       refine .seq ?_
       refine .regionL [0,1,2,3,4,5,6,7,8,9,10] rfl zz0 ?_
       refine .rn [0,1,2,3,4,5] [6,7,8,9,10] ?_
       refine .split (t := 98) rfl (fun c98 => ?_) (fun c98 => ?_)
       ·first | cases c98 | try rw [c98]
        try simp at c98
        have hc1 : cutB s b = decide (o ≠ []) := by unfold cutB; rw [c98, Bool.true_and, ho]
        refine .rn [6,7,8,9,10] [] ?_
        refine .done ?_
        refine .condS rfl (fun c103 => ?_) (fun c103 => ?_)
        ·try simp at c103
         obtain ⟨a, r, rfl⟩ : ∃ a r, o = a :: r := by
          cases o with
          | nil => simp at c103
          | cons a r => exact ⟨a, r, rfl⟩
         have hct : cutB s b = true := by rw [hc1]; simp
         have e1 : m2 = true := by rw [← hm2, hct]; simp
         have e2 : kp = r := by rw [← hkp, keepB, if_pos hct, ho]; rfl
         have e3 : mn = [a] := by rw [← hmn, menB, if_pos hct, ho]; rfl
         subst e1 e2 e3
         have h9 : allSz 1 (PV.int IntKind.i64 a :: kp.map (PV.int .i64)) = true := allSz_int .i64 (a :: kp)
         have h10 : (1 : Int) ≤ (kp.length : Int) + 1 := by omega
         have h11 : kp.length ≤ 4294967296 := by omega
         refine .rec (vts2 := [(0, .vec (l.map encB)),(3, .ptr 0 0),(4, .grow 2 ps.length true),(5, .int .i64 t),(6, .bool m),(7, .int .i64 k),(8, .ptr 3 0),(9, .int .i64 f)]) (vh2 := ⟨4,[(3, .box [.int .i64 ((k : Int) + 1), .int .i64 0, ints (a :: kp), .sl0, .sl0, .int .i64 (d + A), .int .i64 (d + A + D)]),(2, .grow 1 (ps.map (.int .i64))),(1, .grow 7 (s.map encW)),(0, .box [.grow 1 s.length true])]⟩) (.mk [4] [] (by repeat' (first | exact trivial | refine And.intro (Exists.intro _ (And.intro rfl ?_)) ?_ | (refine Alt.same _ ?_; first | rfl | (simp [*]; done)) | exact Alt.mapv _ _ (Nat.le_of_ble_eq_true rfl) rfl | exact Alt.grow _ _ _ _ (Nat.le_of_ble_eq_true rfl) rfl | (refine Alt.growE _ _ _ _ _ ?_ (Nat.le_of_ble_eq_true rfl) rfl; simp [*]; done) | exact Alt.ptr _ _ _ (Nat.le_of_ble_eq_true rfl) rfl | exact Alt.own _ _ _ _ _ (Nat.le_of_ble_eq_true rfl) rfl | exact Alt.sub _ _ _ _ (Nat.le_of_ble_eq_true rfl) rfl | exact Alt.yld _ _ (Nat.le_of_ble_eq_true rfl) rfl | exact Alt.sl0 _ _ | (refine Alt.sl0E _ _ _ ?_; simp [*]; done) | exact Alt.e0 _ | exact Alt.sl0v | exact Alt.own0 _ _ _ | (refine Alt.fgrow _ _ _ _ _ rfl rfl ?_; simp [*]; done) | exact Alt.fown _ _ _ _ _ _ _ _ rfl rfl rfl | (refine Alt.sl0vE ?_; simp [*] <;> rfl) | (refine Alt.ofEq rfl ?_; simp [*]; done))) (by repeat' (first | exact trivial | refine And.intro (And.intro (Nat.le_of_ble_eq_true rfl) (Or.inr (And.intro rfl (Exists.intro _ (And.intro rfl ?_))))) ?_ | refine And.intro (And.intro (Nat.le_of_ble_eq_true rfl) (Or.inl (Exists.intro _ (And.intro rfl (Nat.le_of_ble_eq_true rfl))))) ?_ | refine And.intro (And.intro (Nat.le_of_ble_eq_true rfl) (Or.inl (Exists.intro _ (And.intro (congrArg (VObj.grow _) (by simp [*])) (Nat.le_of_ble_eq_true rfl))))) ?_ | rfl | exact AltL.nil | (refine congrArg (VObj.grow _) ?_; simp [*]; done) | (refine congrArg VObj.map ?_; simp [*]; done) | (refine congrArg (VObj.arr _ _) ?_; simp [*]; done) | refine AltLp.mk rfl rfl rfl rfl rfl ?_ | refine And.intro (Exists.intro _ (And.intro rfl ?_)) ?_ | refine AltL.cons ?_ ?_ | (refine Alt.same _ ?_; first | rfl | (simp [*]; done)) | exact Alt.mapv _ _ (Nat.le_of_ble_eq_true rfl) rfl | exact Alt.grow _ _ _ _ (Nat.le_of_ble_eq_true rfl) rfl | (refine Alt.growE _ _ _ _ _ ?_ (Nat.le_of_ble_eq_true rfl) rfl; simp [*]; done) | exact Alt.ptr _ _ _ (Nat.le_of_ble_eq_true rfl) rfl | exact Alt.own _ _ _ _ _ (Nat.le_of_ble_eq_true rfl) rfl | exact Alt.sub _ _ _ _ (Nat.le_of_ble_eq_true rfl) rfl | exact Alt.yld _ _ (Nat.le_of_ble_eq_true rfl) rfl | exact Alt.sl0 _ _ | (refine Alt.sl0E _ _ _ ?_; simp [*]; done) | exact Alt.e0 _ | exact Alt.sl0v | exact Alt.own0 _ _ _ | (refine Alt.fgrow _ _ _ _ _ rfl rfl ?_; simp [*]; done) | exact Alt.fown _ _ _ _ _ _ _ _ rfl rfl rfl | (refine Alt.sl0vE ?_; simp [*] <;> rfl) | (refine Alt.ofEq rfl ?_; simp [*]; done))) rfl rfl rfl) ?_
         refine .seq ?_
         refine .rn ?_
         refine .seq ?_
         refine .rn ?_
         refine .rn ?_
         refine ⟨false, trivial, (.mk [4] [(4,6)] (by repeat' (first | exact trivial | refine And.intro (Exists.intro _ (And.intro rfl ?_)) ?_ | (refine Alt.same _ ?_; first | rfl | (simp [*]; done)) | exact Alt.mapv _ _ (Nat.le_of_ble_eq_true rfl) rfl | exact Alt.grow _ _ _ _ (Nat.le_of_ble_eq_true rfl) rfl | (refine Alt.growE _ _ _ _ _ ?_ (Nat.le_of_ble_eq_true rfl) rfl; simp [*]; done) | exact Alt.ptr _ _ _ (Nat.le_of_ble_eq_true rfl) rfl | exact Alt.own _ _ _ _ _ (Nat.le_of_ble_eq_true rfl) rfl | exact Alt.sub _ _ _ _ (Nat.le_of_ble_eq_true rfl) rfl | exact Alt.yld _ _ (Nat.le_of_ble_eq_true rfl) rfl | exact Alt.sl0 _ _ | (refine Alt.sl0E _ _ _ ?_; simp [*]; done) | exact Alt.e0 _ | exact Alt.sl0v | exact Alt.own0 _ _ _ | (refine Alt.fgrow _ _ _ _ _ rfl rfl ?_; simp [*]; done) | exact Alt.fown _ _ _ _ _ _ _ _ rfl rfl rfl | (refine Alt.sl0vE ?_; simp [*] <;> rfl) | (refine Alt.ofEq rfl ?_; simp [*]; done))) (by repeat' (first | exact trivial | refine And.intro (And.intro (Nat.le_of_ble_eq_true rfl) (Or.inr (And.intro rfl (Exists.intro _ (And.intro rfl ?_))))) ?_ | refine And.intro (And.intro (Nat.le_of_ble_eq_true rfl) (Or.inl (Exists.intro _ (And.intro rfl (Nat.le_of_ble_eq_true rfl))))) ?_ | refine And.intro (And.intro (Nat.le_of_ble_eq_true rfl) (Or.inl (Exists.intro _ (And.intro (congrArg (VObj.grow _) (by simp [*])) (Nat.le_of_ble_eq_true rfl))))) ?_ | rfl | exact AltL.nil | (refine congrArg (VObj.grow _) ?_; simp [*]; done) | (refine congrArg VObj.map ?_; simp [*]; done) | (refine congrArg (VObj.arr _ _) ?_; simp [*]; done) | refine AltLp.mk rfl rfl rfl rfl rfl ?_ | refine And.intro (Exists.intro _ (And.intro rfl ?_)) ?_ | refine AltL.cons ?_ ?_ | (refine Alt.same _ ?_; first | rfl | (simp [*]; done)) | exact Alt.mapv _ _ (Nat.le_of_ble_eq_true rfl) rfl | exact Alt.grow _ _ _ _ (Nat.le_of_ble_eq_true rfl) rfl | (refine Alt.growE _ _ _ _ _ ?_ (Nat.le_of_ble_eq_true rfl) rfl; simp [*]; done) | exact Alt.ptr _ _ _ (Nat.le_of_ble_eq_true rfl) rfl | exact Alt.own _ _ _ _ _ (Nat.le_of_ble_eq_true rfl) rfl | exact Alt.sub _ _ _ _ (Nat.le_of_ble_eq_true rfl) rfl | exact Alt.yld _ _ (Nat.le_of_ble_eq_true rfl) rfl | exact Alt.sl0 _ _ | (refine Alt.sl0E _ _ _ ?_; simp [*]; done) | exact Alt.e0 _ | exact Alt.sl0v | exact Alt.own0 _ _ _ | (refine Alt.fgrow _ _ _ _ _ rfl rfl ?_; simp [*]; done) | exact Alt.fown _ _ _ _ _ _ _ _ rfl rfl rfl | (refine Alt.sl0vE ?_; simp [*] <;> rfl) | (refine Alt.ofEq rfl ?_; simp [*]; done))) rfl rfl rfl)⟩
        ·try simp at c103
         have hon : o = [] := by
          cases o with
          | nil => rfl
          | cons a r => simp at c103
         have hct : cutB s b = false := by rw [hc1, hon]; simp
         have e1 : m2 = m := by rw [← hm2, hct]; simp
         have e2 : kp = [] := by rw [← hkp, keepB, if_neg (by rw [hct]; simp), ho, hon]
         have e3 : mn = [] := by rw [← hmn, menB, if_neg (by rw [hct]; simp)]
         subst e1 e2 e3
         refine .skip ?_
         refine ⟨true, trivial, (.mk [] [] (by repeat' (first | exact trivial | refine And.intro (Exists.intro _ (And.intro rfl ?_)) ?_ | (refine Alt.same _ ?_; first | rfl | (simp [*]; done)) | exact Alt.mapv _ _ (Nat.le_of_ble_eq_true rfl) rfl | exact Alt.grow _ _ _ _ (Nat.le_of_ble_eq_true rfl) rfl | (refine Alt.growE _ _ _ _ _ ?_ (Nat.le_of_ble_eq_true rfl) rfl; simp [*]; done) | exact Alt.ptr _ _ _ (Nat.le_of_ble_eq_true rfl) rfl | exact Alt.own _ _ _ _ _ (Nat.le_of_ble_eq_true rfl) rfl | exact Alt.sub _ _ _ _ (Nat.le_of_ble_eq_true rfl) rfl | exact Alt.yld _ _ (Nat.le_of_ble_eq_true rfl) rfl | exact Alt.sl0 _ _ | (refine Alt.sl0E _ _ _ ?_; simp [*]; done) | exact Alt.e0 _ | exact Alt.sl0v | exact Alt.own0 _ _ _ | (refine Alt.fgrow _ _ _ _ _ rfl rfl ?_; simp [*]; done) | exact Alt.fown _ _ _ _ _ _ _ _ rfl rfl rfl | (refine Alt.sl0vE ?_; simp [*] <;> rfl) | (refine Alt.ofEq rfl ?_; simp [*]; done))) (by repeat' (first | exact trivial | refine And.intro (And.intro (Nat.le_of_ble_eq_true rfl) (Or.inr (And.intro rfl (Exists.intro _ (And.intro rfl ?_))))) ?_ | refine And.intro (And.intro (Nat.le_of_ble_eq_true rfl) (Or.inl (Exists.intro _ (And.intro rfl (Nat.le_of_ble_eq_true rfl))))) ?_ | refine And.intro (And.intro (Nat.le_of_ble_eq_true rfl) (Or.inl (Exists.intro _ (And.intro (congrArg (VObj.grow _) (by simp [*])) (Nat.le_of_ble_eq_true rfl))))) ?_ | rfl | exact AltL.nil | (refine congrArg (VObj.grow _) ?_; simp [*]; done) | (refine congrArg VObj.map ?_; simp [*]; done) | (refine congrArg (VObj.arr _ _) ?_; simp [*]; done) | refine AltLp.mk rfl rfl rfl rfl rfl ?_ | refine And.intro (Exists.intro _ (And.intro rfl ?_)) ?_ | refine AltL.cons ?_ ?_ | (refine Alt.same _ ?_; first | rfl | (simp [*]; done)) | exact Alt.mapv _ _ (Nat.le_of_ble_eq_true rfl) rfl | exact Alt.grow _ _ _ _ (Nat.le_of_ble_eq_true rfl) rfl | (refine Alt.growE _ _ _ _ _ ?_ (Nat.le_of_ble_eq_true rfl) rfl; simp [*]; done) | exact Alt.ptr _ _ _ (Nat.le_of_ble_eq_true rfl) rfl | exact Alt.own _ _ _ _ _ (Nat.le_of_ble_eq_true rfl) rfl | exact Alt.sub _ _ _ _ (Nat.le_of_ble_eq_true rfl) rfl | exact Alt.yld _ _ (Nat.le_of_ble_eq_true rfl) rfl | exact Alt.sl0 _ _ | (refine Alt.sl0E _ _ _ ?_; simp [*]; done) | exact Alt.e0 _ | exact Alt.sl0v | exact Alt.own0 _ _ _ | (refine Alt.fgrow _ _ _ _ _ rfl rfl ?_; simp [*]; done) | exact Alt.fown _ _ _ _ _ _ _ _ rfl rfl rfl | (refine Alt.sl0vE ?_; simp [*] <;> rfl) | (refine Alt.ofEq rfl ?_; simp [*]; done))) rfl rfl rfl)⟩
       ·first | cases c98 | try rw [c98]
        try simp at c98
        have hct : cutB s b = false := by unfold cutB; rw [c98]; rfl
        have e1 : m2 = m := by rw [← hm2, hct]; simp
        have e2 : kp = o := by rw [← hkp, keepB, if_neg (by rw [hct]; simp), ho]
        have e3 : mn = [] := by rw [← hmn, menB, if_neg (by rw [hct]; simp)]
        subst e1 e2 e3
        refine .rn [6,7,8,9,10] [] ?_
        refine .done ?_
        refine .condF rfl ?_
        refine .skip ?_
        refine ⟨true, trivial, (.mk [] [] (by repeat' (first | exact trivial | refine And.intro (Exists.intro _ (And.intro rfl ?_)) ?_ | (refine Alt.same _ ?_; first | rfl | (simp [*]; done)) | exact Alt.mapv _ _ (Nat.le_of_ble_eq_true rfl) rfl | exact Alt.grow _ _ _ _ (Nat.le_of_ble_eq_true rfl) rfl | (refine Alt.growE _ _ _ _ _ ?_ (Nat.le_of_ble_eq_true rfl) rfl; simp [*]; done) | exact Alt.ptr _ _ _ (Nat.le_of_ble_eq_true rfl) rfl | exact Alt.own _ _ _ _ _ (Nat.le_of_ble_eq_true rfl) rfl | exact Alt.sub _ _ _ _ (Nat.le_of_ble_eq_true rfl) rfl | exact Alt.yld _ _ (Nat.le_of_ble_eq_true rfl) rfl | exact Alt.sl0 _ _ | (refine Alt.sl0E _ _ _ ?_; simp [*]; done) | exact Alt.e0 _ | exact Alt.sl0v | exact Alt.own0 _ _ _ | (refine Alt.fgrow _ _ _ _ _ rfl rfl ?_; simp [*]; done) | exact Alt.fown _ _ _ _ _ _ _ _ rfl rfl rfl | (refine Alt.sl0vE ?_; simp [*] <;> rfl) | (refine Alt.ofEq rfl ?_; simp [*]; done))) (by repeat' (first | exact trivial | refine And.intro (And.intro (Nat.le_of_ble_eq_true rfl) (Or.inr (And.intro rfl (Exists.intro _ (And.intro rfl ?_))))) ?_ | refine And.intro (And.intro (Nat.le_of_ble_eq_true rfl) (Or.inl (Exists.intro _ (And.intro rfl (Nat.le_of_ble_eq_true rfl))))) ?_ | refine And.intro (And.intro (Nat.le_of_ble_eq_true rfl) (Or.inl (Exists.intro _ (And.intro (congrArg (VObj.grow _) (by simp [*])) (Nat.le_of_ble_eq_true rfl))))) ?_ | rfl | exact AltL.nil | (refine congrArg (VObj.grow _) ?_; simp [*]; done) | (refine congrArg VObj.map ?_; simp [*]; done) | (refine congrArg (VObj.arr _ _) ?_; simp [*]; done) | refine AltLp.mk rfl rfl rfl rfl rfl ?_ | refine And.intro (Exists.intro _ (And.intro rfl ?_)) ?_ | refine AltL.cons ?_ ?_ | (refine Alt.same _ ?_; first | rfl | (simp [*]; done)) | exact Alt.mapv _ _ (Nat.le_of_ble_eq_true rfl) rfl | exact Alt.grow _ _ _ _ (Nat.le_of_ble_eq_true rfl) rfl | (refine Alt.growE _ _ _ _ _ ?_ (Nat.le_of_ble_eq_true rfl) rfl; simp [*]; done) | exact Alt.ptr _ _ _ (Nat.le_of_ble_eq_true rfl) rfl | exact Alt.own _ _ _ _ _ (Nat.le_of_ble_eq_true rfl) rfl | exact Alt.sub _ _ _ _ (Nat.le_of_ble_eq_true rfl) rfl | exact Alt.yld _ _ (Nat.le_of_ble_eq_true rfl) rfl | exact Alt.sl0 _ _ | (refine Alt.sl0E _ _ _ ?_; simp [*]; done) | exact Alt.e0 _ | exact Alt.sl0v | exact Alt.own0 _ _ _ | (refine Alt.fgrow _ _ _ _ _ rfl rfl ?_; simp [*]; done) | exact Alt.fown _ _ _ _ _ _ _ _ rfl rfl rfl | (refine Alt.sl0vE ?_; simp [*] <;> rfl) | (refine Alt.ofEq rfl ?_; simp [*]; done))) rfl rfl rfl)⟩
      ·skip
       rintro nl _
       simp only
       refine .seq ?_
       refine .seq ?_
       refine .rn ?_
       refine .block ?_
       refine .loopS (fun j : Nat => ([(0, .vec (l.map encB)),(3, .ptr 0 0),(4, .grow 2 ps.length true),(5, .int .i64 ((t : Int) + j)),(6, .bool m2),(7, .int .i64 k),(8, .ptr 3 0),(9, .int .i64 f),(12, .int .i64 j)], ⟨5,[(4, .grow 1 ((kp ++ ownL t j).map (.int .i64))),(3, .box [.int .i64 ((k : Int) + 1), .int .i64 0, .grow 4 (kp.length + j) nl, ints mn, .sl0, .int .i64 (d + A), .int .i64 (d + A + D)]),(2, .grow 1 (ps.map (.int .i64))),(1, .grow 7 (s.map encW)),(0, .box [.grow 1 s.length true])]⟩)) (fun j => j ≤ q) (fun j => q - j) 0 (by simp) (by have : ownL t 0 = [] := rfl; exact (.mk [] [] (by repeat' (first | exact trivial | refine And.intro (Exists.intro _ (And.intro rfl ?_)) ?_ | (refine Alt.same _ ?_; first | rfl | (simp [*]; done)) | exact Alt.mapv _ _ (Nat.le_of_ble_eq_true rfl) rfl | exact Alt.grow _ _ _ _ (Nat.le_of_ble_eq_true rfl) rfl | (refine Alt.growE _ _ _ _ _ ?_ (Nat.le_of_ble_eq_true rfl) rfl; simp [*]; done) | exact Alt.ptr _ _ _ (Nat.le_of_ble_eq_true rfl) rfl | exact Alt.own _ _ _ _ _ (Nat.le_of_ble_eq_true rfl) rfl | exact Alt.sub _ _ _ _ (Nat.le_of_ble_eq_true rfl) rfl | exact Alt.yld _ _ (Nat.le_of_ble_eq_true rfl) rfl | exact Alt.sl0 _ _ | (refine Alt.sl0E _ _ _ ?_; simp [*]; done) | exact Alt.e0 _ | exact Alt.sl0v | exact Alt.own0 _ _ _ | (refine Alt.fgrow _ _ _ _ _ rfl rfl ?_; simp [*]; done) | exact Alt.fown _ _ _ _ _ _ _ _ rfl rfl rfl | (refine Alt.sl0vE ?_; simp [*] <;> rfl) | (refine Alt.ofEq rfl ?_; simp [*]; done))) (by repeat' (first | exact trivial | refine And.intro (And.intro (Nat.le_of_ble_eq_true rfl) (Or.inr (And.intro rfl (Exists.intro _ (And.intro rfl ?_))))) ?_ | refine And.intro (And.intro (Nat.le_of_ble_eq_true rfl) (Or.inl (Exists.intro _ (And.intro rfl (Nat.le_of_ble_eq_true rfl))))) ?_ | refine And.intro (And.intro (Nat.le_of_ble_eq_true rfl) (Or.inl (Exists.intro _ (And.intro (congrArg (VObj.grow _) (by simp [*])) (Nat.le_of_ble_eq_true rfl))))) ?_ | rfl | exact AltL.nil | (refine congrArg (VObj.grow _) ?_; simp [*]; done) | (refine congrArg VObj.map ?_; simp [*]; done) | (refine congrArg (VObj.arr _ _) ?_; simp [*]; done) | refine AltLp.mk rfl rfl rfl rfl rfl ?_ | refine And.intro (Exists.intro _ (And.intro rfl ?_)) ?_ | refine AltL.cons ?_ ?_ | (refine Alt.same _ ?_; first | rfl | (simp [*]; done)) | exact Alt.mapv _ _ (Nat.le_of_ble_eq_true rfl) rfl | exact Alt.grow _ _ _ _ (Nat.le_of_ble_eq_true rfl) rfl | (refine Alt.growE _ _ _ _ _ ?_ (Nat.le_of_ble_eq_true rfl) rfl; simp [*]; done) | exact Alt.ptr _ _ _ (Nat.le_of_ble_eq_true rfl) rfl | exact Alt.own _ _ _ _ _ (Nat.le_of_ble_eq_true rfl) rfl | exact Alt.sub _ _ _ _ (Nat.le_of_ble_eq_true rfl) rfl | exact Alt.yld _ _ (Nat.le_of_ble_eq_true rfl) rfl | exact Alt.sl0 _ _ | (refine Alt.sl0E _ _ _ ?_; simp [*]; done) | exact Alt.e0 _ | exact Alt.sl0v | exact Alt.own0 _ _ _ | (refine Alt.fgrow _ _ _ _ _ rfl rfl ?_; simp [*]; done) | exact Alt.fown _ _ _ _ _ _ _ _ rfl rfl rfl | (refine Alt.sl0vE ?_; simp [*] <;> rfl) | (refine Alt.ofEq rfl ?_; simp [*]; done))) rfl rfl rfl)) ?_
       rintro j hj
       simp only at hj ⊢
       refine .seq ?_
       refine .seq ?_
       refine .rn ?_
       refine .condS rfl (fun c124 => ?_) (fun c124 => ?_)
       ·try simp at c124
        rw [hw7, ho4] at c124
        have c124 : j < q := by omega
        have hw10 : IntKind.i64.wrap ((j : Int) + 1) = (j : Int) + 1 := wrap64 (by omega) (by omega)
        have hw11 : IntKind.i64.wrap ((t : Int) + j + 1) = (t : Int) + j + 1 := wrap64 (by omega) (by omega)
        have hT := ownL_succ t j
        have hel : ((t + j + 1 : Nat) : Int) = (t : Int) + j + 1 := by omega
        rw [hel] at hT
        have hoj := ownL_len t j
        have hone : allOne [PV.int IntKind.i64 ((t : Int) + j + 1)] = true := rfl
        have hb5 : kp.length + j + 1 ≤ 4294967296 := by omega
        refine .skip ?_
        refine .seq ?_
        refine .block ?_
        refine .seq ?_
        refine .rn ?_
        refine .rn ?_
        refine .rn ?_
        refine ⟨j + 1,zz5,zz5,(.mk [] [(4,6)] (by repeat' (first | exact trivial | refine And.intro (Exists.intro _ (And.intro rfl ?_)) ?_ | (refine Alt.same _ ?_; first | rfl | (simp [*]; done)) | exact Alt.mapv _ _ (Nat.le_of_ble_eq_true rfl) rfl | exact Alt.grow _ _ _ _ (Nat.le_of_ble_eq_true rfl) rfl | (refine Alt.growE _ _ _ _ _ ?_ (Nat.le_of_ble_eq_true rfl) rfl; simp [*]; done) | exact Alt.ptr _ _ _ (Nat.le_of_ble_eq_true rfl) rfl | exact Alt.own _ _ _ _ _ (Nat.le_of_ble_eq_true rfl) rfl | exact Alt.sub _ _ _ _ (Nat.le_of_ble_eq_true rfl) rfl | exact Alt.yld _ _ (Nat.le_of_ble_eq_true rfl) rfl | exact Alt.sl0 _ _ | (refine Alt.sl0E _ _ _ ?_; simp [*]; done) | exact Alt.e0 _ | exact Alt.sl0v | exact Alt.own0 _ _ _ | (refine Alt.fgrow _ _ _ _ _ rfl rfl ?_; simp [*]; done) | exact Alt.fown _ _ _ _ _ _ _ _ rfl rfl rfl | (refine Alt.sl0vE ?_; simp [*] <;> rfl) | (refine Alt.ofEq rfl ?_; simp [*]; done))) (by repeat' (first | exact trivial | refine And.intro (And.intro (Nat.le_of_ble_eq_true rfl) (Or.inr (And.intro rfl (Exists.intro _ (And.intro rfl ?_))))) ?_ | refine And.intro (And.intro (Nat.le_of_ble_eq_true rfl) (Or.inl (Exists.intro _ (And.intro rfl (Nat.le_of_ble_eq_true rfl))))) ?_ | refine And.intro (And.intro (Nat.le_of_ble_eq_true rfl) (Or.inl (Exists.intro _ (And.intro (congrArg (VObj.grow _) (by simp [*])) (Nat.le_of_ble_eq_true rfl))))) ?_ | rfl | exact AltL.nil | (refine congrArg (VObj.grow _) ?_; simp [*]; done) | (refine congrArg VObj.map ?_; simp [*]; done) | (refine congrArg (VObj.arr _ _) ?_; simp [*]; done) | refine AltLp.mk rfl rfl rfl rfl rfl ?_ | refine And.intro (Exists.intro _ (And.intro rfl ?_)) ?_ | refine AltL.cons ?_ ?_ | (refine Alt.same _ ?_; first | rfl | (simp [*]; done)) | exact Alt.mapv _ _ (Nat.le_of_ble_eq_true rfl) rfl | exact Alt.grow _ _ _ _ (Nat.le_of_ble_eq_true rfl) rfl | (refine Alt.growE _ _ _ _ _ ?_ (Nat.le_of_ble_eq_true rfl) rfl; simp [*]; done) | exact Alt.ptr _ _ _ (Nat.le_of_ble_eq_true rfl) rfl | exact Alt.own _ _ _ _ _ (Nat.le_of_ble_eq_true rfl) rfl | exact Alt.sub _ _ _ _ (Nat.le_of_ble_eq_true rfl) rfl | exact Alt.yld _ _ (Nat.le_of_ble_eq_true rfl) rfl | exact Alt.sl0 _ _ | (refine Alt.sl0E _ _ _ ?_; simp [*]; done) | exact Alt.e0 _ | exact Alt.sl0v | exact Alt.own0 _ _ _ | (refine Alt.fgrow _ _ _ _ _ rfl rfl ?_; simp [*]; done) | exact Alt.fown _ _ _ _ _ _ _ _ rfl rfl rfl | (refine Alt.sl0vE ?_; simp [*] <;> rfl) | (refine Alt.ofEq rfl ?_; simp [*]; done))) rfl rfl rfl)⟩
       ·try simp at c124
        rw [hw7, ho4] at c124
        have hjq : j = q := by omega
        subst hjq
        have hN : encW (newB s t b) = .agg [.int .i64 ((k : Int) + 1), .int .i64 0, ints (kp ++ ownL t j), ints mn, ints [], .int .i64 (d + A), .int .i64 (d + A + D)] := by
         rw [encW]; simp only [newB]
         rw [hsl, hkp, hmn, hd, hA, hD, hq]
        have hnh : (newB s t b).hi = d + A + D := by simp only [newB]; rw [hd, hA, hD]
        have hst : stepB ⟨s, ps, t, m⟩ b = ⟨s ++ [newB s t b], ps ++ [(f : Int)], t + j, m2⟩ := by unfold stepB; simp only; rw [hf, hm2, hq]
        obtain ⟨w, hw⟩ : ∃ w, newB s t b = w := ⟨_, rfl⟩
        rw [hw] at hN hnh hst
        have hoj := ownL_len t j
        refine .rec (vts2 := [(0, .vec (l.map encB)),(3, .ptr 0 0),(4, .grow 2 ps.length true),(5, .int .i64 ((t : Int) + j)),(6, .bool m2),(7, .int .i64 k),(8, .ptr 3 0),(9, .int .i64 f)]) (vh2 := ⟨4,[(3, .box [.int .i64 ((k : Int) + 1), .int .i64 0, .vec (kp.map (PV.int .i64) ++ (ownL t j).map (PV.int .i64)), ints mn, ints [], .int .i64 (d + A), .int .i64 (d + A + D)]),(2, .grow 1 (ps.map (.int .i64))),(1, .grow 7 (s.map encW)),(0, .box [.grow 1 s.length true])]⟩) (.mk [4] [] (by repeat' (first | exact trivial | refine And.intro (Exists.intro _ (And.intro rfl ?_)) ?_ | (refine Alt.same _ ?_; first | rfl | (simp [*]; done)) | exact Alt.mapv _ _ (Nat.le_of_ble_eq_true rfl) rfl | exact Alt.grow _ _ _ _ (Nat.le_of_ble_eq_true rfl) rfl | (refine Alt.growE _ _ _ _ _ ?_ (Nat.le_of_ble_eq_true rfl) rfl; simp [*]; done) | exact Alt.ptr _ _ _ (Nat.le_of_ble_eq_true rfl) rfl | exact Alt.own _ _ _ _ _ (Nat.le_of_ble_eq_true rfl) rfl | exact Alt.sub _ _ _ _ (Nat.le_of_ble_eq_true rfl) rfl | exact Alt.yld _ _ (Nat.le_of_ble_eq_true rfl) rfl | exact Alt.sl0 _ _ | (refine Alt.sl0E _ _ _ ?_; simp [*]; done) | exact Alt.e0 _ | exact Alt.sl0v | exact Alt.own0 _ _ _ | (refine Alt.fgrow _ _ _ _ _ rfl rfl ?_; simp [*]; done) | exact Alt.fown _ _ _ _ _ _ _ _ rfl rfl rfl | (refine Alt.sl0vE ?_; simp [*] <;> rfl) | (refine Alt.ofEq rfl ?_; simp [*]; done))) (by repeat' (first | exact trivial | refine And.intro (And.intro (Nat.le_of_ble_eq_true rfl) (Or.inr (And.intro rfl (Exists.intro _ (And.intro rfl ?_))))) ?_ | refine And.intro (And.intro (Nat.le_of_ble_eq_true rfl) (Or.inl (Exists.intro _ (And.intro rfl (Nat.le_of_ble_eq_true rfl))))) ?_ | refine And.intro (And.intro (Nat.le_of_ble_eq_true rfl) (Or.inl (Exists.intro _ (And.intro (congrArg (VObj.grow _) (by simp [*])) (Nat.le_of_ble_eq_true rfl))))) ?_ | rfl | exact AltL.nil | (refine congrArg (VObj.grow _) ?_; simp [*]; done) | (refine congrArg VObj.map ?_; simp [*]; done) | (refine congrArg (VObj.arr _ _) ?_; simp [*]; done) | refine AltLp.mk rfl rfl rfl rfl rfl ?_ | refine And.intro (Exists.intro _ (And.intro rfl ?_)) ?_ | refine AltL.cons ?_ ?_ | (refine Alt.same _ ?_; first | rfl | (simp [*]; done)) | exact Alt.mapv _ _ (Nat.le_of_ble_eq_true rfl) rfl | exact Alt.grow _ _ _ _ (Nat.le_of_ble_eq_true rfl) rfl | (refine Alt.growE _ _ _ _ _ ?_ (Nat.le_of_ble_eq_true rfl) rfl; simp [*]; done) | exact Alt.ptr _ _ _ (Nat.le_of_ble_eq_true rfl) rfl | exact Alt.own _ _ _ _ _ (Nat.le_of_ble_eq_true rfl) rfl | exact Alt.sub _ _ _ _ (Nat.le_of_ble_eq_true rfl) rfl | exact Alt.yld _ _ (Nat.le_of_ble_eq_true rfl) rfl | exact Alt.sl0 _ _ | (refine Alt.sl0E _ _ _ ?_; simp [*]; done) | exact Alt.e0 _ | exact Alt.sl0v | exact Alt.own0 _ _ _ | (refine Alt.fgrow _ _ _ _ _ rfl rfl ?_; simp [*]; done) | exact Alt.fown _ _ _ _ _ _ _ _ rfl rfl rfl | (refine Alt.sl0vE ?_; simp [*] <;> rfl) | (refine Alt.ofEq rfl ?_; simp [*]; done))) rfl rfl rfl) ?_
        have hb6 : s.length + 1 ≤ 4294967296 := by omega
        have hb7 : ps.length + 1 ≤ 4294967296 := by omega
        have hone : allOne [PV.int IntKind.i64 (f : Int)] = true := rfl
        have h13 : k ≤ 4294967295 := by omega
        have h12 : allOne [PV.agg [.int .i64 ((k : Int) + 1), .int .i64 0, .vec (kp.map (PV.int .i64) ++ (ownL t j).map (PV.int .i64)), ints mn, ints [], .int .i64 (d + A), .int .i64 (d + A + D)]] = true := by
         have h14 : allOne [encW w] = true := allOne_encW [w]
         rw [hN] at h14
         rw [show ints (kp ++ ownL t j) = .vec (kp.map (PV.int .i64) ++ (ownL t j).map (PV.int .i64)) from congrArg PV.vec List.map_append] at h14
         exact h14
        refine .exit ?_
        refine .seq ?_
        refine .rn ?_
        refine .rn ?_
        refine .rn ?_
        refine ⟨(k + 1, ⟨s ++ [w], ps ++ [(f : Int)], t + j, m2⟩), ⟨c25, by rw [hX2, hst], fun u hu => ?_⟩, zz5,(.mk [] [(1,5),(2,7)] (by repeat' (first | exact trivial | refine And.intro (Exists.intro _ (And.intro rfl ?_)) ?_ | (refine Alt.same _ ?_; first | rfl | (simp [*]; done)) | exact Alt.mapv _ _ (Nat.le_of_ble_eq_true rfl) rfl | exact Alt.grow _ _ _ _ (Nat.le_of_ble_eq_true rfl) rfl | (refine Alt.growE _ _ _ _ _ ?_ (Nat.le_of_ble_eq_true rfl) rfl; simp [*]; done) | exact Alt.ptr _ _ _ (Nat.le_of_ble_eq_true rfl) rfl | exact Alt.own _ _ _ _ _ (Nat.le_of_ble_eq_true rfl) rfl | exact Alt.sub _ _ _ _ (Nat.le_of_ble_eq_true rfl) rfl | exact Alt.yld _ _ (Nat.le_of_ble_eq_true rfl) rfl | exact Alt.sl0 _ _ | (refine Alt.sl0E _ _ _ ?_; simp [*]; done) | exact Alt.e0 _ | exact Alt.sl0v | exact Alt.own0 _ _ _ | (refine Alt.fgrow _ _ _ _ _ rfl rfl ?_; simp [*]; done) | exact Alt.fown _ _ _ _ _ _ _ _ rfl rfl rfl | (refine Alt.sl0vE ?_; simp [*] <;> rfl) | (refine Alt.ofEq rfl ?_; simp [*]; done))) (by repeat' (first | exact trivial | refine And.intro (And.intro (Nat.le_of_ble_eq_true rfl) (Or.inr (And.intro rfl (Exists.intro _ (And.intro rfl ?_))))) ?_ | refine And.intro (And.intro (Nat.le_of_ble_eq_true rfl) (Or.inl (Exists.intro _ (And.intro rfl (Nat.le_of_ble_eq_true rfl))))) ?_ | refine And.intro (And.intro (Nat.le_of_ble_eq_true rfl) (Or.inl (Exists.intro _ (And.intro (congrArg (VObj.grow _) (by simp [*])) (Nat.le_of_ble_eq_true rfl))))) ?_ | rfl | exact AltL.nil | (refine congrArg (VObj.grow _) ?_; simp [*]; done) | (refine congrArg VObj.map ?_; simp [*]; done) | (refine congrArg (VObj.arr _ _) ?_; simp [*]; done) | refine AltLp.mk rfl rfl rfl rfl rfl ?_ | refine And.intro (Exists.intro _ (And.intro rfl ?_)) ?_ | refine AltL.cons ?_ ?_ | (refine Alt.same _ ?_; first | rfl | (simp [*]; done)) | exact Alt.mapv _ _ (Nat.le_of_ble_eq_true rfl) rfl | exact Alt.grow _ _ _ _ (Nat.le_of_ble_eq_true rfl) rfl | (refine Alt.growE _ _ _ _ _ ?_ (Nat.le_of_ble_eq_true rfl) rfl; simp [*]; done) | exact Alt.ptr _ _ _ (Nat.le_of_ble_eq_true rfl) rfl | exact Alt.own _ _ _ _ _ (Nat.le_of_ble_eq_true rfl) rfl | exact Alt.sub _ _ _ _ (Nat.le_of_ble_eq_true rfl) rfl | exact Alt.yld _ _ (Nat.le_of_ble_eq_true rfl) rfl | exact Alt.sl0 _ _ | (refine Alt.sl0E _ _ _ ?_; simp [*]; done) | exact Alt.e0 _ | exact Alt.sl0v | exact Alt.own0 _ _ _ | (refine Alt.fgrow _ _ _ _ _ rfl rfl ?_; simp [*]; done) | exact Alt.fown _ _ _ _ _ _ _ _ rfl rfl rfl | (refine Alt.sl0vE ?_; simp [*] <;> rfl) | (refine Alt.ofEq rfl ?_; simp [*]; done))) rfl rfl rfl)⟩
        rcases List.mem_append.1 hu with hu | hu
        ·exact hh u hu
        ·rw [List.mem_singleton] at hu
         subst hu; omega
  ·try simp at c25
   have hkl : k = l.length := by omega
   have hck := hok.check (by simp only; omega) hh
   obtain ⟨hE, hB, hC, hM⟩ := hok.all hck
   simp only at hck hE hB hC hM
   have q55 := p55 s (by omega)
   rw [hB, hE] at q55
   have q24 := p24x s hck
   have q56 := p56 s ps t (by omega) (by omega)
   rw [hC] at q56
   obtain ⟨bb, hbb⟩ : ∃ x, (crR s).isSome = x := ⟨_, rfl⟩
   rw [hbb] at q24 hM
   refine .rec (vts2 := [(3, .ptr 0 0),(4, ints ps),(5, .int .i64 t),(6, .bool m)]) (vh2 := ⟨1,[(0, .box [.vec (s.map encW)])]⟩) (.mk [1,2] [] (by repeat' (first | exact trivial | refine And.intro (Exists.intro _ (And.intro rfl ?_)) ?_ | (refine Alt.same _ ?_; first | rfl | (simp [*]; done)) | exact Alt.mapv _ _ (Nat.le_of_ble_eq_true rfl) rfl | exact Alt.grow _ _ _ _ (Nat.le_of_ble_eq_true rfl) rfl | (refine Alt.growE _ _ _ _ _ ?_ (Nat.le_of_ble_eq_true rfl) rfl; simp [*]; done) | exact Alt.ptr _ _ _ (Nat.le_of_ble_eq_true rfl) rfl | exact Alt.own _ _ _ _ _ (Nat.le_of_ble_eq_true rfl) rfl | exact Alt.sub _ _ _ _ (Nat.le_of_ble_eq_true rfl) rfl | exact Alt.yld _ _ (Nat.le_of_ble_eq_true rfl) rfl | exact Alt.sl0 _ _ | (refine Alt.sl0E _ _ _ ?_; simp [*]; done) | exact Alt.e0 _ | exact Alt.sl0v | exact Alt.own0 _ _ _ | (refine Alt.fgrow _ _ _ _ _ rfl rfl ?_; simp [*]; done) | exact Alt.fown _ _ _ _ _ _ _ _ rfl rfl rfl | (refine Alt.sl0vE ?_; simp [*] <;> rfl) | (refine Alt.ofEq rfl ?_; simp [*]; done))) (by repeat' (first | exact trivial | refine And.intro (And.intro (Nat.le_of_ble_eq_true rfl) (Or.inr (And.intro rfl (Exists.intro _ (And.intro rfl ?_))))) ?_ | refine And.intro (And.intro (Nat.le_of_ble_eq_true rfl) (Or.inl (Exists.intro _ (And.intro rfl (Nat.le_of_ble_eq_true rfl))))) ?_ | refine And.intro (And.intro (Nat.le_of_ble_eq_true rfl) (Or.inl (Exists.intro _ (And.intro (congrArg (VObj.grow _) (by simp [*])) (Nat.le_of_ble_eq_true rfl))))) ?_ | rfl | exact AltL.nil | (refine congrArg (VObj.grow _) ?_; simp [*]; done) | (refine congrArg VObj.map ?_; simp [*]; done) | (refine congrArg (VObj.arr _ _) ?_; simp [*]; done) | refine AltLp.mk rfl rfl rfl rfl rfl ?_ | refine And.intro (Exists.intro _ (And.intro rfl ?_)) ?_ | refine AltL.cons ?_ ?_ | (refine Alt.same _ ?_; first | rfl | (simp [*]; done)) | exact Alt.mapv _ _ (Nat.le_of_ble_eq_true rfl) rfl | exact Alt.grow _ _ _ _ (Nat.le_of_ble_eq_true rfl) rfl | (refine Alt.growE _ _ _ _ _ ?_ (Nat.le_of_ble_eq_true rfl) rfl; simp [*]; done) | exact Alt.ptr _ _ _ (Nat.le_of_ble_eq_true rfl) rfl | exact Alt.own _ _ _ _ _ (Nat.le_of_ble_eq_true rfl) rfl | exact Alt.sub _ _ _ _ (Nat.le_of_ble_eq_true rfl) rfl | exact Alt.yld _ _ (Nat.le_of_ble_eq_true rfl) rfl | exact Alt.sl0 _ _ | (refine Alt.sl0E _ _ _ ?_; simp [*]; done) | exact Alt.e0 _ | exact Alt.sl0v | exact Alt.own0 _ _ _ | (refine Alt.fgrow _ _ _ _ _ rfl rfl ?_; simp [*]; done) | exact Alt.fown _ _ _ _ _ _ _ _ rfl rfl rfl | (refine Alt.sl0vE ?_; simp [*] <;> rfl) | (refine Alt.ofEq rfl ?_; simp [*]; done))) rfl rfl rfl) ?_
   refine .exit ?_
   refine .seq ?_
   refine .regionL [0,1,2,3,4,5,6] rfl zz0 ?_
   refine .rn [0] [1,2,3,4,5,6] ?_
   refine .step rfl rfl (.pure rfl rfl rfl Tryz.call55 (by decide) (q55) (by first | rfl | simp [*]) ?_)
   rintro _ rfl
   refine .rn [2,3,4,5,6] [] ?_
   refine .done ?_
   refine .seq ?_
   refine .regionL [0,1,2,3,4,5,6,7,8,9] rfl zz0 ?_
   refine .rn [0] [1,2,3,4,5,6,7,8,9] ?_
   refine .step rfl rfl (.pure rfl rfl rfl Tryz.call24 (by decide) (q24) (by first | rfl | simp [*]) ?_)
   rintro _ ⟨x1, x2, x3, x4, x5, rfl⟩
   refine .rn [2,3,4,5,6,7,8,9] [] ?_
   refine .done ?_
   refine .seq ?_
   refine .seq ?_
   refine .regionL [0,1,2,3,4,5,6,7,8,9,10,11,12,13,14,15,16,17,18] rfl zz0 ?_
   refine .rn [0,1,2] [3,4,5,6,7,8,9,10,11,12,13,14,15,16,17,18] ?_
   refine .split (t := 158) rfl (fun c158 => ?_) (fun c158 => ?_)
   ·first | cases c158 | try rw [c158]
    try simp at c158
   ·first | cases c158 | try rw [c158]
    try simp at c158
    refine .rn [3,4,5,6] [7,8,9,10,11,12,13,14,15,16,17,18] ?_
    refine .split (t := 162) rfl (fun c162 => ?_) (fun c162 => ?_)
    ·first | cases c162 | try rw [c162]
     try simp at c162
    ·first | cases c162 | try rw [c162]
     try simp at c162
     refine .rn [7,8,9,10,11] [12,13,14,15,16,17,18] ?_
     refine .split (t := 167) rfl (fun c167 => ?_) (fun c167 => ?_)
     ·first | cases c167 | try rw [c167]
      try simp at c167
     ·first | cases c167 | try rw [c167]
      try simp at c167
      refine .rn [12,13,14,15] [16,17,18] ?_
      refine .step rfl rfl (.pure rfl rfl rfl Tryz.call56 (by decide) (q56) (by first | rfl | simp [*]) ?_)
      rintro _ rfl
      refine .rn [17,18] [] ?_
      refine .done ?_
      refine .condS rfl (fun c174 => ?_) (fun c174 => ?_)
      ·try simp at c174
      ·try simp at c174
       refine .skip ?_
       refine .seq ?_
       refine .regionL [0,1,2,3,4,5,6,7,8] rfl zz0 ?_
       refine .step rfl rfl (.pure rfl rfl rfl Tryz.call22 (by decide) (hsan) (by first | rfl | simp [*]) ?_)
       rintro _ rfl
       refine .rn [1] [2,3,4,5,6,7,8] ?_
       refine .split (t := 176) rfl (fun c176 => ?_) (fun c176 => ?_)
       ·first | cases c176 | try rw [c176]
        try simp at c176
        refine .rn [2,3] [4,5,6,7,8] ?_
        refine .split (t := 178) rfl (fun c178 => ?_) (fun c178 => ?_)
        ·first | cases c178 | try rw [c178]
         try simp at c178
         refine .rn [4,5,6,7,8] [] ?_
         refine .done ?_
         refine .ret ?_
         refine ⟨_, _, zz4,zz4, ?_⟩
         first | rfl | (simp [*]; done) | (simp_all; done)
        ·first | cases c178 | try rw [c178]
         try simp at c178
         refine .rn [4,5,6,7,8] [] ?_
         refine .done ?_
         refine .ret ?_
         refine ⟨_, _, zz4,zz4, ?_⟩
         first | rfl | (simp [*]; done) | (simp_all; done)
       ·first | cases c176 | try rw [c176]
        try simp at c176
end Go.Am.Ds
end
