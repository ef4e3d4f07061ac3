/-
 What is used in the proof of a statement (part DsF); no condition.
-/
import Derived.Test.YtnablaecbohhmaaGreatDsT
import Derived.Test.YtnablaecbohhmaaGreatVm2
import Derived.Test.YtnablaecbohhmaaGreatDsC
set_option linter.all false
section
namespace Go.Am.Ds
open Go Go.Am Go.Proofs
set_option maxRecDepth 100000
set_option maxHeartbeats 4000000
set_option linter.unusedSimpArgs false
set_option linter.unusedVariables false
attribute [local simp] vrun vwanted vyielded vop vopA vputAll VHeap.back hidI hidF backL bm veval vevals vparts vO vbuiltin vlen vappend velems vcopy vmakeSlice vbuildSlice valloc vbox vmakeMap vload vpartT vpart vstore vfieldAddr vfield vindexAddr vindex vextract vslice vsliceZ vbounds vbnd zeroO vidx vlookup vmget vmapUpdate vdelete vclear vnilq vnilp vnils vbin vsc vsc1 vscs vscl abinOp aint ashift aunOp aconvert amaxs amax2 pvcV pvc pvcs tput tget vargs VHeap.get VHeap.alloc VHeap.put VHeap.drop VHeap.empty vlook vput vdrop psplice pfill preps chunk List.range List.range.loop vresults vresult vresultV frz frzL PV.isF PV.allF PV.scal PV.allS retP subT allFT PV.one PV.ids PV.idsL dropL beq_eq ble_dec blt_dec
theorem idxF_neg {α : Type} (p : α → Bool) : ∀ (l : List α) (k : Nat), idxF p k l = -1 → l.filter (fun a => !p a) = l
 | [], _, _ => rfl
 | a :: r, k, h => by
  simp only [idxF] at h
  by_cases hp : p a = true
  ·rw [if_pos hp] at h; omega
  ·rw [if_neg hp] at h
   simp only [List.filter_cons]
   rw [if_pos (by simp [hp]), idxF_neg p r (k + 1) h]
theorem idxF_pos {α : Type} (p : α → Bool) : ∀ (l : List α) (k : Nat), idxF p k l ≠ -1 → ∃ i, ∃ h : i < l.length, idxF p k l = ((k + i : Nat) : Int) ∧ p l[i] = true ∧ (l.take i).filter (fun a => !p a) = l.take i
 | [], _, h => absurd rfl h
 | a :: r, k, h => by
  simp only [idxF] at h ⊢
  by_cases hp : p a = true
  ·exact ⟨0, by simp, by rw [if_pos hp]; simp, by simpa using hp, by simp⟩
  ·rw [if_neg hp] at h ⊢
   obtain ⟨i, h1, h2, h3, h4⟩ := idxF_pos p r (k + 1) h
   refine ⟨i + 1, by simp; omega, by rw [h2]; congr 1; omega, by simpa using h3, ?_⟩
   simp only [List.take_succ_cons, List.filter_cons]
   rw [if_pos (by simp [hp]), h4]
mutual
theorem frz_id (vh : VHeap) : ∀ {v : PV}, v.isF = true → frz vh v = some v
 | .func f xs ys, h => by
  simp only [PV.isF, Bool.and_eq_true] at h
  simp only [frz, frzL_id vh h.1, frzL_id vh h.2]
 | .agg cs, h => by simp only [PV.isF] at h; simp only [frz, frzL_id vh h, Option.map_some]
 | .tup cs, h => by simp only [PV.isF] at h; simp only [frz, frzL_id vh h, Option.map_some]
 | .iface t v, h => by simp only [PV.isF] at h; simp only [frz, h, cond_true]
 | .ptr .., h => by simp [PV.isF] at h
 | .own .., h => by simp [PV.isF] at h
 | .sub .., h => by simp [PV.isF] at h
 | .grow .., h => by simp [PV.isF] at h
 | .mapv .., h => by simp [PV.isF] at h
 | .yld .., h => by simp [PV.isF] at h
 | .bool _, _ => by simp only [frz]
 | .int _ _, _ => by simp only [frz]
 | .str _, _ => by simp only [frz]
 | .nilFunc, _ => by simp only [frz]
 | .nilIface, _ => by simp only [frz]
 | .ptr0, _ => by simp only [frz]
 | .sl0, _ => by simp only [frz]
 | .map0, _ => by simp only [frz]
 | .e0, _ => by simp only [frz]
 | .vec _, _ => by simp only [frz]
 | .vp _, _ => by simp only [frz]
 | .vmap _, _ => by simp only [frz]
theorem frzL_id (vh : VHeap) : ∀ {l : List PV}, PV.allF l = true → frzL vh l = some l
 | [], _ => by simp only [frzL]
 | v :: r, h => by
  simp only [PV.allF, Bool.and_eq_true] at h
  simp only [frzL, frz_id vh h.1, frzL_id vh h.2]
end
@[simp] theorem take_len_map (l : List Int) : List.take l.length (l.map (PV.int .i64)) = l.map (PV.int .i64) := List.take_of_length_le (by rw [List.length_map]; exact Nat.le_refl _)
@[simp] theorem all_one_int2 (l : List Int) : l.all (PV.one ∘ PV.int .i64) = true := by simp [PV.one]
theorem get_of_drop {α : Type} {a b : List α} {j : Nat} (h : a.drop j = b.drop j) : a[j]? = b[j]? := by
 have := congrArg (·[0]?) h
 simpa using this
theorem drop_succ_of {α : Type} {a b : List α} {j : Nat} (h : a.drop j = b.drop j) : a.drop (j + 1) = b.drop (j + 1) := by
 rw [← List.drop_drop, ← List.drop_drop, h]
theorem p134 (l : List Int) (p : Int → Bool) (f : FuncId) (xs ys : List PV) (hl : l.length < 4294967296) (hne : 0 < l.length) (hx : PV.allF xs = true) (hy : PV.allF ys = true) (hcf : ∀ cs w, (callFunc f cs).run Tryz.prog w = .ok (.enter f cs) w) (hp : ∀ a ∈ l, VPure Tryz.prog f (xs ++ [.int .i64 a] ++ ys) fun r => r = .bool (p a)) : VCall Tryz.prog 134 [.sub 0 0 l.length, .func f xs ys] ⟨1,[(0, .arr false 1 (l.map (.int .i64)))]⟩ fun r _ => r.isF = true ∧ r = ints (l.filter fun a => !p a) := by
 have hl0 : ¬ l = [] := by rintro rfl; simp at hne
 have hxz : ∀ vh, frzL vh xs = some xs := fun vh => frzL_id vh hx
 have hyz : ∀ vh, frzL vh ys = some ys := fun vh => frzL_id vh hy
 refine .of_bodyF Tryz.func134 rfl rfl ?_
 refine .seq ?_
 refine .rn ?_
 refine .seq ?_
 refine .regionL [0,1,2,3] rfl zz0 ?_
 refine .rn [0,1] [2,3] ?_
 refine .step rfl rfl (.borrow rfl rfl rfl Tryz.call175 (by decide) (by first | (simp <;> rfl) | (simp [*] <;> rfl) | (simp [*]; done)) (p175 l (PV.int .i64) p f xs ys hl (fun _ => rfl) hx hy (fun _ => rfl) hcf hp) (by rintro _ rfl <;> simp) ?_)
 rintro _ rfl
 refine .rn [3] [] ?_
 refine .done ?_
 refine .seq ?_
 refine .seq ?_
 refine .rn ?_
 refine .condS rfl (fun c12 => ?_) (fun c12 => ?_)
 ·try simp at c12
  refine .seq ?_
  refine .rn ?_
  refine .ret ?_
  refine ⟨_, _, zz4,(by simp [*] <;> rfl), ?_⟩
  rw [idxF_neg p l 0 c12]
 ·try simp at c12
  obtain ⟨i0, hi0, hie, hp0, hbef⟩ := idxF_pos p l 0 c12
  rw [Nat.zero_add] at hie
  have hw1 : IntKind.i64.wrap ((i0 : Int) + 1) = (i0 : Int) + 1 := wrap64 (by omega) (by omega)
  refine .skip ?_
  refine .seq ?_
  refine .seq ?_
  refine .rn ?_
  refine .block ?_
  refine .loopS (fun st : Nat × Nat × List Int => ([(0, .sub 0 0 l.length),(1, .func f xs ys),(5, .int .i64 st.1),(6, .int .i64 st.2.1)], ⟨1,[(0, .arr false 1 (st.2.2.map (.int .i64)))]⟩)) (fun st => st.2.2.length = l.length ∧ st.1 < st.2.1 ∧ st.2.1 ≤ l.length ∧ st.2.2.take st.1 = (l.take st.2.1).filter (fun a => !p a) ∧ st.2.2.drop st.2.1 = l.drop st.2.1) (fun st => l.length - st.2.1) (i0, i0 + 1, l) ⟨rfl, by simp, hi0, by rw [List.take_succ_eq_append_getElem hi0, List.filter_append, hbef]; simp [hp0], rfl⟩ (.mk [] [] zz6 zz7 rfl rfl rfl) ?_
  rintro ⟨i, j, cs⟩ ⟨hcl, hij, hjl, htk, hdr⟩
  simp only at hcl hij hjl htk hdr ⊢
  refine .seq ?_
  refine .seq ?_
  refine .rn ?_
  refine .condS rfl (fun c19 => ?_) (fun c19 => ?_)
  ·try simp at c19
   have hw2 : IntKind.i64.wrap ((j : Int) + 1) = (j : Int) + 1 := wrap64 (by omega) (by omega)
   have hw3 : IntKind.i64.wrap ((i : Int) + 1) = (i : Int) + 1 := wrap64 (by omega) (by omega)
   have hj : cs[j]? = some l[j] := by rw [get_of_drop hdr]; simp [c19]
   have hjc : j < cs.length := by omega
   have hcj : cs[j] = l[j] := by rw [List.getElem?_eq_getElem hjc] at hj; injection hj
   have hil : i < l.length := by omega
   have hi1 : i + 1 ≤ l.length := by omega
   have hp := hp l[j] (List.getElem_mem c19)
   refine .skip ?_
   refine .seq ?_
   refine .block ?_
   refine .seq ?_
   refine .rn ?_
   refine .seq ?_
   refine .regionL [0,1,2,3] rfl zz0 ?_
   refine .rn [0,1] [2,3] ?_
   refine .step rfl rfl (.pure rfl rfl rfl hcf (by decide) (hp) (by first | rfl | simp [*]) ?_)
   rintro _ rfl
   refine .rn [3] [] ?_
   refine .done ?_
   refine .condS rfl (fun c29 => ?_) (fun c29 => ?_)
   ·try simp at c29
    refine .seq ?_
    refine .rn ?_
    refine .rn ?_
    refine .rn ?_
    refine ⟨(i + 1, j + 1, cs.set i l[j]), ⟨by simp [hcl], by simp; omega, c19, ?_, ?_⟩, zz5, .mk [] [] zz6 ⟨⟨Nat.le_of_ble_eq_true rfl, Or.inr ⟨rfl, _, rfl, ?_⟩⟩, trivial⟩ rfl rfl rfl⟩
    ·simp only
     rw [List.take_succ_eq_append_getElem (by simp; omega), List.take_set_of_le (Nat.le_refl i), htk, List.take_succ_eq_append_getElem c19, List.filter_append]
     simp [c29]
    ·simp only
     rw [List.drop_set_of_lt (by omega)]
     exact drop_succ_of hdr
    ·refine congrArg (VObj.arr _ _) ?_
     rw [List.set_eq_take_append_cons_drop, if_pos (by omega)]
     simp
   ·try simp at c29
    refine .skip ?_
    refine .rn ?_
    refine ⟨(i, j + 1, cs), ⟨hcl, by simp; omega, c19, ?_, drop_succ_of hdr⟩, zz5,(.mk [] [] zz6 zz7 rfl rfl rfl)⟩
    simp only
    rw [htk, List.take_succ_eq_append_getElem c19, List.filter_append]
    simp [c29]
  ·try simp at c19
   have hjn : j = l.length := by omega
   obtain ⟨m, hm⟩ : ∃ m, l.length - i = m + 1 := ⟨l.length - i - 1, by omega⟩
   have hin : ¬ l.length = i := by omega
   have hil : i ≤ l.length := by omega
   have him : i + (m + 1) ≤ l.length := by omega
   refine .exit ?_
   refine .seq ?_
   refine .rn ?_
   refine .seq ?_
   refine .rn ?_
   refine .ret ?_
   refine ⟨_, ints (l.filter fun a => !p a),zz4, ?_, rfl⟩
   rw [hjn, List.take_length] at htk
   by_cases hi : i = 0
   ·subst hi
    simp at htk
    simp [ints]
    intro a ha
    cases hpa : p a with
    | true => rfl
    | false => exact absurd (hpa ▸ htk a ha) (by simp)
   ·have e1 : (List.map (PV.int .i64) cs).take i = (l.filter fun a => !p a).map (.int .i64) := by rw [← List.map_take, htk]
    have e2 : ((l.filter fun a => !p a).map (PV.int .i64)).all PV.one = true := by simp [PV.one]
    have e3 : ((List.map (PV.int .i64) cs).drop (i + (m + 1))).all PV.one = true := by
     rw [List.all_eq_true]
     intro x hx
     obtain ⟨y, _, rfl⟩ := List.mem_map.1 (List.mem_of_mem_drop hx)
     rfl
    have e0 : (l.filter fun a => !p a).length = i := by rw [← htk, List.length_take]; omega
    have e4 : ∀ X : List PV, List.take i (List.map (PV.int .i64) (l.filter fun a => !p a) ++ X) = List.map (PV.int .i64) (l.filter fun a => !p a) := fun X => List.take_left' (by rw [List.length_map, e0])
    simp only [hm, e1] at *
    simp [*]
end Go.Am.Ds
end

section
namespace Go.Am.Ds
open Go Go.Am Go.Proofs
set_option maxRecDepth 100000
set_option maxHeartbeats 4000000
set_option linter.unusedSimpArgs false
set_option linter.unusedVariables false
attribute [local simp] vrun vwanted vyielded vop vopA vputAll VHeap.back hidI hidF backL bm veval vevals vparts vO vbuiltin vlen vappend velems vcopy vmakeSlice vbuildSlice valloc vbox vmakeMap vload vpartT vpart vstore vfieldAddr vfield vindexAddr vindex vextract vslice vsliceZ vbounds vbnd zeroO vidx vlookup vmget vmapUpdate vdelete vclear vnilq vnilp vnils vbin vsc vsc1 vscs vscl abinOp aint ashift aunOp aconvert amaxs amax2 pvcV pvc pvcs tput tget vargs VHeap.get VHeap.alloc VHeap.put VHeap.drop VHeap.empty vlook vput vdrop psplice pfill preps chunk List.range List.range.loop vresults vresult vresultV frz frzL PV.isF PV.allF PV.scal PV.allS retP subT allFT PV.one PV.ids PV.idsL dropL beq_eq ble_dec blt_dec
theorem p167e0 : VPure Tryz.prog 167 [.vec []] fun r => r = .vec [] ∨ r = .sl0 := by
 refine .of_body Tryz.func167 rfl rfl ?_
 refine .seq ?_
 refine .rn ?_
 refine .seq ?_
 refine .seq ?_
 refine .regionL [0,1] rfl zz0 ?_
 refine .rn [0] [1] ?_
 refine .step rfl rfl (.nilQ ⟨_, rfl⟩ u25 rfl rfl (by decide) fun q => ?_)
 refine .done ?_
 cases q with
 | true =>
  refine .condT rfl ?_
  refine .seq ?_
  refine .rn ?_
  refine .ret ?_
  exact ⟨_, .sl0,zz4,(by simp), .inr rfl⟩
 | false =>
  refine .condF rfl ?_
  refine .skip ?_
  refine .seq ?_
  refine .rn ?_
  refine .ret ?_
  exact ⟨_, .vec [],zz4,(by simp), .inl rfl⟩
theorem p167e : VPure Tryz.prog 167 [.vec []] fun r => r = .vec [] := p167e0.alt fun r h => by
 rcases h with rfl | rfl
 ·exact ⟨.vec [], .same _ rfl, rfl, rfl⟩
 ·exact ⟨.vec [], .sl0v, rfl, rfl⟩
theorem p167 (l : List Int) (hne : 0 < l.length) (hl : l.length < 4294967296) : VCall Tryz.prog 167 [ints l] VHeap.empty fun v vh' => ∃ i nl, v = .grow i l.length nl ∧ vh'.get i = some (.grow 1 (l.map (.int .i64))) := by
 obtain ⟨a, r, rfl⟩ : ∃ a r, l = a :: r := by
  cases l with
  | nil => simp at hne
  | cons a r => exact ⟨a, r, rfl⟩
 have h1 : r.length + 1 ≤ 4294967296 := by simp at hl; omega
 have h2 : r.length ≤ 4294967295 := by omega
 have hS : allSz 1 (PV.int .i64 a :: r.map (PV.int .i64)) = true := allSz_int .i64 (a :: r)
 have hO : allOne (PV.int .i64 a :: r.map (PV.int .i64)) = true := allOne_int .i64 (a :: r)
 refine .of_body Tryz.func167 rfl rfl ?_
 refine .seq ?_
 refine .rn ?_
 refine .seq ?_
 refine .seq ?_
 refine .run zz0 (by simp [ints, *] <;> first | exact ⟨rfl, rfl⟩ | exact rfl) ?_
 refine .condF rfl ?_
 refine .skip ?_
 refine .seq ?_
 refine .run zz0 (by simp [ints, *] <;> first | exact ⟨rfl, rfl⟩ | exact rfl) ?_
 refine .ret ?_
 exact ⟨_, zz4, _, _, rfl, by simp⟩
def fstF (p : Int → Bool) (l : List Int) : Int := (l.find? p).getD 0
theorem fstF_drop (p : Int → Bool) (l : List Int) (i : Nat) (h : i < l.length) : fstF p (l.drop i) = if p l[i] then l[i] else fstF p (l.drop (i + 1)) := by
 rw [List.drop_eq_getElem_cons h]
 simp only [fstF, List.find?_cons]
 cases p l[i] <;> rfl
theorem p162 (l : List Int) (p : Int → Bool) (f : FuncId) (xs ys : List PV) (hl : l.length < 4294967296) (hx : PV.allF xs = true) (hy : PV.allF ys = true) (hcf : ∀ cs w, (callFunc f cs).run Tryz.prog w = .ok (.enter f cs) w) (hp : ∀ a ∈ l, VPure Tryz.prog f (xs ++ [.int .i64 a] ++ ys) fun r => r = .bool (p a)) : VPure Tryz.prog 162 [ints l, .func f xs ys] fun r => r = .tup [.int .i64 (fstF p l), .int .i64 (idxF p 0 l)] := by
 refine .of_body Tryz.func162 rfl rfl ?_
 refine .seq ?_
 refine .rn ?_
 refine .seq ?_
 refine .seq ?_
 refine .rn ?_
 refine .block ?_
 refine .loopS (fun s : Nat => ([(1, .func f xs ys),(9, ints l),(10, .int .i64 l.length),(11, .int .i64 s)], VHeap.empty)) (fun s => s ≤ l.length ∧ idxF p s (l.drop s) = idxF p 0 l ∧ fstF p (l.drop s) = fstF p l) (fun s => l.length - s) 0 ⟨by simp, by simp, by simp⟩ (.pure (by simp [*]) (by simp)) ?_
 rintro i ⟨hi, hr, hr2⟩
 simp only at hi hr hr2 ⊢
 refine .seq ?_
 refine .rn ?_
 refine .seq ?_
 refine .condS rfl (fun c12 => ?_) (fun c12 => ?_)
 ·try simp at c12
  have hw2 : IntKind.i64.wrap ((i : Int) + 1) = (i : Int) + 1 := wrap64 (by omega) (by omega)
  rw [idxF_drop p l i c12] at hr
  rw [fstF_drop p l i c12] at hr2
  have hp := hp l[i] (List.getElem_mem c12)
  refine .skip ?_
  refine .seq ?_
  refine .block ?_
  refine .seq ?_
  refine .rn ?_
  refine .seq ?_
  refine .regionL [0,1,2] rfl zz0 ?_
  refine .rn [0,1] [2] ?_
  refine .step rfl rfl (.pure rfl rfl rfl hcf (by decide) (hp) (by first | rfl | simp [*]) ?_)
  rintro _ rfl
  refine .done ?_
  refine .condS rfl (fun c18 => ?_) (fun c18 => ?_)
  ·try simp at c18
   refine .seq ?_
   refine .rn ?_
   refine .ret ?_
   refine ⟨_, _, zz4,zz4, ?_⟩
   rw [← hr, if_pos c18, ← hr2, if_pos c18]
  ·try simp at c18
   refine .skip ?_
   refine .rn ?_
   refine ⟨i + 1, ⟨zz5, ?_, ?_⟩, zz5, .pure (by simp [*]) (by simp)⟩
   ·rw [← hr, if_neg (by simp [c18])]
   ·rw [← hr2, if_neg (by simp [c18])]
 ·try simp at c12
  have : i = l.length := by omega
  refine .exit ?_
  refine .seq ?_
  refine .rn ?_
  refine .seq ?_
  refine .rn ?_
  refine .ret ?_
  refine ⟨_, _, zz4,zz4, ?_⟩
  rw [← hr, ← hr2, this, List.drop_length]; rfl
theorem p163 (n : Int) (ks : List Int) : VPure Tryz.prog 163 [.int .i64 n, .vp [.vmap (mp ks)]] fun r => r = .bool (!decide (n ∈ ks)) := by
 refine .of_body Tryz.func163 rfl rfl ?_
 refine .seq ?_
 refine .rn ?_
 refine .seq ?_
 refine .regionL [0,1,2,3,4] rfl zz0 ?_
 refine .rn [0,1] [2,3,4] ?_
 refine .step rfl rfl (.pure rfl rfl rfl Tryz.call115 (by decide) (p115 ks n) (by first | rfl | simp [*]) ?_)
 rintro _ rfl
 refine .rn [3,4] [] ?_
 refine .done ?_
 refine .ret ?_
 refine ⟨_, _, zz4,zz4, ?_⟩
 first | rfl | (simp [*]; done) | (simp_all; done)
def lastS (c : Wit) (id : Int) : Int := if 0 < c.models.length ∧ id ∉ c.models then 4 else 0
def lackF (c : Wit) (n : Int) : Bool := !decide (n ∈ setK [c.slips, c.mended])
def whyP (c p : Wit) : Int × Int := if p.id = c.id then (1,0) else if c.lo ≤ p.hi then (2,0) else if 0 ≤ idxF (lackF c) 0 p.slips then (3, fstF (lackF c) p.slips) else (lastS c p.id, 0)
def tup2 (x : Int × Int) : PV := .tup [.int .i64 x.1, .int .i64 x.2]
theorem p101a (c : Wit) (h3 : c.models.length < 4294967296) : VPure Tryz.prog 101 [encW c, .ptr0] fun r => r = tup2 (lastS c 0,0) := by
 refine .of_body Tryz.func101 rfl rfl ?_
 refine .seq ?_
 refine .rn ?_
 refine .seq ?_
 refine .rn ?_
 refine .seq ?_
 refine .seq ?_
 refine .rn ?_
 refine .condS rfl (fun c11 => ?_) (fun c11 => ?_)
 ·try simp at c11
 ·try simp at c11
  refine .skip ?_
  refine .seq ?_
  refine .seq ?_
  refine .regionL [0,1,2,3,4,5,6,7,8,9,10] rfl zz0 ?_
  refine .rn [0,1,2,3,4] [5,6,7,8,9,10] ?_
  refine .split (t := 51) rfl (fun c51 => ?_) (fun c51 => ?_)
  ·rw [c51]
   try simp at c51
   refine .rn [5,6,7] [8,9,10] ?_
   refine .step rfl rfl (.pure rfl rfl rfl Tryz.call144 (by decide) (p144 c.models 0 h3) (by first | rfl | simp [*]) ?_)
   rintro _ rfl
   refine .rn [9,10] [] ?_
   refine .done ?_
   refine .condS rfl (fun c57 => ?_) (fun c57 => ?_)
   ·try simp at c57
    refine .seq ?_
    refine .rn ?_
    refine .ret ?_
    refine ⟨_, _, zz4,zz4, ?_⟩
    have hn : (0 : Int) ∉ c.models := fun h => c57 0 h rfl
    simp [tup2, lastS, c51, hn]
   ·try simp at c57
    refine .skip ?_
    refine .seq ?_
    refine .rn ?_
    refine .ret ?_
    refine ⟨_, _, zz4,zz4, ?_⟩
    simp [tup2, lastS, c57]
  ·rw [c51]
   try simp at c51
   refine .rn [5,6,7,8,9,10] [] ?_
   refine .done ?_
   refine .condF rfl ?_
   refine .skip ?_
   refine .seq ?_
   refine .rn ?_
   refine .ret ?_
   refine ⟨_, _, zz4,zz4, ?_⟩
   simp [tup2, lastS, c51]
theorem p101b (c p : Wit) (h1 : c.slips.length < 4294967296) (h2 : c.mended.length < 4294967296) (h3 : c.models.length < 4294967296) (h4 : p.slips.length < 4294967296) : VPure Tryz.prog 101 [encW c, .vp (encW p).cells] fun r => r = tup2 (whyP c p) := by
 refine .of_body Tryz.func101 rfl rfl ?_
 refine .seq ?_
 refine .rn ?_
 refine .seq ?_
 refine .rn ?_
 refine .seq ?_
 refine .seq ?_
 refine .rn ?_
 refine .condS rfl (fun c11 => ?_) (fun c11 => ?_)
 ·try simp at c11
  refine .seq ?_
  refine .rn ?_
  refine .seq ?_
  refine .seq ?_
  refine .rn ?_
  refine .condS rfl (fun c19 => ?_) (fun c19 => ?_)
  ·try simp at c19
   refine .seq ?_
   refine .rn ?_
   refine .ret ?_
   refine ⟨_, _, zz4,zz4, ?_⟩
   simp [tup2, whyP, c19]
  ·try simp at c19
   refine .skip ?_
   refine .seq ?_
   refine .seq ?_
   refine .drawn (ms := [0,1,3,7,15,0,32,96,255]) (W := []) (items := [.op 0, .op 1, .op 2, .op 3, .op 4, .op 5, .op 6, .op 7, .op 8]) rfl zz0 zz0 zz0 ?_
   refine .rd rfl rfl (by decide) rfl (by decide) zz1 ?_   -- 0
   refine .rd rfl rfl (by decide) rfl (by decide) zz1 ?_   -- 1
   refine .rd rfl rfl (by decide) rfl (by decide) zz1 ?_   -- 2
   refine .rd rfl rfl (by decide) rfl (by decide) zz1 ?_   -- 3
   refine .rd rfl rfl (by decide) rfl (by decide) zz1 ?_   -- 4
   refine .rd rfl rfl (by decide) rfl (by decide) zz1 ?_   -- 5
   refine .rd rfl rfl (by decide) rfl (by decide) zz1 ?_   -- 6
   refine .rd rfl rfl (by decide) rfl (by decide) zz1 ?_   -- 7
   refine .rd rfl rfl (by decide) rfl (by decide) zz1 ?_   -- 8
   refine .done ?_
   refine .condS rfl (fun c28 => ?_) (fun c28 => ?_)
   ·try simp at c28
    refine .seq ?_
    refine .rn ?_
    refine .ret ?_
    refine ⟨_, _, zz4,zz4, ?_⟩
    simp [tup2, whyP, c19, c28]
   ·try simp at c28
    refine .skip ?_
    refine .seq ?_
    refine .regionL [0,1,2,3,4,5,6,7] rfl zz0 ?_
    refine .rn [0,1,2,3,4] [5,6,7] ?_
    refine .step rfl rfl (.take rfl rfl rfl Tryz.call116 (by decide) (by first | (simp <;> rfl) | (simp [*] <;> rfl) | (simp [*]; done)) (p116 [c.slips, c.mended] (by simp) (by simp [h1, h2])) ?_)
    rintro _ rfl
    refine .rn [6,7] [] ?_
    refine .done ?_
    refine .seq ?_
    refine .regionL [0,1,2,3,4,5,6,7,8,9,10] rfl zz0 ?_
    refine .rn [0,1,2,3,4] [5,6,7,8,9,10] ?_
    refine .step rfl rfl (.borrow rfl rfl rfl Tryz.call162 (by decide) (by first | (simp <;> rfl) | (simp [*] <;> rfl) | (simp [*]; done)) (p162 p.slips (lackF c) 163 [] [.vp [.vmap (mp (setK [c.slips, c.mended]))]] h4 rfl rfl Tryz.call163 (fun n _ => p163 n _)) (by rintro _ rfl <;> simp) ?_)
    rintro _ rfl
    refine .rn [6,7,8,9,10] [] ?_
    refine .done ?_
    refine .seq ?_
    refine .rn ?_
    refine .condS rfl (fun c45 => ?_) (fun c45 => ?_)
    ·try simp at c45
     refine .seq ?_
     refine .rn ?_
     refine .ret ?_
     refine ⟨_, _, zz4,zz4, ?_⟩
     simp [tup2, whyP, c19, show ¬ c.lo ≤ p.hi by omega, c45]
    ·try simp at c45
     refine .skip ?_
     refine .seq ?_
     refine .seq ?_
     refine .regionL [0,1,2,3,4,5,6,7,8,9,10] rfl zz0 ?_
     refine .rn [0,1,2,3,4] [5,6,7,8,9,10] ?_
     refine .split (t := 51) rfl (fun c51 => ?_) (fun c51 => ?_)
     ·rw [c51]
      try simp at c51
      refine .rn [5,6,7] [8,9,10] ?_
      refine .step rfl rfl (.pure rfl rfl rfl Tryz.call144 (by decide) (p144 c.models p.id h3) (by first | rfl | simp [*]) ?_)
      rintro _ rfl
      refine .rn [9,10] [] ?_
      refine .done ?_
      refine .condS rfl (fun c57 => ?_) (fun c57 => ?_)
      ·try simp at c57
       refine .seq ?_
       refine .rn ?_
       refine .ret ?_
       refine ⟨_, _, zz4,zz4, ?_⟩
       have hn : p.id ∉ c.models := fun h => c57 p.id h rfl
       simp [tup2, whyP, c19, show ¬ c.lo ≤ p.hi by omega, show ¬ (0 : Int) ≤ idxF (lackF c) 0 p.slips by omega, lastS, c51, hn]
      ·try simp at c57
       refine .skip ?_
       refine .seq ?_
       refine .rn ?_
       refine .ret ?_
       refine ⟨_, _, zz4,zz4, ?_⟩
       simp [tup2, whyP, c19, show ¬ c.lo ≤ p.hi by omega, show ¬ (0 : Int) ≤ idxF (lackF c) 0 p.slips by omega, lastS, c57]
     ·rw [c51]
      try simp at c51
      refine .rn [5,6,7,8,9,10] [] ?_
      refine .done ?_
      refine .condF rfl ?_
      refine .skip ?_
      refine .seq ?_
      refine .rn ?_
      refine .ret ?_
      refine ⟨_, _, zz4,zz4, ?_⟩
      simp [tup2, whyP, c19, show ¬ c.lo ≤ p.hi by omega, show ¬ (0 : Int) ≤ idxF (lackF c) 0 p.slips by omega, lastS, c51]
 ·try simp at c11
theorem p99 (s : List Wit) (hl : s.length < 4294967296) : VPure Tryz.prog 99 [encS s] fun r => r = ints ((s.map Wit.id).mergeSort fun x y => decide (x ≤ y)) := by
 refine .of_body Tryz.func99 rfl rfl ?_
 refine .seq ?_
 refine .rn ?_
 refine .seq ?_
 refine .rn ?_
 refine .seq ?_
 refine .seq ?_
 refine .rn ?_
 refine .block ?_
 refine .loopS (fun i : Nat => ([(3, .grow 1 i true),(7, .vec (s.map encW)),(8, .int .i64 s.length),(9, .int .i64 i)], ⟨2,[(1, .grow 1 (((s.take i).map Wit.id).map (.int .i64)))]⟩)) (fun i => i ≤ s.length) (fun i => s.length - i) 0 (by simp) (.mk [] [] zz6 zz7 rfl rfl rfl) ?_
 rintro i hi
 simp only at hi ⊢
 refine .seq ?_
 refine .rn ?_
 refine .seq ?_
 refine .condS rfl (fun c10 => ?_) (fun c10 => ?_)
 ·try simp at c10
  have hw2 : IntKind.i64.wrap ((i : Int) + 1) = (i : Int) + 1 := wrap64 (by omega) (by omega)
  have hT := take_succ_map Wit.id s i c10
  have hb : i + 1 ≤ 4294967296 := by omega
  have hE : encW s[i] = .agg [.int .i64 s[i].id, .int .i64 s[i].known, ints s[i].slips, ints s[i].mended, ints s[i].models, .int .i64 s[i].lo, .int .i64 s[i].hi] := rfl
  refine .skip ?_
  refine .seq ?_
  refine .block ?_
  refine .seq ?_
  refine .rn ?_
  refine .rn ?_
  refine .rn ?_
  refine ⟨i + 1,zz5,zz5,(.mk [] [(1,4)] zz6 zz7 rfl rfl rfl)⟩
 ·try simp at c10
  have : i = s.length := by omega
  subst this
  refine .exit ?_
  refine .seq ?_
  refine .regionL [0,1] rfl zz0 ?_
  refine .rn [0] [1] ?_
  refine .step rfl rfl (.call rfl rfl rfl Tryz.call159 (by decide) (((VCall.sortGrow (zs := s.map Wit.id) lsort (by simp [List.take_of_length_le]) (by simp))).mono ?_))
  rintro _ _ ⟨rfl, rfl⟩
  refine .done ?_
  refine .seq ?_
  refine .rn ?_
  refine .ret ?_
  refine ⟨_, _, zz4,zz4, ?_⟩
  first | rfl | (simp [*]; done) | (simp_all; done)
theorem p109a (c : Wit) : VPure Tryz.prog 109 [encW c, .ptr0] fun r => r = ints c.slips := by
 refine .of_body Tryz.func109 rfl rfl ?_
 refine .seq ?_
 refine .rn ?_
 refine .seq ?_
 refine .seq ?_
 refine .rn ?_
 refine .condS rfl (fun c7 => ?_) (fun c7 => ?_)
 ·try simp at c7
  refine .seq ?_
  refine .rn ?_
  refine .ret ?_
  refine ⟨_, _, zz4,zz4, ?_⟩
  first | rfl | (simp [*]; done) | (simp_all; done)
 ·try simp at c7
theorem p134e (f : FuncId) (xs ys : List PV) (hx : PV.allF xs = true) (hy : PV.allF ys = true) (hcf : ∀ cs w, (callFunc f cs).run Tryz.prog w = .ok (.enter f cs) w) : VPure Tryz.prog 134 [.vec [], .func f xs ys] fun r => r = .vec [] := by
 refine .of_body Tryz.func134 rfl rfl ?_
 refine .seq ?_
 refine .rn ?_
 refine .seq ?_
 refine .regionL [0,1,2,3] rfl zz0 ?_
 refine .rn [0,1] [2,3] ?_
 refine .step rfl rfl (.pure rfl rfl rfl Tryz.call175 (by decide) (p175 ([] : List Int) (PV.int .i64) (fun _ => true) f xs ys (by simp) (fun _ => rfl) hx hy (fun _ => rfl) hcf (fun a ha => by cases ha)) (by simp [*]) ?_)
 rintro _ rfl
 refine .rn [3] [] ?_
 refine .done ?_
 refine .seq ?_
 refine .seq ?_
 refine .run zz0 (by simp [idxF, *] <;> first | exact ⟨rfl, rfl⟩ | exact rfl) ?_
 refine .condT rfl ?_
 refine .seq ?_
 refine .rn ?_
 refine .ret ?_
 exact ⟨_, .vec [],zz4,(by simp), rfl⟩
theorem p109e (c p : Wit) (h2 : p.slips.length < 4294967296) (h0 : c.slips = []) : VPure Tryz.prog 109 [encW c, .vp (encW p).cells] fun r => r = .vec [] := by
 have hz : ints c.slips = .vec [] := by rw [h0]; rfl
 refine .of_body Tryz.func109 rfl rfl ?_
 refine .seq ?_
 refine .rn ?_
 refine .seq ?_
 refine .seq ?_
 refine .rn ?_
 refine .condS rfl (fun c7 => ?_) (fun c7 => ?_)
 ·try simp at c7
 ·try simp at c7
  refine .skip ?_
  refine .seq ?_
  refine .regionL [0,1,2,3,4,5,6] rfl zz0 ?_
  refine .rn [0,1,2,3,4] [5,6] ?_
  refine .step rfl rfl (.take rfl rfl rfl Tryz.call116 (by decide) (by first | (simp <;> rfl) | (simp [*] <;> rfl) | (simp [*]; done)) (p116 [p.slips] (by simp) (by simp [h2])) ?_)
  rintro _ rfl
  refine .rn [6] [] ?_
  refine .done ?_
  refine .seq ?_
  refine .regionL [0,1,2,3,4,5,6] rfl zz0 ?_
  refine .rn [0,1] [2,3,4,5,6] ?_
  refine .step rfl rfl (.pure rfl rfl rfl Tryz.call167 (by decide) (p167e) (by first | rfl | simp [*]) ?_)
  rintro _ rfl
  refine .rn [3,4] [5,6] ?_
  refine .step rfl rfl (.pure rfl rfl rfl Tryz.call134 (by decide) (p134e 115 [.vmap (mp (setK [p.slips]))] [] rfl rfl Tryz.call115) (by first | rfl | simp [*]) ?_)
  rintro _ rfl
  refine .rn [6] [] ?_
  refine .done ?_
  refine .ret ?_
  refine ⟨_, _, zz4,zz4, ?_⟩
  first | rfl | (simp [*]; done) | (simp_all; done)
theorem give134 {vh : VHeap} (l : List Int) (p : Int → Bool) (f : FuncId) (xs ys : List PV) (hl : l.length < 4294967296) (hne : 0 < l.length) (hx : PV.allF xs = true) (hy : PV.allF ys = true) (hcf : ∀ cs w, (callFunc f cs).run Tryz.prog w = .ok (.enter f cs) w)
  (hp : ∀ a ∈ l, VPure Tryz.prog f (xs ++ [.int .i64 a] ++ ys) fun r => r = .bool (p a)) (i : Nat) (nl : Bool) (hg : vh.get i = some (.grow 1 (l.map (.int .i64)))) : VCall Tryz.prog 134 [.grow i l.length nl, .func f xs ys] vh fun v vh' => vh' = vh.drop i ∧ v = ints (l.filter fun a => !p a) := by
 obtain ⟨a, r, hc⟩ : ∃ a r, l = a :: r := by
  cases l with
  | nil => simp at hne
  | cons a r => exact ⟨a, r, rfl⟩
 refine VCall.give (x0 := .arr false 1 (l.map (.int .i64))) hg (by rw [hc]; rfl) ⟨rfl, ⟨.int .i64 a, r.map (.int .i64), by rw [hc]; rfl⟩, sorted_cells l⟩ (AltL.cons (.growS i 0 l.length nl 1 _ (by decide) rfl hg (by simp) hne) (AltL.cons (.same _ ?_) AltL.nil)) (p134 l p f xs ys hl hne hx hy hcf hp)
 simp only [PV.isF, hx, hy, Bool.and_self]
theorem p109n (c p : Wit) (h1 : c.slips.length < 4294967296) (h2 : p.slips.length < 4294967296) (h0 : 0 < c.slips.length) : VPure Tryz.prog 109 [encW c, .vp (encW p).cells] fun r => r = ints (c.slips.filter fun n => !decide (n ∈ setK [p.slips])) := by
 refine .of_body Tryz.func109 rfl rfl ?_
 refine .seq ?_
 refine .rn ?_
 refine .seq ?_
 refine .seq ?_
 refine .rn ?_
 refine .condS rfl (fun c7 => ?_) (fun c7 => ?_)
 ·try simp at c7
 ·try simp at c7
  refine .skip ?_
  refine .seq ?_
  refine .regionL [0,1,2,3,4,5,6] rfl zz0 ?_
  refine .rn [0,1,2,3,4] [5,6] ?_
  refine .step rfl rfl (.take rfl rfl rfl Tryz.call116 (by decide) (by first | (simp <;> rfl) | (simp [*] <;> rfl) | (simp [*]; done)) (p116 [p.slips] (by simp) (by simp [h2])) ?_)
  rintro _ rfl
  refine .rn [6] [] ?_
  refine .done ?_
  refine .seq ?_
  refine .regionL [0,1,2,3,4,5,6] rfl zz0 ?_
  refine .rn [0,1] [2,3,4,5,6] ?_
  refine .step rfl rfl (.call rfl rfl rfl Tryz.call167 (by decide) (((VCall.fresh' (by simp) (p167 c.slips h0 h1) rfl h0)).mono ?_))
  rintro _ _ ⟨rfl, rfl⟩
  refine .rn [3,4] [5,6] ?_
  refine .step rfl rfl (.call rfl rfl rfl Tryz.call134 (by decide) (((give134 c.slips (fun n => decide (n ∈ setK [p.slips])) 115 [.vmap (mp (setK [p.slips]))] [] h1 h0 rfl rfl Tryz.call115 (fun n _ => p115 _ n) 2 false rfl)).mono ?_))
  rintro _ _ ⟨rfl, rfl⟩
  refine .rn [6] [] ?_
  refine .done ?_
  refine .ret ?_
  refine ⟨_, _, zz4,zz4, ?_⟩
  first | rfl | (simp [*]; done) | (simp_all; done)
end Go.Am.Ds
end

section
namespace Go.Am.Ds
open Go Go.Am Go.Proofs
set_option maxRecDepth 100000
set_option maxHeartbeats 4000000
set_option linter.unusedSimpArgs false
set_option linter.unusedVariables false
attribute [local simp] vrun vwanted vyielded vop vopA vputAll VHeap.back hidI hidF backL bm veval vevals vparts vO vbuiltin vlen vappend velems vcopy vmakeSlice vbuildSlice valloc vbox vmakeMap vload vpartT vpart vstore vfieldAddr vfield vindexAddr vindex vextract vslice vsliceZ vbounds vbnd zeroO vidx vlookup vmget vmapUpdate vdelete vclear vnilq vnilp vnils vbin vsc vsc1 vscs vscl abinOp aint ashift aunOp aconvert amaxs amax2 pvcV pvc pvcs tput tget vargs VHeap.get VHeap.alloc VHeap.put VHeap.drop VHeap.empty vlook vput vdrop psplice pfill preps chunk List.range List.range.loop vresults vresult vresultV frz frzL PV.isF PV.allF PV.scal PV.allS retP subT allFT PV.one PV.ids PV.idsL dropL beq_eq ble_dec blt_dec
def Soft (r v : PV) : Prop := Alt VHeap.empty 0 (fun _ => true) id r v
theorem VPure.soft {P : Program} {f : FuncId} {args : List PV} {v : PV} (hp : VPure P f args fun r => Soft r v) (hv : v.isF = true) : VPure P f args fun r => r = v := hp.alt fun r h => ⟨v, h, hv, rfl⟩
theorem soft_rfl {v : PV} (h : v.isF = true) : Soft v v := .same v h
theorem soft_tup {l l2 : List PV} (h : AltL VHeap.empty 0 (fun _ => true) id l l2) : Soft (.tup l) (.tup l2) := .tup' h
theorem idx_find {α : Type} (p : α → Bool) : ∀ (l : List α) (k : Nat),(idxF p k l = -1 ∧ l.find? p = none) ∨ ∃ i, ∃ h : i < l.length, idxF p k l = ((k + i : Nat) : Int) ∧ l.find? p = some l[i]
 | [], k => .inl ⟨rfl, rfl⟩
 | a :: r, k => by
  simp only [idxF, List.find?_cons]
  cases hp : p a with
  | true => exact .inr ⟨0, by simp, by simp, by simp⟩
  | false =>
   rcases idx_find p r (k + 1) with ⟨h1, h2⟩ | ⟨i, h1, h2, h3⟩
   ·exact .inl ⟨by simpa using h1, by simpa using h2⟩
   ·exact .inr ⟨i + 1, by simp; omega, by simp; rw [h2]; omega, by simpa using h3⟩
def findI (s : List Wit) (id : Int) : Int := idxF (fun w => decide (w.id = id)) 0 s
def getW (s : List Wit) (id : Int) : Option Wit := s.find? fun w => decide (w.id = id)
theorem getW_none {s : List Wit} {id : Int} (h : findI s id < 0) : getW s id = none := by
 rcases idx_find (fun w : Wit => decide (w.id = id)) s 0 with ⟨_, h2⟩ | ⟨i, _, h2, _⟩
 ·exact h2
 ·unfold findI at h; rw [h2] at h; omega
theorem getW_some {s : List Wit} {id : Int} (h : 0 ≤ findI s id) : ∃ i, ∃ h : i < s.length, findI s id = (i : Int) ∧ getW s id = some s[i] := by
 rcases idx_find (fun w : Wit => decide (w.id = id)) s 0 with ⟨h1, _⟩ | ⟨i, h1, h2, h3⟩
 ·unfold findI at h; rw [h1] at h; omega
 ·exact ⟨i, h1, by unfold findI; rw [h2]; simp, h3⟩
def zW : PV := .agg [.int .i64 0, .int .i64 0, .sl0, .sl0, .sl0, .int .i64 0, .int .i64 0]
attribute [local simp] zW tup2
inductive KinR where
  | err (e : Int)
  | text (c : Wit)
  | of (c p : Wit)
def KinR.enc : KinR → PV
 | .err e => .tup [zW, .ptr0, .int .i64 e]
 | .text c => .tup [encW c, .ptr0, .int .i64 0]
 | .of c p => .tup [encW c, .vp (encW p).cells, .int .i64 0]
def kinR (s : List Wit) (a b : Int) : KinR := if checkS s = 0 then
  match getW s a with
  | none => .err 5
  | some c => if b = 0 then .text c else match getW s b with
   | none => .err 5
   | some p => .of c p
 else .err (checkS s)
theorem getW_mem {s : List Wit} {id : Int} {c : Wit} (h : getW s id = some c) : c ∈ s ∧ c.id = id := by
 unfold getW at h
 exact ⟨List.mem_of_find?_eq_some h, by simpa using List.find?_some h⟩
theorem kinR_err {s : List Wit} {a b e : Int} (h : kinR s a b = .err e) : e ≠ 0 := by
 unfold kinR at h
 repeat' split at h
 all_goals first | (injection h with h; subst h; first | assumption | decide) | cases h
theorem kinR_text {s : List Wit} {a b : Int} {c : Wit} (h : kinR s a b = .text c) : checkS s = 0 ∧ getW s a = some c ∧ b = 0 := by
 unfold kinR at h
 repeat' split at h
 all_goals first | (injection h with h; subst h; exact ⟨‹_›, ‹_›, ‹_›⟩) | cases h
theorem kinR_of {s : List Wit} {a b : Int} {c p : Wit} (h : kinR s a b = .of c p) : checkS s = 0 ∧ getW s a = some c ∧ b ≠ 0 ∧ getW s b = some p := by
 unfold kinR at h
 repeat' split at h
 all_goals first | (injection h with h1 h2; subst h1; subst h2; exact ⟨‹_›, ‹_›, ‹_›, ‹_›⟩) | cases h
theorem p105' (s : List Wit) (id : Int) (hl : s.length < 4294967296) : VPure Tryz.prog 105 [encS s, .int .i64 id] fun r => r = .int .i64 (findI s id) := p105 s id hl
theorem p106 (s : List Wit) (c : Wit) : VPure Tryz.prog 106 [encS s, encW c] fun r => r = .func 166 [] [.vp (encW c).cells, .vp (encS s).cells] := by
 refine .of_body Tryz.func106 rfl rfl ?_
 refine .seq ?_
 refine .rn ?_
 refine .seq ?_
 refine .rn ?_
 refine .ret ?_
 refine ⟨_, _, zz4,zz4, ?_⟩
 first | rfl | (simp [*]; done) | (simp_all; done)
theorem p100 (s : List Wit) (a b : Int) (hl : s.length < 4294967296) : VPure Tryz.prog 100 [encS s, .agg [.int .i64 a, .int .i64 b]] fun r => r = (kinR s a b).enc := by
 refine .of_body Tryz.func100 rfl rfl ?_
 refine .seq ?_
 refine .rn ?_
 refine .seq ?_
 refine .seq ?_
 refine .regionL [0,1,2] rfl zz0 ?_
 refine .rn [0] [1,2] ?_
 refine .step rfl rfl (.pure rfl rfl rfl Tryz.call35 (by decide) (p35 s hl) (by first | rfl | simp [*]) ?_)
 rintro _ rfl
 refine .rn [2] [] ?_
 refine .done ?_
 refine .seq ?_
 refine .rn ?_
 refine .condS rfl (fun c13 => ?_) (fun c13 => ?_)
 ·try simp at c13
  refine .seq ?_
  refine .rn ?_
  refine .ret ?_
  refine ⟨_, _, zz4,zz4, ?_⟩
  simp [kinR, KinR.enc, c13, zW]
 ·try simp at c13
  refine .skip ?_
  refine .seq ?_
  refine .drawn (ms := [0,0,2,7,0,0,32,127,255,511]) (W := [3,7]) (items := [.op 0, .op 1, .op 2, .op 4, .op 5, .op 6, .op 3, .ck 6, .ck 4, .op 7, .op 8, .op 9]) rfl zz0 zz0 zz0 ?_
  refine .rd rfl rfl (by decide) rfl (by decide) zz1 ?_   -- 0
  refine .rd rfl rfl (by decide) rfl (by decide) zz1 ?_   -- 1
  refine .rd rfl rfl (by decide) rfl (by decide) zz1 ?_   -- 2
  refine .rd rfl rfl (by decide) rfl (by decide) zz1 ?_   -- 4
  refine .rd rfl rfl (by decide) rfl (by decide) zz1 ?_   -- 5
  refine .rd rfl rfl (by decide) rfl (by decide) zz1 ?_   -- 6
  refine .wr rfl rfl (by decide) (.pure rfl rfl rfl Tryz.call105 (by decide) (p105' s a hl) (by first | rfl | simp [*]) ?_)
  rintro _ rfl
  refine .ck rfl zz0 ?_   -- 6
  refine .ck rfl zz0 ?_   -- 4
  refine .wr rfl rfl (by decide) (.pure rfl rfl rfl Tryz.call105 (by decide) (p105' s b hl) (by first | rfl | simp [*]) ?_)
  rintro _ rfl
  refine .rd rfl rfl (by decide) rfl (by decide) zz1 ?_   -- 8
  refine .rd rfl rfl (by decide) rfl (by decide) zz1 ?_   -- 9
  refine .done ?_
  refine .seq ?_
  refine .seq ?_
  refine .regionL [0,1,2,3,4,5,6,7,8,9,10] rfl zz0 ?_
  refine .rn [0,1,2] [3,4,5,6,7,8,9,10] ?_
  refine .split (t := 26) rfl (fun c26 => ?_) (fun c26 => ?_)
  ·rw [c26]
   try simp at c26
   have hn := getW_none c26
   refine .rn [3,4,5,6,7,8,9,10] [] ?_
   refine .done ?_
   refine .condT rfl ?_
   refine .seq ?_
   refine .rn ?_
   refine .ret ?_
   refine ⟨_, _, zz4,zz4, ?_⟩
   simp [kinR, KinR.enc, c13, hn, zW]
  ·rw [c26]
   try simp at c26
   obtain ⟨i, hi, hie, hga⟩ := getW_some c26
   have hE : encW s[i] = .agg [.int .i64 s[i].id, .int .i64 s[i].known, ints s[i].slips, ints s[i].mended, ints s[i].models, .int .i64 s[i].lo, .int .i64 s[i].hi] := rfl
   refine .rn [3,4,5,6] [7,8,9,10] ?_
   refine .split (t := 30) rfl (fun c30 => ?_) (fun c30 => ?_)
   ·rw [c30]
    try simp at c30
    refine .rn [7,8,9,10] [] ?_
    refine .done ?_
    refine .condS rfl (fun c34 => ?_) (fun c34 => ?_)
    ·try simp at c34
     have hn := getW_none c34
     refine .seq ?_
     refine .rn ?_
     refine .ret ?_
     refine ⟨_, _, zz4,zz4, ?_⟩
     simp [kinR, KinR.enc, c13, hga, hn, zW, c30]
    ·try simp at c34
     obtain ⟨j, hj, hje, hgb⟩ := getW_some c34
     have hE2 : encW s[j] = .agg [.int .i64 s[j].id, .int .i64 s[j].known, ints s[j].slips, ints s[j].mended, ints s[j].models, .int .i64 s[j].lo, .int .i64 s[j].hi] := rfl
     refine .skip ?_
     refine .seq ?_
     refine .seq ?_
     refine .rn ?_
     refine .condS rfl (fun c38 => ?_) (fun c38 => ?_)
     ·try simp at c38
      exact absurd c38 c30
     ·try simp at c38
      refine .skip ?_
      refine .seq ?_
      refine .drawn (ms := [0,1,0,7,15,0,32,0,224,31,1023,2047]) (W := [9]) (items := [.op 0, .op 1, .op 2, .op 3, .op 4, .op 5, .op 6, .op 7, .op 8, .op 9, .ck 6, .op 10, .op 11]) rfl zz0 zz0 zz0 ?_
      refine .rd rfl rfl (by decide) rfl (by decide) zz1 ?_   -- 0
      refine .rd rfl rfl (by decide) rfl (by decide) zz1 ?_   -- 1
      refine .rd rfl rfl (by decide) rfl (by decide) zz1 ?_   -- 2
      refine .rd rfl rfl (by decide) rfl (by decide) zz1 ?_   -- 3
      refine .rd rfl rfl (by decide) rfl (by decide) zz1 ?_   -- 4
      refine .rd rfl rfl (by decide) rfl (by decide) zz1 ?_   -- 5
      refine .rd rfl rfl (by decide) rfl (by decide) zz1 ?_   -- 6
      refine .rd rfl rfl (by decide) rfl (by decide) zz1 ?_   -- 7
      refine .rd rfl rfl (by decide) rfl (by decide) zz1 ?_   -- 8
      refine .wr rfl rfl (by decide) (.stor (todo' := [6]) rfl rfl rfl rfl zz1 rfl (⟨⟨by decide +kernel, _, _, rfl, zz1⟩, trivial⟩) ?_)   -- 9
      refine .ck rfl zz0 ?_   -- 6
      refine .rd rfl rfl (by decide) rfl (by decide) zz1 ?_   -- 10
      refine .rd rfl rfl (by decide) rfl (by decide) zz1 ?_   -- 11
      refine .done ?_
      refine .ret ?_
      refine ⟨_, _, zz4,zz4, ?_⟩
      simp [kinR, KinR.enc, c13, hga, hgb, c30, hE, hE2]
   ·rw [c30]
    try simp at c30
    refine .rn [7,8,9,10] [] ?_
    refine .done ?_
    refine .condF rfl ?_
    refine .skip ?_
    refine .seq ?_
    refine .seq ?_
    refine .rn ?_
    refine .condS rfl (fun c38 => ?_) (fun c38 => ?_)
    ·try simp at c38
     refine .seq ?_
     refine .rn ?_
     refine .ret ?_
     refine ⟨_, _, zz4,zz4, ?_⟩
     simp [kinR, KinR.enc, c13, hga, c30, hE]
    ·try simp at c38
def whyR : KinR → Int × Int × Int
 | .err e => (0,0, e)
 | .text c => (lastS c 0,0,0)
 | .of c p => ((whyP c p).1,(whyP c p).2,0)
theorem p28 (s : List Wit) (a b : Int) (hl : s.length < 4294967296) : VPure Tryz.prog 28 [encS s, .agg [.int .i64 a, .int .i64 b]] fun r => r = .tup [.int .i64 (whyR (kinR s a b)).1, .int .i64 (whyR (kinR s a b)).2.1, .int .i64 (whyR (kinR s a b)).2.2] := by
 refine .of_body Tryz.func28 rfl rfl ?_
 rcases hk : kinR s a b with e | c | ⟨c, p⟩
 ·
  have he := kinR_err hk
  have hp100 := p100 s a b hl
  rw [hk] at hp100
  simp only [KinR.enc] at hp100
  refine .seq ?_
  refine .rn ?_
  refine .seq ?_
  refine .regionL [0,1,2,3,4,5,6,7,8,9,10] rfl zz0 ?_
  refine .rn [0,1] [2,3,4,5,6,7,8,9,10] ?_
  refine .step rfl rfl (.pure rfl rfl rfl Tryz.call100 (by decide) (hp100) (by first | rfl | simp [*]) ?_)
  rintro _ rfl
  refine .rn [3,4,5,6,7,8,9,10] [] ?_
  refine .done ?_
  refine .seq ?_
  refine .seq ?_
  refine .rn ?_
  refine .condS rfl (fun c20 => ?_) (fun c20 => ?_)
  ·try simp at c20
   refine .seq ?_
   refine .rn ?_
   refine .ret ?_
   refine ⟨_, _, zz4,zz4, ?_⟩
   simp [whyR, tup2, *]
  ·try simp at c20
   exact absurd c20 he
 ·
  obtain ⟨hc0, hg, -⟩ := kinR_text hk
  have hlen := checkS_lens hc0 c (getW_mem hg).1
  have hp100 := p100 s a b hl
  rw [hk] at hp100
  simp only [KinR.enc] at hp100
  have hwhy := p101a c hlen.2.2
  refine .seq ?_
  refine .rn ?_
  refine .seq ?_
  refine .regionL [0,1,2,3,4,5,6,7,8,9,10] rfl zz0 ?_
  refine .rn [0,1] [2,3,4,5,6,7,8,9,10] ?_
  refine .step rfl rfl (.pure rfl rfl rfl Tryz.call100 (by decide) (hp100) (by first | rfl | simp [*]) ?_)
  rintro _ rfl
  refine .rn [3,4,5,6,7,8,9,10] [] ?_
  refine .done ?_
  refine .seq ?_
  refine .seq ?_
  refine .rn ?_
  refine .condS rfl (fun c20 => ?_) (fun c20 => ?_)
  ·try simp at c20
  ·try simp at c20
   refine .skip ?_
   refine .seq ?_
   refine .regionL [0,1,2,3,4,5,6,7] rfl zz0 ?_
   refine .rn [0,1] [2,3,4,5,6,7] ?_
   refine .step rfl rfl (.pure rfl rfl rfl Tryz.call101 (by decide) (hwhy) (by first | rfl | simp [*]) ?_)
   rintro _ rfl
   refine .rn [3,4,5,6,7] [] ?_
   refine .done ?_
   refine .seq ?_
   refine .rn ?_
   refine .ret ?_
   refine ⟨_, _, zz4,zz4, ?_⟩
   simp [whyR, tup2, *]
 ·
  obtain ⟨hc0, hg, -, hg2⟩ := kinR_of hk
  have hlen := checkS_lens hc0 c (getW_mem hg).1
  have hlen2 := checkS_lens hc0 p (getW_mem hg2).1
  have hp100 := p100 s a b hl
  rw [hk] at hp100
  simp only [KinR.enc] at hp100
  have hwhy := p101b c p hlen.1 hlen.2.1 hlen.2.2 hlen2.1
  refine .seq ?_
  refine .rn ?_
  refine .seq ?_
  refine .regionL [0,1,2,3,4,5,6,7,8,9,10] rfl zz0 ?_
  refine .rn [0,1] [2,3,4,5,6,7,8,9,10] ?_
  refine .step rfl rfl (.pure rfl rfl rfl Tryz.call100 (by decide) (hp100) (by first | rfl | simp [*]) ?_)
  rintro _ rfl
  refine .rn [3,4,5,6,7,8,9,10] [] ?_
  refine .done ?_
  refine .seq ?_
  refine .seq ?_
  refine .rn ?_
  refine .condS rfl (fun c20 => ?_) (fun c20 => ?_)
  ·try simp at c20
  ·try simp at c20
   refine .skip ?_
   refine .seq ?_
   refine .regionL [0,1,2,3,4,5,6,7] rfl zz0 ?_
   refine .rn [0,1] [2,3,4,5,6,7] ?_
   refine .step rfl rfl (.pure rfl rfl rfl Tryz.call101 (by decide) (hwhy) (by first | rfl | simp [*]) ?_)
   rintro _ rfl
   refine .rn [3,4,5,6,7] [] ?_
   refine .done ?_
   refine .seq ?_
   refine .rn ?_
   refine .ret ?_
   refine ⟨_, _, zz4,zz4, ?_⟩
   simp [whyR, tup2, *]
def canR (k : KinR) : Bool := match k with
 | .err _ => false
 | k => (whyR k).1 == 0
theorem p27 (s : List Wit) (a b : Int) (hl : s.length < 4294967296) : VPure Tryz.prog 27 [encS s, .agg [.int .i64 a, .int .i64 b]] fun r => r = .tup [.bool (canR (kinR s a b)), .int .i64 (whyR (kinR s a b)).2.2] := by
 refine .of_body Tryz.func27 rfl rfl ?_
 rcases hk : kinR s a b with e | c | ⟨c, p⟩
 ·
  have he := kinR_err hk
  have hp100 := p100 s a b hl
  rw [hk] at hp100
  simp only [KinR.enc] at hp100
  refine .seq ?_
  refine .rn ?_
  refine .seq ?_
  refine .regionL [0,1,2,3,4,5,6,7,8,9,10] rfl zz0 ?_
  refine .rn [0,1] [2,3,4,5,6,7,8,9,10] ?_
  refine .step rfl rfl (.pure rfl rfl rfl Tryz.call100 (by decide) (hp100) (by first | rfl | simp [*]) ?_)
  rintro _ rfl
  refine .rn [3,4,5,6,7,8,9,10] [] ?_
  refine .done ?_
  refine .seq ?_
  refine .seq ?_
  refine .rn ?_
  refine .condS rfl (fun c19 => ?_) (fun c19 => ?_)
  ·try simp at c19
   refine .seq ?_
   refine .rn ?_
   refine .ret ?_
   refine ⟨_, _, zz4,zz4, ?_⟩
   simp [whyR, canR, tup2, *]
  ·try simp at c19
   exact absurd c19 he
 ·
  obtain ⟨hc0, hg, -⟩ := kinR_text hk
  have hlen := checkS_lens hc0 c (getW_mem hg).1
  have hp100 := p100 s a b hl
  rw [hk] at hp100
  simp only [KinR.enc] at hp100
  have hwhy := p101a c hlen.2.2
  refine .seq ?_
  refine .rn ?_
  refine .seq ?_
  refine .regionL [0,1,2,3,4,5,6,7,8,9,10] rfl zz0 ?_
  refine .rn [0,1] [2,3,4,5,6,7,8,9,10] ?_
  refine .step rfl rfl (.pure rfl rfl rfl Tryz.call100 (by decide) (hp100) (by first | rfl | simp [*]) ?_)
  rintro _ rfl
  refine .rn [3,4,5,6,7,8,9,10] [] ?_
  refine .done ?_
  refine .seq ?_
  refine .seq ?_
  refine .rn ?_
  refine .condS rfl (fun c19 => ?_) (fun c19 => ?_)
  ·try simp at c19
  ·try simp at c19
   refine .skip ?_
   refine .seq ?_
   refine .regionL [0,1,2,3,4,5,6,7] rfl zz0 ?_
   refine .rn [0,1] [2,3,4,5,6,7] ?_
   refine .step rfl rfl (.pure rfl rfl rfl Tryz.call101 (by decide) (hwhy) (by first | rfl | simp [*]) ?_)
   rintro _ rfl
   refine .rn [3,4,5,6,7] [] ?_
   refine .done ?_
   refine .seq ?_
   refine .rn ?_
   refine .ret ?_
   refine ⟨_, _, zz4,zz4, ?_⟩
   simp [whyR, canR, tup2, *]
 ·
  obtain ⟨hc0, hg, -, hg2⟩ := kinR_of hk
  have hlen := checkS_lens hc0 c (getW_mem hg).1
  have hlen2 := checkS_lens hc0 p (getW_mem hg2).1
  have hp100 := p100 s a b hl
  rw [hk] at hp100
  simp only [KinR.enc] at hp100
  have hwhy := p101b c p hlen.1 hlen.2.1 hlen.2.2 hlen2.1
  refine .seq ?_
  refine .rn ?_
  refine .seq ?_
  refine .regionL [0,1,2,3,4,5,6,7,8,9,10] rfl zz0 ?_
  refine .rn [0,1] [2,3,4,5,6,7,8,9,10] ?_
  refine .step rfl rfl (.pure rfl rfl rfl Tryz.call100 (by decide) (hp100) (by first | rfl | simp [*]) ?_)
  rintro _ rfl
  refine .rn [3,4,5,6,7,8,9,10] [] ?_
  refine .done ?_
  refine .seq ?_
  refine .seq ?_
  refine .rn ?_
  refine .condS rfl (fun c19 => ?_) (fun c19 => ?_)
  ·try simp at c19
  ·try simp at c19
   refine .skip ?_
   refine .seq ?_
   refine .regionL [0,1,2,3,4,5,6,7] rfl zz0 ?_
   refine .rn [0,1] [2,3,4,5,6,7] ?_
   refine .step rfl rfl (.pure rfl rfl rfl Tryz.call101 (by decide) (hwhy) (by first | rfl | simp [*]) ?_)
   rintro _ rfl
   refine .rn [3,4,5,6,7] [] ?_
   refine .done ?_
   refine .seq ?_
   refine .rn ?_
   refine .ret ?_
   refine ⟨_, _, zz4,zz4, ?_⟩
   simp [whyR, canR, tup2, *]
end Go.Am.Ds
end

section
namespace Go.Am.Ds
open Go Go.Am Go.Proofs
set_option maxRecDepth 100000
set_option maxHeartbeats 4000000
set_option linter.unusedSimpArgs false
set_option linter.unusedVariables false
attribute [local simp] vrun vwanted vyielded vop vopA vputAll VHeap.back hidI hidF backL bm Nat.testBit_eq_decide_div_mod_eq veval vevals vparts vO vbuiltin vlen vappend velems vcopy vmakeSlice vbuildSlice valloc vbox vmakeMap vload vpartT vpart vstore vfieldAddr vfield vindexAddr vindex vextract vslice vsliceZ vbounds vbnd zeroO vidx vlookup vmget vmapUpdate vdelete vclear vnilq vnilp vnils vbin vsc vsc1 vscs vscl abinOp aint ashift aunOp aconvert amaxs amax2 pvcV pvc pvcs tput tget vargs VHeap.get VHeap.alloc VHeap.put VHeap.drop VHeap.empty vlook vput vdrop psplice pfill preps chunk List.range List.range.loop vresults vresult vresultV frz frzL PV.isF PV.allF PV.scal PV.allS retP subT allFT PV.one PV.ids PV.idsL dropL beq_eq ble_dec blt_dec
attribute [local simp] zW tup2
def idsS (s : List Wit) : List Int := (s.map Wit.id).mergeSort fun x y => decide (x ≤ y)
def ariS (c p : Wit) : List Int := c.slips.filter fun n => !decide (n ∈ setK [p.slips])
def stepP (s : List Wit) (c : Wit) (id : Int) : Option (Int × Int) := match getW s id with
 | none => none
 | some p => if (whyP c p).1 = 0 then some (id, ((ariS c p).length : Int)) else none
def headP (c : Wit) : List (Int × Int) := if lastS c 0 = 0 then [(0,(c.slips.length : Int))] else []
def parS (s : List Wit) (c : Wit) : List (Int × Int) := headP c ++ (idsS s).filterMap (stepP s c)
theorem take_succ_fm {α β : Type} (f : α → Option β) (l : List α) (i : Nat) (h : i < l.length) : (l.take (i + 1)).filterMap f = (l.take i).filterMap f ++ (f l[i]).toList := by
 rw [List.take_succ_eq_append_getElem h, List.filterMap_append]
 simp only [List.filterMap_cons, List.filterMap_nil]
 cases f l[i] <;> rfl
theorem idsS_mem {s : List Wit} {id : Int} : id ∈ idsS s ↔ ∃ w ∈ s, w.id = id := by
 unfold idsS
 rw [(List.mergeSort_perm _ _).mem_iff, List.mem_map]
theorem idsS_len (s : List Wit) : (idsS s).length = s.length := by unfold idsS; simp
theorem find_ids {s : List Wit} {id : Int} (h : id ∈ idsS s) : 0 ≤ findI s id := by
 obtain ⟨w, h1, h2⟩ := idsS_mem.1 h
 rcases idx_find (fun w : Wit => decide (w.id = id)) s 0 with ⟨_, h3⟩ | ⟨i, _, h3, _⟩
 ·have := List.find?_eq_none.1 h3 w h1
  simp [h2] at this
 ·unfold findI; rw [h3]; omega
theorem p99' (s : List Wit) (hl : s.length < 4294967296) : VPure Tryz.prog 99 [encS s] fun r => r = ints (idsS s) := p99 s hl
theorem p109 (c p : Wit) (h1 : c.slips.length < 4294967296) (h2 : p.slips.length < 4294967296) : VPure Tryz.prog 109 [encW c, .vp (encW p).cells] fun r => r = ints (ariS c p) := by
 rcases Nat.eq_zero_or_pos c.slips.length with h | h
 ·have h0 := List.eq_nil_of_length_eq_zero h
  have := p109e c p h2 h0
  unfold ariS
  rw [h0]
  exact this
 ·exact p109n c p h1 h2 h
def modL (s : List Wit) (child : Int) : List Int := if checkS s = 0 then match getW s child with
 | some c => (parS s c).map (·.1)
 | none => [] else []
def modE (s : List Wit) (child : Int) : Int := if checkS s = 0 then match getW s child with
 | some _ => 0
 | none => 5 else checkS s
def outP (s : List Wit) (c : Wit) (k : Nat) : List Int := (headP c ++ ((idsS s).take k).filterMap (stepP s c)).map (·.1)
theorem outP_zero (s : List Wit) (c : Wit) : outP s c 0 = (headP c).map (·.1) := by simp [outP]
theorem outP_succ (s : List Wit) (c : Wit) (k : Nat) (h : k < (idsS s).length) : outP s c (k + 1) = outP s c k ++ ((stepP s c (idsS s)[k]).toList.map (·.1)) := by
 simp only [outP, take_succ_fm _ _ _ h, List.map_append, List.append_assoc]
theorem outP_len (s : List Wit) (c : Wit) (k : Nat) : (outP s c k).length ≤ k + 1 := by
 have h1 : (((idsS s).take k).filterMap (stepP s c)).length ≤ k := Nat.le_trans (List.length_filterMap_le _ _) (by simp; omega)
 have h2 : (headP c).length ≤ 1 := by unfold headP; split <;> simp
 simp [outP]; omega
theorem outP_all (s : List Wit) (c : Wit) : outP s c (idsS s).length = (parS s c).map (·.1) := by simp [outP, parS]
theorem p30 (s : List Wit) (child : Int) (hl : s.length < 4294967296) : VPure Tryz.prog 30 [encS s, .int .i64 child] fun r => Soft r (.tup [ints (modL s child), .int .i64 (modE s child)]) := by
 refine .of_body Tryz.func30 rfl rfl ?_
 refine .seq ?_
 refine .rn ?_
 refine .seq ?_
 refine .seq ?_
 refine .regionL [0,1,2] rfl zz0 ?_
 refine .rn [0] [1,2] ?_
 refine .step rfl rfl (.pure rfl rfl rfl Tryz.call35 (by decide) (p35 s hl) (by first | rfl | simp [*]) ?_)
 rintro _ rfl
 refine .rn [2] [] ?_
 refine .done ?_
 refine .seq ?_
 refine .rn ?_
 refine .condS rfl (fun c13 => ?_) (fun c13 => ?_)
 ·try simp at c13
  refine .seq ?_
  refine .rn ?_
  refine .ret ?_
  refine ⟨_, _, zz4,zz4, ?_⟩
  simp [modL, modE, c13]
  exact soft_tup (AltL.cons .sl0v (AltL.cons (.same _ rfl) AltL.nil))
 ·try simp at c13
  have hck := checkS_lens c13
  refine .skip ?_
  refine .seq ?_
  refine .regionL [0,1,2,3] rfl zz0 ?_
  refine .rn [0,1] [2,3] ?_
  refine .step rfl rfl (.pure rfl rfl rfl Tryz.call105 (by decide) (p105' s child hl) (by first | rfl | simp [*]) ?_)
  rintro _ rfl
  refine .rn [3] [] ?_
  refine .done ?_
  refine .seq ?_
  refine .seq ?_
  refine .rn ?_
  refine .condS rfl (fun c19 => ?_) (fun c19 => ?_)
  ·try simp at c19
   have hn := getW_none c19
   refine .seq ?_
   refine .rn ?_
   refine .ret ?_
   refine ⟨_, _, zz4,zz4, ?_⟩
   simp [modL, modE, c13, hn]
   exact soft_tup (AltL.cons .sl0v (AltL.cons (.same _ rfl) AltL.nil))
  ·try simp at c19
   obtain ⟨i, hi, hie, hga⟩ := getW_some c19
   obtain ⟨hw1, hw2, hw3⟩ := hck s[i] (List.getElem_mem hi)
   have hE : encW s[i] = .agg [.int .i64 s[i].id, .int .i64 s[i].known, ints s[i].slips, ints s[i].mended, ints s[i].models, .int .i64 s[i].lo, .int .i64 s[i].hi] := rfl
   refine .skip ?_
   refine .seq ?_
   refine .rn ?_
   refine .seq ?_
   refine .seq ?_
   refine .drawn (ms := [0,0,2,0,14,30,63]) (W := [6]) (items := [.op 0, .op 1, .op 2, .op 3, .op 4, .op 5, .op 6]) rfl zz0 zz0 zz0 ?_
   refine .rd rfl rfl (by decide) rfl (by decide) zz1 ?_   -- 0
   refine .rd rfl rfl (by decide) rfl (by decide) zz1 ?_   -- 1
   refine .rd rfl rfl (by decide) rfl (by decide) zz1 ?_   -- 2
   refine .rd rfl rfl (by decide) rfl (by decide) zz1 ?_   -- 3
   refine .rd rfl rfl (by decide) rfl (by decide) zz1 ?_   -- 4
   refine .rd rfl rfl (by decide) rfl (by decide) zz1 ?_   -- 5
   refine .wr rfl rfl (by decide) (.pure rfl rfl rfl Tryz.call106 (by decide) (p106 s s[i]) (by first | rfl | simp [*]) ?_)
   rintro _ rfl
   refine .done ?_
   refine .block ?_
   refine .rangeFunc rfl Tryz.call166 Tryz.func166 rfl rfl rfl ?_
   refine .seq ?_
   refine .seq ?_
   refine .regionL [0,1,2,3,4,5,6] rfl zz0 ?_
   refine .rn [0] [1,2,3,4,5,6] ?_
   refine .step rfl rfl (.pure rfl rfl rfl Tryz.call101 (by decide) (p101a s[i] hw3) (by first | rfl | simp [*]) ?_)
   rintro _ rfl
   refine .rn [2,3,4,5,6] [] ?_
   refine .done ?_
   refine .seq ?_
   refine .regionL [0,1,2,3,4,5,6,7,8,9] rfl zz0 ?_
   refine .rn [0,1,2] [3,4,5,6,7,8,9] ?_
   refine .split (t := 18) rfl (fun c18 => ?_) (fun c18 => ?_)
   ·rw [c18]
    try simp at c18
    have hO := outP_zero s s[i]
    rw [headP, if_pos c18] at hO
    refine .rn [3,4,5,6] [7,8,9] ?_
    refine .step rfl rfl (.yield rfl rfl rfl rfl rfl (by decide) rfl ?_)
    refine .rn ?_
    refine .block ?_
    refine .rn ?_
    change VOps _ _ _ _ _ _ _ _
    refine .rn [8,9] [] ?_
    refine .done ?_
    refine .condF rfl ?_
    refine .skip ?_
    refine .seq ?_
    refine .regionL [0,1,2,3] rfl zz0 ?_
    refine .rn [0] [1,2,3] ?_
    refine .step rfl rfl (.pure rfl rfl rfl Tryz.call99 (by decide) (p99' s hl) (by first | rfl | simp [*]) ?_)
    rintro _ rfl
    refine .rn [2,3] [] ?_
    refine .done ?_
    refine .block ?_
    refine .loopS (fun k : Nat => ([(0, .yld 2),(1, .vp (encW s[i]).cells),(2, .vp (encS s).cells),(27, ints (idsS s)),(28, .int .i64 (idsS s).length),(29, .int .i64 k)], ⟨4,[(3, .grow 1 ((outP s s[i] k).map (.int .i64))),(2, .loop 34 #[27,28] _ _ [(8, .ptr 1 0)] none),(1, .box [.grow 3 (outP s s[i] k).length true])]⟩)) (fun k => k ≤ (idsS s).length) (fun k => (idsS s).length - k) 0 (by simp) (.mk [] [(3,4)] zz8 zz9 rfl rfl rfl) ?_
    rintro k hk
    simp only at hk ⊢
    have hol := outP_len s s[i] k
    refine .seq ?_
    refine .rn ?_
    refine .seq ?_
    refine .condS rfl (fun c30 => ?_) (fun c30 => ?_)
    ·try simp at c30
     have hw2' : IntKind.i64.wrap ((k : Int) + 1) = (k : Int) + 1 := by have := idsS_len s; exact wrap64 (by omega) (by omega)
     have hmem := find_ids (List.getElem_mem c30)
     obtain ⟨j, hj, hje, hgb⟩ := getW_some hmem
     obtain ⟨hv1, hv2, hv3⟩ := hck s[j] (List.getElem_mem hj)
     have hE2 : encW s[j] = .agg [.int .i64 s[j].id, .int .i64 s[j].known, ints s[j].slips, ints s[j].mended, ints s[j].models, .int .i64 s[j].lo, .int .i64 s[j].hi] := rfl
     have hS := outP_succ s s[i] k c30
     have hb : (outP s s[i] k).length + 1 ≤ 4294967296 := by have := idsS_len s; omega
     refine .skip ?_
     refine .seq ?_
     refine .block ?_
     refine .seq ?_
     refine .rn ?_
     refine .seq ?_
     refine .drawnF (ms := [0,1,0,0,12,31,63,0,255]) (W := [4,8]) (As := [7]) (items := [.op 0, .op 1, .op 2, .op 3, .op 7, .op 4, .ck 1, .op 5, .op 6, .op 8]) rfl zz0 zz0 zz0 zz0 (by decide) ?_
     refine .rd rfl rfl (by decide) (by decide) (by decide) rfl (by decide) zz1 ?_   -- 0
     refine .rd rfl rfl (by decide) (by decide) (by decide) rfl (by decide) zz1 ?_   -- 1
     refine .rd rfl rfl (by decide) (by decide) (by decide) rfl (by decide) zz1 ?_   -- 2
     refine .rd rfl rfl (by decide) (by decide) (by decide) rfl (by decide) zz1 ?_   -- 3
     refine .al rfl rfl (by decide) (by decide) (by decide) (by decide) zz1 ?_   -- 7
     refine .wr rfl rfl (by decide) (.pure rfl rfl rfl Tryz.call105 (by decide) (p105' s _ hl) (by first | rfl | simp [*]) ?_)
     rintro _ rfl
     refine .ck rfl zz0 ?_   -- 1
     refine .rd rfl rfl (by decide) (by decide) (by decide) rfl (by decide) zz1 ?_   -- 5
     refine .rd rfl rfl (by decide) (by decide) (by decide) rfl (by decide) zz1 ?_   -- 6
     refine .wr rfl rfl (by decide) (.vop zz1 (by decide) ?_)   -- 8
     refine .done ?_
     refine .seq ?_
     refine .seq ?_
     refine .regionL [0,1,2,3,4,5,6] rfl zz0 ?_
     refine .rn [0] [1,2,3,4,5,6] ?_
     refine .step rfl rfl (.borrow rfl rfl rfl Tryz.call101 (by decide) (by first | (simp <;> rfl) | (simp [*] <;> rfl) | (simp [*]; done)) (p101b s[i] s[j] hw1 hw2 hw3 hv1) (by rintro _ rfl <;> simp) ?_)
     rintro _ rfl
     refine .rn [2,3,4,5,6] [] ?_
     refine .done ?_
     refine .seq ?_
     refine .rn ?_
     refine .condS rfl (fun c46 => ?_) (fun c46 => ?_)
     ·try simp at c46
      have hS2 : outP s s[i] (k + 1) = outP s s[i] k := by rw [hS, stepP, hgb]; simp [c46]
      clear hS
      refine .exit ?_
      refine .rn ?_
      refine ⟨k + 1, c30,zz5,(.mk [] [] zz8 zz9 rfl rfl rfl)⟩
     ·try simp at c46
      have hS2 : outP s s[i] (k + 1) = outP s s[i] k ++ [(idsS s)[k]] := by rw [hS, stepP, hgb]; simp [c46]
      clear hS
      refine .skip ?_
      refine .seq ?_
      refine .regionL [0,1,2,3,4,5,6] rfl zz0 ?_
      refine .rn [0,1,2] [3,4,5,6] ?_
      refine .step rfl rfl (.take rfl rfl rfl Tryz.call109 (by decide) (by first | (simp <;> rfl) | (simp [*] <;> rfl) | (simp [*]; done)) (p109 s[i] s[j] hw1 hv1) ?_)
      rintro _ rfl
      refine .rn [4] [5,6] ?_
      refine .step rfl rfl (.yield rfl rfl rfl rfl rfl (by decide) rfl ?_)
      refine .rn ?_
      refine .block ?_
      refine .rn ?_
      change VOps _ _ _ _ _ _ _ _
      refine .rn [6] [] ?_
      refine .done ?_
      refine .condF rfl ?_
      refine .skip ?_
      refine .rn ?_
      refine ⟨k + 1, c30,zz5,(.mk [] [(3,6)] zz8 zz9 rfl rfl rfl)⟩
    ·try simp at c30
     have hkn : k = (idsS s).length := by omega
     refine .exit ?_
     change rfEnd _ _ _ _
     refine rf_none rfl ?_
     refine .seq ?_
     refine .rn ?_
     refine .ret ?_
     refine ⟨_, _, zz4,zz4, ?_⟩
     have hO2 := outP_all s s[i]
     have e1 : modL s child = outP s s[i] (idsS s).length := by simp only [modL, if_pos c13, hga, hO2]
     have e2 : modE s child = 0 := by simp only [modE, if_pos c13, hga]
     rw [e1, e2]
     refine soft_rfl ?_
     rfl
   ·rw [c18]
    try simp at c18
    have hO := outP_zero s s[i]
    rw [headP, if_neg c18] at hO
    refine .rn [3,4,5,6,7,8,9] [] ?_
    refine .done ?_
    refine .condF rfl ?_
    refine .skip ?_
    refine .seq ?_
    refine .regionL [0,1,2,3] rfl zz0 ?_
    refine .rn [0] [1,2,3] ?_
    refine .step rfl rfl (.pure rfl rfl rfl Tryz.call99 (by decide) (p99' s hl) (by first | rfl | simp [*]) ?_)
    rintro _ rfl
    refine .rn [2,3] [] ?_
    refine .done ?_
    refine .block ?_
    refine .loopS (fun k : Nat => ([(0, .yld 2),(1, .vp (encW s[i]).cells),(2, .vp (encS s).cells),(27, ints (idsS s)),(28, .int .i64 (idsS s).length),(29, .int .i64 k)], ⟨4,[(3, .grow 1 ((outP s s[i] k).map (.int .i64))),(2, .loop 34 #[27,28] _ _ [(8, .ptr 1 0)] none),(1, .box [.grow 3 (outP s s[i] k).length true])]⟩)) (fun k => k ≤ (idsS s).length) (fun k => (idsS s).length - k) 0 (by simp) (.mk [] [] zz8 zz9 rfl rfl rfl) ?_
    rintro k hk
    simp only at hk ⊢
    have hol := outP_len s s[i] k
    refine .seq ?_
    refine .rn ?_
    refine .seq ?_
    refine .condS rfl (fun c30 => ?_) (fun c30 => ?_)
    ·try simp at c30
     have hw2' : IntKind.i64.wrap ((k : Int) + 1) = (k : Int) + 1 := by have := idsS_len s; exact wrap64 (by omega) (by omega)
     have hmem := find_ids (List.getElem_mem c30)
     obtain ⟨j, hj, hje, hgb⟩ := getW_some hmem
     obtain ⟨hv1, hv2, hv3⟩ := hck s[j] (List.getElem_mem hj)
     have hE2 : encW s[j] = .agg [.int .i64 s[j].id, .int .i64 s[j].known, ints s[j].slips, ints s[j].mended, ints s[j].models, .int .i64 s[j].lo, .int .i64 s[j].hi] := rfl
     have hS := outP_succ s s[i] k c30
     have hb : (outP s s[i] k).length + 1 ≤ 4294967296 := by have := idsS_len s; omega
     refine .skip ?_
     refine .seq ?_
     refine .block ?_
     refine .seq ?_
     refine .rn ?_
     refine .seq ?_
     refine .drawnF (ms := [0,1,0,0,12,31,63,0,255]) (W := [4,8]) (As := [7]) (items := [.op 0, .op 1, .op 2, .op 3, .op 7, .op 4, .ck 1, .op 5, .op 6, .op 8]) rfl zz0 zz0 zz0 zz0 (by decide) ?_
     refine .rd rfl rfl (by decide) (by decide) (by decide) rfl (by decide) zz1 ?_   -- 0
     refine .rd rfl rfl (by decide) (by decide) (by decide) rfl (by decide) zz1 ?_   -- 1
     refine .rd rfl rfl (by decide) (by decide) (by decide) rfl (by decide) zz1 ?_   -- 2
     refine .rd rfl rfl (by decide) (by decide) (by decide) rfl (by decide) zz1 ?_   -- 3
     refine .al rfl rfl (by decide) (by decide) (by decide) (by decide) zz1 ?_   -- 7
     refine .wr rfl rfl (by decide) (.pure rfl rfl rfl Tryz.call105 (by decide) (p105' s _ hl) (by first | rfl | simp [*]) ?_)
     rintro _ rfl
     refine .ck rfl zz0 ?_   -- 1
     refine .rd rfl rfl (by decide) (by decide) (by decide) rfl (by decide) zz1 ?_   -- 5
     refine .rd rfl rfl (by decide) (by decide) (by decide) rfl (by decide) zz1 ?_   -- 6
     refine .wr rfl rfl (by decide) (.vop zz1 (by decide) ?_)   -- 8
     refine .done ?_
     refine .seq ?_
     refine .seq ?_
     refine .regionL [0,1,2,3,4,5,6] rfl zz0 ?_
     refine .rn [0] [1,2,3,4,5,6] ?_
     refine .step rfl rfl (.borrow rfl rfl rfl Tryz.call101 (by decide) (by first | (simp <;> rfl) | (simp [*] <;> rfl) | (simp [*]; done)) (p101b s[i] s[j] hw1 hw2 hw3 hv1) (by rintro _ rfl <;> simp) ?_)
     rintro _ rfl
     refine .rn [2,3,4,5,6] [] ?_
     refine .done ?_
     refine .seq ?_
     refine .rn ?_
     refine .condS rfl (fun c46 => ?_) (fun c46 => ?_)
     ·try simp at c46
      have hS2 : outP s s[i] (k + 1) = outP s s[i] k := by rw [hS, stepP, hgb]; simp [c46]
      clear hS
      refine .exit ?_
      refine .rn ?_
      refine ⟨k + 1, c30,zz5,(.mk [] [] zz8 zz9 rfl rfl rfl)⟩
     ·try simp at c46
      have hS2 : outP s s[i] (k + 1) = outP s s[i] k ++ [(idsS s)[k]] := by rw [hS, stepP, hgb]; simp [c46]
      clear hS
      refine .skip ?_
      refine .seq ?_
      refine .regionL [0,1,2,3,4,5,6] rfl zz0 ?_
      refine .rn [0,1,2] [3,4,5,6] ?_
      refine .step rfl rfl (.take rfl rfl rfl Tryz.call109 (by decide) (by first | (simp <;> rfl) | (simp [*] <;> rfl) | (simp [*]; done)) (p109 s[i] s[j] hw1 hv1) ?_)
      rintro _ rfl
      refine .rn [4] [5,6] ?_
      refine .step rfl rfl (.yield rfl rfl rfl rfl rfl (by decide) rfl ?_)
      refine .rn ?_
      refine .block ?_
      refine .rn ?_
      change VOps _ _ _ _ _ _ _ _
      refine .rn [6] [] ?_
      refine .done ?_
      refine .condF rfl ?_
      refine .skip ?_
      refine .rn ?_
      refine ⟨k + 1, c30,zz5,(.mk [] [(3,6)] zz8 zz9 rfl rfl rfl)⟩
    ·try simp at c30
     have hkn : k = (idsS s).length := by omega
     refine .exit ?_
     change rfEnd _ _ _ _
     refine rf_none rfl ?_
     refine .seq ?_
     refine .rn ?_
     refine .ret ?_
     refine ⟨_, _, zz4,zz4, ?_⟩
     have hO2 := outP_all s s[i]
     have e1 : modL s child = outP s s[i] (idsS s).length := by simp only [modL, if_pos c13, hga, hO2]
     have e2 : modE s child = 0 := by simp only [modE, if_pos c13, hga]
     rw [e1, e2]
     refine soft_rfl ?_
     rfl
theorem p30' (s : List Wit) (child : Int) (hl : s.length < 4294967296) : VPure Tryz.prog 30 [encS s, .int .i64 child] fun r => r = .tup [ints (modL s child), .int .i64 (modE s child)] := VPure.soft (p30 s child hl) rfl
end Go.Am.Ds
end
