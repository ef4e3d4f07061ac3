/-
 What is used in the proof of a statement (part DsX); no condition.
-/
import Derived.Test.YtnablaecbohhmaaGreatDsT
import Derived.Test.YtnablaecbohhmaaGreatVm2
import Derived.Test.YtnablaecbohhmaaGreatDsC
import Derived.Test.YtnablaecbohhmaaGreatDsG
import Derived.Test.YtnablaecbohhmaaGreatDsF
import Derived.Test.YtnablaecbohhmaaGreatDsS
set_option linter.all false
namespace Go.Am
open Go Go.Proofs
section
variable {P : Program} {N b : Nat} {vts : VTs} {vh : VHeap}
theorem VScr.rx {ops : Array Oper} {W todo : List Nat} {K : VTs → VHeap → Prop} {m : Nat} {r : List SItem} {o : Oper} {v : PV} (k : VScr P N b ops W K r (bif selfFree o then m :: todoF ops todo o.dst else todoF ops todo o.dst) (tput vts o.dst v) vh) (ho : ops[m]? = some o := by rfl) (hw : vwanted ops o vts = some true := by rfl) (hW : W.contains m = false := by decide) (hr : isR o.op = true := by rfl) (hd : dstOK N o.dst = true := by decide) (hv : vop P vts vh o.op = some (v, vh) := by simp [*] <;> first | exact ⟨rfl, rfl⟩ | exact rfl) : VScr P N b ops W K (.op m :: r) todo vts vh := .rd ho hw hW hr hd hv k
end
end Go.Am
section
namespace Go.Am
open Go Go.Proofs
theorem wrapu32 {x : Int} (h1 : 0 ≤ x) (h2 : x < 4294967296) : IntKind.u32.wrap x = x := by
 simp [IntKind.wrap, IntKind.bits, IntKind.signed]; omega

end Go.Am
end
section
namespace Go.Am.Ds
open Go Go.Am Go.Proofs
set_option maxRecDepth 100000
set_option maxHeartbeats 4000000
set_option linter.unusedSimpArgs false
set_option linter.unusedVariables false
attribute [local simp] vrun vwanted vyielded vop vopA vputAll VHeap.back hidI hidF backL bm Nat.testBit_eq_decide_div_mod_eq veval vevals vparts vO vbuiltin vlen vappend velems vcopy vmakeSlice vbuildSlice valloc vbox vmakeMap vload vpartT vpart vstore vfieldAddr vfield vindexAddr vindex vextract vslice vsliceZ vbounds vbnd zeroO vidx vlookup vmget vmapUpdate vdelete vclear vnilq vnilp vnils vbin vsc vsc1 vscs vscl abinOp aint ashift aunOp aconvert amaxs amax2 pvcV pvc pvcs tput tget vargs VHeap.get VHeap.alloc VHeap.put VHeap.drop VHeap.empty vlook vput vdrop psplice pfill preps chunk List.range List.range.loop vresults vresult vresultV frz frzL PV.isF PV.allF PV.scal PV.allS retP subT allFT PV.one PV.ids PV.idsL dropL beq_eq ble_dec blt_dec
attribute [local simp] zW tup2
def lowN (l : List Int) (n : Int) : Nat := match l with
 | [] => 0
 | a :: r => if a < n then lowN r n + 1 else 0
def putS (l : List Int) (n : Int) : List Int := if l[lowN l n]? = some n then l else l.take (lowN l n) ++ [n] ++ l.drop (lowN l n)
theorem lowN_drop (l : List Int) (n : Int) (i : Nat) (h : i < l.length) : lowN (l.drop i) n = if l[i] < n then lowN (l.drop (i + 1)) n + 1 else 0 := by
 rw [List.drop_eq_getElem_cons h]; rfl
theorem allSz_take_int (l : List Int) (k : Nat) : allSz 1 ((l.map (PV.int .i64)).take k) = true := allSz_take (allSz_int .i64 l)
theorem allSz_drop_int (l : List Int) (k : Nat) : allSz 1 ((l.map (PV.int .i64)).drop k) = true := allSz_drop (allSz_int .i64 l)
theorem allOne_take_int (l : List Int) (k : Nat) : allOne ((l.map (PV.int .i64)).take k) = true := by rw [← List.map_take]; exact allOne_int .i64 _
theorem allOne_drop_int (l : List Int) (k : Nat) : allOne ((l.map (PV.int .i64)).drop k) = true := by rw [← List.map_drop]; exact allOne_int .i64 _
theorem p104 (s : List Wit) (id : Int) (hl : s.length < 4294967296) : VPure Tryz.prog 104 [encS s, .int .i64 id] fun r => r = .int .i64 (findI s id) := by
 refine .of_body Tryz.func104 rfl rfl ?_
 refine .seq ?_
 refine .rn ?_
 refine .seq ?_
 refine .seq ?_
 refine .rn ?_
 refine .block ?_
 refine .loopS (fun i : Nat => ([(1, .int .i64 id),(2, .ptr 0 0),(5, .int .i64 i)], ⟨1,[(0, .box [.vec (s.map encW)])]⟩)) (fun i => i ≤ s.length ∧ idxF (fun w : Wit => decide (w.id = id)) i (s.drop i) = findI s id) (fun i => s.length - i) 0 ⟨by simp, rfl⟩ (.mk [] [] zz10 zz11 rfl rfl rfl) ?_
 rintro i ⟨hi, hr⟩
 simp only at hi hr ⊢
 refine .seq ?_
 refine .seq ?_
 refine .rn ?_
 refine .condS rfl (fun c10 => ?_) (fun c10 => ?_)
 ·try simp at c10
  have hw2 : IntKind.i64.wrap ((i : Int) + 1) = (i : Int) + 1 := wrap64 (by omega) (by omega)
  rw [idxF_drop _ s i c10] at hr
  have hE : encW s[i] = .agg [.int .i64 s[i].id, .int .i64 s[i].known, ints s[i].slips, ints s[i].mended, ints s[i].models, .int .i64 s[i].lo, .int .i64 s[i].hi] := rfl
  refine .skip ?_
  refine .seq ?_
  refine .block ?_
  refine .seq ?_
  refine .rn ?_
  refine .condS rfl (fun c20 => ?_) (fun c20 => ?_)
  ·try simp at c20
   refine .seq ?_
   refine .rn ?_
   refine .ret ?_
   refine ⟨_, _, zz4,zz4, ?_⟩
   rw [← hr, if_pos (by simp [c20])]
  ·try simp at c20
   refine .skip ?_
   refine .rn ?_
   refine ⟨i + 1, ⟨zz5, ?_⟩, zz5,(.mk [] [] zz10 zz11 rfl rfl rfl)⟩
   rw [← hr, if_neg (by simp [c20])]
 ·try simp at c10
  have : i = s.length := by omega
  refine .exit ?_
  refine .seq ?_
  refine .rn ?_
  refine .ret ?_
  refine ⟨_, _, zz4,zz4, ?_⟩
  rw [← hr, this, List.drop_length]; rfl
theorem p147 (l : List Int) (n : Int) (hl : l.length < 4294967295) : VPure Tryz.prog 147 [ints l, .int .i64 n] fun r => r = ints (putS l n) := by
 refine .of_body Tryz.func147 rfl rfl ?_
 refine .seq ?_
 refine .rn ?_
 refine .seq ?_
 refine .rn ?_
 refine .seq ?_
 refine .block ?_
 refine .loopS (fun i : Nat => ([(0, ints l),(1, .int .i64 n),(5, .int .i64 i)], VHeap.empty)) (fun i => i ≤ l.length ∧ i + lowN (l.drop i) n = lowN l n) (fun i => l.length - i) 0 ⟨by simp, by simp⟩ (.pure (by simp [*]) (by simp)) ?_
 rintro i ⟨hi, hr⟩
 simp only at hi hr ⊢
 refine .seq ?_
 refine .seq ?_
 refine .regionL [0,1,2,3,4,5,6,7,8,9,10,11] rfl zz0 ?_
 refine .rn [0,1,2,3,4] [5,6,7,8,9,10,11] ?_
 refine .split (t := 10) rfl (fun c10 => ?_) (fun c10 => ?_)
 ·try rw [c10]
  try simp at c10
  have hw2 : IntKind.i64.wrap ((i : Int) + 1) = (i : Int) + 1 := wrap64 (by omega) (by omega)
  rw [lowN_drop l n i c10] at hr
  refine .rn [5,6,7,8,9,10,11] [] ?_
  refine .done ?_
  refine .condS rfl (fun c17 => ?_) (fun c17 => ?_)
  ·try simp at c17
   refine .skip ?_
   refine .block ?_
   refine .rn ?_
   refine ⟨i + 1, ⟨zz5, ?_⟩, zz5, .pure (by simp [*]) (by simp)⟩
   rw [← hr, if_pos c17]; omega
  ·try simp at c17
   have hlow : lowN l n = i := by rw [← hr, if_neg (by omega)]; rfl
   have g1 := allSz_take_int l i
   have g2 := allSz_drop_int l i
   have g3 := allOne_take_int l i
   have g4 := allOne_drop_int l i
   have g5 : min i l.length = i := Nat.min_eq_left hi
   have g6 : i ≤ 4294967296 := by omega
   have g7 : i + 1 ≤ 4294967296 := by omega
   have g8 : i + 1 + (l.length - i) ≤ 4294967296 := by omega
   have g9 : allOne [PV.int .i64 n] = true := rfl
   have g20 : i + (l.length - i + 1) = i + 1 + (l.length - i) := by omega
   have g10 : List.take (l.length - i) (List.drop i (l.map (PV.int .i64))) = List.drop i (l.map (PV.int .i64)) := List.take_of_length_le (by simp)
   refine .exit ?_
   refine .seq ?_
   refine .seq ?_
   refine .regionL [0,1,2,3,4,5,6,7,8,9,10,11] rfl zz0 ?_
   refine .rn [0,1,2,3,4] [5,6,7,8,9,10,11] ?_
   refine .split (t := 24) rfl (fun c24 => ?_) (fun c24 => ?_)
   ·try rw [c24]
    try simp at c24
    refine .rn [5,6,7,8,9,10,11] [] ?_
    refine .done ?_
    refine .condS rfl (fun c31 => ?_) (fun c31 => ?_)
    ·try simp at c31
     refine .seq ?_
     refine .rn ?_
     refine .ret ?_
     refine ⟨_, _, zz4,zz4, ?_⟩
     have e : putS l n = l := by unfold putS; rw [hlow, if_pos (by rw [List.getElem?_eq_getElem c10, c31])]
     rw [e]
    ·try simp at c31
     refine .skip ?_
     refine .seq ?_
     refine .drawnF (ms := [0,0,0,6,15,0,32,127,0,0,768,2047,4095]) (W := [0,4,7,11]) (As := [6]) (items := [.op 1, .op 2, .op 3, .op 5, .op 6, .op 8, .op 9, .op 10, .op 0, .op 4, .op 7, .op 11, .op 12]) rfl zz0 zz0 zz0 zz0 (by decide) ?_
     refine .rd rfl rfl (by decide) (by decide) (by decide) rfl (by decide) zz1 ?_
     refine .rd rfl rfl (by decide) (by decide) (by decide) rfl (by decide) zz1 ?_
     refine .rd rfl rfl (by decide) (by decide) (by decide) rfl (by decide) zz1 ?_
     refine .rd rfl rfl (by decide) (by decide) (by decide) rfl (by decide) zz1 ?_
     refine .al rfl rfl (by decide) (by decide) (by decide) (by decide) zz1 ?_
     refine .rd rfl rfl (by decide) (by decide) (by decide) rfl (by decide) zz1 ?_
     refine .rd rfl rfl (by decide) (by decide) (by decide) rfl (by decide) zz1 ?_
     refine .rd rfl rfl (by decide) (by decide) (by decide) rfl (by decide) zz1 ?_
     refine .wr rfl rfl (by decide) (.vop zz1 (by decide) ?_)
     refine .wr rfl rfl (by decide) (.vop zz1 (by decide) ?_)
     refine .wr rfl rfl (by decide) (.vop zz1 (by decide) ?_)
     refine .wr rfl rfl (by decide) (.vop zz1 (by decide) ?_)
     refine .rd rfl rfl (by decide) (by decide) (by decide) rfl (by decide) zz1 ?_
     refine .done ?_
     refine .ret ?_
     refine ⟨_, _, zz4,(by simp [g5, g20] <;> rfl), ?_⟩
     have e : putS l n = l.take i ++ [n] ++ l.drop i := by unfold putS; rw [hlow, if_neg (by rw [List.getElem?_eq_getElem c10]; simpa using c31)]
     rw [e]; simp [ints]
   ·try rw [c24]
    try simp at c24
 ·try rw [c10]
  try simp at c10
  have hil : i = l.length := by omega
  have hlow : lowN l n = i := by rw [← hr, List.drop_of_length_le c10]; rfl
  subst hil
  have g1 := allSz_take_int l l.length
  have g2 := allSz_drop_int l l.length
  have g3 := allOne_take_int l l.length
  have g4 := allOne_drop_int l l.length
  have g6 : l.length ≤ 4294967296 := by omega
  have g7 : l.length + 1 ≤ 4294967296 := by omega
  have g8 : l.length + 1 + (l.length - l.length) ≤ 4294967296 := by omega
  have g9 : allOne [PV.int .i64 n] = true := rfl
  have g11 : List.drop l.length (l.map (PV.int .i64)) = [] := List.drop_of_length_le (by simp)
  have g12 : allSz 1 [] = true := rfl
  have g13 : allOne [] = true := rfl
  refine .rn [5,6,7,8,9,10,11] [] ?_
  refine .done ?_
  refine .condF rfl ?_
  refine .exit ?_
  refine .seq ?_
  refine .seq ?_
  refine .regionL [0,1,2,3,4,5,6,7,8,9,10,11] rfl zz0 ?_
  refine .rn [0,1,2,3,4] [5,6,7,8,9,10,11] ?_
  refine .split (t := 24) rfl (fun c24 => ?_) (fun c24 => ?_)
  ·try rw [c24]
   try simp at c24
  ·try rw [c24]
   try simp at c24
   refine .rn [5,6,7,8,9,10,11] [] ?_
   refine .done ?_
   refine .condF rfl ?_
   refine .skip ?_
   refine .seq ?_
   refine .drawnF (ms := [0,0,0,6,15,0,32,127,0,0,768,2047,4095]) (W := [0,4,7,11]) (As := [6]) (items := [.op 1, .op 2, .op 3, .op 5, .op 6, .op 8, .op 9, .op 10, .op 0, .op 4, .op 7, .op 11, .op 12]) rfl zz0 zz0 zz0 zz0 (by decide) ?_
   refine .rd rfl rfl (by decide) (by decide) (by decide) rfl (by decide) zz1 ?_
   refine .rd rfl rfl (by decide) (by decide) (by decide) rfl (by decide) zz1 ?_
   refine .rd rfl rfl (by decide) (by decide) (by decide) rfl (by decide) zz1 ?_
   refine .rd rfl rfl (by decide) (by decide) (by decide) rfl (by decide) zz1 ?_
   refine .al rfl rfl (by decide) (by decide) (by decide) (by decide) zz1 ?_
   refine .rd rfl rfl (by decide) (by decide) (by decide) rfl (by decide) zz1 ?_
   refine .rd rfl rfl (by decide) (by decide) (by decide) rfl (by decide) zz1 ?_
   refine .rd rfl rfl (by decide) (by decide) (by decide) rfl (by decide) zz1 ?_
   refine .wr rfl rfl (by decide) (.vop zz1 (by decide) ?_)
   refine .wr rfl rfl (by decide) (.vop zz1 (by decide) ?_)
   refine .wr rfl rfl (by decide) (.vop zz1 (by decide) ?_)
   refine .wr rfl rfl (by decide) (.vop zz1 (by decide) ?_)
   refine .rd rfl rfl (by decide) (by decide) (by decide) rfl (by decide) zz1 ?_
   refine .done ?_
   refine .ret ?_
   refine ⟨_, _, zz4,zz4, ?_⟩
   have e : putS l n = l ++ [n] := by unfold putS; rw [hlow, if_neg (by rw [List.getElem?_eq_none (Nat.le_refl _)]; simp)]; simp
   rw [e]; simp [ints]
end Go.Am.Ds
end
section
namespace Go.Am.Ds
open Go Go.Am Go.Proofs
set_option maxHeartbeats 4000000
set_option linter.unusedSimpArgs false
set_option linter.unusedVariables false
attribute [local simp] vrun vwanted vyielded vop veval vevals vparts vO vbuiltin vlen vappend velems vcopy vmakeSlice vbuildSlice valloc vbox vmakeMap vload vpartT vpart vstore vfieldAddr vfield vindexAddr vindex vextract vslice vsliceZ vbounds vbnd zeroO vidx vlookup vmget vmapUpdate vdelete vnilq vnilp vnils vbin vsc vsc1 vscs vscl abinOp aint ashift aunOp aconvert amaxs amax2 pvcV pvc pvcs tput tget vargs VHeap.get VHeap.alloc VHeap.put VHeap.drop VHeap.empty vlook vput vdrop psplice pfill preps chunk List.range List.range.loop vresults vresult vresultV frz frzL PV.isF PV.allF PV.scal PV.allS retP subT allFT PV.one PV.ids PV.idsL dropL beq_eq ble_dec blt_dec
attribute [local simp] zW tup2
theorem putS_len (l : List Int) (n : Int) : (putS l n).length ≤ l.length + 1 := by
 unfold putS
 split
 ·omega
 ·simp; omega
attribute [local simp] zW tup2
theorem mem_putS {l : List Int} {n m : Int} (h : m ∈ putS l n) : m ∈ l ∨ m = n := by
 unfold putS at h
 split at h
 ·exact .inl h
 ·rcases List.mem_append.1 h with h | h
  ·rcases List.mem_append.1 h with h | h
   ·exact .inl (List.mem_of_mem_take h)
   ·exact .inr (by simpa using h)
  ·exact .inl (List.mem_of_mem_drop h)
end Go.Am.Ds
end
section
namespace Go.Am.Ds
open Go Go.Am Go.Proofs

theorem checkL_nodup : ∀ {l : List Wit} {seen : List Int}, checkL l seen = 0 → (l.map Wit.id).Nodup ∧ ∀ w ∈ l, w.id ∉ seen
 | [], _, _ => ⟨.nil, fun w hw => by cases hw⟩
 | a :: r, seen, h => by
  simp only [checkL] at h
  split at h
  ·split at h
   ·simp at h
   ·rename_i hn
    obtain ⟨h1, h2⟩ := checkL_nodup h
    refine ⟨?_, fun w hw => ?_⟩
    ·rw [List.map_cons, List.nodup_cons]
     refine ⟨fun hm => ?_, h1⟩
     obtain ⟨w, hw, he⟩ := List.mem_map.1 hm
     exact h2 w hw ((mem_insU _ _ _).2 (.inr he))
    ·rcases List.mem_cons.1 hw with rfl | hw
     ·exact hn
     ·exact fun hs => h2 w hw ((mem_insU _ _ _).2 (.inl hs))
  ·rename_i h0; exact absurd h h0
theorem checkS_nodup {s : List Wit} (h : checkS s = 0) : (s.map Wit.id).Nodup := by
 unfold checkS at h
 split at h
 ·simp at h
 ·exact (checkL_nodup h).1
theorem checkS_pos {s : List Wit} (h : checkS s = 0) : ∀ w ∈ s, 0 < w.id := fun w hw => by
 have := (checkS_ok h).2 w hw
 unfold witE at this
 split at this
 ·cases this
 ·omega

theorem strict_eq : ∀ {l m : List Int}, l.Pairwise (· < ·) → m.Pairwise (· < ·) → (∀ x, x ∈ l ↔ x ∈ m) → l = m
 | [],[], _, _, _ => rfl
 | [], b :: s, _, _, h => absurd ((h b).2 List.mem_cons_self) (by simp)
 | a :: r, [], _, _, h => absurd ((h a).1 List.mem_cons_self) (by simp)
 | a :: r, b :: s, hl, hm, h => by
  rw [List.pairwise_cons] at hl hm
  have h1 : a = b := by
   rcases List.mem_cons.1 ((h a).1 List.mem_cons_self) with h1 | h1
   ·exact h1
   ·rcases List.mem_cons.1 ((h b).2 List.mem_cons_self) with h2 | h2
    ·exact h2.symm
    ·have := hl.1 b h2
     have := hm.1 a h1
     omega
  subst h1
  rw [strict_eq hl.2 hm.2 fun x => ⟨fun hx => ?_, fun hx => ?_⟩]
  ·rcases List.mem_cons.1 ((h x).1 (List.mem_cons_of_mem _ hx)) with rfl | h2
   ·have := hl.1 x hx; omega
   ·exact h2
  ·rcases List.mem_cons.1 ((h x).2 (List.mem_cons_of_mem _ hx)) with rfl | h2
   ·have := hm.1 x hx; omega
   ·exact h2

theorem lowN_spec (n : Int) : ∀ (l : List Int), l.Pairwise (· < ·) → (∀ x ∈ l.take (lowN l n), x < n) ∧ (∀ x ∈ l.drop (lowN l n), n ≤ x)
 | [], _ => ⟨fun x hx => by simp [lowN] at hx, fun x hx => by simp at hx⟩
 | a :: r, h => by
  rw [List.pairwise_cons] at h
  obtain ⟨h1, h2⟩ := lowN_spec n r h.2
  simp only [lowN]
  by_cases ha : a < n
  ·rw [if_pos ha]
   refine ⟨fun x hx => ?_, fun x hx => ?_⟩
   ·rw [List.take_succ_cons] at hx
    rcases List.mem_cons.1 hx with rfl | hx
    ·exact ha
    ·exact h1 x hx
   ·rw [List.drop_succ_cons] at hx; exact h2 x hx
  ·rw [if_neg ha]
   refine ⟨fun x hx => by simp at hx, fun x hx => ?_⟩
   rw [List.drop_zero] at hx
   rcases List.mem_cons.1 hx with rfl | hx
   ·omega
   ·have := h.1 x hx; omega
theorem putS_mem {l : List Int} {n m : Int} : m ∈ putS l n ↔ m ∈ l ∨ m = n := by
 refine ⟨mem_putS, fun h => ?_⟩
 unfold putS
 split
 ·rename_i hg
  rcases h with h | h
  ·exact h
  ·rw [h]; exact List.mem_of_getElem? hg
 ·rcases h with h | h
  ·rw [← List.take_append_drop (lowN l n) l] at h
   rcases List.mem_append.1 h with h | h
   ·exact List.mem_append_left _ (List.mem_append_left _ h)
   ·exact List.mem_append_right _ h
  ·exact List.mem_append_left _ (List.mem_append_right _ (by simp [h]))
theorem putS_sorted {l : List Int} {n : Int} (h : l.Pairwise (· < ·)) : (putS l n).Pairwise (· < ·) := by
 unfold putS
 split
 ·exact h
 ·rename_i hg
  obtain ⟨h1, h2⟩ := lowN_spec n l h
  have h3 : ∀ x ∈ l.drop (lowN l n), n < x := fun x hx => by
   have h4 := h2 x hx
   rcases Int.lt_or_eq_of_le h4 with h5 | h5
   ·exact h5
   ·exfalso
    cases hd : l.drop (lowN l n) with
    | nil => rw [hd] at hx; cases hx
    | cons b r =>
     have hb : l[lowN l n]? = some b := by
      have := congrArg (·[0]?) hd
      simpa using this
     rw [hd] at hx h2
     have hbn := h2 b List.mem_cons_self
     have hs : (b :: r).Pairwise (· < ·) := hd ▸ h.sublist (List.drop_sublist _ _)
     rw [List.pairwise_cons] at hs
     rcases List.mem_cons.1 hx with h6 | h6
     ·exact hg (by rw [hb, ← h6, h5])
     ·have := hs.1 x h6; omega
  have ht := h.sublist (List.take_sublist (lowN l n) l)
  have hd := h.sublist (List.drop_sublist (lowN l n) l)
  rw [List.pairwise_append, List.pairwise_append]
  refine ⟨⟨ht, by simp, fun a ha b hb => ?_⟩, hd, fun a ha b hb => ?_⟩
  ·rw [List.mem_singleton] at hb; rw [hb]; exact h1 a ha
  ·have hb' := h3 b hb
   rcases List.mem_append.1 ha with ha | ha
   ·have := h1 a ha; omega
   ·rw [List.mem_singleton] at ha; omega

theorem idsS_sorted {s : List Wit} (h : (s.map Wit.id).Nodup) : (idsS s).Pairwise (· < ·) := by
 unfold idsS
 have h1 := List.pairwise_mergeSort (le := fun x y : Int => decide (x ≤ y)) (fun a b c h1 h2 => by simp only [decide_eq_true_eq] at *; omega) (fun a b => by simp only [Bool.or_eq_true, decide_eq_true_eq]; omega) (s.map Wit.id)
 have h2 : ((s.map Wit.id).mergeSort fun x y => decide (x ≤ y)).Nodup := (List.mergeSort_perm _ _).nodup_iff.2 h
 have h3 := h1.and h2
 exact h3.imp fun ⟨h4, h5⟩ => by
  simp only [decide_eq_true_eq] at h4
  rcases Int.lt_or_eq_of_le h4 with h6 | h6
  ·exact h6
  ·exact absurd h6 h5
end Go.Am.Ds
end
section
namespace Go.Am.Ds
open Go Go.Am Go.Proofs
set_option maxRecDepth 100000
set_option maxHeartbeats 4000000
set_option linter.unusedSimpArgs false
set_option linter.unusedVariables false
attribute [local simp] vrun vwanted vyielded vop vopA vputAll VHeap.back hidI hidF backL bm Nat.testBit_eq_decide_div_mod_eq veval vevals vparts vO vbuiltin vlen vappend velems vcopy vmakeSlice vbuildSlice valloc vbox vmakeMap vload vpartT vpart vstore vfieldAddr vfield vindexAddr vindex vextract vslice vsliceZ vbounds vbnd zeroO vidx vlookup vmget vmapUpdate vdelete vclear vnilq vnilp vnils vbin vsc vsc1 vscs vscl abinOp aint ashift aunOp aconvert amaxs amax2 pvcV pvc pvcs tput tget vargs VHeap.get VHeap.alloc VHeap.put VHeap.drop VHeap.empty vlook vput vdrop psplice pfill preps chunk List.range List.range.loop vresults vresult vresultV frz frzL PV.isF PV.allF PV.scal PV.allS retP subT allFT PV.one PV.ids PV.idsL dropL beq_eq ble_dec blt_dec

end Go.Am.Ds
end
section
namespace Go.Am.Ds
open Go Go.Am Go.Proofs
theorem getW_own : ∀ {s : List Wit},(s.map Wit.id).Nodup → ∀ {w : Wit}, w ∈ s → getW s w.id = some w
 | a :: r, hn, w, hw => by
  rw [List.map_cons, List.nodup_cons] at hn
  unfold getW
  rw [List.find?_cons]
  rcases List.mem_cons.1 hw with rfl | hw
  ·simp
  ·have : a.id ≠ w.id := fun h => hn.1 (h ▸ List.mem_map_of_mem hw)
   rw [show decide (a.id = w.id) = false from decide_eq_false this]
   exact getW_own hn.2 hw
end Go.Am.Ds
end
section
namespace Go.Am.Ds
open Go Go.Am Go.Proofs
set_option maxRecDepth 100000
set_option maxHeartbeats 4000000
set_option linter.unusedSimpArgs false
set_option linter.unusedVariables false
attribute [local simp] vrun vwanted vyielded vop vopA vputAll VHeap.back hidI hidF backL bm Nat.testBit_eq_decide_div_mod_eq veval vevals vparts vO vbuiltin vlen vappend velems vcopy vmakeSlice vbuildSlice valloc vbox vmakeMap vload vpartT vpart vstore vfieldAddr vfield vindexAddr vindex vextract vslice vsliceZ vbounds vbnd zeroO vidx vlookup vmget vmapUpdate vdelete vclear vnilq vnilp vnils vbin vsc vsc1 vscs vscl abinOp aint ashift aunOp aconvert amaxs amax2 pvcV pvc pvcs tput tget vargs VHeap.get VHeap.alloc VHeap.put VHeap.drop VHeap.empty vlook vput vdrop psplice pfill preps chunk List.range List.range.loop vresults vresult vresultV frz frzL PV.isF PV.allF PV.scal PV.allS retP subT allFT PV.one PV.ids PV.idsL dropL beq_eq ble_dec blt_dec
attribute [local simp] zW tup2
theorem wrapU64 {n : Int} (h1 : 0 ≤ n) (h2 : n < 9223372036854775808) : IntKind.u64.wrap n = n := by
 simp [IntKind.wrap, IntKind.bits, IntKind.signed]; omega
theorem p217 (n : Int) : VPure Tryz.prog 217 [.int .i64 n] fun r => r = .bool false := by
 refine .of_body Tryz.func217 rfl rfl ?_
 refine .seq ?_
 refine .rn ?_
 refine .seq ?_
 refine .rn ?_
 refine .ret ?_
 refine ⟨_, _, zz4,zz4, ?_⟩
 first | rfl | (simp [*]; done) | (simp_all; done)
theorem p198 (a b : Int) : VPure Tryz.prog 198 [.int .i64 a, .int .i64 b] fun r => r = .bool (decide (a < b)) := by
 refine .of_body Tryz.func198 rfl rfl ?_
 refine .seq ?_
 refine .rn ?_
 refine .seq ?_
 refine .regionL [0,1,2,3,4,5,6,7,8,9,10,11,12] rfl zz0 ?_
 refine .rn [0] [1,2,3,4,5,6,7,8,9,10,11,12] ?_
 refine .step rfl rfl (.pure rfl rfl rfl Tryz.call217 (by decide) (p217 _) (by first | rfl | simp [*]) ?_)
 rintro _ rfl
 refine .rn [2] [3,4,5,6,7,8,9,10,11,12] ?_
 refine .split (t := 7) rfl (fun c7 => ?_) (fun c7 => ?_)
 ·try rw [c7]
  try simp at c7
 ·try rw [c7]
  try simp at c7
  refine .rn [3,4,5,6,7,8,9,10,11,12] [] ?_
  refine .done ?_
  refine .ret ?_
  refine ⟨_, _, zz4,zz4, ?_⟩
  first | rfl | (simp [*]; done) | (simp_all; done)
theorem p161 (l : List Int) (t : Int) (p : Nat) (hp : p < l.length) (ht : l[p] = t) (hs : l.Pairwise (· < ·)) (hl : l.length < 4294967296) : VPure Tryz.prog 161 [ints l, .int .i64 t] fun r => r = .tup [.int .i64 p, .bool true] := by
 have hlt : ∀ h : Nat, ∀ hh : h < l.length, (l[h] < t ↔ h < p) := fun h hh => by
  rw [List.pairwise_iff_getElem] at hs
  rcases Nat.lt_trichotomy h p with h1 | h1 | h1
  ·have := hs h p hh hp h1; exact ⟨fun _ => h1, fun _ => by omega⟩
  ·subst h1; omega
  ·have := hs p h hp hh h1; omega
 refine .of_body Tryz.func161 rfl rfl ?_
 refine .seq ?_
 refine .rn ?_
 refine .seq ?_
 refine .rn ?_
 refine .seq ?_
 refine .rn ?_
 refine .seq ?_
 refine .block ?_
 refine .loopS (fun st : Nat × Nat => ([(0, ints l),(1, .int .i64 t),(6, .int .i64 l.length),(7, .int .i64 st.1),(8, .int .i64 st.2)], VHeap.empty)) (fun st => st.1 ≤ p ∧ p ≤ st.2 ∧ st.2 ≤ l.length) (fun st => st.2 - st.1) (0, l.length) ⟨by simp, by simp; omega, by simp⟩ (.mk [] [] zz14 zz15 rfl rfl rfl) ?_
 rintro ⟨i, j⟩ ⟨h1, h2, h3⟩
 simp only at h1 h2 h3 ⊢
 refine .seq ?_
 refine .seq ?_
 refine .rn ?_
 refine .condS rfl (fun c15 => ?_) (fun c15 => ?_)
 ·try simp at c15
  have hij : i < j := by omega
  have hw1 : IntKind.i64.wrap ((i : Int) + (j : Int)) = (i : Int) + (j : Int) := wrap64 (by omega) (by omega)
  have hw2 : IntKind.u64.wrap ((i : Int) + (j : Int)) = (i : Int) + (j : Int) := wrapU64 (by omega) (by omega)
  have hbits : IntKind.u64.bits = 64 := rfl
  obtain ⟨m, hm, hm1, hm2⟩ : ∃ m : Nat, ((i : Int) + (j : Int)).fdiv 2 = (m : Int) ∧ i ≤ m ∧ m < j := ⟨(i + j) / 2, by rw [Int.fdiv_eq_ediv_of_nonneg _ (by omega)]; omega, by omega, by omega⟩
  have hh : m < l.length := by omega
  have hw3 : IntKind.i64.wrap (m : Int) = (m : Int) := wrap64 (by omega) (by omega)
  have hw4 : IntKind.i64.wrap ((m : Int) + 1) = (m : Int) + 1 := wrap64 (by omega) (by omega)
  have hcmp := hlt m hh
  refine .skip ?_
  refine .block ?_
  refine .seq ?_
  refine .rn ?_
  refine .seq ?_
  refine .regionL [0,1,2,3,4,5] rfl zz0 ?_
  refine .rn [0,1,2,3,4] [5] ?_
  refine .step rfl rfl (.pure rfl rfl rfl Tryz.call198 (by decide) (p198 _ _) (by first | rfl | simp [*]) ?_)
  rintro _ rfl
  refine .done ?_
  refine .condS rfl (fun c27 => ?_) (fun c27 => ?_)
  ·try simp at c27
   refine .rn ?_
   refine ⟨(m + 1, j), ⟨by simp only; omega, h2, h3⟩, by simp only; omega, (.mk [] [] zz14 zz15 rfl rfl rfl)⟩
  ·try simp at c27
   refine .rn ?_
   refine ⟨(i, m), ⟨h1, by simp only; omega, by simp only; omega⟩, by simp only; omega, (.mk [] [] zz14 zz15 rfl rfl rfl)⟩
 ·try simp at c15
  have hip : i = p := by omega
  subst hip
  refine .exit ?_
  refine .seq ?_
  refine .regionL [0,1,2,3,4,5,6,7,8,9,10,11,12,13,14,15,16,17,18,19,20,21,22,23,24] rfl zz0 ?_
  refine .rn [0,1,2,3,4] [5,6,7,8,9,10,11,12,13,14,15,16,17,18,19,20,21,22,23,24] ?_
  refine .split (t := 35) rfl (fun c35 => ?_) (fun c35 => ?_)
  ·try rw [c35]
   try simp at c35
   refine .rn [5,6,7,8,9,10,11] [12,13,14,15,16,17,18,19,20,21,22,23,24] ?_
   refine .split (t := 42) rfl (fun c42 => ?_) (fun c42 => ?_)
   ·try rw [c42]
    try simp at c42
    refine .rn [12,13,14,15,16,17,18,19,20,21,22,23,24] [] ?_
    refine .done ?_
    refine .ret ?_
    refine ⟨_, _, zz4,zz4, ?_⟩
    first | rfl | (simp [*]; done) | (simp_all; done)
   ·try rw [c42]
    try simp at c42
  ·try rw [c35]
   try simp at c35
attribute [local simp] zW tup2
def kvM (l : List (Int × Int)) : List (Int × PV) := l.map fun x => (x.1, .int .u32 x.2)
def getM (l : List (Int × Int)) (n : Int) : Option Int := (l.find? fun x => decide (x.1 = n)).map (·.2)
def setM (l : List (Int × Int)) (n v : Int) : List (Int × Int) := match getM l n with
 | some _ => l.map fun x => if x.1 = n then (x.1, v) else x
 | none => l ++ [(n, v)]
theorem pfind_kvM (n : Int) : ∀ l : List (Int × Int), pfind .i64 n (kvs (kvM l)) = some ((getM l n).map (PV.int .u32))
 | [] => rfl
 | x :: r => by
  have ih := pfind_kvM n r
  unfold getM kvM kvs at ih ⊢
  simp only [List.map_cons, pfind, decide_true, cond_true]
  rw [ih, List.find?_cons]
  cases h : decide (x.1 = n) <;> simp
theorem map_qput_kvM (n v : Int) : ∀ l : List (Int × Int),(kvs (kvM l)).map (qput n (.int .u32 v)) = kvs (kvM (l.map fun x => if x.1 = n then (x.1, v) else x))
 | [] => rfl
 | x :: r => by
  have ih := map_qput_kvM n v r
  unfold kvM kvs at ih ⊢
  simp only [List.map_cons, qput] at ih ⊢
  rw [ih]
  by_cases h : x.1 = n <;> simp [h]
theorem pmset_kvM (n v : Int) (l : List (Int × Int)) : pmset .i64 n (.int .u32 v) (kvs (kvM l)) = some (kvs (kvM (setM l n v))) := by
 unfold pmset setM
 rw [pfind_kvM]
 cases h : getM l n with
 | none => simp [kvs, kvM]
 | some y => simp [map_qput_kvM]
theorem getM_none {l : List (Int × Int)} {n : Int} (h : getM l n = none) : n ∉ l.map (·.1) := by
 unfold getM at h
 rw [Option.map_eq_none_iff, List.find?_eq_none] at h
 intro h1
 obtain ⟨x, hx, rfl⟩ := List.mem_map.1 h1
 exact h x hx (by simp)
theorem setM_keys (l : List (Int × Int)) (n v : Int) : (setM l n v).map (·.1) = if (getM l n).isSome = true then l.map (·.1) else l.map (·.1) ++ [n] := by
 unfold setM
 cases h : getM l n with
 | none => simp
 | some y =>
  simp only [Option.isSome_some, if_true, List.map_map]
  apply List.map_congr_left
  intro x _
  simp only [Function.comp]
  split <;> rfl
theorem setM_nodup {l : List (Int × Int)} (h : (l.map (·.1)).Nodup) (n v : Int) : ((setM l n v).map (·.1)).Nodup := by
 rw [setM_keys]
 cases h1 : getM l n with
 | some y => simpa using h
 | none =>
  simp only [Option.isSome_none, Bool.false_eq_true, if_false]
  exact List.nodup_append.2 ⟨h, by simp, fun a ha b hb hab => by rw [List.mem_singleton] at hb; subst hab; subst hb; exact getM_none h1 ha⟩
theorem getM_mem {l : List (Int × Int)} {n : Int} : (getM l n).isSome = true ↔ n ∈ l.map (·.1) := by
 unfold getM
 rw [Option.isSome_map, List.find?_isSome]
 simp
theorem setM_mem {l : List (Int × Int)} {n v m : Int} : m ∈ (setM l n v).map (·.1) ↔ m ∈ l.map (·.1) ∨ m = n := by
 rw [setM_keys]
 split
 ·rename_i h
  rw [getM_mem] at h
  exact ⟨.inl, fun h2 => h2.elim id fun h3 => h3 ▸ h⟩
 ·simp
def posI (s : List Wit) (id : Int) : Nat := (idsS s).idxOf id
def orV (a b : Int) : Int := IntKind.u32.wrap ((BitVec.ofInt 32 a ||| BitVec.ofInt 32 b).toNat : Int)
def bitV (k : Nat) : Int := IntKind.u32.wrap (2 ^ min k 32)
def orU (a : Int) (k : Nat) : Int := orV a (bitV k)
@[local simp ↓ high] theorem aint_or32 (a b : Int) : aint .or .u32 a b = some (.int .u32 (orV a b)) := rfl
@[local simp ↓ high] theorem ashl32 (k : Nat) : ashift .shl .u32 1 (k : Int) = some (.int .u32 (bitV k)) := by
 unfold ashift bitV
 have h : ¬ ((k : Int) < 0) := by omega
 rw [decide_eq_false h, cond_false, Int.toNat_natCast, Int.one_mul]; rfl
def putM (k : Nat) (es : List (Int × Int)) (n : Int) : List (Int × Int) := setM es n (orU ((getM es n).getD 0) k)
def heldF (s : List Wit) (es : List (Int × Int)) (w : Wit) : List (Int × Int) := w.slips.foldl (putM (posI s w.id)) es
def heldM (s : List Wit) : List (Int × Int) := s.foldl (heldF s) []
theorem pos_get {s : List Wit} {w : Wit} (hw : w ∈ s) : ∃ h : posI s w.id < (idsS s).length, (idsS s)[posI s w.id] = w.id := by
 have h1 : posI s w.id < (idsS s).length := List.idxOf_lt_length_iff.2 (idsS_mem.2 ⟨w, hw, rfl⟩)
 exact ⟨h1, List.getElem_idxOf h1⟩
theorem p94 (s : List Wit) (h : checkS s = 0) : VPure Tryz.prog 94 [encS s] fun r => r = .vmap (kvs (kvM (heldM s))) := by
 have hl24 := (checkS_ok h).1
 have hidl := idsS_len s
 have hso := idsS_sorted (checkS_nodup h)
 refine .of_body Tryz.func94 rfl rfl ?_
 refine .seq ?_
 refine .rn ?_
 refine .seq ?_
 refine .regionL [0,1,2,3,4] rfl zz0 ?_
 refine .rn [0,1] [2,3,4] ?_
 refine .step rfl rfl (.pure rfl rfl rfl Tryz.call99 (by decide) (p99' s (by omega)) (by first | rfl | simp [*]) ?_)
 rintro _ rfl
 refine .rn [3,4] [] ?_
 refine .done ?_
 refine .seq ?_
 refine .seq ?_
 refine .rn ?_
 refine .block ?_
 refine .loopS (fun st : Nat × List (Int × Int) => ([(3, .mapv 1),(4, ints (idsS s)),(15, .vec (s.map encW)),(16, .int .i64 s.length),(17, .int .i64 st.1)], ⟨2,[(1, .map (kvs (kvM st.2))),(0, .box [.vec (s.map encW)])]⟩)) (fun st => st.1 ≤ s.length ∧ (s.drop st.1).foldl (heldF s) st.2 = heldM s) (fun st => s.length - st.1) (0,[]) ⟨by simp, by simp [heldM]⟩ (.mk [] [] zz14 zz15 rfl rfl rfl) ?_
 rintro ⟨i, es⟩ ⟨hi, hr⟩
 simp only at hi hr ⊢
 refine .seq ?_
 refine .rn ?_
 refine .seq ?_
 refine .condS rfl (fun c18 => ?_) (fun c18 => ?_)
 ·try simp at c18
  have hw2 : IntKind.i64.wrap ((i : Int) + 1) = (i : Int) + 1 := wrap64 (by omega) (by omega)
  have hE : encW s[i] = .agg [.int .i64 s[i].id, .int .i64 s[i].known, ints s[i].slips, ints s[i].mended, ints s[i].models, .int .i64 s[i].lo, .int .i64 s[i].hi] := rfl
  rw [foldl_drop (heldF s) s i c18] at hr
  obtain ⟨hp1, hp2⟩ := pos_get (List.getElem_mem c18)
  have hsl := ((checkS_lens h) s[i] (List.getElem_mem c18)).1
  obtain ⟨p, hp⟩ : ∃ p, posI s s[i].id = p := ⟨_, rfl⟩
  have hp24 : p < 24 := by omega
  refine .skip ?_
  refine .seq ?_
  refine .block ?_
  refine .seq ?_
  refine .rn ?_
  refine .seq ?_
  refine .regionL [0,1,2,3,4,5,6,7,8] rfl zz0 ?_
  refine .rn [0,1,2] [3,4,5,6,7,8] ?_
  refine .step rfl rfl (.pure rfl rfl rfl Tryz.call161 (by decide) ((by have h := p161 (idsS s) s[i].id (posI s s[i].id) hp1 hp2 hso (by omega); rw [hp] at h; exact h)) (by first | rfl | simp [*]) ?_)
  rintro _ rfl
  refine .rn [4,5,6,7,8] [] ?_
  refine .done ?_
  refine .seq ?_
  refine .rn ?_
  refine .block ?_
  refine .loopS (fun st : Nat × List (Int × Int) => ([(3, .mapv 1),(4, ints (idsS s)),(7, .int .i64 p),(15, .vec (s.map encW)),(16, .int .i64 s.length),(17, .int .i64 i),(29, ints s[i].slips),(30, .int .i64 s[i].slips.length),(31, .int .i64 st.1)], ⟨2,[(1, .map (kvs (kvM st.2))),(0, .box [.vec (s.map encW)])]⟩)) (fun st => st.1 ≤ s[i].slips.length ∧ (s[i].slips.drop st.1).foldl (putM p) st.2 = s[i].slips.foldl (putM p) es) (fun st => s[i].slips.length - st.1) (0, es) ⟨by simp, by simp⟩ (.mk [] [] zz14 zz15 rfl rfl rfl) ?_
  rintro ⟨j, es2⟩ ⟨hj, hs⟩
  simp only at hj hs ⊢
  refine .seq ?_
  refine .rn ?_
  refine .seq ?_
  refine .condS rfl (fun c32 => ?_) (fun c32 => ?_)
  ·try simp at c32
   have hw3 : IntKind.i64.wrap ((j : Int) + 1) = (j : Int) + 1 := wrap64 (by omega) (by omega)
   rw [foldl_drop (putM p) s[i].slips j c32] at hs
   have hpf := pfind_kvM s[i].slips[j] es2
   have hpm := fun v => pmset_kvM s[i].slips[j] v es2
   rcases hgm : getM es2 s[i].slips[j] with _ | v0 <;> rw [hgm] at hpf <;> simp only [Option.map] at hpf
   ·skip
    refine .skip ?_
    refine .seq ?_
    refine .block ?_
    refine .seq ?_
    refine .rn ?_
    refine .drawn (ms := [0,0,3,0,8,31,63]) (W := [6]) (items := [.op 0, .op 1, .op 2, .op 3, .op 4, .op 5, .op 6]) rfl zz0 zz0 zz0 ?_
    refine .rx ?_
    refine .rx ?_
    refine .rx ?_
    refine .rx ?_
    refine .rx ?_
    refine .rx ?_
    refine .wr rfl rfl (by decide) (.vop zz1 (by decide) ?_)
    refine .done ?_
    refine .rn ?_
    have hpu : putM p es2 s[i].slips[j] = setM es2 s[i].slips[j] (orV 0 (bitV p)) := by unfold putM; rw [hgm]; rfl
    refine ⟨(j + 1, putM p es2 s[i].slips[j]), ⟨zz5, hs⟩, zz5,(.mk [] [] zz14 zz15 rfl rfl rfl)⟩
   ·skip
    refine .skip ?_
    refine .seq ?_
    refine .block ?_
    refine .seq ?_
    refine .rn ?_
    refine .drawn (ms := [0,0,3,0,8,31,63]) (W := [6]) (items := [.op 0, .op 1, .op 2, .op 3, .op 4, .op 5, .op 6]) rfl zz0 zz0 zz0 ?_
    refine .rx ?_
    refine .rx ?_
    refine .rx ?_
    refine .rx ?_
    refine .rx ?_
    refine .rx ?_
    refine .wr rfl rfl (by decide) (.vop zz1 (by decide) ?_)
    refine .done ?_
    refine .rn ?_
    have hpu : putM p es2 s[i].slips[j] = setM es2 s[i].slips[j] (orV v0 (bitV p)) := by unfold putM; rw [hgm]; rfl
    refine ⟨(j + 1, putM p es2 s[i].slips[j]), ⟨zz5, hs⟩, zz5,(.mk [] [] zz14 zz15 rfl rfl rfl)⟩
  ·try simp at c32
   have hj2 : j = s[i].slips.length := by omega
   refine .exit ?_
   refine .rn ?_
   refine ⟨(i + 1, es2), ⟨zz5, ?_⟩, zz5,(.mk [] [] zz14 zz15 rfl rfl rfl)⟩
   rw [← hr, heldF, hp, ← hs, hj2, List.drop_length]; rfl
 ·try simp at c18
  have hi2 : i = s.length := by omega
  refine .exit ?_
  refine .seq ?_
  refine .rn ?_
  refine .ret ?_
  refine ⟨_, _, zz4,zz4, ?_⟩
  rw [← hr, hi2, List.drop_length]; rfl
end Go.Am.Ds
end
section
namespace Go.Am.Ds
open Go Go.Am Go.Proofs
theorem nodup_sub : ∀ {l m : List Int}, l.Nodup → (∀ x ∈ l, x ∈ m) → l.length ≤ m.length
 | [], _, _, _ => Nat.zero_le _
 | a :: r, m, hn, h => by
  rw [List.nodup_cons] at hn
  have ha := h a List.mem_cons_self
  have ih := nodup_sub (l := r) (m := m.erase a) hn.2 fun x hx => (List.mem_erase_of_ne (by rintro rfl; exact hn.1 hx)).2 (h x (List.mem_cons_of_mem _ hx))
  rw [List.length_erase_of_mem ha] at ih
  have := List.length_pos_iff.2 (List.ne_nil_of_mem ha)
  rw [List.length_cons]; omega
theorem foldM_mem (k : Nat) : ∀ (l : List Int) (es : List (Int × Int)) (n : Int), n ∈ (l.foldl (putM k) es).map (·.1) ↔ n ∈ es.map (·.1) ∨ n ∈ l
 | [], es, n => by simp
 | a :: r, es, n => by
  rw [List.foldl_cons, foldM_mem k r, putM, setM_mem, List.mem_cons]
  constructor
  ·rintro ((h | h) | h)
   ·exact .inl h
   ·exact .inr (.inl h)
   ·exact .inr (.inr h)
  ·rintro (h | h | h)
   ·exact .inl (.inl h)
   ·exact .inl (.inr h)
   ·exact .inr h
theorem foldM_nodup (k : Nat) : ∀ (l : List Int) (es : List (Int × Int)),(es.map (·.1)).Nodup → ((l.foldl (putM k) es).map (·.1)).Nodup
 | [], _, h => h
 | a :: r, es, h => by rw [List.foldl_cons]; exact foldM_nodup k r _ (setM_nodup h _ _)
theorem heldM_mem {s : List Wit} {n : Int} : n ∈ (heldM s).map (·.1) ↔ ∃ w ∈ s, n ∈ w.slips := by
 have : ∀ (l : List Wit) (es : List (Int × Int)), n ∈ (l.foldl (heldF s) es).map (·.1) ↔ n ∈ es.map (·.1) ∨ ∃ w ∈ l, n ∈ w.slips := by
  intro l
  induction l with
  | nil => intro es; simp
  | cons a r ih =>
   intro es
   rw [List.foldl_cons, ih, heldF, foldM_mem]
   constructor
   ·rintro ((h | h) | ⟨w, h1, h2⟩)
    ·exact .inl h
    ·exact .inr ⟨a, List.mem_cons_self, h⟩
    ·exact .inr ⟨w, List.mem_cons_of_mem _ h1, h2⟩
   ·rintro (h | ⟨w, h1, h2⟩)
    ·exact .inl (.inl h)
    ·rcases List.mem_cons.1 h1 with rfl | h1
     ·exact .inl (.inr h2)
     ·exact .inr ⟨w, h1, h2⟩
 unfold heldM
 rw [this]; simp
theorem heldM_nodup (s : List Wit) : ((heldM s).map (·.1)).Nodup := by
 have : ∀ (l : List Wit) (es : List (Int × Int)),(es.map (·.1)).Nodup → ((l.foldl (heldF s) es).map (·.1)).Nodup := by
  intro l
  induction l with
  | nil => intro es h; exact h
  | cons a r ih => intro es h; exact ih _ (foldM_nodup _ _ _ h)
 exact this s [] (by simp)
theorem heldM_len {s : List Wit} (h : checkS s = 0) : (heldM s).length ≤ 24 * 30 := by
 obtain ⟨h1, h2⟩ := checkS_ok h
 have e1 : ((heldM s).map (·.1)).length ≤ (s.flatMap Wit.slips).length := nodup_sub (heldM_nodup s) fun x hx => by
  obtain ⟨w, hw, hx⟩ := heldM_mem.1 hx
  exact List.mem_flatMap.2 ⟨w, hw, hx⟩
 have e2 : ∀ l : List Wit, (∀ w ∈ l, w.slips.length ≤ 30) → (l.flatMap Wit.slips).length ≤ l.length * 30 := by
  intro l
  induction l with
  | nil => intro _; simp
  | cons a r ih =>
   intro h3
   have := ih fun w hw => h3 w (List.mem_cons_of_mem _ hw)
   have := h3 a List.mem_cons_self
   rw [List.flatMap_cons, List.length_append, List.length_cons]; omega
 have e3 := e2 s fun w hw => (witE_len (h2 w hw)).1
 have e4 : s.length * 30 ≤ 24 * 30 := Nat.mul_le_mul_right 30 h1
 rw [List.length_map] at e1; omega
def slipsL (s : List Wit) : List Int := ((heldM s).map (·.1)).mergeSort fun x y => decide (x ≤ y)
def slipsR (s : List Wit) : List Int := if checkS s = 0 then slipsL s else []
theorem slipsL_len (s : List Wit) : (slipsL s).length = (heldM s).length := by simp [slipsL]
theorem slipsL_mem {s : List Wit} {n : Int} : n ∈ slipsL s ↔ ∃ w ∈ s, n ∈ w.slips := by
 unfold slipsL; rw [List.mem_mergeSort, heldM_mem]
theorem kvM_keys (l : List (Int × Int)) : (kvM l).map (·.1) = l.map (·.1) := by unfold kvM; rw [List.map_map]; rfl
end Go.Am.Ds
end
section
namespace Go.Am.Ds
open Go Go.Am Go.Proofs
set_option maxRecDepth 100000
set_option maxHeartbeats 4000000
set_option linter.unusedSimpArgs false
set_option linter.unusedVariables false
attribute [local simp] vrun vwanted vyielded vop vopA vputAll VHeap.back hidI hidF backL bm Nat.testBit_eq_decide_div_mod_eq veval vevals vparts vO vbuiltin vlen vappend velems vcopy vmakeSlice vbuildSlice valloc vbox vmakeMap vload vpartT vpart vstore vfieldAddr vfield vindexAddr vindex vextract vslice vsliceZ vbounds vbnd zeroO vidx vlookup vmget vmapUpdate vdelete vclear vnilq vnilp vnils vbin vsc vsc1 vscs vscl abinOp aint ashift aunOp aconvert amaxs amax2 pvcV pvc pvcs tput tget vargs VHeap.get VHeap.alloc VHeap.put VHeap.drop VHeap.empty vlook vput vdrop psplice pfill preps chunk List.range List.range.loop vresults vresult vresultV frz frzL PV.isF PV.allF PV.scal PV.allS retP subT allFT PV.one PV.ids PV.idsL dropL beq_eq ble_dec blt_dec
attribute [local simp] zW tup2
theorem p47a (s : List Wit) (hl : s.length < 4294967296) : VPure Tryz.prog 47 [encS s] fun r => Soft r (.tup [ints (slipsR s), .int .i64 (checkS s)]) := by
 refine .of_body Tryz.func47 rfl rfl ?_
 refine .seq ?_
 refine .rn ?_
 refine .seq ?_
 refine .seq ?_
 refine .regionL [0,1,2] rfl zz0 ?_
 refine .rn [0] [1,2] ?_
 refine .step rfl rfl (.pure rfl rfl rfl Tryz.call35 (by decide) (p35 s hl) (by first | rfl | simp [*]) ?_)
 rintro _ rfl
 refine .rn [2] [] ?_
 refine .done ?_
 refine .seq ?_
 refine .rn ?_
 refine .condS rfl (fun c8 => ?_) (fun c8 => ?_)
 ·try simp at c8
  refine .seq ?_
  refine .rn ?_
  refine .ret ?_
  refine ⟨_, _, zz4,zz4, ?_⟩
  rw [show slipsR s = [] by unfold slipsR; rw [if_neg c8]]
  exact soft_tup (AltL.cons .sl0v (AltL.cons (.same _ rfl) AltL.nil))
 ·try simp at c8
  have hlen := heldM_len c8
  have h125 : VPure Tryz.prog 125 [.vmap (kvs (kvM (heldM s)))] fun r => r = ints (slipsL s) := by
   have h := p125 (kvM (heldM s)) (by rw [kvM_keys]; exact heldM_nodup s) (by simp only [kvM, List.length_map]; omega)
   rw [kvM_keys] at h; exact h
  refine .skip ?_
  refine .seq ?_
  refine .regionL [0,1,2,3,4] rfl zz0 ?_
  refine .rn [0] [1,2,3,4] ?_
  refine .step rfl rfl (.pure rfl rfl rfl Tryz.call94 (by decide) (p94 s c8) (by first | rfl | simp [*]) ?_)
  rintro _ rfl
  refine .step rfl rfl (.pure rfl rfl rfl Tryz.call125 (by decide) (h125) (by first | rfl | simp [*]) ?_)
  rintro _ rfl
  refine .rn [3,4] [] ?_
  refine .done ?_
  refine .ret ?_
  refine ⟨_, _, zz4,zz4, ?_⟩
  rw [show slipsR s = slipsL s by unfold slipsR; rw [if_pos c8], c8]
  exact soft_rfl rfl
theorem p47 (s : List Wit) (hl : s.length < 4294967296) : VPure Tryz.prog 47 [encS s] fun r => r = .tup [ints (slipsR s), .int .i64 (checkS s)] := VPure.soft (p47a s hl) rfl
end Go.Am.Ds
end
section
namespace Go.Am.Ds
open Go Go.Am Go.Proofs
def andV (a b : Int) : Int := IntKind.u32.wrap ((BitVec.ofInt 32 a &&& BitVec.ofInt 32 b).toNat : Int)
def anV (a b : Int) : Int := IntKind.u32.wrap ((BitVec.ofInt 32 a &&& ~~~ BitVec.ofInt 32 b).toNat : Int)
def shrV (a : Int) (k : Nat) : Int := a.fdiv (2 ^ min k 32)
def crossV (x y : Int) : Bool := (andV x y != 0) && ((anV x y != 0) && (anV y x != 0))
def bitB (m : Int) (k : Nat) : Bool := andV (shrV m k) 1 == 1
def amP (m : Int) (l : List Int) (k : Nat) : List Int := (List.range k).filterMap fun i => if bitB m i then l[i]? else none
def amL (m : Int) (l : List Int) : List Int := amP m l l.length
theorem amP_succ (m : Int) (l : List Int) (k : Nat) (h : k < l.length) : amP m l (k + 1) = if bitB m k = true then amP m l k ++ [l[k]] else amP m l k := by
 unfold amP
 rw [List.range_succ, List.filterMap_append]
 by_cases hb : bitB m k = true
 ·rw [if_pos hb]; simp [hb, h]
 ·rw [if_neg hb]; simp [hb]
theorem amP_le (m : Int) (l : List Int) (k : Nat) : (amP m l k).length ≤ k := by
 unfold amP
 exact Nat.le_trans (List.length_filterMap_le _ _) (by simp)
theorem u32_small {n : Nat} (h : n < 4294967296) : IntKind.u32.wrap (n : Int) = (n : Int) := wrapu32 (by omega) (by omega)
theorem bv_nat (n : Nat) : (BitVec.ofInt 32 (n : Int)).toNat = n % 4294967296 := by
 rw [BitVec.ofInt_natCast, BitVec.toNat_ofNat]
theorem andV_nat {a b : Nat} (ha : a < 4294967296) (hb : b < 4294967296) : andV (a : Int) (b : Int) = ((a &&& b : Nat) : Int) := by
 unfold andV
 rw [BitVec.toNat_and, bv_nat, bv_nat, Nat.mod_eq_of_lt ha, Nat.mod_eq_of_lt hb]
 exact u32_small (Nat.lt_of_le_of_lt Nat.and_le_left ha)
theorem orV_nat {a b : Nat} (ha : a < 4294967296) (hb : b < 4294967296) : orV (a : Int) (b : Int) = ((a ||| b : Nat) : Int) := by
 unfold orV
 rw [BitVec.toNat_or, bv_nat, bv_nat, Nat.mod_eq_of_lt ha, Nat.mod_eq_of_lt hb]
 exact u32_small (Nat.or_lt_two_pow (n := 32) ha hb)
def anN (a b : Nat) : Nat := (BitVec.ofInt 32 (a : Int) &&& ~~~ BitVec.ofInt 32 (b : Int)).toNat
theorem anV_nat {a b : Nat} : anV (a : Int) (b : Int) = ((anN a b : Nat) : Int) := by
 unfold anV anN
 exact u32_small (BitVec.isLt _)
theorem anN_bit {a b : Nat} (ha : a < 4294967296) (hb : b < 4294967296) (k : Nat) : (anN a b).testBit k = (a.testBit k && !b.testBit k) := by
 unfold anN
 rw [BitVec.testBit_toNat, BitVec.getLsbD_and, BitVec.getLsbD_not, ← BitVec.testBit_toNat, ← BitVec.testBit_toNat, bv_nat, bv_nat, Nat.mod_eq_of_lt ha, Nat.mod_eq_of_lt hb]
 by_cases hk : k < 32
 ·simp [hk]
 ·have : a.testBit k = false := Nat.testBit_lt_two_pow (Nat.lt_of_lt_of_le ha (show (2 : Nat) ^ 32 ≤ 2 ^ k from Nat.pow_le_pow_right (by omega) (by omega)))
  simp [this, hk]
theorem anN_lt (a b : Nat) : anN a b < 4294967296 := BitVec.isLt _
theorem bitV_nat {k : Nat} (h : k < 32) : bitV k = ((2 ^ k : Nat) : Int) := by
 unfold bitV
 rw [Nat.min_eq_left (by omega)]
 have h1 : (2 : Nat) ^ k < 4294967296 := Nat.pow_lt_pow_right (by omega) (show k < 32 from h)
 have := u32_small h1
 rw [← this]; congr 1
theorem shrV_nat {a k : Nat} (h : k < 32) : shrV (a : Int) k = ((a >>> k : Nat) : Int) := by
 unfold shrV
 rw [Nat.min_eq_left (by omega), Nat.shiftRight_eq_div_pow, Int.fdiv_eq_ediv_of_nonneg _ (by exact Int.le_of_lt (Int.pow_pos (by omega)))]
 push_cast; rfl
theorem bitB_nat {a k : Nat} (ha : a < 4294967296) (h : k < 32) : bitB (a : Int) k = a.testBit k := by
 unfold bitB
 rw [shrV_nat h, show (1 : Int) = ((1 : Nat) : Int) from rfl, andV_nat (Nat.lt_of_le_of_lt (Nat.shiftRight_le _ _) ha) (by omega), Nat.testBit]
 rw [Bool.eq_iff_iff, Nat.and_comm]
 have h2 : 1 &&& (a >>> k) < 2 := by
  rw [Nat.one_and_eq_mod_two]; exact Nat.mod_lt _ (by omega)
 generalize 1 &&& (a >>> k) = x at h2 ⊢
 simp only [beq_iff_eq, bne_iff_ne, ne_eq]
 constructor
 ·intro h3 h4; omega
 ·intro h3; omega
theorem ne_zero_bit {n : Nat} : n ≠ 0 ↔ ∃ k, n.testBit k = true := by
 constructor
 ·intro h; obtain ⟨k, hk⟩ := Nat.exists_testBit_of_ne_zero h; exact ⟨k, hk⟩
 ·rintro ⟨k, hk⟩ h; rw [h, Nat.zero_testBit] at hk; cases hk
def okM (es : List (Int × Int)) (B : Int → Nat → Prop) : Prop := ∀ n, ∃ v : Nat, (getM es n).getD 0 = (v : Int) ∧ v < 4294967296 ∧ ∀ k, v.testBit k = true ↔ B n k
theorem getM_set (es : List (Int × Int)) (n v m : Int) : getM (setM es n v) m = if m = n then some v else getM es m := by
 unfold setM
 cases h : getM es n with
 | none =>
  simp only
  have h0 : es.find? (fun x => decide (x.1 = n)) = none := by unfold getM at h; simpa using h
  unfold getM
  rw [List.find?_append]
  by_cases hm : m = n
  ·subst hm; rw [if_pos rfl, h0]; simp
  ·rw [if_neg hm]
   cases hf : es.find? fun x => decide (x.1 = m) with
   | some x => simp
   | none => simp [Ne.symm hm]
 | some y =>
  simp only
  unfold getM at h ⊢
  induction es with
  | nil => simp at h
  | cons a r ih =>
   rw [List.map_cons, List.find?_cons, List.find?_cons]
   rw [List.find?_cons] at h
   by_cases ha : a.1 = n
   ·by_cases hm : m = n
    ·subst hm; simp [ha]
    ·have h1 : ¬ a.1 = m := fun h1 => hm (h1.symm.trans ha)
     have h2 : ¬ n = m := fun h2 => hm h2.symm
     rw [if_neg hm]
     simp only [ha, if_true, h2, decide_false]
     have : ∀ l : List (Int × Int),((l.map fun x => if x.1 = n then (x.1, v) else x).find? fun x => decide (x.1 = m)).map (·.2) = (l.find? fun x => decide (x.1 = m)).map (·.2) := by
      intro l
      induction l with
      | nil => rfl
      | cons b l ihl =>
       rw [List.map_cons, List.find?_cons, List.find?_cons]
       by_cases hb : b.1 = n
       ·have : ¬ b.1 = m := fun h3 => hm (h3.symm.trans hb)
        simp only [hb, if_true, h2, decide_false]; exact ihl
       ·rw [if_neg hb]
        cases decide (b.1 = m) with
        | true => rfl
        | false => exact ihl
     exact this r
   ·rw [decide_eq_false ha] at h
    rw [if_neg ha]
    by_cases hm : a.1 = m
    ·have h1 : ¬ m = n := fun h1 => ha (hm.trans h1)
     rw [if_neg h1, decide_eq_true hm]
    ·rw [decide_eq_false hm]
     exact ih h
theorem okM_put {es : List (Int × Int)} {B : Int → Nat → Prop} (h : okM es B) {p : Nat} (hp : p < 32) (n : Int) : okM (putM p es n) fun m k => B m k ∨ (m = n ∧ k = p) := by
 intro m
 unfold putM
 rw [getM_set]
 by_cases hm : m = n
 ·subst hm
  rw [if_pos rfl]
  obtain ⟨v, h1, h2, h3⟩ := h m
  refine ⟨v ||| 2 ^ p, ?_, Nat.or_lt_two_pow (n := 32) h2 (Nat.pow_lt_pow_right (by omega) hp), fun k => ?_⟩
  ·rw [Option.getD_some, h1]
   unfold orU
   rw [bitV_nat hp, orV_nat h2 (Nat.pow_lt_pow_right (by omega) hp)]
  ·rw [Nat.testBit_or, Bool.or_eq_true, h3, Nat.testBit_two_pow]
   simp only [decide_eq_true_eq]
   constructor
   ·rintro (h4 | h4)
    ·exact .inl h4
    ·exact .inr ⟨trivial, h4.symm⟩
   ·rintro (h4 | ⟨_, h4⟩)
    ·exact .inl h4
    ·exact .inr h4.symm
 ·rw [if_neg hm]
  obtain ⟨v, h1, h2, h3⟩ := h m
  refine ⟨v, h1, h2, fun k => ?_⟩
  rw [h3]
  exact ⟨.inl, fun h4 => h4.elim id fun h5 => absurd h5.1 hm⟩
theorem okM_fold {p : Nat} (hp : p < 32) : ∀ (l : List Int) {es : List (Int × Int)} {B : Int → Nat → Prop}, okM es B → okM (l.foldl (putM p) es) fun m k => B m k ∨ (m ∈ l ∧ k = p)
 | [], es, B, h => by
  intro n
  obtain ⟨v, h1, h2, h3⟩ := h n
  exact ⟨v, h1, h2, fun k => by rw [h3]; simp⟩
 | a :: r, es, B, h => by
  have ih := okM_fold hp r (okM_put h hp a)
  intro n
  obtain ⟨v, h1, h2, h3⟩ := ih n
  refine ⟨v, h1, h2, fun k => ?_⟩
  rw [h3]
  show ((B n k ∨ n = a ∧ k = p) ∨ n ∈ r ∧ k = p) ↔ (B n k ∨ n ∈ a :: r ∧ k = p)
  rw [List.mem_cons]
  constructor
  ·rintro ((h4 | ⟨h4, h5⟩) | ⟨h4, h5⟩)
   ·exact .inl h4
   ·exact .inr ⟨.inl h4, h5⟩
   ·exact .inr ⟨.inr h4, h5⟩
  ·rintro (h4 | ⟨h4 | h4, h5⟩)
   ·exact .inl (.inl h4)
   ·exact .inl (.inr ⟨h4, h5⟩)
   ·exact .inr ⟨h4, h5⟩
theorem held_bits {s : List Wit} (h : checkS s = 0) : okM (heldM s) fun n k => ∃ w ∈ s, posI s w.id = k ∧ n ∈ w.slips := by
 have hl := (checkS_ok h).1
 have : ∀ (l : List Wit),(∀ w ∈ l, w ∈ s) → ∀ {es : List (Int × Int)} {B : Int → Nat → Prop}, okM es B → okM (l.foldl (heldF s) es) fun n k => B n k ∨ ∃ w ∈ l, posI s w.id = k ∧ n ∈ w.slips := by
  intro l
  induction l with
  | nil =>
   intro _ es B h1 n
   obtain ⟨v, h2, h3, h4⟩ := h1 n
   exact ⟨v, h2, h3, fun k => by rw [h4]; simp⟩
  | cons a r ih =>
   intro hs es B h1 n
   obtain ⟨hp, _⟩ := pos_get (hs a List.mem_cons_self)
   have hp32 : posI s a.id < 32 := by have := idsS_len s; omega
   obtain ⟨v, h2, h3, h4⟩ := ih (fun w hw => hs w (List.mem_cons_of_mem _ hw)) (okM_fold hp32 a.slips h1) n
   refine ⟨v, h2, h3, fun k => ?_⟩
   rw [h4]
   constructor
   ·rintro ((h5 | ⟨h5, h6⟩) | ⟨w, h5, h6⟩)
    ·exact .inl h5
    ·exact .inr ⟨a, List.mem_cons_self, h6.symm, h5⟩
    ·exact .inr ⟨w, List.mem_cons_of_mem _ h5, h6⟩
   ·rintro (h5 | ⟨w, h5, h6, h7⟩)
    ·exact .inl (.inl h5)
    ·rcases List.mem_cons.1 h5 with rfl | h5
     ·exact .inl (.inr ⟨h7, h6.symm⟩)
     ·exact .inr ⟨w, h5, h6, h7⟩
 have h0 : okM [] fun _ _ => False := fun n => ⟨0, rfl, by omega, fun k => by simp⟩
 intro n
 obtain ⟨v, h1, h2, h3⟩ := this s (fun w hw => hw) h0 n
 exact ⟨v, h1, h2, fun k => by rw [h3]; simp⟩
def vM (s : List Wit) (n : Int) : Int := (getM (heldM s) n).getD 0
def crB (s : List Wit) (a b : Int) : Bool := crossV (vM s a) (vM s b)
def crO (s : List Wit) : List Int → Option (Int × Int)
 | [] => none
 | a :: r => match r.find? (crB s a) with
  | some b => some (a, b)
  | none => crO s r
def crR (s : List Wit) : Option (Int × Int) := crO s (slipsL s)
theorem crO_some {s : List Wit} {a b : Int} : ∀ {l : List Int}, crO s l = some (a, b) → a ∈ l ∧ b ∈ l ∧ crB s a b = true
 | [], h => by unfold crO at h; cases h
 | x :: r, h => by
  unfold crO at h
  split at h
  ·rename_i y hy
   injection h with h
   injection h with h1 h2
   subst h1; subst h2
   exact ⟨List.mem_cons_self, List.mem_cons_of_mem _ (List.mem_of_find?_eq_some hy), by simpa using List.find?_some hy⟩
  ·obtain ⟨h1, h2, h3⟩ := crO_some h
   exact ⟨List.mem_cons_of_mem _ h1, List.mem_cons_of_mem _ h2, h3⟩
theorem pos_inj {s : List Wit} (h : checkS s = 0) {w u : Wit} (hw : w ∈ s) (hu : u ∈ s) (e : posI s w.id = posI s u.id) : w = u := by
 obtain ⟨h1, h2⟩ := pos_get hw
 obtain ⟨h3, h4⟩ := pos_get hu
 have h5 : w.id = u.id := by rw [← h2, ← h4]; congr 1
 have e1 := getW_own (checkS_nodup h) hw
 rw [h5, getW_own (checkS_nodup h) hu] at e1
 injection e1 with e1; exact e1.symm
theorem amL_ne {s : List Wit} (h : checkS s = 0) {v : Nat} (hv : v < 4294967296) (hne : v ≠ 0) (hb : ∀ k, v.testBit k = true → k < (idsS s).length) : amL (v : Int) (idsS s) ≠ [] := by
 obtain ⟨k, hk⟩ := ne_zero_bit.1 hne
 have hl := hb k hk
 have h24 := (checkS_ok h).1
 have hil := idsS_len s
 intro h0
 unfold amL amP at h0
 rw [List.filterMap_eq_nil_iff] at h0
 have := h0 k (List.mem_range.2 hl)
 rw [bitB_nat hv (by omega), hk] at this
 simp at this; omega
theorem cross_ne {s : List Wit} (h : checkS s = 0) {a b : Int} (hc : crB s a b = true) : amL (andV (vM s a) (vM s b)) (idsS s) ≠ [] ∧ amL (anV (vM s a) (vM s b)) (idsS s) ≠ [] ∧ amL (anV (vM s b) (vM s a)) (idsS s) ≠ [] := by
 obtain ⟨x, hx1, hx2, hx3⟩ := held_bits h a
 obtain ⟨y, hy1, hy2, hy3⟩ := held_bits h b
 unfold crB crossV at hc
 rw [show vM s a = (x : Int) from hx1, show vM s b = (y : Int) from hy1] at hc ⊢
 rw [andV_nat hx2 hy2, anV_nat, anV_nat] at hc ⊢
 simp only [Bool.and_eq_true, bne_iff_ne, ne_eq] at hc
 obtain ⟨h1, h2, h3⟩ := hc
 have bx : ∀ k, x.testBit k = true → k < (idsS s).length := fun k hk => by
  obtain ⟨w, hw, rfl, _⟩ := (hx3 k).1 hk; exact (pos_get hw).1
 have by' : ∀ k, y.testBit k = true → k < (idsS s).length := fun k hk => by
  obtain ⟨w, hw, rfl, _⟩ := (hy3 k).1 hk; exact (pos_get hw).1
 refine ⟨amL_ne h (Nat.lt_of_le_of_lt Nat.and_le_left hx2) (by omega) fun k hk => ?_, amL_ne h (anN_lt _ _) (by omega) fun k hk => ?_, amL_ne h (anN_lt _ _) (by omega) fun k hk => ?_⟩
 ·rw [Nat.testBit_and, Bool.and_eq_true] at hk; exact bx k hk.1
 ·rw [anN_bit hx2 hy2, Bool.and_eq_true] at hk; exact bx k hk.1
 ·rw [anN_bit hy2 hx2, Bool.and_eq_true] at hk; exact by' k hk.1
end Go.Am.Ds
end
section
namespace Go.Am.Ds
open Go Go.Am Go.Proofs
set_option maxRecDepth 100000
set_option maxHeartbeats 4000000
set_option linter.unusedSimpArgs false
set_option linter.unusedVariables false
attribute [local simp] vrun vwanted vyielded vop vopA vputAll VHeap.back hidI hidF backL bm Nat.testBit_eq_decide_div_mod_eq veval vevals vparts vO vbuiltin vlen vappend velems vcopy vmakeSlice vbuildSlice valloc vbox vmakeMap vload vpartT vpart vstore vfieldAddr vfield vindexAddr vindex vextract vslice vsliceZ vbounds vbnd zeroO vidx vlookup vmget vmapUpdate vdelete vclear vnilq vnilp vnils vbin vsc vsc1 vscs vscl abinOp aint ashift aunOp aconvert amaxs amax2 pvcV pvc pvcs tput tget vargs VHeap.get VHeap.alloc VHeap.put VHeap.drop VHeap.empty vlook vput vdrop psplice pfill preps chunk List.range List.range.loop vresults vresult vresultV frz frzL PV.isF PV.allF PV.scal PV.allS retP subT allFT PV.one PV.ids PV.idsL dropL beq_eq ble_dec blt_dec
attribute [local simp] zW tup2
@[local simp ↓ high] theorem aint_and32 (a b : Int) : aint .and .u32 a b = some (.int .u32 (andV a b)) := rfl
@[local simp ↓ high] theorem aint_an32 (a b : Int) : aint .andNot .u32 a b = some (.int .u32 (anV a b)) := rfl
@[local simp ↓ high] theorem ashr32 (a : Int) (k : Nat) : ashift .shr .u32 a (k : Int) = some (.int .u32 (shrV a k)) := by
 unfold ashift shrV
 have h : ¬ ((k : Int) < 0) := by omega
 rw [decide_eq_false h, cond_false, Int.toNat_natCast]; rfl
theorem p96 (x y : Int) : VPure Tryz.prog 96 [.int .u32 x, .int .u32 y] fun r => r = .tup [.agg [.int .u32 (andV x y), .int .u32 (anV x y), .int .u32 (anV y x)], .bool (crossV x y)] := by
 have hcx : crossV x y = (andV x y != 0 && (anV x y != 0 && anV y x != 0)) := rfl
 refine .of_body Tryz.func96 rfl rfl ?_
 refine .seq ?_
 refine .rn ?_
 refine .seq ?_
 refine .rn ?_
 refine .seq ?_
 refine .drawn (ms := [0,0,2,6,14,30,62,126,254,510,1022,2046,4094,8190,1023,32767]) (W := [14]) (items := [.op 0, .op 1, .op 2, .op 3, .op 4, .op 5, .op 6, .op 7, .op 8, .op 9, .op 10, .op 11, .op 12, .op 13, .op 14, .ck 11, .op 15]) rfl zz0 zz0 zz0 ?_
 refine .rx ?_
 refine .rx ?_
 refine .rx ?_
 refine .rx ?_
 refine .rx ?_
 refine .split (t := 21) rfl (fun c21 => ?_) (fun c21 => ?_)
 ·try rw [c21]
  try simp at c21
  have e1 : (andV x y != 0) = true := by simpa using c21
  refine .rx ?_
  refine .rx ?_
  refine .rx ?_
  refine .rx ?_
  refine .rx ?_
  refine .split (t := 26) rfl (fun c26 => ?_) (fun c26 => ?_)
  ·try rw [c26]
   try simp at c26
   have e2 : (anV x y != 0) = true := by simpa using c26
   refine .rx ?_
   refine .rx ?_
   refine .rx ?_
   refine .rx ?_
   refine .wr rfl rfl (by decide) (.stor (todo' := [11]) rfl rfl rfl rfl zz1 rfl (⟨⟨by decide +kernel, _, _, rfl, zz1⟩, trivial⟩) ?_)
   refine .ck rfl zz0 ?_
   refine .rx ?_
   refine .done ?_
   refine .ret ?_
   refine ⟨_, _, zz4,zz4, ?_⟩
   simp only [hcx, e1, e2, Bool.true_and]
  ·try rw [c26]
   try simp at c26
   have e2 : (anV x y != 0) = false := by simp [c26]
   refine .un rfl rfl (by decide) ?_
   refine .un rfl rfl (by decide) ?_
   refine .un rfl rfl (by decide) ?_
   refine .rx ?_
   refine .wr rfl rfl (by decide) (.stor (todo' := []) rfl rfl rfl rfl zz1 rfl trivial ?_)
   refine .ckU rfl rfl rfl ?_
   refine .rx ?_
   refine .done ?_
   refine .ret ?_
   refine ⟨_, _, zz4,zz4, ?_⟩
   simp only [hcx, e1, e2, Bool.false_and, Bool.and_false]
   simp [c26]
 ·try rw [c21]
  try simp at c21
  have e1 : (andV x y != 0) = false := by simp [c21]
  refine .un rfl rfl (by decide) ?_
  refine .un rfl rfl (by decide) ?_
  refine .un rfl rfl (by decide) ?_
  refine .rx ?_
  refine .rx ?_
  refine .un rfl rfl (by decide) ?_
  refine .un rfl rfl (by decide) ?_
  refine .un rfl rfl (by decide) ?_
  refine .rx ?_
  refine .wr rfl rfl (by decide) (.stor (todo' := []) rfl rfl rfl rfl zz1 rfl trivial ?_)
  refine .ckU rfl rfl rfl ?_
  refine .rx ?_
  refine .done ?_
  refine .ret ?_
  refine ⟨_, _, zz4,zz4, ?_⟩
  simp only [hcx, e1, Bool.false_and]
  simp [c21]
theorem p98 (m : Int) (l : List Int) (hl : l.length ≤ 24) : VPure Tryz.prog 98 [.int .u32 m, ints l] fun r => Soft r (ints (amL m l)) := by
 refine .of_body Tryz.func98 rfl rfl ?_
 refine .seq ?_
 refine .rn ?_
 refine .seq ?_
 refine .rn ?_
 refine .seq ?_
 refine .seq ?_
 refine .rn ?_
 refine .block ?_
 refine .loopS (fun k : Nat => ([(0, .int .u32 m),(5, .grow 0 (amP m l k).length true),(8, ints l),(9, .int .i64 l.length),(10, .int .i64 k)], ⟨1,[(0, .grow 1 ((amP m l k).map (.int .i64)))]⟩)) (fun k => k ≤ l.length) (fun k => l.length - k) 0 (by simp [amP]) (.mk [] [] zz14 zz15 rfl rfl rfl) ?_
 rintro k hk
 simp only at hk ⊢
 have hle := amP_le m l k
 refine .seq ?_
 refine .rn ?_
 refine .seq ?_
 refine .condS rfl (fun c11 => ?_) (fun c11 => ?_)
 ·try simp at c11
  have hw2 : IntKind.i64.wrap ((k : Int) + 1) = (k : Int) + 1 := wrap64 (by omega) (by omega)
  have hS := amP_succ m l k c11
  have hb : (amP m l k).length ≤ 4294967295 := by omega
  have hone : allOne [PV.int IntKind.i64 l[k]] = true := rfl
  refine .skip ?_
  refine .seq ?_
  refine .block ?_
  refine .seq ?_
  refine .rn ?_
  refine .seq ?_
  refine .rn ?_
  refine .condS rfl (fun c19 => ?_) (fun c19 => ?_)
  ·try simp at c19
   rw [if_pos (show bitB m k = true by unfold bitB; simp [c19])] at hS
   refine .rn ?_
   refine .rn ?_
   refine ⟨k + 1, c11,zz5,(.mk [] [(0,2)] zz14 zz15 rfl rfl rfl)⟩
  ·try simp at c19
   rw [if_neg (show ¬ bitB m k = true by unfold bitB; simp [c19])] at hS
   refine .skip ?_
   refine .rn ?_
   refine ⟨k + 1, c11,zz5,(.mk [] [] zz14 zz15 rfl rfl rfl)⟩
 ·try simp at c11
  have hk2 : k = l.length := by omega
  subst hk2
  refine .exit ?_
  refine .seq ?_
  refine .rn ?_
  refine .ret ?_
  refine ⟨_, _, zz4,zz4, ?_⟩
  exact soft_rfl rfl
theorem p98' (m : Int) (l : List Int) (hl : l.length ≤ 24) : VPure Tryz.prog 98 [.int .u32 m, ints l] fun r => r = ints (amL m l) := VPure.soft (p98 m l hl) rfl
theorem p97 (m : Int) (s : List Wit) (h : checkS s = 0) (hne : amL m (idsS s) ≠ []) : VPure Tryz.prog 97 [.int .u32 m, .vp (encS s).cells] fun r => r = .int .i64 ((amL m (idsS s)).headD 0) := by
 have hl24 := (checkS_ok h).1
 have hil := idsS_len s
 obtain ⟨b, r, hbr⟩ : ∃ b r, amL m (idsS s) = b :: r := by
  cases hc : amL m (idsS s) with
  | nil => exact absurd hc hne
  | cons b r => exact ⟨b, r, rfl⟩
 refine .of_body Tryz.func97 rfl rfl ?_
 refine .seq ?_
 refine .rn ?_
 refine .seq ?_
 refine .regionL [0,1,2,3,4,5,6] rfl zz0 ?_
 refine .rn [0,1] [2,3,4,5,6] ?_
 refine .step rfl rfl (.pure rfl rfl rfl Tryz.call99 (by decide) (p99' s (by omega)) (by first | rfl | simp [*]) ?_)
 rintro _ rfl
 refine .step rfl rfl (.pure rfl rfl rfl Tryz.call98 (by decide) ((by have h := p98' m (idsS s) (by omega); rw [hbr] at h; exact h)) (by first | rfl | simp [*]) ?_)
 rintro _ rfl
 refine .rn [4,5,6] [] ?_
 refine .done ?_
 refine .ret ?_
 refine ⟨_, _, zz4,zz4, ?_⟩
 first | rfl | (simp [*]; done) | (simp_all; done)
theorem p95 (s : List Wit) (h : checkS s = 0) : VPure Tryz.prog 95 [.vmap (kvs (kvM (heldM s)))] fun r => r = .tup [.int .i64 ((crR s).getD (0,0)).1, .int .i64 ((crR s).getD (0,0)).2, .bool (crR s).isSome] := by
 have hlen := heldM_len h
 have hsl := slipsL_len s
 have h125 : VPure Tryz.prog 125 [.vmap (kvs (kvM (heldM s)))] fun r => r = ints (slipsL s) := by
  have h := p125 (kvM (heldM s)) (by rw [kvM_keys]; exact heldM_nodup s) (by simp only [kvM, List.length_map]; omega)
  rw [kvM_keys] at h; exact h
 have hpf : ∀ n ∈ slipsL s, pfind .i64 n (kvs (kvM (heldM s))) = some (some (.int .u32 (vM s n))) := fun n hn => by
  have h1 : n ∈ (heldM s).map (·.1) := heldM_mem.2 (slipsL_mem.1 hn)
  have h2 := getM_mem.2 h1
  rw [pfind_kvM]
  unfold vM
  cases hg : getM (heldM s) n with
  | none => rw [hg] at h2; cases h2
  | some v => rfl
 have hL : (slipsL s).length ≤ 720 := by omega
 clear hsl hlen
 have hcr : crR s = crO s (slipsL s) := rfl
 generalize hM : kvs (kvM (heldM s)) = M at hpf h125
 generalize hLL : slipsL s = L at hpf hL h125 hcr
 refine .of_body Tryz.func95 rfl rfl ?_
 refine .seq ?_
 refine .rn ?_
 refine .scope ?_
 refine .seq ?_
 refine .regionL [0,1,2] rfl zz0 ?_
 refine .rn [0] [1,2] ?_
 refine .step rfl rfl (.pure rfl rfl rfl Tryz.call125 (by decide) (h125) (by first | rfl | simp [*]) ?_)
 rintro _ rfl
 refine .rn [2] [] ?_
 refine .done ?_
 refine .seq ?_
 refine .rn ?_
 refine .seq ?_
 refine .label ?_
 refine .seq ?_
 refine .seq ?_
 refine .rn ?_
 refine .block ?_
 refine .loopS (fun k : Nat => ([(0, .vmap M),(5, ints L),(6, .int .i64 0),(7, .int .i64 0),(8, .bool false),(15, ints L),(16, .int .i64 L.length),(17, .int .i64 k)], VHeap.empty)) (fun k => k ≤ L.length ∧ crR s = crO s (L.drop k)) (fun k => L.length - k) 0 ⟨by simp, by simpa using hcr⟩ (.pure (by simp [*]) (by simp)) ?_
 rintro k ⟨hk, hr⟩
 simp only at hk hr ⊢
 refine .seq ?_
 refine .rn ?_
 refine .seq ?_
 refine .condS rfl (fun c18 => ?_) (fun c18 => ?_)
 ·try simp at c18
  have hw2 : IntKind.i64.wrap ((k : Int) + 1) = (k : Int) + 1 := wrap64 (by omega) (by omega)
  rw [List.drop_eq_getElem_cons c18] at hr
  obtain ⟨D, hD⟩ : ∃ D, L.drop (k + 1) = D := ⟨_, rfl⟩
  have hDl : D.length = L.length - (k + 1) := by rw [← hD, List.length_drop]
  have hDm : ∀ x ∈ D, x ∈ L := fun x hx => List.mem_of_mem_drop (hD ▸ hx)
  have hDt : (L.map (PV.int .i64)).drop (k + 1) = D.map (.int .i64) := by rw [← List.map_drop, hD]
  have hDt2 : ((L.map (PV.int .i64)).drop (k + 1)).take (L.length - (k + 1)) = D.map (.int .i64) := by rw [hDt]; exact List.take_of_length_le (by rw [List.length_map]; omega)
  have hDt3 : List.take (L.length - (k + 1)) (D.map (PV.int .i64)) = D.map (.int .i64) := List.take_of_length_le (by rw [List.length_map]; omega)
  have hk1' : 0 ≤ (k : Int) + 1 ∧ (k : Int) + 1 ≤ (L.length : Int) := by omega
  have hDn : D.length ≤ 720 := by omega
  clear hDl
  have hpa := hpf L[k] (List.getElem_mem c18)
  have hk1 : k + 1 ≤ L.length := c18
  refine .skip ?_
  refine .seq ?_
  refine .block ?_
  refine .seq ?_
  refine .rn ?_
  refine .seq ?_
  refine .rn ?_
  refine .block ?_
  refine .loopS (fun j : Nat => ([(0, .vmap M),(5, ints L),(6, .int .i64 0),(7, .int .i64 0),(8, .bool false),(10, .int .i64 L[k]),(15, ints L),(16, .int .i64 L.length),(17, .int .i64 k),(25, ints D),(26, .int .i64 D.length),(27, .int .i64 j)], VHeap.empty)) (fun j => j ≤ D.length ∧ D.find? (crB s L[k]) = (D.drop j).find? (crB s L[k])) (fun j => D.length - j) 0 (by simp) (.pure (by simp [*]) (by simp)) ?_
  rintro j ⟨hj, hf⟩
  simp only at hj hf ⊢
  refine .seq ?_
  refine .rn ?_
  refine .seq ?_
  refine .condS rfl (fun c28 => ?_) (fun c28 => ?_)
  ·try simp at c28
   have hw3 : IntKind.i64.wrap ((j : Int) + 1) = (j : Int) + 1 := wrap64 (by omega) (by omega)
   rw [List.drop_eq_getElem_cons c28, List.find?_cons] at hf
   have hpb := hpf D[j] (hDm _ (List.getElem_mem c28))
   obtain ⟨cb, hcb⟩ : ∃ x, crB s L[k] D[j] = x := ⟨_, rfl⟩
   have h96 := p96 (vM s L[k]) (vM s D[j])
   rw [show crossV (vM s L[k]) (vM s D[j]) = cb from hcb] at h96
   rw [hcb] at hf
   refine .skip ?_
   refine .seq ?_
   refine .block ?_
   refine .seq ?_
   refine .rn ?_
   refine .seq ?_
   refine .regionL [0,1,2,3,4,5,6,7,8,9,10] rfl zz0 ?_
   refine .rn [0,1,2,3,4,5] [6,7,8,9,10] ?_
   refine .step rfl rfl (.pure rfl rfl rfl Tryz.call96 (by decide) (h96) (by first | rfl | simp [*]) ?_)
   rintro _ rfl
   refine .rn [7,8,9,10] [] ?_
   refine .done ?_
   refine .seq ?_
   refine .rn ?_
   refine .condS rfl (fun c41 => ?_) (fun c41 => ?_)
   ·try simp at c41
    rw [c41] at hf
    refine .seq ?_
    refine .rn ?_
    refine .exit ?_
    refine .seq ?_
    refine .rn ?_
    refine .ret ?_
    refine ⟨_, _, zz4,zz4, ?_⟩
    have hx : crR s = some (L[k], D[j]) := by rw [hr]; unfold crO; rw [hD, hf]
    rw [hx]; simp [c41]
   ·try simp at c41
    rw [c41] at hf
    refine .skip ?_
    refine .rn ?_
    refine ⟨j + 1, ⟨c28, hf⟩, zz5, .pure (by simp [*]) (by simp)⟩
  ·try simp at c28
   have hj2 : j = D.length := by omega
   rw [hj2, List.drop_length] at hf
   refine .exit ?_
   refine .rn ?_
   refine ⟨k + 1, ⟨c18, by
    rw [hr, hD]
    show (match D.find? (crB s L[k]) with | some b => some (L[k], b) | none => crO s D) = crO s D
    rw [hf]; rfl⟩, zz5, .pure (by simp [*]) (by simp)⟩
 ·try simp at c18
  have hk2 : k = L.length := by omega
  rw [hk2, List.drop_length] at hr
  refine .exit ?_
  refine .seq ?_
  refine .rn ?_
  refine .ret ?_
  refine ⟨_, _, zz4,zz4, ?_⟩
  rw [hr]; rfl
def zX : PV := .agg [.int .i64 0, .int .i64 0, .int .i64 0, .int .i64 0, .int .i64 0]
def crX (s : List Wit) (a b : Int) : PV := .agg [.int .i64 a, .int .i64 b, .int .i64 ((amL (andV (vM s a) (vM s b)) (idsS s)).headD 0), .int .i64 ((amL (anV (vM s a) (vM s b)) (idsS s)).headD 0), .int .i64 ((amL (anV (vM s b) (vM s a)) (idsS s)).headD 0)]
def crT (s : List Wit) : PV := if checkS s = 0 then (match crR s with
 | some p => .tup [crX s p.1 p.2, .bool true, .int .i64 0]
 | none => .tup [zX, .bool false, .int .i64 0]) else .tup [zX, .bool false, .int .i64 (checkS s)]
theorem p24 (s : List Wit) (hl : s.length < 4294967296) : VPure Tryz.prog 24 [encS s] fun r => r = crT s := by
 refine .of_body Tryz.func24 rfl rfl ?_
 refine .seq ?_
 refine .rn ?_
 refine .seq ?_
 refine .seq ?_
 refine .regionL [0,1,2] rfl zz0 ?_
 refine .rn [0] [1,2] ?_
 refine .step rfl rfl (.pure rfl rfl rfl Tryz.call35 (by decide) (p35 s hl) (by first | rfl | simp [*]) ?_)
 rintro _ rfl
 refine .rn [2] [] ?_
 refine .done ?_
 refine .seq ?_
 refine .rn ?_
 refine .condS rfl (fun c16 => ?_) (fun c16 => ?_)
 ·try simp at c16
  refine .seq ?_
  refine .rn ?_
  refine .ret ?_
  refine ⟨_, _, zz4,zz4, ?_⟩
  unfold crT zX; rw [if_neg c16]
 ·try simp at c16
  have hpf : ∀ n ∈ slipsL s, pfind .i64 n (kvs (kvM (heldM s))) = some (some (.int .u32 (vM s n))) := fun n hn => by
   have h1 : n ∈ (heldM s).map (·.1) := heldM_mem.2 (slipsL_mem.1 hn)
   have h2 := getM_mem.2 h1
   rw [pfind_kvM]
   unfold vM
   cases hg : getM (heldM s) n with
   | none => rw [hg] at h2; cases h2
   | some v => rfl
  have hT : crT s = match crR s with
   | some p => .tup [crX s p.1 p.2, .bool true, .int .i64 0]
   | none => .tup [zX, .bool false, .int .i64 0] := by unfold crT; rw [if_pos c16]
  have q95 := p95 s c16
  rcases hcr : crR s with _ | ⟨a, b⟩ <;> rw [hcr] at hT q95
  ·skip
   refine .skip ?_
   refine .seq ?_
   refine .regionL [0,1,2] rfl zz0 ?_
   refine .rn [0] [1,2] ?_
   refine .step rfl rfl (.pure rfl rfl rfl Tryz.call94 (by decide) (p94 s c16) (by first | rfl | simp [*]) ?_)
   rintro _ rfl
   refine .rn [2] [] ?_
   refine .done ?_
   refine .seq ?_
   refine .regionL [0,1,2,3,4,5,6,7,8] rfl zz0 ?_
   refine .rn [0] [1,2,3,4,5,6,7,8] ?_
   refine .step rfl rfl (.pure rfl rfl rfl Tryz.call95 (by decide) (q95) (by first | rfl | simp [*]) ?_)
   rintro _ rfl
   refine .rn [2,3,4,5,6,7,8] [] ?_
   refine .done ?_
   refine .seq ?_
   refine .seq ?_
   refine .rn ?_
   refine .condS rfl (fun c28 => ?_) (fun c28 => ?_)
   ·try simp at c28
    refine .seq ?_
    refine .rn ?_
    refine .ret ?_
    refine ⟨_, _, zz4,zz4, ?_⟩
    rw [hT]; rfl
   ·try simp at c28
  ·skip
   refine .skip ?_
   refine .seq ?_
   refine .regionL [0,1,2] rfl zz0 ?_
   refine .rn [0] [1,2] ?_
   refine .step rfl rfl (.pure rfl rfl rfl Tryz.call94 (by decide) (p94 s c16) (by first | rfl | simp [*]) ?_)
   rintro _ rfl
   refine .rn [2] [] ?_
   refine .done ?_
   refine .seq ?_
   refine .regionL [0,1,2,3,4,5,6,7,8] rfl zz0 ?_
   refine .rn [0] [1,2,3,4,5,6,7,8] ?_
   refine .step rfl rfl (.pure rfl rfl rfl Tryz.call95 (by decide) (q95) (by first | rfl | simp [*]) ?_)
   rintro _ rfl
   refine .rn [2,3,4,5,6,7,8] [] ?_
   refine .done ?_
   refine .seq ?_
   refine .seq ?_
   refine .rn ?_
   refine .condS rfl (fun c28 => ?_) (fun c28 => ?_)
   ·try simp at c28
   ·try simp at c28
    obtain ⟨hma, hmb, hab⟩ := crO_some (show crO s (slipsL s) = some (a, b) from hcr)
    have hpa := hpf a hma
    have hpb := hpf b hmb
    obtain ⟨n1, n2, n3⟩ := cross_ne c16 hab
    have h96 := p96 (vM s a) (vM s b)
    rw [show crossV (vM s a) (vM s b) = true from hab] at h96
    refine .skip ?_
    refine .seq ?_
    refine .regionL [0,1,2,3,4,5,6,7,8,9,10,11,12] rfl zz0 ?_
    refine .rn [0,1,2,3,4,5] [6,7,8,9,10,11,12] ?_
    refine .step rfl rfl (.pure rfl rfl rfl Tryz.call96 (by decide) (h96) (by first | rfl | simp [*]) ?_)
    rintro _ rfl
    refine .rn [7,8,9,10,11,12] [] ?_
    refine .done ?_
    refine .seq ?_
    refine .rec (vts2 := [(1, .vp (encS s).cells),(2, .ptr 1 0),(7, .int .i64 a),(8, .int .i64 b),(10, .ptr 2 0)]) (vh2 := ⟨3,[(2, .box [.int .u32 (andV (vM s a) (vM s b)), .int .u32 (anV (vM s a) (vM s b)), .int .u32 (anV (vM s b) (vM s a))]),(1, .box [.int .i64 0, .int .i64 0, .int .i64 0, .int .i64 0, .int .i64 0])]⟩) (.mk [0] [] (by repeat' (first | exact trivial | refine And.intro (Exists.intro _ (And.intro rfl ?_)) ?_ | exact Alt.fptr 0 0 _ rfl rfl rfl (Nat.zero_le _) | exact Alt.ptr _ _ _ (Nat.le_of_ble_eq_true rfl) rfl | (refine Alt.same _ ?_; first | rfl | (simp [*]; done)))) zz15 rfl rfl rfl) ?_
    refine .rn ?_
    refine .seq ?_
    refine .drawn (ms := [0,0,0,0,8,28,0,0,128,508,0,0,2048,8188,16383,32767,65535,131071]) (W := [5,9,13,15]) (items := [.op 0, .op 1, .op 2, .op 3, .op 4, .op 6, .op 7, .op 8, .op 10, .op 11, .op 12, .op 5, .ck 12, .ck 8, .op 9, .ck 12, .op 13, .op 14, .op 15, .op 16, .op 17]) rfl zz0 zz0 zz0 ?_
    refine .rx ?_
    refine .rx ?_
    refine .rx ?_
    refine .rx ?_
    refine .rx ?_
    refine .rx ?_
    refine .rx ?_
    refine .rx ?_
    refine .rx ?_
    refine .rx ?_
    refine .rx ?_
    refine .wr rfl rfl (by decide) (.pure rfl rfl rfl Tryz.call97 (by decide) (p97 (andV (vM s a) (vM s b)) s c16 n1) (by first | rfl | simp [*]) ?_)
    rintro _ rfl
    refine .ck rfl zz0 ?_
    refine .ck rfl zz0 ?_
    refine .wr rfl rfl (by decide) (.pure rfl rfl rfl Tryz.call97 (by decide) (p97 (anV (vM s a) (vM s b)) s c16 n2) (by first | rfl | simp [*]) ?_)
    rintro _ rfl
    refine .ck rfl zz0 ?_
    refine .wr rfl rfl (by decide) (.pure rfl rfl rfl Tryz.call97 (by decide) (p97 (anV (vM s b) (vM s a)) s c16 n3) (by first | rfl | simp [*]) ?_)
    rintro _ rfl
    refine .rx ?_
    refine .wr rfl rfl (by decide) (.vop zz1 (by decide) ?_)
    refine .rx ?_
    refine .rx ?_
    refine .done ?_
    refine .ret ?_
    refine ⟨_, _, zz4,zz4, ?_⟩
    rw [hT]; simp [crX]
end Go.Am.Ds
end
section
namespace Go.Am
open Go Go.Proofs
theorem VPure.takeKK {P : Program} {vh : VHeap} {f : FuncId} {args args2 : List PV} {R : PV → Prop} (hp : VPure P f args2 R) (ha2 : frzL vh args = some args2) : VCallK P f args vh fun v vh' => vh' = dropL (PV.idsL args) vh ∧ R v := fun lo g σ h args' ha s => by
 have hA := frzDL_alt vh (fun i => (PV.idsL args).contains i) args args2 (fun i hi => by simpa using hi) ha2
 have ha0 := AltL.ok s hA ha
 have hF : PV.allF args2 = true := frzL_isF vh args args2 ha2
 have hle := more_le (D := fun i => (PV.idsL args).contains i) s
 have hS : VS lo (g.more σ vh h fun i => (PV.idsL args).contains i) σ (dropL (PV.idsL args) vh) h := by
  refine ⟨fun j y hy => ?_, fun j k y z hy hz => s.inj j k y z (dropL_get _ _ _ _ hy).2 (dropL_get _ _ _ _ hz).2, fun j y hy => s.low j y (dropL_get _ _ _ _ hy).2, more_fz s, fun j y hy hl => ?_, s.lole⟩
  ·obtain ⟨k1, k2⟩ := s.obj j y (dropL_get _ _ _ _ hy).2
   rw [dropL_next]
   exact ⟨k1, k2.mono hle (Nat.le_refl _) (fun _ _ => rfl) k1 fun _ => rfl⟩
  ·obtain ⟨h1, h2⟩ := dropL_get _ _ _ _ hy
   unfold Fz.more
   rw [if_neg]
   ·exact s.dis j y h2 hl
   ·rintro ⟨i, z, k1, k2, k3, k4⟩
    have := s.inj i j z y k2 h2 k3 hl k4
    subst this
    exact h1 (by simpa using k1)
 have hVF : VF σ vh h σ (dropL (PV.idsL args) vh) h := ⟨Nat.le_refl _, fun _ _ _ => rfl, fun j y hy hl _ => ⟨j, y, (dropL_get _ _ _ _ hy).2, hl, rfl⟩⟩
 refine ((hp.callK (vh := dropL (PV.idsL args) vh) hF) lo _ σ h args' (ha0.isF hF).vr hS).mono fun r h' ⟨h0, g', σ', v, vh', h1, h2, h3, h4, h5, h6, h7, h8⟩ => ?_
 rw [dropL_next] at h4 h6
 exact ⟨h0, g', σ', v, vh', h1, h2, Fz.le_trans hle h3, h4, hVF.trans h5, h6, more_own.trans hVF h7, h8⟩
theorem VWStep.takeK {P : Program} {N b : Nat} {vts : VTs} {vh : VHeap} {ops : Array Oper} {todo : List Nat} {o : Oper} {next : List Nat → VTs → VHeap → Prop} {fo : Operand} {args : Array Operand} {aT : Array TypeId} {f : FuncId} {xs ys l args2 : List PV} {R : PV → Prop} (ho : o.op = .call ⟨.value fo, args, aT⟩)
  (hf : veval vts fo = some (.func f xs ys)) (hl : vevals vts args.toList = some l) (hcf : ∀ cs w, (callFunc f cs).run P w = .ok (.enter f cs) w) (hd : dstOK N o.dst = true)
  (hz : frzL vh (xs ++ l ++ ys) = some args2) (hp : VPure P f args2 R) (hn : ∀ r, R r → next (todoF ops todo o.dst) (tput vts o.dst r) (dropL (PV.idsL (xs ++ l ++ ys)) vh)) : VWStep P N b ops o todo next vts vh :=
 .callK ho hf hl hcf hd ((hp.takeKK hz).mono fun r vh' ⟨h1, h2⟩ => h1 ▸ hn r h2)
end Go.Am
end
section
namespace Go.Am.Ds
open Go Go.Am Go.Proofs
def hdB (s : List Wit) (p : Wit → Bool) (id : Int) : Bool := match getW s id with
 | some w => p w
 | none => false
def hdS (s : List Wit) (p : Wit → Bool) : List Int := (idsS s).filter (hdB s p)
def hasP (n : Int) (w : Wit) : Bool := decide (n ∈ w.slips)
theorem amL_filter {m : Int} {l : List Int} {q : Int → Bool} (h : ∀ i, ∀ hi : i < l.length, bitB m i = q l[i]) : amL m l = l.filter q := by
 have : ∀ k, k ≤ l.length → amP m l k = (l.take k).filter q := by
  intro k
  induction k with
  | zero => intro _; simp [amP]
  | succ k ih =>
   intro hk
   rw [amP_succ m l k (by omega), ih (by omega), List.take_succ_eq_append_getElem (by omega), List.filter_append, h k (by omega)]
   by_cases hq : q l[k] = true <;> simp [hq]
 unfold amL
 rw [this _ (Nat.le_refl _), List.take_length]
theorem amL_hd {s : List Wit} (h : checkS s = 0) {v : Nat} (hv : v < 4294967296) {p : Wit → Bool} (hb : ∀ k, v.testBit k = true ↔ ∃ w ∈ s, posI s w.id = k ∧ p w = true) : amL (v : Int) (idsS s) = hdS s p := by
 unfold hdS
 refine amL_filter fun i hi => ?_
 have h24 := (checkS_ok h).1
 have hil := idsS_len s
 rw [bitB_nat hv (by omega)]
 obtain ⟨w, hw, hwi⟩ := idsS_mem.1 (List.getElem_mem hi)
 have hg := getW_own (checkS_nodup h) hw
 have hpos : posI s w.id = i := by
  obtain ⟨h1, h2⟩ := pos_get hw
  have hs := idsS_sorted (checkS_nodup h)
  rw [List.pairwise_iff_getElem] at hs
  have e : (idsS s)[posI s w.id] = (idsS s)[i] := h2.trans hwi
  rcases Nat.lt_trichotomy (posI s w.id) i with h3 | h3 | h3
  ·have := hs _ _ h1 hi h3; omega
  ·exact h3
  ·have := hs _ _ hi h1 h3; omega
 unfold hdB
 rw [← hwi, hg]
 simp only
 rw [Bool.eq_iff_iff, hb]
 constructor
 ·rintro ⟨u, hu, h1, h2⟩
  have := pos_inj h hu hw (h1.trans hpos.symm)
  subst this; exact h2
 ·intro h1; exact ⟨w, hw, hpos, h1⟩
theorem am_one {s : List Wit} (h : checkS s = 0) (a : Int) : amL (vM s a) (idsS s) = hdS s (hasP a) := by
 obtain ⟨x, h1, h2, h3⟩ := held_bits h a
 rw [show vM s a = (x : Int) from h1]
 exact amL_hd h h2 fun k => by rw [h3]; simp [hasP]
theorem am_both {s : List Wit} (h : checkS s = 0) (a b : Int) : amL (andV (vM s a) (vM s b)) (idsS s) = hdS s fun w => hasP a w && hasP b w := by
 obtain ⟨x, hx1, hx2, hx3⟩ := held_bits h a
 obtain ⟨y, hy1, hy2, hy3⟩ := held_bits h b
 rw [show vM s a = (x : Int) from hx1, show vM s b = (y : Int) from hy1, andV_nat hx2 hy2]
 refine amL_hd h (Nat.lt_of_le_of_lt Nat.and_le_left hx2) fun k => ?_
 rw [Nat.testBit_and, Bool.and_eq_true, hx3, hy3]
 simp only [hasP, Bool.and_eq_true, decide_eq_true_eq]
 constructor
 ·rintro ⟨⟨w, hw, h1, h2⟩, u, hu, h3, h4⟩
  have := pos_inj h hw hu (h1.trans h3.symm)
  subst this; exact ⟨w, hw, h1, h2, h4⟩
 ·rintro ⟨w, hw, h1, h2, h3⟩; exact ⟨⟨w, hw, h1, h2⟩, w, hw, h1, h3⟩
theorem am_but {s : List Wit} (h : checkS s = 0) (a b : Int) : amL (anV (vM s a) (vM s b)) (idsS s) = hdS s fun w => hasP a w && !hasP b w := by
 obtain ⟨x, hx1, hx2, hx3⟩ := held_bits h a
 obtain ⟨y, hy1, hy2, hy3⟩ := held_bits h b
 rw [show vM s a = (x : Int) from hx1, show vM s b = (y : Int) from hy1, anV_nat]
 refine amL_hd h (anN_lt _ _) fun k => ?_
 rw [anN_bit hx2 hy2, Bool.and_eq_true, hx3, Bool.not_eq_true']
 simp only [hasP, Bool.and_eq_true, Bool.not_eq_true', decide_eq_true_eq, decide_eq_false_iff_not]
 constructor
 ·rintro ⟨⟨w, hw, h1, h2⟩, h3⟩
  refine ⟨w, hw, h1, h2, fun h4 => ?_⟩
  have := (hy3 k).2 ⟨w, hw, h1, h4⟩
  rw [h3] at this; cases this
 ·rintro ⟨w, hw, h1, h2, h3⟩
  refine ⟨⟨w, hw, h1, h2⟩, ?_⟩
  cases hb : y.testBit k with
  | false => rfl
  | true =>
   obtain ⟨u, hu, h4, h5⟩ := (hy3 k).1 hb
   have := pos_inj h hu hw (h4.trans h1.symm)
   subst this; exact absurd h5 h3
theorem hdS_len (s : List Wit) (p : Wit → Bool) : (hdS s p).length ≤ s.length := by
 unfold hdS
 have := List.length_filter_le (hdB s p) (idsS s)
 rw [idsS_len] at this; exact this
theorem hdS_mem {s : List Wit} (h : checkS s = 0) {p : Wit → Bool} {id : Int} : id ∈ hdS s p ↔ hdB s p id = true := by
 unfold hdS
 rw [List.mem_filter]
 refine ⟨fun h1 => h1.2, fun h1 => ⟨?_, h1⟩⟩
 unfold hdB at h1
 cases hg : getW s id with
 | none => rw [hg] at h1; cases h1
 | some w =>
  obtain ⟨hw, hi⟩ := getW_mem hg
  exact idsS_mem.2 ⟨w, hw, hi⟩
def hoF (s : List Wit) (n : Int) (k : Nat) : List Int := (s.take k).foldl (fun o w => if hasP n w = true then putS o w.id else o) []
theorem hoF_succ (s : List Wit) (n : Int) (k : Nat) (h : k < s.length) : hoF s n (k + 1) = if hasP n s[k] = true then putS (hoF s n k) s[k].id else hoF s n k := by
 unfold hoF; rw [List.take_succ_eq_append_getElem h, List.foldl_append]; rfl
theorem hoF_len (s : List Wit) (n : Int) : ∀ k, k ≤ s.length → (hoF s n k).length ≤ k
 | 0, _ => by simp [hoF]
 | k + 1, h => by
  rw [hoF_succ s n k (by omega)]
  have := hoF_len s n k (by omega)
  split
  ·have := putS_len (hoF s n k) s[k].id; omega
  ·omega
theorem hoF_all {s : List Wit} (h : checkS s = 0) (n : Int) : hoF s n s.length = hdS s (hasP n) := by
 unfold hoF
 rw [List.take_length]
 have h1 : ∀ (l : List Wit) (o : List Int), o.Pairwise (· < ·) → (l.foldl (fun o w => if hasP n w = true then putS o w.id else o) o).Pairwise (· < ·) := by
  intro l
  induction l with
  | nil => intro o h; exact h
  | cons a r ih =>
   intro o h
   refine ih _ ?_
   show List.Pairwise (· < ·) (if hasP n a = true then putS o a.id else o)
   split
   ·exact putS_sorted h
   ·exact h
 have h2 : ∀ (l : List Wit) (o : List Int) (b : Int), b ∈ l.foldl (fun o w => if hasP n w = true then putS o w.id else o) o ↔ b ∈ o ∨ ∃ w ∈ l, w.id = b ∧ hasP n w = true := by
  intro l
  induction l with
  | nil => intro o b; simp
  | cons a r ih =>
   intro o b
   rw [List.foldl_cons, ih]
   have : b ∈ (if hasP n a = true then putS o a.id else o) ↔ b ∈ o ∨ (a.id = b ∧ hasP n a = true) := by
    split
    ·rename_i h3; rw [putS_mem]; exact ⟨fun h4 => h4.imp_right fun h5 => ⟨h5.symm, h3⟩, fun h4 => h4.imp_right fun h5 => h5.1.symm⟩
    ·rename_i h3; exact ⟨.inl, fun h4 => h4.elim id fun h5 => absurd h5.2 h3⟩
   rw [this]
   constructor
   ·rintro ((h3 | h3) | ⟨w, h3, h4⟩)
    ·exact .inl h3
    ·exact .inr ⟨a, List.mem_cons_self, h3⟩
    ·exact .inr ⟨w, List.mem_cons_of_mem _ h3, h4⟩
   ·rintro (h3 | ⟨w, h3, h4⟩)
    ·exact .inl (.inl h3)
    ·rcases List.mem_cons.1 h3 with rfl | h3
     ·exact .inl (.inr h4)
     ·exact .inr ⟨w, h3, h4⟩
 have hs := idsS_sorted (checkS_nodup h)
 refine strict_eq (h1 s [] .nil) (hs.sublist List.filter_sublist) fun b => ?_
 rw [h2]
 constructor
 ·rintro (h3 | ⟨w, hw, rfl, h3⟩)
  ·cases h3
  ·refine (hdS_mem h).2 ?_
   unfold hdB; rw [getW_own (checkS_nodup h) hw]; exact h3
 ·intro h3
  have h4 := (hdS_mem h).1 h3
  unfold hdB at h4
  cases hg : getW s b with
  | none => rw [hg] at h4; cases h4
  | some w =>
   rw [hg] at h4
   obtain ⟨hw, hi⟩ := getW_mem hg
   exact .inr ⟨w, hw, hi, h4⟩
def slW (o : List Int) (w : Wit) : List Int := w.slips.foldl putS o
def slF (s : List Wit) (k : Nat) : List Int := (s.take k).foldl slW []
theorem foldP_sorted : ∀ (l : List Int) {o : List Int}, o.Pairwise (· < ·) → (l.foldl putS o).Pairwise (· < ·)
 | [], _, h => h
 | a :: r, _, h => foldP_sorted r (putS_sorted h)
theorem foldP_mem : ∀ (l o : List Int) (n : Int), n ∈ l.foldl putS o ↔ n ∈ o ∨ n ∈ l
 | [], o, n => by simp
 | a :: r, o, n => by
  rw [List.foldl_cons, foldP_mem r, putS_mem, List.mem_cons]
  constructor
  ·rintro ((h | h) | h)
   ·exact .inl h
   ·exact .inr (.inl h)
   ·exact .inr (.inr h)
  ·rintro (h | h | h)
   ·exact .inl (.inl h)
   ·exact .inl (.inr h)
   ·exact .inr h
theorem sl_all (s : List Wit) : s.foldl slW [] = slipsL s := by
 have h1 : ∀ (l : List Wit) (o : List Int), o.Pairwise (· < ·) → (l.foldl slW o).Pairwise (· < ·) := by
  intro l
  induction l with
  | nil => intro o h; exact h
  | cons a r ih => intro o h; exact ih _ (foldP_sorted _ h)
 have h2 : ∀ (l : List Wit) (o : List Int) (n : Int), n ∈ l.foldl slW o ↔ n ∈ o ∨ ∃ w ∈ l, n ∈ w.slips := by
  intro l
  induction l with
  | nil => intro o n; simp
  | cons a r ih =>
   intro o n
   rw [List.foldl_cons, ih, slW, foldP_mem]
   constructor
   ·rintro ((h | h) | ⟨w, h3, h4⟩)
    ·exact .inl h
    ·exact .inr ⟨a, List.mem_cons_self, h⟩
    ·exact .inr ⟨w, List.mem_cons_of_mem _ h3, h4⟩
   ·rintro (h | ⟨w, h3, h4⟩)
    ·exact .inl (.inl h)
    ·rcases List.mem_cons.1 h3 with rfl | h3
     ·exact .inl (.inr h4)
     ·exact .inr ⟨w, h3, h4⟩
 have hsl : (slipsL s).Pairwise (· < ·) := by
  unfold slipsL
  have e1 := List.pairwise_mergeSort (le := fun x y : Int => decide (x ≤ y)) (fun a b c h1 h2 => by simp only [decide_eq_true_eq] at *; omega) (fun a b => by simp only [Bool.or_eq_true, decide_eq_true_eq]; omega) ((heldM s).map (·.1))
  have e2 : (((heldM s).map (·.1)).mergeSort fun x y => decide (x ≤ y)).Nodup := (List.mergeSort_perm _ _).nodup_iff.2 (heldM_nodup s)
  exact (e1.and e2).imp fun ⟨h4, h5⟩ => by
   simp only [decide_eq_true_eq] at h4
   rcases Int.lt_or_eq_of_le h4 with h6 | h6
   ·exact h6
   ·exact absurd h6 h5
 refine strict_eq (h1 s [] .nil) hsl fun n => ?_
 rw [h2, slipsL_mem]; simp
def leP (b : Int) (wi : Bool) (w : Wit) : Bool := hasP b w == wi
def leR (s : List Wit) (a b : Int) (wi : Bool) : Int := ((hdS s (hasP a)).find? (hdB s (leP b wi))).getD 0
theorem leR_head {s : List Wit} (h : checkS s = 0) (a b : Int) (wi : Bool) : leR s a b wi = (hdS s fun w => hasP a w && leP b wi w).headD 0 := by
 have e : (hdS s fun w => hasP a w && leP b wi w) = (hdS s (hasP a)).filter (hdB s (leP b wi)) := by
  unfold hdS
  rw [List.filter_filter]
  apply List.filter_congr
  intro id _
  unfold hdB
  cases getW s id with
  | none => rfl
  | some w => exact Bool.and_comm _ _
 unfold leR
 rw [e, List.headD_eq_head?_getD, List.head?_filter]
theorem leR_t {s : List Wit} (h : checkS s = 0) (a b : Int) : leR s a b true = (amL (andV (vM s a) (vM s b)) (idsS s)).headD 0 := by
 rw [leR_head h, am_both h]
 congr 1
 unfold hdS; congr 1; funext id; unfold hdB
 cases getW s id with
 | none => rfl
 | some w => simp [leP]
theorem leR_f {s : List Wit} (h : checkS s = 0) (a b : Int) : leR s a b false = (amL (anV (vM s a) (vM s b)) (idsS s)).headD 0 := by
 rw [leR_head h, am_but h]
 congr 1
 unfold hdS; congr 1; funext id; unfold hdB
 cases getW s id with
 | none => rfl
 | some w => simp [leP]
theorem head_pos {s : List Wit} (h : checkS s = 0) (p : Wit → Bool) : 0 < (hdS s p).headD 0 ↔ hdS s p ≠ [] := by
 cases hc : hdS s p with
 | nil => simp
 | cons b r =>
  have hb : b ∈ hdS s p := by rw [hc]; exact List.mem_cons_self
  obtain ⟨w, hw, hwi⟩ := idsS_mem.1 (List.mem_filter.1 hb).1
  have := checkS_pos h w hw
  simp only [List.headD_cons]
  constructor
  ·intro _ h2; cases h2
  ·intro _; omega
theorem am_zero {s : List Wit} : amL 0 (idsS s) = [] := by
 rw [amL_filter (q := fun _ => false) fun i _ => ?_]
 ·simp
 ·unfold bitB shrV
  rw [Int.zero_fdiv]
  decide
theorem le_cross {s : List Wit} (h : checkS s = 0) (a b : Int) : (0 < leR s a b true ∧ 0 < leR s a b false ∧ 0 < leR s b a false) ↔ crB s a b = true := by
 constructor
 ·rw [leR_t h, leR_f h, leR_f h, am_both h, am_but h, am_but h, head_pos h, head_pos h, head_pos h, ← am_both h, ← am_but h, ← am_but h]
  rintro ⟨h1, h2, h3⟩
  unfold crB crossV
  simp only [Bool.and_eq_true, bne_iff_ne, ne_eq]
  refine ⟨fun h4 => h1 ?_, fun h4 => h2 ?_, fun h4 => h3 ?_⟩
  all_goals rw [h4]; exact am_zero
 ·intro hc
  obtain ⟨h1, h2, h3⟩ := cross_ne h hc
  rw [leR_t h, leR_f h, leR_f h]
  rw [am_both h] at h1 ⊢
  rw [am_but h] at h2 h3 ⊢
  rw [am_but h]
  exact ⟨(head_pos h _).2 h1,(head_pos h _).2 h2,(head_pos h _).2 h3⟩
end Go.Am.Ds
end
section
namespace Go.Am.Ds
open Go Go.Am Go.Proofs
set_option maxHeartbeats 4000000
set_option linter.unusedSimpArgs false
set_option linter.unusedVariables false
attribute [local simp] vrun vwanted vyielded vop veval vevals vparts vO vbuiltin vlen vappend velems vcopy vmakeSlice vbuildSlice valloc vbox vmakeMap vload vpartT vpart vstore vfieldAddr vfield vindexAddr vindex vextract vslice vsliceZ vbounds vbnd zeroO vidx vlookup vmget vmapUpdate vdelete vnilq vnilp vnils vbin vsc vsc1 vscs vscl abinOp aint ashift aunOp aconvert amaxs amax2 pvcV pvc pvcs tput tget vargs VHeap.get VHeap.alloc VHeap.put VHeap.drop VHeap.empty vlook vput vdrop psplice pfill preps chunk List.range List.range.loop vresults vresult vresultV frz frzL PV.isF PV.allF PV.scal PV.allS retP subT allFT PV.one PV.ids PV.idsL dropL beq_eq ble_dec blt_dec
attribute [local simp] zW tup2
theorem p127 (l : List (Int × Int)) (n : Int) : VPure Tryz.prog 127 [.vmap (kvs (kvM l)), .int .i64 n] fun r => r = .bool (decide (n ∈ l.map (·.1))) := by
 have hp := pfind_kvM n l
 have hm : decide (n ∈ l.map (·.1)) = (getM l n).isSome := by rw [Bool.eq_iff_iff, getM_mem, decide_eq_true_eq]
 rw [hm]
 generalize getM l n = g at hp ⊢
 refine .of_body Tryz.func127 rfl rfl ?_
 rcases g with _ | v
 ·
  refine .seq ?_
  refine .rn ?_
  refine .seq ?_
  refine .rn ?_
  refine .seq ?_
  refine .rn ?_
  refine .ret ?_
  refine ⟨_, _, zz4,zz4, ?_⟩
  first | rfl | (simp [*]; done) | (simp_all; done)
 ·
  refine .seq ?_
  refine .rn ?_
  refine .seq ?_
  refine .rn ?_
  refine .seq ?_
  refine .rn ?_
  refine .ret ?_
  refine ⟨_, _, zz4,zz4, ?_⟩
  first | rfl | (simp [*]; done) | (simp_all; done)
end Go.Am.Ds
end
section
namespace Go.Am.Ds
open Go Go.Am Go.Proofs
set_option maxRecDepth 100000
set_option maxHeartbeats 4000000
set_option linter.unusedSimpArgs false
set_option linter.unusedVariables false
attribute [local simp] vrun vwanted vyielded vop vopA vputAll VHeap.back hidI hidF backL bm Nat.testBit_eq_decide_div_mod_eq veval vevals vparts vO vbuiltin vlen vappend velems vcopy vmakeSlice vbuildSlice valloc vbox vmakeMap vload vpartT vpart vstore vfieldAddr vfield vindexAddr vindex vextract vslice vsliceZ vbounds vbnd zeroO vidx vlookup vmget vmapUpdate vdelete vclear vnilq vnilp vnils vbin vsc vsc1 vscs vscl abinOp aint ashift aunOp aconvert amaxs amax2 pvcV pvc pvcs tput tget vargs VHeap.get VHeap.alloc VHeap.put VHeap.drop VHeap.empty vlook vput vdrop psplice pfill preps chunk List.range List.range.loop vresults vresult vresultV frz frzL PV.isF PV.allF PV.scal PV.allS retP subT allFT PV.one PV.ids PV.idsL dropL beq_eq ble_dec blt_dec
attribute [local simp] zW tup2
theorem slF_succ (s : List Wit) (k : Nat) (h : k < s.length) : slF s (k + 1) = slW (slF s k) s[k] := by
 unfold slF; rw [List.take_succ_eq_append_getElem h, List.foldl_append]; rfl
theorem foldP_len : ∀ (l o : List Int),(l.foldl putS o).length ≤ o.length + l.length
 | [], o => by simp
 | a :: r, o => by
  have h1 := foldP_len r (putS o a)
  have h2 := putS_len o a
  rw [List.foldl_cons, List.length_cons]; omega
theorem slF_len {s : List Wit} (h : checkS s = 0) : ∀ k, k ≤ s.length → (slF s k).length ≤ k * 30
 | 0, _ => by simp [slF]
 | k + 1, hk => by
  have h1 := slF_len h k (by omega)
  rw [slF_succ s k (by omega), slW]
  have h2 := foldP_len s[k].slips (slF s k)
  have h3 := (witE_len ((checkS_ok h).2 s[k] (List.getElem_mem (by omega)))).1
  omega
theorem p126 (s : List Wit) (h : checkS s = 0) : VPure Tryz.prog 126 [encS s] fun r => r = ints (slipsL s) := by
 have hl24 := (checkS_ok h).1
 refine .of_body Tryz.func126 rfl rfl ?_
 refine .seq ?_
 refine .rn ?_
 refine .seq ?_
 refine .rn ?_
 refine .seq ?_
 refine .seq ?_
 refine .rn ?_
 refine .block ?_
 refine .loopS (fun k : Nat => ([(1, .ptr 0 0),(3, ints (slF s k)),(4, .int .i64 k)], ⟨1,[(0, .box [.vec (s.map encW)])]⟩)) (fun k => k ≤ s.length) (fun k => s.length - k) 0 (by simp) (.mk [] [] zz14 zz15 rfl rfl rfl) ?_
 rintro k hk
 simp only at hk ⊢
 have hfl := slF_len h k hk
 refine .seq ?_
 refine .seq ?_
 refine .rn ?_
 refine .condS rfl (fun c10 => ?_) (fun c10 => ?_)
 ·try simp at c10
  have hw2 : IntKind.i64.wrap ((k : Int) + 1) = (k : Int) + 1 := wrap64 (by omega) (by omega)
  have hE : encW s[k] = .agg [.int .i64 s[k].id, .int .i64 s[k].known, ints s[k].slips, ints s[k].mended, ints s[k].models, .int .i64 s[k].lo, .int .i64 s[k].hi] := rfl
  have hsl := (witE_len ((checkS_ok h).2 s[k] (List.getElem_mem c10))).1
  have hSk := slF_succ s k c10
  refine .skip ?_
  refine .seq ?_
  refine .block ?_
  refine .seq ?_
  refine .rn ?_
  refine .block ?_
  refine .loopS (fun q : Nat => ([(1, .ptr 0 0),(3, ints ((s[k].slips.take q).foldl putS (slF s k))),(4, .int .i64 k),(5, .int .i64 q)], ⟨1,[(0, .box [.vec (s.map encW)])]⟩)) (fun q => q ≤ s[k].slips.length) (fun q => s[k].slips.length - q) 0 (by simp) (.mk [] [] zz14 zz15 rfl rfl rfl) ?_
  rintro q hq
  simp only at hq ⊢
  have hql := foldP_len (s[k].slips.take q) (slF s k)
  rw [List.length_take] at hql
  refine .seq ?_
  refine .seq ?_
  refine .rn ?_
  refine .condS rfl (fun c21 => ?_) (fun c21 => ?_)
  ·try simp at c21
   have hw3 : IntKind.i64.wrap ((q : Int) + 1) = (q : Int) + 1 := wrap64 (by omega) (by omega)
   have hT : (s[k].slips.take (q + 1)).foldl putS (slF s k) = putS ((s[k].slips.take q).foldl putS (slF s k)) s[k].slips[q] := by rw [List.take_succ_eq_append_getElem c21, List.foldl_append]; rfl
   refine .skip ?_
   refine .seq ?_
   refine .block ?_
   refine .regionL [0,1,2,3,4,5,6,7,8,9,10,11] rfl zz0 ?_
   refine .rn [0,1,2,3,4,5,6,7,8,9] [10,11] ?_
   refine .step rfl rfl (.pure rfl rfl rfl Tryz.call147 (by decide) (p147 _ s[k].slips[q] (by omega)) (by first | rfl | simp [*]) ?_)
   rintro _ rfl
   refine .rn [11] [] ?_
   refine .done ?_
   refine .rn ?_
   refine ⟨q + 1, c21,zz5,(.mk [] [] zz14 zz15 rfl rfl rfl)⟩
  ·try simp at c21
   have hT2 : (s[k].slips.take q).foldl putS (slF s k) = slF s (k + 1) := by rw [List.take_of_length_le (by omega), hSk]; rfl
   refine .exit ?_
   refine .rn ?_
   refine ⟨k + 1, c10,zz5,(.mk [] [] zz14 zz15 rfl rfl rfl)⟩
 ·try simp at c10
  have hk2 : k = s.length := by omega
  have hall : slF s k = slipsL s := by rw [hk2]; unfold slF; rw [List.take_length]; exact sl_all s
  refine .exit ?_
  refine .seq ?_
  refine .rn ?_
  refine .ret ?_
  refine ⟨_, _, zz4,zz4, ?_⟩
  first | rfl | (simp [*]; done) | (simp_all; done)
theorem p128 (s : List Wit) (n : Int) (h : checkS s = 0) : VPure Tryz.prog 128 [encS s, .int .i64 n] fun r => r = ints (hdS s (hasP n)) := by
 have hl24 := (checkS_ok h).1
 refine .of_body Tryz.func128 rfl rfl ?_
 refine .seq ?_
 refine .rn ?_
 refine .seq ?_
 refine .rn ?_
 refine .seq ?_
 refine .seq ?_
 refine .rn ?_
 refine .block ?_
 refine .loopS (fun k : Nat => ([(1, .int .i64 n),(2, .ptr 0 0),(5, ints (hoF s n k)),(6, .int .i64 k)], ⟨1,[(0, .box [.vec (s.map encW)])]⟩)) (fun k => k ≤ s.length) (fun k => s.length - k) 0 (by simp) (.mk [] [] zz14 zz15 rfl rfl rfl) ?_
 rintro k hk
 simp only at hk ⊢
 have hfl := hoF_len s n k hk
 refine .seq ?_
 refine .seq ?_
 refine .rn ?_
 refine .condS rfl (fun c12 => ?_) (fun c12 => ?_)
 ·try simp at c12
  have hw2 : IntKind.i64.wrap ((k : Int) + 1) = (k : Int) + 1 := wrap64 (by omega) (by omega)
  have hE : encW s[k] = .agg [.int .i64 s[k].id, .int .i64 s[k].known, ints s[k].slips, ints s[k].mended, ints s[k].models, .int .i64 s[k].lo, .int .i64 s[k].hi] := rfl
  have hsl := (checkS_lens h s[k] (List.getElem_mem c12)).1
  have hS := hoF_succ s n k c12
  refine .skip ?_
  refine .seq ?_
  refine .block ?_
  refine .seq ?_
  refine .regionL [0,1,2,3,4,5,6,7,8] rfl zz0 ?_
  refine .rn [0,1,2,3,4,5,6] [7,8] ?_
  refine .step rfl rfl (.pure rfl rfl rfl Tryz.call121 (by decide) (p121 s[k].slips n hsl) (by first | rfl | simp [*]) ?_)
  rintro _ rfl
  refine .rn [8] [] ?_
  refine .done ?_
  refine .seq ?_
  refine .rn ?_
  refine .condS rfl (fun c23 => ?_) (fun c23 => ?_)
  ·try simp at c23
   rw [if_pos (show hasP n s[k] = true from decide_eq_true c23)] at hS
   refine .regionL [0,1,2,3,4,5,6,7,8] rfl zz0 ?_
   refine .rn [0,1,2,3,4,5,6] [7,8] ?_
   refine .step rfl rfl (.pure rfl rfl rfl Tryz.call147 (by decide) (p147 _ s[k].id (by omega)) (by first | rfl | simp [*]) ?_)
   rintro _ rfl
   refine .rn [8] [] ?_
   refine .done ?_
   refine .rn ?_
   refine ⟨k + 1, c12,zz5,(.mk [] [] zz14 zz15 rfl rfl rfl)⟩
  ·try simp at c23
   rw [if_neg (show ¬ hasP n s[k] = true by unfold hasP; simpa using c23)] at hS
   refine .skip ?_
   refine .rn ?_
   refine ⟨k + 1, c12,zz5,(.mk [] [] zz14 zz15 rfl rfl rfl)⟩
 ·try simp at c12
  have hk2 : k = s.length := by omega
  have hall : hoF s n k = hdS s (hasP n) := by rw [hk2]; exact hoF_all h n
  refine .exit ?_
  refine .seq ?_
  refine .rn ?_
  refine .ret ?_
  refine ⟨_, _, zz4,zz4, ?_⟩
  first | rfl | (simp [*]; done) | (simp_all; done)
theorem p171 (s : List Wit) (a b : Int) (wi : Bool) (h : checkS s = 0) : VPure Tryz.prog 171 [encS s, .int .i64 a, .int .i64 b, .bool wi] fun r => r = .int .i64 (leR s a b wi) := by
 have hl24 := (checkS_ok h).1
 have hLl := hdS_len s (hasP a)
 have hLm : ∀ x ∈ hdS s (hasP a), x ∈ idsS s := fun x hx => (List.mem_filter.1 hx).1
 have hR : leR s a b wi = ((hdS s (hasP a)).find? (hdB s (leP b wi))).getD 0 := rfl
 have q128 := p128 s a h
 generalize hdS s (hasP a) = L at hLl hLm hR q128
 refine .of_body Tryz.func171 rfl rfl ?_
 refine .seq ?_
 refine .rn ?_
 refine .seq ?_
 refine .regionL [0,1,2,3] rfl zz0 ?_
 refine .rn [0,1] [2,3] ?_
 refine .step rfl rfl (.pure rfl rfl rfl Tryz.call128 (by decide) (q128) (by first | rfl | simp [*]) ?_)
 rintro _ rfl
 refine .rn [3] [] ?_
 refine .done ?_
 refine .seq ?_
 refine .seq ?_
 refine .rn ?_
 refine .block ?_
 refine .loopS (fun k : Nat => ([(2, .int .i64 b),(3, .bool wi),(4, .ptr 0 0),(9, ints L),(10, .int .i64 k)], ⟨1,[(0, .box [.vec (s.map encW)])]⟩)) (fun k => k ≤ L.length ∧ L.find? (hdB s (leP b wi)) = (L.drop k).find? (hdB s (leP b wi))) (fun k => L.length - k) 0 (by simp) (.mk [] [] zz14 zz15 rfl rfl rfl) ?_
 rintro k ⟨hk, hf⟩
 simp only at hk hf ⊢
 refine .seq ?_
 refine .seq ?_
 refine .rn ?_
 refine .condS rfl (fun c18 => ?_) (fun c18 => ?_)
 ·try simp at c18
  have hw2 : IntKind.i64.wrap ((k : Int) + 1) = (k : Int) + 1 := wrap64 (by omega) (by omega)
  rw [List.drop_eq_getElem_cons c18, List.find?_cons] at hf
  obtain ⟨j, hj, hje, hgj⟩ := getW_some (find_ids (hLm _ (List.getElem_mem c18)))
  have hE2 : encW s[j] = .agg [.int .i64 s[j].id, .int .i64 s[j].known, ints s[j].slips, ints s[j].mended, ints s[j].models, .int .i64 s[j].lo, .int .i64 s[j].hi] := rfl
  have hmx : (if 0 < j then (j : Int) else 0) = (j : Int) := by split <;> omega
  have hsl := (checkS_lens h s[j] (List.getElem_mem hj)).1
  have hq : hdB s (leP b wi) L[k] = (decide (b ∈ s[j].slips) == wi) := by unfold hdB; rw [hgj]; rfl
  rw [hq] at hf
  refine .skip ?_
  refine .seq ?_
  refine .block ?_
  refine .seq ?_
  refine .drawn (ms := [0,1,0,0,0,24,56,124,252,511,1023,2047,0,8191,16383]) (W := [7,13]) (items := [.op 0, .op 1, .op 2, .op 3, .op 4, .op 5, .op 6, .op 12, .op 7, .ck 1, .op 8, .op 9, .op 10, .op 11, .op 13, .op 14]) rfl zz0 zz0 zz0 ?_
  refine .rx ?_
  refine .rx ?_
  refine .rx ?_
  refine .rx ?_
  refine .rx ?_
  refine .rx ?_
  refine .rx ?_
  refine .rx ?_
  refine .wr rfl rfl (by decide) (.pure rfl rfl rfl Tryz.call104 (by decide) ((by have h := p104 s L[k] (by omega); rw [hje] at h; exact h)) (by first | rfl | simp [*]) ?_)
  rintro _ rfl
  refine .ck rfl zz0 ?_
  refine .rx ?_
  refine .rx ?_
  refine .rx ?_
  refine .rx ?_
  refine .wr rfl rfl (by decide) (.pure rfl rfl rfl Tryz.call121 (by decide) (p121 s[j].slips b hsl) (by first | rfl | simp [*]) ?_)
  rintro _ rfl
  refine .rx ?_
  refine .done ?_
  refine .seq ?_
  refine .rn ?_
  refine .condS rfl (fun c37 => ?_) (fun c37 => ?_)
  ·try simp at c37
   rw [show (decide (b ∈ s[j].slips) == wi) = true by simpa using c37] at hf
   refine .seq ?_
   refine .rn ?_
   refine .ret ?_
   refine ⟨_, _, zz4,zz4, ?_⟩
   rw [hR, hf]; rfl
  ·try simp at c37
   rw [show (decide (b ∈ s[j].slips) == wi) = false by simpa using c37] at hf
   refine .skip ?_
   refine .rn ?_
   refine ⟨k + 1, ⟨c18, hf⟩, zz5,(.mk [] [] zz14 zz15 rfl rfl rfl)⟩
 ·try simp at c18
  have hk2 : k = L.length := by omega
  rw [hk2, List.drop_length] at hf
  refine .exit ?_
  refine .seq ?_
  refine .rn ?_
  refine .ret ?_
  refine ⟨_, _, zz4,zz4, ?_⟩
  rw [hR, hf]; rfl
theorem p131 (s : List Wit) (id n : Int) (wi : Bool) (h : checkS s = 0) : VPure Tryz.prog 131 [encS s, .int .i64 id, .int .i64 n, .bool wi] fun r => r = .bool (hdB s (leP n wi) id) := by
 have hl24 := (checkS_ok h).1
 refine .of_body Tryz.func131 rfl rfl ?_
 refine .seq ?_
 refine .rn ?_
 refine .seq ?_
 refine .regionL [0,1,2,3] rfl zz0 ?_
 refine .rn [0,1] [2,3] ?_
 refine .step rfl rfl (.pure rfl rfl rfl Tryz.call104 (by decide) (p104 s id (by omega)) (by first | rfl | simp [*]) ?_)
 rintro _ rfl
 refine .rn [3] [] ?_
 refine .done ?_
 refine .seq ?_
 refine .seq ?_
 refine .rn ?_
 refine .condS rfl (fun c15 => ?_) (fun c15 => ?_)
 ·try simp at c15
  have hg := getW_none c15
  refine .seq ?_
  refine .rn ?_
  refine .ret ?_
  refine ⟨_, _, zz4,zz4, ?_⟩
  unfold hdB; rw [hg]
 ·try simp at c15
  obtain ⟨i, hi, hie, hg⟩ := getW_some (show 0 ≤ findI s id by omega)
  have hE : encW s[i] = .agg [.int .i64 s[i].id, .int .i64 s[i].known, ints s[i].slips, ints s[i].mended, ints s[i].models, .int .i64 s[i].lo, .int .i64 s[i].hi] := rfl
  have hq : hdB s (leP n wi) id = (decide (n ∈ s[i].slips) == wi) := by unfold hdB; rw [hg]; rfl
  refine .skip ?_
  refine .seq ?_
  refine .regionL [0,1,2,3,4,5,6,7,8] rfl zz0 ?_
  refine .rn [0,1,2,3,4,5,6] [7,8] ?_
  refine .step rfl rfl (.pure rfl rfl rfl Tryz.call121 (by decide) (p121 s[i].slips n (checkS_lens h s[i] (List.getElem_mem hi)).1) (by first | rfl | simp [*]) ?_)
  rintro _ rfl
  refine .rn [8] [] ?_
  refine .done ?_
  refine .seq ?_
  refine .rn ?_
  refine .ret ?_
  refine ⟨_, _, zz4,zz4, ?_⟩
  rw [hq]
theorem p48a (s : List Wit) (hl : s.length < 4294967296) (hli : ∀ w ∈ s, w.slips.length < 4294967296 ∧ w.mended.length < 4294967296 ∧ w.models.length < 4294967296) : VPure Tryz.prog 48 [encS s] fun r => Soft r (.agg [ints (slipsR s), .int .i64 (checkS s)]) := by
 refine .of_body Tryz.func48 rfl rfl ?_
 refine .seq ?_
 refine .rn ?_
 refine .seq ?_
 refine .regionL [0,1,2] rfl zz0 ?_
 refine .rn [0] [1,2] ?_
 refine .step rfl rfl (.pure rfl rfl rfl Tryz.call52 (by decide) (p52 s hl hli) (by first | rfl | simp [*]) ?_)
 rintro _ rfl
 refine .rn [2] [] ?_
 refine .done ?_
 refine .seq ?_
 refine .seq ?_
 refine .rn ?_
 refine .condS rfl (fun c7 => ?_) (fun c7 => ?_)
 ·try simp at c7
  refine .seq ?_
  refine .rn ?_
  refine .ret ?_
  refine ⟨_, _, zz4,zz4, ?_⟩
  rw [show slipsR s = [] by unfold slipsR; rw [if_neg c7]]
  exact .agg' (AltL.cons .sl0v (AltL.cons (.same _ rfl) AltL.nil))
 ·try simp at c7
  refine .skip ?_
  refine .seq ?_
  refine .regionL [0,1,2,3] rfl zz0 ?_
  refine .rn [0] [1,2,3] ?_
  refine .step rfl rfl (.pure rfl rfl rfl Tryz.call126 (by decide) (p126 s c7) (by first | rfl | simp [*]) ?_)
  rintro _ rfl
  refine .rn [2,3] [] ?_
  refine .done ?_
  refine .ret ?_
  refine ⟨_, _, zz4,zz4, ?_⟩
  rw [show slipsR s = slipsL s by unfold slipsR; rw [if_pos c7], c7]
  exact soft_rfl rfl
def hlE (s : List Wit) (n : Int) : Int := if checkS s = 0 then (if hdS s (hasP n) = [] then 5 else 0) else checkS s
def hlL (s : List Wit) (n : Int) : List Int := if checkS s = 0 then hdS s (hasP n) else []
theorem p50a (s : List Wit) (n : Int) (hl : s.length < 4294967296) (hli : ∀ w ∈ s, w.slips.length < 4294967296 ∧ w.mended.length < 4294967296 ∧ w.models.length < 4294967296) : VPure Tryz.prog 50 [encS s, .int .i64 n] fun r => Soft r (.agg [ints (hlL s n), .int .i64 (hlE s n)]) := by
 refine .of_body Tryz.func50 rfl rfl ?_
 refine .seq ?_
 refine .rn ?_
 refine .seq ?_
 refine .regionL [0,1,2] rfl zz0 ?_
 refine .rn [0] [1,2] ?_
 refine .step rfl rfl (.pure rfl rfl rfl Tryz.call52 (by decide) (p52 s hl hli) (by first | rfl | simp [*]) ?_)
 rintro _ rfl
 refine .rn [2] [] ?_
 refine .done ?_
 refine .seq ?_
 refine .seq ?_
 refine .rn ?_
 refine .condS rfl (fun c10 => ?_) (fun c10 => ?_)
 ·try simp at c10
  refine .seq ?_
  refine .rn ?_
  refine .ret ?_
  refine ⟨_, _, zz4,zz4, ?_⟩
  rw [show hlL s n = [] by unfold hlL; rw [if_neg c10], show hlE s n = checkS s by unfold hlE; rw [if_neg c10]]
  exact .agg' (AltL.cons .sl0v (AltL.cons (.same _ rfl) AltL.nil))
 ·try simp at c10
  refine .skip ?_
  refine .seq ?_
  refine .regionL [0,1,2,3] rfl zz0 ?_
  refine .rn [0,1] [2,3] ?_
  refine .step rfl rfl (.pure rfl rfl rfl Tryz.call128 (by decide) (p128 s n c10) (by first | rfl | simp [*]) ?_)
  rintro _ rfl
  refine .rn [3] [] ?_
  refine .done ?_
  refine .seq ?_
  refine .seq ?_
  refine .rn ?_
  refine .condS rfl (fun c18 => ?_) (fun c18 => ?_)
  ·try simp at c18
   refine .seq ?_
   refine .rn ?_
   refine .ret ?_
   refine ⟨_, _, zz4,zz4, ?_⟩
   rw [show hlL s n = [] by unfold hlL; rw [if_pos c10, c18], show hlE s n = 5 by unfold hlE; rw [if_pos c10, if_pos c18]]
   exact .agg' (AltL.cons .sl0v (AltL.cons (.same _ rfl) AltL.nil))
  ·try simp at c18
   refine .skip ?_
   refine .seq ?_
   refine .rn ?_
   refine .ret ?_
   refine ⟨_, _, zz4,zz4, ?_⟩
   rw [show hlL s n = hdS s (hasP n) by unfold hlL; rw [if_pos c10], show hlE s n = 0 by unfold hlE; rw [if_pos c10, if_neg c18]]
   exact soft_rfl rfl
def gM (l : List (Int × Int)) (n : Int) : Int := (getM l n).getD 0
@[local simp ↓ high] theorem vlk (vh : VHeap) (l : List (Int × Int)) (n : Int) : vlookup Tryz.prog vh 139 (.vmap (kvs (kvM l))) (.int .i64 n) false = some (.int .u32 (gM l n)) := by
 unfold vlookup gM
 rw [ky139]
 simp only [vmget, pfind_kvM]
 cases getM l n with
 | none => simp
 | some v => simp
theorem hd_held {s : List Wit} (h : checkS s = 0) (n : Int) : n ∈ (heldM s).map (·.1) ↔ hdS s (hasP n) ≠ [] := by
 rw [heldM_mem]
 constructor
 ·rintro ⟨w, hw, hn⟩ h0
  have : w.id ∈ hdS s (hasP n) := (hdS_mem h).2 (by unfold hdB; rw [getW_own (checkS_nodup h) hw]; exact decide_eq_true hn)
  rw [h0] at this; cases this
 ·intro h0
  obtain ⟨b, hb⟩ := List.exists_mem_of_ne_nil _ h0
  have h1 := (hdS_mem h).1 hb
  unfold hdB at h1
  cases hg : getW s b with
  | none => rw [hg] at h1; cases h1
  | some w => rw [hg] at h1; exact ⟨w, (getW_mem hg).1, of_decide_eq_true h1⟩
theorem p49a (s : List Wit) (n : Int) (hl : s.length < 4294967296) : VPure Tryz.prog 49 [encS s, .int .i64 n] fun r => Soft r (.tup [ints (hlL s n), .int .i64 (hlE s n)]) := by
 refine .of_body Tryz.func49 rfl rfl ?_
 refine .seq ?_
 refine .rn ?_
 refine .seq ?_
 refine .seq ?_
 refine .regionL [0,1,2] rfl zz0 ?_
 refine .rn [0] [1,2] ?_
 refine .step rfl rfl (.pure rfl rfl rfl Tryz.call35 (by decide) (p35 s hl) (by first | rfl | simp [*]) ?_)
 rintro _ rfl
 refine .rn [2] [] ?_
 refine .done ?_
 refine .seq ?_
 refine .rn ?_
 refine .condS rfl (fun c11 => ?_) (fun c11 => ?_)
 ·try simp at c11
  refine .seq ?_
  refine .rn ?_
  refine .ret ?_
  refine ⟨_, _, zz4,zz4, ?_⟩
  rw [show hlL s n = [] by unfold hlL; rw [if_neg c11], show hlE s n = checkS s by unfold hlE; rw [if_neg c11]]
  exact soft_tup (AltL.cons .sl0v (AltL.cons (.same _ rfl) AltL.nil))
 ·try simp at c11
  have hl24 := (checkS_ok c11).1
  have hil := idsS_len s
  have hiff := hd_held c11 n
  have q98 := p98' (vM s n) (idsS s) (by omega)
  rw [am_one c11] at q98
  refine .skip ?_
  refine .seq ?_
  refine .regionL [0,1,2] rfl zz0 ?_
  refine .rn [0] [1,2] ?_
  refine .step rfl rfl (.pure rfl rfl rfl Tryz.call94 (by decide) (p94 s c11) (by first | rfl | simp [*]) ?_)
  rintro _ rfl
  refine .rn [2] [] ?_
  refine .done ?_
  refine .seq ?_
  refine .seq ?_
  refine .regionL [0,1,2,3] rfl zz0 ?_
  refine .rn [0,1] [2,3] ?_
  refine .step rfl rfl (.pure rfl rfl rfl Tryz.call127 (by decide) (p127 (heldM s) n) (by first | rfl | simp [*]) ?_)
  rintro _ rfl
  refine .rn [3] [] ?_
  refine .done ?_
  refine .condS rfl (fun c18 => ?_) (fun c18 => ?_)
  ·try simp at c18
   have h0 : hdS s (hasP n) = [] := Decidable.by_contra fun h1 => by have := hiff.2 h1; simp_all
   refine .seq ?_
   refine .rn ?_
   refine .ret ?_
   refine ⟨_, _, zz4,zz4, ?_⟩
   rw [show hlL s n = [] by unfold hlL; rw [if_pos c11, h0], show hlE s n = 5 by unfold hlE; rw [if_pos c11, if_pos h0]]
   exact soft_tup (AltL.cons .sl0v (AltL.cons (.same _ rfl) AltL.nil))
  ·try simp at c18
   have h0 : hdS s (hasP n) ≠ [] := by first | exact c18 | exact hiff.1 (by simpa using c18)
   refine .skip ?_
   refine .seq ?_
   refine .drawn (ms := [0,0,3,0,8,31,63,127]) (W := [4,5]) (items := [.op 0, .op 1, .op 2, .op 3, .op 4, .ck 2, .op 5, .op 6, .op 7]) rfl zz0 zz0 zz0 ?_
   refine .rx ?_
   refine .rx ?_
   refine .rx ?_
   refine .rx ?_
   refine .wr rfl rfl (by decide) (.pure rfl rfl rfl Tryz.call99 (by decide) (p99' s (by omega)) (by first | rfl | simp [*]) ?_)
   rintro _ rfl
   refine .ck rfl zz0 ?_
   refine .wr rfl rfl (by decide) (.pure rfl rfl rfl Tryz.call98 (by decide) (q98) (by first | rfl | simp [*]) ?_)
   rintro _ rfl
   refine .rx ?_
   refine .rx ?_
   refine .done ?_
   refine .ret ?_
   refine ⟨_, _, zz4,zz4, ?_⟩
   rw [show hlL s n = hdS s (hasP n) by unfold hlL; rw [if_pos c11], show hlE s n = 0 by unfold hlE; rw [if_pos c11, if_neg h0]]
   exact soft_rfl rfl
def crC (s : List Wit) : PV := match crR s with
 | some p => .agg [.int .i64 p.1, .int .i64 p.2, .int .i64 (leR s p.1 p.2 true), .int .i64 (leR s p.1 p.2 false), .int .i64 (leR s p.2 p.1 false), .bool true, .int .i64 0]
 | none => .agg [.int .i64 0, .int .i64 0, .int .i64 0, .int .i64 0, .int .i64 0, .bool false, .int .i64 0]
def crCE (s : List Wit) : PV := if checkS s = 0 then crC s else .agg [.int .i64 0, .int .i64 0, .int .i64 0, .int .i64 0, .int .i64 0, .bool false, .int .i64 (checkS s)]
theorem p129 (s : List Wit) (h : checkS s = 0) : VPure Tryz.prog 129 [encS s] fun r => r = crC s := by
 have hl24 := (checkS_ok h).1
 have hL : (slipsL s).length ≤ 720 := by rw [slipsL_len]; exact heldM_len h
 have hcr : crR s = crO s (slipsL s) := rfl
 have q126 := p126 s h
 generalize slipsL s = L at hL hcr q126
 refine .of_body Tryz.func129 rfl rfl ?_
 refine .seq ?_
 refine .rn ?_
 refine .seq ?_
 refine .regionL [0,1,2] rfl zz0 ?_
 refine .rn [0] [1,2] ?_
 refine .step rfl rfl (.pure rfl rfl rfl Tryz.call126 (by decide) (q126) (by first | rfl | simp [*]) ?_)
 rintro _ rfl
 refine .rn [2] [] ?_
 refine .done ?_
 refine .seq ?_
 refine .seq ?_
 refine .rn ?_
 refine .block ?_
 refine .loopS (fun k : Nat => ([(1, .ptr 0 0),(2, .ptr 1 0),(3, ints L),(4, .int .i64 k)], ⟨2,[(1, .box [.int .i64 0, .int .i64 0, .int .i64 0, .int .i64 0, .int .i64 0, .bool false, .int .i64 0]),(0, .box [.vec (s.map encW)])]⟩)) (fun k => k ≤ L.length ∧ crR s = crO s (L.drop k)) (fun k => L.length - k) 0 ⟨by simp, by simpa using hcr⟩ (.mk [] [] zz14 zz15 rfl rfl rfl) ?_
 rintro k ⟨hk, hr⟩
 simp only at hk hr ⊢
 refine .seq ?_
 refine .seq ?_
 refine .rn ?_
 refine .condS rfl (fun c12 => ?_) (fun c12 => ?_)
 ·try simp at c12
  have hw2 : IntKind.i64.wrap ((k : Int) + 1) = (k : Int) + 1 := wrap64 (by omega) (by omega)
  rw [List.drop_eq_getElem_cons c12] at hr
  refine .skip ?_
  refine .seq ?_
  refine .block ?_
  refine .seq ?_
  refine .rn ?_
  refine .block ?_
  refine .loopS (fun j : Nat => ([(1, .ptr 0 0),(2, .ptr 1 0),(3, ints L),(4, .int .i64 k),(5, .int .i64 j)], ⟨2,[(1, .box [.int .i64 0, .int .i64 0, .int .i64 0, .int .i64 0, .int .i64 0, .bool false, .int .i64 0]),(0, .box [.vec (s.map encW)])]⟩)) (fun j => k + 1 ≤ j ∧ j ≤ L.length ∧ (L.drop (k + 1)).find? (crB s L[k]) = (L.drop j).find? (crB s L[k])) (fun j => L.length - j) (k + 1) ⟨Nat.le_refl _, c12, rfl⟩ (.mk [] [] zz14 zz15 rfl rfl rfl) ?_
  rintro j ⟨hkj, hj, hf⟩
  simp only at hkj hj hf ⊢
  refine .seq ?_
  refine .seq ?_
  refine .rn ?_
  refine .condS rfl (fun c20 => ?_) (fun c20 => ?_)
  ·try simp at c20
   have hw3 : IntKind.i64.wrap ((j : Int) + 1) = (j : Int) + 1 := wrap64 (by omega) (by omega)
   rw [List.drop_eq_getElem_cons c20, List.find?_cons] at hf
   have hiff := le_cross h L[k] L[j]
   refine .skip ?_
   refine .seq ?_
   refine .block ?_
   refine .seq ?_
   refine .drawnF (ms := [0,0,3,7,0,0,48,112,0,0,0,1536,3584,0,0,24576,57344,130816,0,0,0,1572864,3670016,0,0,25165824,58720256,134217472,0,0,0,1610612736,3758096384,0,0,25769803776,60129542144,137438953216,274877906943,0,1099511627775]) (W := [17,27,37,40]) (As := [39]) (items := [.op 0, .op 1, .op 2, .op 3, .op 4, .op 5, .op 6, .op 7, .op 8, .op 9, .op 10, .op 11, .op 12, .op 13, .op 14, .op 15, .op 16, .op 18, .op 19, .op 20, .op 21, .op 22, .op 23, .op 24, .op 25, .op 26, .op 28, .op 29, .op 30, .op 31, .op 32, .op 33, .op 34, .op 35, .op 36, .op 39, .op 17, .ck 36, .ck 32, .ck 28, .ck 26, .ck 22, .ck 18, .ck 7, .ck 3, .op 27, .ck 36, .ck 32, .ck 28, .ck 7, .ck 3, .op 37, .ck 7, .ck 3, .op 38, .op 40]) rfl zz0 zz0 zz0 zz0 (by decide) ?_
   refine .rd rfl rfl (by decide) (by decide) (by decide) rfl (by decide) zz1 ?_
   refine .rd rfl rfl (by decide) (by decide) (by decide) rfl (by decide) zz1 ?_
   refine .rd rfl rfl (by decide) (by decide) (by decide) rfl (by decide) zz1 ?_
   refine .rd rfl rfl (by decide) (by decide) (by decide) rfl (by decide) zz1 ?_
   refine .rd rfl rfl (by decide) (by decide) (by decide) rfl (by decide) zz1 ?_
   refine .rd rfl rfl (by decide) (by decide) (by decide) rfl (by decide) zz1 ?_
   refine .rd rfl rfl (by decide) (by decide) (by decide) rfl (by decide) zz1 ?_
   refine .rd rfl rfl (by decide) (by decide) (by decide) rfl (by decide) zz1 ?_
   refine .rd rfl rfl (by decide) (by decide) (by decide) rfl (by decide) zz1 ?_
   refine .rd rfl rfl (by decide) (by decide) (by decide) rfl (by decide) zz1 ?_
   refine .rd rfl rfl (by decide) (by decide) (by decide) rfl (by decide) zz1 ?_
   refine .rd rfl rfl (by decide) (by decide) (by decide) rfl (by decide) zz1 ?_
   refine .rd rfl rfl (by decide) (by decide) (by decide) rfl (by decide) zz1 ?_
   refine .rd rfl rfl (by decide) (by decide) (by decide) rfl (by decide) zz1 ?_
   refine .rd rfl rfl (by decide) (by decide) (by decide) rfl (by decide) zz1 ?_
   refine .rd rfl rfl (by decide) (by decide) (by decide) rfl (by decide) zz1 ?_
   refine .rd rfl rfl (by decide) (by decide) (by decide) rfl (by decide) zz1 ?_
   refine .rd rfl rfl (by decide) (by decide) (by decide) rfl (by decide) zz1 ?_
   refine .rd rfl rfl (by decide) (by decide) (by decide) rfl (by decide) zz1 ?_
   refine .rd rfl rfl (by decide) (by decide) (by decide) rfl (by decide) zz1 ?_
   refine .rd rfl rfl (by decide) (by decide) (by decide) rfl (by decide) zz1 ?_
   refine .rd rfl rfl (by decide) (by decide) (by decide) rfl (by decide) zz1 ?_
   refine .rd rfl rfl (by decide) (by decide) (by decide) rfl (by decide) zz1 ?_
   refine .rd rfl rfl (by decide) (by decide) (by decide) rfl (by decide) zz1 ?_
   refine .rd rfl rfl (by decide) (by decide) (by decide) rfl (by decide) zz1 ?_
   refine .rd rfl rfl (by decide) (by decide) (by decide) rfl (by decide) zz1 ?_
   refine .rd rfl rfl (by decide) (by decide) (by decide) rfl (by decide) zz1 ?_
   refine .rd rfl rfl (by decide) (by decide) (by decide) rfl (by decide) zz1 ?_
   refine .rd rfl rfl (by decide) (by decide) (by decide) rfl (by decide) zz1 ?_
   refine .rd rfl rfl (by decide) (by decide) (by decide) rfl (by decide) zz1 ?_
   refine .rd rfl rfl (by decide) (by decide) (by decide) rfl (by decide) zz1 ?_
   refine .rd rfl rfl (by decide) (by decide) (by decide) rfl (by decide) zz1 ?_
   refine .rd rfl rfl (by decide) (by decide) (by decide) rfl (by decide) zz1 ?_
   refine .rd rfl rfl (by decide) (by decide) (by decide) rfl (by decide) zz1 ?_
   refine .rd rfl rfl (by decide) (by decide) (by decide) rfl (by decide) zz1 ?_
   refine .al rfl rfl (by decide) (by decide) (by decide) (by decide) zz1 ?_
   refine .wr rfl rfl (by decide) (.pure rfl rfl rfl Tryz.call171 (by decide) (p171 s L[k] L[j] true h) (by first | rfl | simp [*]) ?_)
   rintro _ rfl
   refine .ck rfl zz0 ?_
   refine .ck rfl zz0 ?_
   refine .ck rfl zz0 ?_
   refine .ck rfl zz0 ?_
   refine .ck rfl zz0 ?_
   refine .ck rfl zz0 ?_
   refine .ck rfl zz0 ?_
   refine .ck rfl zz0 ?_
   refine .wr rfl rfl (by decide) (.pure rfl rfl rfl Tryz.call171 (by decide) (p171 s L[k] L[j] false h) (by first | rfl | simp [*]) ?_)
   rintro _ rfl
   refine .ck rfl zz0 ?_
   refine .ck rfl zz0 ?_
   refine .ck rfl zz0 ?_
   refine .ck rfl zz0 ?_
   refine .ck rfl zz0 ?_
   refine .wr rfl rfl (by decide) (.pure rfl rfl rfl Tryz.call171 (by decide) (p171 s L[j] L[k] false h) (by first | rfl | simp [*]) ?_)
   rintro _ rfl
   refine .ck rfl zz0 ?_
   refine .ck rfl zz0 ?_
   refine .rd rfl rfl (by decide) (by decide) (by decide) rfl (by decide) zz1 ?_
   refine .wr rfl rfl (by decide) (.vop zz1 (by decide) ?_)
   refine .done ?_
   refine .seq ?_
   refine .regionL [0,1,2,3,4,5,6,7,8,9,10,11,12] rfl zz0 ?_
   refine .rn [0,1,2,3] [4,5,6,7,8,9,10,11,12] ?_
   refine .split (t := 65) rfl (fun c65 => ?_) (fun c65 => ?_)
   ·try rw [c65]
    try simp at c65
    refine .rn [4,5,6,7,8] [9,10,11,12] ?_
    refine .split (t := 70) rfl (fun c70 => ?_) (fun c70 => ?_)
    ·try rw [c70]
     try simp at c70
     refine .rn [9,10,11,12] [] ?_
     refine .done ?_
     refine .condS rfl (fun c74 => ?_) (fun c74 => ?_)
     ·try simp at c74
      have hc : crB s L[k] L[j] = true := hiff.1 ⟨c65, c70, c74⟩
      rw [hc] at hf
      refine .seq ?_
      refine .rn ?_
      refine .ret ?_
      refine ⟨_, _, zz4,zz4, ?_⟩
      have hx : crR s = some (L[k], L[j]) := by
       rw [hr]
       show (match (L.drop (k + 1)).find? (crB s L[k]) with | some b => some (L[k], b) | none => crO s (L.drop (k + 1))) = _
       rw [hf]
      simp [crC, hx]
     ·try simp at c74
      have hc : crB s L[k] L[j] = false := by
       cases hb : crB s L[k] L[j] with
       | false => rfl
       | true => have := hiff.2 hb; omega
      rw [hc] at hf
      refine .skip ?_
      refine .rn ?_
      refine ⟨j + 1, ⟨by omega, c20, hf⟩, zz5,(.mk [] [] zz14 zz15 rfl rfl rfl)⟩
    ·try rw [c70]
     try simp at c70
     have hc : crB s L[k] L[j] = false := by
      cases hb : crB s L[k] L[j] with
      | false => rfl
      | true => have := hiff.2 hb; omega
     rw [hc] at hf
     refine .rn [9,10,11,12] [] ?_
     refine .done ?_
     refine .condF rfl ?_
     refine .skip ?_
     refine .rn ?_
     refine ⟨j + 1, ⟨by omega, c20, hf⟩, zz5,(.mk [] [] zz14 zz15 rfl rfl rfl)⟩
   ·try rw [c65]
    try simp at c65
    have hc : crB s L[k] L[j] = false := by
     cases hb : crB s L[k] L[j] with
     | false => rfl
     | true => have := hiff.2 hb; omega
    rw [hc] at hf
    refine .rn [4,5,6,7,8,9,10,11,12] [] ?_
    refine .done ?_
    refine .condF rfl ?_
    refine .skip ?_
    refine .rn ?_
    refine ⟨j + 1, ⟨by omega, c20, hf⟩, zz5,(.mk [] [] zz14 zz15 rfl rfl rfl)⟩
  ·try simp at c20
   have hj2 : j = L.length := by omega
   rw [hj2, List.drop_length] at hf
   refine .exit ?_
   refine .rn ?_
   refine ⟨k + 1, ⟨c12, by
    rw [hr]
    show (match (L.drop (k + 1)).find? (crB s L[k]) with | some b => some (L[k], b) | none => crO s (L.drop (k + 1))) = _
    rw [hf]; rfl⟩, zz5,(.mk [] [] zz14 zz15 rfl rfl rfl)⟩
 ·try simp at c12
  have hk2 : k = L.length := by omega
  rw [hk2, List.drop_length] at hr
  refine .exit ?_
  refine .seq ?_
  refine .rn ?_
  refine .ret ?_
  refine ⟨_, _, zz4,zz4, ?_⟩
  unfold crC; rw [hr]; rfl
theorem p51 (s : List Wit) (hl : s.length < 4294967296) (hli : ∀ w ∈ s, w.slips.length < 4294967296 ∧ w.mended.length < 4294967296 ∧ w.models.length < 4294967296) : VPure Tryz.prog 51 [encS s] fun r => r = crCE s := by
 refine .of_body Tryz.func51 rfl rfl ?_
 refine .seq ?_
 refine .rn ?_
 refine .seq ?_
 refine .regionL [0,1,2] rfl zz0 ?_
 refine .rn [0] [1,2] ?_
 refine .step rfl rfl (.pure rfl rfl rfl Tryz.call52 (by decide) (p52 s hl hli) (by first | rfl | simp [*]) ?_)
 rintro _ rfl
 refine .rn [2] [] ?_
 refine .done ?_
 refine .seq ?_
 refine .seq ?_
 refine .rn ?_
 refine .condS rfl (fun c7 => ?_) (fun c7 => ?_)
 ·try simp at c7
  refine .seq ?_
  refine .rn ?_
  refine .ret ?_
  refine ⟨_, _, zz4,zz4, ?_⟩
  unfold crCE; rw [if_neg c7]
 ·try simp at c7
  obtain ⟨v1, v2, v3, v4, v5, b, hy⟩ : ∃ (v1 v2 v3 v4 v5 : Int) (b : Bool), crC s = .agg [.int .i64 v1, .int .i64 v2, .int .i64 v3, .int .i64 v4, .int .i64 v5, .bool b, .int .i64 0] := by
   unfold crC; cases crR s with
   | none => exact ⟨_, _, _, _, _, _, rfl⟩
   | some p => exact ⟨_, _, _, _, _, _, rfl⟩
  have q129 := p129 s c7
  have hE : crCE s = crC s := by unfold crCE; rw [if_pos c7]
  rw [hy] at q129 hE
  refine .skip ?_
  refine .seq ?_
  refine .regionL [0,1,2] rfl zz0 ?_
  refine .rn [0] [1,2] ?_
  refine .step rfl rfl (.pure rfl rfl rfl Tryz.call129 (by decide) (q129) (by first | rfl | simp [*]) ?_)
  rintro _ rfl
  refine .rn [2] [] ?_
  refine .done ?_
  refine .ret ?_
  refine ⟨_, _, zz4,zz4, ?_⟩
  rw [hE]
def ccB (s : List Wit) (A B x1 x2 x3 : Int) : Bool := !decide (A = B) && (hdB s (hasP A) x1 && (hdB s (hasP B) x1 && (hdB s (hasP A) x2 && (!hdB s (hasP B) x2 && (!hdB s (hasP A) x3 && hdB s (hasP B) x3)))))
def ccR (s : List Wit) (A B x1 x2 x3 : Int) : Int := if checkS s = 0 then (if ccB s A B x1 x2 x3 = true then 0 else 8) else checkS s
theorem p115h (s : List Wit) (h : checkS s = 0) (p : Wit → Bool) (x : Int) : VPure Tryz.prog 115 [.vmap (mp (setK [hdS s p])), .int .i64 x] fun r => r = .bool (hdB s p x) := by
 have := p115 (setK [hdS s p]) x
 rw [show decide (x ∈ setK [hdS s p]) = hdB s p x by rw [Bool.eq_iff_iff, decide_eq_true_eq, mem_setK1, hdS_mem h]] at this
 exact this
theorem cc_bool (a b1 b2 : Bool) {b3 b4 b5 b6 n4 n5 : Bool} (h1 : (b3 && n4) = (b3 && !b4)) (h2 : (b6 && n5) = (b6 && !b5)) : (a && (b1 && (b2 && (b3 && (!b4 && (!b5 && b6)))))) = (a && (b1 && (b2 && (b3 && (n4 && (n5 && b6)))))) := by
 revert h1 h2; cases a <;> cases b1 <;> cases b2 <;> cases b3 <;> cases b4 <;> cases b5 <;> cases b6 <;> cases n4 <;> cases n5 <;> decide
theorem hd_t (s : List Wit) (n id : Int) : hdB s (leP n true) id = hdB s (hasP n) id := by
 unfold hdB; cases getW s id with
 | none => rfl
 | some w => simp [leP]
theorem hd_f (s : List Wit) (n m id : Int) : (hdB s (hasP m) id && hdB s (leP n false) id) = (hdB s (hasP m) id && !hdB s (hasP n) id) := by
 unfold hdB; cases getW s id with
 | none => rfl
 | some w => simp [leP]
theorem p53 (s : List Wit) (A B x1 x2 x3 : Int) (hl : s.length < 4294967296) : VPure Tryz.prog 53 [encS s, .agg [.int .i64 A, .int .i64 B, .int .i64 x1, .int .i64 x2, .int .i64 x3]] fun r => r = .int .i64 (ccR s A B x1 x2 x3) := by
 refine .of_body Tryz.func53 rfl rfl ?_
 refine .seq ?_
 refine .rn ?_
 refine .seq ?_
 refine .seq ?_
 refine .regionL [0,1,2] rfl zz0 ?_
 refine .rn [0] [1,2] ?_
 refine .step rfl rfl (.pure rfl rfl rfl Tryz.call35 (by decide) (p35 s hl) (by first | rfl | simp [*]) ?_)
 rintro _ rfl
 refine .rn [2] [] ?_
 refine .done ?_
 refine .seq ?_
 refine .rn ?_
 refine .condS rfl (fun c13 => ?_) (fun c13 => ?_)
 ·try simp at c13
  refine .seq ?_
  refine .rn ?_
  refine .ret ?_
  refine ⟨_, _, zz4,zz4, ?_⟩
  unfold ccR; rw [if_neg c13]
 ·try simp at c13
  have hl24 := (checkS_ok c13).1
  have hil := idsS_len s
  have qA := p98' (vM s A) (idsS s) (by omega)
  have qB := p98' (vM s B) (idsS s) (by omega)
  rw [am_one c13] at qA qB
  have hlA := hdS_len s (hasP A)
  have hlB := hdS_len s (hasP B)
  have hR : ccR s A B x1 x2 x3 = if ccB s A B x1 x2 x3 = true then 0 else 8 := by unfold ccR; rw [if_pos c13]
  have hC : ccB s A B x1 x2 x3 = (!decide (A = B) && (hdB s (hasP A) x1 && (hdB s (hasP B) x1 && (hdB s (hasP A) x2 && (!hdB s (hasP B) x2 && (!hdB s (hasP A) x3 && hdB s (hasP B) x3)))))) := rfl
  have u1 := p115h s c13 (hasP A) x1
  have u2 := p115h s c13 (hasP B) x1
  have u3 := p115h s c13 (hasP A) x2
  have u4 := p115h s c13 (hasP B) x2
  have u5 := p115h s c13 (hasP A) x3
  have u6 := p115h s c13 (hasP B) x3
  generalize hdB s (hasP A) x1 = b1 at u1 hC
  generalize hdB s (hasP B) x1 = b2 at u2 hC
  generalize hdB s (hasP A) x2 = b3 at u3 hC
  generalize hdB s (hasP B) x2 = b4 at u4 hC
  generalize hdB s (hasP A) x3 = b5 at u5 hC
  generalize hdB s (hasP B) x3 = b6 at u6 hC
  refine .skip ?_
  refine .seq ?_
  refine .drawn (ms := [0,1,0,7,15,31]) (W := [1,3]) (items := [.op 0, .op 2, .op 1, .ck 2, .op 3, .op 4, .op 5]) rfl zz0 zz0 zz0 ?_
  refine .rx ?_
  refine .rx ?_
  refine .wr rfl rfl (by decide) (.pure rfl rfl rfl Tryz.call94 (by decide) (p94 s c13) (by first | rfl | simp [*]) ?_)
  rintro _ rfl
  refine .ck rfl zz0 ?_
  refine .wr rfl rfl (by decide) (.pure rfl rfl rfl Tryz.call99 (by decide) (p99' s (by omega)) (by first | rfl | simp [*]) ?_)
  rintro _ rfl
  refine .rx ?_
  refine .rx ?_
  refine .done ?_
  refine .seq ?_
  refine .drawn (ms := [0,0,2,7,0,31,63,127,0,0,512,1792,0,8191,16383,32767,65535,131071]) (W := [5,6,7,13,14,15]) (items := [.op 0, .op 1, .op 2, .op 3, .op 4, .op 8, .op 9, .op 10, .op 11, .op 12, .op 5, .ck 11, .ck 10, .op 6, .ck 11, .ck 10, .op 7, .ck 11, .ck 10, .op 13, .op 14, .op 15, .op 16, .op 17]) rfl zz0 zz0 zz0 ?_
  refine .rx ?_
  refine .rx ?_
  refine .rx ?_
  refine .rx ?_
  refine .rx ?_
  refine .rx ?_
  refine .rx ?_
  refine .rx ?_
  refine .rx ?_
  refine .rx ?_
  refine .wr rfl rfl (by decide) (.pure rfl rfl rfl Tryz.call98 (by decide) (qA) (by first | rfl | simp [*]) ?_)
  rintro _ rfl
  refine .ck rfl zz0 ?_
  refine .ck rfl zz0 ?_
  refine .wr rfl rfl (by decide) (.vop zz1 (by decide) ?_)
  refine .ck rfl zz0 ?_
  refine .ck rfl zz0 ?_
  refine .wr rfl rfl (by decide) (.takeK rfl rfl rfl Tryz.call116 (by decide) (by first | (simp <;> rfl) | (simp [*] <;> rfl) | (simp [*]; done)) (p116 [hdS s (hasP A)] (by simp) (by simp; omega)) ?_)
  rintro _ rfl
  refine .ck rfl zz0 ?_
  refine .ck rfl zz0 ?_
  refine .wr rfl rfl (by decide) (.pure rfl rfl rfl Tryz.call98 (by decide) (qB) (by first | rfl | simp [*]) ?_)
  rintro _ rfl
  refine .wr rfl rfl (by decide) (.vop zz1 (by decide) ?_)
  refine .wr rfl rfl (by decide) (.take rfl rfl rfl Tryz.call116 (by decide) (by first | (simp <;> rfl) | (simp [*] <;> rfl) | (simp [*]; done)) (p116 [hdS s (hasP B)] (by simp) (by simp; omega)) ?_)
  rintro _ rfl
  refine .rx ?_
  refine .rx ?_
  refine .done ?_
  refine .seq ?_
  refine .seq ?_
  refine .regionL [0,1,2,3,4,5,6,7,8,9,10,11,12,13,14,15,16,17,18,19,20,21,22,23,24,25,26,27,28,29,30,31,32,33,34,35,36,37,38,39,40,41,42,43,44] rfl zz0 ?_
  refine .rn [0,1,2,3,4,5] [6,7,8,9,10,11,12,13,14,15,16,17,18,19,20,21,22,23,24,25,26,27,28,29,30,31,32,33,34,35,36,37,38,39,40,41,42,43,44] ?_
  refine .split (t := 40) rfl (fun c40 => ?_) (fun c40 => ?_)
  ·try rw [c40]
   try simp at c40
   refine .rn [6,7,8,9,10,11,12,13,14,15,16,17,18,19,20,21,22,23,24,25,26,27,28,29,30,31,32,33,34,35,36,37,38,39,40,41,42,43,44] [] ?_
   refine .done ?_
   refine .condT rfl ?_
   refine .seq ?_
   refine .rn ?_
   refine .ret ?_
   refine ⟨_, _, zz4,zz4, ?_⟩
   rw [hR, hC]; simp_all
  ·try rw [c40]
   try simp at c40
   refine .rn [6,7,8] [9,10,11,12,13,14,15,16,17,18,19,20,21,22,23,24,25,26,27,28,29,30,31,32,33,34,35,36,37,38,39,40,41,42,43,44] ?_
   refine .step rfl rfl (.pure rfl rfl rfl Tryz.call115 (by decide) (u1) (by first | rfl | simp [*]) ?_)
   rintro _ rfl
   refine .rn [10,11,12] [13,14,15,16,17,18,19,20,21,22,23,24,25,26,27,28,29,30,31,32,33,34,35,36,37,38,39,40,41,42,43,44] ?_
   refine .split (t := 47) rfl (fun c47 => ?_) (fun c47 => ?_)
   ·try rw [c47]
    try simp at c47
    refine .rn [13,14,15,16,17,18,19,20,21,22,23,24,25,26,27,28,29,30,31,32,33,34,35,36,37,38,39,40,41,42,43,44] [] ?_
    refine .done ?_
    refine .condT rfl ?_
    refine .seq ?_
    refine .rn ?_
    refine .ret ?_
    refine ⟨_, _, zz4,zz4, ?_⟩
    rw [hR, hC]; simp_all
   ·try rw [c47]
    try simp at c47
    refine .rn [13,14,15] [16,17,18,19,20,21,22,23,24,25,26,27,28,29,30,31,32,33,34,35,36,37,38,39,40,41,42,43,44] ?_
    refine .step rfl rfl (.pure rfl rfl rfl Tryz.call115 (by decide) (u2) (by first | rfl | simp [*]) ?_)
    rintro _ rfl
    refine .rn [17,18,19] [20,21,22,23,24,25,26,27,28,29,30,31,32,33,34,35,36,37,38,39,40,41,42,43,44] ?_
    refine .split (t := 54) rfl (fun c54 => ?_) (fun c54 => ?_)
    ·try rw [c54]
     try simp at c54
     refine .rn [20,21,22,23,24,25,26,27,28,29,30,31,32,33,34,35,36,37,38,39,40,41,42,43,44] [] ?_
     refine .done ?_
     refine .condT rfl ?_
     refine .seq ?_
     refine .rn ?_
     refine .ret ?_
     refine ⟨_, _, zz4,zz4, ?_⟩
     rw [hR, hC]; simp_all
    ·try rw [c54]
     try simp at c54
     refine .rn [20,21,22] [23,24,25,26,27,28,29,30,31,32,33,34,35,36,37,38,39,40,41,42,43,44] ?_
     refine .step rfl rfl (.pure rfl rfl rfl Tryz.call115 (by decide) (u3) (by first | rfl | simp [*]) ?_)
     rintro _ rfl
     refine .rn [24,25,26] [27,28,29,30,31,32,33,34,35,36,37,38,39,40,41,42,43,44] ?_
     refine .split (t := 61) rfl (fun c61 => ?_) (fun c61 => ?_)
     ·try rw [c61]
      try simp at c61
      refine .rn [27,28,29,30,31,32,33,34,35,36,37,38,39,40,41,42,43,44] [] ?_
      refine .done ?_
      refine .condT rfl ?_
      refine .seq ?_
      refine .rn ?_
      refine .ret ?_
      refine ⟨_, _, zz4,zz4, ?_⟩
      rw [hR, hC]; simp_all
     ·try rw [c61]
      try simp at c61
      refine .rn [27,28,29] [30,31,32,33,34,35,36,37,38,39,40,41,42,43,44] ?_
      refine .step rfl rfl (.pure rfl rfl rfl Tryz.call115 (by decide) (u4) (by first | rfl | simp [*]) ?_)
      rintro _ rfl
      refine .rn [31,32] [33,34,35,36,37,38,39,40,41,42,43,44] ?_
      refine .split (t := 67) rfl (fun c67 => ?_) (fun c67 => ?_)
      ·try rw [c67]
       try simp at c67
       refine .rn [33,34,35,36,37,38,39,40,41,42,43,44] [] ?_
       refine .done ?_
       refine .condT rfl ?_
       refine .seq ?_
       refine .rn ?_
       refine .ret ?_
       refine ⟨_, _, zz4,zz4, ?_⟩
       rw [hR, hC]; simp_all
      ·try rw [c67]
       try simp at c67
       refine .rn [33,34,35] [36,37,38,39,40,41,42,43,44] ?_
       refine .step rfl rfl (.pure rfl rfl rfl Tryz.call115 (by decide) (u5) (by first | rfl | simp [*]) ?_)
       rintro _ rfl
       refine .rn [37,38] [39,40,41,42,43,44] ?_
       refine .split (t := 73) rfl (fun c73 => ?_) (fun c73 => ?_)
       ·try rw [c73]
        try simp at c73
        refine .rn [39,40,41,42,43,44] [] ?_
        refine .done ?_
        refine .condT rfl ?_
        refine .seq ?_
        refine .rn ?_
        refine .ret ?_
        refine ⟨_, _, zz4,zz4, ?_⟩
        rw [hR, hC]; simp_all
       ·try rw [c73]
        try simp at c73
        refine .rn [39,40,41] [42,43,44] ?_
        refine .step rfl rfl (.pure rfl rfl rfl Tryz.call115 (by decide) (u6) (by first | rfl | simp [*]) ?_)
        rintro _ rfl
        refine .rn [43,44] [] ?_
        refine .done ?_
        refine .condS rfl (fun c79 => ?_) (fun c79 => ?_)
        ·try simp at c79
         refine .seq ?_
         refine .rn ?_
         refine .ret ?_
         refine ⟨_, _, zz4,zz4, ?_⟩
         rw [hR, hC]; simp_all
        ·try simp at c79
         refine .skip ?_
         refine .seq ?_
         refine .rn ?_
         refine .ret ?_
         refine ⟨_, _, zz4,zz4, ?_⟩
         rw [hR, hC]; simp_all
theorem p54 (s : List Wit) (A B x1 x2 x3 : Int) (hl : s.length < 4294967296) (hli : ∀ w ∈ s, w.slips.length < 4294967296 ∧ w.mended.length < 4294967296 ∧ w.models.length < 4294967296) : VPure Tryz.prog 54 [encS s, .agg [.int .i64 A, .int .i64 B, .int .i64 x1, .int .i64 x2, .int .i64 x3]] fun r => r = .int .i64 (ccR s A B x1 x2 x3) := by
 refine .of_body Tryz.func54 rfl rfl ?_
 refine .seq ?_
 refine .rn ?_
 refine .seq ?_
 refine .regionL [0,1,2] rfl zz0 ?_
 refine .rn [0] [1,2] ?_
 refine .step rfl rfl (.pure rfl rfl rfl Tryz.call52 (by decide) (p52 s hl hli) (by first | rfl | simp [*]) ?_)
 rintro _ rfl
 refine .rn [2] [] ?_
 refine .done ?_
 refine .seq ?_
 refine .seq ?_
 refine .rn ?_
 refine .condS rfl (fun c15 => ?_) (fun c15 => ?_)
 ·try simp at c15
  refine .seq ?_
  refine .rn ?_
  refine .ret ?_
  refine ⟨_, _, zz4,zz4, ?_⟩
  unfold ccR; rw [if_neg c15]
 ·try simp at c15
  have hR : ccR s A B x1 x2 x3 = if ccB s A B x1 x2 x3 = true then 0 else 8 := by unfold ccR; rw [if_pos c15]
  have hC : ccB s A B x1 x2 x3 = (!decide (A = B) && (hdB s (hasP A) x1 && (hdB s (hasP B) x1 && (hdB s (hasP A) x2 && (!hdB s (hasP B) x2 && (!hdB s (hasP A) x3 && hdB s (hasP B) x3)))))) := rfl
  have u1 := p131 s x1 A true c15
  have u2 := p131 s x1 B true c15
  have u3 := p131 s x2 A true c15
  have u4 := p131 s x2 B false c15
  have u5 := p131 s x3 A false c15
  have u6 := p131 s x3 B true c15
  have f1 := hd_f s B A x2
  have f2 := hd_f s A B x3
  rw [hd_t] at u1 u2 u3 u6
  generalize hdB s (hasP A) x1 = b1 at u1 hC
  generalize hdB s (hasP B) x1 = b2 at u2 hC
  generalize hdB s (hasP A) x2 = b3 at u3 hC f1
  generalize hdB s (leP B false) x2 = n4 at u4 f1
  generalize hdB s (hasP B) x2 = b4 at hC f1
  generalize hdB s (leP A false) x3 = n5 at u5 f2
  generalize hdB s (hasP A) x3 = b5 at hC f2
  generalize hdB s (hasP B) x3 = b6 at u6 hC f2
  rw [cc_bool (!decide (A = B)) b1 b2 f1 f2] at hC
  clear f1 f2 b4 b5
  refine .skip ?_
  refine .seq ?_
  refine .regionL [0,1,2,3,4,5,6] rfl zz0 ?_
  refine .rn [0,1,2,3,4] [5,6] ?_
  refine .step rfl rfl (.pure rfl rfl rfl Tryz.call131 (by decide) (u1) (by first | rfl | simp [*]) ?_)
  rintro _ rfl
  refine .rn [6] [] ?_
  refine .done ?_
  refine .seq ?_
  refine .regionL [0,1,2,3,4,5,6] rfl zz0 ?_
  refine .rn [0,1,2,3,4] [5,6] ?_
  refine .step rfl rfl (.pure rfl rfl rfl Tryz.call131 (by decide) (u2) (by first | rfl | simp [*]) ?_)
  rintro _ rfl
  refine .rn [6] [] ?_
  refine .done ?_
  refine .seq ?_
  refine .regionL [0,1,2,3,4,5,6] rfl zz0 ?_
  refine .rn [0,1,2,3,4] [5,6] ?_
  refine .step rfl rfl (.pure rfl rfl rfl Tryz.call131 (by decide) (u3) (by first | rfl | simp [*]) ?_)
  rintro _ rfl
  refine .rn [6] [] ?_
  refine .done ?_
  refine .seq ?_
  refine .regionL [0,1,2,3,4,5,6] rfl zz0 ?_
  refine .rn [0,1,2,3,4] [5,6] ?_
  refine .step rfl rfl (.pure rfl rfl rfl Tryz.call131 (by decide) (u4) (by first | rfl | simp [*]) ?_)
  rintro _ rfl
  refine .rn [6] [] ?_
  refine .done ?_
  refine .seq ?_
  refine .regionL [0,1,2,3,4,5,6] rfl zz0 ?_
  refine .rn [0,1,2,3,4] [5,6] ?_
  refine .step rfl rfl (.pure rfl rfl rfl Tryz.call131 (by decide) (u5) (by first | rfl | simp [*]) ?_)
  rintro _ rfl
  refine .rn [6] [] ?_
  refine .done ?_
  refine .seq ?_
  refine .regionL [0,1,2,3,4,5,6] rfl zz0 ?_
  refine .rn [0,1,2,3,4] [5,6] ?_
  refine .step rfl rfl (.pure rfl rfl rfl Tryz.call131 (by decide) (u6) (by first | rfl | simp [*]) ?_)
  rintro _ rfl
  refine .rn [6] [] ?_
  refine .done ?_
  refine .seq ?_
  refine .seq ?_
  refine .regionL [0,1,2,3,4,5,6,7,8,9,10,11,12,13,14,15,16,17,18,19,20,21,22,23,24,25,26,27,28] rfl zz0 ?_
  refine .rn [0,1,2,3,4,5] [6,7,8,9,10,11,12,13,14,15,16,17,18,19,20,21,22,23,24,25,26,27,28] ?_
  refine .split (t := 58) rfl (fun c58 => ?_) (fun c58 => ?_)
  ·try rw [c58]
   try simp at c58
   refine .rn [6,7,8,9,10,11,12,13,14,15,16,17,18,19,20,21,22,23,24,25,26,27,28] [] ?_
   refine .done ?_
   refine .condT rfl ?_
   refine .seq ?_
   refine .rn ?_
   refine .ret ?_
   refine ⟨_, _, zz4,zz4, ?_⟩
   rw [hR, hC]; simp_all
  ·try rw [c58]
   try simp at c58
   refine .rn [6,7,8,9] [10,11,12,13,14,15,16,17,18,19,20,21,22,23,24,25,26,27,28] ?_
   refine .split (t := 62) rfl (fun c62 => ?_) (fun c62 => ?_)
   ·try rw [c62]
    try simp at c62
    refine .rn [10,11,12,13,14,15,16,17,18,19,20,21,22,23,24,25,26,27,28] [] ?_
    refine .done ?_
    refine .condT rfl ?_
    refine .seq ?_
    refine .rn ?_
    refine .ret ?_
    refine ⟨_, _, zz4,zz4, ?_⟩
    rw [hR, hC]; simp_all
   ·try rw [c62]
    try simp at c62
    refine .rn [10,11,12,13] [14,15,16,17,18,19,20,21,22,23,24,25,26,27,28] ?_
    refine .split (t := 66) rfl (fun c66 => ?_) (fun c66 => ?_)
    ·try rw [c66]
     try simp at c66
     refine .rn [14,15,16,17,18,19,20,21,22,23,24,25,26,27,28] [] ?_
     refine .done ?_
     refine .condT rfl ?_
     refine .seq ?_
     refine .rn ?_
     refine .ret ?_
     refine ⟨_, _, zz4,zz4, ?_⟩
     rw [hR, hC]; simp_all
    ·try rw [c66]
     try simp at c66
     refine .rn [14,15,16,17] [18,19,20,21,22,23,24,25,26,27,28] ?_
     refine .split (t := 70) rfl (fun c70 => ?_) (fun c70 => ?_)
     ·try rw [c70]
      try simp at c70
      refine .rn [18,19,20,21,22,23,24,25,26,27,28] [] ?_
      refine .done ?_
      refine .condT rfl ?_
      refine .seq ?_
      refine .rn ?_
      refine .ret ?_
      refine ⟨_, _, zz4,zz4, ?_⟩
      rw [hR, hC]; simp_all
     ·try rw [c70]
      try simp at c70
      refine .rn [18,19,20,21] [22,23,24,25,26,27,28] ?_
      refine .split (t := 74) rfl (fun c74 => ?_) (fun c74 => ?_)
      ·try rw [c74]
       try simp at c74
       refine .rn [22,23,24,25,26,27,28] [] ?_
       refine .done ?_
       refine .condT rfl ?_
       refine .seq ?_
       refine .rn ?_
       refine .ret ?_
       refine ⟨_, _, zz4,zz4, ?_⟩
       rw [hR, hC]; simp_all
      ·try rw [c74]
       try simp at c74
       refine .rn [22,23,24,25] [26,27,28] ?_
       refine .split (t := 78) rfl (fun c78 => ?_) (fun c78 => ?_)
       ·try rw [c78]
        try simp at c78
        refine .rn [26,27,28] [] ?_
        refine .done ?_
        refine .condT rfl ?_
        refine .seq ?_
        refine .rn ?_
        refine .ret ?_
        refine ⟨_, _, zz4,zz4, ?_⟩
        rw [hR, hC]; simp_all
       ·try rw [c78]
        try simp at c78
        refine .rn [26,27,28] [] ?_
        refine .done ?_
        refine .condS rfl (fun c81 => ?_) (fun c81 => ?_)
        ·try simp at c81
         refine .seq ?_
         refine .rn ?_
         refine .ret ?_
         refine ⟨_, _, zz4,zz4, ?_⟩
         rw [hR, hC]; simp_all
        ·try simp at c81
         refine .skip ?_
         refine .seq ?_
         refine .rn ?_
         refine .ret ?_
         refine ⟨_, _, zz4,zz4, ?_⟩
         rw [hR, hC]; simp_all
theorem p48 (s : List Wit) (hl : s.length < 4294967296) (hli : ∀ w ∈ s, w.slips.length < 4294967296 ∧ w.mended.length < 4294967296 ∧ w.models.length < 4294967296) : VPure Tryz.prog 48 [encS s] fun r => r = .agg [ints (slipsR s), .int .i64 (checkS s)] := VPure.soft (p48a s hl hli) rfl
theorem p50 (s : List Wit) (n : Int) (hl : s.length < 4294967296) (hli : ∀ w ∈ s, w.slips.length < 4294967296 ∧ w.mended.length < 4294967296 ∧ w.models.length < 4294967296) : VPure Tryz.prog 50 [encS s, .int .i64 n] fun r => r = .agg [ints (hlL s n), .int .i64 (hlE s n)] := VPure.soft (p50a s n hl hli) rfl
theorem p49 (s : List Wit) (n : Int) (hl : s.length < 4294967296) : VPure Tryz.prog 49 [encS s, .int .i64 n] fun r => r = .tup [ints (hlL s n), .int .i64 (hlE s n)] := VPure.soft (p49a s n hl) rfl
theorem cr_both (s : List Wit) : ∃ v1 v2 v3 v4 v5 : Int, ∃ b : Bool, crT s = .tup [.agg [.int .i64 v1, .int .i64 v2, .int .i64 v3, .int .i64 v4, .int .i64 v5], .bool b, .int .i64 (checkS s)] ∧ crCE s = .agg [.int .i64 v1, .int .i64 v2, .int .i64 v3, .int .i64 v4, .int .i64 v5, .bool b, .int .i64 (checkS s)] := by
 unfold crT crCE
 by_cases h : checkS s = 0
 ·rw [if_pos h, if_pos h, h]
  unfold crC
  cases crR s with
  | none => exact ⟨_, _, _, _, _, _, rfl, rfl⟩
  | some p =>
   refine ⟨_, _, _, _, _, _, rfl, ?_⟩
   simp only
   rw [leR_t h, leR_f h, leR_f h]
 ·rw [if_neg h, if_neg h]
  exact ⟨_, _, _, _, _, _, rfl, rfl⟩
attribute [local simp] zW tup2
set_option maxHeartbeats 40000000
theorem g32 : (Tryz.prog.stoodInHeld 32 || Tryz.prog.eqGuardType Tryz.prog.depth 32) = false := by decide +kernel
theorem n32 : (match Tryz.prog.underlying 32 with | some (.struct fs) => fs.toList.map (fun f => (f.name == "_", tsz Tryz.prog f.type, f.type, f.offset)) | _ => []) = [(false, some 1,3,0),(false, some 1,3,1),(false, some 1,3,2),(false, some 1,3,3),(false, some 1,3,4)] := by decide +kernel
theorem eq32 (a b c d e : Int) : aeql Tryz.prog 32 (.agg #[.int .i64 a, .int .i64 b, .int .i64 c, .int .i64 d, .int .i64 e]) (.agg #[.int .i64 a, .int .i64 b, .int .i64 c, .int .i64 d, .int .i64 e]) = some true := by
 have hn := n32
 have hg := g32
 unfold aeql
 simp only
 cases hu : Tryz.prog.underlying 32 with
 | none => rw [hu] at hn; simp at hn
 | some td =>
  cases td with
  | struct fs =>
   rw [hu] at hn
   simp only at hn ⊢
   rw [hg]
   simp only [cond_false]
   generalize fs.toList = l at hn
   rcases l with _ | ⟨f1, _ | ⟨f2, _ | ⟨f3, _ | ⟨f4, _ | ⟨f5, _ | ⟨f6, r⟩⟩⟩⟩⟩⟩
   ·simp at hn
   ·simp at hn
   ·simp at hn
   ·simp at hn
   ·simp at hn
   ·simp only [List.map_cons, List.map_nil, List.cons.injEq, Prod.mk.injEq, and_true] at hn
    obtain ⟨⟨k1, k2, k3, k4⟩, ⟨l1, l2, l3, l4⟩, ⟨m1, m2, m3, m4⟩, ⟨o1, o2, o3, o4⟩, ⟨q1, q2, q3, q4⟩⟩ := hn
    simp only [fieldsEq, k1, k2, k3, k4, l1, l2, l3, l4, m1, m2, m3, m4, o1, o2, o3, o4, q1, q2, q3, q4, cond_false]
    have ha : tagg Tryz.prog 3 = some false := by decide +kernel
    have hu3 : Tryz.prog.underlying 3 = some (.int .i64) := by rfl
    simp [apart, ha, simpleEq, hu3]
   ·simp at hn
  | _ => rw [hu] at hn; simp at hn
theorem few_40b {s : List Wit} (h : fewS s = true) : s.length ≤ 40 := by
 unfold fewS at h
 simp only [Bool.and_eq_true, Bool.not_eq_true', Bool.or_eq_true, decide_eq_true_eq] at h
 omega
theorem p8 (s : List Wit) (n A B x1 x2 x3 : Int) (hl : s.length < 4611686018427387904) (sanB : Bool) (hsan : VPure Tryz.prog 22 [] fun r => r = .bool sanB) (hsb : sanB = true) : VPure Tryz.prog 8 [encS s, .int .i64 n, .agg [.int .i64 A, .int .i64 B, .int .i64 x1, .int .i64 x2, .int .i64 x3]] fun r => r = .bool true := by
 refine .of_body Tryz.func8 rfl rfl ?_
 refine .seq ?_
 refine .rn ?_
 refine .seq ?_
 refine .seq ?_
 refine .regionL [0,1,2] rfl zz0 ?_
 refine .rn [0] [1,2] ?_
 refine .step rfl rfl (.pure rfl rfl rfl Tryz.call26 (by decide) (p26 s hl) (by first | rfl | simp [*]) ?_)
 rintro _ rfl
 refine .rn [2] [] ?_
 refine .done ?_
 refine .condS rfl (fun c20 => ?_) (fun c20 => ?_)
 ·try simp at c20
  refine .seq ?_
  refine .regionL [0,1] rfl zz0 ?_
  refine .step rfl rfl (.pure rfl rfl rfl Tryz.call22 (by decide) (hsan) (by first | rfl | simp [*]) ?_)
  rintro _ rfl
  refine .rn [1] [] ?_
  refine .done ?_
  refine .ret ?_
  refine ⟨_, _, zz4,zz4, ?_⟩
  first | rfl | (simp [*]; done) | (simp_all; done)
 ·try simp at c20
  obtain ⟨hl2, hw⟩ := fewS_len c20
  have h40 := few_40b c20
  have q47 := p47 s hl2
  have q48 := p48 s hl2 hw
  have q49 := p49 s n hl2
  have q50 := p50 s n hl2 hw
  have q24 := p24 s hl2
  have q51 := p51 s hl2 hw
  have q35 := p35 s hl2
  have q52 := p52 s hl2 hw
  have q53 := p53 s A B x1 x2 x3 hl2
  have q54 := p54 s A B x1 x2 x3 hl2 hw
  obtain ⟨v1, v2, v3, v4, v5, b, hT, hC⟩ := cr_both s
  rw [hT] at q24
  rw [hC] at q51
  have hlen1 : (slipsR s).length ≤ 720 := by
   unfold slipsR; split
   ·rename_i h; rw [slipsL_len]; exact heldM_len h
   ·simp
  have hlen2 : (hlL s n).length ≤ 40 := by
   unfold hlL; split
   ·exact Nat.le_trans (hdS_len s _) h40
   ·simp
  have he32 := eq32 v1 v2 v3 v4 v5
  generalize slipsR s = L1 at q47 q48 hlen1
  generalize hlL s n = L2 at q49 q50 hlen2
  generalize hlE s n = E2 at q49 q50
  generalize ccR s A B x1 x2 x3 = cc at q53 q54
  generalize checkS s = ck at q47 q48 q24 q51 q35 q52
  clear hT hC
  refine .skip ?_
  refine .seq ?_
  refine .regionL [0,1,2,3,4,5,6] rfl zz0 ?_
  refine .rn [0] [1,2,3,4,5,6] ?_
  refine .step rfl rfl (.pure rfl rfl rfl Tryz.call47 (by decide) (q47) (by first | rfl | simp [*]) ?_)
  rintro _ rfl
  refine .rn [2,3,4,5,6] [] ?_
  refine .done ?_
  refine .seq ?_
  refine .regionL [0,1,2,3] rfl zz0 ?_
  refine .rn [0] [1,2,3] ?_
  refine .step rfl rfl (.pure rfl rfl rfl Tryz.call48 (by decide) (q48) (by first | rfl | simp [*]) ?_)
  rintro _ rfl
  refine .rn [2,3] [] ?_
  refine .done ?_
  refine .seq ?_
  refine .regionL [0,1,2,3,4,5,6,7] rfl zz0 ?_
  refine .rn [0,1] [2,3,4,5,6,7] ?_
  refine .step rfl rfl (.pure rfl rfl rfl Tryz.call49 (by decide) (q49) (by first | rfl | simp [*]) ?_)
  rintro _ rfl
  refine .rn [3,4,5,6,7] [] ?_
  refine .done ?_
  refine .seq ?_
  refine .regionL [0,1,2,3,4] rfl zz0 ?_
  refine .rn [0,1] [2,3,4] ?_
  refine .step rfl rfl (.pure rfl rfl rfl Tryz.call50 (by decide) (q50) (by first | rfl | simp [*]) ?_)
  rintro _ rfl
  refine .rn [3,4] [] ?_
  refine .done ?_
  refine .seq ?_
  refine .regionL [0,1,2,3,4,5,6,7,8,9] rfl zz0 ?_
  refine .rn [0] [1,2,3,4,5,6,7,8,9] ?_
  refine .step rfl rfl (.pure rfl rfl rfl Tryz.call24 (by decide) (q24) (by first | rfl | simp [*]) ?_)
  rintro _ rfl
  refine .rn [2,3,4,5,6,7,8,9] [] ?_
  refine .done ?_
  refine .seq ?_
  refine .regionL [0,1,2,3] rfl zz0 ?_
  refine .rn [0] [1,2,3] ?_
  refine .step rfl rfl (.pure rfl rfl rfl Tryz.call51 (by decide) (q51) (by first | rfl | simp [*]) ?_)
  rintro _ rfl
  refine .rn [2,3] [] ?_
  refine .done ?_
  refine .seq ?_
  refine .drawn (ms := [0,1,0,7,15,31,63,63,191,511,1023,2047,4095,4095,12287,32767,65535,131071,262143,262143,786431,2097151,4194303,8388607,16777215,16777215,50331647,134217727,268435455,536870911]) (W := [1,3,9,21]) (items := [.op 0, .op 2, .op 1, .ck 2, .op 3, .op 4, .op 5, .op 6, .op 7, .op 8, .op 9, .op 10, .op 11, .op 12, .op 13, .op 14, .op 15, .op 16, .op 17, .op 18, .op 19, .op 20, .op 21, .op 22, .op 23, .op 24, .op 25, .op 26, .op 27, .op 28, .op 29]) rfl zz0 zz0 zz0 ?_
  refine .rx ?_
  refine .rx ?_
  refine .wr rfl rfl (by decide) (.pure rfl rfl rfl Tryz.call35 (by decide) (q35) (by first | rfl | simp [*]) ?_)
  rintro _ rfl
  refine .ck rfl zz0 ?_
  refine .wr rfl rfl (by decide) (.pure rfl rfl rfl Tryz.call52 (by decide) (q52) (by first | rfl | simp [*]) ?_)
  rintro _ rfl
  refine .rx ?_
  refine .rx ?_
  refine .split (t := 51) rfl (fun c51 => ?_) (fun c51 => ?_)
  ·first | cases c51 | try rw [c51]
   try simp at c51
   refine .rx ?_
   refine .rx ?_
   refine .rx ?_
   refine .wr rfl rfl (by decide) (.pure rfl rfl rfl Tryz.call34 (by decide) (p34 L1 L1 (by omega) (by omega)) (by first | rfl | simp [*]) ?_)
   rintro _ rfl
   refine .rx ?_
   refine .rx ?_
   refine .split (t := 57) rfl (fun c57 => ?_) (fun c57 => ?_)
   ·first | cases c57 | try rw [c57]
    try simp at c57
    refine .rx ?_
    refine .rx ?_
    refine .rx ?_
    refine .rx ?_
    refine .rx ?_
    refine .rx ?_
    refine .split (t := 63) rfl (fun c63 => ?_) (fun c63 => ?_)
    ·first | cases c63 | try rw [c63]
     try simp at c63
     refine .rx ?_
     refine .rx ?_
     refine .rx ?_
     refine .wr rfl rfl (by decide) (.pure rfl rfl rfl Tryz.call34 (by decide) (p34 L2 L2 (by omega) (by omega)) (by first | rfl | simp [*]) ?_)
     rintro _ rfl
     refine .rx ?_
     refine .rx ?_
     refine .split (t := 69) rfl (fun c69 => ?_) (fun c69 => ?_)
     ·first | cases c69 | try rw [c69]
      try simp at c69
      refine .rx ?_
      refine .rx ?_
      refine .rx ?_
      refine .rx ?_
      refine .rx ?_
      refine .rx ?_
      refine .done ?_
      refine .seq ?_
      refine .drawn (ms := [0,1,3,7,15,31,31,95,255,511,1023,2047,2047,6143,16383,32767,65535,131071,131071,393215,1048575,2097151,4194303,8388607,8388607,33554431,8388607,8388607,268435455,536870911,1073741823,2147483647]) (W := [0,25,28]) (items := [.op 0, .op 1, .op 2, .op 3, .op 4, .op 5, .op 6, .op 7, .op 8, .op 9, .op 10, .op 11, .op 12, .op 13, .op 14, .op 15, .op 16, .op 17, .op 18, .op 19, .op 20, .op 21, .op 22, .op 23, .op 24, .op 26, .op 27, .op 25, .ck 27, .ck 26, .op 28, .op 29, .op 30, .op 31]) rfl zz0 zz0 zz0 ?_
      refine .wr rfl rfl (by decide) (.pure rfl rfl rfl Tryz.call22 (by decide) (hsan) (by first | rfl | simp [*]) ?_)
      rintro _ rfl
      refine .rx ?_
      refine .split (t := 76) rfl (fun c76 => ?_) (fun c76 => ?_)
      ·first | cases c76 | try rw [c76]
       try simp at c76
       refine .rx ?_
       refine .rx ?_
       refine .rx ?_
       refine .split (t := 79) rfl (fun c79 => ?_) (fun c79 => ?_)
       ·first | cases c79 | try rw [c79]
        try simp at c79
        refine .rx ?_
        refine .rx ?_
        refine .rx ?_
        refine .rx ?_
        refine .rx ?_
        refine .rx ?_
        refine .split (t := 85) rfl (fun c85 => ?_) (fun c85 => ?_)
        ·first | cases c85 | try rw [c85]
         try simp at c85
         refine .rx ?_
         refine .rx ?_
         refine .rx ?_
         refine .rx ?_
         refine .rx ?_
         refine .rx ?_
         refine .split (t := 91) rfl (fun c91 => ?_) (fun c91 => ?_)
         ·first | cases c91 | try rw [c91]
          try simp at c91
          refine .rx ?_
          refine .rx ?_
          refine .rx ?_
          refine .rx ?_
          refine .rx ?_
          refine .rx ?_
          refine .split (t := 97) rfl (fun c97 => ?_) (fun c97 => ?_)
          ·first | cases c97 | try rw [c97]
           try simp at c97
           refine .rx ?_
           refine .rx ?_
           refine .rx ?_
           refine .rx ?_
           refine .wr rfl rfl (by decide) (.pure rfl rfl rfl Tryz.call53 (by decide) (q53) (by first | rfl | simp [*]) ?_)
           rintro _ rfl
           refine .ck rfl zz0 ?_
           refine .ck rfl zz0 ?_
           refine .wr rfl rfl (by decide) (.pure rfl rfl rfl Tryz.call54 (by decide) (q54) (by first | rfl | simp [*]) ?_)
           rintro _ rfl
           refine .rx ?_
           refine .rx ?_
           refine .rx ?_
           refine .done ?_
           refine .ret ?_
           refine ⟨_, _, zz4,zz4, ?_⟩
           first | rfl | (simp [*]; done) | (simp_all; done)
          ·first | cases c97 | try rw [c97]
           try simp at c97
         ·first | cases c91 | try rw [c91]
          try simp at c91
        ·first | cases c85 | try rw [c85]
         try simp at c85
       ·first | cases c79 | try rw [c79]
        try simp at c79
      ·first | cases c76 | try rw [c76]
       try simp at c76
     ·first | cases c69 | try rw [c69]
      try simp at c69
    ·first | cases c63 | try rw [c63]
     try simp at c63
   ·first | cases c57 | try rw [c57]
    try simp at c57
  ·first | cases c51 | try rw [c51]
   try simp at c51
end Go.Am.Ds
end
