/-
 What is used in the proof of a statement (part DsX); no condition.
-/
import Derived.Test.YtnablaecbohhmaaGreatDsT
import Derived.Test.YtnablaecbohhmaaGreatVm2
import Derived.Test.YtnablaecbohhmaaGreatDsC
import Derived.Test.YtnablaecbohhmaaGreatDsG
import Derived.Test.YtnablaecbohhmaaGreatDsF
set_option linter.all false
namespace Go.Am
open Go Go.Proofs
section
variable {P : Program} {N b : Nat} {vts : VTs} {vh : VHeap}
theorem VScr.rx {ops : Array Oper} {W todo : List Nat} {K : VTs → VHeap → Prop} {m : Nat} {r : List SItem} {o : Oper} {v : PV} (k : VScr P N b ops W K r (bif selfFree o then m :: todoF ops todo o.dst else todoF ops todo o.dst) (tput vts o.dst v) vh) (ho : ops[m]? = some o := by rfl) (hw : vwanted ops o vts = some true := by rfl) (hW : W.contains m = false := by decide) (hr : isR o.op = true := by rfl) (hd : dstOK N o.dst = true := by decide) (hv : vop P vts vh o.op = some (v, vh) := by simp [*] <;> first | exact ⟨rfl, rfl⟩ | exact rfl) : VScr P N b ops W K (.op m :: r) todo vts vh := .rd ho hw hW hr hd hv k
end
end Go.Am
section
namespace Go.Am.Ds
open Go Go.Am Go.Proofs
set_option maxHeartbeats 4000000
set_option linter.unusedSimpArgs false
set_option linter.unusedVariables false
attribute [local simp] vrun vwanted vyielded vop veval vevals vparts vO vbuiltin vlen vappend velems vcopy vmakeSlice vbuildSlice valloc vbox vmakeMap vload vpartT vpart vstore vfieldAddr vfield vindexAddr vindex vextract vslice vsliceZ vbounds vbnd zeroO vidx vlookup vmget vmapUpdate vdelete vnilq vnilp vnils vbin vsc vsc1 vscs vscl abinOp aint ashift aunOp aconvert amaxs amax2 pvcV pvc pvcs tput tget vargs VHeap.get VHeap.alloc VHeap.put VHeap.drop VHeap.empty vlook vput vdrop psplice pfill preps chunk List.range List.range.loop vresults vresult vresultV frz frzL PV.isF PV.allF PV.scal PV.allS retP subT allFT PV.one PV.ids PV.idsL dropL beq_eq ble_dec blt_dec
theorem p38 (l : List Int) : VPure Tryz.prog 38 [ints l] fun r => r = .bool (decide (l.length ≤ 60)) := by
 refine .of_body Tryz.func38 rfl rfl ?_
 refine .seq ?_
 refine .rn ?_
 refine .seq ?_
 refine .rn ?_
 refine .ret ?_
 refine ⟨_, _, zz4,zz4, ?_⟩
 simp; omega
end Go.Am.Ds
end
section
namespace Go.Am.Ds
open Go Go.Am Go.Proofs
set_option maxRecDepth 100000
set_option maxHeartbeats 4000000
set_option linter.unusedSimpArgs false
set_option linter.unusedVariables false
attribute [local simp] vrun vwanted vyielded vop vopA vputAll VHeap.back hidI hidF backL bm Nat.testBit_eq_decide_div_mod_eq veval vevals vparts vO vbuiltin vlen vappend velems vcopy vmakeSlice vbuildSlice valloc vbox vmakeMap vload vpartT vpart vstore vfieldAddr vfield vindexAddr vindex vextract vslice vsliceZ vbounds vbnd zeroO vidx vlookup vmget vmapUpdate vdelete vclear vnilq vnilp vnils vbin vsc vsc1 vscs vscl abinOp aint ashift aunOp aconvert amaxs amax2 pvcV pvc pvcs tput tget vargs VHeap.get VHeap.alloc VHeap.put VHeap.drop VHeap.empty vlook vput vdrop psplice pfill preps chunk List.range List.range.loop vresults vresult vresultV frz frzL PV.isF PV.allF PV.scal PV.allS retP subT allFT PV.one PV.ids PV.idsL dropL beq_eq ble_dec blt_dec
attribute [local simp] zW tup2
def lowN (l : List Int) (n : Int) : Nat := match l with
 | [] => 0
 | a :: r => if a < n then lowN r n + 1 else 0
def putS (l : List Int) (n : Int) : List Int := if l[lowN l n]? = some n then l else l.take (lowN l n) ++ [n] ++ l.drop (lowN l n)
theorem lowN_drop (l : List Int) (n : Int) (i : Nat) (h : i < l.length) : lowN (l.drop i) n = if l[i] < n then lowN (l.drop (i + 1)) n + 1 else 0 := by
 rw [List.drop_eq_getElem_cons h]; rfl
theorem allSz_take_int (l : List Int) (k : Nat) : allSz 1 ((l.map (PV.int .i64)).take k) = true := allSz_take (allSz_int .i64 l)
theorem allSz_drop_int (l : List Int) (k : Nat) : allSz 1 ((l.map (PV.int .i64)).drop k) = true := allSz_drop (allSz_int .i64 l)
theorem allOne_take_int (l : List Int) (k : Nat) : allOne ((l.map (PV.int .i64)).take k) = true := by rw [← List.map_take]; exact allOne_int .i64 _
theorem allOne_drop_int (l : List Int) (k : Nat) : allOne ((l.map (PV.int .i64)).drop k) = true := by rw [← List.map_drop]; exact allOne_int .i64 _
theorem p104 (s : List Wit) (id : Int) (hl : s.length < 4294967296) : VPure Tryz.prog 104 [encS s, .int .i64 id] fun r => r = .int .i64 (findI s id) := by
 refine .of_body Tryz.func104 rfl rfl ?_
 refine .seq ?_
 refine .rn ?_
 refine .seq ?_
 refine .seq ?_
 refine .rn ?_
 refine .block ?_
 refine .loopS (fun i : Nat => ([(1, .int .i64 id),(2, .ptr 0 0),(5, .int .i64 i)], ⟨1,[(0, .box [.vec (s.map encW)])]⟩)) (fun i => i ≤ s.length ∧ idxF (fun w : Wit => decide (w.id = id)) i (s.drop i) = findI s id) (fun i => s.length - i) 0 ⟨by simp, rfl⟩ (.mk [] [] zz10 zz11 rfl rfl rfl) ?_
 rintro i ⟨hi, hr⟩
 simp only at hi hr ⊢
 refine .seq ?_
 refine .seq ?_
 refine .rn ?_
 refine .condS rfl (fun c10 => ?_) (fun c10 => ?_)
 ·try simp at c10
  have hw2 : IntKind.i64.wrap ((i : Int) + 1) = (i : Int) + 1 := wrap64 (by omega) (by omega)
  rw [idxF_drop _ s i c10] at hr
  have hE : encW s[i] = .agg [.int .i64 s[i].id, .int .i64 s[i].known, ints s[i].slips, ints s[i].mended, ints s[i].models, .int .i64 s[i].lo, .int .i64 s[i].hi] := rfl
  refine .skip ?_
  refine .seq ?_
  refine .block ?_
  refine .seq ?_
  refine .rn ?_
  refine .condS rfl (fun c20 => ?_) (fun c20 => ?_)
  ·try simp at c20
   refine .seq ?_
   refine .rn ?_
   refine .ret ?_
   refine ⟨_, _, zz4,zz4, ?_⟩
   rw [← hr, if_pos (by simp [c20])]
  ·try simp at c20
   refine .skip ?_
   refine .rn ?_
   refine ⟨i + 1, ⟨zz5, ?_⟩, zz5,(.mk [] [] zz10 zz11 rfl rfl rfl)⟩
   rw [← hr, if_neg (by simp [c20])]
 ·try simp at c10
  have : i = s.length := by omega
  refine .exit ?_
  refine .seq ?_
  refine .rn ?_
  refine .ret ?_
  refine ⟨_, _, zz4,zz4, ?_⟩
  rw [← hr, this, List.drop_length]; rfl
theorem p147 (l : List Int) (n : Int) (hl : l.length < 4294967295) : VPure Tryz.prog 147 [ints l, .int .i64 n] fun r => r = ints (putS l n) := by
 refine .of_body Tryz.func147 rfl rfl ?_
 refine .seq ?_
 refine .rn ?_
 refine .seq ?_
 refine .rn ?_
 refine .seq ?_
 refine .block ?_
 refine .loopS (fun i : Nat => ([(0, ints l),(1, .int .i64 n),(5, .int .i64 i)], VHeap.empty)) (fun i => i ≤ l.length ∧ i + lowN (l.drop i) n = lowN l n) (fun i => l.length - i) 0 ⟨by simp, by simp⟩ (.pure (by simp [*]) (by simp)) ?_
 rintro i ⟨hi, hr⟩
 simp only at hi hr ⊢
 refine .seq ?_
 refine .seq ?_
 refine .regionL [0,1,2,3,4,5,6,7,8,9,10,11] rfl zz0 ?_
 refine .rn [0,1,2,3,4] [5,6,7,8,9,10,11] ?_
 refine .split (t := 10) rfl (fun c10 => ?_) (fun c10 => ?_)
 ·try rw [c10]
  try simp at c10
  have hw2 : IntKind.i64.wrap ((i : Int) + 1) = (i : Int) + 1 := wrap64 (by omega) (by omega)
  rw [lowN_drop l n i c10] at hr
  refine .rn [5,6,7,8,9,10,11] [] ?_
  refine .done ?_
  refine .condS rfl (fun c17 => ?_) (fun c17 => ?_)
  ·try simp at c17
   refine .skip ?_
   refine .block ?_
   refine .rn ?_
   refine ⟨i + 1, ⟨zz5, ?_⟩, zz5, .pure (by simp [*]) (by simp)⟩
   rw [← hr, if_pos c17]; omega
  ·try simp at c17
   have hlow : lowN l n = i := by rw [← hr, if_neg (by omega)]; rfl
   have g1 := allSz_take_int l i
   have g2 := allSz_drop_int l i
   have g3 := allOne_take_int l i
   have g4 := allOne_drop_int l i
   have g5 : min i l.length = i := Nat.min_eq_left hi
   have g6 : i ≤ 4294967296 := by omega
   have g7 : i + 1 ≤ 4294967296 := by omega
   have g8 : i + 1 + (l.length - i) ≤ 4294967296 := by omega
   have g9 : allOne [PV.int .i64 n] = true := rfl
   have g20 : i + (l.length - i + 1) = i + 1 + (l.length - i) := by omega
   have g10 : List.take (l.length - i) (List.drop i (l.map (PV.int .i64))) = List.drop i (l.map (PV.int .i64)) := List.take_of_length_le (by simp)
   refine .exit ?_
   refine .seq ?_
   refine .seq ?_
   refine .regionL [0,1,2,3,4,5,6,7,8,9,10,11] rfl zz0 ?_
   refine .rn [0,1,2,3,4] [5,6,7,8,9,10,11] ?_
   refine .split (t := 24) rfl (fun c24 => ?_) (fun c24 => ?_)
   ·try rw [c24]
    try simp at c24
    refine .rn [5,6,7,8,9,10,11] [] ?_
    refine .done ?_
    refine .condS rfl (fun c31 => ?_) (fun c31 => ?_)
    ·try simp at c31
     refine .seq ?_
     refine .rn ?_
     refine .ret ?_
     refine ⟨_, _, zz4,zz4, ?_⟩
     have e : putS l n = l := by unfold putS; rw [hlow, if_pos (by rw [List.getElem?_eq_getElem c10, c31])]
     rw [e]
    ·try simp at c31
     refine .skip ?_
     refine .seq ?_
     refine .drawnF (ms := [0,0,0,6,15,0,32,127,0,0,768,2047,4095]) (W := [0,4,7,11]) (As := [6]) (items := [.op 1, .op 2, .op 3, .op 5, .op 6, .op 8, .op 9, .op 10, .op 0, .op 4, .op 7, .op 11, .op 12]) rfl zz0 zz0 zz0 zz0 (by decide) ?_
     refine .rd rfl rfl (by decide) (by decide) (by decide) rfl (by decide) zz1 ?_
     refine .rd rfl rfl (by decide) (by decide) (by decide) rfl (by decide) zz1 ?_
     refine .rd rfl rfl (by decide) (by decide) (by decide) rfl (by decide) zz1 ?_
     refine .rd rfl rfl (by decide) (by decide) (by decide) rfl (by decide) zz1 ?_
     refine .al rfl rfl (by decide) (by decide) (by decide) (by decide) zz1 ?_
     refine .rd rfl rfl (by decide) (by decide) (by decide) rfl (by decide) zz1 ?_
     refine .rd rfl rfl (by decide) (by decide) (by decide) rfl (by decide) zz1 ?_
     refine .rd rfl rfl (by decide) (by decide) (by decide) rfl (by decide) zz1 ?_
     refine .wr rfl rfl (by decide) (.vop zz1 (by decide) ?_)
     refine .wr rfl rfl (by decide) (.vop zz1 (by decide) ?_)
     refine .wr rfl rfl (by decide) (.vop zz1 (by decide) ?_)
     refine .wr rfl rfl (by decide) (.vop zz1 (by decide) ?_)
     refine .rd rfl rfl (by decide) (by decide) (by decide) rfl (by decide) zz1 ?_
     refine .done ?_
     refine .ret ?_
     refine ⟨_, _, zz4,(by simp [g5, g20] <;> rfl), ?_⟩
     have e : putS l n = l.take i ++ [n] ++ l.drop i := by unfold putS; rw [hlow, if_neg (by rw [List.getElem?_eq_getElem c10]; simpa using c31)]
     rw [e]; simp [ints]
   ·try rw [c24]
    try simp at c24
 ·try rw [c10]
  try simp at c10
  have hil : i = l.length := by omega
  have hlow : lowN l n = i := by rw [← hr, List.drop_of_length_le c10]; rfl
  subst hil
  have g1 := allSz_take_int l l.length
  have g2 := allSz_drop_int l l.length
  have g3 := allOne_take_int l l.length
  have g4 := allOne_drop_int l l.length
  have g6 : l.length ≤ 4294967296 := by omega
  have g7 : l.length + 1 ≤ 4294967296 := by omega
  have g8 : l.length + 1 + (l.length - l.length) ≤ 4294967296 := by omega
  have g9 : allOne [PV.int .i64 n] = true := rfl
  have g11 : List.drop l.length (l.map (PV.int .i64)) = [] := List.drop_of_length_le (by simp)
  have g12 : allSz 1 [] = true := rfl
  have g13 : allOne [] = true := rfl
  refine .rn [5,6,7,8,9,10,11] [] ?_
  refine .done ?_
  refine .condF rfl ?_
  refine .exit ?_
  refine .seq ?_
  refine .seq ?_
  refine .regionL [0,1,2,3,4,5,6,7,8,9,10,11] rfl zz0 ?_
  refine .rn [0,1,2,3,4] [5,6,7,8,9,10,11] ?_
  refine .split (t := 24) rfl (fun c24 => ?_) (fun c24 => ?_)
  ·try rw [c24]
   try simp at c24
  ·try rw [c24]
   try simp at c24
   refine .rn [5,6,7,8,9,10,11] [] ?_
   refine .done ?_
   refine .condF rfl ?_
   refine .skip ?_
   refine .seq ?_
   refine .drawnF (ms := [0,0,0,6,15,0,32,127,0,0,768,2047,4095]) (W := [0,4,7,11]) (As := [6]) (items := [.op 1, .op 2, .op 3, .op 5, .op 6, .op 8, .op 9, .op 10, .op 0, .op 4, .op 7, .op 11, .op 12]) rfl zz0 zz0 zz0 zz0 (by decide) ?_
   refine .rd rfl rfl (by decide) (by decide) (by decide) rfl (by decide) zz1 ?_
   refine .rd rfl rfl (by decide) (by decide) (by decide) rfl (by decide) zz1 ?_
   refine .rd rfl rfl (by decide) (by decide) (by decide) rfl (by decide) zz1 ?_
   refine .rd rfl rfl (by decide) (by decide) (by decide) rfl (by decide) zz1 ?_
   refine .al rfl rfl (by decide) (by decide) (by decide) (by decide) zz1 ?_
   refine .rd rfl rfl (by decide) (by decide) (by decide) rfl (by decide) zz1 ?_
   refine .rd rfl rfl (by decide) (by decide) (by decide) rfl (by decide) zz1 ?_
   refine .rd rfl rfl (by decide) (by decide) (by decide) rfl (by decide) zz1 ?_
   refine .wr rfl rfl (by decide) (.vop zz1 (by decide) ?_)
   refine .wr rfl rfl (by decide) (.vop zz1 (by decide) ?_)
   refine .wr rfl rfl (by decide) (.vop zz1 (by decide) ?_)
   refine .wr rfl rfl (by decide) (.vop zz1 (by decide) ?_)
   refine .rd rfl rfl (by decide) (by decide) (by decide) rfl (by decide) zz1 ?_
   refine .done ?_
   refine .ret ?_
   refine ⟨_, _, zz4,zz4, ?_⟩
   have e : putS l n = l ++ [n] := by unfold putS; rw [hlow, if_neg (by rw [List.getElem?_eq_none (Nat.le_refl _)]; simp)]; simp
   rw [e]; simp [ints]
end Go.Am.Ds
end
section
namespace Go.Am.Ds
open Go Go.Am Go.Proofs
set_option maxRecDepth 100000
set_option maxHeartbeats 4000000
set_option linter.unusedSimpArgs false
set_option linter.unusedVariables false
attribute [local simp] vrun vwanted vyielded vop vopA vputAll VHeap.back hidI hidF backL bm Nat.testBit_eq_decide_div_mod_eq veval vevals vparts vO vbuiltin vlen vappend velems vcopy vmakeSlice vbuildSlice valloc vbox vmakeMap vload vpartT vpart vstore vfieldAddr vfield vindexAddr vindex vextract vslice vsliceZ vbounds vbnd zeroO vidx vlookup vmget vmapUpdate vdelete vclear vnilq vnilp vnils vbin vsc vsc1 vscs vscl abinOp aint ashift aunOp aconvert amaxs amax2 pvcV pvc pvcs tput tget vargs VHeap.get VHeap.alloc VHeap.put VHeap.drop VHeap.empty vlook vput vdrop psplice pfill preps chunk List.range List.range.loop vresults vresult vresultV frz frzL PV.isF PV.allF PV.scal PV.allS retP subT allFT PV.one PV.ids PV.idsL dropL beq_eq ble_dec blt_dec
attribute [local simp] zW tup2
theorem lackF_iff (c : Wit) (n : Int) : lackF c n = true ↔ n ∉ c.slips ∧ n ∉ c.mended := by
 unfold lackF
 simp [mem_setK]
theorem p103a (s : List Wit) (k : Nat) (hk : k < s.length) (hl : s.length < 4294967296) (h3 : s[k].models.length < 4294967296) : VPure Tryz.prog 103 [encS s, .int .i64 k, .int .i64 0] fun r => r = tup2 (lastS s[k] 0,0) := by
 have hE : encW s[k] = .agg [.int .i64 s[k].id, .int .i64 s[k].known, ints s[k].slips, ints s[k].mended, ints s[k].models, .int .i64 s[k].lo, .int .i64 s[k].hi] := rfl
 refine .of_body Tryz.func103 rfl rfl ?_
 refine .seq ?_
 refine .rn ?_
 refine .seq ?_
 refine .rn ?_
 refine .seq ?_
 refine .seq ?_
 refine .rn ?_
 refine .condS rfl (fun c20 => ?_) (fun c20 => ?_)
 ·try simp at c20
 ·try simp at c20
  refine .skip ?_
  refine .seq ?_
  refine .regionL [0,1,2,3,4] rfl zz0 ?_
  refine .rn [0,1,2] [3,4] ?_
  refine .step rfl rfl (.pure rfl rfl rfl Tryz.call121 (by decide) (p121 s[k].models 0 h3) (by first | rfl | simp [*]) ?_)
  rintro _ rfl
  refine .rn [4] [] ?_
  refine .done ?_
  refine .seq ?_
  refine .seq ?_
  refine .regionL [0,1,2,3,4,5,6,7] rfl zz0 ?_
  refine .rn [0,1,2,3,4] [5,6,7] ?_
  refine .split (t := 83) rfl (fun c83 => ?_) (fun c83 => ?_)
  ·try rw [c83]
   try simp at c83
   refine .rn [5,6,7] [] ?_
   refine .done ?_
   refine .condS rfl (fun c86 => ?_) (fun c86 => ?_)
   ·try simp at c86
    refine .seq ?_
    refine .rn ?_
    refine .ret ?_
    refine ⟨_, _, zz4,zz4, ?_⟩
    simp [tup2, lastS, *]
   ·try simp at c86
    refine .skip ?_
    refine .seq ?_
    refine .rn ?_
    refine .ret ?_
    refine ⟨_, _, zz4,zz4, ?_⟩
    simp [tup2, lastS, *]
  ·try rw [c83]
   try simp at c83
   refine .rn [5,6,7] [] ?_
   refine .done ?_
   refine .condF rfl ?_
   refine .skip ?_
   refine .seq ?_
   refine .rn ?_
   refine .ret ?_
   refine ⟨_, _, zz4,zz4, ?_⟩
   simp [tup2, lastS, *]
theorem p103b (s : List Wit) (k j : Nat) (hk : k < s.length) (hj : j < s.length) (b : Int) (hb : b ≠ 0) (hje : findI s b = (j : Int)) (hid : s[j].id = b) (hl : s.length < 4294967296) (h1 : s[k].slips.length < 4294967296) (h2 : s[k].mended.length < 4294967296) (h3 : s[k].models.length < 4294967296) (h4 : s[j].slips.length < 4294967296) : VPure Tryz.prog 103 [encS s, .int .i64 k, .int .i64 b] fun r => r = tup2 (whyP s[k] s[j]) := by
 have hE : encW s[k] = .agg [.int .i64 s[k].id, .int .i64 s[k].known, ints s[k].slips, ints s[k].mended, ints s[k].models, .int .i64 s[k].lo, .int .i64 s[k].hi] := rfl
 have hE2 : encW s[j] = .agg [.int .i64 s[j].id, .int .i64 s[j].known, ints s[j].slips, ints s[j].mended, ints s[j].models, .int .i64 s[j].lo, .int .i64 s[j].hi] := rfl
 have hmx : (if 0 < j then (j : Int) else 0) = (j : Int) := by split <;> omega
 refine .of_body Tryz.func103 rfl rfl ?_
 refine .seq ?_
 refine .rn ?_
 refine .seq ?_
 refine .rn ?_
 refine .seq ?_
 refine .seq ?_
 refine .rn ?_
 refine .condS rfl (fun c20 => ?_) (fun c20 => ?_)
 ·try simp at c20
  refine .seq ?_
  refine .drawnF (ms := [0,1,0,0,12,28,63,127,0,511]) (W := [4,9]) (As := [8]) (items := [.op 0, .op 1, .op 2, .op 3, .op 8, .op 4, .ck 1, .op 5, .op 6, .op 7, .op 9]) rfl zz0 zz0 zz0 zz0 (by decide) ?_
  refine .rd rfl rfl (by decide) (by decide) (by decide) rfl (by decide) zz1 ?_
  refine .rd rfl rfl (by decide) (by decide) (by decide) rfl (by decide) zz1 ?_
  refine .rd rfl rfl (by decide) (by decide) (by decide) rfl (by decide) zz1 ?_
  refine .rd rfl rfl (by decide) (by decide) (by decide) rfl (by decide) zz1 ?_
  refine .al rfl rfl (by decide) (by decide) (by decide) (by decide) zz1 ?_
  refine .wr rfl rfl (by decide) (.pure rfl rfl rfl Tryz.call104 (by decide) (p104 s b hl) (by first | rfl | simp [*]) ?_)
  rintro _ rfl
  refine .ck rfl zz0 ?_
  refine .rd rfl rfl (by decide) (by decide) (by decide) rfl (by decide) zz1 ?_
  refine .rd rfl rfl (by decide) (by decide) (by decide) rfl (by decide) zz1 ?_
  refine .rd rfl rfl (by decide) (by decide) (by decide) rfl (by decide) zz1 ?_
  refine .wr rfl rfl (by decide) (.vop zz1 (by decide) ?_)
  refine .done ?_
  refine .seq ?_
  refine .seq ?_
  refine .rn ?_
  refine .condS rfl (fun c33 => ?_) (fun c33 => ?_)
  ·try simp at c33
   refine .seq ?_
   refine .rn ?_
   refine .ret ?_
   refine ⟨_, _, zz4,zz4, ?_⟩
   simp [tup2, whyP, hid, c33]
  ·try simp at c33
   refine .skip ?_
   refine .seq ?_
   refine .seq ?_
   refine .rn ?_
   refine .condS rfl (fun c40 => ?_) (fun c40 => ?_)
   ·try simp at c40
    refine .seq ?_
    refine .rn ?_
    refine .ret ?_
    refine ⟨_, _, zz4,zz4, ?_⟩
    simp [tup2, whyP, hid, c33, c40]
   ·try simp at c40
    refine .skip ?_
    refine .seq ?_
    refine .rn ?_
    refine .block ?_
    refine .loopS (fun i : Nat => ([(2, .int .i64 b),(8, .ptr 1 0),(9, .ptr 2 0),(10, .int .i64 i)], ⟨3,[(2, .box [.int .i64 s[j].id, .int .i64 s[j].known, ints s[j].slips, ints s[j].mended, ints s[j].models, .int .i64 s[j].lo, .int .i64 s[j].hi]),(1, .box [.int .i64 s[k].id, .int .i64 s[k].known, ints s[k].slips, ints s[k].mended, ints s[k].models, .int .i64 s[k].lo, .int .i64 s[k].hi])]⟩)) (fun i => i ≤ s[j].slips.length ∧ idxF (lackF s[k]) i (s[j].slips.drop i) = idxF (lackF s[k]) 0 s[j].slips ∧ fstF (lackF s[k]) (s[j].slips.drop i) = fstF (lackF s[k]) s[j].slips) (fun i => s[j].slips.length - i) 0 ⟨by simp, rfl, rfl⟩ (.mk [] [] zz12 zz13 rfl rfl rfl) ?_
    rintro i ⟨hi, hr, hr2⟩
    simp only at hi hr hr2 ⊢
    refine .seq ?_
    refine .seq ?_
    refine .rn ?_
    refine .condS rfl (fun c45 => ?_) (fun c45 => ?_)
    ·try simp at c45
     have hw2 : IntKind.i64.wrap ((i : Int) + 1) = (i : Int) + 1 := wrap64 (by omega) (by omega)
     rw [idxF_drop _ s[j].slips i c45] at hr
     rw [fstF_drop _ s[j].slips i c45] at hr2
     refine .skip ?_
     refine .seq ?_
     refine .block ?_
     refine .seq ?_
     refine .drawn (ms := [0,1,0,4,0,28,60,127,255]) (W := [7]) (items := [.op 0, .op 1, .op 2, .op 3, .op 4, .op 5, .op 6, .op 7, .op 8]) rfl zz0 zz0 zz0 ?_
     refine .rx ?_
     refine .rx ?_
     refine .rx ?_
     refine .rx ?_
     refine .rx ?_
     refine .rx ?_
     refine .rx ?_
     refine .wr rfl rfl (by decide) (.pure rfl rfl rfl Tryz.call121 (by decide) (p121 s[k].slips _ h1) (by first | rfl | simp [*]) ?_)
     rintro _ rfl
     refine .rx ?_
     refine .done ?_
     refine .seq ?_
     refine .drawn (ms := [0,1,0,4,0,28,60,127,255]) (W := [7]) (items := [.op 0, .op 1, .op 2, .op 3, .op 4, .op 5, .op 6, .op 7, .op 8]) rfl zz0 zz0 zz0 ?_
     refine .rx ?_
     refine .rx ?_
     refine .rx ?_
     refine .rx ?_
     refine .rx ?_
     refine .rx ?_
     refine .rx ?_
     refine .wr rfl rfl (by decide) (.pure rfl rfl rfl Tryz.call121 (by decide) (p121 s[k].mended _ h2) (by first | rfl | simp [*]) ?_)
     rintro _ rfl
     refine .rx ?_
     refine .done ?_
     refine .seq ?_
     refine .regionL [0,1,2,3,4,5] rfl zz0 ?_
     refine .rn [0,1,2] [3,4,5] ?_
     refine .split (t := 66) rfl (fun c66 => ?_) (fun c66 => ?_)
     ·try rw [c66]
      try simp at c66
      refine .rn [3,4,5] [] ?_
      refine .done ?_
      refine .condS rfl (fun c69 => ?_) (fun c69 => ?_)
      ·try simp at c69
       have hlf : lackF s[k] s[j].slips[i] = true := (lackF_iff _ _).2 ⟨c66, c69⟩
       refine .seq ?_
       refine .drawn (ms := [0,1,0,7,15,0,63]) (W := []) (items := [.op 0, .op 1, .op 2, .op 3, .op 4, .op 5, .op 6]) rfl zz0 zz0 zz0 ?_
       refine .rx ?_
       refine .rx ?_
       refine .rx ?_
       refine .rx ?_
       refine .rx ?_
       refine .rx ?_
       refine .rx ?_
       refine .done ?_
       refine .ret ?_
       refine ⟨_, _, zz4,zz4, ?_⟩
       have e : whyP s[k] s[j] = (3, s[j].slips[i]) := by
        rw [if_pos hlf] at hr hr2
        unfold whyP
        rw [hid, if_neg c33, if_neg (by omega), if_pos (by rw [← hr]; omega), ← hr2]
       rw [e]; rfl
      ·try simp at c69
       have hlf : ¬ lackF s[k] s[j].slips[i] = true := fun h => ((lackF_iff _ _).1 h).2 c69
       refine .skip ?_
       refine .rn ?_
       refine ⟨i + 1, ⟨zz5, ?_, ?_⟩, zz5,(.mk [] [] zz12 zz13 rfl rfl rfl)⟩
       ·rw [← hr, if_neg hlf]
       ·rw [← hr2, if_neg hlf]
     ·try rw [c66]
      try simp at c66
      have hlf : ¬ lackF s[k] s[j].slips[i] = true := fun h => ((lackF_iff _ _).1 h).1 c66
      refine .rn [3,4,5] [] ?_
      refine .done ?_
      refine .condF rfl ?_
      refine .skip ?_
      refine .rn ?_
      refine ⟨i + 1, ⟨zz5, ?_, ?_⟩, zz5,(.mk [] [] zz12 zz13 rfl rfl rfl)⟩
      ·rw [← hr, if_neg hlf]
      ·rw [← hr2, if_neg hlf]
    ·try simp at c45
     have hin : i = s[j].slips.length := by omega
     have hlk : idxF (lackF s[k]) 0 s[j].slips = -1 := by rw [← hr, hin, List.drop_length]; rfl
     refine .exit ?_
     refine .seq ?_
     refine .regionL [0,1,2,3,4] rfl zz0 ?_
     refine .rn [0,1,2] [3,4] ?_
     refine .step rfl rfl (.pure rfl rfl rfl Tryz.call121 (by decide) (p121 s[k].models b h3) (by first | rfl | simp [*]) ?_)
     rintro _ rfl
     refine .rn [4] [] ?_
     refine .done ?_
     refine .seq ?_
     refine .seq ?_
     refine .regionL [0,1,2,3,4,5,6,7] rfl zz0 ?_
     refine .rn [0,1,2,3,4] [5,6,7] ?_
     refine .split (t := 83) rfl (fun c83 => ?_) (fun c83 => ?_)
     ·try rw [c83]
      try simp at c83
      refine .rn [5,6,7] [] ?_
      refine .done ?_
      refine .condS rfl (fun c86 => ?_) (fun c86 => ?_)
      ·try simp at c86
       refine .seq ?_
       refine .rn ?_
       refine .ret ?_
       refine ⟨_, _, zz4,zz4, ?_⟩
       have e : whyP s[k] s[j] = (lastS s[k] b, 0) := by
        unfold whyP
        rw [hid, if_neg c33, if_neg (by omega), if_neg (by rw [hlk]; decide)]
       rw [e]; simp [tup2, lastS, *]
      ·try simp at c86
       refine .skip ?_
       refine .seq ?_
       refine .rn ?_
       refine .ret ?_
       refine ⟨_, _, zz4,zz4, ?_⟩
       have e : whyP s[k] s[j] = (lastS s[k] b, 0) := by
        unfold whyP
        rw [hid, if_neg c33, if_neg (by omega), if_neg (by rw [hlk]; decide)]
       rw [e]; simp [tup2, lastS, *]
     ·try rw [c83]
      try simp at c83
      refine .rn [5,6,7] [] ?_
      refine .done ?_
      refine .condF rfl ?_
      refine .skip ?_
      refine .seq ?_
      refine .rn ?_
      refine .ret ?_
      refine ⟨_, _, zz4,zz4, ?_⟩
      have e : whyP s[k] s[j] = (lastS s[k] b, 0) := by
       unfold whyP
       rw [hid, if_neg c33, if_neg (by omega), if_neg (by rw [hlk]; decide)]
      rw [e]; simp [tup2, lastS, *]
 ·try simp at c20
  exact absurd c20 hb
end Go.Am.Ds
end
section
namespace Go.Am.Ds
open Go Go.Am Go.Proofs
set_option maxRecDepth 100000
set_option maxHeartbeats 4000000
set_option linter.unusedSimpArgs false
set_option linter.unusedVariables false
attribute [local simp] vrun vwanted vyielded vop vopA vputAll VHeap.back hidI hidF backL bm Nat.testBit_eq_decide_div_mod_eq veval vevals vparts vO vbuiltin vlen vappend velems vcopy vmakeSlice vbuildSlice valloc vbox vmakeMap vload vpartT vpart vstore vfieldAddr vfield vindexAddr vindex vextract vslice vsliceZ vbounds vbnd zeroO vidx vlookup vmget vmapUpdate vdelete vclear vnilq vnilp vnils vbin vsc vsc1 vscs vscl abinOp aint ashift aunOp aconvert amaxs amax2 pvcV pvc pvcs tput tget vargs VHeap.get VHeap.alloc VHeap.put VHeap.drop VHeap.empty vlook vput vdrop psplice pfill preps chunk List.range List.range.loop vresults vresult vresultV frz frzL PV.isF PV.allF PV.scal PV.allS retP subT allFT PV.one PV.ids PV.idsL dropL beq_eq ble_dec blt_dec
attribute [local simp] zW tup2
theorem VPure.nilArg {P : Program} {f : FuncId} {rest : List PV} {R : PV → Prop} (hp : VPure P f (.vec [] :: rest) R) : VPure P f (.sl0 :: rest) R := fun lo g σ h args' ha s => hp lo g σ h args' (by
 obtain ⟨v', r', rfl, h1, h2⟩ := ha.inv_cons
 have := h1.isF rfl; cases this
 exact .cons (.fr _ _ .vecN) h2) s
structure OkS (s : List Wit) : Prop where
  len : s.length ≤ 24
  lens : ∀ w ∈ s, w.slips.length < 4294967296 ∧ w.mended.length < 4294967296 ∧ w.models.length < 4294967296
  pos : ∀ w ∈ s, w.id ≠ 0
theorem okS_of {s : List Wit} (h : checkS s = 0) : OkS s := by
 refine ⟨(checkS_ok h).1, checkS_lens h, fun w hw => ?_⟩
 have := (checkS_ok h).2 w hw
 unfold witE at this
 split at this
 ·cases this
 ·omega
theorem OkS.idx {s : List Wit} (h : OkS s) {i : Nat} (hi : i < s.length) : ∃ j, ∃ hj : j < s.length, findI s s[i].id = (j : Int) ∧ s[j].id = s[i].id ∧ getW s s[i].id = some s[j] := by
 have h0 : 0 ≤ findI s s[i].id := find_ids (idsS_mem.2 ⟨s[i], List.getElem_mem hi, rfl⟩)
 obtain ⟨j, h1, h2, h3⟩ := getW_some h0
 exact ⟨j, h1, h2,(getW_mem h3).2, h3⟩
def atI (s : List Wit) (id : Int) (d : Wit) : Wit := (getW s id).getD d
def stepR (s : List Wit) (c : Wit) (out : List Int) (w : Wit) : List Int := if (whyP c (atI s w.id w)).1 = 0 then putS out w.id else out
def modR (s : List Wit) (c : Wit) : List Int := s.foldl (stepR s c) (if lastS c 0 = 0 then [0] else [])
def moP (s : List Wit) (c : Wit) (i : Nat) : List Int := (s.take i).foldl (stepR s c) (if lastS c 0 = 0 then [0] else [])
theorem moP_all (s : List Wit) (c : Wit) : moP s c s.length = modR s c := by simp [moP, modR]
theorem moP_succ (s : List Wit) (c : Wit) (i : Nat) (h : i < s.length) : moP s c (i + 1) = stepR s c (moP s c i) s[i] := by
 simp only [moP, List.take_succ_eq_append_getElem h, List.foldl_append, List.foldl_cons, List.foldl_nil]
theorem putS_len (l : List Int) (n : Int) : (putS l n).length ≤ l.length + 1 := by
 unfold putS
 split
 ·omega
 ·simp; omega
theorem moP_len (s : List Wit) (c : Wit) (i : Nat) : (moP s c i).length ≤ i + 1 := by
 have : ∀ (l : List Wit) (a : List Int),(l.foldl (stepR s c) a).length ≤ a.length + l.length := by
  intro l
  induction l with
  | nil => intro a; simp
  | cons w r ih =>
   intro a
   have h1 := ih (stepR s c a w)
   have h2 : (stepR s c a w).length ≤ a.length + 1 := by
    unfold stepR
    split
    ·exact putS_len _ _
    ·omega
   simp only [List.foldl_cons, List.length_cons]; omega
 have h1 := this (s.take i) (if lastS c 0 = 0 then [0] else [])
 have h2 : (if lastS c 0 = 0 then [0] else ([] : List Int)).length ≤ 1 := by split <;> simp
 have h3 : (s.take i).length ≤ i := by simp; omega
 simp only [moP]; omega
theorem moP_zeroT (s : List Wit) (c : Wit) (h : lastS c 0 = 0) : moP s c 0 = [0] := by simp [moP, h]
theorem moP_zeroF (s : List Wit) (c : Wit) (h : ¬ lastS c 0 = 0) : moP s c 0 = [] := by simp [moP, h]
theorem putS_nil (n : Int) : putS [] n = [n] := by simp [putS, lowN]
theorem p107 (s : List Wit) (k : Nat) (hk : k < s.length) (ok : OkS s) : VPure Tryz.prog 107 [encS s, .int .i64 k] fun r => r = ints (modR s s[k]) := by
 have hl : s.length < 4294967296 := by have := ok.len; omega
 have hl24 := ok.len
 obtain ⟨hw1, hw2, hw3⟩ := ok.lens s[k] (List.getElem_mem hk)
 refine .of_body Tryz.func107 rfl rfl ?_
 refine .seq ?_
 refine .rn ?_
 refine .seq ?_
 refine .rn ?_
 refine .seq ?_
 refine .regionL [0,1,2,3,4,5,6,7] rfl zz0 ?_
 refine .rn [0,1] [2,3,4,5,6,7] ?_
 refine .step rfl rfl (.pure rfl rfl rfl Tryz.call103 (by decide) (p103a s k hk hl hw3) (by first | rfl | simp [*]) ?_)
 rintro _ rfl
 refine .rn [3,4,5,6,7] [] ?_
 refine .done ?_
 refine .seq ?_
 refine .seq ?_
 refine .rn ?_
 refine .condS rfl (fun c18 => ?_) (fun c18 => ?_)
 ·try simp at c18
  have hO := moP_zeroT s s[k] c18
  have hput := putS_nil 0
  refine .regionL [0,1,2] rfl zz0 ?_
  refine .rn [0] [1,2] ?_
  refine .step rfl rfl (.pure rfl rfl rfl Tryz.call147 (by decide) (VPure.nilArg (p147 [] 0 (by simp))) (by first | rfl | simp [*]) ?_)
  rintro _ rfl
  refine .rn [2] [] ?_
  refine .done ?_
  refine .seq ?_
  refine .seq ?_
  refine .rn ?_
  refine .block ?_
  refine .loopS (fun i : Nat => ([(1, .int .i64 k),(2, .ptr 0 0),(5, ints (moP s s[k] i)),(8, .int .i64 i)], ⟨1,[(0, .box [.vec (s.map encW)])]⟩)) (fun i => i ≤ s.length) (fun i => s.length - i) 0 (by simp) (.mk [] [] zz14 zz15 rfl rfl rfl) ?_
  rintro i hi
  simp only at hi ⊢
  refine .seq ?_
  refine .seq ?_
  refine .rn ?_
  refine .condS rfl (fun c25 => ?_) (fun c25 => ?_)
  ·try simp at c25
   have hwr : IntKind.i64.wrap ((i : Int) + 1) = (i : Int) + 1 := wrap64 (by omega) (by omega)
   have hE : encW s[i] = .agg [.int .i64 s[i].id, .int .i64 s[i].known, ints s[i].slips, ints s[i].mended, ints s[i].models, .int .i64 s[i].lo, .int .i64 s[i].hi] := rfl
   obtain ⟨j, hj, hje, hid, hgj⟩ := ok.idx c25
   obtain ⟨hv1, hv2, hv3⟩ := ok.lens s[j] (List.getElem_mem hj)
   have hS := moP_succ s s[k] i c25
   rw [stepR, atI, hgj, Option.getD_some] at hS
   have hln := moP_len s s[k] i
   refine .skip ?_
   refine .seq ?_
   refine .block ?_
   refine .seq ?_
   refine .drawn (ms := [0,0,0,4,0,28,60,124,255,511,1023,1023,2047,8191]) (W := [8]) (items := [.op 0, .op 1, .op 2, .op 3, .op 4, .op 5, .op 6, .op 7, .op 8, .op 9, .op 10, .op 11, .op 12, .op 13]) rfl zz0 zz0 zz0 ?_
   refine .rx ?_
   refine .rx ?_
   refine .rx ?_
   refine .rx ?_
   refine .rx ?_
   refine .rx ?_
   refine .rx ?_
   refine .rx ?_
   refine .wr rfl rfl (by decide) (.pure rfl rfl rfl Tryz.call103 (by decide) (p103b s k j hk hj s[i].id (ok.pos _ (List.getElem_mem c25)) hje hid hl hw1 hw2 hw3 hv1) (by first | rfl | simp [*]) ?_)
   rintro _ rfl
   refine .rx ?_
   refine .rx ?_
   refine .rx ?_
   refine .rx ?_
   refine .rx ?_
   refine .done ?_
   refine .seq ?_
   refine .rn ?_
   refine .condS rfl (fun c41 => ?_) (fun c41 => ?_)
   ·try simp at c41
    rw [if_pos c41] at hS
    refine .regionL [0,1,2,3,4,5,6,7,8] rfl zz0 ?_
    refine .rn [0,1,2,3,4,5,6] [7,8] ?_
    refine .step rfl rfl (.pure rfl rfl rfl Tryz.call147 (by decide) (p147 _ s[i].id (by omega)) (by first | rfl | simp [*]) ?_)
    rintro _ rfl
    refine .rn [8] [] ?_
    refine .done ?_
    refine .rn ?_
    refine ⟨i + 1, c25,zz5,(.mk [] [] zz14 zz15 rfl rfl rfl)⟩
   ·try simp at c41
    rw [if_neg c41] at hS
    refine .skip ?_
    refine .rn ?_
    refine ⟨i + 1, c25,zz5,(.mk [] [] zz14 zz15 rfl rfl rfl)⟩
  ·try simp at c25
   have hin : i = s.length := by omega
   subst hin
   have hall := moP_all s s[k]
   refine .exit ?_
   refine .seq ?_
   refine .rn ?_
   refine .ret ?_
   refine ⟨_, _, zz4,zz4, ?_⟩
   first | rfl | (simp [*]; done) | (simp_all; done)
 ·try simp at c18
  have hO := moP_zeroF s s[k] c18
  refine .skip ?_
  refine .seq ?_
  refine .seq ?_
  refine .rn ?_
  refine .block ?_
  refine .loopS (fun i : Nat => ([(1, .int .i64 k),(2, .ptr 0 0),(5, ints (moP s s[k] i)),(8, .int .i64 i)], ⟨1,[(0, .box [.vec (s.map encW)])]⟩)) (fun i => i ≤ s.length) (fun i => s.length - i) 0 (by simp) (.mk [] [] zz14 zz15 rfl rfl rfl) ?_
  rintro i hi
  simp only at hi ⊢
  refine .seq ?_
  refine .seq ?_
  refine .rn ?_
  refine .condS rfl (fun c25 => ?_) (fun c25 => ?_)
  ·try simp at c25
   have hwr : IntKind.i64.wrap ((i : Int) + 1) = (i : Int) + 1 := wrap64 (by omega) (by omega)
   have hE : encW s[i] = .agg [.int .i64 s[i].id, .int .i64 s[i].known, ints s[i].slips, ints s[i].mended, ints s[i].models, .int .i64 s[i].lo, .int .i64 s[i].hi] := rfl
   obtain ⟨j, hj, hje, hid, hgj⟩ := ok.idx c25
   obtain ⟨hv1, hv2, hv3⟩ := ok.lens s[j] (List.getElem_mem hj)
   have hS := moP_succ s s[k] i c25
   rw [stepR, atI, hgj, Option.getD_some] at hS
   have hln := moP_len s s[k] i
   refine .skip ?_
   refine .seq ?_
   refine .block ?_
   refine .seq ?_
   refine .drawn (ms := [0,0,0,4,0,28,60,124,255,511,1023,1023,2047,8191]) (W := [8]) (items := [.op 0, .op 1, .op 2, .op 3, .op 4, .op 5, .op 6, .op 7, .op 8, .op 9, .op 10, .op 11, .op 12, .op 13]) rfl zz0 zz0 zz0 ?_
   refine .rx ?_
   refine .rx ?_
   refine .rx ?_
   refine .rx ?_
   refine .rx ?_
   refine .rx ?_
   refine .rx ?_
   refine .rx ?_
   refine .wr rfl rfl (by decide) (.pure rfl rfl rfl Tryz.call103 (by decide) (p103b s k j hk hj s[i].id (ok.pos _ (List.getElem_mem c25)) hje hid hl hw1 hw2 hw3 hv1) (by first | rfl | simp [*]) ?_)
   rintro _ rfl
   refine .rx ?_
   refine .rx ?_
   refine .rx ?_
   refine .rx ?_
   refine .rx ?_
   refine .done ?_
   refine .seq ?_
   refine .rn ?_
   refine .condS rfl (fun c41 => ?_) (fun c41 => ?_)
   ·try simp at c41
    rw [if_pos c41] at hS
    refine .regionL [0,1,2,3,4,5,6,7,8] rfl zz0 ?_
    refine .rn [0,1,2,3,4,5,6] [7,8] ?_
    refine .step rfl rfl (.pure rfl rfl rfl Tryz.call147 (by decide) (p147 _ s[i].id (by omega)) (by first | rfl | simp [*]) ?_)
    rintro _ rfl
    refine .rn [8] [] ?_
    refine .done ?_
    refine .rn ?_
    refine ⟨i + 1, c25,zz5,(.mk [] [] zz14 zz15 rfl rfl rfl)⟩
   ·try simp at c41
    rw [if_neg c41] at hS
    refine .skip ?_
    refine .rn ?_
    refine ⟨i + 1, c25,zz5,(.mk [] [] zz14 zz15 rfl rfl rfl)⟩
  ·try simp at c25
   have hin : i = s.length := by omega
   subst hin
   have hall := moP_all s s[k]
   refine .exit ?_
   refine .seq ?_
   refine .rn ?_
   refine .ret ?_
   refine ⟨_, _, zz4,zz4, ?_⟩
   first | rfl | (simp [*]; done) | (simp_all; done)
end Go.Am.Ds
end
section
namespace Go.Am.Ds
open Go Go.Am Go.Proofs
set_option maxRecDepth 100000
set_option maxHeartbeats 4000000
set_option linter.unusedSimpArgs false
set_option linter.unusedVariables false
attribute [local simp] vrun vwanted vyielded vop vopA vputAll VHeap.back hidI hidF backL bm Nat.testBit_eq_decide_div_mod_eq veval vevals vparts vO vbuiltin vlen vappend velems vcopy vmakeSlice vbuildSlice valloc vbox vmakeMap vload vpartT vpart vstore vfieldAddr vfield vindexAddr vindex vextract vslice vsliceZ vbounds vbnd zeroO vidx vlookup vmget vmapUpdate vdelete vclear vnilq vnilp vnils vbin vsc vsc1 vscs vscl abinOp aint ashift aunOp aconvert amaxs amax2 pvcV pvc pvcs tput tget vargs VHeap.get VHeap.alloc VHeap.put VHeap.drop VHeap.empty vlook vput vdrop psplice pfill preps chunk List.range List.range.loop vresults vresult vresultV frz frzL PV.isF PV.allF PV.scal PV.allS retP subT allFT PV.one PV.ids PV.idsL dropL beq_eq ble_dec blt_dec
attribute [local simp] zW tup2
theorem ariS_eq (c p : Wit) : ariS c p = c.slips.filter fun n => !decide (n ∈ p.slips) := by
 unfold ariS
 congr 1
 funext n
 simp [mem_setK]
theorem take_succ_filt (p : Int → Bool) (l : List Int) (i : Nat) (h : i < l.length) : (l.take (i + 1)).filter p = if p l[i] then (l.take i).filter p ++ [l[i]] else (l.take i).filter p := take_succ_filter p l i h
theorem p111a (s : List Wit) (k : Nat) (hk : k < s.length) (ok : OkS s) : VPure Tryz.prog 111 [encS s, .int .i64 k, .int .i64 0] fun r => r = ints s[k].slips := by
 have hl : s.length < 4294967296 := by have := ok.len; omega
 obtain ⟨hw1, hw2, hw3⟩ := ok.lens s[k] (List.getElem_mem hk)
 have hE : encW s[k] = .agg [.int .i64 s[k].id, .int .i64 s[k].known, ints s[k].slips, ints s[k].mended, ints s[k].models, .int .i64 s[k].lo, .int .i64 s[k].hi] := rfl
 refine .of_body Tryz.func111 rfl rfl ?_
 refine .seq ?_
 refine .rn ?_
 refine .seq ?_
 refine .rn ?_
 refine .seq ?_
 refine .seq ?_
 refine .rn ?_
 refine .condS rfl (fun c13 => ?_) (fun c13 => ?_)
 ·try simp at c13
 ·try simp at c13
  refine .skip ?_
  refine .seq ?_
  refine .rn ?_
  refine .seq ?_
  refine .rn ?_
  refine .seq ?_
  refine .seq ?_
  refine .rn ?_
  refine .block ?_
  refine .loopS (fun i : Nat => ([(7, .sl0),(8, .grow 1 ((s[k].slips.take i).length) true),(9, ints s[k].slips),(10, .int .i64 i)], ⟨2,[(1, .grow 1 ((s[k].slips.take i).map (.int .i64)))]⟩)) (fun i => i ≤ s[k].slips.length) (fun i => s[k].slips.length - i) 0 (by simp) (.mk [] [] zz14 zz15 rfl rfl rfl) ?_
  rintro i hi
  simp only at hi ⊢
  refine .seq ?_
  refine .seq ?_
  refine .rn ?_
  refine .condS rfl (fun c32 => ?_) (fun c32 => ?_)
  ·try simp at c32
   have hwr : IntKind.i64.wrap ((i : Int) + 1) = (i : Int) + 1 := wrap64 (by omega) (by omega)
   have hT := take_succ_map (PV.int .i64) s[k].slips i c32
   have hmn2 : min (i + 1) s[k].slips.length = i + 1 := by omega
   have hb : i + 1 ≤ 4294967296 := by omega
   have hb2 : i ≤ 4294967295 := by omega
   have hone : allOne [PV.int IntKind.i64 s[k].slips[i]] = true := rfl
   have hmn : min i s[k].slips.length = i := by omega
   refine .skip ?_
   refine .seq ?_
   refine .block ?_
   refine .seq ?_
   refine .regionL [0,1,2,3,4,5,6] rfl zz0 ?_
   refine .rn [0,1,2,3,4] [5,6] ?_
   refine .step rfl rfl (.pure rfl rfl rfl Tryz.call121 (by decide) (VPure.nilArg (p121 [] s[k].slips[i] (by simp))) (by first | rfl | simp [*]) ?_)
   rintro _ rfl
   refine .rn [6] [] ?_
   refine .done ?_
   refine .seq ?_
   refine .rn ?_
   refine .condS rfl (fun c42 => ?_) (fun c42 => ?_)
   ·try simp at c42
    refine .rn ?_
    refine .rn ?_
    refine ⟨i + 1, c32,zz5,(.mk [] [(1,3)] zz14 zz15 rfl rfl rfl)⟩
   ·try simp at c42
  ·try simp at c32
   have hin : i = s[k].slips.length := by omega
   subst hin
   refine .exit ?_
   refine .seq ?_
   refine .rn ?_
   refine .ret ?_
   refine ⟨_, _, zz4,zz4, ?_⟩
   first | rfl | (simp [*]; done) | (simp_all; done)
theorem p111b (s : List Wit) (k j : Nat) (hk : k < s.length) (hj : j < s.length) (b : Int) (hb : b ≠ 0) (hje : findI s b = (j : Int)) (ok : OkS s) : VPure Tryz.prog 111 [encS s, .int .i64 k, .int .i64 b] fun r => r = ints (ariS s[k] s[j]) := by
 have hl : s.length < 4294967296 := by have := ok.len; omega
 obtain ⟨hw1, hw2, hw3⟩ := ok.lens s[k] (List.getElem_mem hk)
 obtain ⟨hv1, hv2, hv3⟩ := ok.lens s[j] (List.getElem_mem hj)
 have hE : encW s[k] = .agg [.int .i64 s[k].id, .int .i64 s[k].known, ints s[k].slips, ints s[k].mended, ints s[k].models, .int .i64 s[k].lo, .int .i64 s[k].hi] := rfl
 have hE2 : encW s[j] = .agg [.int .i64 s[j].id, .int .i64 s[j].known, ints s[j].slips, ints s[j].mended, ints s[j].models, .int .i64 s[j].lo, .int .i64 s[j].hi] := rfl
 have hmx : (if 0 < j then (j : Int) else 0) = (j : Int) := by split <;> omega
 refine .of_body Tryz.func111 rfl rfl ?_
 refine .seq ?_
 refine .rn ?_
 refine .seq ?_
 refine .rn ?_
 refine .seq ?_
 refine .seq ?_
 refine .rn ?_
 refine .condS rfl (fun c13 => ?_) (fun c13 => ?_)
 ·try simp at c13
  refine .drawn (ms := [0,1,0,0,12,28,63,127,255,511]) (W := [4]) (items := [.op 0, .op 1, .op 2, .op 3, .op 4, .ck 1, .op 5, .op 6, .op 7, .op 8, .op 9]) rfl zz0 zz0 zz0 ?_
  refine .rx ?_
  refine .rx ?_
  refine .rx ?_
  refine .rx ?_
  refine .wr rfl rfl (by decide) (.pure rfl rfl rfl Tryz.call104 (by decide) (p104 s b hl) (by first | rfl | simp [*]) ?_)
  rintro _ rfl
  refine .ck rfl zz0 ?_
  refine .rx ?_
  refine .rx ?_
  refine .rx ?_
  refine .rx ?_
  refine .rx ?_
  refine .done ?_
  refine .seq ?_
  refine .rn ?_
  refine .seq ?_
  refine .rn ?_
  refine .seq ?_
  refine .seq ?_
  refine .rn ?_
  refine .block ?_
  refine .loopS (fun i : Nat => ([(7, ints s[j].slips),(8, .grow 1 (((s[k].slips.take i).filter fun n => !decide (n ∈ s[j].slips)).length) true),(9, ints s[k].slips),(10, .int .i64 i)], ⟨2,[(1, .grow 1 (((s[k].slips.take i).filter fun n => !decide (n ∈ s[j].slips)).map (.int .i64)))]⟩)) (fun i => i ≤ s[k].slips.length) (fun i => s[k].slips.length - i) 0 (by simp) (.mk [] [] zz14 zz15 rfl rfl rfl) ?_
  rintro i hi
  simp only at hi ⊢
  refine .seq ?_
  refine .seq ?_
  refine .rn ?_
  refine .condS rfl (fun c32 => ?_) (fun c32 => ?_)
  ·try simp at c32
   have hwr : IntKind.i64.wrap ((i : Int) + 1) = (i : Int) + 1 := wrap64 (by omega) (by omega)
   have hT := take_succ_filt (fun n => !decide (n ∈ s[j].slips)) s[k].slips i c32
   have hle : ((s[k].slips.take i).filter fun n => !decide (n ∈ s[j].slips)).length ≤ i := Nat.le_trans (List.length_filter_le _ _) (by simp; omega)
   have hb : ((s[k].slips.take i).filter fun n => !decide (n ∈ s[j].slips)).length ≤ 4294967295 := by omega
   have hone : allOne [PV.int IntKind.i64 s[k].slips[i]] = true := rfl
   refine .skip ?_
   refine .seq ?_
   refine .block ?_
   refine .seq ?_
   refine .regionL [0,1,2,3,4,5,6] rfl zz0 ?_
   refine .rn [0,1,2,3,4] [5,6] ?_
   refine .step rfl rfl (.pure rfl rfl rfl Tryz.call121 (by decide) (p121 s[j].slips s[k].slips[i] hv1) (by first | rfl | simp [*]) ?_)
   rintro _ rfl
   refine .rn [6] [] ?_
   refine .done ?_
   refine .seq ?_
   refine .rn ?_
   refine .condS rfl (fun c42 => ?_) (fun c42 => ?_)
   ·try simp at c42
    rw [if_pos (by simp [c42])] at hT
    refine .rn ?_
    refine .rn ?_
    refine ⟨i + 1, c32,zz5,(.mk [] [(1,3)] zz14 zz15 rfl rfl rfl)⟩
   ·try simp at c42
    rw [if_neg (by simp [c42])] at hT
    refine .skip ?_
    refine .rn ?_
    refine ⟨i + 1, c32,zz5,(.mk [] [] zz14 zz15 rfl rfl rfl)⟩
  ·try simp at c32
   have hin : i = s[k].slips.length := by omega
   subst hin
   refine .exit ?_
   refine .seq ?_
   refine .rn ?_
   refine .ret ?_
   refine ⟨_, _, zz4,zz4, ?_⟩
   rw [ariS_eq]
 ·try simp at c13
  exact absurd c13 hb
end Go.Am.Ds
end
section
namespace Go.Am.Ds
open Go Go.Am Go.Proofs
set_option maxRecDepth 100000
set_option maxHeartbeats 4000000
set_option linter.unusedSimpArgs false
set_option linter.unusedVariables false
attribute [local simp] vrun vwanted vyielded vop vopA vputAll VHeap.back hidI hidF backL bm Nat.testBit_eq_decide_div_mod_eq veval vevals vparts vO vbuiltin vlen vappend velems vcopy vmakeSlice vbuildSlice valloc vbox vmakeMap vload vpartT vpart vstore vfieldAddr vfield vindexAddr vindex vextract vslice vsliceZ vbounds vbnd zeroO vidx vlookup vmget vmapUpdate vdelete vclear vnilq vnilp vnils vbin vsc vsc1 vscs vscl abinOp aint ashift aunOp aconvert amaxs amax2 pvcV pvc pvcs tput tget vargs VHeap.get VHeap.alloc VHeap.put VHeap.drop VHeap.empty vlook vput vdrop psplice pfill preps chunk List.range List.range.loop vresults vresult vresultV frz frzL PV.isF PV.allF PV.scal PV.allS retP subT allFT PV.one PV.ids PV.idsL dropL beq_eq ble_dec blt_dec
attribute [local simp] zW tup2
def frS (s : List Wit) (c : Wit) (b : Int) : List Int := if b = 0 then c.slips else ariS c (atI s b c)
theorem p111 (s : List Wit) (k : Nat) (hk : k < s.length) (ok : OkS s) (b : Int) (hb : b = 0 ∨ ∃ w ∈ s, w.id = b) : VPure Tryz.prog 111 [encS s, .int .i64 k, .int .i64 b] fun r => r = ints (frS s s[k] b) := by
 by_cases h0 : b = 0
 ·subst h0
  rw [frS, if_pos rfl]
  exact p111a s k hk ok
 ·have hm : b ∈ idsS s := idsS_mem.2 (hb.resolve_left h0)
  obtain ⟨j, h1, h2, h3⟩ := getW_some (find_ids hm)
  rw [frS, if_neg h0, atI, h3, Option.getD_some]
  exact p111b s k j hk h1 b h0 h2 ok
theorem mem_putS {l : List Int} {n m : Int} (h : m ∈ putS l n) : m ∈ l ∨ m = n := by
 unfold putS at h
 split at h
 ·exact .inl h
 ·rcases List.mem_append.1 h with h | h
  ·rcases List.mem_append.1 h with h | h
   ·exact .inl (List.mem_of_mem_take h)
   ·exact .inr (by simpa using h)
  ·exact .inl (List.mem_of_mem_drop h)
theorem mem_modR {s : List Wit} {c : Wit} {b : Int} (h : b ∈ modR s c) : b = 0 ∨ ∃ w ∈ s, w.id = b := by
 have : ∀ (l : List Wit) (a : List Int), b ∈ l.foldl (stepR s c) a → b ∈ a ∨ ∃ w ∈ l, w.id = b := by
  intro l
  induction l with
  | nil => intro a h; exact .inl h
  | cons w r ih =>
   intro a h
   rcases ih _ h with h | ⟨u, h1, h2⟩
   ·unfold stepR at h
    split at h
    ·rcases mem_putS h with h | h
     ·exact .inl h
     ·exact .inr ⟨w, List.mem_cons_self, h.symm⟩
    ·exact .inl h
   ·exact .inr ⟨u, List.mem_cons_of_mem _ h1, h2⟩
 rcases this s _ h with h | h
 ·split at h
  ·exact .inl (by simpa using h)
  ·cases h
 ·exact .inr h
theorem modR_len (s : List Wit) (c : Wit) : (modR s c).length ≤ s.length + 1 := by
 rw [← moP_all]; exact moP_len s c s.length
def isB (s : List Wit) (c : Wit) (b : Int) : Bool := (modR s c).all fun b2 => decide ((frS s c b).length ≤ (frS s c b2).length)
def bestR (s : List Wit) (c : Wit) : List Int := (modR s c).filter (isB s c)
def leB (s : List Wit) (c : Wit) (b : Int) (q : Nat) : Bool := ((modR s c).take q).all fun b2 => decide ((frS s c b).length ≤ (frS s c b2).length)
theorem leB_succ (s : List Wit) (c : Wit) (b : Int) (q : Nat) (h : q < (modR s c).length) : leB s c b (q + 1) = (leB s c b q && decide ((frS s c b).length ≤ (frS s c (modR s c)[q]).length)) := by
 unfold leB
 rw [List.take_succ_eq_append_getElem h, List.all_append]
 simp
theorem leB_all (s : List Wit) (c : Wit) (b : Int) : leB s c b (modR s c).length = isB s c b := by unfold leB isB; rw [List.take_length]
theorem p112 (s : List Wit) (c : Nat) (hc : c < s.length) (ok : OkS s) : VPure Tryz.prog 112 [encS s, .int .i64 c] fun r => r = ints (bestR s s[c]) := by
 have hl24 := ok.len
 have hml := modR_len s s[c]
 refine .of_body Tryz.func112 rfl rfl ?_
 refine .seq ?_
 refine .rn ?_
 refine .seq ?_
 refine .regionL [0,1,2,3] rfl zz0 ?_
 refine .rn [0,1] [2,3] ?_
 refine .step rfl rfl (.pure rfl rfl rfl Tryz.call107 (by decide) (p107 s c hc ok) (by first | rfl | simp [*]) ?_)
 rintro _ rfl
 refine .rn [3] [] ?_
 refine .done ?_
 refine .seq ?_
 refine .rn ?_
 refine .seq ?_
 refine .seq ?_
 refine .rn ?_
 refine .block ?_
 refine .loopS (fun i : Nat => ([(1, .int .i64 c),(2, .ptr 0 0),(5, ints (modR s s[c])),(6, .grow 1 (((modR s s[c]).take i).filter (isB s s[c])).length true),(7, .int .i64 i)], ⟨2,[(1, .grow 1 ((((modR s s[c]).take i).filter (isB s s[c])).map (.int .i64))),(0, .box [.vec (s.map encW)])]⟩)) (fun i => i ≤ (modR s s[c]).length) (fun i => (modR s s[c]).length - i) 0 (by simp) (.mk [] [] zz14 zz15 rfl rfl rfl) ?_
 rintro i hi
 simp only at hi ⊢
 refine .seq ?_
 refine .seq ?_
 refine .rn ?_
 refine .condS rfl (fun c16 => ?_) (fun c16 => ?_)
 ·try simp at c16
  have hwr : IntKind.i64.wrap ((i : Int) + 1) = (i : Int) + 1 := wrap64 (by omega) (by omega)
  have hT := take_succ_filt (isB s s[c]) (modR s s[c]) i c16
  have hle : (((modR s s[c]).take i).filter (isB s s[c])).length ≤ i := Nat.le_trans (List.length_filter_le _ _) (by simp; omega)
  have hb : (((modR s s[c]).take i).filter (isB s s[c])).length ≤ 4294967295 := by omega
  have hone : allOne [PV.int IntKind.i64 (modR s s[c])[i]] = true := rfl
  have hm1 := mem_modR (List.getElem_mem c16)
  refine .skip ?_
  refine .seq ?_
  refine .block ?_
  refine .seq ?_
  refine .rn ?_
  refine .seq ?_
  refine .seq ?_
  refine .rn ?_
  refine .block ?_
  refine .loopS (fun q : Nat => ([(1, .int .i64 c),(2, .ptr 0 0),(5, ints (modR s s[c])),(6, .grow 1 (((modR s s[c]).take i).filter (isB s s[c])).length true),(7, .int .i64 i),(8, .bool (leB s s[c] (modR s s[c])[i] q)),(9, .int .i64 q)], ⟨2,[(1, .grow 1 ((((modR s s[c]).take i).filter (isB s s[c])).map (.int .i64))),(0, .box [.vec (s.map encW)])]⟩)) (fun q => q ≤ (modR s s[c]).length) (fun q => (modR s s[c]).length - q) 0 (by simp) (.mk [] [] zz14 zz15 rfl rfl rfl) ?_
  rintro q hq
  simp only at hq ⊢
  refine .seq ?_
  refine .seq ?_
  refine .rn ?_
  refine .condS rfl (fun c22 => ?_) (fun c22 => ?_)
  ·try simp at c22
   have hwr2 : IntKind.i64.wrap ((q : Int) + 1) = (q : Int) + 1 := wrap64 (by omega) (by omega)
   have hS := leB_succ s s[c] (modR s s[c])[i] q c22
   have hm2 := mem_modR (List.getElem_mem c22)
   refine .skip ?_
   refine .seq ?_
   refine .block ?_
   refine .drawn (ms := [0,1,3,3,3,3,51,115,255,511,3,3,3,3,12291,28675,65023,130559,262143,524287,1048575]) (W := [8,16]) (items := [.op 0, .op 1, .op 2, .op 3, .op 4, .op 5, .op 6, .op 7, .op 10, .op 11, .op 12, .op 13, .op 14, .op 15, .op 8, .ck 15, .ck 10, .op 9, .op 16, .ck 9, .op 17, .op 18, .op 19, .op 20]) rfl zz0 zz0 zz0 ?_
   refine .rx ?_
   refine .rx ?_
   refine .split (t := 26) rfl (fun c26 => ?_) (fun c26 => ?_)
   ·try rw [c26]
    try simp at c26
    rw [c26, Bool.true_and] at hS
    refine .rx ?_
    refine .rx ?_
    refine .rx ?_
    refine .rx ?_
    refine .rx ?_
    refine .rx ?_
    refine .rx ?_
    refine .rx ?_
    refine .rx ?_
    refine .rx ?_
    refine .rx ?_
    refine .rx ?_
    refine .wr rfl rfl (by decide) (.pure rfl rfl rfl Tryz.call111 (by decide) (p111 s c hc ok _ hm1) (by first | rfl | simp [*]) ?_)
    rintro _ rfl
    refine .ck rfl zz0 ?_
    refine .ck rfl zz0 ?_
    refine .rx ?_
    refine .wr rfl rfl (by decide) (.pure rfl rfl rfl Tryz.call111 (by decide) (p111 s c hc ok _ hm2) (by first | rfl | simp [*]) ?_)
    rintro _ rfl
    refine .ck rfl zz0 ?_
    refine .rx ?_
    refine .rx ?_
    refine .rx ?_
    refine .rx ?_
    refine .done ?_
    refine .rn ?_
    refine ⟨q + 1, c22,zz5,(.mk [] [] zz14 zz15 rfl rfl rfl)⟩
   ·try rw [c26]
    try simp at c26
    rw [c26, Bool.false_and] at hS
    refine .un rfl rfl (by decide) ?_
    refine .un rfl rfl (by decide) ?_
    refine .un rfl rfl (by decide) ?_
    refine .un rfl rfl (by decide) ?_
    refine .un rfl rfl (by decide) ?_
    refine .un rfl rfl (by decide) ?_
    refine .un rfl rfl (by decide) ?_
    refine .un rfl rfl (by decide) ?_
    refine .un rfl rfl (by decide) ?_
    refine .un rfl rfl (by decide) ?_
    refine .un rfl rfl (by decide) ?_
    refine .un rfl rfl (by decide) ?_
    refine .un rfl rfl (by decide) ?_
    refine .ckU rfl rfl rfl ?_
    refine .ckU rfl rfl rfl ?_
    refine .un rfl rfl (by decide) ?_
    refine .un rfl rfl (by decide) ?_
    refine .ckU rfl rfl rfl ?_
    refine .un rfl rfl (by decide) ?_
    refine .un rfl rfl (by decide) ?_
    refine .rx ?_
    refine .rx ?_
    refine .done ?_
    refine .rn ?_
    refine ⟨q + 1, c22,zz5,(.mk [] [] zz14 zz15 rfl rfl rfl)⟩
  ·try simp at c22
   have hqn : q = (modR s s[c]).length := by omega
   subst hqn
   have hall := leB_all s s[c] (modR s s[c])[i]
   refine .exit ?_
   refine .seq ?_
   refine .rn ?_
   refine .condS rfl (fun c45 => ?_) (fun c45 => ?_)
   ·try simp at c45
    rw [if_pos c45] at hT
    refine .rn ?_
    refine .rn ?_
    refine ⟨i + 1, c16,zz5,(.mk [] [(1,3)] zz14 zz15 rfl rfl rfl)⟩
   ·try simp at c45
    rw [if_neg (by simp [c45])] at hT
    refine .skip ?_
    refine .rn ?_
    refine ⟨i + 1, c16,zz5,(.mk [] [] zz14 zz15 rfl rfl rfl)⟩
 ·try simp at c16
  have hin : i = (modR s s[c]).length := by omega
  subst hin
  refine .exit ?_
  refine .seq ?_
  refine .rn ?_
  refine .ret ?_
  refine ⟨_, _, zz4,zz4, ?_⟩
  first | rfl | (simp [*]; done) | (simp_all; done)
theorem p110 (s : List Wit) (ok : OkS s) : VPure Tryz.prog 110 [encS s] fun r => r = .bool (s.any fun w => decide (modR s w = [])) := by
 have hl24 := ok.len
 refine .of_body Tryz.func110 rfl rfl ?_
 refine .seq ?_
 refine .rn ?_
 refine .seq ?_
 refine .seq ?_
 refine .rn ?_
 refine .block ?_
 refine .loopS (fun i : Nat => ([(1, .ptr 0 0),(3, .int .i64 i)], ⟨1,[(0, .box [.vec (s.map encW)])]⟩)) (fun i => i ≤ s.length ∧ ∀ w ∈ s.take i, modR s w ≠ []) (fun i => s.length - i) 0 (by simp) (.mk [] [] zz14 zz15 rfl rfl rfl) ?_
 rintro i ⟨hi, hne⟩
 simp only at hi hne ⊢
 refine .seq ?_
 refine .seq ?_
 refine .rn ?_
 refine .condS rfl (fun c8 => ?_) (fun c8 => ?_)
 ·try simp at c8
  have hwr : IntKind.i64.wrap ((i : Int) + 1) = (i : Int) + 1 := wrap64 (by omega) (by omega)
  refine .skip ?_
  refine .seq ?_
  refine .block ?_
  refine .seq ?_
  refine .regionL [0,1,2,3,4] rfl zz0 ?_
  refine .rn [0,1] [2,3,4] ?_
  refine .step rfl rfl (.pure rfl rfl rfl Tryz.call107 (by decide) (p107 s i c8 ok) (by first | rfl | simp [*]) ?_)
  rintro _ rfl
  refine .rn [3,4] [] ?_
  refine .done ?_
  refine .condS rfl (fun c15 => ?_) (fun c15 => ?_)
  ·try simp at c15
   refine .seq ?_
   refine .rn ?_
   refine .ret ?_
   refine ⟨_, _, zz4,zz4, ?_⟩
   have e : (s.any fun w => decide (modR s w = [])) = true := List.any_eq_true.2 ⟨s[i], List.getElem_mem c8, by simpa using c15⟩
   rw [e]
  ·try simp at c15
   refine .skip ?_
   refine .rn ?_
   refine ⟨i + 1, ⟨c8, ?_⟩, zz5,(.mk [] [] zz14 zz15 rfl rfl rfl)⟩
   intro w hw
   rw [List.take_succ_eq_append_getElem c8] at hw
   rcases List.mem_append.1 hw with hw | hw
   ·exact hne w hw
   ·rw [List.mem_singleton] at hw
    rw [hw]; exact c15
 ·try simp at c8
  have hin : i = s.length := by omega
  subst hin
  rw [List.take_length] at hne
  refine .exit ?_
  refine .seq ?_
  refine .rn ?_
  refine .ret ?_
  refine ⟨_, _, zz4,zz4, ?_⟩
  have e : (s.any fun w => decide (modR s w = [])) = false := by
   rw [List.any_eq_false]
   intro w hw
   simpa using hne w hw
  rw [e]
end Go.Am.Ds
end
section
namespace Go.Am.Ds
open Go Go.Am Go.Proofs
set_option maxHeartbeats 4000000
set_option linter.unusedSimpArgs false
set_option linter.unusedVariables false
attribute [local simp] vrun vwanted vyielded vop veval vevals vparts vO vbuiltin vlen vappend velems vcopy vmakeSlice vbuildSlice valloc vbox vmakeMap vload vpartT vpart vstore vfieldAddr vfield vindexAddr vindex vextract vslice vsliceZ vbounds vbnd zeroO vidx vlookup vmget vmapUpdate vdelete vnilq vnilp vnils vbin vsc vsc1 vscs vscl abinOp aint ashift aunOp aconvert amaxs amax2 pvcV pvc pvcs tput tget vargs VHeap.get VHeap.alloc VHeap.put VHeap.drop VHeap.empty vlook vput vdrop psplice pfill preps chunk List.range List.range.loop vresults vresult vresultV frz frzL PV.isF PV.allF PV.scal PV.allS retP subT allFT PV.one PV.ids PV.idsL dropL beq_eq ble_dec blt_dec
attribute [local simp] zW tup2
theorem frS_len (s : List Wit) (c : Wit) (b : Int) : (frS s c b).length ≤ c.slips.length := by
 unfold frS
 split
 ·exact Nat.le_refl _
 ·exact List.length_filter_le _ _
end Go.Am.Ds
end
section
namespace Go.Am.Ds
open Go Go.Am Go.Proofs
set_option maxHeartbeats 4000000
set_option linter.unusedSimpArgs false
set_option linter.unusedVariables false
attribute [local simp] vrun vwanted vyielded vop veval vevals vparts vO vbuiltin vlen vappend velems vcopy vmakeSlice vbuildSlice valloc vbox vmakeMap vload vpartT vpart vstore vfieldAddr vfield vindexAddr vindex vextract vslice vsliceZ vbounds vbnd zeroO vidx vlookup vmget vmapUpdate vdelete vnilq vnilp vnils vbin vsc vsc1 vscs vscl abinOp aint ashift aunOp aconvert amaxs amax2 pvcV pvc pvcs tput tget vargs VHeap.get VHeap.alloc VHeap.put VHeap.drop VHeap.empty vlook vput vdrop psplice pfill preps chunk List.range List.range.loop vresults vresult vresultV frz frzL PV.isF PV.allF PV.scal PV.allS retP subT allFT PV.one PV.ids PV.idsL dropL beq_eq ble_dec blt_dec
attribute [local simp] zW tup2
theorem p108' (s : List Wit) (hl : s.length < 4294967296) : VPure Tryz.prog 108 [encS s] fun r => r = .tup [.vec ((chL s).map encC), .int .i64 (chE s)] := VPure.soft (p108 s hl) rfl
end Go.Am.Ds
end
section
namespace Go.Am.Ds
open Go Go.Am Go.Proofs

theorem checkL_nodup : ∀ {l : List Wit} {seen : List Int}, checkL l seen = 0 → (l.map Wit.id).Nodup ∧ ∀ w ∈ l, w.id ∉ seen
 | [], _, _ => ⟨.nil, fun w hw => by cases hw⟩
 | a :: r, seen, h => by
  simp only [checkL] at h
  split at h
  ·split at h
   ·simp at h
   ·rename_i hn
    obtain ⟨h1, h2⟩ := checkL_nodup h
    refine ⟨?_, fun w hw => ?_⟩
    ·rw [List.map_cons, List.nodup_cons]
     refine ⟨fun hm => ?_, h1⟩
     obtain ⟨w, hw, he⟩ := List.mem_map.1 hm
     exact h2 w hw ((mem_insU _ _ _).2 (.inr he))
    ·rcases List.mem_cons.1 hw with rfl | hw
     ·exact hn
     ·exact fun hs => h2 w hw ((mem_insU _ _ _).2 (.inl hs))
  ·rename_i h0; exact absurd h h0
theorem checkS_nodup {s : List Wit} (h : checkS s = 0) : (s.map Wit.id).Nodup := by
 unfold checkS at h
 split at h
 ·simp at h
 ·exact (checkL_nodup h).1
theorem checkS_pos {s : List Wit} (h : checkS s = 0) : ∀ w ∈ s, 0 < w.id := fun w hw => by
 have := (checkS_ok h).2 w hw
 unfold witE at this
 split at this
 ·cases this
 ·omega

theorem strict_eq : ∀ {l m : List Int}, l.Pairwise (· < ·) → m.Pairwise (· < ·) → (∀ x, x ∈ l ↔ x ∈ m) → l = m
 | [],[], _, _, _ => rfl
 | [], b :: s, _, _, h => absurd ((h b).2 List.mem_cons_self) (by simp)
 | a :: r, [], _, _, h => absurd ((h a).1 List.mem_cons_self) (by simp)
 | a :: r, b :: s, hl, hm, h => by
  rw [List.pairwise_cons] at hl hm
  have h1 : a = b := by
   rcases List.mem_cons.1 ((h a).1 List.mem_cons_self) with h1 | h1
   ·exact h1
   ·rcases List.mem_cons.1 ((h b).2 List.mem_cons_self) with h2 | h2
    ·exact h2.symm
    ·have := hl.1 b h2
     have := hm.1 a h1
     omega
  subst h1
  rw [strict_eq hl.2 hm.2 fun x => ⟨fun hx => ?_, fun hx => ?_⟩]
  ·rcases List.mem_cons.1 ((h x).1 (List.mem_cons_of_mem _ hx)) with rfl | h2
   ·have := hl.1 x hx; omega
   ·exact h2
  ·rcases List.mem_cons.1 ((h x).2 (List.mem_cons_of_mem _ hx)) with rfl | h2
   ·have := hm.1 x hx; omega
   ·exact h2

theorem lowN_spec (n : Int) : ∀ (l : List Int), l.Pairwise (· < ·) → (∀ x ∈ l.take (lowN l n), x < n) ∧ (∀ x ∈ l.drop (lowN l n), n ≤ x)
 | [], _ => ⟨fun x hx => by simp [lowN] at hx, fun x hx => by simp at hx⟩
 | a :: r, h => by
  rw [List.pairwise_cons] at h
  obtain ⟨h1, h2⟩ := lowN_spec n r h.2
  simp only [lowN]
  by_cases ha : a < n
  ·rw [if_pos ha]
   refine ⟨fun x hx => ?_, fun x hx => ?_⟩
   ·rw [List.take_succ_cons] at hx
    rcases List.mem_cons.1 hx with rfl | hx
    ·exact ha
    ·exact h1 x hx
   ·rw [List.drop_succ_cons] at hx; exact h2 x hx
  ·rw [if_neg ha]
   refine ⟨fun x hx => by simp at hx, fun x hx => ?_⟩
   rw [List.drop_zero] at hx
   rcases List.mem_cons.1 hx with rfl | hx
   ·omega
   ·have := h.1 x hx; omega
theorem putS_mem {l : List Int} {n m : Int} : m ∈ putS l n ↔ m ∈ l ∨ m = n := by
 refine ⟨mem_putS, fun h => ?_⟩
 unfold putS
 split
 ·rename_i hg
  rcases h with h | h
  ·exact h
  ·rw [h]; exact List.mem_of_getElem? hg
 ·rcases h with h | h
  ·rw [← List.take_append_drop (lowN l n) l] at h
   rcases List.mem_append.1 h with h | h
   ·exact List.mem_append_left _ (List.mem_append_left _ h)
   ·exact List.mem_append_right _ h
  ·exact List.mem_append_left _ (List.mem_append_right _ (by simp [h]))
theorem putS_sorted {l : List Int} {n : Int} (h : l.Pairwise (· < ·)) : (putS l n).Pairwise (· < ·) := by
 unfold putS
 split
 ·exact h
 ·rename_i hg
  obtain ⟨h1, h2⟩ := lowN_spec n l h
  have h3 : ∀ x ∈ l.drop (lowN l n), n < x := fun x hx => by
   have h4 := h2 x hx
   rcases Int.lt_or_eq_of_le h4 with h5 | h5
   ·exact h5
   ·exfalso
    cases hd : l.drop (lowN l n) with
    | nil => rw [hd] at hx; cases hx
    | cons b r =>
     have hb : l[lowN l n]? = some b := by
      have := congrArg (·[0]?) hd
      simpa using this
     rw [hd] at hx h2
     have hbn := h2 b List.mem_cons_self
     have hs : (b :: r).Pairwise (· < ·) := hd ▸ h.sublist (List.drop_sublist _ _)
     rw [List.pairwise_cons] at hs
     rcases List.mem_cons.1 hx with h6 | h6
     ·exact hg (by rw [hb, ← h6, h5])
     ·have := hs.1 x h6; omega
  have ht := h.sublist (List.take_sublist (lowN l n) l)
  have hd := h.sublist (List.drop_sublist (lowN l n) l)
  rw [List.pairwise_append, List.pairwise_append]
  refine ⟨⟨ht, by simp, fun a ha b hb => ?_⟩, hd, fun a ha b hb => ?_⟩
  ·rw [List.mem_singleton] at hb; rw [hb]; exact h1 a ha
  ·have hb' := h3 b hb
   rcases List.mem_append.1 ha with ha | ha
   ·have := h1 a ha; omega
   ·rw [List.mem_singleton] at ha; omega

theorem idsS_sorted {s : List Wit} (h : (s.map Wit.id).Nodup) : (idsS s).Pairwise (· < ·) := by
 unfold idsS
 have h1 := List.pairwise_mergeSort (le := fun x y : Int => decide (x ≤ y)) (fun a b c h1 h2 => by simp only [decide_eq_true_eq] at *; omega) (fun a b => by simp only [Bool.or_eq_true, decide_eq_true_eq]; omega) (s.map Wit.id)
 have h2 : ((s.map Wit.id).mergeSort fun x y => decide (x ≤ y)).Nodup := (List.mergeSort_perm _ _).nodup_iff.2 h
 have h3 := h1.and h2
 exact h3.imp fun ⟨h4, h5⟩ => by
  simp only [decide_eq_true_eq] at h4
  rcases Int.lt_or_eq_of_le h4 with h6 | h6
  ·exact h6
  ·exact absurd h6 h5
theorem modR_mem {s : List Wit} {c : Wit} {b : Int} : b ∈ modR s c ↔ (b = 0 ∧ lastS c 0 = 0) ∨ ∃ w ∈ s, w.id = b ∧ (whyP c (atI s w.id w)).1 = 0 := by
 have : ∀ (l : List Wit) (a : List Int), b ∈ l.foldl (stepR s c) a ↔ b ∈ a ∨ ∃ w ∈ l, w.id = b ∧ (whyP c (atI s w.id w)).1 = 0 := by
  intro l
  induction l with
  | nil => intro a; simp
  | cons w r ih =>
   intro a
   rw [List.foldl_cons, ih]
   have h1 : b ∈ stepR s c a w ↔ b ∈ a ∨ (w.id = b ∧ (whyP c (atI s w.id w)).1 = 0) := by
    unfold stepR
    split
    ·rename_i h
     rw [putS_mem]
     exact ⟨fun h2 => h2.imp_right fun h3 => ⟨h3.symm, h⟩, fun h2 => h2.imp_right fun h3 => h3.1.symm⟩
    ·rename_i h
     exact ⟨.inl, fun h2 => h2.elim id fun h3 => absurd h3.2 h⟩
   rw [h1]
   constructor
   ·rintro ((h | h) | ⟨u, h2, h3⟩)
    ·exact .inl h
    ·exact .inr ⟨w, List.mem_cons_self, h⟩
    ·exact .inr ⟨u, List.mem_cons_of_mem _ h2, h3⟩
   ·rintro (h | ⟨u, h2, h3⟩)
    ·exact .inl (.inl h)
    ·rcases List.mem_cons.1 h2 with rfl | h2
     ·exact .inl (.inr h3)
     ·exact .inr ⟨u, h2, h3⟩
 unfold modR
 rw [this]
 have h0 : b ∈ (if lastS c 0 = 0 then [0] else ([] : List Int)) ↔ b = 0 ∧ lastS c 0 = 0 := by
  split
  ·rename_i h; simp [h]
  ·rename_i h; simp [h]
 rw [h0]
theorem modR_sorted (s : List Wit) (c : Wit) : (modR s c).Pairwise (· < ·) := by
 have : ∀ (l : List Wit) (a : List Int), a.Pairwise (· < ·) → (l.foldl (stepR s c) a).Pairwise (· < ·) := by
  intro l
  induction l with
  | nil => intro a h; exact h
  | cons w r ih =>
   intro a h
   refine ih _ ?_
   unfold stepR
   split
   ·exact putS_sorted h
   ·exact h
 refine this s _ ?_
 split <;> simp
theorem stepP_some {s : List Wit} {c : Wit} {id : Int} {y : Int × Int} : stepP s c id = some y ↔ ∃ p, getW s id = some p ∧ (whyP c p).1 = 0 ∧ y = (id, ((ariS c p).length : Int)) := by
 unfold stepP
 cases hg : getW s id with
 | none => simp
 | some p =>
  simp only
  by_cases h : (whyP c p).1 = 0
  ·rw [if_pos h]
   constructor
   ·intro h2; injection h2 with h2; exact ⟨p, rfl, h, h2.symm⟩
   ·rintro ⟨q, h2, _, h3⟩; injection h2 with h2; subst h2; rw [h3]
  ·rw [if_neg h]
   constructor
   ·intro h2; cases h2
   ·rintro ⟨q, h2, h3, _⟩; injection h2 with h2; subst h2; exact absurd h3 h
theorem parS_mem {s : List Wit} {c : Wit} {y : Int × Int} : y ∈ parS s c ↔ (y = (0,(c.slips.length : Int)) ∧ lastS c 0 = 0) ∨ ∃ p, y.1 ∈ idsS s ∧ getW s y.1 = some p ∧ (whyP c p).1 = 0 ∧ y.2 = ((ariS c p).length : Int) := by
 unfold parS
 rw [List.mem_append, List.mem_filterMap]
 have h0 : y ∈ headP c ↔ y = (0,(c.slips.length : Int)) ∧ lastS c 0 = 0 := by
  unfold headP
  split
  ·rename_i h; simp [h]
  ·rename_i h; simp [h]
 rw [h0]
 constructor
 ·rintro (h | ⟨id, h1, h2⟩)
  ·exact .inl h
  ·obtain ⟨p, h3, h4, h5⟩ := stepP_some.1 h2
   subst h5
   exact .inr ⟨p, h1, h3, h4, rfl⟩
 ·rintro (h | ⟨p, h1, h2, h3, h4⟩)
  ·exact .inl h
  ·exact .inr ⟨y.1, h1, stepP_some.2 ⟨p, h2, h3, Prod.ext rfl h4⟩⟩
theorem fst_sorted {f : Int → Option (Int × Int)} (hf : ∀ x y, f x = some y → y.1 = x) : ∀ {l : List Int}, l.Pairwise (· < ·) → ((l.filterMap f).map (·.1)).Pairwise (· < ·)
 | [], _ => .nil
 | a :: r, h => by
  rw [List.pairwise_cons] at h
  rw [List.filterMap_cons]
  cases hfa : f a with
  | none => exact fst_sorted hf h.2
  | some y =>
   simp only [List.map_cons, List.pairwise_cons]
   refine ⟨fun b hb => ?_, fst_sorted hf h.2⟩
   obtain ⟨z, hz, rfl⟩ := List.mem_map.1 hb
   obtain ⟨x, hx, h2⟩ := List.mem_filterMap.1 hz
   rw [hf a y hfa, hf x z h2]
   exact h.1 x hx
theorem models_eq {s : List Wit} (h : checkS s = 0) (c : Wit) : (parS s c).map (·.1) = modR s c := by
 refine strict_eq ?_ (modR_sorted s c) fun b => ?_
 ·have h1 : (((idsS s).filterMap (stepP s c)).map (·.1)).Pairwise (· < ·) := fst_sorted (fun x y hxy => by obtain ⟨p, _, _, rfl⟩ := stepP_some.1 hxy; rfl) (idsS_sorted (checkS_nodup h))
  unfold parS headP
  split
  ·simp only [List.singleton_append, List.map_cons, List.pairwise_cons]
   refine ⟨fun b hb => ?_, h1⟩
   obtain ⟨z, hz, rfl⟩ := List.mem_map.1 hb
   obtain ⟨x, hx, h2⟩ := List.mem_filterMap.1 hz
   obtain ⟨p, _, _, rfl⟩ := stepP_some.1 h2
   obtain ⟨w, hw, rfl⟩ := idsS_mem.1 hx
   exact checkS_pos h w hw
  ·simpa using h1
 ·rw [modR_mem, List.mem_map]
  constructor
  ·rintro ⟨y, hy, rfl⟩
   rcases parS_mem.1 hy with ⟨rfl, h2⟩ | ⟨p, h1, h2, h3, _⟩
   ·exact .inl ⟨rfl, h2⟩
   ·obtain ⟨hp, hpi⟩ := getW_mem h2
    refine .inr ⟨p, hp, hpi, ?_⟩
    rw [atI, hpi, h2]; exact h3
  ·rintro (⟨rfl, h2⟩ | ⟨w, hw, rfl, h3⟩)
   ·exact ⟨(0,(c.slips.length : Int)), parS_mem.2 (.inl ⟨rfl, h2⟩), rfl⟩
   ·have hm : w.id ∈ idsS s := idsS_mem.2 ⟨w, hw, rfl⟩
    obtain ⟨j, h4, h5, h6⟩ := getW_some (find_ids hm)
    rw [atI, h6, Option.getD_some] at h3
    exact ⟨(w.id, ((ariS c s[j]).length : Int)), parS_mem.2 (.inr ⟨s[j], hm, h6, h3, rfl⟩), rfl⟩

theorem fold_spec : ∀ (l : List (Int × Int)) (d : List (Int × Int)) (x : List Int × Int),(d = [] ∧ x.1 = [] ∨ x.1 ≠ [] ∧ (∀ y ∈ d, x.2 ≤ y.2) ∧ ∃ y ∈ d, y.2 = x.2) →
  (d ++ l = [] ∧ (l.foldl stepC x).1 = [] ∨ (l.foldl stepC x).1 ≠ [] ∧ (∀ y ∈ d ++ l, (l.foldl stepC x).2 ≤ y.2) ∧ ∃ y ∈ d ++ l, y.2 = (l.foldl stepC x).2)
 | [], d, x, h => by simpa using h
 | y :: r, d, x, h => by
  have ih := fold_spec r (d ++ [y]) (stepC x y) (.inr (by
   unfold stepC
   split
   ·rename_i h1
    rcases h with ⟨_, h2⟩ | ⟨h2, h3, z, h4, h5⟩
    ·exact absurd h2 h1.1
    ·refine ⟨h2, fun w hw => ?_, z, List.mem_append_left _ h4, h5⟩
     rcases List.mem_append.1 hw with hw | hw
     ·exact h3 w hw
     ·rw [List.mem_singleton] at hw; rw [hw]; omega
   ·rename_i h1
    split
    ·rename_i h2
     refine ⟨by simp, fun w hw => ?_, y, by simp, rfl⟩
     rcases List.mem_append.1 hw with hw | hw
     ·rcases h with ⟨h3, _⟩ | ⟨h3, h4, _⟩
      ·rw [h3] at hw; cases hw
      ·rcases h2 with h2 | h2
       ·exact absurd h2 h3
       ·have := h4 w hw; simp only; omega
     ·rw [List.mem_singleton] at hw; rw [hw]; exact Int.le_refl _
    ·rename_i h2
     have h3 : x.1 ≠ [] := fun h4 => h2 (.inl h4)
     have h4 : ¬ y.2 < x.2 := fun h4 => h2 (.inr h4)
     have h5 : ¬ x.2 < y.2 := fun h5 => h1 ⟨h3, h5⟩
     rcases h with ⟨_, h6⟩ | ⟨_, h7, z, h8, h9⟩
     ·exact absurd h6 h3
     ·refine ⟨by simp, fun w hw => ?_, z, List.mem_append_left _ h8, h9⟩
      rcases List.mem_append.1 hw with hw | hw
      ·exact h7 w hw
      ·rw [List.mem_singleton] at hw; rw [hw]; simp only; omega))
  rw [List.append_assoc, List.singleton_append] at ih
  rw [List.foldl_cons]
  exact ih
theorem choF_spec (s : List Wit) (c : Wit) : (parS s c = [] ∧ (choF s c).1 = []) ∨ ((choF s c).1 ≠ [] ∧ (∀ y ∈ parS s c, (choF s c).2 ≤ y.2) ∧ ∃ y ∈ parS s c, y.2 = (choF s c).2) := by
 have := fold_spec (parS s c) [] ([],0) (.inl ⟨rfl, rfl⟩)
 simpa [choF] using this
theorem choF_nil {s : List Wit} (h : checkS s = 0) (c : Wit) : (choF s c).1 = [] ↔ modR s c = [] := by
 rw [← models_eq h c, List.map_eq_nil_iff]
 rcases choF_spec s c with ⟨h1, h2⟩ | ⟨h1, _, y, h2, _⟩
 ·simp [h1, h2]
 ·exact ⟨fun h3 => absurd h3 h1, fun h3 => by rw [h3] at h2; cases h2⟩
theorem parS_fr {s : List Wit} (h : checkS s = 0) {c : Wit} {y : Int × Int} (hy : y ∈ parS s c) : y.2 = ((frS s c y.1).length : Int) := by
 rcases parS_mem.1 hy with ⟨rfl, _⟩ | ⟨p, h1, h2, _, h4⟩
 ·simp [frS]
 ·obtain ⟨hp, hpi⟩ := getW_mem h2
  have h0 : y.1 ≠ 0 := by have := checkS_pos h p hp; omega
  rw [h4, frS, if_neg h0, atI, h2]; rfl
theorem choF_min {s : List Wit} (h : checkS s = 0) {c : Wit} {b : Int} (hb : b ∈ bestR s c) : (choF s c).2 = ((frS s c b).length : Int) := by
 obtain ⟨h1, h2⟩ := List.mem_filter.1 hb
 unfold isB at h2
 rw [List.all_eq_true] at h2
 have hm : b ∈ (parS s c).map (·.1) := by rw [models_eq h c]; exact h1
 obtain ⟨y, hy, rfl⟩ := List.mem_map.1 hm
 rcases choF_spec s c with ⟨h3, _⟩ | ⟨_, h4, z, h5, h6⟩
 ·rw [h3] at hy; cases hy
 ·have e1 := h4 y hy
  rw [parS_fr h hy] at e1
  have hz : z.1 ∈ modR s c := by rw [← models_eq h c]; exact List.mem_map_of_mem h5
  have e2 := h2 z.1 hz
  simp only [decide_eq_true_eq] at e2
  have e3 := parS_fr h h5
  omega
theorem chE_eq {s : List Wit} (h : checkS s = 0) : chE s = if ∃ w ∈ s, modR s w = [] then 9 else 0 := by
 unfold chE
 rw [if_pos h]
 have : (∃ c ∈ s, (choF s c).1 = []) ↔ ∃ w ∈ s, modR s w = [] := ⟨fun ⟨w, h1, h2⟩ => ⟨w, h1,(choF_nil h w).1 h2⟩, fun ⟨w, h1, h2⟩ => ⟨w, h1,(choF_nil h w).2 h2⟩⟩
 by_cases h2 : ∃ w ∈ s, modR s w = []
 ·rw [if_pos h2, if_pos (this.2 h2)]
 ·rw [if_neg h2, if_neg (fun h3 => h2 (this.1 h3))]
end Go.Am.Ds
end
section
namespace Go.Am.Ds
open Go Go.Am Go.Proofs
set_option maxRecDepth 100000
set_option maxHeartbeats 4000000
set_option linter.unusedSimpArgs false
set_option linter.unusedVariables false
attribute [local simp] vrun vwanted vyielded vop vopA vputAll VHeap.back hidI hidF backL bm Nat.testBit_eq_decide_div_mod_eq veval vevals vparts vO vbuiltin vlen vappend velems vcopy vmakeSlice vbuildSlice valloc vbox vmakeMap vload vpartT vpart vstore vfieldAddr vfield vindexAddr vindex vextract vslice vsliceZ vbounds vbnd zeroO vidx vlookup vmget vmapUpdate vdelete vclear vnilq vnilp vnils vbin vsc vsc1 vscs vscl abinOp aint ashift aunOp aconvert amaxs amax2 pvcV pvc pvcs tput tget vargs VHeap.get VHeap.alloc VHeap.put VHeap.drop VHeap.empty vlook vput vdrop psplice pfill preps chunk List.range List.range.loop vresults vresult vresultV frz frzL PV.isF PV.allF PV.scal PV.allS retP subT allFT PV.one PV.ids PV.idsL dropL beq_eq ble_dec blt_dec
def parR (s : List Wit) (id : Int) : PV := match getW s id with
 | some p => .vp (encW p).cells
 | none => .ptr0
theorem parR_none {s : List Wit} {id : Int} (h : getW s id = none) : parR s id = .ptr0 := by unfold parR; rw [h]
theorem parR_some {s : List Wit} {id : Int} {p : Wit} (h : getW s id = some p) : parR s id = .vp (encW p).cells := by unfold parR; rw [h]
def stepD (s : List Wit) (c : Wit) (id : Int) : Option Int := match getW s id with
 | none => if id = 0 ∧ lastS c 0 = 0 then some (c.slips.length : Int) else none
 | some p => if (whyP c p).1 = 0 then some ((ariS c p).length : Int) else none
def desL (s : List Wit) (l : List Int) : List (Option Int) := (s.zip l).map fun x => stepD s x.1 x.2
def desP (s : List Wit) (l : List Int) (k : Nat) : Int := (((desL s l).take k).map (·.getD 0)).sum
def desR (s : List Wit) (l : List Int) : Int × Bool := if l.length = s.length ∧ (desL s l).all Option.isSome = true then (desP s l s.length, true) else (0, false)
theorem desL_get (s : List Wit) (l : List Int) (k : Nat) (h : k < s.length) (h2 : k < l.length) : ∃ h3 : k < (desL s l).length, (desL s l)[k] = stepD s s[k] l[k] := by
 refine ⟨by simp [desL]; omega, by simp [desL]⟩
theorem desP_succ (s : List Wit) (l : List Int) (k : Nat) (h : k < s.length) (h2 : k < l.length) : desP s l (k + 1) = desP s l k + (stepD s s[k] l[k]).getD 0 := by
 obtain ⟨h3, h4⟩ := desL_get s l k h h2
 unfold desP
 rw [List.take_succ_eq_append_getElem h3, h4]; simp
theorem desA_succ (s : List Wit) (l : List Int) (k : Nat) (h : k < s.length) (h2 : k < l.length) : ((desL s l).take (k + 1)).all Option.isSome = (((desL s l).take k).all Option.isSome && (stepD s s[k] l[k]).isSome) := by
 obtain ⟨h3, h4⟩ := desL_get s l k h h2
 rw [take_succ_all _ _ _ h3, h4]
theorem ariS_len (c p : Wit) : (ariS c p).length ≤ c.slips.length := by unfold ariS; exact List.length_filter_le _ _
theorem stepD_bd (s : List Wit) (c : Wit) (id : Int) : 0 ≤ (stepD s c id).getD 0 ∧ (stepD s c id).getD 0 ≤ (c.slips.length : Int) := by
 unfold stepD
 cases getW s id with
 | none => simp only; split <;> simp
 | some p =>
  simp only; have := ariS_len c p
  split <;> simp <;> omega
theorem desP_bd (s : List Wit) (l : List Int) (hli : ∀ w ∈ s, w.slips.length < 4294967296 ∧ w.mended.length < 4294967296 ∧ w.models.length < 4294967296) (he : l.length = s.length) : ∀ k, k ≤ s.length → 0 ≤ desP s l k ∧ desP s l k ≤ (k : Int) * 4294967296
 | 0, _ => by simp [desP]
 | k + 1, h => by
  have h1 := desP_bd s l hli he k (by omega)
  rw [desP_succ s l k (by omega) (by omega)]
  have h2 := stepD_bd s s[k] l[k]
  have h3 := (hli s[k] (List.getElem_mem (by omega))).1
  constructor
  ·omega
  ·push_cast; omega
theorem desR_none {s : List Wit} {l : List Int} {k : Nat} (h : k < s.length) (h2 : k < l.length) (hN : stepD s s[k] l[k] = none) : desR s l = (0, false) := by
 obtain ⟨h3, h4⟩ := desL_get s l k h h2
 unfold desR
 rw [if_neg]
 rintro ⟨_, ha⟩
 have := List.all_eq_true.1 ha _ (List.getElem_mem h3)
 rw [h4, hN] at this; cases this
theorem p173 (s : List Wit) (id : Int) (hl : s.length < 4294967296) : VPure Tryz.prog 173 [encS s, .int .i64 id] fun r => r = parR s id := by
 refine .of_body Tryz.func173 rfl rfl ?_
 refine .seq ?_
 refine .rn ?_
 refine .seq ?_
 refine .seq ?_
 refine .regionL [0,1,2,3] rfl zz0 ?_
 refine .rn [0,1] [2,3] ?_
 refine .step rfl rfl (.pure rfl rfl rfl Tryz.call105 (by decide) (p105' s id hl) (by first | rfl | simp [*]) ?_)
 rintro _ rfl
 refine .rn [3] [] ?_
 refine .done ?_
 refine .seq ?_
 refine .rn ?_
 refine .condS rfl (fun c10 => ?_) (fun c10 => ?_)
 ·try simp at c10
  obtain ⟨i, hi, hie, hga⟩ := getW_some c10
  refine .seq ?_
  refine .rn ?_
  refine .ret ?_
  refine ⟨_, _, zz4,zz4, ?_⟩
  rw [parR_some hga]; rfl
 ·try simp at c10
  have hn := getW_none (show findI s id < 0 by omega)
  refine .skip ?_
  refine .seq ?_
  refine .rn ?_
  refine .ret ?_
  refine ⟨_, _, zz4,zz4, ?_⟩
  rw [parR_none hn]
theorem p132 (s : List Wit) (l : List Int) (hl : s.length < 65536) (hlL : l.length < 4611686018427387904) (hli : ∀ w ∈ s, w.slips.length < 4294967296 ∧ w.mended.length < 4294967296 ∧ w.models.length < 4294967296) : VPure Tryz.prog 132 [encS s, ints l] fun r => r = .tup [.int .i64 (desR s l).1, .bool (desR s l).2] := by
 refine .of_body Tryz.func132 rfl rfl ?_
 refine .seq ?_
 refine .rn ?_
 refine .seq ?_
 refine .seq ?_
 refine .rn ?_
 refine .condS rfl (fun c17 => ?_) (fun c17 => ?_)
 ·try simp at c17
  refine .seq ?_
  refine .rn ?_
  refine .ret ?_
  refine ⟨_, _, zz4,zz4, ?_⟩
  rw [desR, if_neg (by rintro ⟨h, _⟩; omega)]
 ·try simp at c17
  have he : l.length = s.length := by omega
  refine .skip ?_
  refine .seq ?_
  refine .rn ?_
  refine .seq ?_
  refine .seq ?_
  refine .rn ?_
  refine .block ?_
  refine .loopS (fun k : Nat => ([(1, ints l),(2, .ptr 0 0),(6, .int .i64 (desP s l k)),(19, .vec (s.map encW)),(20, .int .i64 s.length),(21, .int .i64 k)], ⟨1,[(0, .box [.vec (s.map encW)])]⟩)) (fun k => k ≤ s.length ∧ ((desL s l).take k).all Option.isSome = true) (fun k => s.length - k) 0 (by simp) (.mk [] [] zz14 zz15 rfl rfl rfl) ?_
  rintro k ⟨hk, hal⟩
  simp only at hk hal ⊢
  refine .seq ?_
  refine .rn ?_
  refine .seq ?_
  refine .condS rfl (fun c22 => ?_) (fun c22 => ?_)
  ·try simp at c22
   have hw2 : IntKind.i64.wrap ((k : Int) + 1) = (k : Int) + 1 := wrap64 (by omega) (by omega)
   have hkl : k < l.length := by omega
   obtain ⟨hw1, hw3, hw4⟩ := hli s[k] (List.getElem_mem c22)
   have hbd := desP_bd s l hli he k hk
   have hbd2 := stepD_bd s s[k] l[k]
   have hS := desP_succ s l k c22 hkl
   have hA := desA_succ s l k c22 hkl
   have hW3 : ∀ x : Int, 0 ≤ x → x ≤ 4294967296 → IntKind.i64.wrap (desP s l k + x) = desP s l k + x := fun x h1 h2 => wrap64 (by omega) (by omega)
   have hE : encW s[k] = .agg [.int .i64 s[k].id, .int .i64 s[k].known, ints s[k].slips, ints s[k].mended, ints s[k].models, .int .i64 s[k].lo, .int .i64 s[k].hi] := rfl
   rcases hg : getW s l[k] with _ | p
   ·skip
    refine .skip ?_
    refine .seq ?_
    refine .block ?_
    refine .seq ?_
    refine .rn ?_
    refine .seq ?_
    refine .drawn (ms := [0,0,0,6,14,31,63]) (W := [5]) (items := [.op 0, .op 1, .op 2, .op 3, .op 4, .op 5, .op 6]) rfl zz0 zz0 zz0 ?_
    refine .rx ?_
    refine .rx ?_
    refine .rx ?_
    refine .rx ?_
    refine .rx ?_
    refine .wr rfl rfl (by decide) (.pure rfl rfl rfl Tryz.call173 (by decide) ((by have h := p173 s l[k] (by omega); rw [parR_none hg] at h; exact h)) (by first | rfl | simp [*]) ?_)
    rintro _ rfl
    refine .rx ?_
    refine .done ?_
    refine .seq ?_
    refine .seq ?_
    refine .regionL [0,1,2,3,4,5,6,7,8] rfl zz0 ?_
    refine .rn [0,1,2] [3,4,5,6,7,8] ?_
    refine .split (t := 34) rfl (fun c34 => ?_) (fun c34 => ?_)
    ·try rw [c34]
     try simp at c34
     refine .rn [3,4,5,6,7,8] [] ?_
     refine .done ?_
     refine .condS rfl (fun c40 => ?_) (fun c40 => ?_)
     ·try simp at c40
      have hN : stepD s s[k] l[k] = none := by simp only [stepD, hg]; rw [if_neg (fun h => c40 h.1)]
      refine .seq ?_
      refine .rn ?_
      refine .ret ?_
      refine ⟨_, _, zz4,zz4, ?_⟩
      rw [desR_none c22 hkl hN]
     ·try simp at c40
      refine .skip ?_
      refine .seq ?_
      refine .seq ?_
      refine .regionL [0,1,2,3,4,5,6,7] rfl zz0 ?_
      refine .rn [0,1] [2,3,4,5,6,7] ?_
      refine .step rfl rfl (.pure rfl rfl rfl Tryz.call101 (by decide) (p101a s[k] hw4) (by first | rfl | simp [*]) ?_)
      rintro _ rfl
      refine .rn [3,4,5,6,7] [] ?_
      refine .done ?_
      refine .seq ?_
      refine .rn ?_
      refine .condS rfl (fun c48 => ?_) (fun c48 => ?_)
      ·try simp at c48
       have hN : stepD s s[k] l[k] = none := by simp only [stepD, hg]; rw [if_neg (fun h => c48 h.2)]
       refine .seq ?_
       refine .rn ?_
       refine .ret ?_
       refine ⟨_, _, zz4,zz4, ?_⟩
       rw [desR_none c22 hkl hN]
      ·try simp at c48
       have hN : stepD s s[k] l[k] = some (s[k].slips.length : Int) := by simp only [stepD, hg]; rw [if_pos ⟨c40, c48⟩]
       rw [hN] at hS hA
       simp only [Option.getD_some] at hS
       have hW4 := hW3 (s[k].slips.length : Int) (by omega) (by omega)
       refine .skip ?_
       refine .regionL [0,1,2,3,4,5,6] rfl zz0 ?_
       refine .rn [0,1,2] [3,4,5,6] ?_
       refine .step rfl rfl (.pure rfl rfl rfl Tryz.call109 (by decide) (p109a s[k]) (by first | rfl | simp [*]) ?_)
       rintro _ rfl
       refine .rn [4,5,6] [] ?_
       refine .done ?_
       refine .rn ?_
       refine ⟨k + 1, ⟨zz5, by rw [hA]; simpa using hal⟩, zz5,(.mk [] [] zz14 zz15 rfl rfl rfl)⟩
    ·try rw [c34]
     try simp at c34
   ·skip
    refine .skip ?_
    refine .seq ?_
    refine .block ?_
    refine .seq ?_
    refine .rn ?_
    refine .seq ?_
    refine .drawn (ms := [0,0,0,6,14,31,63]) (W := [5]) (items := [.op 0, .op 1, .op 2, .op 3, .op 4, .op 5, .op 6]) rfl zz0 zz0 zz0 ?_
    refine .rx ?_
    refine .rx ?_
    refine .rx ?_
    refine .rx ?_
    refine .rx ?_
    refine .wr rfl rfl (by decide) (.pure rfl rfl rfl Tryz.call173 (by decide) ((by have h := p173 s l[k] (by omega); rw [parR_some hg] at h; exact h)) (by first | rfl | simp [*]) ?_)
    rintro _ rfl
    refine .rx ?_
    refine .done ?_
    refine .seq ?_
    refine .seq ?_
    refine .regionL [0,1,2,3,4,5,6,7,8] rfl zz0 ?_
    refine .rn [0,1,2] [3,4,5,6,7,8] ?_
    refine .split (t := 34) rfl (fun c34 => ?_) (fun c34 => ?_)
    ·try rw [c34]
     try simp at c34
    ·try rw [c34]
     try simp at c34
     have hp := (getW_mem hg).1
     have hp1 := (hli p hp).1
     refine .rn [3,4,5,6,7,8] [] ?_
     refine .done ?_
     refine .condF rfl ?_
     refine .skip ?_
     refine .seq ?_
     refine .seq ?_
     refine .regionL [0,1,2,3,4,5,6,7] rfl zz0 ?_
     refine .rn [0,1] [2,3,4,5,6,7] ?_
     refine .step rfl rfl (.pure rfl rfl rfl Tryz.call101 (by decide) (p101b s[k] p hw1 hw3 hw4 hp1) (by first | rfl | simp [*]) ?_)
     rintro _ rfl
     refine .rn [3,4,5,6,7] [] ?_
     refine .done ?_
     refine .seq ?_
     refine .rn ?_
     refine .condS rfl (fun c48 => ?_) (fun c48 => ?_)
     ·try simp at c48
      have hN : stepD s s[k] l[k] = none := by simp only [stepD, hg]; rw [if_neg c48]
      refine .seq ?_
      refine .rn ?_
      refine .ret ?_
      refine ⟨_, _, zz4,zz4, ?_⟩
      rw [desR_none c22 hkl hN]
     ·try simp at c48
      have hN : stepD s s[k] l[k] = some ((ariS s[k] p).length : Int) := by simp only [stepD, hg]; rw [if_pos c48]
      rw [hN] at hS hA
      simp only [Option.getD_some] at hS
      have har := ariS_len s[k] p
      have hW4 := hW3 ((ariS s[k] p).length : Int) (by omega) (by omega)
      refine .skip ?_
      refine .regionL [0,1,2,3,4,5,6] rfl zz0 ?_
      refine .rn [0,1,2] [3,4,5,6] ?_
      refine .step rfl rfl (.pure rfl rfl rfl Tryz.call109 (by decide) (p109 s[k] p hw1 hp1) (by first | rfl | simp [*]) ?_)
      rintro _ rfl
      refine .rn [4,5,6] [] ?_
      refine .done ?_
      refine .rn ?_
      refine ⟨k + 1, ⟨zz5, by rw [hA]; simpa using hal⟩, zz5,(.mk [] [] zz14 zz15 rfl rfl rfl)⟩
  ·try simp at c22
   have hk2 : k = s.length := by omega
   subst hk2
   refine .exit ?_
   refine .seq ?_
   refine .rn ?_
   refine .ret ?_
   refine ⟨_, _, zz4,zz4, ?_⟩
   have hall : (desL s l).all Option.isSome = true := by
    rw [List.take_of_length_le (by simp [desL]; omega)] at hal
    simpa using hal
   rw [desR, if_pos ⟨he, hall⟩]
end Go.Am.Ds
end
section
namespace Go.Am.Ds
open Go Go.Am Go.Proofs
set_option maxRecDepth 100000
set_option maxHeartbeats 4000000
set_option linter.unusedSimpArgs false
set_option linter.unusedVariables false
attribute [local simp] vrun vwanted vyielded vop vopA vputAll VHeap.back hidI hidF backL bm Nat.testBit_eq_decide_div_mod_eq veval vevals vparts vO vbuiltin vlen vappend velems vcopy vmakeSlice vbuildSlice valloc vbox vmakeMap vload vpartT vpart vstore vfieldAddr vfield vindexAddr vindex vextract vslice vsliceZ vbounds vbnd zeroO vidx vlookup vmget vmapUpdate vdelete vclear vnilq vnilp vnils vbin vsc vsc1 vscs vscl abinOp aint ashift aunOp aconvert amaxs amax2 pvcV pvc pvcs tput tget vargs VHeap.get VHeap.alloc VHeap.put VHeap.drop VHeap.empty vlook vput vdrop psplice pfill preps chunk List.range List.range.loop vresults vresult vresultV frz frzL PV.isF PV.allF PV.scal PV.allS retP subT allFT PV.one PV.ids PV.idsL dropL beq_eq ble_dec blt_dec
def bestP (s : List Wit) : List Int := (chL s).map fun c => c.1.headD 0
def bestS (s : List Wit) (k : Nat) : Int := (((chL s).take k).map (·.2)).sum
theorem chL_ok {s : List Wit} (h : chE s = 0) : chL s = s.map (choF s) := by unfold chL; rw [if_pos h]
theorem chE_ok {s : List Wit} (h : chE s = 0) : checkS s = 0 ∧ ∀ c ∈ s, (choF s c).1 ≠ [] := by
 unfold chE at h
 split at h
 ·split at h
  ·cases h
  ·rename_i h1 h2; exact ⟨h1, fun c hc h3 => h2 ⟨c, hc, h3⟩⟩
 ·contradiction
theorem choF_bd {s : List Wit} {c : Wit} (h : (choF s c).1 ≠ []) : 0 ≤ (choF s c).2 ∧ (choF s c).2 ≤ (c.slips.length : Int) := by
 rcases choF_spec s c with ⟨_, h1⟩ | ⟨_, _, y, hy, h2⟩
 ·exact absurd h1 h
 ·rcases parS_mem.1 hy with ⟨rfl, _⟩ | ⟨p, _, _, _, h4⟩
  ·simp only at h2; omega
  ·have := ariS_len c p; omega
theorem chL_get {s : List Wit} (h : chE s = 0) {k : Nat} (hk : k < (chL s).length) : ∃ a r d, (chL s)[k] = (a :: r, d) ∧ 0 ≤ d ∧ d < 4294967296 := by
 obtain ⟨h1, h2⟩ := chE_ok h
 have aux : ∀ x ∈ chL s, ∃ c ∈ s, choF s c = x := fun x hx => by rw [chL_ok h] at hx; exact List.mem_map.1 hx
 obtain ⟨c, hc, he⟩ := aux _ (List.getElem_mem hk)
 have h3 := h2 c hc
 have h4 := choF_bd h3
 have h5 := (checkS_lens h1 c hc).1
 cases h6 : (choF s c).1 with
 | nil => exact absurd h6 h3
 | cons a r => exact ⟨a, r, (choF s c).2, by rw [← he, ← h6], h4.1, by omega⟩
theorem chL_len {s : List Wit} (h : chE s = 0) : (chL s).length = s.length := by rw [chL_ok h]; simp
theorem bestS_succ (s : List Wit) (k : Nat) (hk : k < (chL s).length) : bestS s (k + 1) = bestS s k + (chL s)[k].2 := by
 unfold bestS; rw [List.take_succ_eq_append_getElem hk, List.map_append, List.sum_append]; simp only [List.map_cons, List.map_nil, List.sum_cons, List.sum_nil]; omega
theorem bestS_bd {s : List Wit} (h : chE s = 0) : ∀ k, k ≤ (chL s).length → 0 ≤ bestS s k ∧ bestS s k ≤ (k : Int) * 4294967296
 | 0, _ => by simp [bestS]
 | k + 1, hk => by
  have h1 := bestS_bd h k (by omega)
  obtain ⟨a, r, d, he, h2, h3⟩ := chL_get h (show k < (chL s).length by omega)
  rw [bestS_succ s k (by omega), he]
  constructor
  ·omega
  ·push_cast; omega
theorem p63 (s : List Wit) (hl : s.length < 65536) : VPure Tryz.prog 63 [encS s] fun r => Soft r (.tup [.agg [ints (bestP s), .int .i64 (bestS s (chL s).length)], .int .i64 (chE s)]) := by
 refine .of_body Tryz.func63 rfl rfl ?_
 refine .seq ?_
 refine .rn ?_
 refine .seq ?_
 refine .regionL [0,1,2,3,4,5,6] rfl zz0 ?_
 refine .rn [0] [1,2,3,4,5,6] ?_
 refine .step rfl rfl (.pure rfl rfl rfl Tryz.call108 (by decide) (p108' s (by omega)) (by first | rfl | simp [*]) ?_)
 rintro _ rfl
 refine .rn [2,3,4,5,6] [] ?_
 refine .done ?_
 refine .seq ?_
 refine .seq ?_
 refine .rn ?_
 refine .condS rfl (fun c15 => ?_) (fun c15 => ?_)
 ·try simp at c15
  refine .seq ?_
  refine .rn ?_
  refine .ret ?_
  refine ⟨_, _, zz4,zz4, ?_⟩
  have e2 : chL s = [] := by unfold chL; rw [if_neg c15]
  have e3 : bestP s = [] := by unfold bestP; rw [e2]; rfl
  have e4 : bestS s (chL s).length = 0 := by unfold bestS; rw [e2]; rfl
  rw [e3, e4]
  exact soft_tup (AltL.cons (.agg' (.cons .sl0v (.cons (.same _ rfl) .nil))) (AltL.cons (.same _ rfl) AltL.nil))
 ·try simp at c15
  refine .skip ?_
  refine .seq ?_
  refine .rn ?_
  refine .seq ?_
  refine .seq ?_
  refine .rn ?_
  refine .block ?_
  refine .loopS (fun k : Nat => ([(2, .ptr 1 0),(6, .ptr 2 0),(18, .vec ((chL s).map encC)),(19, .int .i64 (chL s).length),(20, .int .i64 k)], ⟨4,[(3, .grow 1 (((bestP s).take k).map (.int .i64))),(2, .box [.grow 3 k true, .int .i64 (bestS s k)]),(1, .box [.sl0, .int .i64 0]),(0, .box [.vec (s.map encW)])]⟩)) (fun k => k ≤ (chL s).length) (fun k => (chL s).length - k) 0 (by simp) (.mk [] [] zz14 zz15 rfl rfl rfl) ?_
  rintro k hk
  simp only at hk ⊢
  refine .seq ?_
  refine .rn ?_
  refine .seq ?_
  refine .condS rfl (fun c21 => ?_) (fun c21 => ?_)
  ·try simp at c21
   have hcl : (chL s).length < 65536 := by have := chL_len c15; omega
   have hw2 : IntKind.i64.wrap ((k : Int) + 1) = (k : Int) + 1 := wrap64 (by omega) (by omega)
   obtain ⟨a, r, d, hc, hd1, hd2⟩ := chL_get c15 c21
   have hE : encC (a :: r, d) = .agg [ints (a :: r), .int .i64 d] := rfl
   have hS := bestS_succ s k c21
   rw [hc] at hS
   simp only at hS
   have hbd := bestS_bd c15 k hk
   have hW4 : IntKind.i64.wrap (bestS s k + d) = bestS s k + d := wrap64 (by omega) (by omega)
   have hT : (bestP s).take (k + 1) = (bestP s).take k ++ [a] := by
    have h1 : k < (bestP s).length := by simpa [bestP] using c21
    rw [List.take_succ_eq_append_getElem h1]; simp [bestP, hc]
   have hln : min k (bestP s).length = k := by simp [bestP]; omega
   have hT2 : List.take (k + 1) (List.map (PV.int .i64) (bestP s)) = List.take k (List.map (PV.int .i64) (bestP s)) ++ [.int .i64 a] := by rw [← List.map_take, hT]; simp
   have hb : k + 1 ≤ 4294967296 := by omega
   refine .skip ?_
   refine .seq ?_
   refine .block ?_
   refine .seq ?_
   refine .rn ?_
   refine .seq ?_
   refine .drawn (ms := [0,1,0,4,12,28,60,127,255,511]) (W := [6,7,9]) (items := [.op 0, .op 1, .op 2, .op 3, .op 4, .op 5, .op 6, .ck 1, .op 7, .op 8, .op 9]) rfl zz0 zz0 zz0 ?_
   refine .rx ?_
   refine .rx ?_
   refine .rx ?_
   refine .rx ?_
   refine .rx ?_
   refine .rx ?_
   refine .wr rfl rfl (by decide) (.vop zz1 (by decide) ?_)
   refine .ck rfl zz0 ?_
   refine .wr rfl rfl (by decide) (.vop zz1 (by decide) ?_)
   refine .rx ?_
   refine .wr rfl rfl (by decide) (.vop zz1 (by decide) ?_)
   refine .done ?_
   refine .rn ?_
   refine .rn ?_
   refine ⟨k + 1, c21,zz5,(.mk [] [(3,6)] zz14 zz15 rfl rfl rfl)⟩
  ·try simp at c21
   have : k = (chL s).length := by omega
   subst this
   have hbl : (bestP s).length = (chL s).length := by simp [bestP]
   refine .exit ?_
   refine .seq ?_
   refine .rn ?_
   refine .ret ?_
   refine ⟨_, _, zz4,(by simp [hbl] <;> rfl), ?_⟩
   have e3 : List.take (chL s).length (List.map (PV.int .i64) (bestP s)) = List.map (PV.int .i64) (bestP s) := List.take_of_length_le (by simp [hbl])
   rw [c15]
   show Soft _ _
   rw [e3]
   exact soft_rfl rfl
end Go.Am.Ds
end
section
namespace Go.Am.Ds
open Go Go.Am Go.Proofs
set_option maxRecDepth 100000
set_option maxHeartbeats 4000000
set_option linter.unusedSimpArgs false
set_option linter.unusedVariables false
attribute [local simp] vrun vwanted vyielded vop vopA vputAll VHeap.back hidI hidF backL bm Nat.testBit_eq_decide_div_mod_eq veval vevals vparts vO vbuiltin vlen vappend velems vcopy vmakeSlice vbuildSlice valloc vbox vmakeMap vload vpartT vpart vstore vfieldAddr vfield vindexAddr vindex vextract vslice vsliceZ vbounds vbnd zeroO vidx vlookup vmget vmapUpdate vdelete vclear vnilq vnilp vnils vbin vsc vsc1 vscs vscl abinOp aint ashift aunOp aconvert amaxs amax2 pvcV pvc pvcs tput tget vargs VHeap.get VHeap.alloc VHeap.put VHeap.drop VHeap.empty vlook vput vdrop psplice pfill preps chunk List.range List.range.loop vresults vresult vresultV frz frzL PV.isF PV.allF PV.scal PV.allS retP subT allFT PV.one PV.ids PV.idsL dropL beq_eq ble_dec blt_dec
theorem p63' (s : List Wit) (hl : s.length < 65536) : VPure Tryz.prog 63 [encS s] fun r => r = .tup [.agg [ints (bestP s), .int .i64 (bestS s (chL s).length)], .int .i64 (chE s)] := VPure.soft (p63 s hl) rfl
def cbR (s : List Wit) (l : List Int) (m : Int) : Int := if checkS s = 0 then (if (desR s l).2 = true ∧ chE s = 0 ∧ (desR s l).1 = m ∧ (desR s l).1 = bestS s (chL s).length then 0 else 8) else checkS s
theorem p55 (s : List Wit) (hl : s.length < 65536) : VPure Tryz.prog 55 [encS s] fun r => r = .tup [.int .i64 (bestS s (chL s).length), .int .i64 (chE s)] := by
 refine .of_body Tryz.func55 rfl rfl ?_
 refine .seq ?_
 refine .rn ?_
 refine .seq ?_
 refine .regionL [0,1,2,3,4,5,6,7] rfl zz0 ?_
 refine .rn [0] [1,2,3,4,5,6,7] ?_
 refine .step rfl rfl (.pure rfl rfl rfl Tryz.call63 (by decide) (p63' s hl) (by first | rfl | simp [*]) ?_)
 rintro _ rfl
 refine .rn [2,3,4,5,6,7] [] ?_
 refine .done ?_
 refine .seq ?_
 refine .rn ?_
 refine .ret ?_
 refine ⟨_, _, zz4,zz4, ?_⟩
 first | rfl | (simp [*]; done) | (simp_all; done)
theorem p56 (s : List Wit) (l : List Int) (m : Int) (hl : s.length < 65536) (hlL : l.length < 4611686018427387904) : VPure Tryz.prog 56 [encS s, .agg [ints l, .int .i64 m]] fun r => r = .int .i64 (cbR s l m) := by
 refine .of_body Tryz.func56 rfl rfl ?_
 refine .seq ?_
 refine .rn ?_
 refine .seq ?_
 refine .seq ?_
 refine .regionL [0,1,2] rfl zz0 ?_
 refine .rn [0] [1,2] ?_
 refine .step rfl rfl (.pure rfl rfl rfl Tryz.call35 (by decide) (p35 s (by omega)) (by first | rfl | simp [*]) ?_)
 rintro _ rfl
 refine .rn [2] [] ?_
 refine .done ?_
 refine .seq ?_
 refine .rn ?_
 refine .condS rfl (fun c13 => ?_) (fun c13 => ?_)
 ·try simp at c13
  refine .seq ?_
  refine .rn ?_
  refine .ret ?_
  refine ⟨_, _, zz4,zz4, ?_⟩
  simp_all [cbR]
 ·try simp at c13
  refine .skip ?_
  refine .seq ?_
  refine .regionL [0,1,2,3,4,5,6,7,8] rfl zz0 ?_
  refine .rn [0,1,2] [3,4,5,6,7,8] ?_
  refine .step rfl rfl (.pure rfl rfl rfl Tryz.call132 (by decide) (p132 s l hl hlL (checkS_lens c13)) (by first | rfl | simp [*]) ?_)
  rintro _ rfl
  refine .rn [4,5,6,7,8] [] ?_
  refine .done ?_
  refine .seq ?_
  refine .regionL [0,1,2,3,4,5,6] rfl zz0 ?_
  refine .rn [0] [1,2,3,4,5,6] ?_
  refine .step rfl rfl (.pure rfl rfl rfl Tryz.call55 (by decide) (p55 s hl) (by first | rfl | simp [*]) ?_)
  rintro _ rfl
  refine .rn [2,3,4,5,6] [] ?_
  refine .done ?_
  refine .seq ?_
  refine .seq ?_
  refine .regionL [0,1,2,3,4,5,6,7,8,9,10,11,12,13,14,15,16] rfl zz0 ?_
  refine .rn [0,1,2] [3,4,5,6,7,8,9,10,11,12,13,14,15,16] ?_
  refine .split (t := 29) rfl (fun c29 => ?_) (fun c29 => ?_)
  ·try rw [c29]
   try simp at c29
   refine .rn [3,4,5,6,7,8,9,10,11,12,13,14,15,16] [] ?_
   refine .done ?_
   refine .condT rfl ?_
   refine .seq ?_
   refine .rn ?_
   refine .ret ?_
   refine ⟨_, _, zz4,zz4, ?_⟩
   simp_all [cbR]
  ·try rw [c29]
   try simp at c29
   refine .rn [3,4,5,6] [7,8,9,10,11,12,13,14,15,16] ?_
   refine .split (t := 33) rfl (fun c33 => ?_) (fun c33 => ?_)
   ·try rw [c33]
    try simp at c33
    refine .rn [7,8,9,10,11,12,13,14,15,16] [] ?_
    refine .done ?_
    refine .condT rfl ?_
    refine .seq ?_
    refine .rn ?_
    refine .ret ?_
    refine ⟨_, _, zz4,zz4, ?_⟩
    simp_all [cbR]
   ·try rw [c33]
    try simp at c33
    refine .rn [7,8,9,10,11,12] [13,14,15,16] ?_
    refine .split (t := 39) rfl (fun c39 => ?_) (fun c39 => ?_)
    ·try rw [c39]
     try simp at c39
     refine .rn [13,14,15,16] [] ?_
     refine .done ?_
     refine .condT rfl ?_
     refine .seq ?_
     refine .rn ?_
     refine .ret ?_
     refine ⟨_, _, zz4,zz4, ?_⟩
     simp_all [cbR]
    ·try rw [c39]
     try simp at c39
     refine .rn [13,14,15,16] [] ?_
     refine .done ?_
     refine .condS rfl (fun c43 => ?_) (fun c43 => ?_)
     ·try simp at c43
      refine .seq ?_
      refine .rn ?_
      refine .ret ?_
      refine ⟨_, _, zz4,zz4, ?_⟩
      simp_all [cbR]
     ·try simp at c43
      refine .skip ?_
      refine .seq ?_
      refine .rn ?_
      refine .ret ?_
      refine ⟨_, _, zz4,zz4, ?_⟩
      simp_all [cbR]
end Go.Am.Ds
end
section
namespace Go.Am.Ds
open Go Go.Am Go.Proofs
theorem fold_mem : ∀ (l d : List (Int × Int)) (x : List Int × Int),(∀ b ∈ x.1,(b, x.2) ∈ d) → ∀ b ∈ (l.foldl stepC x).1,(b, (l.foldl stepC x).2) ∈ d ++ l
 | [], d, x, h => by simpa using h
 | y :: r, d, x, h => by
  have ih := fold_mem r (d ++ [y]) (stepC x y) (by
   unfold stepC
   split
   ·intro b hb; exact List.mem_append_left _ (h b hb)
   ·rename_i h1
    split
    ·intro b hb
     rw [List.mem_singleton] at hb
     subst hb; simp
    ·rename_i h2
     intro b hb
     have h3 : x.1 ≠ [] := fun h4 => h2 (.inl h4)
     have h4 : ¬ y.2 < x.2 := fun h4 => h2 (.inr h4)
     have h5 : ¬ x.2 < y.2 := fun h5 => h1 ⟨h3, h5⟩
     rcases List.mem_append.1 hb with hb | hb
     ·exact List.mem_append_left _ (h b hb)
     ·rw [List.mem_singleton] at hb
      subst hb
      have h6 : x.2 = y.2 := by omega
      simp [h6])
  rw [List.append_assoc, List.singleton_append] at ih
  rw [List.foldl_cons]
  exact ih
theorem choF_mem {s : List Wit} {c : Wit} {b : Int} (h : b ∈ (choF s c).1) : (b, (choF s c).2) ∈ parS s c := by
 have := fold_mem (parS s c) [] ([],0) (by simp) b h
 rw [List.nil_append] at this
 exact this
theorem stepD_par {s : List Wit} (h : checkS s = 0) {c : Wit} {b d : Int} (hb : (b, d) ∈ parS s c) : stepD s c b = some d := by
 rcases parS_mem.1 hb with ⟨he, h1⟩ | ⟨p, _, h2, h3, h4⟩
 ·injection he with e1 e2
  subst e1; subst e2
  have hg : getW s 0 = none := by
   cases hg : getW s 0 with
   | none => rfl
   | some p =>
    obtain ⟨hp, h0⟩ := getW_mem hg
    have := checkS_pos h p hp
    omega
  simp only [stepD, hg]
  rw [if_pos ⟨trivial, h1⟩]
 ·simp only at h2 h4
  simp only [stepD, h2]
  rw [if_pos h3, h4]
theorem head_mem {l : List Int} (h : l ≠ []) : l.headD 0 ∈ l := by
 cases l with
 | nil => exact absurd rfl h
 | cons a r => simp
theorem desL_best {s : List Wit} (h : chE s = 0) : desL s (bestP s) = (chL s).map fun c => some c.2 := by
 obtain ⟨h0, h1⟩ := chE_ok h
 have hb : bestP s = s.map fun c => (choF s c).1.headD 0 := by unfold bestP; rw [chL_ok h, List.map_map]; rfl
 rw [chL_ok h, hb]
 unfold desL
 rw [List.zip_map_right, List.map_map, List.map_map]
 apply List.ext_getElem
 ·simp
 ·intro i h2 h3
  simp only [List.getElem_map, List.getElem_zip, Function.comp, Prod.map, id]
  exact stepD_par h0 (choF_mem (head_mem (h1 _ (List.getElem_mem _))))
theorem cbR_best {s : List Wit} (h : chE s = 0) : cbR s (bestP s) (bestS s (chL s).length) = 0 := by
 obtain ⟨h0, h1⟩ := chE_ok h
 have hlen := chL_len h
 have hd : desR s (bestP s) = (bestS s (chL s).length, true) := by
  unfold desR
  rw [if_pos ⟨by simp [bestP, hlen], by rw [desL_best h]; simp⟩]
  congr 1
  unfold desP bestS
  rw [desL_best h, ← hlen, List.take_of_length_le (by simp), List.take_of_length_le (by simp), List.map_map]
  rfl
 unfold cbR
 rw [if_pos h0, hd, if_pos ⟨rfl, h, rfl, rfl⟩]
end Go.Am.Ds
end
section
namespace Go.Am.Ds
open Go Go.Am Go.Proofs
set_option maxRecDepth 100000
set_option maxHeartbeats 4000000
set_option linter.unusedSimpArgs false
set_option linter.unusedVariables false
attribute [local simp] vrun vwanted vyielded vop vopA vputAll VHeap.back hidI hidF backL bm Nat.testBit_eq_decide_div_mod_eq veval vevals vparts vO vbuiltin vlen vappend velems vcopy vmakeSlice vbuildSlice valloc vbox vmakeMap vload vpartT vpart vstore vfieldAddr vfield vindexAddr vindex vextract vslice vsliceZ vbounds vbnd zeroO vidx vlookup vmget vmapUpdate vdelete vclear vnilq vnilp vnils vbin vsc vsc1 vscs vscl abinOp aint ashift aunOp aconvert amaxs amax2 pvcV pvc pvcs tput tget vargs VHeap.get VHeap.alloc VHeap.put VHeap.drop VHeap.empty vlook vput vdrop psplice pfill preps chunk List.range List.range.loop vresults vresult vresultV frz frzL PV.isF PV.allF PV.scal PV.allS retP subT allFT PV.one PV.ids PV.idsL dropL beq_eq ble_dec blt_dec
def cntP (s : List Wit) (k : Nat) : Int := ((chL s).take k).foldl (fun a c => if a * (c.1.length : Int) < 1073741824 then a * (c.1.length : Int) else 1073741824) 1
def cntR (s : List Wit) : Int := if chE s = 0 then cntP s (chL s).length else 0
theorem cntP_succ (s : List Wit) (k : Nat) (hk : k < (chL s).length) : cntP s (k + 1) = if cntP s k * ((chL s)[k].1.length : Int) < 1073741824 then cntP s k * ((chL s)[k].1.length : Int) else 1073741824 := by
 unfold cntP; rw [List.take_succ_eq_append_getElem hk, List.foldl_append]; rfl
theorem chL_lenk {s : List Wit} (h : chE s = 0) {k : Nat} (hk : k < (chL s).length) : (chL s)[k].1.length ≤ s.length + 1 := by
 have aux : ∀ x ∈ chL s, ∃ c ∈ s, choF s c = x := fun x hx => by rw [chL_ok h] at hx; exact List.mem_map.1 hx
 obtain ⟨c, hc, he⟩ := aux _ (List.getElem_mem hk)
 rw [← he, ← chP_all]
 have := chP_len s c (idsS s).length
 have := idsS_len s
 omega
theorem cntP_bd {s : List Wit} : ∀ k, k ≤ (chL s).length → 0 ≤ cntP s k ∧ cntP s k ≤ 1073741824
 | 0, _ => by simp [cntP]
 | k + 1, hk => by
  have h1 := cntP_bd (s := s) k (by omega)
  rw [cntP_succ s k (by omega)]
  have : 0 ≤ cntP s k * ((chL s)[k].1.length : Int) := Int.mul_nonneg h1.1 (by omega)
  split <;> omega
def encK (x : Int × Int) : PV := .agg [.int .i64 x.1, .int .i64 x.2]
@[simp] theorem allSz_encK (l : List (Int × Int)) : allSz 2 (l.map encK) = true := allSz_map (f := encK) (n := 2) (fun _ => rfl) l
@[simp] theorem allOne_encK (l : List (Int × Int)) : allOne (l.map encK) = true := allOne_map (f := encK) (fun _ => rfl) l
theorem p44 (s : List Wit) (hl : s.length < 65536) : VPure Tryz.prog 44 [encS s] fun r => r = .tup [.int .i64 (cntR s), .int .i64 (chE s)] := by
 refine .of_body Tryz.func44 rfl rfl ?_
 refine .seq ?_
 refine .rn ?_
 refine .seq ?_
 refine .regionL [0,1,2,3,4,5,6] rfl zz0 ?_
 refine .rn [0] [1,2,3,4,5,6] ?_
 refine .step rfl rfl (.pure rfl rfl rfl Tryz.call108 (by decide) (p108' s (by omega)) (by first | rfl | simp [*]) ?_)
 rintro _ rfl
 refine .rn [2,3,4,5,6] [] ?_
 refine .done ?_
 refine .seq ?_
 refine .seq ?_
 refine .rn ?_
 refine .condS rfl (fun c15 => ?_) (fun c15 => ?_)
 ·try simp at c15
  refine .seq ?_
  refine .rn ?_
  refine .ret ?_
  refine ⟨_, _, zz4,zz4, ?_⟩
  simp [cntR, c15]
 ·try simp at c15
  refine .skip ?_
  refine .seq ?_
  refine .rn ?_
  refine .seq ?_
  refine .seq ?_
  refine .rn ?_
  refine .block ?_
  refine .loopS (fun k : Nat => ([(6, .int .i64 (cntP s k)),(17, .vec ((chL s).map encC)),(18, .int .i64 (chL s).length),(19, .int .i64 k)], ⟨1,[(0, .box [.vec (s.map encW)])]⟩)) (fun k => k ≤ (chL s).length) (fun k => (chL s).length - k) 0 (by simp) (.mk [] [] zz14 zz15 rfl rfl rfl) ?_
  rintro k hk
  simp only at hk ⊢
  refine .seq ?_
  refine .rn ?_
  refine .seq ?_
  refine .condS rfl (fun c20 => ?_) (fun c20 => ?_)
  ·try simp at c20
   have hcl : (chL s).length < 65536 := by have := chL_len c15; omega
   have hw2 : IntKind.i64.wrap ((k : Int) + 1) = (k : Int) + 1 := wrap64 (by omega) (by omega)
   have hE : encC (chL s)[k] = .agg [ints (chL s)[k].1, .int .i64 (chL s)[k].2] := rfl
   have hS := cntP_succ s k c20
   have hbd := cntP_bd (s := s) k hk
   have hlk := chL_lenk c15 c20
   have hmul : cntP s k * ((chL s)[k].1.length : Int) ≤ 1073741824 * 65537 := Int.mul_le_mul hbd.2 (by omega) (by omega) (by omega)
   have hmul0 : 0 ≤ cntP s k * ((chL s)[k].1.length : Int) := Int.mul_nonneg hbd.1 (by omega)
   have hW4 : IntKind.i64.wrap (cntP s k * ((chL s)[k].1.length : Int)) = cntP s k * ((chL s)[k].1.length : Int) := wrap64 (by omega) (by omega)
   refine .skip ?_
   refine .seq ?_
   refine .block ?_
   refine .seq ?_
   refine .rn ?_
   refine .rn ?_
   refine .rn ?_
   refine ⟨k + 1, c20,zz5,(.mk [] [] zz14 zz15 rfl rfl rfl)⟩
  ·try simp at c20
   have : k = (chL s).length := by omega
   subst this
   refine .exit ?_
   refine .seq ?_
   refine .rn ?_
   refine .ret ?_
   refine ⟨_, _, zz4,zz4, ?_⟩
   simp [cntR, c15]
end Go.Am.Ds
end
section
namespace Go.Am.Ds
open Go Go.Am Go.Proofs
set_option maxRecDepth 100000
set_option maxHeartbeats 4000000
set_option linter.unusedSimpArgs false
set_option linter.unusedVariables false
attribute [local simp] vrun vwanted vyielded vop vopA vputAll VHeap.back hidI hidF backL bm Nat.testBit_eq_decide_div_mod_eq veval vevals vparts vO vbuiltin vlen vappend velems vcopy vmakeSlice vbuildSlice valloc vbox vmakeMap vload vpartT vpart vstore vfieldAddr vfield vindexAddr vindex vextract vslice vsliceZ vbounds vbnd zeroO vidx vlookup vmget vmapUpdate vdelete vclear vnilq vnilp vnils vbin vsc vsc1 vscs vscl abinOp aint ashift aunOp aconvert amaxs amax2 pvcV pvc pvcs tput tget vargs VHeap.get VHeap.alloc VHeap.put VHeap.drop VHeap.empty vlook vput vdrop psplice pfill preps chunk List.range List.range.loop vresults vresult vresultV frz frzL PV.isF PV.allF PV.scal PV.allS retP subT allFT PV.one PV.ids PV.idsL dropL beq_eq ble_dec blt_dec
def cI (s : List Wit) (id : Int) : List Int := match getW s id with
 | some c => (choF s c).1
 | none => []
def kinI (may : Nat → Bool) (s : List Wit) (id : Int) : List (Int × Int) := if may (cI s id).length = true then (cI s id).map fun b => (id, b) else []
def kinP (may : Nat → Bool) (s : List Wit) (k : Nat) : List (Int × Int) := ((idsS s).take k).flatMap (kinI may s)
def kinQ (may : Nat → Bool) (s : List Wit) (id : Int) (j : Nat) : List (Int × Int) := if may (cI s id).length = true then ((cI s id).take j).map fun b => (id, b) else []
def kinT (may : Nat → Bool) (s : List Wit) : List (Int × Int) := if chE s = 0 then (idsS s).flatMap (kinI may s) else []
theorem kinP_succ (may : Nat → Bool) (s : List Wit) (k : Nat) (h : k < (idsS s).length) : kinP may s (k + 1) = kinP may s k ++ kinI may s (idsS s)[k] := by
 unfold kinP; rw [List.take_succ_eq_append_getElem h, List.flatMap_append]; simp
theorem kinQ_all (may : Nat → Bool) (s : List Wit) (id : Int) : kinQ may s id (cI s id).length = kinI may s id := by unfold kinQ kinI; rw [List.take_length]
theorem kinQ_zero (may : Nat → Bool) (s : List Wit) (id : Int) : kinQ may s id 0 = [] := by unfold kinQ; split <;> rfl
theorem kinQ_len (may : Nat → Bool) (s : List Wit) (id : Int) (j : Nat) : (kinQ may s id j).length ≤ j := by
 unfold kinQ; split
 ·rw [List.length_map, List.length_take]; omega
 ·simp
theorem cI_len (s : List Wit) (id : Int) : (cI s id).length ≤ s.length + 1 := by
 unfold cI
 cases getW s id with
 | none => simp
 | some c =>
  simp only
  rw [← chP_all]
  have := chP_len s c (idsS s).length
  have := idsS_len s
  omega
theorem kinI_len (may : Nat → Bool) (s : List Wit) (id : Int) : (kinI may s id).length ≤ s.length + 1 := by
 have := cI_len s id
 unfold kinI; split
 ·rw [List.length_map]; exact this
 ·simp
theorem kinP_len (may : Nat → Bool) (s : List Wit) : ∀ k, k ≤ (idsS s).length → (kinP may s k).length ≤ k * (s.length + 1)
 | 0, _ => by simp [kinP]
 | k + 1, h => by
  have h1 := kinP_len may s k (by omega)
  have h2 := kinI_len may s (idsS s)[k]
  rw [kinP_succ may s k (by omega), List.length_append, Nat.succ_mul]
  omega
theorem chL_at {s : List Wit} (h : chE s = 0) {id : Int} {j : Nat} (hj : j < s.length) (hg : getW s id = some s[j]) : ∃ h2 : j < (chL s).length, (chL s)[j] = (cI s id, (choF s s[j]).2) := by
 refine ⟨by rw [chL_len h]; exact hj, ?_⟩
 have aux : ∀ (l : List (List Int × Int)) (e : l = s.map (choF s)) (hl : j < l.length), l[j] = choF s s[j] := by rintro _ rfl _; simp
 rw [aux _ (chL_ok h)]
 unfold cI; rw [hg]
theorem p122 (s : List Wit) (may : Nat → Bool) (f : FuncId) (hl : s.length < 65536) (hcf : ∀ cs w, (callFunc f cs).run Tryz.prog w = .ok (.enter f cs) w) (hp : ∀ n : Nat, n < 65538 → VPure Tryz.prog f ([] ++ [.int .i64 n] ++ []) fun r => r = .bool (may n)) : VPure Tryz.prog 122 [encS s, .func f [] []] fun r => Soft r (.tup [.vec ((kinT may s).map encK), .int .i64 (chE s)]) := by
 refine .of_body Tryz.func122 rfl rfl ?_
 refine .seq ?_
 refine .rn ?_
 refine .seq ?_
 refine .regionL [0,1,2,3,4,5,6] rfl zz0 ?_
 refine .rn [0] [1,2,3,4,5,6] ?_
 refine .step rfl rfl (.pure rfl rfl rfl Tryz.call108 (by decide) (p108' s (by omega)) (by first | rfl | simp [*]) ?_)
 rintro _ rfl
 refine .rn [2,3,4,5,6] [] ?_
 refine .done ?_
 refine .seq ?_
 refine .seq ?_
 refine .rn ?_
 refine .condS rfl (fun c20 => ?_) (fun c20 => ?_)
 ·try simp at c20
  refine .seq ?_
  refine .rn ?_
  refine .ret ?_
  refine ⟨_, _, zz4,zz4, ?_⟩
  have e1 : kinT may s = [] := by unfold kinT; rw [if_neg c20]
  rw [e1]
  exact soft_tup (AltL.cons .sl0v (AltL.cons (.same _ rfl) AltL.nil))
 ·try simp at c20
  have h24 := (checkS_ok (chE_ok c20).1).1
  refine .skip ?_
  refine .seq ?_
  refine .rn ?_
  refine .seq ?_
  refine .seq ?_
  refine .regionL [0,1,2,3] rfl zz0 ?_
  refine .rn [0] [1,2,3] ?_
  refine .step rfl rfl (.pure rfl rfl rfl Tryz.call99 (by decide) (p99' s (by omega)) (by first | rfl | simp [*]) ?_)
  rintro _ rfl
  refine .rn [2,3] [] ?_
  refine .done ?_
  refine .block ?_
  refine .loopS (fun k : Nat => ([(1, .func f [] []),(2, .ptr 0 0),(6, .vec ((chL s).map encC)),(8, .grow 1 (kinP may s k).length true),(23, ints (idsS s)),(24, .int .i64 (idsS s).length),(25, .int .i64 k)], ⟨2,[(1, .grow 2 ((kinP may s k).map encK)),(0, .box [.vec (s.map encW)])]⟩)) (fun k => k ≤ (idsS s).length) (fun k => (idsS s).length - k) 0 (by simp) (.mk [] [] zz14 zz15 rfl rfl rfl) ?_
  rintro k hk
  simp only at hk ⊢
  refine .seq ?_
  refine .rn ?_
  refine .seq ?_
  refine .condS rfl (fun c26 => ?_) (fun c26 => ?_)
  ·try simp at c26
   have hk24 : k < 24 := by have := idsS_len s; omega
   have hw2 : IntKind.i64.wrap ((k : Int) + 1) = (k : Int) + 1 := wrap64 (by omega) (by omega)
   obtain ⟨j, hj, hje, hgb⟩ := getW_some (find_ids (List.getElem_mem c26))
   obtain ⟨hj2, hcj⟩ := chL_at c20 hj hgb
   have hE : encC (cI s (idsS s)[k],(choF s s[j]).2) = .agg [ints (cI s (idsS s)[k]), .int .i64 (choF s s[j]).2] := rfl
   have hpl := kinP_len may s k hk
   have hcl := cI_len s (idsS s)[k]
   have hS := kinP_succ may s k c26
   have hQ0 := kinQ_zero may s (idsS s)[k]
   have hkm : k * (s.length + 1) ≤ 24 * 25 := Nat.mul_le_mul (by omega) (by omega)
   refine .skip ?_
   refine .seq ?_
   refine .block ?_
   refine .seq ?_
   refine .rn ?_
   refine .seq ?_
   refine .regionL [0,1,2,3,4,5,6,7] rfl zz0 ?_
   refine .rn [0,1,2] [3,4,5,6,7] ?_
   refine .step rfl rfl (.pure rfl rfl rfl Tryz.call105 (by decide) (p105' s _ (by omega)) (by first | rfl | simp [*]) ?_)
   rintro _ rfl
   refine .rn [4,5,6,7] [] ?_
   refine .done ?_
   refine .seq ?_
   refine .rn ?_
   refine .block ?_
   refine .loopS (fun q : Nat => ([(1, .func f [] []),(2, .ptr 0 0),(6, .vec ((chL s).map encC)),(8, .grow 1 (kinP may s k ++ kinQ may s (idsS s)[k] q).length true),(10, .int .i64 (idsS s)[k]),(11, .ptr 2 0),(23, ints (idsS s)),(24, .int .i64 (idsS s).length),(25, .int .i64 k),(36, ints (cI s (idsS s)[k])),(37, .int .i64 (cI s (idsS s)[k]).length),(38, .int .i64 q)], ⟨3,[(2, .box [ints (cI s (idsS s)[k]), .int .i64 (choF s s[j]).2]),(1, .grow 2 ((kinP may s k ++ kinQ may s (idsS s)[k] q).map encK)),(0, .box [.vec (s.map encW)])]⟩)) (fun q => q ≤ (cI s (idsS s)[k]).length) (fun q => (cI s (idsS s)[k]).length - q) 0 (by simp) (.mk [] [] zz14 zz15 rfl rfl rfl) ?_
   rintro q hq
   simp only at hq ⊢
   have hql := kinQ_len may s (idsS s)[k] q
   refine .seq ?_
   refine .rn ?_
   refine .seq ?_
   refine .condS rfl (fun c39 => ?_) (fun c39 => ?_)
   ·try simp at c39
    have hw3 : IntKind.i64.wrap ((q : Int) + 1) = (q : Int) + 1 := wrap64 (by omega) (by omega)
    have hb : (kinP may s k).length + (kinQ may s (idsS s)[k] q).length ≤ 4294967295 := by omega
    have hone : allOne [PV.agg [PV.int .i64 (idsS s)[k], PV.int .i64 (cI s (idsS s)[k])[q]]] = true := rfl
    have hpp := hp (cI s (idsS s)[k]).length (by omega)
    have hEk : encK ((idsS s)[k],(cI s (idsS s)[k])[q]) = .agg [.int .i64 (idsS s)[k], .int .i64 (cI s (idsS s)[k])[q]] := rfl
    refine .skip ?_
    refine .seq ?_
    refine .block ?_
    refine .seq ?_
    refine .rn ?_
    refine .seq ?_
    refine .regionL [0,1,2,3,4] rfl zz0 ?_
    refine .rn [0,1,2,3] [4] ?_
    refine .step rfl rfl (.pure rfl rfl rfl hcf (by decide) (hpp) (by first | rfl | simp [*]) ?_)
    rintro _ rfl
    refine .done ?_
    refine .condS rfl (fun c46 => ?_) (fun c46 => ?_)
    ·try simp at c46
     have hQ : kinQ may s (idsS s)[k] (q + 1) = kinQ may s (idsS s)[k] q ++ [((idsS s)[k],(cI s (idsS s)[k])[q])] := by
      unfold kinQ; rw [if_pos c46, if_pos c46, List.take_succ_eq_append_getElem c39, List.map_append]; rfl
     refine .rn ?_
     refine .rn ?_
     have hL : (kinP may s k).length + ((kinQ may s (idsS s)[k] q).length + 1) = (kinP may s k).length + (kinQ may s (idsS s)[k] q).length + 1 := by omega
     refine ⟨q + 1, c39,zz5,(.mk [] [(1,4)] zz14 zz15 rfl rfl rfl)⟩
    ·try simp at c46
     have hQ : kinQ may s (idsS s)[k] (q + 1) = kinQ may s (idsS s)[k] q := by
      unfold kinQ; rw [if_neg (by simp [c46]), if_neg (by simp [c46])]
     refine .skip ?_
     refine .rn ?_
     refine ⟨q + 1, c39,zz5,(.mk [] [] zz14 zz15 rfl rfl rfl)⟩
   ·try simp at c39
    have : q = (cI s (idsS s)[k]).length := by omega
    subst this
    have hQ2 := kinQ_all may s (idsS s)[k]
    refine .exit ?_
    refine .rn ?_
    refine ⟨k + 1, c26,zz5,(.mk [] [] zz14 zz15 rfl rfl rfl)⟩
  ·try simp at c26
   have : k = (idsS s).length := by omega
   subst this
   refine .exit ?_
   refine .seq ?_
   refine .rn ?_
   refine .ret ?_
   refine ⟨_, _, zz4,zz4, ?_⟩
   have e1 : kinT may s = kinP may s (idsS s).length := by unfold kinT kinP; rw [if_pos c20, List.take_length]
   rw [e1, c20]
   show Soft _ _
   exact soft_rfl rfl
end Go.Am.Ds
end
section
namespace Go.Am.Ds
open Go Go.Am Go.Proofs
set_option maxRecDepth 100000
set_option maxHeartbeats 4000000
set_option linter.unusedSimpArgs false
set_option linter.unusedVariables false
attribute [local simp] vrun vwanted vyielded vop vopA vputAll VHeap.back hidI hidF backL bm Nat.testBit_eq_decide_div_mod_eq veval vevals vparts vO vbuiltin vlen vappend velems vcopy vmakeSlice vbuildSlice valloc vbox vmakeMap vload vpartT vpart vstore vfieldAddr vfield vindexAddr vindex vextract vslice vsliceZ vbounds vbnd zeroO vidx vlookup vmget vmapUpdate vdelete vclear vnilq vnilp vnils vbin vsc vsc1 vscs vscl abinOp aint ashift aunOp aconvert amaxs amax2 pvcV pvc pvcs tput tget vargs VHeap.get VHeap.alloc VHeap.put VHeap.drop VHeap.empty vlook vput vdrop psplice pfill preps chunk List.range List.range.loop vresults vresult vresultV frz frzL PV.isF PV.allF PV.scal PV.allS retP subT allFT PV.one PV.ids PV.idsL dropL beq_eq ble_dec blt_dec
theorem p123 (n : Nat) : VPure Tryz.prog 123 [.int .i64 n] fun r => r = .bool (decide (n = 1)) := by
 refine .of_body Tryz.func123 rfl rfl ?_
 refine .seq ?_
 refine .rn ?_
 refine .seq ?_
 refine .rn ?_
 refine .ret ?_
 refine ⟨_, _, zz4,zz4, ?_⟩
 have h : (((n : Nat) : Int) == 1) = decide (n = 1) := by rw [Bool.eq_iff_iff]; simp <;> omega
 simp [h]
theorem p124 (n : Nat) : VPure Tryz.prog 124 [.int .i64 n] fun r => r = .bool true := by
 refine .of_body Tryz.func124 rfl rfl ?_
 refine .seq ?_
 refine .rn ?_
 refine .seq ?_
 refine .rn ?_
 refine .ret ?_
 refine ⟨_, _, zz4,zz4, ?_⟩
 first | rfl | (simp [*]; done) | (simp_all; done)
theorem p42 (s : List Wit) (hl : s.length < 65536) : VPure Tryz.prog 42 [encS s] fun r => r = .tup [.vec ((kinT (fun n => decide (n = 1)) s).map encK), .int .i64 (chE s)] := by
 refine .of_body Tryz.func42 rfl rfl ?_
 refine .seq ?_
 refine .rn ?_
 refine .seq ?_
 refine .regionL [0,1,2,3,4,5] rfl zz0 ?_
 refine .rn [0] [1,2,3,4,5] ?_
 refine .step rfl rfl (.pure rfl rfl rfl Tryz.call122 (by decide) ((VPure.soft (p122 s (fun n => decide (n = 1)) 123 hl Tryz.call123 (fun n _ => p123 n)) rfl)) (by first | rfl | simp [*]) ?_)
 rintro _ rfl
 refine .rn [2,3,4,5] [] ?_
 refine .done ?_
 refine .ret ?_
 refine ⟨_, _, zz4,zz4, ?_⟩
 first | rfl | (simp [*]; done) | (simp_all; done)
theorem p43 (s : List Wit) (hl : s.length < 65536) : VPure Tryz.prog 43 [encS s] fun r => r = .tup [.vec ((kinT (fun _ => true) s).map encK), .int .i64 (chE s)] := by
 refine .of_body Tryz.func43 rfl rfl ?_
 refine .seq ?_
 refine .rn ?_
 refine .seq ?_
 refine .regionL [0,1,2,3,4,5] rfl zz0 ?_
 refine .rn [0] [1,2,3,4,5] ?_
 refine .step rfl rfl (.pure rfl rfl rfl Tryz.call122 (by decide) ((VPure.soft (p122 s (fun _ => true) 124 hl Tryz.call124 (fun n _ => p124 n)) rfl)) (by first | rfl | simp [*]) ?_)
 rintro _ rfl
 refine .rn [2,3,4,5] [] ?_
 refine .done ?_
 refine .ret ?_
 refine ⟨_, _, zz4,zz4, ?_⟩
 first | rfl | (simp [*]; done) | (simp_all; done)
end Go.Am.Ds
end
section
namespace Go.Am.Ds
open Go Go.Am Go.Proofs
theorem fold_all : ∀ (l d : List (Int × Int)) (x : List Int × Int),(∀ y ∈ d, x.1 ≠ [] ∧ x.2 ≤ y.2 ∧ (y.2 = x.2 → y.1 ∈ x.1)) → ∀ y ∈ d ++ l, (l.foldl stepC x).1 ≠ [] ∧ (l.foldl stepC x).2 ≤ y.2 ∧ (y.2 = (l.foldl stepC x).2 → y.1 ∈ (l.foldl stepC x).1)
 | [], d, x, h => by simpa using h
 | z :: r, d, x, h => by
  have ih := fold_all r (d ++ [z]) (stepC x z) (by
   unfold stepC
   split
   ·rename_i h1
    intro y hy
    rcases List.mem_append.1 hy with hy | hy
    ·exact h y hy
    ·rw [List.mem_singleton] at hy
     subst hy
     exact ⟨h1.1, by omega, fun h2 => by omega⟩
   ·rename_i h1
    split
    ·rename_i h2
     intro y hy
     rcases List.mem_append.1 hy with hy | hy
     ·obtain ⟨h3, h4, _⟩ := h y hy
      rcases h2 with h2 | h2
      ·exact absurd h2 h3
      ·exact ⟨by simp, by simp only; omega, fun h5 => by simp only at h5; omega⟩
     ·rw [List.mem_singleton] at hy
      subst hy
      exact ⟨by simp, Int.le_refl _, fun _ => by simp⟩
    ·rename_i h2
     have h3 : x.1 ≠ [] := fun h4 => h2 (.inl h4)
     have h4 : ¬ z.2 < x.2 := fun h4 => h2 (.inr h4)
     have h5 : ¬ x.2 < z.2 := fun h5 => h1 ⟨h3, h5⟩
     intro y hy
     rcases List.mem_append.1 hy with hy | hy
     ·obtain ⟨_, h7, h8⟩ := h y hy
      exact ⟨by simp, h7, fun h9 => List.mem_append_left _ (h8 h9)⟩
     ·rw [List.mem_singleton] at hy
      subst hy
      exact ⟨by simp, by simp only; omega, fun _ => by simp⟩)
  rw [List.append_assoc, List.singleton_append] at ih
  rw [List.foldl_cons]
  exact ih
theorem choF_all {s : List Wit} {c : Wit} {y : Int × Int} (h : y ∈ parS s c) : (choF s c).2 ≤ y.2 ∧ (y.2 = (choF s c).2 → y.1 ∈ (choF s c).1) := by
 have := fold_all (parS s c) [] ([],0) (by simp) y (by simpa using h)
 exact this.2
end Go.Am.Ds
end
section
namespace Go.Am.Ds
open Go Go.Am Go.Proofs
set_option maxRecDepth 100000
set_option maxHeartbeats 4000000
set_option linter.unusedSimpArgs false
set_option linter.unusedVariables false
attribute [local simp] vrun vwanted vyielded vop vopA vputAll VHeap.back hidI hidF backL bm Nat.testBit_eq_decide_div_mod_eq veval vevals vparts vO vbuiltin vlen vappend velems vcopy vmakeSlice vbuildSlice valloc vbox vmakeMap vload vpartT vpart vstore vfieldAddr vfield vindexAddr vindex vextract vslice vsliceZ vbounds vbnd zeroO vidx vlookup vmget vmapUpdate vdelete vclear vnilq vnilp vnils vbin vsc vsc1 vscs vscl abinOp aint ashift aunOp aconvert amaxs amax2 pvcV pvc pvcs tput tget vargs VHeap.get VHeap.alloc VHeap.put VHeap.drop VHeap.empty vlook vput vdrop psplice pfill preps chunk List.range List.range.loop vresults vresult vresultV frz frzL PV.isF PV.allF PV.scal PV.allS retP subT allFT PV.one PV.ids PV.idsL dropL beq_eq ble_dec blt_dec
theorem kinT_len (may : Nat → Bool) (s : List Wit) : (kinT may s).length ≤ s.length * (s.length + 1) := by
 unfold kinT
 split
 ·have := kinP_len may s (idsS s).length (Nat.le_refl _)
  unfold kinP at this
  rw [List.take_length, idsS_len] at this
  exact this
 ·exact Nat.zero_le _
end Go.Am.Ds
end
section
namespace Go.Am.Ds
open Go Go.Am Go.Proofs
set_option maxRecDepth 100000
set_option linter.unusedSimpArgs false
theorem g38 : (Tryz.prog.stoodInHeld 38 || Tryz.prog.eqGuardType Tryz.prog.depth 38) = false := by decide +kernel
theorem n38 : (match Tryz.prog.underlying 38 with | some (.struct fs) => fs.toList.map (fun f => (f.name == "_", tsz Tryz.prog f.type, f.type, f.offset)) | _ => []) = [(false, some 1,3,0),(false, some 1,3,1)] := by decide +kernel
theorem eq38 (a b c d : Int) : aeql Tryz.prog 38 (.agg #[.int .i64 a, .int .i64 b]) (.agg #[.int .i64 c, .int .i64 d]) = some (a == c && b == d) := by
 have hn := n38
 have hg := g38
 unfold aeql
 simp only
 cases hu : Tryz.prog.underlying 38 with
 | none => rw [hu] at hn; simp at hn
 | some td =>
  cases td with
  | struct fs =>
   rw [hu] at hn
   simp only at hn ⊢
   rw [hg]
   simp only [cond_false]
   generalize fs.toList = l at hn
   rcases l with _ | ⟨f1, _ | ⟨f2, _ | ⟨f3, r⟩⟩⟩
   ·simp at hn
   ·simp at hn
   ·simp only [List.map_cons, List.map_nil, List.cons.injEq, Prod.mk.injEq, and_true] at hn
    obtain ⟨⟨k1, k2, k3, k4⟩, ⟨m1, m2, m3, m4⟩⟩ := hn
    simp only [fieldsEq, k1, k2, k3, k4, m1, m2, m3, m4, cond_false]
    have ha : tagg Tryz.prog 3 = some false := by decide +kernel
    have hu3 : Tryz.prog.underlying 3 = some (.int .i64) := by rfl
    simp [apart, ha, simpleEq, hu3]
    cases a == c <;> cases b == d <;> rfl
   ·simp at hn
  | _ => rw [hu] at hn; simp at hn
end Go.Am.Ds
end
section
namespace Go.Am.Ds
open Go Go.Am Go.Proofs
theorem fold_filt : ∀ (l d : List (Int × Int)) (x : List Int × Int), x.1 = (d.filter fun y => decide (y.2 = x.2)).map (·.1) → (∀ y ∈ d, x.2 ≤ y.2) → (x.1 = [] → d = []) → (l.foldl stepC x).1 = ((d ++ l).filter fun y => decide (y.2 = (l.foldl stepC x).2)).map (·.1)
 | [], d, x, h, _, _ => by rw [List.append_nil]; exact h
 | z :: r, d, x, h, hle, hn => by
  have key : (stepC x z).1 = ((d ++ [z]).filter fun y => decide (y.2 = (stepC x z).2)).map (·.1) ∧ (∀ y ∈ d ++ [z],(stepC x z).2 ≤ y.2) ∧ ((stepC x z).1 = [] → d ++ [z] = []) := by
   unfold stepC
   split
   ·rename_i h1
    have hz : ¬ z.2 = x.2 := by omega
    refine ⟨?_, fun y hy => ?_, fun h2 => absurd h2 h1.1⟩
    ·rw [List.filter_append, List.map_append, ← h]; simp [hz]
    ·rcases List.mem_append.1 hy with hy | hy
     ·exact hle y hy
     ·rw [List.mem_singleton] at hy; subst hy; omega
   ·rename_i h1
    split
    ·rename_i h2
     have hd : ∀ y ∈ d, z.2 < y.2 := fun y hy => by
      rcases h2 with h2 | h2
      ·rw [hn h2] at hy; cases hy
      ·have := hle y hy; omega
     have hf : (d.filter fun y => decide (y.2 = z.2)) = [] := List.filter_eq_nil_iff.2 fun y hy => by have := hd y hy; simp; omega
     refine ⟨?_, fun y hy => ?_, fun h2 => by simp at h2⟩
     ·rw [List.filter_append, List.map_append]; simp only; rw [hf]; simp
     ·rcases List.mem_append.1 hy with hy | hy
      ·have := hd y hy; simp only; omega
      ·rw [List.mem_singleton] at hy; subst hy; exact Int.le_refl _
    ·rename_i h2
     have h3 : x.1 ≠ [] := fun h4 => h2 (.inl h4)
     have hz : z.2 = x.2 := by
      have h4 : ¬ z.2 < x.2 := fun h4 => h2 (.inr h4)
      have h5 : ¬ x.2 < z.2 := fun h5 => h1 ⟨h3, h5⟩
      omega
     refine ⟨?_, fun y hy => ?_, fun h4 => by simp at h4⟩
     ·rw [List.filter_append, List.map_append]; simp only; rw [← h]; simp [hz]
     ·rcases List.mem_append.1 hy with hy | hy
      ·exact hle y hy
      ·rw [List.mem_singleton] at hy; subst hy; simp only; omega
  have ih := fold_filt r (d ++ [z]) (stepC x z) key.1 key.2.1 key.2.2
  rw [List.append_assoc, List.singleton_append] at ih
  rw [List.foldl_cons]; exact ih
theorem choF_filt (s : List Wit) (c : Wit) : (choF s c).1 = ((parS s c).filter fun y => decide (y.2 = (choF s c).2)).map (·.1) := by
 have := fold_filt (parS s c) [] ([],0) rfl (by simp) (fun _ => rfl)
 rw [List.nil_append] at this
 exact this
theorem best_eq {s : List Wit} (h : checkS s = 0) (c : Wit) : bestR s c = (choF s c).1 := by
 rw [choF_filt]
 unfold bestR
 rw [← models_eq h c, List.filter_map]
 congr 1
 apply List.filter_congr
 intro y hy
 simp only [Function.comp]
 rw [Bool.eq_iff_iff, decide_eq_true_eq]
 unfold isB
 rw [List.all_eq_true]
 have ha := (choF_all hy).1
 have hy2 := parS_fr h hy
 constructor
 ·intro H
  rcases choF_spec s c with ⟨h1, _⟩ | ⟨_, _, z, h2, h3⟩
  ·rw [h1] at hy; cases hy
  ·have e1 := H z.1 (by rw [← models_eq h c]; exact List.mem_map_of_mem h2)
   rw [decide_eq_true_eq] at e1
   have := parS_fr h h2
   omega
 ·intro H b hb
  rw [← models_eq h c] at hb
  obtain ⟨z, hz, rfl⟩ := List.mem_map.1 hb
  have e1 := (choF_all hz).1
  have := parS_fr h hz
  rw [decide_eq_true_eq]; omega
def idF (s : List Wit) (k : Nat) : List Int := (s.take k).foldl (fun a w => putS a w.id) []
theorem idF_succ (s : List Wit) (k : Nat) (h : k < s.length) : idF s (k + 1) = putS (idF s k) s[k].id := by
 unfold idF; rw [List.take_succ_eq_append_getElem h, List.foldl_append]; rfl
theorem idF_len (s : List Wit) : ∀ k, k ≤ s.length → (idF s k).length ≤ k
 | 0, _ => by simp [idF]
 | k + 1, h => by
  rw [idF_succ s k (by omega)]
  have := idF_len s k (by omega); have := putS_len (idF s k) s[k].id; omega
theorem idF_all {s : List Wit} (h : checkS s = 0) : idF s s.length = idsS s := by
 unfold idF
 rw [List.take_length]
 have h1 : ∀ (l : List Wit) (a : List Int), a.Pairwise (· < ·) → (l.foldl (fun a w => putS a w.id) a).Pairwise (· < ·) := by
  intro l
  induction l with
  | nil => intro a h; exact h
  | cons w r ih => intro a h; exact ih _ (putS_sorted h)
 have h2 : ∀ (l : List Wit) (a : List Int) (b : Int), b ∈ l.foldl (fun a w => putS a w.id) a ↔ b ∈ a ∨ ∃ w ∈ l, w.id = b := by
  intro l
  induction l with
  | nil => intro a b; simp
  | cons w r ih =>
   intro a b
   rw [List.foldl_cons, ih, putS_mem]
   constructor
   ·rintro ((h | h) | ⟨u, h3, h4⟩)
    ·exact .inl h
    ·exact .inr ⟨w, List.mem_cons_self, h.symm⟩
    ·exact .inr ⟨u, List.mem_cons_of_mem _ h3, h4⟩
   ·rintro (h | ⟨u, h3, h4⟩)
    ·exact .inl (.inl h)
    ·rcases List.mem_cons.1 h3 with rfl | h3
     ·exact .inl (.inr h4.symm)
     ·exact .inr ⟨u, h3, h4⟩
 refine strict_eq (h1 s [] .nil) (idsS_sorted (checkS_nodup h)) fun b => ?_
 rw [h2]
 exact ⟨fun h3 => h3.elim (fun h4 => by cases h4) fun ⟨w, hw, e⟩ => idsS_mem.2 ⟨w, hw, e⟩, fun h3 => .inr (idsS_mem.1 h3)⟩
theorem fr_ch {s : List Wit} (h : chE s = 0) {w : Wit} (hw : w ∈ s) : ∃ b r, bestR s w = b :: r ∧ (b = 0 ∨ ∃ w ∈ s, w.id = b) ∧ ((frS s w b).length : Int) = (choF s w).2 := by
 obtain ⟨h0, hne⟩ := chE_ok h
 have hb := best_eq h0 w
 cases hc : bestR s w with
 | nil => rw [hc] at hb; exact absurd hb.symm (hne w hw)
 | cons b r =>
  have hm : b ∈ bestR s w := by rw [hc]; exact List.mem_cons_self
  exact ⟨b, r, rfl, mem_modR (List.mem_filter.1 hm).1,(choF_min h0 hm).symm⟩
theorem chL_at2 {s : List Wit} (h : chE s = 0) {k : Nat} (hk : k < s.length) : ∃ h2 : k < (chL s).length, (chL s)[k] = choF s s[k] := by
 refine ⟨by rw [chL_len h]; exact hk, ?_⟩
 have aux : ∀ (l : List (List Int × Int)) (e : l = s.map (choF s)) (hl : k < l.length), l[k] = choF s s[k] := by rintro _ rfl _; simp
 exact aux _ (chL_ok h) _
theorem stepD_mod {s : List Wit} (h : checkS s = 0) (c : Wit) (b : Int) : stepD s c b = if b ∈ modR s c then some ((frS s c b).length : Int) else none := by
 by_cases hm : b ∈ modR s c
 ·rw [if_pos hm]
  rw [← models_eq h c] at hm
  obtain ⟨y, hy, rfl⟩ := List.mem_map.1 hm
  rw [← parS_fr h hy]
  exact stepD_par h hy
 ·rw [if_neg hm]
  cases hs : stepD s c b with
  | none => rfl
  | some d =>
   refine absurd ?_ hm
   rw [modR_mem]
   unfold stepD at hs
   cases hg : getW s b with
   | none =>
    rw [hg] at hs
    simp only at hs
    split at hs
    ·rename_i h1; exact .inl h1
    ·cases hs
   | some p =>
    rw [hg] at hs
    simp only at hs
    split at hs
    ·rename_i h1
     obtain ⟨hp, hpi⟩ := getW_mem hg
     exact .inr ⟨p, hp, hpi, by unfold atI; rw [hpi, hg]; exact h1⟩
    ·cases hs
theorem des_ch {s : List Wit} {l : List Int} (h : checkS s = 0) (hd : (desR s l).2 = true) : chE s = 0 := by
 unfold desR at hd
 split at hd
 ·rename_i h1
  obtain ⟨he, ha⟩ := h1
  rw [chE_eq h, if_neg]
  rintro ⟨w, hw, hm⟩
  obtain ⟨k, hk, rfl⟩ := List.getElem_of_mem hw
  obtain ⟨h3, h4⟩ := desL_get s l k hk (by omega)
  have := List.all_eq_true.1 ha _ (List.getElem_mem h3)
  rw [h4, stepD_mod h, hm] at this
  simp at this
 ·cases hd
end Go.Am.Ds
end
section
namespace Go.Am.Ds
open Go Go.Am Go.Proofs
set_option maxRecDepth 100000
set_option maxHeartbeats 4000000
set_option linter.unusedSimpArgs false
set_option linter.unusedVariables false
attribute [local simp] vrun vwanted vyielded vop vopA vputAll VHeap.back hidI hidF backL bm Nat.testBit_eq_decide_div_mod_eq veval vevals vparts vO vbuiltin vlen vappend velems vcopy vmakeSlice vbuildSlice valloc vbox vmakeMap vload vpartT vpart vstore vfieldAddr vfield vindexAddr vindex vextract vslice vsliceZ vbounds vbnd zeroO vidx vlookup vmget vmapUpdate vdelete vclear vnilq vnilp vnils vbin vsc vsc1 vscs vscl abinOp aint ashift aunOp aconvert amaxs amax2 pvcV pvc pvcs tput tget vargs VHeap.get VHeap.alloc VHeap.put VHeap.drop VHeap.empty vlook vput vdrop psplice pfill preps chunk List.range List.range.loop vresults vresult vresultV frz frzL PV.isF PV.allF PV.scal PV.allS retP subT allFT PV.one PV.ids PV.idsL dropL beq_eq ble_dec blt_dec
attribute [local simp] zW tup2
def mayB (sure : Bool) (n : Nat) : Bool := !sure || decide (n = 1)
theorem mayB_t : mayB true = fun n => decide (n = 1) := by funext n; simp [mayB]
theorem mayB_f : mayB false = fun _ => true := by funext n; simp [mayB]
theorem chE_bad {s : List Wit} (h : checkS s ≠ 0) : chE s = checkS s := by unfold chE; rw [if_neg h]
theorem chL_no {s : List Wit} (h : chE s ≠ 0) : chL s = [] := by unfold chL; rw [if_neg h]
theorem bestS_no {s : List Wit} (h : chE s ≠ 0) : bestS s (chL s).length = 0 := by rw [chL_no h]; unfold bestS; rw [chL_no h]; rfl
theorem cntR_no {s : List Wit} (h : chE s ≠ 0) : cntR s = 0 := by unfold cntR; rw [if_neg h]
theorem kinT_no {may : Nat → Bool} {s : List Wit} (h : chE s ≠ 0) : kinT may s = [] := by unfold kinT; rw [if_neg h]
theorem p137 (s : List Wit) (hl : s.length < 4294967296) (hli : ∀ w ∈ s, w.slips.length < 4294967296 ∧ w.mended.length < 4294967296 ∧ w.models.length < 4294967296) : VPure Tryz.prog 137 [encS s] fun r => r = .int .i64 (chE s) := by
 refine .of_body Tryz.func137 rfl rfl ?_
 refine .seq ?_
 refine .rn ?_
 refine .seq ?_
 refine .regionL [0,1,2] rfl zz0 ?_
 refine .rn [0] [1,2] ?_
 refine .step rfl rfl (.pure rfl rfl rfl Tryz.call52 (by decide) (p52 s hl hli) (by first | rfl | simp [*]) ?_)
 rintro _ rfl
 refine .rn [2] [] ?_
 refine .done ?_
 refine .seq ?_
 refine .seq ?_
 refine .rn ?_
 refine .condS rfl (fun c8 => ?_) (fun c8 => ?_)
 ·try simp at c8
  refine .seq ?_
  refine .rn ?_
  refine .ret ?_
  refine ⟨_, _, zz4,zz4, ?_⟩
  rw [chE_bad c8]
 ·try simp at c8
  refine .skip ?_
  refine .seq ?_
  refine .regionL [0,1,2] rfl zz0 ?_
  refine .rn [0] [1,2] ?_
  refine .step rfl rfl (.pure rfl rfl rfl Tryz.call110 (by decide) (p110 s (okS_of c8)) (by first | rfl | simp [*]) ?_)
  rintro _ rfl
  refine .rn [2] [] ?_
  refine .done ?_
  refine .seq ?_
  refine .seq ?_
  refine .rn ?_
  refine .condS rfl (fun c12 => ?_) (fun c12 => ?_)
  ·try simp at c12
   refine .seq ?_
   refine .rn ?_
   refine .ret ?_
   refine ⟨_, _, zz4,zz4, ?_⟩
   rw [chE_eq c8, if_pos c12]
  ·try simp at c12
   refine .skip ?_
   refine .seq ?_
   refine .rn ?_
   refine .ret ?_
   refine ⟨_, _, zz4,zz4, ?_⟩
   rw [chE_eq c8, if_neg (fun ⟨w, h1, h2⟩ => c12 w h1 h2)]
theorem p139 (s : List Wit) (l : List Int) (h : checkS s = 0) (hlL : l.length < 4611686018427387904) : VPure Tryz.prog 139 [encS s, ints l] fun r => r = .bool (desR s l).2 := by
 have ok := okS_of h
 have hl24 := ok.len
 refine .of_body Tryz.func139 rfl rfl ?_
 refine .seq ?_
 refine .rn ?_
 refine .seq ?_
 refine .seq ?_
 refine .rn ?_
 refine .condS rfl (fun c12 => ?_) (fun c12 => ?_)
 ·try simp at c12
  refine .seq ?_
  refine .rn ?_
  refine .ret ?_
  refine ⟨_, _, zz4,zz4, ?_⟩
  rw [desR, if_neg (by rintro ⟨h, _⟩; omega)]
 ·try simp at c12
  have he : l.length = s.length := by omega
  refine .skip ?_
  refine .seq ?_
  refine .seq ?_
  refine .rn ?_
  refine .block ?_
  refine .loopS (fun k : Nat => ([(1, ints l),(2, .ptr 0 0),(5, .int .i64 k)], ⟨1,[(0, .box [.vec (s.map encW)])]⟩)) (fun k => k ≤ s.length ∧ ((desL s l).take k).all Option.isSome = true) (fun k => s.length - k) 0 (by simp) (.mk [] [] zz14 zz15 rfl rfl rfl) ?_
  rintro k ⟨hk, hal⟩
  simp only at hk hal ⊢
  refine .seq ?_
  refine .seq ?_
  refine .rn ?_
  refine .condS rfl (fun c16 => ?_) (fun c16 => ?_)
  ·try simp at c16
   have hw2 : IntKind.i64.wrap ((k : Int) + 1) = (k : Int) + 1 := wrap64 (by omega) (by omega)
   have hks : k < s.length := by omega
   have hkl : k < l.length := by omega
   have hA := desA_succ s l k hks hkl
   have hM := stepD_mod h s[k] l[k]
   have hml := modR_len s s[k]
   refine .skip ?_
   refine .seq ?_
   refine .block ?_
   refine .seq ?_
   refine .drawn (ms := [0,0,3,0,0,24,56,127,255]) (W := [2,7]) (items := [.op 0, .op 1, .op 3, .op 4, .op 5, .op 6, .op 2, .ck 6, .op 7, .op 8]) rfl zz0 zz0 zz0 ?_
   refine .rx ?_
   refine .rx ?_
   refine .rx ?_
   refine .rx ?_
   refine .rx ?_
   refine .rx ?_
   refine .wr rfl rfl (by decide) (.pure rfl rfl rfl Tryz.call107 (by decide) (p107 s k hks ok) (by first | rfl | simp [*]) ?_)
   rintro _ rfl
   refine .ck rfl zz0 ?_
   refine .wr rfl rfl (by decide) (.pure rfl rfl rfl Tryz.call121 (by decide) (p121 (modR s s[k]) l[k] (by omega)) (by first | rfl | simp [*]) ?_)
   rintro _ rfl
   refine .rx ?_
   refine .done ?_
   refine .seq ?_
   refine .rn ?_
   refine .condS rfl (fun c28 => ?_) (fun c28 => ?_)
   ·try simp at c28
    refine .seq ?_
    refine .rn ?_
    refine .ret ?_
    refine ⟨_, _, zz4,zz4, ?_⟩
    rw [desR_none hks hkl (by rw [hM, if_neg c28])]
   ·try simp at c28
    refine .skip ?_
    refine .rn ?_
    refine ⟨k + 1, ⟨zz5, by rw [hA, hM, if_pos c28]; simpa using hal⟩, zz5,(.mk [] [] zz14 zz15 rfl rfl rfl)⟩
  ·try simp at c16
   have hk2 : k = s.length := by omega
   subst hk2
   refine .exit ?_
   refine .seq ?_
   refine .rn ?_
   refine .ret ?_
   refine ⟨_, _, zz4,zz4, ?_⟩
   have hall : (desL s l).all Option.isSome = true := by
    rw [List.take_of_length_le (by simp [desL]; omega)] at hal
    simpa using hal
   rw [desR, if_pos ⟨he, hall⟩]
theorem p59 (s : List Wit) (hl : s.length < 4294967296) (hli : ∀ w ∈ s, w.slips.length < 4294967296 ∧ w.mended.length < 4294967296 ∧ w.models.length < 4294967296) : VPure Tryz.prog 59 [encS s] fun r => r = .agg [.int .i64 (bestS s (chL s).length), .int .i64 (chE s)] := by
 refine .of_body Tryz.func59 rfl rfl ?_
 refine .seq ?_
 refine .rn ?_
 refine .seq ?_
 refine .regionL [0,1,2] rfl zz0 ?_
 refine .rn [0] [1,2] ?_
 refine .step rfl rfl (.pure rfl rfl rfl Tryz.call137 (by decide) (p137 s hl hli) (by first | rfl | simp [*]) ?_)
 rintro _ rfl
 refine .rn [2] [] ?_
 refine .done ?_
 refine .seq ?_
 refine .seq ?_
 refine .rn ?_
 refine .condS rfl (fun c9 => ?_) (fun c9 => ?_)
 ·try simp at c9
  refine .seq ?_
  refine .rn ?_
  refine .ret ?_
  refine ⟨_, _, zz4,zz4, ?_⟩
  rw [bestS_no c9]
 ·try simp at c9
  have ok := okS_of (chE_ok c9).1
  have hl24 := ok.len
  have hcl := chL_len c9
  refine .skip ?_
  refine .seq ?_
  refine .rn ?_
  refine .seq ?_
  refine .seq ?_
  refine .rn ?_
  refine .block ?_
  refine .loopS (fun k : Nat => ([(1, .ptr 0 0),(2, .ptr 1 0),(4, .int .i64 (bestS s k)),(5, .int .i64 k)], ⟨2,[(1, .box [.int .i64 0, .int .i64 0]),(0, .box [.vec (s.map encW)])]⟩)) (fun k => k ≤ s.length) (fun k => s.length - k) 0 (by simp) (.mk [] [] zz14 zz15 rfl rfl rfl) ?_
  rintro k hk
  simp only at hk ⊢
  refine .seq ?_
  refine .seq ?_
  refine .rn ?_
  refine .condS rfl (fun c16 => ?_) (fun c16 => ?_)
  ·try simp at c16
   have hw2 : IntKind.i64.wrap ((k : Int) + 1) = (k : Int) + 1 := wrap64 (by omega) (by omega)
   obtain ⟨b, r, hb, hbm, hfr⟩ := fr_ch c9 (List.getElem_mem c16)
   obtain ⟨h2, h3⟩ := chL_at2 c9 c16
   have hS := bestS_succ s k h2
   rw [h3, ← hfr] at hS
   have hbd := bestS_bd c9 k (by omega)
   have hfl := frS_len s s[k] b
   have hsl := (ok.lens s[k] (List.getElem_mem c16)).1
   have hW4 : IntKind.i64.wrap (bestS s k + ((frS s s[k] b).length : Int)) = bestS s k + ((frS s s[k] b).length : Int) := wrap64 (by omega) (by omega)
   clear hfr h3
   refine .skip ?_
   refine .seq ?_
   refine .block ?_
   refine .drawn (ms := [0,0,0,0,0,24,56,120,254,510,1023,2047]) (W := [5,8]) (items := [.op 0, .op 1, .op 2, .op 3, .op 4, .op 5, .ck 1, .op 6, .op 7, .op 8, .op 9, .op 10, .op 11]) rfl zz0 zz0 zz0 ?_
   refine .rx ?_
   refine .rx ?_
   refine .rx ?_
   refine .rx ?_
   refine .rx ?_
   refine .wr rfl rfl (by decide) (.pure rfl rfl rfl Tryz.call112 (by decide) ((by have h := p112 s k c16 ok; rw [hb] at h; exact h)) (by first | rfl | simp [*]) ?_)
   rintro _ rfl
   refine .ck rfl zz0 ?_
   refine .rx ?_
   refine .rx ?_
   refine .wr rfl rfl (by decide) (.pure rfl rfl rfl Tryz.call111 (by decide) (p111 s k c16 ok b hbm) (by first | rfl | simp [*]) ?_)
   rintro _ rfl
   refine .rx ?_
   refine .rx ?_
   refine .rx ?_
   refine .done ?_
   refine .rn ?_
   refine ⟨k + 1, c16,zz5,(.mk [] [] zz14 zz15 rfl rfl rfl)⟩
  ·try simp at c16
   have hk2 : k = s.length := by omega
   subst hk2
   refine .exit ?_
   refine .seq ?_
   refine .rn ?_
   refine .ret ?_
   refine ⟨_, _, zz4,zz4, ?_⟩
   rw [hcl, c9]
theorem p60 (s : List Wit) (hl : s.length < 4294967296) (hli : ∀ w ∈ s, w.slips.length < 4294967296 ∧ w.mended.length < 4294967296 ∧ w.models.length < 4294967296) : VPure Tryz.prog 60 [encS s] fun r => r = .agg [.int .i64 (cntR s), .int .i64 (chE s)] := by
 refine .of_body Tryz.func60 rfl rfl ?_
 refine .seq ?_
 refine .rn ?_
 refine .seq ?_
 refine .regionL [0,1,2] rfl zz0 ?_
 refine .rn [0] [1,2] ?_
 refine .step rfl rfl (.pure rfl rfl rfl Tryz.call137 (by decide) (p137 s hl hli) (by first | rfl | simp [*]) ?_)
 rintro _ rfl
 refine .rn [2] [] ?_
 refine .done ?_
 refine .seq ?_
 refine .seq ?_
 refine .rn ?_
 refine .condS rfl (fun c9 => ?_) (fun c9 => ?_)
 ·try simp at c9
  refine .seq ?_
  refine .rn ?_
  refine .ret ?_
  refine ⟨_, _, zz4,zz4, ?_⟩
  rw [cntR_no c9]
 ·try simp at c9
  have ok := okS_of (chE_ok c9).1
  have hl24 := ok.len
  have hcl := chL_len c9
  refine .skip ?_
  refine .seq ?_
  refine .rn ?_
  refine .seq ?_
  refine .seq ?_
  refine .rn ?_
  refine .block ?_
  refine .loopS (fun k : Nat => ([(1, .ptr 0 0),(2, .ptr 1 0),(4, .int .i64 (cntP s k)),(5, .int .i64 k)], ⟨2,[(1, .box [.int .i64 0, .int .i64 0]),(0, .box [.vec (s.map encW)])]⟩)) (fun k => k ≤ s.length) (fun k => s.length - k) 0 (by simp) (.mk [] [] zz14 zz15 rfl rfl rfl) ?_
  rintro k hk
  simp only at hk ⊢
  refine .seq ?_
  refine .seq ?_
  refine .rn ?_
  refine .condS rfl (fun c16 => ?_) (fun c16 => ?_)
  ·try simp at c16
   have hw2 : IntKind.i64.wrap ((k : Int) + 1) = (k : Int) + 1 := wrap64 (by omega) (by omega)
   have hb := best_eq (chE_ok c9).1 s[k]
   obtain ⟨h2, h3⟩ := chL_at2 c9 c16
   have hS := cntP_succ s k h2
   rw [h3] at hS
   have hbd := cntP_bd (s := s) k (by omega)
   have hlk : (choF s s[k]).1.length ≤ 25 := by rw [← chP_all]; have := chP_len s s[k] (idsS s).length; have := idsS_len s; omega
   have hmul : cntP s k * ((choF s s[k]).1.length : Int) ≤ 1073741824 * 25 := Int.mul_le_mul hbd.2 (by omega) (by omega) (by omega)
   have hmul0 : 0 ≤ cntP s k * ((choF s s[k]).1.length : Int) := Int.mul_nonneg hbd.1 (by omega)
   have hW4 : IntKind.i64.wrap (cntP s k * ((choF s s[k]).1.length : Int)) = cntP s k * ((choF s s[k]).1.length : Int) := wrap64 (by omega) (by omega)
   refine .skip ?_
   refine .seq ?_
   refine .block ?_
   refine .regionL [0,1,2,3,4,5,6,7] rfl zz0 ?_
   refine .rn [0,1,2] [3,4,5,6,7] ?_
   refine .step rfl rfl (.pure rfl rfl rfl Tryz.call112 (by decide) ((by have h := p112 s k c16 ok; rw [hb] at h; exact h)) (by first | rfl | simp [*]) ?_)
   rintro _ rfl
   refine .rn [4,5,6,7] [] ?_
   refine .done ?_
   refine .rn ?_
   refine ⟨k + 1, c16,zz5,(.mk [] [] zz14 zz15 rfl rfl rfl)⟩
  ·try simp at c16
   have hk2 : k = s.length := by omega
   subst hk2
   refine .exit ?_
   refine .seq ?_
   refine .rn ?_
   refine .ret ?_
   refine ⟨_, _, zz4,zz4, ?_⟩
   have hcn : cntR s = cntP s s.length := by unfold cntR; rw [if_pos c9, hcl]
   rw [hcn, c9]
theorem p138 (s : List Wit) (sure : Bool) (hl : s.length < 4294967296) (hli : ∀ w ∈ s, w.slips.length < 4294967296 ∧ w.mended.length < 4294967296 ∧ w.models.length < 4294967296) : VPure Tryz.prog 138 [encS s, .bool sure] fun r => Soft r (.agg [.vec ((kinT (mayB sure) s).map encK), .int .i64 (chE s)]) := by
 obtain ⟨may, hme, hmay⟩ : ∃ may : Nat → Bool, mayB sure = may ∧ ∀ n, may n = (!sure || decide (n = 1)) := ⟨mayB sure, rfl, fun n => rfl⟩
 rw [hme]; clear hme
 refine .of_body Tryz.func138 rfl rfl ?_
 refine .seq ?_
 refine .rn ?_
 refine .seq ?_
 refine .regionL [0,1,2] rfl zz0 ?_
 refine .rn [0] [1,2] ?_
 refine .step rfl rfl (.pure rfl rfl rfl Tryz.call137 (by decide) (p137 s hl hli) (by first | rfl | simp [*]) ?_)
 rintro _ rfl
 refine .rn [2] [] ?_
 refine .done ?_
 refine .seq ?_
 refine .seq ?_
 refine .rn ?_
 refine .condS rfl (fun c15 => ?_) (fun c15 => ?_)
 ·try simp at c15
  refine .seq ?_
  refine .rn ?_
  refine .ret ?_
  refine ⟨_, _, zz4,zz4, ?_⟩
  rw [kinT_no c15]
  exact .agg' (AltL.cons .sl0v (AltL.cons (.same _ rfl) AltL.nil))
 ·try simp at c15
  have h0 := (chE_ok c15).1
  have ok := okS_of h0
  have hl24 := ok.len
  refine .skip ?_
  refine .seq ?_
  refine .rn ?_
  refine .seq ?_
  refine .seq ?_
  refine .rn ?_
  refine .block ?_
  refine .loopS (fun k : Nat => ([(1, .bool sure),(2, .ptr 0 0),(4, .ptr 1 0),(6, ints (idF s k)),(7, .int .i64 k)], ⟨2,[(1, .box [.sl0, .int .i64 0]),(0, .box [.vec (s.map encW)])]⟩)) (fun k => k ≤ s.length) (fun k => s.length - k) 0 (by simp) (.mk [] [] zz14 zz15 rfl rfl rfl) ?_
  rintro k hk
  simp only at hk ⊢
  refine .seq ?_
  refine .seq ?_
  refine .rn ?_
  refine .condS rfl (fun c22 => ?_) (fun c22 => ?_)
  ·try simp at c22
   have hw2 : IntKind.i64.wrap ((k : Int) + 1) = (k : Int) + 1 := wrap64 (by omega) (by omega)
   have hE : encW s[k] = .agg [.int .i64 s[k].id, .int .i64 s[k].known, ints s[k].slips, ints s[k].mended, ints s[k].models, .int .i64 s[k].lo, .int .i64 s[k].hi] := rfl
   have hS := idF_succ s k c22
   have hil := idF_len s k hk
   refine .skip ?_
   refine .seq ?_
   refine .block ?_
   refine .regionL [0,1,2,3,4,5,6,7,8] rfl zz0 ?_
   refine .rn [0,1,2,3,4,5,6] [7,8] ?_
   refine .step rfl rfl (.pure rfl rfl rfl Tryz.call147 (by decide) (p147 (idF s k) s[k].id (by omega)) (by first | rfl | simp [*]) ?_)
   rintro _ rfl
   refine .rn [8] [] ?_
   refine .done ?_
   refine .rn ?_
   refine ⟨k + 1, c22,zz5,(.mk [] [] zz14 zz15 rfl rfl rfl)⟩
  ·try simp at c22
   have hk2 : k = s.length := by omega
   subst hk2
   have hida := idF_all h0
   refine .exit ?_
   refine .seq ?_
   refine .rn ?_
   refine .seq ?_
   refine .seq ?_
   refine .rn ?_
   refine .block ?_
   refine .loopS (fun k : Nat => ([(1, .bool sure),(2, .ptr 0 0),(4, .ptr 1 0),(6, ints (idsS s)),(8, .grow 2 (kinP (may) s k).length true),(9, .int .i64 k)], ⟨3,[(2, .grow 2 ((kinP (may) s k).map encK)),(1, .box [.sl0, .int .i64 0]),(0, .box [.vec (s.map encW)])]⟩)) (fun k => k ≤ (idsS s).length) (fun k => (idsS s).length - k) 0 (by simp) (.mk [] [] zz14 zz15 rfl rfl rfl) ?_
   rintro k hk
   simp only at hk ⊢
   refine .seq ?_
   refine .seq ?_
   refine .rn ?_
   refine .condS rfl (fun c36 => ?_) (fun c36 => ?_)
   ·try simp at c36
    have hk24 : k < 24 := by have := idsS_len s; omega
    have hw2 : IntKind.i64.wrap ((k : Int) + 1) = (k : Int) + 1 := wrap64 (by omega) (by omega)
    obtain ⟨j, hj, hje, hgb⟩ := getW_some (find_ids (List.getElem_mem c36))
    have hbe : bestR s s[j] = cI s (idsS s)[k] := by rw [best_eq h0]; unfold cI; rw [hgb]
    have hpl := kinP_len (may) s k hk
    have hcl := cI_len s (idsS s)[k]
    have hS := kinP_succ (may) s k c36
    have hQ0 := kinQ_zero (may) s (idsS s)[k]
    have hkm : k * (s.length + 1) ≤ 24 * 25 := Nat.mul_le_mul (by have := idsS_len s; omega) (by omega)
    refine .skip ?_
    refine .seq ?_
    refine .block ?_
    refine .seq ?_
    refine .drawn (ms := [0,0,0,0,12,28,62,127,255]) (W := [6,7]) (items := [.op 0, .op 1, .op 2, .op 3, .op 4, .op 5, .op 6, .ck 0, .op 7, .op 8]) rfl zz0 zz0 zz0 ?_
    refine .rx ?_
    refine .rx ?_
    refine .rx ?_
    refine .rx ?_
    refine .rx ?_
    refine .rx ?_
    refine .wr rfl rfl (by decide) (.pure rfl rfl rfl Tryz.call104 (by decide) ((by have h := p104 s (idsS s)[k] (by omega); rw [hje] at h; exact h)) (by first | rfl | simp [*]) ?_)
    rintro _ rfl
    refine .ck rfl zz0 ?_
    refine .wr rfl rfl (by decide) (.pure rfl rfl rfl Tryz.call112 (by decide) ((by have h := p112 s j hj ok; rw [hbe] at h; exact h)) (by first | rfl | simp [*]) ?_)
    rintro _ rfl
    refine .rx ?_
    refine .done ?_
    refine .seq ?_
    refine .rn ?_
    refine .block ?_
    refine .loopS (fun q : Nat => ([(1, .bool sure),(2, .ptr 0 0),(4, .ptr 1 0),(6, ints (idsS s)),(8, .grow 2 (kinP (may) s k ++ kinQ (may) s (idsS s)[k] q).length true),(9, .int .i64 k),(10, ints (cI s (idsS s)[k])),(11, .int .i64 q)], ⟨3,[(2, .grow 2 ((kinP (may) s k ++ kinQ (may) s (idsS s)[k] q).map encK)),(1, .box [.sl0, .int .i64 0]),(0, .box [.vec (s.map encW)])]⟩)) (fun q => q ≤ (cI s (idsS s)[k]).length) (fun q => (cI s (idsS s)[k]).length - q) 0 (by simp) (.mk [] [] zz14 zz15 rfl rfl rfl) ?_
    rintro q hq
    simp only at hq ⊢
    have hql := kinQ_len (may) s (idsS s)[k] q
    refine .seq ?_
    refine .seq ?_
    refine .rn ?_
    refine .condS rfl (fun c50 => ?_) (fun c50 => ?_)
    ·try simp at c50
     have hw3 : IntKind.i64.wrap ((q : Int) + 1) = (q : Int) + 1 := wrap64 (by omega) (by omega)
     have hb : (kinP (may) s k).length + (kinQ (may) s (idsS s)[k] q).length ≤ 4294967295 := by omega
     have hone : allOne [PV.agg [PV.int .i64 (idsS s)[k], PV.int .i64 (cI s (idsS s)[k])[q]]] = true := rfl
     have hEk : encK ((idsS s)[k],(cI s (idsS s)[k])[q]) = .agg [.int .i64 (idsS s)[k], .int .i64 (cI s (idsS s)[k])[q]] := rfl
     refine .skip ?_
     refine .seq ?_
     refine .block ?_
     refine .seq ?_
     refine .regionL [0,1,2,3,4,5,6] rfl zz0 ?_
     refine .rn [0,1,2] [3,4,5,6] ?_
     refine .split (t := 55) rfl (fun c55 => ?_) (fun c55 => ?_)
     ·try rw [c55]
      try simp at c55
      have hmy : may (cI s (idsS s)[k]).length = true := by simp [hmay, c55]
      have hQ : kinQ (may) s (idsS s)[k] (q + 1) = kinQ (may) s (idsS s)[k] q ++ [((idsS s)[k],(cI s (idsS s)[k])[q])] := by
       unfold kinQ; rw [if_pos hmy, if_pos hmy, List.take_succ_eq_append_getElem c50, List.map_append]; rfl
      refine .rn [3,4,5,6] [] ?_
      refine .done ?_
      refine .condT rfl ?_
      refine .drawn (ms := [0,0,0,6,14,0,0,96,224,510,1022,2047,4095]) (W := [10,11]) (items := [.op 0, .op 1, .op 2, .op 3, .op 4, .op 5, .op 6, .op 7, .op 8, .op 9, .op 10, .op 11, .op 12]) rfl zz0 zz0 zz0 ?_
      refine .rx ?_
      refine .rx ?_
      refine .rx ?_
      refine .rx ?_
      refine .rx ?_
      refine .rx ?_
      refine .rx ?_
      refine .rx ?_
      refine .rx ?_
      refine .rx ?_
      refine .wr rfl rfl (by decide) (.vop zz1 (by decide) ?_)
      refine .wr rfl rfl (by decide) (.vop zz1 (by decide) ?_)
      refine .rx ?_
      refine .done ?_
      refine .rn ?_
      have hL : (kinP (may) s k).length + ((kinQ (may) s (idsS s)[k] q).length + 1) = (kinP (may) s k).length + (kinQ (may) s (idsS s)[k] q).length + 1 := by omega
      refine ⟨q + 1, c50,zz5,(.mk [] [(2,4)] zz14 zz15 rfl rfl rfl)⟩
     ·try rw [c55]
      try simp at c55
      refine .rn [3,4,5,6] [] ?_
      refine .done ?_
      refine .condS rfl (fun c59 => ?_) (fun c59 => ?_)
      ·try simp at c59
       have hmy : may (cI s (idsS s)[k]).length = true := by simp [hmay]; omega
       clear c59
       have hQ : kinQ (may) s (idsS s)[k] (q + 1) = kinQ (may) s (idsS s)[k] q ++ [((idsS s)[k],(cI s (idsS s)[k])[q])] := by
        unfold kinQ; rw [if_pos hmy, if_pos hmy, List.take_succ_eq_append_getElem c50, List.map_append]; rfl
       refine .drawn (ms := [0,0,0,6,14,0,0,96,224,510,1022,2047,4095]) (W := [10,11]) (items := [.op 0, .op 1, .op 2, .op 3, .op 4, .op 5, .op 6, .op 7, .op 8, .op 9, .op 10, .op 11, .op 12]) rfl zz0 zz0 zz0 ?_
       refine .rx ?_
       refine .rx ?_
       refine .rx ?_
       refine .rx ?_
       refine .rx ?_
       refine .rx ?_
       refine .rx ?_
       refine .rx ?_
       refine .rx ?_
       refine .rx ?_
       refine .wr rfl rfl (by decide) (.vop zz1 (by decide) ?_)
       refine .wr rfl rfl (by decide) (.vop zz1 (by decide) ?_)
       refine .rx ?_
       refine .done ?_
       refine .rn ?_
       have hL : (kinP (may) s k).length + ((kinQ (may) s (idsS s)[k] q).length + 1) = (kinP (may) s k).length + (kinQ (may) s (idsS s)[k] q).length + 1 := by omega
       refine ⟨q + 1, c50,zz5,(.mk [] [(2,4)] zz14 zz15 rfl rfl rfl)⟩
      ·try simp at c59
       have hmy : ¬ may (cI s (idsS s)[k]).length = true := by simp [hmay, c55]; omega
       have hQ : kinQ (may) s (idsS s)[k] (q + 1) = kinQ (may) s (idsS s)[k] q := by
        unfold kinQ; rw [if_neg hmy, if_neg hmy]
       refine .skip ?_
       refine .rn ?_
       refine ⟨q + 1, c50,zz5,(.mk [] [] zz14 zz15 rfl rfl rfl)⟩
    ·try simp at c50
     have hq2 : q = (cI s (idsS s)[k]).length := by omega
     subst hq2
     have hQ2 := kinQ_all (may) s (idsS s)[k]
     refine .exit ?_
     refine .rn ?_
     refine ⟨k + 1, c36,zz5,(.mk [] [] zz14 zz15 rfl rfl rfl)⟩
   ·try simp at c36
    have hk3 : k = (idsS s).length := by omega
    subst hk3
    refine .exit ?_
    refine .seq ?_
    refine .rn ?_
    refine .ret ?_
    refine ⟨_, _, zz4,zz4, ?_⟩
    have e1 : kinT (may) s = kinP (may) s (idsS s).length := by unfold kinT kinP; rw [if_pos c15, List.take_length]
    rw [e1, c15]
    show Soft _ _
    exact soft_rfl rfl
theorem p138' (s : List Wit) (sure : Bool) (hl : s.length < 4294967296) (hli : ∀ w ∈ s, w.slips.length < 4294967296 ∧ w.mended.length < 4294967296 ∧ w.models.length < 4294967296) : VPure Tryz.prog 138 [encS s, .bool sure] fun r => r = .agg [.vec ((kinT (mayB sure) s).map encK), .int .i64 (chE s)] := VPure.soft (p138 s sure hl hli) rfl
theorem p61 (s : List Wit) (hl : s.length < 4294967296) (hli : ∀ w ∈ s, w.slips.length < 4294967296 ∧ w.mended.length < 4294967296 ∧ w.models.length < 4294967296) : VPure Tryz.prog 61 [encS s] fun r => r = .agg [.vec ((kinT (fun n => decide (n = 1)) s).map encK), .int .i64 (chE s)] := by
 refine .of_body Tryz.func61 rfl rfl ?_
 refine .seq ?_
 refine .rn ?_
 refine .seq ?_
 refine .regionL [0,1,2] rfl zz0 ?_
 refine .rn [0] [1,2] ?_
 refine .step rfl rfl (.pure rfl rfl rfl Tryz.call138 (by decide) ((by have h := p138' s true hl hli; rw [mayB_t] at h; exact h)) (by first | rfl | simp [*]) ?_)
 rintro _ rfl
 refine .rn [2] [] ?_
 refine .done ?_
 refine .ret ?_
 refine ⟨_, _, zz4,zz4, ?_⟩
 first | rfl | (simp [*]; done) | (simp_all; done)
theorem p62 (s : List Wit) (hl : s.length < 4294967296) (hli : ∀ w ∈ s, w.slips.length < 4294967296 ∧ w.mended.length < 4294967296 ∧ w.models.length < 4294967296) : VPure Tryz.prog 62 [encS s] fun r => r = .agg [.vec ((kinT (fun _ => true) s).map encK), .int .i64 (chE s)] := by
 refine .of_body Tryz.func62 rfl rfl ?_
 refine .seq ?_
 refine .rn ?_
 refine .seq ?_
 refine .regionL [0,1,2] rfl zz0 ?_
 refine .rn [0] [1,2] ?_
 refine .step rfl rfl (.pure rfl rfl rfl Tryz.call138 (by decide) ((by have h := p138' s false hl hli; rw [mayB_f] at h; exact h)) (by first | rfl | simp [*]) ?_)
 rintro _ rfl
 refine .rn [2] [] ?_
 refine .done ?_
 refine .ret ?_
 refine ⟨_, _, zz4,zz4, ?_⟩
 first | rfl | (simp [*]; done) | (simp_all; done)
theorem p64 (s : List Wit) (l : List Int) (m : Int) (hl : s.length < 4294967296) (hlL : l.length < 4611686018427387904) (hli : ∀ w ∈ s, w.slips.length < 4294967296 ∧ w.mended.length < 4294967296 ∧ w.models.length < 4294967296) : VPure Tryz.prog 64 [encS s, .agg [ints l, .int .i64 m]] fun r => r = .int .i64 (cbR s l m) := by
 refine .of_body Tryz.func64 rfl rfl ?_
 refine .seq ?_
 refine .rn ?_
 refine .seq ?_
 refine .regionL [0,1,2] rfl zz0 ?_
 refine .rn [0] [1,2] ?_
 refine .step rfl rfl (.pure rfl rfl rfl Tryz.call52 (by decide) (p52 s hl hli) (by first | rfl | simp [*]) ?_)
 rintro _ rfl
 refine .rn [2] [] ?_
 refine .done ?_
 refine .seq ?_
 refine .seq ?_
 refine .rn ?_
 refine .condS rfl (fun c12 => ?_) (fun c12 => ?_)
 ·try simp at c12
  refine .seq ?_
  refine .rn ?_
  refine .ret ?_
  refine ⟨_, _, zz4,zz4, ?_⟩
  first | (simp_all [cbR]; done) | (simp_all [cbR]; omega)
 ·try simp at c12
  have hok := okS_of c12
  have hl24 := hok.len
  refine .skip ?_
  refine .seq ?_
  refine .regionL [0,1,2,3,4] rfl zz0 ?_
  refine .rn [0,1,2] [3,4] ?_
  refine .step rfl rfl (.pure rfl rfl rfl Tryz.call139 (by decide) (p139 s l c12 hlL) (by first | rfl | simp [*]) ?_)
  rintro _ rfl
  refine .rn [4] [] ?_
  refine .done ?_
  refine .seq ?_
  refine .seq ?_
  refine .rn ?_
  refine .condS rfl (fun c19 => ?_) (fun c19 => ?_)
  ·try simp at c19
   refine .seq ?_
   refine .rn ?_
   refine .ret ?_
   refine ⟨_, _, zz4,zz4, ?_⟩
   first | (simp_all [cbR]; done) | (simp_all [cbR]; omega)
  ·try simp at c19
   have hch := des_ch c12 c19
   have hdr : l.length = s.length ∧ (desL s l).all Option.isSome = true := by
    unfold desR at c19; split at c19
    ·assumption
    ·cases c19
   have he := hdr.1
   have hd1 : (desR s l).1 = desP s l s.length := by unfold desR; rw [if_pos hdr]
   refine .skip ?_
   refine .seq ?_
   refine .rn ?_
   refine .seq ?_
   refine .seq ?_
   refine .rn ?_
   refine .block ?_
   refine .loopS (fun k : Nat => ([(2, .ptr 0 0),(3, .ptr 1 0),(7, .int .i64 (desP s l k)),(8, .int .i64 k)], ⟨2,[(1, .box [ints l, .int .i64 m]),(0, .box [.vec (s.map encW)])]⟩)) (fun k => k ≤ s.length) (fun k => s.length - k) 0 (by simp) (.mk [] [] zz14 zz15 rfl rfl rfl) ?_
   rintro k hk
   simp only at hk ⊢
   refine .seq ?_
   refine .seq ?_
   refine .rn ?_
   refine .condS rfl (fun c24 => ?_) (fun c24 => ?_)
   ·try simp at c24
    have hw2 : IntKind.i64.wrap ((k : Int) + 1) = (k : Int) + 1 := wrap64 (by omega) (by omega)
    have hkl : k < l.length := by omega
    obtain ⟨h3, h4⟩ := desL_get s l k c24 hkl
    have hsm := List.all_eq_true.1 hdr.2 _ (List.getElem_mem h3)
    rw [h4, stepD_mod c12] at hsm
    have hmem : l[k] ∈ modR s s[k] := by
     split at hsm
     ·assumption
     ·cases hsm
    have hbd := desP_bd s l hli he k hk
    have hS := desP_succ s l k c24 hkl
    rw [stepD_mod c12, if_pos hmem, Option.getD_some] at hS
    have hfl := frS_len s s[k] l[k]
    have hsl := (hok.lens s[k] (List.getElem_mem c24)).1
    have hW4 : IntKind.i64.wrap (desP s l k + ((frS s s[k] l[k]).length : Int)) = desP s l k + ((frS s s[k] l[k]).length : Int) := wrap64 (by omega) (by omega)
    refine .skip ?_
    refine .seq ?_
    refine .block ?_
    refine .drawn (ms := [0,0,0,0,8,0,56,120,254,510,1023,2047]) (W := [8]) (items := [.op 0, .op 1, .op 2, .op 3, .op 4, .op 5, .op 6, .op 7, .op 8, .op 9, .op 10, .op 11]) rfl zz0 zz0 zz0 ?_
    refine .rx ?_
    refine .rx ?_
    refine .rx ?_
    refine .rx ?_
    refine .rx ?_
    refine .rx ?_
    refine .rx ?_
    refine .rx ?_
    refine .wr rfl rfl (by decide) (.pure rfl rfl rfl Tryz.call111 (by decide) (p111 s k c24 hok l[k] (mem_modR hmem)) (by first | rfl | simp [*]) ?_)
    rintro _ rfl
    refine .rx ?_
    refine .rx ?_
    refine .rx ?_
    refine .done ?_
    refine .rn ?_
    refine ⟨k + 1, c24,zz5,(.mk [] [] zz14 zz15 rfl rfl rfl)⟩
   ·try simp at c24
    have hk2 : k = s.length := by omega
    subst hk2
    refine .exit ?_
    refine .seq ?_
    refine .seq ?_
    refine .regionL [0,1,2,3,4,5,6,7,8,9,10] rfl zz0 ?_
    refine .rn [0,1,2,3,4] [5,6,7,8,9,10] ?_
    refine .split (t := 42) rfl (fun c42 => ?_) (fun c42 => ?_)
    ·try rw [c42]
     try simp at c42
     refine .rn [5,6,7,8,9,10] [] ?_
     refine .done ?_
     refine .condT rfl ?_
     refine .seq ?_
     refine .rn ?_
     refine .ret ?_
     refine ⟨_, _, zz4,zz4, ?_⟩
     first | (simp_all [cbR]; done) | (simp_all [cbR]; omega)
    ·try rw [c42]
     try simp at c42
     refine .rn [5] [6,7,8,9,10] ?_
     refine .step rfl rfl (.pure rfl rfl rfl Tryz.call59 (by decide) (p59 s hl hli) (by first | rfl | simp [*]) ?_)
     rintro _ rfl
     refine .rn [7,8,9,10] [] ?_
     refine .done ?_
     refine .condS rfl (fun c48 => ?_) (fun c48 => ?_)
     ·try simp at c48
      refine .seq ?_
      refine .rn ?_
      refine .ret ?_
      refine ⟨_, _, zz4,zz4, ?_⟩
      first | (simp_all [cbR]; done) | (simp_all [cbR]; omega)
     ·try simp at c48
      refine .skip ?_
      refine .seq ?_
      refine .rn ?_
      refine .ret ?_
      refine ⟨_, _, zz4,zz4, ?_⟩
      first | (simp_all [cbR]; done) | (simp_all [cbR]; omega)
theorem p65 (a b : List (Int × Int)) (ha : a.length < 4294967296) (hb : b.length < 4294967296) : VPure Tryz.prog 65 [.vec (a.map encK), .vec (b.map encK)] fun r => r = .bool (decide (a = b)) := by
 refine .of_body Tryz.func65 rfl rfl ?_
 refine .seq ?_
 refine .rn ?_
 refine .seq ?_
 refine .seq ?_
 refine .rn ?_
 refine .condS rfl (fun c10 => ?_) (fun c10 => ?_)
 ·try simp at c10
  refine .seq ?_
  refine .rn ?_
  refine .ret ?_
  refine ⟨_, _, zz4,zz4, ?_⟩
  have h : ¬ a = b := by intro h; subst h; omega
  simp [h]
 ·try simp at c10
  refine .skip ?_
  refine .seq ?_
  refine .seq ?_
  refine .rn ?_
  refine .block ?_
  refine .loopS (fun i : Nat => ([(0, .vec (a.map encK)),(1, .vec (b.map encK)),(5, .int .i64 i)], VHeap.empty)) (fun i => i ≤ a.length ∧ a.take i = b.take i) (fun i => a.length - i) 0 (by simp) (.pure (by simp [*]) (by simp)) ?_
  rintro i ⟨hi, hr⟩
  simp only at hi hr ⊢
  refine .seq ?_
  refine .seq ?_
  refine .rn ?_
  refine .condS rfl (fun c14 => ?_) (fun c14 => ?_)
  ·try simp at c14
   have hw2 : IntKind.i64.wrap ((i : Int) + 1) = (i : Int) + 1 := wrap64 (by omega) (by omega)
   have hia : i < a.length := by omega
   have hib : i < b.length := by omega
   have hEa : encK a[i] = .agg [.int .i64 a[i].1, .int .i64 a[i].2] := rfl
   have hEb : encK b[i] = .agg [.int .i64 b[i].1, .int .i64 b[i].2] := rfl
   have he38 := eq38 a[i].1 a[i].2 b[i].1 b[i].2
   refine .skip ?_
   refine .seq ?_
   refine .block ?_
   refine .seq ?_
   refine .drawn (ms := [0,0,3,7,0,0,48,112,255]) (W := []) (items := [.op 0, .op 1, .op 2, .op 3, .op 4, .op 5, .op 6, .op 7, .op 8]) rfl zz0 zz0 zz0 ?_
   refine .rx ?_
   refine .rx ?_
   refine .rx ?_
   refine .rx ?_
   refine .rx ?_
   refine .rx ?_
   refine .rx ?_
   refine .rx ?_
   refine .rx ?_
   refine .done ?_
   refine .condS rfl (fun c25 => ?_) (fun c25 => ?_)
   ·try simp at c25
    refine .seq ?_
    refine .rn ?_
    refine .ret ?_
    refine ⟨_, _, zz4,zz4, ?_⟩
    have h : ¬ a = b := by intro h; subst h; simp at c25
    simp [h]
   ·try simp at c25
    refine .skip ?_
    refine .rn ?_
    refine ⟨i + 1, ⟨zz5, ?_⟩, zz5, .pure (by simp [*]) (by simp)⟩
    rw [List.take_succ_eq_append_getElem hia, List.take_succ_eq_append_getElem hib, hr, show a[i] = b[i] from Prod.ext (by simp_all) (by simp_all)]
  ·try simp at c14
   have : i = a.length := by omega
   have hab : a = b := by
    rw [this, List.take_length] at hr
    rw [hr]; exact List.take_of_length_le (by omega)
   refine .exit ?_
   refine .seq ?_
   refine .rn ?_
   refine .ret ?_
   refine ⟨_, _, zz4,zz4, ?_⟩
   simp [hab]
end Go.Am.Ds
end
section
namespace Go.Am.Ds
open Go Go.Am Go.Proofs
set_option maxRecDepth 100000
set_option maxHeartbeats 4000000
set_option linter.unusedSimpArgs false
set_option linter.unusedVariables false
attribute [local simp] vrun vwanted vyielded vop vopA vputAll VHeap.back hidI hidF backL bm Nat.testBit_eq_decide_div_mod_eq veval vevals vparts vO vbuiltin vlen vappend velems vcopy vmakeSlice vbuildSlice valloc vbox vmakeMap vload vpartT vpart vstore vfieldAddr vfield vindexAddr vindex vextract vslice vsliceZ vbounds vbnd zeroO vidx vlookup vmget vmapUpdate vdelete vclear vnilq vnilp vnils vbin vsc vsc1 vscs vscl abinOp aint ashift aunOp aconvert amaxs amax2 pvcV pvc pvcs tput tget vargs VHeap.get VHeap.alloc VHeap.put VHeap.drop VHeap.empty vlook vput vdrop psplice pfill preps chunk List.range List.range.loop vresults vresult vresultV frz frzL PV.isF PV.allF PV.scal PV.allS retP subT allFT PV.one PV.ids PV.idsL dropL beq_eq ble_dec blt_dec
attribute [local simp] zW tup2
set_option maxHeartbeats 40000000
theorem few_40 {s : List Wit} (h : fewS s = true) : s.length ≤ 40 := by
 unfold fewS at h
 simp only [Bool.and_eq_true, Bool.not_eq_true', Bool.or_eq_true, decide_eq_true_eq] at h
 omega
theorem bestP_no {s : List Wit} (h : chE s ≠ 0) : bestP s = [] := by unfold bestP; rw [chL_no h]; rfl
theorem p64b (s : List Wit) (h : chE s = 0) (hl : s.length < 65536) (hli : ∀ w ∈ s, w.slips.length < 4294967296 ∧ w.mended.length < 4294967296 ∧ w.models.length < 4294967296) : VPure Tryz.prog 64 [encS s, .agg [ints (bestP s), .int .i64 (bestS s (chL s).length)]] fun r => r = .int .i64 0 := by
 have := p64 s (bestP s) (bestS s (chL s).length) (by omega) (by simp [bestP]; have := chL_len h; omega) hli
 rw [cbR_best h] at this
 exact this
theorem p11 (s : List Wit) (l : List Int) (m : Int) (hl : s.length < 4611686018427387904) (hlL : l.length < 4611686018427387904) (sanB : Bool) (hsan : VPure Tryz.prog 22 [] fun r => r = .bool sanB) (hsb : sanB = true) : VPure Tryz.prog 11 [encS s, .agg [ints l, .int .i64 m]] fun r => r = .bool true := by
 refine .of_body Tryz.func11 rfl rfl ?_
 refine .seq ?_
 refine .rn ?_
 refine .seq ?_
 refine .seq ?_
 refine .regionL [0,1,2,3,4,5,6,7,8] rfl zz0 ?_
 refine .rn [0] [1,2,3,4,5,6,7,8] ?_
 refine .step rfl rfl (.pure rfl rfl rfl Tryz.call26 (by decide) (p26 s hl) (by first | rfl | simp [*]) ?_)
 rintro _ rfl
 refine .rn [2,3] [4,5,6,7,8] ?_
 refine .split (t := 22) rfl (fun c22 => ?_) (fun c22 => ?_)
 ·first | cases c22 | try rw [c22]
  try simp at c22
  refine .rn [4,5,6,7,8] [] ?_
  refine .done ?_
  refine .condT rfl ?_
  refine .seq ?_
  refine .regionL [0,1] rfl zz0 ?_
  refine .step rfl rfl (.pure rfl rfl rfl Tryz.call22 (by decide) (hsan) (by first | rfl | simp [*]) ?_)
  rintro _ rfl
  refine .rn [1] [] ?_
  refine .done ?_
  refine .ret ?_
  refine ⟨_, _, zz4,zz4, ?_⟩
  simp_all
 ·first | cases c22 | try rw [c22]
  try simp at c22
  obtain ⟨hl2, hw⟩ := fewS_len c22
  have h40 := few_40 c22
  have hm : s.length * (s.length + 1) ≤ 40 * 41 := Nat.mul_le_mul (by omega) (by omega)
  obtain ⟨cn, hcn⟩ : ∃ x, cntR s = x := ⟨_, rfl⟩
  obtain ⟨bn, hbn⟩ : ∃ x, bestS s (chL s).length = x := ⟨_, rfl⟩
  obtain ⟨ce, hce⟩ : ∃ x, chE s = x := ⟨_, rfl⟩
  obtain ⟨cb, hcb⟩ : ∃ x, cbR s l m = x := ⟨_, rfl⟩
  obtain ⟨bp, hbp⟩ : ∃ x, bestP s = x := ⟨_, rfl⟩
  obtain ⟨ka, hka, hkt⟩ : ∃ x, kinT (fun _ => true) s = x ∧ x.length ≤ s.length * (s.length + 1) := ⟨_, rfl, kinT_len (fun _ => true) s⟩
  obtain ⟨kb, hkb, hks⟩ : ∃ x, kinT (fun n => decide (n = 1)) s = x ∧ x.length ≤ s.length * (s.length + 1) := ⟨_, rfl, kinT_len (fun n => decide (n = 1)) s⟩
  have q55 := p55 s (by omega)
  have q59 := p59 s hl2 hw
  have q44 := p44 s (by omega)
  have q60 := p60 s hl2 hw
  have q42 := p42 s (by omega)
  have q61 := p61 s hl2 hw
  have q43 := p43 s (by omega)
  have q62 := p62 s hl2 hw
  have q63 := p63' s (by omega)
  have q64 := fun h : chE s = 0 => p64b s h (by omega) hw
  have q56 := p56 s l m (by omega) hlL
  have q64' := p64 s l m hl2 hlL hw
  have qno : ce ≠ 0 → bn = 0 ∧ bp = [] := fun h => ⟨by rw [← hbn]; exact bestS_no (fun h2 => h (hce.symm.trans h2)), by rw [← hbp]; exact bestP_no (fun h2 => h (hce.symm.trans h2))⟩
  rw [hbn, hce] at q55 q59
  rw [hcn, hce] at q44 q60
  rw [hkb, hce] at q42 q61
  rw [hka, hce] at q43 q62
  rw [hbn, hce, hbp] at q63
  rw [hce, hbn, hbp] at q64
  rw [hcb] at q56 q64'
  clear hcn hbn hce hcb hbp hka hkb
  refine .rn [4,5] [6,7,8] ?_
  refine .step rfl rfl (.pure rfl rfl rfl Tryz.call38 (by decide) (p38 l) (by first | rfl | simp [*]) ?_)
  rintro _ rfl
  refine .rn [7,8] [] ?_
  refine .done ?_
  refine .condS rfl (fun c27 => ?_) (fun c27 => ?_)
  ·try simp at c27
   refine .seq ?_
   refine .regionL [0,1] rfl zz0 ?_
   refine .step rfl rfl (.pure rfl rfl rfl Tryz.call22 (by decide) (hsan) (by first | rfl | simp [*]) ?_)
   rintro _ rfl
   refine .rn [1] [] ?_
   refine .done ?_
   refine .ret ?_
   refine ⟨_, _, zz4,zz4, ?_⟩
   simp_all
  ·try simp at c27
   refine .skip ?_
   refine .seq ?_
   refine .regionL [0,1,2,3,4,5,6] rfl zz0 ?_
   refine .rn [0] [1,2,3,4,5,6] ?_
   refine .step rfl rfl (.pure rfl rfl rfl Tryz.call55 (by decide) (q55) (by first | rfl | simp [*]) ?_)
   rintro _ rfl
   refine .rn [2,3,4,5,6] [] ?_
   refine .done ?_
   refine .seq ?_
   refine .regionL [0,1,2,3] rfl zz0 ?_
   refine .rn [0] [1,2,3] ?_
   refine .step rfl rfl (.pure rfl rfl rfl Tryz.call59 (by decide) (q59) (by first | rfl | simp [*]) ?_)
   rintro _ rfl
   refine .rn [2,3] [] ?_
   refine .done ?_
   refine .seq ?_
   refine .regionL [0,1,2,3,4,5,6] rfl zz0 ?_
   refine .rn [0] [1,2,3,4,5,6] ?_
   refine .step rfl rfl (.pure rfl rfl rfl Tryz.call44 (by decide) (q44) (by first | rfl | simp [*]) ?_)
   rintro _ rfl
   refine .rn [2,3,4,5,6] [] ?_
   refine .done ?_
   refine .seq ?_
   refine .regionL [0,1,2,3] rfl zz0 ?_
   refine .rn [0] [1,2,3] ?_
   refine .step rfl rfl (.pure rfl rfl rfl Tryz.call60 (by decide) (q60) (by first | rfl | simp [*]) ?_)
   rintro _ rfl
   refine .rn [2,3] [] ?_
   refine .done ?_
   refine .seq ?_
   refine .regionL [0,1,2,3,4,5,6] rfl zz0 ?_
   refine .rn [0] [1,2,3,4,5,6] ?_
   refine .step rfl rfl (.pure rfl rfl rfl Tryz.call42 (by decide) (q42) (by first | rfl | simp [*]) ?_)
   rintro _ rfl
   refine .rn [2,3,4,5,6] [] ?_
   refine .done ?_
   refine .seq ?_
   refine .regionL [0,1,2,3] rfl zz0 ?_
   refine .rn [0] [1,2,3] ?_
   refine .step rfl rfl (.pure rfl rfl rfl Tryz.call61 (by decide) (q61) (by first | rfl | simp [*]) ?_)
   rintro _ rfl
   refine .rn [2,3] [] ?_
   refine .done ?_
   refine .seq ?_
   refine .regionL [0,1,2,3,4,5,6] rfl zz0 ?_
   refine .rn [0] [1,2,3,4,5,6] ?_
   refine .step rfl rfl (.pure rfl rfl rfl Tryz.call43 (by decide) (q43) (by first | rfl | simp [*]) ?_)
   rintro _ rfl
   refine .rn [2,3,4,5,6] [] ?_
   refine .done ?_
   refine .seq ?_
   refine .regionL [0,1,2,3] rfl zz0 ?_
   refine .rn [0] [1,2,3] ?_
   refine .step rfl rfl (.pure rfl rfl rfl Tryz.call62 (by decide) (q62) (by first | rfl | simp [*]) ?_)
   rintro _ rfl
   refine .rn [2,3] [] ?_
   refine .done ?_
   refine .seq ?_
   refine .regionL [0,1,2,3,4,5,6,7] rfl zz0 ?_
   refine .rn [0] [1,2,3,4,5,6,7] ?_
   refine .step rfl rfl (.pure rfl rfl rfl Tryz.call63 (by decide) (q63) (by first | rfl | simp [*]) ?_)
   rintro _ rfl
   refine .rn [2,3,4,5,6,7] [] ?_
   refine .done ?_
   refine .seq ?_
   refine .seq ?_
   refine .regionL [0,1,2,3,4,5,6,7,8,9,10,11,12,13,14,15,16,17,18,19,20,21,22,23,24,25,26,27,28] rfl zz0 ?_
   refine .rn [0,1,2,3,4] [5,6,7,8,9,10,11,12,13,14,15,16,17,18,19,20,21,22,23,24,25,26,27,28] ?_
   refine .split (t := 66) rfl (fun c66 => ?_) (fun c66 => ?_)
   ·first | cases c66 | try rw [c66]
    try simp at c66
   ·first | cases c66 | try rw [c66]
    try simp at c66
    refine .rn [5,6,7] [8,9,10,11,12,13,14,15,16,17,18,19,20,21,22,23,24,25,26,27,28] ?_
    refine .split (t := 69) rfl (fun c69 => ?_) (fun c69 => ?_)
    ·first | cases c69 | try rw [c69]
     try simp at c69
     refine .rn [8,9] [10,11,12,13,14,15,16,17,18,19,20,21,22,23,24,25,26,27,28] ?_
     refine .step rfl rfl (.pure rfl rfl rfl Tryz.call64 (by decide) (q64 c69) (by first | rfl | simp [*]) ?_)
     rintro _ rfl
     refine .rn [11,12,13,14] [15,16,17,18,19,20,21,22,23,24,25,26,27,28] ?_
     refine .split (t := 76) rfl (fun c76 => ?_) (fun c76 => ?_)
     ·first | cases c76 | try rw [c76]
      try simp at c76
     ·first | cases c76 | try rw [c76]
      try simp at c76
      refine .rn [15,16,17] [18,19,20,21,22,23,24,25,26,27,28] ?_
      refine .split (t := 79) rfl (fun c79 => ?_) (fun c79 => ?_)
      ·first | cases c79 | try rw [c79]
       try simp at c79
      ·first | cases c79 | try rw [c79]
       try simp at c79
       refine .rn [18,19,20,21,22,23,24,25,26,27,28] [] ?_
       refine .done ?_
       refine .condF rfl ?_
       refine .skip ?_
       refine .seq ?_
       refine .drawn (ms := [0,1,3,3,11,31,63,127,255,255,767,2047,4095,8191,16383,16383,49151,131071,262143,524287,1048575,1048575,3145727,8388607,16777215,33554431,67108863,67108863,201326591,536870911,1073741823,2147483647,4294967295,4294967295,12884901887,34359738367,68719476735,137438953471,274877906943,274877906943,824633720831,2199023255551,4398046511103,8796093022207,17592186044415,17592186044415,52776558133247,140737488355327,281474976710655,562949953421311,1125899906842623,1125899906842623,4503599627370495,1125899906842623,1125899906842623,36028797018963967,72057594037927935,144115188075855871,288230376151711743]) (W := [0,29,41,52,55]) (items := [.op 0, .op 1, .op 2, .op 3, .op 4, .op 5, .op 6, .op 7, .op 8, .op 9, .op 10, .op 11, .op 12, .op 13, .op 14, .op 15, .op 16, .op 17, .op 18, .op 19, .op 20, .op 21, .op 22, .op 23, .op 24, .op 25, .op 26, .op 27, .op 28, .op 29, .op 30, .op 31, .op 32, .op 33, .op 34, .op 35, .op 36, .op 37, .op 38, .op 39, .op 40, .op 41, .op 42, .op 43, .op 44, .op 45, .op 46, .op 47, .op 48, .op 49, .op 50, .op 51, .op 53, .op 54, .op 52, .ck 54, .ck 53, .op 55, .op 56, .op 57, .op 58]) rfl zz0 zz0 zz0 ?_
       refine .wr rfl rfl (by decide) (.pure rfl rfl rfl Tryz.call22 (by decide) (hsan) (by first | rfl | simp [*]) ?_)
       rintro _ rfl
       refine .rx ?_
       refine .split (t := 92) rfl (fun c92 => ?_) (fun c92 => ?_)
       ·first | cases c92 | try rw [c92]
        try simp at c92
        refine .rx ?_
        refine .rx ?_
        refine .rx ?_
        refine .rx ?_
        refine .rx ?_
        refine .rx ?_
        refine .split (t := 98) rfl (fun c98 => ?_) (fun c98 => ?_)
        ·first | cases c98 | try rw [c98]
         try simp at c98
         refine .rx ?_
         refine .rx ?_
         refine .rx ?_
         refine .rx ?_
         refine .rx ?_
         refine .rx ?_
         refine .split (t := 104) rfl (fun c104 => ?_) (fun c104 => ?_)
         ·first | cases c104 | try rw [c104]
          try simp at c104
          refine .rx ?_
          refine .rx ?_
          refine .rx ?_
          refine .rx ?_
          refine .rx ?_
          refine .rx ?_
          refine .split (t := 110) rfl (fun c110 => ?_) (fun c110 => ?_)
          ·first | cases c110 | try rw [c110]
           try simp at c110
           refine .rx ?_
           refine .rx ?_
           refine .rx ?_
           refine .rx ?_
           refine .rx ?_
           refine .rx ?_
           refine .split (t := 116) rfl (fun c116 => ?_) (fun c116 => ?_)
           ·first | cases c116 | try rw [c116]
            try simp at c116
            refine .rx ?_
            refine .rx ?_
            refine .rx ?_
            refine .wr rfl rfl (by decide) (.pure rfl rfl rfl Tryz.call65 (by decide) (p65 _ _ (by omega) (by omega)) (by first | rfl | simp [*]) ?_)
            rintro _ rfl
            refine .rx ?_
            refine .rx ?_
            refine .split (t := 122) rfl (fun c122 => ?_) (fun c122 => ?_)
            ·first | cases c122 | try rw [c122]
             try simp at c122
             refine .rx ?_
             refine .rx ?_
             refine .rx ?_
             refine .rx ?_
             refine .rx ?_
             refine .rx ?_
             refine .split (t := 128) rfl (fun c128 => ?_) (fun c128 => ?_)
             ·first | cases c128 | try rw [c128]
              try simp at c128
              refine .rx ?_
              refine .rx ?_
              refine .rx ?_
              refine .wr rfl rfl (by decide) (.pure rfl rfl rfl Tryz.call65 (by decide) (p65 _ _ (by omega) (by omega)) (by first | rfl | simp [*]) ?_)
              rintro _ rfl
              refine .rx ?_
              refine .rx ?_
              refine .split (t := 134) rfl (fun c134 => ?_) (fun c134 => ?_)
              ·first | cases c134 | try rw [c134]
               try simp at c134
               refine .rx ?_
               refine .rx ?_
               refine .rx ?_
               refine .rx ?_
               refine .rx ?_
               refine .rx ?_
               refine .split (t := 140) rfl (fun c140 => ?_) (fun c140 => ?_)
               ·first | cases c140 | try rw [c140]
                try simp at c140
                refine .rx ?_
                refine .rx ?_
                refine .rx ?_
                refine .rx ?_
                refine .wr rfl rfl (by decide) (.pure rfl rfl rfl Tryz.call56 (by decide) (q56) (by first | rfl | simp [*]) ?_)
                rintro _ rfl
                refine .ck rfl zz0 ?_
                refine .ck rfl zz0 ?_
                refine .wr rfl rfl (by decide) (.pure rfl rfl rfl Tryz.call64 (by decide) (q64') (by first | rfl | simp [*]) ?_)
                rintro _ rfl
                refine .rx ?_
                refine .rx ?_
                refine .rx ?_
                refine .done ?_
                refine .ret ?_
                refine ⟨_, _, zz4,zz4, ?_⟩
                simp_all
               ·first | cases c140 | try rw [c140]
                try simp at c140
              ·first | cases c134 | try rw [c134]
               try simp at c134
             ·first | cases c128 | try rw [c128]
              try simp at c128
            ·first | cases c122 | try rw [c122]
             try simp at c122
           ·first | cases c116 | try rw [c116]
            try simp at c116
          ·first | cases c110 | try rw [c110]
           try simp at c110
         ·first | cases c104 | try rw [c104]
          try simp at c104
        ·first | cases c98 | try rw [c98]
         try simp at c98
       ·first | cases c92 | try rw [c92]
        try simp at c92
    ·first | cases c69 | try rw [c69]
     try simp at c69
     obtain ⟨hbs, hbp⟩ := qno c69
     subst hbs; subst hbp
     refine .rn [8,9,10,11,12,13,14,15,16,17] [18,19,20,21,22,23,24,25,26,27,28] ?_
     refine .split (t := 79) rfl (fun c79 => ?_) (fun c79 => ?_)
     ·first | cases c79 | try rw [c79]
      try simp at c79
      refine .rn [18,19,20,21] [22,23,24,25,26,27,28] ?_
      refine .split (t := 83) rfl (fun c83 => ?_) (fun c83 => ?_)
      ·first | cases c83 | try rw [c83]
       try simp at c83
      ·first | cases c83 | try rw [c83]
       try simp at c83
       refine .rn [22,23,24,25,26,27,28] [] ?_
       refine .done ?_
       refine .condS rfl (fun c90 => ?_) (fun c90 => ?_)
       ·try simp at c90
       ·try simp at c90
        refine .skip ?_
        refine .seq ?_
        refine .drawn (ms := [0,1,3,3,11,31,63,127,255,255,767,2047,4095,8191,16383,16383,49151,131071,262143,524287,1048575,1048575,3145727,8388607,16777215,33554431,67108863,67108863,201326591,536870911,1073741823,2147483647,4294967295,4294967295,12884901887,34359738367,68719476735,137438953471,274877906943,274877906943,824633720831,2199023255551,4398046511103,8796093022207,17592186044415,17592186044415,52776558133247,140737488355327,281474976710655,562949953421311,1125899906842623,1125899906842623,4503599627370495,1125899906842623,1125899906842623,36028797018963967,72057594037927935,144115188075855871,288230376151711743]) (W := [0,29,41,52,55]) (items := [.op 0, .op 1, .op 2, .op 3, .op 4, .op 5, .op 6, .op 7, .op 8, .op 9, .op 10, .op 11, .op 12, .op 13, .op 14, .op 15, .op 16, .op 17, .op 18, .op 19, .op 20, .op 21, .op 22, .op 23, .op 24, .op 25, .op 26, .op 27, .op 28, .op 29, .op 30, .op 31, .op 32, .op 33, .op 34, .op 35, .op 36, .op 37, .op 38, .op 39, .op 40, .op 41, .op 42, .op 43, .op 44, .op 45, .op 46, .op 47, .op 48, .op 49, .op 50, .op 51, .op 53, .op 54, .op 52, .ck 54, .ck 53, .op 55, .op 56, .op 57, .op 58]) rfl zz0 zz0 zz0 ?_
        refine .wr rfl rfl (by decide) (.pure rfl rfl rfl Tryz.call22 (by decide) (hsan) (by first | rfl | simp [*]) ?_)
        rintro _ rfl
        refine .rx ?_
        refine .split (t := 92) rfl (fun c92 => ?_) (fun c92 => ?_)
        ·first | cases c92 | try rw [c92]
         try simp at c92
         refine .rx ?_
         refine .rx ?_
         refine .rx ?_
         refine .rx ?_
         refine .rx ?_
         refine .rx ?_
         refine .split (t := 98) rfl (fun c98 => ?_) (fun c98 => ?_)
         ·first | cases c98 | try rw [c98]
          try simp at c98
          refine .rx ?_
          refine .rx ?_
          refine .rx ?_
          refine .rx ?_
          refine .rx ?_
          refine .rx ?_
          refine .split (t := 104) rfl (fun c104 => ?_) (fun c104 => ?_)
          ·first | cases c104 | try rw [c104]
           try simp at c104
           refine .rx ?_
           refine .rx ?_
           refine .rx ?_
           refine .rx ?_
           refine .rx ?_
           refine .rx ?_
           refine .split (t := 110) rfl (fun c110 => ?_) (fun c110 => ?_)
           ·first | cases c110 | try rw [c110]
            try simp at c110
            refine .rx ?_
            refine .rx ?_
            refine .rx ?_
            refine .rx ?_
            refine .rx ?_
            refine .rx ?_
            refine .split (t := 116) rfl (fun c116 => ?_) (fun c116 => ?_)
            ·first | cases c116 | try rw [c116]
             try simp at c116
             refine .rx ?_
             refine .rx ?_
             refine .rx ?_
             refine .wr rfl rfl (by decide) (.pure rfl rfl rfl Tryz.call65 (by decide) (p65 _ _ (by omega) (by omega)) (by first | rfl | simp [*]) ?_)
             rintro _ rfl
             refine .rx ?_
             refine .rx ?_
             refine .split (t := 122) rfl (fun c122 => ?_) (fun c122 => ?_)
             ·first | cases c122 | try rw [c122]
              try simp at c122
              refine .rx ?_
              refine .rx ?_
              refine .rx ?_
              refine .rx ?_
              refine .rx ?_
              refine .rx ?_
              refine .split (t := 128) rfl (fun c128 => ?_) (fun c128 => ?_)
              ·first | cases c128 | try rw [c128]
               try simp at c128
               refine .rx ?_
               refine .rx ?_
               refine .rx ?_
               refine .wr rfl rfl (by decide) (.pure rfl rfl rfl Tryz.call65 (by decide) (p65 _ _ (by omega) (by omega)) (by first | rfl | simp [*]) ?_)
               rintro _ rfl
               refine .rx ?_
               refine .rx ?_
               refine .split (t := 134) rfl (fun c134 => ?_) (fun c134 => ?_)
               ·first | cases c134 | try rw [c134]
                try simp at c134
                refine .rx ?_
                refine .rx ?_
                refine .rx ?_
                refine .rx ?_
                refine .rx ?_
                refine .rx ?_
                refine .split (t := 140) rfl (fun c140 => ?_) (fun c140 => ?_)
                ·first | cases c140 | try rw [c140]
                 try simp at c140
                 refine .rx ?_
                 refine .rx ?_
                 refine .rx ?_
                 refine .rx ?_
                 refine .wr rfl rfl (by decide) (.pure rfl rfl rfl Tryz.call56 (by decide) (q56) (by first | rfl | simp [*]) ?_)
                 rintro _ rfl
                 refine .ck rfl zz0 ?_
                 refine .ck rfl zz0 ?_
                 refine .wr rfl rfl (by decide) (.pure rfl rfl rfl Tryz.call64 (by decide) (q64') (by first | rfl | simp [*]) ?_)
                 rintro _ rfl
                 refine .rx ?_
                 refine .rx ?_
                 refine .rx ?_
                 refine .done ?_
                 refine .ret ?_
                 refine ⟨_, _, zz4,zz4, ?_⟩
                 simp_all
                ·first | cases c140 | try rw [c140]
                 try simp at c140
               ·first | cases c134 | try rw [c134]
                try simp at c134
              ·first | cases c128 | try rw [c128]
               try simp at c128
             ·first | cases c122 | try rw [c122]
              try simp at c122
            ·first | cases c116 | try rw [c116]
             try simp at c116
           ·first | cases c110 | try rw [c110]
            try simp at c110
          ·first | cases c104 | try rw [c104]
           try simp at c104
         ·first | cases c98 | try rw [c98]
          try simp at c98
        ·first | cases c92 | try rw [c92]
         try simp at c92
     ·first | cases c79 | try rw [c79]
      try simp at c79
      exact absurd c79 c69
end Go.Am.Ds
end
