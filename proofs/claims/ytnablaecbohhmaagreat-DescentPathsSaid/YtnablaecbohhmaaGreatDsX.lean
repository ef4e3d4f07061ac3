/-
 What is used in the proof of a statement (part DsX); no condition.
-/
import Derived.Test.YtnablaecbohhmaaGreatDsT
import Derived.Test.YtnablaecbohhmaaGreatVm2
import Derived.Test.YtnablaecbohhmaaGreatDsC
import Derived.Test.YtnablaecbohhmaaGreatDsG
import Derived.Test.YtnablaecbohhmaaGreatDsF
import Derived.Test.YtnablaecbohhmaaGreatDsS
set_option linter.all false
namespace Go.Am
open Go Go.Proofs
section
variable {P : Program} {N b : Nat} {vts : VTs} {vh : VHeap}
theorem VOps.pc {ops : Array Oper} {K : VTs → VHeap → Prop} {i : Nat} {r : List Nat} {o : Oper} {fo : Operand} {args : Array Operand} {aT : Array TypeId} {f : FuncId} {xs ys l : List PV} {v : PV} (ho : ops[i]? = some o) (hw : vwanted ops o vts = some true) (hc : o.op = .call ⟨.value fo, args, aT⟩) (hf : veval vts fo = some (.func f xs ys)) (hl : vevals vts args.toList = some l) (hcf : ∀ cs w, (callFunc f cs).run P w = .ok (.enter f cs) w) (hp : VPure P f (xs ++ l ++ ys) fun r => r = v) (k : VOps P N b ops K r (tput vts o.dst v) vh) (hd : dstOK N o.dst = true := by decide) (hF : PV.allF (xs ++ l ++ ys) = true := by first | rfl | simp [*]) : VOps P N b ops K (i :: r) vts vh := .step ho hw (.pure hc hf hl hcf hd hp hF fun r h => by subst h; exact k)
theorem VScr.wp {ops : Array Oper} {W todo : List Nat} {K : VTs → VHeap → Prop} {m : Nat} {r : List SItem} {o : Oper} {fo : Operand} {args : Array Operand} {aT : Array TypeId} {f : FuncId} {xs ys l : List PV} {v : PV} (ho : ops[m]? = some o) (hw : vwanted ops o vts = some true) (hc : o.op = .call ⟨.value fo, args, aT⟩) (hf : veval vts fo = some (.func f xs ys)) (hl : vevals vts args.toList = some l) (hcf : ∀ cs w, (callFunc f cs).run P w = .ok (.enter f cs) w) (hp : VPure P f (xs ++ l ++ ys) fun r => r = v) (k : VScr P N b ops W K r (todoF ops todo o.dst) (tput vts o.dst v) vh) (hW : W.contains m = true := by decide) (hd : dstOK N o.dst = true := by decide) (hF : PV.allF (xs ++ l ++ ys) = true := by first | rfl | simp [*]) : VScr P N b ops W K (.op m :: r) todo vts vh := .wr ho hw hW (.pure hc hf hl hcf hd hp hF fun r h => by subst h; exact k)
theorem wr1 (k : Nat) (h : k < 4611686018427387904 := by omega) : IntKind.i64.wrap ((k : Int) + 1) = (k : Int) + 1 := wrap64 (by omega) (by omega)
end
end Go.Am
namespace Go.Am.Ds
open Go Go.Am Go.Proofs
theorem encW_e (w : Wit) : encW w = .agg [.int .i64 w.id, .int .i64 w.known, ints w.slips, ints w.mended, ints w.models, .int .i64 w.lo, .int .i64 w.hi] := rfl
end Go.Am.Ds
namespace Go.Am
open Go Go.Proofs
section
variable {P : Program} {N b : Nat} {vts : VTs} {vh : VHeap}
theorem VScr.rx {ops : Array Oper} {W todo : List Nat} {K : VTs → VHeap → Prop} {m : Nat} {r : List SItem} {o : Oper} {v : PV} (k : VScr P N b ops W K r (bif selfFree o then m :: todoF ops todo o.dst else todoF ops todo o.dst) (tput vts o.dst v) vh) (ho : ops[m]? = some o := by rfl) (hw : vwanted ops o vts = some true := by rfl) (hW : W.contains m = false := by decide) (hr : isR o.op = true := by rfl) (hd : dstOK N o.dst = true := by decide) (hv : vop P vts vh o.op = some (v, vh) := by simp [*] <;> first | exact ⟨rfl, rfl⟩ | exact rfl) : VScr P N b ops W K (.op m :: r) todo vts vh := .rd ho hw hW hr hd hv k
end
end Go.Am
section
namespace Go.Am.Ds
open Go Go.Am Go.Proofs
set_option maxHeartbeats 4000000
set_option linter.unusedSimpArgs false
set_option linter.unusedVariables false
attribute [local simp] vrun vwanted vyielded vop veval vevals vparts vO vbuiltin vlen vappend velems vcopy vmakeSlice vbuildSlice valloc vbox vmakeMap vload vpartT vpart vstore vfieldAddr vfield vindexAddr vindex vextract vslice vsliceZ vbounds vbnd zeroO vidx vlookup vmget vmapUpdate vdelete vnilq vnilp vnils vbin vsc vsc1 vscs vscl abinOp aint ashift aunOp aconvert amaxs amax2 pvcV pvc pvcs tput tget vargs VHeap.get VHeap.alloc VHeap.put VHeap.drop VHeap.empty vlook vput vdrop psplice pfill preps chunk List.range List.range.loop vresults vresult vresultV frz frzL PV.isF PV.allF PV.scal PV.allS retP subT allFT PV.one PV.ids PV.idsL dropL beq_eq ble_dec blt_dec
set_option maxRecDepth 100000
theorem p38 (l : List Int) : VPure Tryz.prog 38 [ints l] fun r => r = .bool (decide (l.length ≤ 60)) := by
 refine .of_body Tryz.func38 rfl rfl ?_
 refine .seq (.rn ?_)
 refine .seq (.rn ?_)
 refine .ret ?_
 refine ⟨_, _, zz4,zz4, ?_⟩
 simp; omega
end Go.Am.Ds
end
section
namespace Go.Am.Ds
open Go Go.Am Go.Proofs
set_option maxRecDepth 100000
set_option maxHeartbeats 4000000
set_option linter.unusedSimpArgs false
set_option linter.unusedVariables false
attribute [local simp] vrun vwanted vyielded vop vopA vputAll VHeap.back hidI hidF backL bm Nat.testBit_eq_decide_div_mod_eq veval vevals vparts vO vbuiltin vlen vappend velems vcopy vmakeSlice vbuildSlice valloc vbox vmakeMap vload vpartT vpart vstore vfieldAddr vfield vindexAddr vindex vextract vslice vsliceZ vbounds vbnd zeroO vidx vlookup vmget vmapUpdate vdelete vclear vnilq vnilp vnils vbin vsc vsc1 vscs vscl abinOp aint ashift aunOp aconvert amaxs amax2 pvcV pvc pvcs tput tget vargs VHeap.get VHeap.alloc VHeap.put VHeap.drop VHeap.empty vlook vput vdrop psplice pfill preps chunk List.range List.range.loop vresults vresult vresultV frz frzL PV.isF PV.allF PV.scal PV.allS retP subT allFT PV.one PV.ids PV.idsL dropL beq_eq ble_dec blt_dec
attribute [local simp] zW tup2
def lowN (l : List Int) (n : Int) : Nat := match l with
 | [] => 0
 | a :: r => if a < n then lowN r n + 1 else 0
def putS (l : List Int) (n : Int) : List Int := if l[lowN l n]? = some n then l else l.take (lowN l n) ++ [n] ++ l.drop (lowN l n)
theorem lowN_drop (l : List Int) (n : Int) (i : Nat) (h : i < l.length) : lowN (l.drop i) n = if l[i] < n then lowN (l.drop (i + 1)) n + 1 else 0 := by
 rw [List.drop_eq_getElem_cons h]; rfl
theorem allSz_take_int (l : List Int) (k : Nat) : allSz 1 ((l.map (PV.int .i64)).take k) = true := allSz_take (allSz_int .i64 l)
theorem allSz_drop_int (l : List Int) (k : Nat) : allSz 1 ((l.map (PV.int .i64)).drop k) = true := allSz_drop (allSz_int .i64 l)
theorem allOne_take_int (l : List Int) (k : Nat) : allOne ((l.map (PV.int .i64)).take k) = true := by rw [← List.map_take]; exact allOne_int .i64 _
theorem allOne_drop_int (l : List Int) (k : Nat) : allOne ((l.map (PV.int .i64)).drop k) = true := by rw [← List.map_drop]; exact allOne_int .i64 _
theorem p104 (s : List Wit) (id : Int) (hl : s.length < 4294967296) : VPure Tryz.prog 104 [encS s, .int .i64 id] fun r => r = .int .i64 (findI s id) := by
 refine .of_body Tryz.func104 rfl rfl ?_
 refine .seq (.rn ?_)
 refine .seq (.seq (.rn ?_))
 refine .block ?_
 refine .loopS (fun i : Nat => ([(1, .int .i64 id),(2, .ptr 0 0),(5, .int .i64 i)], ⟨1,[(0, .box [.vec (s.map encW)])]⟩)) (fun i => i ≤ s.length ∧ idxF (fun w : Wit => decide (w.id = id)) i (s.drop i) = findI s id) (fun i => s.length - i) 0 ⟨by simp, rfl⟩ (.mk [] [] zz10 zz11 rfl rfl rfl) ?_
 rintro i ⟨hi, hr⟩
 simp only at hi hr ⊢
 refine .seq (.seq (.rn ?_))
 refine .condS rfl (fun c10 => ?_) (fun c10 => ?_)
 ·try simp at c10
  have hw2 := wr1 i
  rw [idxF_drop _ s i c10] at hr
  have hE := encW_e s[i]
  refine .skip (.seq (.block (.seq (.rn ?_))))
  refine .condS rfl (fun c20 => ?_) (fun c20 => ?_)
  ·try simp at c20
   refine .seq (.rn ?_)
   refine .ret ?_
   refine ⟨_, _, zz4,zz4, ?_⟩
   rw [← hr, if_pos (by simp [c20])]
  ·try simp at c20
   refine .skip (.rn ?_)
   refine ⟨i + 1, ⟨zz5, ?_⟩, zz5,(.mk [] [] zz10 zz11 rfl rfl rfl)⟩
   rw [← hr, if_neg (by simp [c20])]
 ·try simp at c10
  have : i = s.length := by omega
  refine .exit (.seq (.rn ?_))
  refine .ret ?_
  refine ⟨_, _, zz4,zz4, ?_⟩
  rw [← hr, this, List.drop_length]; rfl
theorem p147 (l : List Int) (n : Int) (hl : l.length < 4294967295) : VPure Tryz.prog 147 [ints l, .int .i64 n] fun r => r = ints (putS l n) := by
 refine .of_body Tryz.func147 rfl rfl ?_
 refine .seq (.rn ?_)
 refine .seq (.rn ?_)
 refine .seq (.block ?_)
 refine .loopS (fun i : Nat => ([(0, ints l),(1, .int .i64 n),(5, .int .i64 i)], VHeap.empty)) (fun i => i ≤ l.length ∧ i + lowN (l.drop i) n = lowN l n) (fun i => l.length - i) 0 ⟨by simp, by simp⟩ (.pure (by simp [*]) (by simp)) ?_
 rintro i ⟨hi, hr⟩
 simp only at hi hr ⊢
 refine .seq (.seq ?_)
 refine .regionL [0,1,2,3,4,5,6,7,8,9,10,11] rfl zz0 ?_
 refine .rn [0,1,2,3,4] [5,6,7,8,9,10,11] ?_
 refine .split (t := 10) rfl (fun c10 => ?_) (fun c10 => ?_)
 ·try rw [c10]
  try simp at c10
  have hw2 := wr1 i
  rw [lowN_drop l n i c10] at hr
  refine .rn [5,6,7,8,9,10,11] [] ?_
  refine .done ?_
  refine .condS rfl (fun c17 => ?_) (fun c17 => ?_)
  ·try simp at c17
   refine .skip (.block (.rn ?_))
   refine ⟨i + 1, ⟨zz5, ?_⟩, zz5, .pure (by simp [*]) (by simp)⟩
   rw [← hr, if_pos c17]; omega
  ·try simp at c17
   have hlow : lowN l n = i := by rw [← hr, if_neg (by omega)]; rfl
   have g1 := allSz_take_int l i
   have g2 := allSz_drop_int l i
   have g3 := allOne_take_int l i
   have g4 := allOne_drop_int l i
   have g5 : min i l.length = i := Nat.min_eq_left hi
   have g6 : i ≤ 4294967296 := by omega
   have g7 : i + 1 ≤ 4294967296 := by omega
   have g8 : i + 1 + (l.length - i) ≤ 4294967296 := by omega
   have g9 : allOne [PV.int .i64 n] = true := rfl
   have g20 : i + (l.length - i + 1) = i + 1 + (l.length - i) := by omega
   have g10 : List.take (l.length - i) (List.drop i (l.map (PV.int .i64))) = List.drop i (l.map (PV.int .i64)) := List.take_of_length_le (by simp)
   refine .exit (.seq (.seq ?_))
   refine .regionL [0,1,2,3,4,5,6,7,8,9,10,11] rfl zz0 ?_
   refine .rn [0,1,2,3,4] [5,6,7,8,9,10,11] ?_
   refine .split (t := 24) rfl (fun c24 => ?_) (fun c24 => ?_)
   ·try rw [c24]
    try simp at c24
    refine .rn [5,6,7,8,9,10,11] [] ?_
    refine .done ?_
    refine .condS rfl (fun c31 => ?_) (fun c31 => ?_)
    ·try simp at c31
     refine .seq (.rn ?_)
     refine .ret ?_
     refine ⟨_, _, zz4,zz4, ?_⟩
     have e : putS l n = l := by unfold putS; rw [hlow, if_pos (by rw [List.getElem?_eq_getElem c10, c31])]
     rw [e]
    ·try simp at c31
     refine .skip (.seq ?_)
     refine .drawnF (ms := [0,0,0,6,15,0,32,127,0,0,768,2047,4095]) (W := [0,4,7,11]) (As := [6]) (items := [.op 1, .op 2, .op 3, .op 5, .op 6, .op 8, .op 9, .op 10, .op 0, .op 4, .op 7, .op 11, .op 12]) rfl zz0 zz0 zz0 zz0 (by decide) ?_
     refine .rd rfl rfl (by decide) (by decide) (by decide) rfl (by decide) zz1 ?_
     refine .rd rfl rfl (by decide) (by decide) (by decide) rfl (by decide) zz1 ?_
     refine .rd rfl rfl (by decide) (by decide) (by decide) rfl (by decide) zz1 ?_
     refine .rd rfl rfl (by decide) (by decide) (by decide) rfl (by decide) zz1 ?_
     refine .al rfl rfl (by decide) (by decide) (by decide) (by decide) zz1 ?_
     refine .rd rfl rfl (by decide) (by decide) (by decide) rfl (by decide) zz1 ?_
     refine .rd rfl rfl (by decide) (by decide) (by decide) rfl (by decide) zz1 ?_
     refine .rd rfl rfl (by decide) (by decide) (by decide) rfl (by decide) zz1 ?_
     refine .wr rfl rfl (by decide) (.vop zz1 (by decide) ?_)
     refine .wr rfl rfl (by decide) (.vop zz1 (by decide) ?_)
     refine .wr rfl rfl (by decide) (.vop zz1 (by decide) ?_)
     refine .wr rfl rfl (by decide) (.vop zz1 (by decide) ?_)
     refine .rd rfl rfl (by decide) (by decide) (by decide) rfl (by decide) zz1 ?_
     refine .done (.ret ?_)
     refine ⟨_, _, zz4,(by simp [g5, g20] <;> rfl), ?_⟩
     have e : putS l n = l.take i ++ [n] ++ l.drop i := by unfold putS; rw [hlow, if_neg (by rw [List.getElem?_eq_getElem c10]; simpa using c31)]
     rw [e]; simp [ints]
   ·try rw [c24]
    try simp at c24
 ·try rw [c10]
  try simp at c10
  have hil : i = l.length := by omega
  have hlow : lowN l n = i := by rw [← hr, List.drop_of_length_le c10]; rfl
  subst hil
  have g1 := allSz_take_int l l.length
  have g2 := allSz_drop_int l l.length
  have g3 := allOne_take_int l l.length
  have g4 := allOne_drop_int l l.length
  have g6 : l.length ≤ 4294967296 := by omega
  have g7 : l.length + 1 ≤ 4294967296 := by omega
  have g8 : l.length + 1 + (l.length - l.length) ≤ 4294967296 := by omega
  have g9 : allOne [PV.int .i64 n] = true := rfl
  have g11 : List.drop l.length (l.map (PV.int .i64)) = [] := List.drop_of_length_le (by simp)
  have g12 : allSz 1 [] = true := rfl
  have g13 : allOne [] = true := rfl
  refine .rn [5,6,7,8,9,10,11] [] ?_
  refine .done (.condF rfl (.exit (.seq (.seq ?_))))
  refine .regionL [0,1,2,3,4,5,6,7,8,9,10,11] rfl zz0 ?_
  refine .rn [0,1,2,3,4] [5,6,7,8,9,10,11] ?_
  refine .split (t := 24) rfl (fun c24 => ?_) (fun c24 => ?_)
  ·try rw [c24]
   try simp at c24
  ·try rw [c24]
   try simp at c24
   refine .rn [5,6,7,8,9,10,11] [] ?_
   refine .done (.condF rfl (.skip (.seq ?_)))
   refine .drawnF (ms := [0,0,0,6,15,0,32,127,0,0,768,2047,4095]) (W := [0,4,7,11]) (As := [6]) (items := [.op 1, .op 2, .op 3, .op 5, .op 6, .op 8, .op 9, .op 10, .op 0, .op 4, .op 7, .op 11, .op 12]) rfl zz0 zz0 zz0 zz0 (by decide) ?_
   refine .rd rfl rfl (by decide) (by decide) (by decide) rfl (by decide) zz1 ?_
   refine .rd rfl rfl (by decide) (by decide) (by decide) rfl (by decide) zz1 ?_
   refine .rd rfl rfl (by decide) (by decide) (by decide) rfl (by decide) zz1 ?_
   refine .rd rfl rfl (by decide) (by decide) (by decide) rfl (by decide) zz1 ?_
   refine .al rfl rfl (by decide) (by decide) (by decide) (by decide) zz1 ?_
   refine .rd rfl rfl (by decide) (by decide) (by decide) rfl (by decide) zz1 ?_
   refine .rd rfl rfl (by decide) (by decide) (by decide) rfl (by decide) zz1 ?_
   refine .rd rfl rfl (by decide) (by decide) (by decide) rfl (by decide) zz1 ?_
   refine .wr rfl rfl (by decide) (.vop zz1 (by decide) ?_)
   refine .wr rfl rfl (by decide) (.vop zz1 (by decide) ?_)
   refine .wr rfl rfl (by decide) (.vop zz1 (by decide) ?_)
   refine .wr rfl rfl (by decide) (.vop zz1 (by decide) ?_)
   refine .rd rfl rfl (by decide) (by decide) (by decide) rfl (by decide) zz1 ?_
   refine .done (.ret ?_)
   refine ⟨_, _, zz4,zz4, ?_⟩
   have e : putS l n = l ++ [n] := by unfold putS; rw [hlow, if_neg (by rw [List.getElem?_eq_none (Nat.le_refl _)]; simp)]; simp
   rw [e]; simp [ints]
end Go.Am.Ds
end
section
namespace Go.Am.Ds
open Go Go.Am Go.Proofs
set_option maxHeartbeats 4000000
set_option linter.unusedSimpArgs false
set_option linter.unusedVariables false
attribute [local simp] vrun vwanted vyielded vop veval vevals vparts vO vbuiltin vlen vappend velems vcopy vmakeSlice vbuildSlice valloc vbox vmakeMap vload vpartT vpart vstore vfieldAddr vfield vindexAddr vindex vextract vslice vsliceZ vbounds vbnd zeroO vidx vlookup vmget vmapUpdate vdelete vnilq vnilp vnils vbin vsc vsc1 vscs vscl abinOp aint ashift aunOp aconvert amaxs amax2 pvcV pvc pvcs tput tget vargs VHeap.get VHeap.alloc VHeap.put VHeap.drop VHeap.empty vlook vput vdrop psplice pfill preps chunk List.range List.range.loop vresults vresult vresultV frz frzL PV.isF PV.allF PV.scal PV.allS retP subT allFT PV.one PV.ids PV.idsL dropL beq_eq ble_dec blt_dec
set_option maxRecDepth 100000
attribute [local simp] zW tup2
theorem lackF_iff (c : Wit) (n : Int) : lackF c n = true ↔ n ∉ c.slips ∧ n ∉ c.mended := by
 unfold lackF
 simp [mem_setK]
theorem getW_idx {s : List Wit} {id : Int} {c : Wit} (h : getW s id = some c) : ∃ i, ∃ h : i < s.length, findI s id = (i : Int) ∧ s[i] = c := by
 rcases Int.lt_or_le (findI s id) 0 with h0 | h0
 ·rw [getW_none h0] at h; cases h
 ·obtain ⟨i, h1, h2, h3⟩ := getW_some h0
  rw [h3] at h; injection h with h
  exact ⟨i, h1, h2, h⟩
theorem p103a (s : List Wit) (k : Nat) (hk : k < s.length) (hl : s.length < 4294967296) (h3 : s[k].models.length < 4294967296) : VPure Tryz.prog 103 [encS s, .int .i64 k, .int .i64 0] fun r => r = tup2 (lastS s[k] 0,0) := by
 have hE := encW_e s[k]
 refine .of_body Tryz.func103 rfl rfl ?_
 refine .seq (.rn ?_)
 refine .seq (.rn ?_)
 refine .seq (.seq (.rn ?_))
 refine .condS rfl (fun c20 => ?_) (fun c20 => ?_)
 ·try simp at c20
 ·try simp at c20
  refine .skip (.seq ?_)
  refine .regionL [0,1,2,3,4] rfl zz0 ?_
  refine .rn [0,1,2] [3,4] ?_
  refine .pc rfl rfl rfl rfl rfl Tryz.call121 (p121 s[k].models 0 h3) ?_
  refine .rn [4] [] ?_
  refine .done (.seq (.seq ?_))
  refine .regionL [0,1,2,3,4,5,6,7] rfl zz0 ?_
  refine .rn [0,1,2,3,4] [5,6,7] ?_
  refine .split (t := 83) rfl (fun c83 => ?_) (fun c83 => ?_)
  ·try rw [c83]
   try simp at c83
   refine .rn [5,6,7] [] ?_
   refine .done ?_
   refine .condS rfl (fun c86 => ?_) (fun c86 => ?_)
   ·try simp at c86
    refine .seq (.rn ?_)
    refine .ret ?_
    refine ⟨_, _, zz4,zz4, ?_⟩
    simp [tup2, lastS, *]
   ·try simp at c86
    refine .skip (.seq (.rn ?_))
    refine .ret ?_
    refine ⟨_, _, zz4,zz4, ?_⟩
    simp [tup2, lastS, *]
  ·try rw [c83]
   try simp at c83
   refine .rn [5,6,7] [] ?_
   refine .done (.condF rfl (.skip (.seq (.rn ?_))))
   refine .ret ?_
   refine ⟨_, _, zz4,zz4, ?_⟩
   simp [tup2, lastS, *]
theorem p103b (s : List Wit) (k j : Nat) (hk : k < s.length) (hj : j < s.length) (b : Int) (hb : b ≠ 0) (hje : findI s b = (j : Int)) (hid : s[j].id = b) (hl : s.length < 4294967296) (h1 : s[k].slips.length < 4294967296) (h2 : s[k].mended.length < 4294967296) (h3 : s[k].models.length < 4294967296) (h4 : s[j].slips.length < 4294967296) : VPure Tryz.prog 103 [encS s, .int .i64 k, .int .i64 b] fun r => r = tup2 (whyP s[k] s[j]) := by
 have hE := encW_e s[k]
 have hE2 := encW_e s[j]
 have hmx : (if 0 < j then (j : Int) else 0) = (j : Int) := by split <;> omega
 refine .of_body Tryz.func103 rfl rfl ?_
 refine .seq (.rn ?_)
 refine .seq (.rn ?_)
 refine .seq (.seq (.rn ?_))
 refine .condS rfl (fun c20 => ?_) (fun c20 => ?_)
 ·try simp at c20
  refine .seq ?_
  refine .drawnF (ms := [0,1,0,0,12,28,63,127,0,511]) (W := [4,9]) (As := [8]) (items := [.op 0, .op 1, .op 2, .op 3, .op 8, .op 4, .ck 1, .op 5, .op 6, .op 7, .op 9]) rfl zz0 zz0 zz0 zz0 (by decide) ?_
  refine .rd rfl rfl (by decide) (by decide) (by decide) rfl (by decide) zz1 ?_
  refine .rd rfl rfl (by decide) (by decide) (by decide) rfl (by decide) zz1 ?_
  refine .rd rfl rfl (by decide) (by decide) (by decide) rfl (by decide) zz1 ?_
  refine .rd rfl rfl (by decide) (by decide) (by decide) rfl (by decide) zz1 ?_
  refine .al rfl rfl (by decide) (by decide) (by decide) (by decide) zz1 ?_
  refine .wr rfl rfl (by decide) (.pure rfl rfl rfl Tryz.call104 (by decide) (p104 s b hl) (by first | rfl | simp [*]) ?_)
  rintro _ rfl
  refine .ck rfl zz0 ?_
  refine .rd rfl rfl (by decide) (by decide) (by decide) rfl (by decide) zz1 ?_
  refine .rd rfl rfl (by decide) (by decide) (by decide) rfl (by decide) zz1 ?_
  refine .rd rfl rfl (by decide) (by decide) (by decide) rfl (by decide) zz1 ?_
  refine .wr rfl rfl (by decide) (.vop zz1 (by decide) ?_)
  refine .done (.seq (.seq (.rn ?_)))
  refine .condS rfl (fun c33 => ?_) (fun c33 => ?_)
  ·try simp at c33
   refine .seq (.rn ?_)
   refine .ret ?_
   refine ⟨_, _, zz4,zz4, ?_⟩
   simp [tup2, whyP, hid, c33]
  ·try simp at c33
   refine .skip (.seq (.seq (.rn ?_)))
   refine .condS rfl (fun c40 => ?_) (fun c40 => ?_)
   ·try simp at c40
    refine .seq (.rn ?_)
    refine .ret ?_
    refine ⟨_, _, zz4,zz4, ?_⟩
    simp [tup2, whyP, hid, c33, c40]
   ·try simp at c40
    refine .skip (.seq (.rn ?_))
    refine .block ?_
    refine .loopS (fun i : Nat => ([(2, .int .i64 b),(8, .ptr 1 0),(9, .ptr 2 0),(10, .int .i64 i)], ⟨3,[(2, .box [.int .i64 s[j].id, .int .i64 s[j].known, ints s[j].slips, ints s[j].mended, ints s[j].models, .int .i64 s[j].lo, .int .i64 s[j].hi]),(1, .box [.int .i64 s[k].id, .int .i64 s[k].known, ints s[k].slips, ints s[k].mended, ints s[k].models, .int .i64 s[k].lo, .int .i64 s[k].hi])]⟩)) (fun i => i ≤ s[j].slips.length ∧ idxF (lackF s[k]) i (s[j].slips.drop i) = idxF (lackF s[k]) 0 s[j].slips ∧ fstF (lackF s[k]) (s[j].slips.drop i) = fstF (lackF s[k]) s[j].slips) (fun i => s[j].slips.length - i) 0 ⟨by simp, rfl, rfl⟩ (.mk [] [] zz12 zz13 rfl rfl rfl) ?_
    rintro i ⟨hi, hr, hr2⟩
    simp only at hi hr hr2 ⊢
    refine .seq (.seq (.rn ?_))
    refine .condS rfl (fun c45 => ?_) (fun c45 => ?_)
    ·try simp at c45
     have hw2 := wr1 i
     rw [idxF_drop _ s[j].slips i c45] at hr
     rw [fstF_drop _ s[j].slips i c45] at hr2
     refine .skip (.seq (.block (.seq ?_)))
     refine .drawn (ms := [0,1,0,4,0,28,60,127,255]) (W := [7]) (items := [.op 0, .op 1, .op 2, .op 3, .op 4, .op 5, .op 6, .op 7, .op 8]) rfl zz0 zz0 zz0 ?_
     refine .rx ?_
     refine .rx ?_
     refine .rx ?_
     refine .rx ?_
     refine .rx ?_
     refine .rx ?_
     refine .rx ?_
     refine .wp rfl rfl rfl rfl rfl Tryz.call121 (p121 s[k].slips _ h1) ?_
     refine .rx ?_
     refine .done (.seq ?_)
     refine .drawn (ms := [0,1,0,4,0,28,60,127,255]) (W := [7]) (items := [.op 0, .op 1, .op 2, .op 3, .op 4, .op 5, .op 6, .op 7, .op 8]) rfl zz0 zz0 zz0 ?_
     refine .rx ?_
     refine .rx ?_
     refine .rx ?_
     refine .rx ?_
     refine .rx ?_
     refine .rx ?_
     refine .rx ?_
     refine .wp rfl rfl rfl rfl rfl Tryz.call121 (p121 s[k].mended _ h2) ?_
     refine .rx ?_
     refine .done (.seq ?_)
     refine .regionL [0,1,2,3,4,5] rfl zz0 ?_
     refine .rn [0,1,2] [3,4,5] ?_
     refine .split (t := 66) rfl (fun c66 => ?_) (fun c66 => ?_)
     ·try rw [c66]
      try simp at c66
      refine .rn [3,4,5] [] ?_
      refine .done ?_
      refine .condS rfl (fun c69 => ?_) (fun c69 => ?_)
      ·try simp at c69
       have hlf : lackF s[k] s[j].slips[i] = true := (lackF_iff _ _).2 ⟨c66, c69⟩
       refine .seq ?_
       refine .drawn (ms := [0,1,0,7,15,0,63]) (W := []) (items := [.op 0, .op 1, .op 2, .op 3, .op 4, .op 5, .op 6]) rfl zz0 zz0 zz0 ?_
       refine .rx ?_
       refine .rx ?_
       refine .rx ?_
       refine .rx ?_
       refine .rx ?_
       refine .rx ?_
       refine .rx ?_
       refine .done (.ret ?_)
       refine ⟨_, _, zz4,zz4, ?_⟩
       have e : whyP s[k] s[j] = (3, s[j].slips[i]) := by
        rw [if_pos hlf] at hr hr2
        unfold whyP
        rw [hid, if_neg c33, if_neg (by omega), if_pos (by rw [← hr]; omega), ← hr2]
       rw [e]; rfl
      ·try simp at c69
       have hlf : ¬ lackF s[k] s[j].slips[i] = true := fun h => ((lackF_iff _ _).1 h).2 c69
       refine .skip (.rn ?_)
       refine ⟨i + 1, ⟨zz5, ?_, ?_⟩, zz5,(.mk [] [] zz12 zz13 rfl rfl rfl)⟩
       ·rw [← hr, if_neg hlf]
       ·rw [← hr2, if_neg hlf]
     ·try rw [c66]
      try simp at c66
      have hlf : ¬ lackF s[k] s[j].slips[i] = true := fun h => ((lackF_iff _ _).1 h).1 c66
      refine .rn [3,4,5] [] ?_
      refine .done (.condF rfl (.skip (.rn ?_)))
      refine ⟨i + 1, ⟨zz5, ?_, ?_⟩, zz5,(.mk [] [] zz12 zz13 rfl rfl rfl)⟩
      ·rw [← hr, if_neg hlf]
      ·rw [← hr2, if_neg hlf]
    ·try simp at c45
     have hin : i = s[j].slips.length := by omega
     have hlk : idxF (lackF s[k]) 0 s[j].slips = -1 := by rw [← hr, hin, List.drop_length]; rfl
     refine .exit (.seq ?_)
     refine .regionL [0,1,2,3,4] rfl zz0 ?_
     refine .rn [0,1,2] [3,4] ?_
     refine .pc rfl rfl rfl rfl rfl Tryz.call121 (p121 s[k].models b h3) ?_
     refine .rn [4] [] ?_
     refine .done (.seq (.seq ?_))
     refine .regionL [0,1,2,3,4,5,6,7] rfl zz0 ?_
     refine .rn [0,1,2,3,4] [5,6,7] ?_
     refine .split (t := 83) rfl (fun c83 => ?_) (fun c83 => ?_)
     ·try rw [c83]
      try simp at c83
      refine .rn [5,6,7] [] ?_
      refine .done ?_
      refine .condS rfl (fun c86 => ?_) (fun c86 => ?_)
      ·try simp at c86
       refine .seq (.rn ?_)
       refine .ret ?_
       refine ⟨_, _, zz4,zz4, ?_⟩
       have e : whyP s[k] s[j] = (lastS s[k] b, 0) := by
        unfold whyP
        rw [hid, if_neg c33, if_neg (by omega), if_neg (by rw [hlk]; decide)]
       rw [e]; simp [tup2, lastS, *]
      ·try simp at c86
       refine .skip (.seq (.rn ?_))
       refine .ret ?_
       refine ⟨_, _, zz4,zz4, ?_⟩
       have e : whyP s[k] s[j] = (lastS s[k] b, 0) := by
        unfold whyP
        rw [hid, if_neg c33, if_neg (by omega), if_neg (by rw [hlk]; decide)]
       rw [e]; simp [tup2, lastS, *]
     ·try rw [c83]
      try simp at c83
      refine .rn [5,6,7] [] ?_
      refine .done (.condF rfl (.skip (.seq (.rn ?_))))
      refine .ret ?_
      refine ⟨_, _, zz4,zz4, ?_⟩
      have e : whyP s[k] s[j] = (lastS s[k] b, 0) := by
       unfold whyP
       rw [hid, if_neg c33, if_neg (by omega), if_neg (by rw [hlk]; decide)]
      rw [e]; simp [tup2, lastS, *]
 ·try simp at c20
  exact absurd c20 hb
end Go.Am.Ds
end
section
namespace Go.Am.Ds
open Go Go.Am Go.Proofs
set_option maxRecDepth 100000
set_option maxHeartbeats 4000000
set_option linter.unusedSimpArgs false
set_option linter.unusedVariables false
attribute [local simp] vrun vwanted vyielded vop vopA vputAll VHeap.back hidI hidF backL bm Nat.testBit_eq_decide_div_mod_eq veval vevals vparts vO vbuiltin vlen vappend velems vcopy vmakeSlice vbuildSlice valloc vbox vmakeMap vload vpartT vpart vstore vfieldAddr vfield vindexAddr vindex vextract vslice vsliceZ vbounds vbnd zeroO vidx vlookup vmget vmapUpdate vdelete vclear vnilq vnilp vnils vbin vsc vsc1 vscs vscl abinOp aint ashift aunOp aconvert amaxs amax2 pvcV pvc pvcs tput tget vargs VHeap.get VHeap.alloc VHeap.put VHeap.drop VHeap.empty vlook vput vdrop psplice pfill preps chunk List.range List.range.loop vresults vresult vresultV frz frzL PV.isF PV.allF PV.scal PV.allS retP subT allFT PV.one PV.ids PV.idsL dropL beq_eq ble_dec blt_dec
attribute [local simp] zW tup2
theorem VPure.nilArg {P : Program} {f : FuncId} {rest : List PV} {R : PV → Prop} (hp : VPure P f (.vec [] :: rest) R) : VPure P f (.sl0 :: rest) R := fun lo g σ h args' ha s => hp lo g σ h args' (by
 obtain ⟨v', r', rfl, h1, h2⟩ := ha.inv_cons
 have := h1.isF rfl; cases this
 exact .cons (.fr _ _ .vecN) h2) s
structure OkS (s : List Wit) : Prop where
  len : s.length ≤ 24
  lens : ∀ w ∈ s, w.slips.length < 4294967296 ∧ w.mended.length < 4294967296 ∧ w.models.length < 4294967296
  pos : ∀ w ∈ s, w.id ≠ 0
theorem okS_of {s : List Wit} (h : checkS s = 0) : OkS s := by
 refine ⟨(checkS_ok h).1, checkS_lens h, fun w hw => ?_⟩
 have := (checkS_ok h).2 w hw
 unfold witE at this
 split at this
 ·cases this
 ·omega
theorem OkS.idx {s : List Wit} (h : OkS s) {i : Nat} (hi : i < s.length) : ∃ j, ∃ hj : j < s.length, findI s s[i].id = (j : Int) ∧ s[j].id = s[i].id ∧ getW s s[i].id = some s[j] := by
 have h0 : 0 ≤ findI s s[i].id := find_ids (idsS_mem.2 ⟨s[i], List.getElem_mem hi, rfl⟩)
 obtain ⟨j, h1, h2, h3⟩ := getW_some h0
 exact ⟨j, h1, h2,(getW_mem h3).2, h3⟩
def atI (s : List Wit) (id : Int) (d : Wit) : Wit := (getW s id).getD d
def stepR (s : List Wit) (c : Wit) (out : List Int) (w : Wit) : List Int := if (whyP c (atI s w.id w)).1 = 0 then putS out w.id else out
def modR (s : List Wit) (c : Wit) : List Int := s.foldl (stepR s c) (if lastS c 0 = 0 then [0] else [])
def moP (s : List Wit) (c : Wit) (i : Nat) : List Int := (s.take i).foldl (stepR s c) (if lastS c 0 = 0 then [0] else [])
theorem moP_all (s : List Wit) (c : Wit) : moP s c s.length = modR s c := by simp [moP, modR]
theorem moP_succ (s : List Wit) (c : Wit) (i : Nat) (h : i < s.length) : moP s c (i + 1) = stepR s c (moP s c i) s[i] := by
 simp only [moP, List.take_succ_eq_append_getElem h, List.foldl_append, List.foldl_cons, List.foldl_nil]
theorem putS_len (l : List Int) (n : Int) : (putS l n).length ≤ l.length + 1 := by
 unfold putS
 split
 ·omega
 ·simp; omega
theorem moP_len (s : List Wit) (c : Wit) (i : Nat) : (moP s c i).length ≤ i + 1 := by
 have : ∀ (l : List Wit) (a : List Int),(l.foldl (stepR s c) a).length ≤ a.length + l.length := by
  intro l
  induction l with
  | nil => intro a; simp
  | cons w r ih =>
   intro a
   have h1 := ih (stepR s c a w)
   have h2 : (stepR s c a w).length ≤ a.length + 1 := by
    unfold stepR
    split
    ·exact putS_len _ _
    ·omega
   simp only [List.foldl_cons, List.length_cons]; omega
 have h1 := this (s.take i) (if lastS c 0 = 0 then [0] else [])
 have h2 : (if lastS c 0 = 0 then [0] else ([] : List Int)).length ≤ 1 := by split <;> simp
 have h3 : (s.take i).length ≤ i := by simp; omega
 simp only [moP]; omega
theorem moP_zeroT (s : List Wit) (c : Wit) (h : lastS c 0 = 0) : moP s c 0 = [0] := by simp [moP, h]
theorem moP_zeroF (s : List Wit) (c : Wit) (h : ¬ lastS c 0 = 0) : moP s c 0 = [] := by simp [moP, h]
theorem putS_nil (n : Int) : putS [] n = [n] := by simp [putS, lowN]
theorem p107 (s : List Wit) (k : Nat) (hk : k < s.length) (ok : OkS s) : VPure Tryz.prog 107 [encS s, .int .i64 k] fun r => r = ints (modR s s[k]) := by
 have hl : s.length < 4294967296 := by have := ok.len; omega
 have hl24 := ok.len
 obtain ⟨hw1, hw2, hw3⟩ := ok.lens s[k] (List.getElem_mem hk)
 refine .of_body Tryz.func107 rfl rfl ?_
 refine .seq (.rn ?_)
 refine .seq (.rn ?_)
 refine .seq ?_
 refine .regionL [0,1,2,3,4,5,6,7] rfl zz0 ?_
 refine .rn [0,1] [2,3,4,5,6,7] ?_
 refine .pc rfl rfl rfl rfl rfl Tryz.call103 (p103a s k hk hl hw3) ?_
 refine .rn [3,4,5,6,7] [] ?_
 refine .done (.seq (.seq (.rn ?_)))
 refine .condS rfl (fun c18 => ?_) (fun c18 => ?_)
 ·try simp at c18
  have hO := moP_zeroT s s[k] c18
  have hput := putS_nil 0
  refine .regionL [0,1,2] rfl zz0 ?_
  refine .rn [0] [1,2] ?_
  refine .pc rfl rfl rfl rfl rfl Tryz.call147 (VPure.nilArg (p147 [] 0 (by simp))) ?_
  refine .rn [2] [] ?_
  refine .done (.seq (.seq (.rn ?_)))
  refine .block ?_
  refine .loopS (fun i : Nat => ([(1, .int .i64 k),(2, .ptr 0 0),(5, ints (moP s s[k] i)),(8, .int .i64 i)], ⟨1,[(0, .box [.vec (s.map encW)])]⟩)) (fun i => i ≤ s.length) (fun i => s.length - i) 0 (by simp) (.mk [] [] zz14 zz15 rfl rfl rfl) ?_
  rintro i hi
  simp only at hi ⊢
  refine .seq (.seq (.rn ?_))
  refine .condS rfl (fun c25 => ?_) (fun c25 => ?_)
  ·try simp at c25
   have hwr := wr1 i
   have hE := encW_e s[i]
   obtain ⟨j, hj, hje, hid, hgj⟩ := ok.idx c25
   obtain ⟨hv1, hv2, hv3⟩ := ok.lens s[j] (List.getElem_mem hj)
   have hS := moP_succ s s[k] i c25
   rw [stepR, atI, hgj, Option.getD_some] at hS
   have hln := moP_len s s[k] i
   refine .skip (.seq (.block (.seq ?_)))
   refine .drawn (ms := [0,0,0,4,0,28,60,124,255,511,1023,1023,2047,8191]) (W := [8]) (items := [.op 0, .op 1, .op 2, .op 3, .op 4, .op 5, .op 6, .op 7, .op 8, .op 9, .op 10, .op 11, .op 12, .op 13]) rfl zz0 zz0 zz0 ?_
   refine .rx ?_
   refine .rx ?_
   refine .rx ?_
   refine .rx ?_
   refine .rx ?_
   refine .rx ?_
   refine .rx ?_
   refine .rx ?_
   refine .wp rfl rfl rfl rfl rfl Tryz.call103 (p103b s k j hk hj s[i].id (ok.pos _ (List.getElem_mem c25)) hje hid hl hw1 hw2 hw3 hv1) ?_
   refine .rx ?_
   refine .rx ?_
   refine .rx ?_
   refine .rx ?_
   refine .rx ?_
   refine .done (.seq (.rn ?_))
   refine .condS rfl (fun c41 => ?_) (fun c41 => ?_)
   ·try simp at c41
    rw [if_pos c41] at hS
    refine .regionL [0,1,2,3,4,5,6,7,8] rfl zz0 ?_
    refine .rn [0,1,2,3,4,5,6] [7,8] ?_
    refine .pc rfl rfl rfl rfl rfl Tryz.call147 (p147 _ s[i].id (by omega)) ?_
    refine .rn [8] [] ?_
    refine .done (.rn ?_)
    refine ⟨i + 1, c25,zz5,(.mk [] [] zz14 zz15 rfl rfl rfl)⟩
   ·try simp at c41
    rw [if_neg c41] at hS
    refine .skip (.rn ?_)
    refine ⟨i + 1, c25,zz5,(.mk [] [] zz14 zz15 rfl rfl rfl)⟩
  ·try simp at c25
   have hin : i = s.length := by omega
   subst hin
   have hall := moP_all s s[k]
   refine .exit (.seq (.rn ?_))
   refine .ret ?_
   refine ⟨_, _, zz4,zz4, ?_⟩
   first | rfl | (simp [*]; done) | (simp_all; done)
 ·try simp at c18
  have hO := moP_zeroF s s[k] c18
  refine .skip (.seq (.seq (.rn ?_)))
  refine .block ?_
  refine .loopS (fun i : Nat => ([(1, .int .i64 k),(2, .ptr 0 0),(5, ints (moP s s[k] i)),(8, .int .i64 i)], ⟨1,[(0, .box [.vec (s.map encW)])]⟩)) (fun i => i ≤ s.length) (fun i => s.length - i) 0 (by simp) (.mk [] [] zz14 zz15 rfl rfl rfl) ?_
  rintro i hi
  simp only at hi ⊢
  refine .seq (.seq (.rn ?_))
  refine .condS rfl (fun c25 => ?_) (fun c25 => ?_)
  ·try simp at c25
   have hwr := wr1 i
   have hE := encW_e s[i]
   obtain ⟨j, hj, hje, hid, hgj⟩ := ok.idx c25
   obtain ⟨hv1, hv2, hv3⟩ := ok.lens s[j] (List.getElem_mem hj)
   have hS := moP_succ s s[k] i c25
   rw [stepR, atI, hgj, Option.getD_some] at hS
   have hln := moP_len s s[k] i
   refine .skip (.seq (.block (.seq ?_)))
   refine .drawn (ms := [0,0,0,4,0,28,60,124,255,511,1023,1023,2047,8191]) (W := [8]) (items := [.op 0, .op 1, .op 2, .op 3, .op 4, .op 5, .op 6, .op 7, .op 8, .op 9, .op 10, .op 11, .op 12, .op 13]) rfl zz0 zz0 zz0 ?_
   refine .rx ?_
   refine .rx ?_
   refine .rx ?_
   refine .rx ?_
   refine .rx ?_
   refine .rx ?_
   refine .rx ?_
   refine .rx ?_
   refine .wp rfl rfl rfl rfl rfl Tryz.call103 (p103b s k j hk hj s[i].id (ok.pos _ (List.getElem_mem c25)) hje hid hl hw1 hw2 hw3 hv1) ?_
   refine .rx ?_
   refine .rx ?_
   refine .rx ?_
   refine .rx ?_
   refine .rx ?_
   refine .done (.seq (.rn ?_))
   refine .condS rfl (fun c41 => ?_) (fun c41 => ?_)
   ·try simp at c41
    rw [if_pos c41] at hS
    refine .regionL [0,1,2,3,4,5,6,7,8] rfl zz0 ?_
    refine .rn [0,1,2,3,4,5,6] [7,8] ?_
    refine .pc rfl rfl rfl rfl rfl Tryz.call147 (p147 _ s[i].id (by omega)) ?_
    refine .rn [8] [] ?_
    refine .done (.rn ?_)
    refine ⟨i + 1, c25,zz5,(.mk [] [] zz14 zz15 rfl rfl rfl)⟩
   ·try simp at c41
    rw [if_neg c41] at hS
    refine .skip (.rn ?_)
    refine ⟨i + 1, c25,zz5,(.mk [] [] zz14 zz15 rfl rfl rfl)⟩
  ·try simp at c25
   have hin : i = s.length := by omega
   subst hin
   have hall := moP_all s s[k]
   refine .exit (.seq (.rn ?_))
   refine .ret ?_
   refine ⟨_, _, zz4,zz4, ?_⟩
   first | rfl | (simp [*]; done) | (simp_all; done)
end Go.Am.Ds
end
section
namespace Go.Am.Ds
open Go Go.Am Go.Proofs
set_option maxHeartbeats 4000000
set_option linter.unusedSimpArgs false
set_option linter.unusedVariables false
attribute [local simp] vrun vwanted vyielded vop veval vevals vparts vO vbuiltin vlen vappend velems vcopy vmakeSlice vbuildSlice valloc vbox vmakeMap vload vpartT vpart vstore vfieldAddr vfield vindexAddr vindex vextract vslice vsliceZ vbounds vbnd zeroO vidx vlookup vmget vmapUpdate vdelete vnilq vnilp vnils vbin vsc vsc1 vscs vscl abinOp aint ashift aunOp aconvert amaxs amax2 pvcV pvc pvcs tput tget vargs VHeap.get VHeap.alloc VHeap.put VHeap.drop VHeap.empty vlook vput vdrop psplice pfill preps chunk List.range List.range.loop vresults vresult vresultV frz frzL PV.isF PV.allF PV.scal PV.allS retP subT allFT PV.one PV.ids PV.idsL dropL beq_eq ble_dec blt_dec
set_option maxRecDepth 100000
attribute [local simp] zW tup2
theorem ariS_eq (c p : Wit) : ariS c p = c.slips.filter fun n => !decide (n ∈ p.slips) := by
 unfold ariS
 congr 1
 funext n
 simp [mem_setK]
theorem take_succ_filt (p : Int → Bool) (l : List Int) (i : Nat) (h : i < l.length) : (l.take (i + 1)).filter p = if p l[i] then (l.take i).filter p ++ [l[i]] else (l.take i).filter p := take_succ_filter p l i h
theorem p111a (s : List Wit) (k : Nat) (hk : k < s.length) (ok : OkS s) : VPure Tryz.prog 111 [encS s, .int .i64 k, .int .i64 0] fun r => r = ints s[k].slips := by
 have hl : s.length < 4294967296 := by have := ok.len; omega
 obtain ⟨hw1, hw2, hw3⟩ := ok.lens s[k] (List.getElem_mem hk)
 have hE := encW_e s[k]
 refine .of_body Tryz.func111 rfl rfl ?_
 refine .seq (.rn ?_)
 refine .seq (.rn ?_)
 refine .seq (.seq (.rn ?_))
 refine .condS rfl (fun c13 => ?_) (fun c13 => ?_)
 ·try simp at c13
 ·try simp at c13
  refine .skip (.seq (.rn ?_))
  refine .seq (.rn ?_)
  refine .seq (.seq (.rn ?_))
  refine .block ?_
  refine .loopS (fun i : Nat => ([(7, .sl0),(8, .grow 1 ((s[k].slips.take i).length) true),(9, ints s[k].slips),(10, .int .i64 i)], ⟨2,[(1, .grow 1 ((s[k].slips.take i).map (.int .i64)))]⟩)) (fun i => i ≤ s[k].slips.length) (fun i => s[k].slips.length - i) 0 (by simp) (.mk [] [] zz14 zz15 rfl rfl rfl) ?_
  rintro i hi
  simp only at hi ⊢
  refine .seq (.seq (.rn ?_))
  refine .condS rfl (fun c32 => ?_) (fun c32 => ?_)
  ·try simp at c32
   have hwr := wr1 i
   have hT := take_succ_map (PV.int .i64) s[k].slips i c32
   have hmn2 : min (i + 1) s[k].slips.length = i + 1 := by omega
   have hb : i + 1 ≤ 4294967296 := by omega
   have hb2 : i ≤ 4294967295 := by omega
   have hone : allOne [PV.int IntKind.i64 s[k].slips[i]] = true := rfl
   have hmn : min i s[k].slips.length = i := by omega
   refine .skip (.seq (.block (.seq ?_)))
   refine .regionL [0,1,2,3,4,5,6] rfl zz0 ?_
   refine .rn [0,1,2,3,4] [5,6] ?_
   refine .pc rfl rfl rfl rfl rfl Tryz.call121 (VPure.nilArg (p121 [] s[k].slips[i] (by simp))) ?_
   refine .rn [6] [] ?_
   refine .done (.seq (.rn ?_))
   refine .condS rfl (fun c42 => ?_) (fun c42 => ?_)
   ·try simp at c42
    refine .rn ?_
    refine .rn ?_
    refine ⟨i + 1, c32,zz5,(.mk [] [(1,3)] zz14 zz15 rfl rfl rfl)⟩
   ·try simp at c42
  ·try simp at c32
   have hin : i = s[k].slips.length := by omega
   subst hin
   refine .exit (.seq (.rn ?_))
   refine .ret ?_
   refine ⟨_, _, zz4,zz4, ?_⟩
   first | rfl | (simp [*]; done) | (simp_all; done)
theorem p111b (s : List Wit) (k j : Nat) (hk : k < s.length) (hj : j < s.length) (b : Int) (hb : b ≠ 0) (hje : findI s b = (j : Int)) (ok : OkS s) : VPure Tryz.prog 111 [encS s, .int .i64 k, .int .i64 b] fun r => r = ints (ariS s[k] s[j]) := by
 have hl : s.length < 4294967296 := by have := ok.len; omega
 obtain ⟨hw1, hw2, hw3⟩ := ok.lens s[k] (List.getElem_mem hk)
 obtain ⟨hv1, hv2, hv3⟩ := ok.lens s[j] (List.getElem_mem hj)
 have hE := encW_e s[k]
 have hE2 := encW_e s[j]
 have hmx : (if 0 < j then (j : Int) else 0) = (j : Int) := by split <;> omega
 refine .of_body Tryz.func111 rfl rfl ?_
 refine .seq (.rn ?_)
 refine .seq (.rn ?_)
 refine .seq (.seq (.rn ?_))
 refine .condS rfl (fun c13 => ?_) (fun c13 => ?_)
 ·try simp at c13
  refine .drawn (ms := [0,1,0,0,12,28,63,127,255,511]) (W := [4]) (items := [.op 0, .op 1, .op 2, .op 3, .op 4, .ck 1, .op 5, .op 6, .op 7, .op 8, .op 9]) rfl zz0 zz0 zz0 ?_
  refine .rx ?_
  refine .rx ?_
  refine .rx ?_
  refine .rx ?_
  refine .wp rfl rfl rfl rfl rfl Tryz.call104 (p104 s b hl) ?_
  refine .ck rfl zz0 ?_
  refine .rx ?_
  refine .rx ?_
  refine .rx ?_
  refine .rx ?_
  refine .rx ?_
  refine .done (.seq (.rn ?_))
  refine .seq (.rn ?_)
  refine .seq (.seq (.rn ?_))
  refine .block ?_
  refine .loopS (fun i : Nat => ([(7, ints s[j].slips),(8, .grow 1 (((s[k].slips.take i).filter fun n => !decide (n ∈ s[j].slips)).length) true),(9, ints s[k].slips),(10, .int .i64 i)], ⟨2,[(1, .grow 1 (((s[k].slips.take i).filter fun n => !decide (n ∈ s[j].slips)).map (.int .i64)))]⟩)) (fun i => i ≤ s[k].slips.length) (fun i => s[k].slips.length - i) 0 (by simp) (.mk [] [] zz14 zz15 rfl rfl rfl) ?_
  rintro i hi
  simp only at hi ⊢
  refine .seq (.seq (.rn ?_))
  refine .condS rfl (fun c32 => ?_) (fun c32 => ?_)
  ·try simp at c32
   have hwr := wr1 i
   have hT := take_succ_filt (fun n => !decide (n ∈ s[j].slips)) s[k].slips i c32
   have hle : ((s[k].slips.take i).filter fun n => !decide (n ∈ s[j].slips)).length ≤ i := Nat.le_trans (List.length_filter_le _ _) (by simp; omega)
   have hb : ((s[k].slips.take i).filter fun n => !decide (n ∈ s[j].slips)).length ≤ 4294967295 := by omega
   have hone : allOne [PV.int IntKind.i64 s[k].slips[i]] = true := rfl
   refine .skip (.seq (.block (.seq ?_)))
   refine .regionL [0,1,2,3,4,5,6] rfl zz0 ?_
   refine .rn [0,1,2,3,4] [5,6] ?_
   refine .pc rfl rfl rfl rfl rfl Tryz.call121 (p121 s[j].slips s[k].slips[i] hv1) ?_
   refine .rn [6] [] ?_
   refine .done (.seq (.rn ?_))
   refine .condS rfl (fun c42 => ?_) (fun c42 => ?_)
   ·try simp at c42
    rw [if_pos (by simp [c42])] at hT
    refine .rn ?_
    refine .rn ?_
    refine ⟨i + 1, c32,zz5,(.mk [] [(1,3)] zz14 zz15 rfl rfl rfl)⟩
   ·try simp at c42
    rw [if_neg (by simp [c42])] at hT
    refine .skip (.rn ?_)
    refine ⟨i + 1, c32,zz5,(.mk [] [] zz14 zz15 rfl rfl rfl)⟩
  ·try simp at c32
   have hin : i = s[k].slips.length := by omega
   subst hin
   refine .exit (.seq (.rn ?_))
   refine .ret ?_
   refine ⟨_, _, zz4,zz4, ?_⟩
   rw [ariS_eq]
 ·try simp at c13
  exact absurd c13 hb
end Go.Am.Ds
end
section
namespace Go.Am.Ds
open Go Go.Am Go.Proofs
set_option maxRecDepth 100000
set_option maxHeartbeats 4000000
set_option linter.unusedSimpArgs false
set_option linter.unusedVariables false
attribute [local simp] vrun vwanted vyielded vop vopA vputAll VHeap.back hidI hidF backL bm Nat.testBit_eq_decide_div_mod_eq veval vevals vparts vO vbuiltin vlen vappend velems vcopy vmakeSlice vbuildSlice valloc vbox vmakeMap vload vpartT vpart vstore vfieldAddr vfield vindexAddr vindex vextract vslice vsliceZ vbounds vbnd zeroO vidx vlookup vmget vmapUpdate vdelete vclear vnilq vnilp vnils vbin vsc vsc1 vscs vscl abinOp aint ashift aunOp aconvert amaxs amax2 pvcV pvc pvcs tput tget vargs VHeap.get VHeap.alloc VHeap.put VHeap.drop VHeap.empty vlook vput vdrop psplice pfill preps chunk List.range List.range.loop vresults vresult vresultV frz frzL PV.isF PV.allF PV.scal PV.allS retP subT allFT PV.one PV.ids PV.idsL dropL beq_eq ble_dec blt_dec
attribute [local simp] zW tup2
def frS (s : List Wit) (c : Wit) (b : Int) : List Int := if b = 0 then c.slips else ariS c (atI s b c)
theorem p111 (s : List Wit) (k : Nat) (hk : k < s.length) (ok : OkS s) (b : Int) (hb : b = 0 ∨ ∃ w ∈ s, w.id = b) : VPure Tryz.prog 111 [encS s, .int .i64 k, .int .i64 b] fun r => r = ints (frS s s[k] b) := by
 by_cases h0 : b = 0
 ·subst h0
  rw [frS, if_pos rfl]
  exact p111a s k hk ok
 ·have hm : b ∈ idsS s := idsS_mem.2 (hb.resolve_left h0)
  obtain ⟨j, h1, h2, h3⟩ := getW_some (find_ids hm)
  rw [frS, if_neg h0, atI, h3, Option.getD_some]
  exact p111b s k j hk h1 b h0 h2 ok
theorem mem_putS {l : List Int} {n m : Int} (h : m ∈ putS l n) : m ∈ l ∨ m = n := by
 unfold putS at h
 split at h
 ·exact .inl h
 ·rcases List.mem_append.1 h with h | h
  ·rcases List.mem_append.1 h with h | h
   ·exact .inl (List.mem_of_mem_take h)
   ·exact .inr (by simpa using h)
  ·exact .inl (List.mem_of_mem_drop h)
theorem mem_modR {s : List Wit} {c : Wit} {b : Int} (h : b ∈ modR s c) : b = 0 ∨ ∃ w ∈ s, w.id = b := by
 have : ∀ (l : List Wit) (a : List Int), b ∈ l.foldl (stepR s c) a → b ∈ a ∨ ∃ w ∈ l, w.id = b := by
  intro l
  induction l with
  | nil => intro a h; exact .inl h
  | cons w r ih =>
   intro a h
   rcases ih _ h with h | ⟨u, h1, h2⟩
   ·unfold stepR at h
    split at h
    ·rcases mem_putS h with h | h
     ·exact .inl h
     ·exact .inr ⟨w, List.mem_cons_self, h.symm⟩
    ·exact .inl h
   ·exact .inr ⟨u, List.mem_cons_of_mem _ h1, h2⟩
 rcases this s _ h with h | h
 ·split at h
  ·exact .inl (by simpa using h)
  ·cases h
 ·exact .inr h
theorem modR_len (s : List Wit) (c : Wit) : (modR s c).length ≤ s.length + 1 := by
 rw [← moP_all]; exact moP_len s c s.length
def isB (s : List Wit) (c : Wit) (b : Int) : Bool := (modR s c).all fun b2 => decide ((frS s c b).length ≤ (frS s c b2).length)
def bestR (s : List Wit) (c : Wit) : List Int := (modR s c).filter (isB s c)
def leB (s : List Wit) (c : Wit) (b : Int) (q : Nat) : Bool := ((modR s c).take q).all fun b2 => decide ((frS s c b).length ≤ (frS s c b2).length)
theorem leB_succ (s : List Wit) (c : Wit) (b : Int) (q : Nat) (h : q < (modR s c).length) : leB s c b (q + 1) = (leB s c b q && decide ((frS s c b).length ≤ (frS s c (modR s c)[q]).length)) := by
 unfold leB
 rw [List.take_succ_eq_append_getElem h, List.all_append]
 simp
theorem leB_all (s : List Wit) (c : Wit) (b : Int) : leB s c b (modR s c).length = isB s c b := by unfold leB isB; rw [List.take_length]
theorem p112 (s : List Wit) (c : Nat) (hc : c < s.length) (ok : OkS s) : VPure Tryz.prog 112 [encS s, .int .i64 c] fun r => r = ints (bestR s s[c]) := by
 have hl24 := ok.len
 have hml := modR_len s s[c]
 refine .of_body Tryz.func112 rfl rfl ?_
 refine .seq (.rn ?_)
 refine .seq ?_
 refine .regionL [0,1,2,3] rfl zz0 ?_
 refine .rn [0,1] [2,3] ?_
 refine .pc rfl rfl rfl rfl rfl Tryz.call107 (p107 s c hc ok) ?_
 refine .rn [3] [] ?_
 refine .done (.seq (.rn ?_))
 refine .seq (.seq (.rn ?_))
 refine .block ?_
 refine .loopS (fun i : Nat => ([(1, .int .i64 c),(2, .ptr 0 0),(5, ints (modR s s[c])),(6, .grow 1 (((modR s s[c]).take i).filter (isB s s[c])).length true),(7, .int .i64 i)], ⟨2,[(1, .grow 1 ((((modR s s[c]).take i).filter (isB s s[c])).map (.int .i64))),(0, .box [.vec (s.map encW)])]⟩)) (fun i => i ≤ (modR s s[c]).length) (fun i => (modR s s[c]).length - i) 0 (by simp) (.mk [] [] zz14 zz15 rfl rfl rfl) ?_
 rintro i hi
 simp only at hi ⊢
 refine .seq (.seq (.rn ?_))
 refine .condS rfl (fun c16 => ?_) (fun c16 => ?_)
 ·try simp at c16
  have hwr := wr1 i
  have hT := take_succ_filt (isB s s[c]) (modR s s[c]) i c16
  have hle : (((modR s s[c]).take i).filter (isB s s[c])).length ≤ i := Nat.le_trans (List.length_filter_le _ _) (by simp; omega)
  have hb : (((modR s s[c]).take i).filter (isB s s[c])).length ≤ 4294967295 := by omega
  have hone : allOne [PV.int IntKind.i64 (modR s s[c])[i]] = true := rfl
  have hm1 := mem_modR (List.getElem_mem c16)
  refine .skip (.seq (.block (.seq (.rn ?_))))
  refine .seq (.seq (.rn ?_))
  refine .block ?_
  refine .loopS (fun q : Nat => ([(1, .int .i64 c),(2, .ptr 0 0),(5, ints (modR s s[c])),(6, .grow 1 (((modR s s[c]).take i).filter (isB s s[c])).length true),(7, .int .i64 i),(8, .bool (leB s s[c] (modR s s[c])[i] q)),(9, .int .i64 q)], ⟨2,[(1, .grow 1 ((((modR s s[c]).take i).filter (isB s s[c])).map (.int .i64))),(0, .box [.vec (s.map encW)])]⟩)) (fun q => q ≤ (modR s s[c]).length) (fun q => (modR s s[c]).length - q) 0 (by simp) (.mk [] [] zz14 zz15 rfl rfl rfl) ?_
  rintro q hq
  simp only at hq ⊢
  refine .seq (.seq (.rn ?_))
  refine .condS rfl (fun c22 => ?_) (fun c22 => ?_)
  ·try simp at c22
   have hwr2 := wr1 q
   have hS := leB_succ s s[c] (modR s s[c])[i] q c22
   have hm2 := mem_modR (List.getElem_mem c22)
   refine .skip (.seq (.block ?_))
   refine .drawn (ms := [0,1,3,3,3,3,51,115,255,511,3,3,3,3,12291,28675,65023,130559,262143,524287,1048575]) (W := [8,16]) (items := [.op 0, .op 1, .op 2, .op 3, .op 4, .op 5, .op 6, .op 7, .op 10, .op 11, .op 12, .op 13, .op 14, .op 15, .op 8, .ck 15, .ck 10, .op 9, .op 16, .ck 9, .op 17, .op 18, .op 19, .op 20]) rfl zz0 zz0 zz0 ?_
   refine .rx ?_
   refine .rx ?_
   refine .split (t := 26) rfl (fun c26 => ?_) (fun c26 => ?_)
   ·try rw [c26]
    try simp at c26
    rw [c26, Bool.true_and] at hS
    refine .rx ?_
    refine .rx ?_
    refine .rx ?_
    refine .rx ?_
    refine .rx ?_
    refine .rx ?_
    refine .rx ?_
    refine .rx ?_
    refine .rx ?_
    refine .rx ?_
    refine .rx ?_
    refine .rx ?_
    refine .wp rfl rfl rfl rfl rfl Tryz.call111 (p111 s c hc ok _ hm1) ?_
    refine .ck rfl zz0 ?_
    refine .ck rfl zz0 ?_
    refine .rx ?_
    refine .wp rfl rfl rfl rfl rfl Tryz.call111 (p111 s c hc ok _ hm2) ?_
    refine .ck rfl zz0 ?_
    refine .rx ?_
    refine .rx ?_
    refine .rx ?_
    refine .rx ?_
    refine .done (.rn ?_)
    refine ⟨q + 1, c22,zz5,(.mk [] [] zz14 zz15 rfl rfl rfl)⟩
   ·try rw [c26]
    try simp at c26
    rw [c26, Bool.false_and] at hS
    refine .un rfl rfl (by decide) ?_
    refine .un rfl rfl (by decide) ?_
    refine .un rfl rfl (by decide) ?_
    refine .un rfl rfl (by decide) ?_
    refine .un rfl rfl (by decide) ?_
    refine .un rfl rfl (by decide) ?_
    refine .un rfl rfl (by decide) ?_
    refine .un rfl rfl (by decide) ?_
    refine .un rfl rfl (by decide) ?_
    refine .un rfl rfl (by decide) ?_
    refine .un rfl rfl (by decide) ?_
    refine .un rfl rfl (by decide) ?_
    refine .un rfl rfl (by decide) ?_
    refine .ckU rfl rfl rfl ?_
    refine .ckU rfl rfl rfl ?_
    refine .un rfl rfl (by decide) ?_
    refine .un rfl rfl (by decide) ?_
    refine .ckU rfl rfl rfl ?_
    refine .un rfl rfl (by decide) ?_
    refine .un rfl rfl (by decide) ?_
    refine .rx ?_
    refine .rx ?_
    refine .done (.rn ?_)
    refine ⟨q + 1, c22,zz5,(.mk [] [] zz14 zz15 rfl rfl rfl)⟩
  ·try simp at c22
   have hqn : q = (modR s s[c]).length := by omega
   subst hqn
   have hall := leB_all s s[c] (modR s s[c])[i]
   refine .exit (.seq (.rn ?_))
   refine .condS rfl (fun c45 => ?_) (fun c45 => ?_)
   ·try simp at c45
    rw [if_pos c45] at hT
    refine .rn ?_
    refine .rn ?_
    refine ⟨i + 1, c16,zz5,(.mk [] [(1,3)] zz14 zz15 rfl rfl rfl)⟩
   ·try simp at c45
    rw [if_neg (by simp [c45])] at hT
    refine .skip (.rn ?_)
    refine ⟨i + 1, c16,zz5,(.mk [] [] zz14 zz15 rfl rfl rfl)⟩
 ·try simp at c16
  have hin : i = (modR s s[c]).length := by omega
  subst hin
  refine .exit (.seq (.rn ?_))
  refine .ret ?_
  refine ⟨_, _, zz4,zz4, ?_⟩
  first | rfl | (simp [*]; done) | (simp_all; done)
theorem p110 (s : List Wit) (ok : OkS s) : VPure Tryz.prog 110 [encS s] fun r => r = .bool (s.any fun w => decide (modR s w = [])) := by
 have hl24 := ok.len
 refine .of_body Tryz.func110 rfl rfl ?_
 refine .seq (.rn ?_)
 refine .seq (.seq (.rn ?_))
 refine .block ?_
 refine .loopS (fun i : Nat => ([(1, .ptr 0 0),(3, .int .i64 i)], ⟨1,[(0, .box [.vec (s.map encW)])]⟩)) (fun i => i ≤ s.length ∧ ∀ w ∈ s.take i, modR s w ≠ []) (fun i => s.length - i) 0 (by simp) (.mk [] [] zz14 zz15 rfl rfl rfl) ?_
 rintro i ⟨hi, hne⟩
 simp only at hi hne ⊢
 refine .seq (.seq (.rn ?_))
 refine .condS rfl (fun c8 => ?_) (fun c8 => ?_)
 ·try simp at c8
  have hwr := wr1 i
  refine .skip (.seq (.block (.seq ?_)))
  refine .regionL [0,1,2,3,4] rfl zz0 ?_
  refine .rn [0,1] [2,3,4] ?_
  refine .pc rfl rfl rfl rfl rfl Tryz.call107 (p107 s i c8 ok) ?_
  refine .rn [3,4] [] ?_
  refine .done ?_
  refine .condS rfl (fun c15 => ?_) (fun c15 => ?_)
  ·try simp at c15
   refine .seq (.rn ?_)
   refine .ret ?_
   refine ⟨_, _, zz4,zz4, ?_⟩
   have e : (s.any fun w => decide (modR s w = [])) = true := List.any_eq_true.2 ⟨s[i], List.getElem_mem c8, by simpa using c15⟩
   rw [e]
  ·try simp at c15
   refine .skip (.rn ?_)
   refine ⟨i + 1, ⟨c8, ?_⟩, zz5,(.mk [] [] zz14 zz15 rfl rfl rfl)⟩
   intro w hw
   rw [List.take_succ_eq_append_getElem c8] at hw
   rcases List.mem_append.1 hw with hw | hw
   ·exact hne w hw
   ·rw [List.mem_singleton] at hw
    rw [hw]; exact c15
 ·try simp at c8
  have hin : i = s.length := by omega
  subst hin
  rw [List.take_length] at hne
  refine .exit (.seq (.rn ?_))
  refine .ret ?_
  refine ⟨_, _, zz4,zz4, ?_⟩
  have e : (s.any fun w => decide (modR s w = [])) = false := by
   rw [List.any_eq_false]
   intro w hw
   simpa using hne w hw
  rw [e]
end Go.Am.Ds
end
section
namespace Go.Am.Ds
open Go Go.Am Go.Proofs
set_option maxHeartbeats 4000000
set_option linter.unusedSimpArgs false
set_option linter.unusedVariables false
attribute [local simp] vrun vwanted vyielded vop veval vevals vparts vO vbuiltin vlen vappend velems vcopy vmakeSlice vbuildSlice valloc vbox vmakeMap vload vpartT vpart vstore vfieldAddr vfield vindexAddr vindex vextract vslice vsliceZ vbounds vbnd zeroO vidx vlookup vmget vmapUpdate vdelete vnilq vnilp vnils vbin vsc vsc1 vscs vscl abinOp aint ashift aunOp aconvert amaxs amax2 pvcV pvc pvcs tput tget vargs VHeap.get VHeap.alloc VHeap.put VHeap.drop VHeap.empty vlook vput vdrop psplice pfill preps chunk List.range List.range.loop vresults vresult vresultV frz frzL PV.isF PV.allF PV.scal PV.allS retP subT allFT PV.one PV.ids PV.idsL dropL beq_eq ble_dec blt_dec
set_option maxRecDepth 100000
attribute [local simp] zW tup2
def kinE : KinR → Int
 | .err e => e
 | _ => 0
def kinE_err {s : List Wit} {a b : Int} (h : checkS s ≠ 0) : kinE (kinR s a b) = checkS s := by unfold kinR; rw [if_neg h]; rfl
theorem kinE_n {s : List Wit} {a b : Int} (h : checkS s = 0) (h2 : getW s a = none) : kinE (kinR s a b) = 5 := by unfold kinR; rw [if_pos h, h2]; rfl
theorem kinE_nn {s : List Wit} {a b : Int} {c : Wit} (h : checkS s = 0) (h2 : getW s a = some c) (hb : b ≠ 0) (h3 : getW s b = none) : kinE (kinR s a b) = 5 := by unfold kinR; rw [if_pos h, h2]; simp only; rw [if_neg hb, h3]; rfl
theorem kinE_s {s : List Wit} {a b : Int} {c p : Wit} (h : checkS s = 0) (h2 : getW s a = some c) (hb : b ≠ 0) (h3 : getW s b = some p) : kinE (kinR s a b) = 0 := by unfold kinR; rw [if_pos h, h2]; simp only; rw [if_neg hb, h3]; rfl
theorem kinE_t {s : List Wit} {a b : Int} {c : Wit} (h : checkS s = 0) (h2 : getW s a = some c) (hb : b = 0) : kinE (kinR s a b) = 0 := by unfold kinR; rw [if_pos h, h2]; simp only; rw [if_pos hb]; rfl
theorem p102 (s : List Wit) (a b : Int) (hl : s.length < 4294967296) (hli : ∀ w ∈ s, w.slips.length < 4294967296 ∧ w.mended.length < 4294967296 ∧ w.models.length < 4294967296) : VPure Tryz.prog 102 [encS s, .agg [.int .i64 a, .int .i64 b]] fun r => r = .int .i64 (kinE (kinR s a b)) := by
 refine .of_body Tryz.func102 rfl rfl ?_
 refine .seq (.rn ?_)
 refine .seq ?_
 refine .regionL [0,1,2] rfl zz0 ?_
 refine .rn [0] [1,2] ?_
 refine .pc rfl rfl rfl rfl rfl Tryz.call52 (p52 s hl hli) ?_
 refine .rn [2] [] ?_
 refine .done (.seq (.seq (.rn ?_)))
 refine .condS rfl (fun c9 => ?_) (fun c9 => ?_)
 ·try simp at c9
  refine .seq (.rn ?_)
  refine .ret ?_
  refine ⟨_, _, zz4,zz4, ?_⟩
  rw [kinE_err c9]
 ·try simp at c9
  refine .skip (.seq (.seq ?_))
  refine .regionL [0,1,2,3,4,5,6,7,8,9,10,11,12,13,14,15,16] rfl zz0 ?_
  refine .rn [0,1,2] [3,4,5,6,7,8,9,10,11,12,13,14,15,16] ?_
  refine .pc rfl rfl rfl rfl rfl Tryz.call104 (p104 s a hl) ?_
  refine .rn [4,5] [6,7,8,9,10,11,12,13,14,15,16] ?_
  refine .split (t := 16) rfl (fun c16 => ?_) (fun c16 => ?_)
  ·try rw [c16]
   try simp at c16
   have hn := getW_none c16
   refine .rn [6,7,8,9,10,11,12,13,14,15,16] [] ?_
   refine .done (.condT rfl (.seq (.rn ?_)))
   refine .ret ?_
   refine ⟨_, _, zz4,zz4, ?_⟩
   rw [kinE_n c9 hn]
  ·try rw [c16]
   try simp at c16
   obtain ⟨i, hi, hie, hga⟩ := getW_some c16
   refine .rn [6,7,8,9] [10,11,12,13,14,15,16] ?_
   refine .split (t := 20) rfl (fun c20 => ?_) (fun c20 => ?_)
   ·try rw [c20]
    try simp at c20
    refine .rn [10,11,12] [13,14,15,16] ?_
    refine .pc rfl rfl rfl rfl rfl Tryz.call104 (p104 s b hl) ?_
    refine .rn [14,15,16] [] ?_
    refine .done ?_
    refine .condS rfl (fun c27 => ?_) (fun c27 => ?_)
    ·try simp at c27
     have hn := getW_none c27
     refine .seq (.rn ?_)
     refine .ret ?_
     refine ⟨_, _, zz4,zz4, ?_⟩
     rw [kinE_nn c9 hga c20 hn]
    ·try simp at c27
     obtain ⟨j, hj, hje, hgb⟩ := getW_some c27
     refine .skip (.seq (.rn ?_))
     refine .ret ?_
     refine ⟨_, _, zz4,zz4, ?_⟩
     rw [kinE_s c9 hga c20 hgb]
   ·try rw [c20]
    try simp at c20
    refine .rn [10,11,12,13,14,15,16] [] ?_
    refine .done (.condF rfl (.skip (.seq (.rn ?_))))
    refine .ret ?_
    refine ⟨_, _, zz4,zz4, ?_⟩
    rw [kinE_t c9 hga c20]
theorem frS_len (s : List Wit) (c : Wit) (b : Int) : (frS s c b).length ≤ c.slips.length := by
 unfold frS
 split
 ·exact Nat.le_refl _
 ·exact List.length_filter_le _ _
end Go.Am.Ds
end
section
namespace Go.Am.Ds
open Go Go.Am Go.Proofs
set_option maxRecDepth 100000
set_option maxHeartbeats 4000000
set_option linter.unusedSimpArgs false
set_option linter.unusedVariables false
attribute [local simp] vrun vwanted vyielded vop vopA vputAll VHeap.back hidI hidF backL bm Nat.testBit_eq_decide_div_mod_eq veval vevals vparts vO vbuiltin vlen vappend velems vcopy vmakeSlice vbuildSlice valloc vbox vmakeMap vload vpartT vpart vstore vfieldAddr vfield vindexAddr vindex vextract vslice vsliceZ vbounds vbnd zeroO vidx vlookup vmget vmapUpdate vdelete vclear vnilq vnilp vnils vbin vsc vsc1 vscs vscl abinOp aint ashift aunOp aconvert amaxs amax2 pvcV pvc pvcs tput tget vargs VHeap.get VHeap.alloc VHeap.put VHeap.drop VHeap.empty vlook vput vdrop psplice pfill preps chunk List.range List.range.loop vresults vresult vresultV frz frzL PV.isF PV.allF PV.scal PV.allS retP subT allFT PV.one PV.ids PV.idsL dropL beq_eq ble_dec blt_dec
attribute [local simp] zW tup2
theorem p108' (s : List Wit) (hl : s.length < 4294967296) : VPure Tryz.prog 108 [encS s] fun r => r = .tup [.vec ((chL s).map encC), .int .i64 (chE s)] := VPure.soft (p108 s hl) rfl
end Go.Am.Ds
end
section
namespace Go.Am.Ds
open Go Go.Am Go.Proofs
theorem checkL_nodup : ∀ {l : List Wit} {seen : List Int}, checkL l seen = 0 → (l.map Wit.id).Nodup ∧ ∀ w ∈ l, w.id ∉ seen
 | [], _, _ => ⟨.nil, fun w hw => by cases hw⟩
 | a :: r, seen, h => by
  simp only [checkL] at h
  split at h
  ·split at h
   ·simp at h
   ·rename_i hn
    obtain ⟨h1, h2⟩ := checkL_nodup h
    refine ⟨?_, fun w hw => ?_⟩
    ·rw [List.map_cons, List.nodup_cons]
     refine ⟨fun hm => ?_, h1⟩
     obtain ⟨w, hw, he⟩ := List.mem_map.1 hm
     exact h2 w hw ((mem_insU _ _ _).2 (.inr he))
    ·rcases List.mem_cons.1 hw with rfl | hw
     ·exact hn
     ·exact fun hs => h2 w hw ((mem_insU _ _ _).2 (.inl hs))
  ·rename_i h0; exact absurd h h0
theorem checkS_nodup {s : List Wit} (h : checkS s = 0) : (s.map Wit.id).Nodup := by
 unfold checkS at h
 split at h
 ·simp at h
 ·exact (checkL_nodup h).1
theorem checkS_pos {s : List Wit} (h : checkS s = 0) : ∀ w ∈ s, 0 < w.id := fun w hw => by
 have := (checkS_ok h).2 w hw
 unfold witE at this
 split at this
 ·cases this
 ·omega
theorem strict_eq : ∀ {l m : List Int}, l.Pairwise (· < ·) → m.Pairwise (· < ·) → (∀ x, x ∈ l ↔ x ∈ m) → l = m
 | [],[], _, _, _ => rfl
 | [], b :: s, _, _, h => absurd ((h b).2 List.mem_cons_self) (by simp)
 | a :: r, [], _, _, h => absurd ((h a).1 List.mem_cons_self) (by simp)
 | a :: r, b :: s, hl, hm, h => by
  rw [List.pairwise_cons] at hl hm
  have h1 : a = b := by
   rcases List.mem_cons.1 ((h a).1 List.mem_cons_self) with h1 | h1
   ·exact h1
   ·rcases List.mem_cons.1 ((h b).2 List.mem_cons_self) with h2 | h2
    ·exact h2.symm
    ·have := hl.1 b h2
     have := hm.1 a h1
     omega
  subst h1
  rw [strict_eq hl.2 hm.2 fun x => ⟨fun hx => ?_, fun hx => ?_⟩]
  ·rcases List.mem_cons.1 ((h x).1 (List.mem_cons_of_mem _ hx)) with rfl | h2
   ·have := hl.1 x hx; omega
   ·exact h2
  ·rcases List.mem_cons.1 ((h x).2 (List.mem_cons_of_mem _ hx)) with rfl | h2
   ·have := hm.1 x hx; omega
   ·exact h2
theorem lowN_spec (n : Int) : ∀ (l : List Int), l.Pairwise (· < ·) → (∀ x ∈ l.take (lowN l n), x < n) ∧ (∀ x ∈ l.drop (lowN l n), n ≤ x)
 | [], _ => ⟨fun x hx => by simp [lowN] at hx, fun x hx => by simp at hx⟩
 | a :: r, h => by
  rw [List.pairwise_cons] at h
  obtain ⟨h1, h2⟩ := lowN_spec n r h.2
  simp only [lowN]
  by_cases ha : a < n
  ·rw [if_pos ha]
   refine ⟨fun x hx => ?_, fun x hx => ?_⟩
   ·rw [List.take_succ_cons] at hx
    rcases List.mem_cons.1 hx with rfl | hx
    ·exact ha
    ·exact h1 x hx
   ·rw [List.drop_succ_cons] at hx; exact h2 x hx
  ·rw [if_neg ha]
   refine ⟨fun x hx => by simp at hx, fun x hx => ?_⟩
   rw [List.drop_zero] at hx
   rcases List.mem_cons.1 hx with rfl | hx
   ·omega
   ·have := h.1 x hx; omega
theorem putS_mem {l : List Int} {n m : Int} : m ∈ putS l n ↔ m ∈ l ∨ m = n := by
 refine ⟨mem_putS, fun h => ?_⟩
 unfold putS
 split
 ·rename_i hg
  rcases h with h | h
  ·exact h
  ·rw [h]; exact List.mem_of_getElem? hg
 ·rcases h with h | h
  ·rw [← List.take_append_drop (lowN l n) l] at h
   rcases List.mem_append.1 h with h | h
   ·exact List.mem_append_left _ (List.mem_append_left _ h)
   ·exact List.mem_append_right _ h
  ·exact List.mem_append_left _ (List.mem_append_right _ (by simp [h]))
theorem putS_sorted {l : List Int} {n : Int} (h : l.Pairwise (· < ·)) : (putS l n).Pairwise (· < ·) := by
 unfold putS
 split
 ·exact h
 ·rename_i hg
  obtain ⟨h1, h2⟩ := lowN_spec n l h
  have h3 : ∀ x ∈ l.drop (lowN l n), n < x := fun x hx => by
   have h4 := h2 x hx
   rcases Int.lt_or_eq_of_le h4 with h5 | h5
   ·exact h5
   ·exfalso
    cases hd : l.drop (lowN l n) with
    | nil => rw [hd] at hx; cases hx
    | cons b r =>
     have hb : l[lowN l n]? = some b := by
      have := congrArg (·[0]?) hd
      simpa using this
     rw [hd] at hx h2
     have hbn := h2 b List.mem_cons_self
     have hs : (b :: r).Pairwise (· < ·) := hd ▸ h.sublist (List.drop_sublist _ _)
     rw [List.pairwise_cons] at hs
     rcases List.mem_cons.1 hx with h6 | h6
     ·exact hg (by rw [hb, ← h6, h5])
     ·have := hs.1 x h6; omega
  have ht := h.sublist (List.take_sublist (lowN l n) l)
  have hd := h.sublist (List.drop_sublist (lowN l n) l)
  rw [List.pairwise_append, List.pairwise_append]
  refine ⟨⟨ht, by simp, fun a ha b hb => ?_⟩, hd, fun a ha b hb => ?_⟩
  ·rw [List.mem_singleton] at hb; rw [hb]; exact h1 a ha
  ·have hb' := h3 b hb
   rcases List.mem_append.1 ha with ha | ha
   ·have := h1 a ha; omega
   ·rw [List.mem_singleton] at ha; omega
theorem idsS_sorted {s : List Wit} (h : (s.map Wit.id).Nodup) : (idsS s).Pairwise (· < ·) := by
 unfold idsS
 have h1 := List.pairwise_mergeSort (le := fun x y : Int => decide (x ≤ y)) (fun a b c h1 h2 => by simp only [decide_eq_true_eq] at *; omega) (fun a b => by simp only [Bool.or_eq_true, decide_eq_true_eq]; omega) (s.map Wit.id)
 have h2 : ((s.map Wit.id).mergeSort fun x y => decide (x ≤ y)).Nodup := (List.mergeSort_perm _ _).nodup_iff.2 h
 have h3 := h1.and h2
 exact h3.imp fun ⟨h4, h5⟩ => by
  simp only [decide_eq_true_eq] at h4
  rcases Int.lt_or_eq_of_le h4 with h6 | h6
  ·exact h6
  ·exact absurd h6 h5
theorem modR_mem {s : List Wit} {c : Wit} {b : Int} : b ∈ modR s c ↔ (b = 0 ∧ lastS c 0 = 0) ∨ ∃ w ∈ s, w.id = b ∧ (whyP c (atI s w.id w)).1 = 0 := by
 have : ∀ (l : List Wit) (a : List Int), b ∈ l.foldl (stepR s c) a ↔ b ∈ a ∨ ∃ w ∈ l, w.id = b ∧ (whyP c (atI s w.id w)).1 = 0 := by
  intro l
  induction l with
  | nil => intro a; simp
  | cons w r ih =>
   intro a
   rw [List.foldl_cons, ih]
   have h1 : b ∈ stepR s c a w ↔ b ∈ a ∨ (w.id = b ∧ (whyP c (atI s w.id w)).1 = 0) := by
    unfold stepR
    split
    ·rename_i h
     rw [putS_mem]
     exact ⟨fun h2 => h2.imp_right fun h3 => ⟨h3.symm, h⟩, fun h2 => h2.imp_right fun h3 => h3.1.symm⟩
    ·rename_i h
     exact ⟨.inl, fun h2 => h2.elim id fun h3 => absurd h3.2 h⟩
   rw [h1]
   constructor
   ·rintro ((h | h) | ⟨u, h2, h3⟩)
    ·exact .inl h
    ·exact .inr ⟨w, List.mem_cons_self, h⟩
    ·exact .inr ⟨u, List.mem_cons_of_mem _ h2, h3⟩
   ·rintro (h | ⟨u, h2, h3⟩)
    ·exact .inl (.inl h)
    ·rcases List.mem_cons.1 h2 with rfl | h2
     ·exact .inl (.inr h3)
     ·exact .inr ⟨u, h2, h3⟩
 unfold modR
 rw [this]
 have h0 : b ∈ (if lastS c 0 = 0 then [0] else ([] : List Int)) ↔ b = 0 ∧ lastS c 0 = 0 := by
  split
  ·rename_i h; simp [h]
  ·rename_i h; simp [h]
 rw [h0]
theorem modR_sorted (s : List Wit) (c : Wit) : (modR s c).Pairwise (· < ·) := by
 have : ∀ (l : List Wit) (a : List Int), a.Pairwise (· < ·) → (l.foldl (stepR s c) a).Pairwise (· < ·) := by
  intro l
  induction l with
  | nil => intro a h; exact h
  | cons w r ih =>
   intro a h
   refine ih _ ?_
   unfold stepR
   split
   ·exact putS_sorted h
   ·exact h
 refine this s _ ?_
 split <;> simp
theorem stepP_some {s : List Wit} {c : Wit} {id : Int} {y : Int × Int} : stepP s c id = some y ↔ ∃ p, getW s id = some p ∧ (whyP c p).1 = 0 ∧ y = (id, ((ariS c p).length : Int)) := by
 unfold stepP
 cases hg : getW s id with
 | none => simp
 | some p =>
  simp only
  by_cases h : (whyP c p).1 = 0
  ·rw [if_pos h]
   constructor
   ·intro h2; injection h2 with h2; exact ⟨p, rfl, h, h2.symm⟩
   ·rintro ⟨q, h2, _, h3⟩; injection h2 with h2; subst h2; rw [h3]
  ·rw [if_neg h]
   constructor
   ·intro h2; cases h2
   ·rintro ⟨q, h2, h3, _⟩; injection h2 with h2; subst h2; exact absurd h3 h
theorem parS_mem {s : List Wit} {c : Wit} {y : Int × Int} : y ∈ parS s c ↔ (y = (0,(c.slips.length : Int)) ∧ lastS c 0 = 0) ∨ ∃ p, y.1 ∈ idsS s ∧ getW s y.1 = some p ∧ (whyP c p).1 = 0 ∧ y.2 = ((ariS c p).length : Int) := by
 unfold parS
 rw [List.mem_append, List.mem_filterMap]
 have h0 : y ∈ headP c ↔ y = (0,(c.slips.length : Int)) ∧ lastS c 0 = 0 := by
  unfold headP
  split
  ·rename_i h; simp [h]
  ·rename_i h; simp [h]
 rw [h0]
 constructor
 ·rintro (h | ⟨id, h1, h2⟩)
  ·exact .inl h
  ·obtain ⟨p, h3, h4, h5⟩ := stepP_some.1 h2
   subst h5
   exact .inr ⟨p, h1, h3, h4, rfl⟩
 ·rintro (h | ⟨p, h1, h2, h3, h4⟩)
  ·exact .inl h
  ·exact .inr ⟨y.1, h1, stepP_some.2 ⟨p, h2, h3, Prod.ext rfl h4⟩⟩
theorem fst_sorted {f : Int → Option (Int × Int)} (hf : ∀ x y, f x = some y → y.1 = x) : ∀ {l : List Int}, l.Pairwise (· < ·) → ((l.filterMap f).map (·.1)).Pairwise (· < ·)
 | [], _ => .nil
 | a :: r, h => by
  rw [List.pairwise_cons] at h
  rw [List.filterMap_cons]
  cases hfa : f a with
  | none => exact fst_sorted hf h.2
  | some y =>
   simp only [List.map_cons, List.pairwise_cons]
   refine ⟨fun b hb => ?_, fst_sorted hf h.2⟩
   obtain ⟨z, hz, rfl⟩ := List.mem_map.1 hb
   obtain ⟨x, hx, h2⟩ := List.mem_filterMap.1 hz
   rw [hf a y hfa, hf x z h2]
   exact h.1 x hx
theorem models_eq {s : List Wit} (h : checkS s = 0) (c : Wit) : (parS s c).map (·.1) = modR s c := by
 refine strict_eq ?_ (modR_sorted s c) fun b => ?_
 ·have h1 : (((idsS s).filterMap (stepP s c)).map (·.1)).Pairwise (· < ·) := fst_sorted (fun x y hxy => by obtain ⟨p, _, _, rfl⟩ := stepP_some.1 hxy; rfl) (idsS_sorted (checkS_nodup h))
  unfold parS headP
  split
  ·simp only [List.singleton_append, List.map_cons, List.pairwise_cons]
   refine ⟨fun b hb => ?_, h1⟩
   obtain ⟨z, hz, rfl⟩ := List.mem_map.1 hb
   obtain ⟨x, hx, h2⟩ := List.mem_filterMap.1 hz
   obtain ⟨p, _, _, rfl⟩ := stepP_some.1 h2
   obtain ⟨w, hw, rfl⟩ := idsS_mem.1 hx
   exact checkS_pos h w hw
  ·simpa using h1
 ·rw [modR_mem, List.mem_map]
  constructor
  ·rintro ⟨y, hy, rfl⟩
   rcases parS_mem.1 hy with ⟨rfl, h2⟩ | ⟨p, h1, h2, h3, _⟩
   ·exact .inl ⟨rfl, h2⟩
   ·obtain ⟨hp, hpi⟩ := getW_mem h2
    refine .inr ⟨p, hp, hpi, ?_⟩
    rw [atI, hpi, h2]; exact h3
  ·rintro (⟨rfl, h2⟩ | ⟨w, hw, rfl, h3⟩)
   ·exact ⟨(0,(c.slips.length : Int)), parS_mem.2 (.inl ⟨rfl, h2⟩), rfl⟩
   ·have hm : w.id ∈ idsS s := idsS_mem.2 ⟨w, hw, rfl⟩
    obtain ⟨j, h4, h5, h6⟩ := getW_some (find_ids hm)
    rw [atI, h6, Option.getD_some] at h3
    exact ⟨(w.id, ((ariS c s[j]).length : Int)), parS_mem.2 (.inr ⟨s[j], hm, h6, h3, rfl⟩), rfl⟩
theorem fold_spec : ∀ (l : List (Int × Int)) (d : List (Int × Int)) (x : List Int × Int),(d = [] ∧ x.1 = [] ∨ x.1 ≠ [] ∧ (∀ y ∈ d, x.2 ≤ y.2) ∧ ∃ y ∈ d, y.2 = x.2) →
  (d ++ l = [] ∧ (l.foldl stepC x).1 = [] ∨ (l.foldl stepC x).1 ≠ [] ∧ (∀ y ∈ d ++ l, (l.foldl stepC x).2 ≤ y.2) ∧ ∃ y ∈ d ++ l, y.2 = (l.foldl stepC x).2)
 | [], d, x, h => by simpa using h
 | y :: r, d, x, h => by
  have ih := fold_spec r (d ++ [y]) (stepC x y) (.inr (by
   unfold stepC
   split
   ·rename_i h1
    rcases h with ⟨_, h2⟩ | ⟨h2, h3, z, h4, h5⟩
    ·exact absurd h2 h1.1
    ·refine ⟨h2, fun w hw => ?_, z, List.mem_append_left _ h4, h5⟩
     rcases List.mem_append.1 hw with hw | hw
     ·exact h3 w hw
     ·rw [List.mem_singleton] at hw; rw [hw]; omega
   ·rename_i h1
    split
    ·rename_i h2
     refine ⟨by simp, fun w hw => ?_, y, by simp, rfl⟩
     rcases List.mem_append.1 hw with hw | hw
     ·rcases h with ⟨h3, _⟩ | ⟨h3, h4, _⟩
      ·rw [h3] at hw; cases hw
      ·rcases h2 with h2 | h2
       ·exact absurd h2 h3
       ·have := h4 w hw; simp only; omega
     ·rw [List.mem_singleton] at hw; rw [hw]; exact Int.le_refl _
    ·rename_i h2
     have h3 : x.1 ≠ [] := fun h4 => h2 (.inl h4)
     have h4 : ¬ y.2 < x.2 := fun h4 => h2 (.inr h4)
     have h5 : ¬ x.2 < y.2 := fun h5 => h1 ⟨h3, h5⟩
     rcases h with ⟨_, h6⟩ | ⟨_, h7, z, h8, h9⟩
     ·exact absurd h6 h3
     ·refine ⟨by simp, fun w hw => ?_, z, List.mem_append_left _ h8, h9⟩
      rcases List.mem_append.1 hw with hw | hw
      ·exact h7 w hw
      ·rw [List.mem_singleton] at hw; rw [hw]; simp only; omega))
  rw [List.append_assoc, List.singleton_append] at ih
  rw [List.foldl_cons]
  exact ih
theorem choF_spec (s : List Wit) (c : Wit) : (parS s c = [] ∧ (choF s c).1 = []) ∨ ((choF s c).1 ≠ [] ∧ (∀ y ∈ parS s c, (choF s c).2 ≤ y.2) ∧ ∃ y ∈ parS s c, y.2 = (choF s c).2) := by
 have := fold_spec (parS s c) [] ([],0) (.inl ⟨rfl, rfl⟩)
 simpa [choF] using this
theorem choF_nil {s : List Wit} (h : checkS s = 0) (c : Wit) : (choF s c).1 = [] ↔ modR s c = [] := by
 rw [← models_eq h c, List.map_eq_nil_iff]
 rcases choF_spec s c with ⟨h1, h2⟩ | ⟨h1, _, y, h2, _⟩
 ·simp [h1, h2]
 ·exact ⟨fun h3 => absurd h3 h1, fun h3 => by rw [h3] at h2; cases h2⟩
theorem parS_fr {s : List Wit} (h : checkS s = 0) {c : Wit} {y : Int × Int} (hy : y ∈ parS s c) : y.2 = ((frS s c y.1).length : Int) := by
 rcases parS_mem.1 hy with ⟨rfl, _⟩ | ⟨p, h1, h2, _, h4⟩
 ·simp [frS]
 ·obtain ⟨hp, hpi⟩ := getW_mem h2
  have h0 : y.1 ≠ 0 := by have := checkS_pos h p hp; omega
  rw [h4, frS, if_neg h0, atI, h2]; rfl
theorem chE_eq {s : List Wit} (h : checkS s = 0) : chE s = if ∃ w ∈ s, modR s w = [] then 9 else 0 := by
 unfold chE
 rw [if_pos h]
 have : (∃ c ∈ s, (choF s c).1 = []) ↔ ∃ w ∈ s, modR s w = [] := ⟨fun ⟨w, h1, h2⟩ => ⟨w, h1,(choF_nil h w).1 h2⟩, fun ⟨w, h1, h2⟩ => ⟨w, h1,(choF_nil h w).2 h2⟩⟩
 by_cases h2 : ∃ w ∈ s, modR s w = []
 ·rw [if_pos h2, if_pos (this.2 h2)]
 ·rw [if_neg h2, if_neg (fun h3 => h2 (this.1 h3))]
end Go.Am.Ds
end
section
namespace Go.Am.Ds
open Go Go.Am Go.Proofs
set_option maxRecDepth 100000
set_option maxHeartbeats 4000000
set_option linter.unusedSimpArgs false
set_option linter.unusedVariables false
attribute [local simp] vrun vwanted vyielded vop vopA vputAll VHeap.back hidI hidF backL bm Nat.testBit_eq_decide_div_mod_eq veval vevals vparts vO vbuiltin vlen vappend velems vcopy vmakeSlice vbuildSlice valloc vbox vmakeMap vload vpartT vpart vstore vfieldAddr vfield vindexAddr vindex vextract vslice vsliceZ vbounds vbnd zeroO vidx vlookup vmget vmapUpdate vdelete vclear vnilq vnilp vnils vbin vsc vsc1 vscs vscl abinOp aint ashift aunOp aconvert amaxs amax2 pvcV pvc pvcs tput tget vargs VHeap.get VHeap.alloc VHeap.put VHeap.drop VHeap.empty vlook vput vdrop psplice pfill preps chunk List.range List.range.loop vresults vresult vresultV frz frzL PV.isF PV.allF PV.scal PV.allS retP subT allFT PV.one PV.ids PV.idsL dropL beq_eq ble_dec blt_dec
def parR (s : List Wit) (id : Int) : PV := match getW s id with
 | some p => .vp (encW p).cells
 | none => .ptr0
theorem parR_none {s : List Wit} {id : Int} (h : getW s id = none) : parR s id = .ptr0 := by unfold parR; rw [h]
theorem parR_some {s : List Wit} {id : Int} {p : Wit} (h : getW s id = some p) : parR s id = .vp (encW p).cells := by unfold parR; rw [h]
def stepD (s : List Wit) (c : Wit) (id : Int) : Option Int := match getW s id with
 | none => if id = 0 ∧ lastS c 0 = 0 then some (c.slips.length : Int) else none
 | some p => if (whyP c p).1 = 0 then some ((ariS c p).length : Int) else none
def desL (s : List Wit) (l : List Int) : List (Option Int) := (s.zip l).map fun x => stepD s x.1 x.2
def desP (s : List Wit) (l : List Int) (k : Nat) : Int := (((desL s l).take k).map (·.getD 0)).sum
def desR (s : List Wit) (l : List Int) : Int × Bool := if l.length = s.length ∧ (desL s l).all Option.isSome = true then (desP s l s.length, true) else (0, false)
theorem desL_get (s : List Wit) (l : List Int) (k : Nat) (h : k < s.length) (h2 : k < l.length) : ∃ h3 : k < (desL s l).length, (desL s l)[k] = stepD s s[k] l[k] := by
 refine ⟨by simp [desL]; omega, by simp [desL]⟩
theorem desP_succ (s : List Wit) (l : List Int) (k : Nat) (h : k < s.length) (h2 : k < l.length) : desP s l (k + 1) = desP s l k + (stepD s s[k] l[k]).getD 0 := by
 obtain ⟨h3, h4⟩ := desL_get s l k h h2
 unfold desP
 rw [List.take_succ_eq_append_getElem h3, h4]; simp
theorem desA_succ (s : List Wit) (l : List Int) (k : Nat) (h : k < s.length) (h2 : k < l.length) : ((desL s l).take (k + 1)).all Option.isSome = (((desL s l).take k).all Option.isSome && (stepD s s[k] l[k]).isSome) := by
 obtain ⟨h3, h4⟩ := desL_get s l k h h2
 rw [take_succ_all _ _ _ h3, h4]
theorem ariS_len (c p : Wit) : (ariS c p).length ≤ c.slips.length := by unfold ariS; exact List.length_filter_le _ _
theorem stepD_bd (s : List Wit) (c : Wit) (id : Int) : 0 ≤ (stepD s c id).getD 0 ∧ (stepD s c id).getD 0 ≤ (c.slips.length : Int) := by
 unfold stepD
 cases getW s id with
 | none => simp only; split <;> simp
 | some p =>
  simp only; have := ariS_len c p
  split <;> simp <;> omega
theorem desP_bd (s : List Wit) (l : List Int) (hli : ∀ w ∈ s, w.slips.length < 4294967296 ∧ w.mended.length < 4294967296 ∧ w.models.length < 4294967296) (he : l.length = s.length) : ∀ k, k ≤ s.length → 0 ≤ desP s l k ∧ desP s l k ≤ (k : Int) * 4294967296
 | 0, _ => by simp [desP]
 | k + 1, h => by
  have h1 := desP_bd s l hli he k (by omega)
  rw [desP_succ s l k (by omega) (by omega)]
  have h2 := stepD_bd s s[k] l[k]
  have h3 := (hli s[k] (List.getElem_mem (by omega))).1
  constructor
  ·omega
  ·push_cast; omega
theorem desR_none {s : List Wit} {l : List Int} {k : Nat} (h : k < s.length) (h2 : k < l.length) (hN : stepD s s[k] l[k] = none) : desR s l = (0, false) := by
 obtain ⟨h3, h4⟩ := desL_get s l k h h2
 unfold desR
 rw [if_neg]
 rintro ⟨_, ha⟩
 have := List.all_eq_true.1 ha _ (List.getElem_mem h3)
 rw [h4, hN] at this; cases this
theorem p173 (s : List Wit) (id : Int) (hl : s.length < 4294967296) : VPure Tryz.prog 173 [encS s, .int .i64 id] fun r => r = parR s id := by
 refine .of_body Tryz.func173 rfl rfl ?_
 refine .seq (.rn ?_)
 refine .seq (.seq ?_)
 refine .regionL [0,1,2,3] rfl zz0 ?_
 refine .rn [0,1] [2,3] ?_
 refine .pc rfl rfl rfl rfl rfl Tryz.call105 (p105' s id hl) ?_
 refine .rn [3] [] ?_
 refine .done (.seq (.rn ?_))
 refine .condS rfl (fun c10 => ?_) (fun c10 => ?_)
 ·try simp at c10
  obtain ⟨i, hi, hie, hga⟩ := getW_some c10
  refine .seq (.rn ?_)
  refine .ret ?_
  refine ⟨_, _, zz4,zz4, ?_⟩
  rw [parR_some hga]; rfl
 ·try simp at c10
  have hn := getW_none (show findI s id < 0 by omega)
  refine .skip (.seq (.rn ?_))
  refine .ret ?_
  refine ⟨_, _, zz4,zz4, ?_⟩
  rw [parR_none hn]
theorem p132 (s : List Wit) (l : List Int) (hl : s.length < 65536) (hlL : l.length < 4611686018427387904) (hli : ∀ w ∈ s, w.slips.length < 4294967296 ∧ w.mended.length < 4294967296 ∧ w.models.length < 4294967296) : VPure Tryz.prog 132 [encS s, ints l] fun r => r = .tup [.int .i64 (desR s l).1, .bool (desR s l).2] := by
 refine .of_body Tryz.func132 rfl rfl ?_
 refine .seq (.rn ?_)
 refine .seq (.seq (.rn ?_))
 refine .condS rfl (fun c17 => ?_) (fun c17 => ?_)
 ·try simp at c17
  refine .seq (.rn ?_)
  refine .ret ?_
  refine ⟨_, _, zz4,zz4, ?_⟩
  rw [desR, if_neg (by rintro ⟨h, _⟩; omega)]
 ·try simp at c17
  have he : l.length = s.length := by omega
  refine .skip (.seq (.rn ?_))
  refine .seq (.seq (.rn ?_))
  refine .block ?_
  refine .loopS (fun k : Nat => ([(1, ints l),(2, .ptr 0 0),(6, .int .i64 (desP s l k)),(19, .vec (s.map encW)),(20, .int .i64 s.length),(21, .int .i64 k)], ⟨1,[(0, .box [.vec (s.map encW)])]⟩)) (fun k => k ≤ s.length ∧ ((desL s l).take k).all Option.isSome = true) (fun k => s.length - k) 0 (by simp) (.mk [] [] zz14 zz15 rfl rfl rfl) ?_
  rintro k ⟨hk, hal⟩
  simp only at hk hal ⊢
  refine .seq (.rn ?_)
  refine .seq ?_
  refine .condS rfl (fun c22 => ?_) (fun c22 => ?_)
  ·try simp at c22
   have hw2 := wr1 k
   have hkl : k < l.length := by omega
   obtain ⟨hw1, hw3, hw4⟩ := hli s[k] (List.getElem_mem c22)
   have hbd := desP_bd s l hli he k hk
   have hbd2 := stepD_bd s s[k] l[k]
   have hS := desP_succ s l k c22 hkl
   have hA := desA_succ s l k c22 hkl
   have hW3 : ∀ x : Int, 0 ≤ x → x ≤ 4294967296 → IntKind.i64.wrap (desP s l k + x) = desP s l k + x := fun x h1 h2 => wrap64 (by omega) (by omega)
   have hE := encW_e s[k]
   rcases hg : getW s l[k] with _ | p
   ·skip
    refine .skip (.seq (.block (.seq (.rn ?_))))
    refine .seq ?_
    refine .drawn (ms := [0,0,0,6,14,31,63]) (W := [5]) (items := [.op 0, .op 1, .op 2, .op 3, .op 4, .op 5, .op 6]) rfl zz0 zz0 zz0 ?_
    refine .rx ?_
    refine .rx ?_
    refine .rx ?_
    refine .rx ?_
    refine .rx ?_
    refine .wp rfl rfl rfl rfl rfl Tryz.call173 ((by have h := p173 s l[k] (by omega); rw [parR_none hg] at h; exact h)) ?_
    refine .rx ?_
    refine .done (.seq (.seq ?_))
    refine .regionL [0,1,2,3,4,5,6,7,8] rfl zz0 ?_
    refine .rn [0,1,2] [3,4,5,6,7,8] ?_
    refine .split (t := 34) rfl (fun c34 => ?_) (fun c34 => ?_)
    ·try rw [c34]
     try simp at c34
     refine .rn [3,4,5,6,7,8] [] ?_
     refine .done ?_
     refine .condS rfl (fun c40 => ?_) (fun c40 => ?_)
     ·try simp at c40
      have hN : stepD s s[k] l[k] = none := by simp only [stepD, hg]; rw [if_neg (fun h => c40 h.1)]
      refine .seq (.rn ?_)
      refine .ret ?_
      refine ⟨_, _, zz4,zz4, ?_⟩
      rw [desR_none c22 hkl hN]
     ·try simp at c40
      refine .skip (.seq (.seq ?_))
      refine .regionL [0,1,2,3,4,5,6,7] rfl zz0 ?_
      refine .rn [0,1] [2,3,4,5,6,7] ?_
      refine .pc rfl rfl rfl rfl rfl Tryz.call101 (p101a s[k] hw4) ?_
      refine .rn [3,4,5,6,7] [] ?_
      refine .done (.seq (.rn ?_))
      refine .condS rfl (fun c48 => ?_) (fun c48 => ?_)
      ·try simp at c48
       have hN : stepD s s[k] l[k] = none := by simp only [stepD, hg]; rw [if_neg (fun h => c48 h.2)]
       refine .seq (.rn ?_)
       refine .ret ?_
       refine ⟨_, _, zz4,zz4, ?_⟩
       rw [desR_none c22 hkl hN]
      ·try simp at c48
       have hN : stepD s s[k] l[k] = some (s[k].slips.length : Int) := by simp only [stepD, hg]; rw [if_pos ⟨c40, c48⟩]
       rw [hN] at hS hA
       simp only [Option.getD_some] at hS
       have hW4 := hW3 (s[k].slips.length : Int) (by omega) (by omega)
       refine .skip ?_
       refine .regionL [0,1,2,3,4,5,6] rfl zz0 ?_
       refine .rn [0,1,2] [3,4,5,6] ?_
       refine .pc rfl rfl rfl rfl rfl Tryz.call109 (p109a s[k]) ?_
       refine .rn [4,5,6] [] ?_
       refine .done (.rn ?_)
       refine ⟨k + 1, ⟨zz5, by rw [hA]; simpa using hal⟩, zz5,(.mk [] [] zz14 zz15 rfl rfl rfl)⟩
    ·try rw [c34]
     try simp at c34
   ·skip
    refine .skip (.seq (.block (.seq (.rn ?_))))
    refine .seq ?_
    refine .drawn (ms := [0,0,0,6,14,31,63]) (W := [5]) (items := [.op 0, .op 1, .op 2, .op 3, .op 4, .op 5, .op 6]) rfl zz0 zz0 zz0 ?_
    refine .rx ?_
    refine .rx ?_
    refine .rx ?_
    refine .rx ?_
    refine .rx ?_
    refine .wp rfl rfl rfl rfl rfl Tryz.call173 ((by have h := p173 s l[k] (by omega); rw [parR_some hg] at h; exact h)) ?_
    refine .rx ?_
    refine .done (.seq (.seq ?_))
    refine .regionL [0,1,2,3,4,5,6,7,8] rfl zz0 ?_
    refine .rn [0,1,2] [3,4,5,6,7,8] ?_
    refine .split (t := 34) rfl (fun c34 => ?_) (fun c34 => ?_)
    ·try rw [c34]
     try simp at c34
    ·try rw [c34]
     try simp at c34
     have hp := (getW_mem hg).1
     have hp1 := (hli p hp).1
     refine .rn [3,4,5,6,7,8] [] ?_
     refine .done (.condF rfl (.skip (.seq (.seq ?_))))
     refine .regionL [0,1,2,3,4,5,6,7] rfl zz0 ?_
     refine .rn [0,1] [2,3,4,5,6,7] ?_
     refine .pc rfl rfl rfl rfl rfl Tryz.call101 (p101b s[k] p hw1 hw3 hw4 hp1) ?_
     refine .rn [3,4,5,6,7] [] ?_
     refine .done (.seq (.rn ?_))
     refine .condS rfl (fun c48 => ?_) (fun c48 => ?_)
     ·try simp at c48
      have hN : stepD s s[k] l[k] = none := by simp only [stepD, hg]; rw [if_neg c48]
      refine .seq (.rn ?_)
      refine .ret ?_
      refine ⟨_, _, zz4,zz4, ?_⟩
      rw [desR_none c22 hkl hN]
     ·try simp at c48
      have hN : stepD s s[k] l[k] = some ((ariS s[k] p).length : Int) := by simp only [stepD, hg]; rw [if_pos c48]
      rw [hN] at hS hA
      simp only [Option.getD_some] at hS
      have har := ariS_len s[k] p
      have hW4 := hW3 ((ariS s[k] p).length : Int) (by omega) (by omega)
      refine .skip ?_
      refine .regionL [0,1,2,3,4,5,6] rfl zz0 ?_
      refine .rn [0,1,2] [3,4,5,6] ?_
      refine .pc rfl rfl rfl rfl rfl Tryz.call109 (p109 s[k] p hw1 hp1) ?_
      refine .rn [4,5,6] [] ?_
      refine .done (.rn ?_)
      refine ⟨k + 1, ⟨zz5, by rw [hA]; simpa using hal⟩, zz5,(.mk [] [] zz14 zz15 rfl rfl rfl)⟩
  ·try simp at c22
   have hk2 : k = s.length := by omega
   subst hk2
   refine .exit (.seq (.rn ?_))
   refine .ret ?_
   refine ⟨_, _, zz4,zz4, ?_⟩
   have hall : (desL s l).all Option.isSome = true := by
    rw [List.take_of_length_le (by simp [desL]; omega)] at hal
    simpa using hal
   rw [desR, if_pos ⟨he, hall⟩]
def bestP (s : List Wit) : List Int := (chL s).map fun c => c.1.headD 0
def bestS (s : List Wit) (k : Nat) : Int := (((chL s).take k).map (·.2)).sum
theorem chL_ok {s : List Wit} (h : chE s = 0) : chL s = s.map (choF s) := by unfold chL; rw [if_pos h]
theorem chE_ok {s : List Wit} (h : chE s = 0) : checkS s = 0 ∧ ∀ c ∈ s, (choF s c).1 ≠ [] := by
 unfold chE at h
 split at h
 ·split at h
  ·cases h
  ·rename_i h1 h2; exact ⟨h1, fun c hc h3 => h2 ⟨c, hc, h3⟩⟩
 ·contradiction
theorem choF_bd {s : List Wit} {c : Wit} (h : (choF s c).1 ≠ []) : 0 ≤ (choF s c).2 ∧ (choF s c).2 ≤ (c.slips.length : Int) := by
 rcases choF_spec s c with ⟨_, h1⟩ | ⟨_, _, y, hy, h2⟩
 ·exact absurd h1 h
 ·rcases parS_mem.1 hy with ⟨rfl, _⟩ | ⟨p, _, _, _, h4⟩
  ·simp only at h2; omega
  ·have := ariS_len c p; omega
theorem chL_get {s : List Wit} (h : chE s = 0) {k : Nat} (hk : k < (chL s).length) : ∃ a r d, (chL s)[k] = (a :: r, d) ∧ 0 ≤ d ∧ d < 4294967296 := by
 obtain ⟨h1, h2⟩ := chE_ok h
 have aux : ∀ x ∈ chL s, ∃ c ∈ s, choF s c = x := fun x hx => by rw [chL_ok h] at hx; exact List.mem_map.1 hx
 obtain ⟨c, hc, he⟩ := aux _ (List.getElem_mem hk)
 have h3 := h2 c hc
 have h4 := choF_bd h3
 have h5 := (checkS_lens h1 c hc).1
 cases h6 : (choF s c).1 with
 | nil => exact absurd h6 h3
 | cons a r => exact ⟨a, r, (choF s c).2, by rw [← he, ← h6], h4.1, by omega⟩
theorem chL_len {s : List Wit} (h : chE s = 0) : (chL s).length = s.length := by rw [chL_ok h]; simp
theorem bestS_succ (s : List Wit) (k : Nat) (hk : k < (chL s).length) : bestS s (k + 1) = bestS s k + (chL s)[k].2 := by
 unfold bestS; rw [List.take_succ_eq_append_getElem hk, List.map_append, List.sum_append]; simp only [List.map_cons, List.map_nil, List.sum_cons, List.sum_nil]; omega
theorem bestS_bd {s : List Wit} (h : chE s = 0) : ∀ k, k ≤ (chL s).length → 0 ≤ bestS s k ∧ bestS s k ≤ (k : Int) * 4294967296
 | 0, _ => by simp [bestS]
 | k + 1, hk => by
  have h1 := bestS_bd h k (by omega)
  obtain ⟨a, r, d, he, h2, h3⟩ := chL_get h (show k < (chL s).length by omega)
  rw [bestS_succ s k (by omega), he]
  constructor
  ·omega
  ·push_cast; omega
theorem p63 (s : List Wit) (hl : s.length < 65536) : VPure Tryz.prog 63 [encS s] fun r => Soft r (.tup [.agg [ints (bestP s), .int .i64 (bestS s (chL s).length)], .int .i64 (chE s)]) := by
 refine .of_body Tryz.func63 rfl rfl ?_
 refine .seq (.rn ?_)
 refine .seq ?_
 refine .regionL [0,1,2,3,4,5,6] rfl zz0 ?_
 refine .rn [0] [1,2,3,4,5,6] ?_
 refine .pc rfl rfl rfl rfl rfl Tryz.call108 (p108' s (by omega)) ?_
 refine .rn [2,3,4,5,6] [] ?_
 refine .done (.seq (.seq (.rn ?_)))
 refine .condS rfl (fun c15 => ?_) (fun c15 => ?_)
 ·try simp at c15
  refine .seq (.rn ?_)
  refine .ret ?_
  refine ⟨_, _, zz4,zz4, ?_⟩
  have e2 : chL s = [] := by unfold chL; rw [if_neg c15]
  have e3 : bestP s = [] := by unfold bestP; rw [e2]; rfl
  have e4 : bestS s (chL s).length = 0 := by unfold bestS; rw [e2]; rfl
  rw [e3, e4]
  exact soft_tup (AltL.cons (.agg' (.cons .sl0v (.cons (.same _ rfl) .nil))) (AltL.cons (.same _ rfl) AltL.nil))
 ·try simp at c15
  refine .skip (.seq (.rn ?_))
  refine .seq (.seq (.rn ?_))
  refine .block ?_
  refine .loopS (fun k : Nat => ([(2, .ptr 1 0),(6, .ptr 2 0),(18, .vec ((chL s).map encC)),(19, .int .i64 (chL s).length),(20, .int .i64 k)], ⟨4,[(3, .grow 1 (((bestP s).take k).map (.int .i64))),(2, .box [.grow 3 k true, .int .i64 (bestS s k)]),(1, .box [.sl0, .int .i64 0]),(0, .box [.vec (s.map encW)])]⟩)) (fun k => k ≤ (chL s).length) (fun k => (chL s).length - k) 0 (by simp) (.mk [] [] zz14 zz15 rfl rfl rfl) ?_
  rintro k hk
  simp only at hk ⊢
  refine .seq (.rn ?_)
  refine .seq ?_
  refine .condS rfl (fun c21 => ?_) (fun c21 => ?_)
  ·try simp at c21
   have hcl : (chL s).length < 65536 := by have := chL_len c15; omega
   have hw2 := wr1 k
   obtain ⟨a, r, d, hc, hd1, hd2⟩ := chL_get c15 c21
   have hE : encC (a :: r, d) = .agg [ints (a :: r), .int .i64 d] := rfl
   have hS := bestS_succ s k c21
   rw [hc] at hS
   simp only at hS
   have hbd := bestS_bd c15 k hk
   have hW4 : IntKind.i64.wrap (bestS s k + d) = bestS s k + d := wrap64 (by omega) (by omega)
   have hT : (bestP s).take (k + 1) = (bestP s).take k ++ [a] := by
    have h1 : k < (bestP s).length := by simpa [bestP] using c21
    rw [List.take_succ_eq_append_getElem h1]; simp [bestP, hc]
   have hln : min k (bestP s).length = k := by simp [bestP]; omega
   have hT2 : List.take (k + 1) (List.map (PV.int .i64) (bestP s)) = List.take k (List.map (PV.int .i64) (bestP s)) ++ [.int .i64 a] := by rw [← List.map_take, hT]; simp
   have hb : k + 1 ≤ 4294967296 := by omega
   refine .skip (.seq (.block (.seq (.rn ?_))))
   refine .seq ?_
   refine .drawn (ms := [0,1,0,4,12,28,60,127,255,511]) (W := [6,7,9]) (items := [.op 0, .op 1, .op 2, .op 3, .op 4, .op 5, .op 6, .ck 1, .op 7, .op 8, .op 9]) rfl zz0 zz0 zz0 ?_
   refine .rx ?_
   refine .rx ?_
   refine .rx ?_
   refine .rx ?_
   refine .rx ?_
   refine .rx ?_
   refine .wr rfl rfl (by decide) (.vop zz1 (by decide) ?_)
   refine .ck rfl zz0 ?_
   refine .wr rfl rfl (by decide) (.vop zz1 (by decide) ?_)
   refine .rx ?_
   refine .wr rfl rfl (by decide) (.vop zz1 (by decide) ?_)
   refine .done (.rn ?_)
   refine .rn ?_
   refine ⟨k + 1, c21,zz5,(.mk [] [(3,6)] zz14 zz15 rfl rfl rfl)⟩
  ·try simp at c21
   have : k = (chL s).length := by omega
   subst this
   have hbl : (bestP s).length = (chL s).length := by simp [bestP]
   refine .exit (.seq (.rn ?_))
   refine .ret ?_
   refine ⟨_, _, zz4,(by simp [hbl] <;> rfl), ?_⟩
   have e3 : List.take (chL s).length (List.map (PV.int .i64) (bestP s)) = List.map (PV.int .i64) (bestP s) := List.take_of_length_le (by simp [hbl])
   rw [c15]
   show Soft _ _
   rw [e3]
   exact soft_rfl rfl
theorem p63' (s : List Wit) (hl : s.length < 65536) : VPure Tryz.prog 63 [encS s] fun r => r = .tup [.agg [ints (bestP s), .int .i64 (bestS s (chL s).length)], .int .i64 (chE s)] := VPure.soft (p63 s hl) rfl
end Go.Am.Ds
end
section
namespace Go.Am.Ds
open Go Go.Am Go.Proofs
theorem fold_mem : ∀ (l d : List (Int × Int)) (x : List Int × Int),(∀ b ∈ x.1,(b, x.2) ∈ d) → ∀ b ∈ (l.foldl stepC x).1,(b, (l.foldl stepC x).2) ∈ d ++ l
 | [], d, x, h => by simpa using h
 | y :: r, d, x, h => by
  have ih := fold_mem r (d ++ [y]) (stepC x y) (by
   unfold stepC
   split
   ·intro b hb; exact List.mem_append_left _ (h b hb)
   ·rename_i h1
    split
    ·intro b hb
     rw [List.mem_singleton] at hb
     subst hb; simp
    ·rename_i h2
     intro b hb
     have h3 : x.1 ≠ [] := fun h4 => h2 (.inl h4)
     have h4 : ¬ y.2 < x.2 := fun h4 => h2 (.inr h4)
     have h5 : ¬ x.2 < y.2 := fun h5 => h1 ⟨h3, h5⟩
     rcases List.mem_append.1 hb with hb | hb
     ·exact List.mem_append_left _ (h b hb)
     ·rw [List.mem_singleton] at hb
      subst hb
      have h6 : x.2 = y.2 := by omega
      simp [h6])
  rw [List.append_assoc, List.singleton_append] at ih
  rw [List.foldl_cons]
  exact ih
theorem choF_mem {s : List Wit} {c : Wit} {b : Int} (h : b ∈ (choF s c).1) : (b, (choF s c).2) ∈ parS s c := by
 have := fold_mem (parS s c) [] ([],0) (by simp) b h
 rw [List.nil_append] at this
 exact this
theorem stepD_par {s : List Wit} (h : checkS s = 0) {c : Wit} {b d : Int} (hb : (b, d) ∈ parS s c) : stepD s c b = some d := by
 rcases parS_mem.1 hb with ⟨he, h1⟩ | ⟨p, _, h2, h3, h4⟩
 ·injection he with e1 e2
  subst e1; subst e2
  have hg : getW s 0 = none := by
   cases hg : getW s 0 with
   | none => rfl
   | some p =>
    obtain ⟨hp, h0⟩ := getW_mem hg
    have := checkS_pos h p hp
    omega
  simp only [stepD, hg]
  rw [if_pos ⟨trivial, h1⟩]
 ·simp only at h2 h4
  simp only [stepD, h2]
  rw [if_pos h3, h4]
theorem getW_own : ∀ {s : List Wit},(s.map Wit.id).Nodup → ∀ {w : Wit}, w ∈ s → getW s w.id = some w
 | a :: r, hn, w, hw => by
  rw [List.map_cons, List.nodup_cons] at hn
  unfold getW
  rw [List.find?_cons]
  rcases List.mem_cons.1 hw with rfl | hw
  ·simp
  ·have : a.id ≠ w.id := fun h => hn.1 (h ▸ List.mem_map_of_mem hw)
   rw [show decide (a.id = w.id) = false from decide_eq_false this]
   exact getW_own hn.2 hw
end Go.Am.Ds
end
section
namespace Go.Am.Ds
open Go Go.Am Go.Proofs
set_option maxHeartbeats 4000000
set_option linter.unusedSimpArgs false
set_option linter.unusedVariables false
attribute [local simp] vrun vwanted vyielded vop veval vevals vparts vO vbuiltin vlen vappend velems vcopy vmakeSlice vbuildSlice valloc vbox vmakeMap vload vpartT vpart vstore vfieldAddr vfield vindexAddr vindex vextract vslice vsliceZ vbounds vbnd zeroO vidx vlookup vmget vmapUpdate vdelete vnilq vnilp vnils vbin vsc vsc1 vscs vscl abinOp aint ashift aunOp aconvert amaxs amax2 pvcV pvc pvcs tput tget vargs VHeap.get VHeap.alloc VHeap.put VHeap.drop VHeap.empty vlook vput vdrop psplice pfill preps chunk List.range List.range.loop vresults vresult vresultV frz frzL PV.isF PV.allF PV.scal PV.allS retP subT allFT PV.one PV.ids PV.idsL dropL beq_eq ble_dec blt_dec
set_option maxRecDepth 100000
theorem fold_all : ∀ (l d : List (Int × Int)) (x : List Int × Int),(∀ y ∈ d, x.1 ≠ [] ∧ x.2 ≤ y.2 ∧ (y.2 = x.2 → y.1 ∈ x.1)) → ∀ y ∈ d ++ l, (l.foldl stepC x).1 ≠ [] ∧ (l.foldl stepC x).2 ≤ y.2 ∧ (y.2 = (l.foldl stepC x).2 → y.1 ∈ (l.foldl stepC x).1)
 | [], d, x, h => by simpa using h
 | z :: r, d, x, h => by
  have ih := fold_all r (d ++ [z]) (stepC x z) (by
   unfold stepC
   split
   ·rename_i h1
    intro y hy
    rcases List.mem_append.1 hy with hy | hy
    ·exact h y hy
    ·rw [List.mem_singleton] at hy
     subst hy
     exact ⟨h1.1, by omega, fun h2 => by omega⟩
   ·rename_i h1
    split
    ·rename_i h2
     intro y hy
     rcases List.mem_append.1 hy with hy | hy
     ·obtain ⟨h3, h4, _⟩ := h y hy
      rcases h2 with h2 | h2
      ·exact absurd h2 h3
      ·exact ⟨by simp, by simp only; omega, fun h5 => by simp only at h5; omega⟩
     ·rw [List.mem_singleton] at hy
      subst hy
      exact ⟨by simp, Int.le_refl _, fun _ => by simp⟩
    ·rename_i h2
     have h3 : x.1 ≠ [] := fun h4 => h2 (.inl h4)
     have h4 : ¬ z.2 < x.2 := fun h4 => h2 (.inr h4)
     have h5 : ¬ x.2 < z.2 := fun h5 => h1 ⟨h3, h5⟩
     intro y hy
     rcases List.mem_append.1 hy with hy | hy
     ·obtain ⟨_, h7, h8⟩ := h y hy
      exact ⟨by simp, h7, fun h9 => List.mem_append_left _ (h8 h9)⟩
     ·rw [List.mem_singleton] at hy
      subst hy
      exact ⟨by simp, by simp only; omega, fun _ => by simp⟩)
  rw [List.append_assoc, List.singleton_append] at ih
  rw [List.foldl_cons]
  exact ih
theorem choF_all {s : List Wit} {c : Wit} {y : Int × Int} (h : y ∈ parS s c) : (choF s c).2 ≤ y.2 ∧ (y.2 = (choF s c).2 → y.1 ∈ (choF s c).1) := by
 have := fold_all (parS s c) [] ([],0) (by simp) y (by simpa using h)
 exact this.2
end Go.Am.Ds
end
section
namespace Go.Am.Ds
open Go Go.Am Go.Proofs
theorem fold_filt : ∀ (l d : List (Int × Int)) (x : List Int × Int), x.1 = (d.filter fun y => decide (y.2 = x.2)).map (·.1) → (∀ y ∈ d, x.2 ≤ y.2) → (x.1 = [] → d = []) → (l.foldl stepC x).1 = ((d ++ l).filter fun y => decide (y.2 = (l.foldl stepC x).2)).map (·.1)
 | [], d, x, h, _, _ => by rw [List.append_nil]; exact h
 | z :: r, d, x, h, hle, hn => by
  have key : (stepC x z).1 = ((d ++ [z]).filter fun y => decide (y.2 = (stepC x z).2)).map (·.1) ∧ (∀ y ∈ d ++ [z],(stepC x z).2 ≤ y.2) ∧ ((stepC x z).1 = [] → d ++ [z] = []) := by
   unfold stepC
   split
   ·rename_i h1
    have hz : ¬ z.2 = x.2 := by omega
    refine ⟨?_, fun y hy => ?_, fun h2 => absurd h2 h1.1⟩
    ·rw [List.filter_append, List.map_append, ← h]; simp [hz]
    ·rcases List.mem_append.1 hy with hy | hy
     ·exact hle y hy
     ·rw [List.mem_singleton] at hy; subst hy; omega
   ·rename_i h1
    split
    ·rename_i h2
     have hd : ∀ y ∈ d, z.2 < y.2 := fun y hy => by
      rcases h2 with h2 | h2
      ·rw [hn h2] at hy; cases hy
      ·have := hle y hy; omega
     have hf : (d.filter fun y => decide (y.2 = z.2)) = [] := List.filter_eq_nil_iff.2 fun y hy => by have := hd y hy; simp; omega
     refine ⟨?_, fun y hy => ?_, fun h2 => by simp at h2⟩
     ·rw [List.filter_append, List.map_append]; simp only; rw [hf]; simp
     ·rcases List.mem_append.1 hy with hy | hy
      ·have := hd y hy; simp only; omega
      ·rw [List.mem_singleton] at hy; subst hy; exact Int.le_refl _
    ·rename_i h2
     have h3 : x.1 ≠ [] := fun h4 => h2 (.inl h4)
     have hz : z.2 = x.2 := by
      have h4 : ¬ z.2 < x.2 := fun h4 => h2 (.inr h4)
      have h5 : ¬ x.2 < z.2 := fun h5 => h1 ⟨h3, h5⟩
      omega
     refine ⟨?_, fun y hy => ?_, fun h4 => by simp at h4⟩
     ·rw [List.filter_append, List.map_append]; simp only; rw [← h]; simp [hz]
     ·rcases List.mem_append.1 hy with hy | hy
      ·exact hle y hy
      ·rw [List.mem_singleton] at hy; subst hy; simp only; omega
  have ih := fold_filt r (d ++ [z]) (stepC x z) key.1 key.2.1 key.2.2
  rw [List.append_assoc, List.singleton_append] at ih
  rw [List.foldl_cons]; exact ih
theorem choF_filt (s : List Wit) (c : Wit) : (choF s c).1 = ((parS s c).filter fun y => decide (y.2 = (choF s c).2)).map (·.1) := by
 have := fold_filt (parS s c) [] ([],0) rfl (by simp) (fun _ => rfl)
 rw [List.nil_append] at this
 exact this
theorem best_eq {s : List Wit} (h : checkS s = 0) (c : Wit) : bestR s c = (choF s c).1 := by
 rw [choF_filt]
 unfold bestR
 rw [← models_eq h c, List.filter_map]
 congr 1
 apply List.filter_congr
 intro y hy
 simp only [Function.comp]
 rw [Bool.eq_iff_iff, decide_eq_true_eq]
 unfold isB
 rw [List.all_eq_true]
 have ha := (choF_all hy).1
 have hy2 := parS_fr h hy
 constructor
 ·intro H
  rcases choF_spec s c with ⟨h1, _⟩ | ⟨_, _, z, h2, h3⟩
  ·rw [h1] at hy; cases hy
  ·have e1 := H z.1 (by rw [← models_eq h c]; exact List.mem_map_of_mem h2)
   rw [decide_eq_true_eq] at e1
   have := parS_fr h h2
   omega
 ·intro H b hb
  rw [← models_eq h c] at hb
  obtain ⟨z, hz, rfl⟩ := List.mem_map.1 hb
  have e1 := (choF_all hz).1
  have := parS_fr h hz
  rw [decide_eq_true_eq]; omega
theorem chL_at2 {s : List Wit} (h : chE s = 0) {k : Nat} (hk : k < s.length) : ∃ h2 : k < (chL s).length, (chL s)[k] = choF s s[k] := by
 refine ⟨by rw [chL_len h]; exact hk, ?_⟩
 have aux : ∀ (l : List (List Int × Int)) (e : l = s.map (choF s)) (hl : k < l.length), l[k] = choF s s[k] := by rintro _ rfl _; simp
 exact aux _ (chL_ok h) _
theorem stepD_mod {s : List Wit} (h : checkS s = 0) (c : Wit) (b : Int) : stepD s c b = if b ∈ modR s c then some ((frS s c b).length : Int) else none := by
 by_cases hm : b ∈ modR s c
 ·rw [if_pos hm]
  rw [← models_eq h c] at hm
  obtain ⟨y, hy, rfl⟩ := List.mem_map.1 hm
  rw [← parS_fr h hy]
  exact stepD_par h hy
 ·rw [if_neg hm]
  cases hs : stepD s c b with
  | none => rfl
  | some d =>
   refine absurd ?_ hm
   rw [modR_mem]
   unfold stepD at hs
   cases hg : getW s b with
   | none =>
    rw [hg] at hs
    simp only at hs
    split at hs
    ·rename_i h1; exact .inl h1
    ·cases hs
   | some p =>
    rw [hg] at hs
    simp only at hs
    split at hs
    ·rename_i h1
     obtain ⟨hp, hpi⟩ := getW_mem hg
     exact .inr ⟨p, hp, hpi, by unfold atI; rw [hpi, hg]; exact h1⟩
    ·cases hs
end Go.Am.Ds
end
section
namespace Go.Am.Ds
open Go Go.Am Go.Proofs
set_option maxRecDepth 100000
set_option maxHeartbeats 4000000
set_option linter.unusedSimpArgs false
set_option linter.unusedVariables false
attribute [local simp] vrun vwanted vyielded vop vopA vputAll VHeap.back hidI hidF backL bm Nat.testBit_eq_decide_div_mod_eq veval vevals vparts vO vbuiltin vlen vappend velems vcopy vmakeSlice vbuildSlice valloc vbox vmakeMap vload vpartT vpart vstore vfieldAddr vfield vindexAddr vindex vextract vslice vsliceZ vbounds vbnd zeroO vidx vlookup vmget vmapUpdate vdelete vclear vnilq vnilp vnils vbin vsc vsc1 vscs vscl abinOp aint ashift aunOp aconvert amaxs amax2 pvcV pvc pvcs tput tget vargs VHeap.get VHeap.alloc VHeap.put VHeap.drop VHeap.empty vlook vput vdrop psplice pfill preps chunk List.range List.range.loop vresults vresult vresultV frz frzL PV.isF PV.allF PV.scal PV.allS retP subT allFT PV.one PV.ids PV.idsL dropL beq_eq ble_dec blt_dec
attribute [local simp] zW tup2
theorem chE_bad {s : List Wit} (h : checkS s ≠ 0) : chE s = checkS s := by unfold chE; rw [if_neg h]
theorem chL_no {s : List Wit} (h : chE s ≠ 0) : chL s = [] := by unfold chL; rw [if_neg h]
theorem p137 (s : List Wit) (hl : s.length < 4294967296) (hli : ∀ w ∈ s, w.slips.length < 4294967296 ∧ w.mended.length < 4294967296 ∧ w.models.length < 4294967296) : VPure Tryz.prog 137 [encS s] fun r => r = .int .i64 (chE s) := by
 refine .of_body Tryz.func137 rfl rfl ?_
 refine .seq (.rn ?_)
 refine .seq ?_
 refine .regionL [0,1,2] rfl zz0 ?_
 refine .rn [0] [1,2] ?_
 refine .pc rfl rfl rfl rfl rfl Tryz.call52 (p52 s hl hli) ?_
 refine .rn [2] [] ?_
 refine .done (.seq (.seq (.rn ?_)))
 refine .condS rfl (fun c8 => ?_) (fun c8 => ?_)
 ·try simp at c8
  refine .seq (.rn ?_)
  refine .ret ?_
  refine ⟨_, _, zz4,zz4, ?_⟩
  rw [chE_bad c8]
 ·try simp at c8
  refine .skip (.seq ?_)
  refine .regionL [0,1,2] rfl zz0 ?_
  refine .rn [0] [1,2] ?_
  refine .pc rfl rfl rfl rfl rfl Tryz.call110 (p110 s (okS_of c8)) ?_
  refine .rn [2] [] ?_
  refine .done (.seq (.seq (.rn ?_)))
  refine .condS rfl (fun c12 => ?_) (fun c12 => ?_)
  ·try simp at c12
   refine .seq (.rn ?_)
   refine .ret ?_
   refine ⟨_, _, zz4,zz4, ?_⟩
   rw [chE_eq c8, if_pos c12]
  ·try simp at c12
   refine .skip (.seq (.rn ?_))
   refine .ret ?_
   refine ⟨_, _, zz4,zz4, ?_⟩
   rw [chE_eq c8, if_neg (fun ⟨w, h1, h2⟩ => c12 w h1 h2)]
theorem p139 (s : List Wit) (l : List Int) (h : checkS s = 0) (hlL : l.length < 4611686018427387904) : VPure Tryz.prog 139 [encS s, ints l] fun r => r = .bool (desR s l).2 := by
 have ok := okS_of h
 have hl24 := ok.len
 refine .of_body Tryz.func139 rfl rfl ?_
 refine .seq (.rn ?_)
 refine .seq (.seq (.rn ?_))
 refine .condS rfl (fun c12 => ?_) (fun c12 => ?_)
 ·try simp at c12
  refine .seq (.rn ?_)
  refine .ret ?_
  refine ⟨_, _, zz4,zz4, ?_⟩
  rw [desR, if_neg (by rintro ⟨h, _⟩; omega)]
 ·try simp at c12
  have he : l.length = s.length := by omega
  refine .skip (.seq (.seq (.rn ?_)))
  refine .block ?_
  refine .loopS (fun k : Nat => ([(1, ints l),(2, .ptr 0 0),(5, .int .i64 k)], ⟨1,[(0, .box [.vec (s.map encW)])]⟩)) (fun k => k ≤ s.length ∧ ((desL s l).take k).all Option.isSome = true) (fun k => s.length - k) 0 (by simp) (.mk [] [] zz14 zz15 rfl rfl rfl) ?_
  rintro k ⟨hk, hal⟩
  simp only at hk hal ⊢
  refine .seq (.seq (.rn ?_))
  refine .condS rfl (fun c16 => ?_) (fun c16 => ?_)
  ·try simp at c16
   have hw2 := wr1 k
   have hks : k < s.length := by omega
   have hkl : k < l.length := by omega
   have hA := desA_succ s l k hks hkl
   have hM := stepD_mod h s[k] l[k]
   have hml := modR_len s s[k]
   refine .skip (.seq (.block (.seq ?_)))
   refine .drawn (ms := [0,0,3,0,0,24,56,127,255]) (W := [2,7]) (items := [.op 0, .op 1, .op 3, .op 4, .op 5, .op 6, .op 2, .ck 6, .op 7, .op 8]) rfl zz0 zz0 zz0 ?_
   refine .rx ?_
   refine .rx ?_
   refine .rx ?_
   refine .rx ?_
   refine .rx ?_
   refine .rx ?_
   refine .wp rfl rfl rfl rfl rfl Tryz.call107 (p107 s k hks ok) ?_
   refine .ck rfl zz0 ?_
   refine .wp rfl rfl rfl rfl rfl Tryz.call121 (p121 (modR s s[k]) l[k] (by omega)) ?_
   refine .rx ?_
   refine .done (.seq (.rn ?_))
   refine .condS rfl (fun c28 => ?_) (fun c28 => ?_)
   ·try simp at c28
    refine .seq (.rn ?_)
    refine .ret ?_
    refine ⟨_, _, zz4,zz4, ?_⟩
    rw [desR_none hks hkl (by rw [hM, if_neg c28])]
   ·try simp at c28
    refine .skip (.rn ?_)
    refine ⟨k + 1, ⟨zz5, by rw [hA, hM, if_pos c28]; simpa using hal⟩, zz5,(.mk [] [] zz14 zz15 rfl rfl rfl)⟩
  ·try simp at c16
   have hk2 : k = s.length := by omega
   subst hk2
   refine .exit (.seq (.rn ?_))
   refine .ret ?_
   refine ⟨_, _, zz4,zz4, ?_⟩
   have hall : (desL s l).all Option.isSome = true := by
    rw [List.take_of_length_le (by simp [desL]; omega)] at hal
    simpa using hal
   rw [desR, if_pos ⟨he, hall⟩]
attribute [local simp] zW tup2
theorem wrapU64 {n : Int} (h1 : 0 ≤ n) (h2 : n < 9223372036854775808) : IntKind.u64.wrap n = n := by
 simp [IntKind.wrap, IntKind.bits, IntKind.signed]; omega
theorem p217 (n : Int) : VPure Tryz.prog 217 [.int .i64 n] fun r => r = .bool false := by
 refine .of_body Tryz.func217 rfl rfl ?_
 refine .seq (.rn ?_)
 refine .seq (.rn ?_)
 refine .ret ?_
 refine ⟨_, _, zz4,zz4, ?_⟩
 first | rfl | (simp [*]; done) | (simp_all; done)
theorem p198 (a b : Int) : VPure Tryz.prog 198 [.int .i64 a, .int .i64 b] fun r => r = .bool (decide (a < b)) := by
 refine .of_body Tryz.func198 rfl rfl ?_
 refine .seq (.rn ?_)
 refine .seq ?_
 refine .regionL [0,1,2,3,4,5,6,7,8,9,10,11,12] rfl zz0 ?_
 refine .rn [0] [1,2,3,4,5,6,7,8,9,10,11,12] ?_
 refine .pc rfl rfl rfl rfl rfl Tryz.call217 (p217 _) ?_
 refine .rn [2] [3,4,5,6,7,8,9,10,11,12] ?_
 refine .split (t := 7) rfl (fun c7 => ?_) (fun c7 => ?_)
 ·try rw [c7]
  try simp at c7
 ·try rw [c7]
  try simp at c7
  refine .rn [3,4,5,6,7,8,9,10,11,12] [] ?_
  refine .done (.ret ?_)
  refine ⟨_, _, zz4,zz4, ?_⟩
  first | rfl | (simp [*]; done) | (simp_all; done)
theorem p161 (l : List Int) (t : Int) (p : Nat) (hp : p < l.length) (ht : l[p] = t) (hs : l.Pairwise (· < ·)) (hl : l.length < 4294967296) : VPure Tryz.prog 161 [ints l, .int .i64 t] fun r => r = .tup [.int .i64 p, .bool true] := by
 have hlt : ∀ h : Nat, ∀ hh : h < l.length, (l[h] < t ↔ h < p) := fun h hh => by
  rw [List.pairwise_iff_getElem] at hs
  rcases Nat.lt_trichotomy h p with h1 | h1 | h1
  ·have := hs h p hh hp h1; exact ⟨fun _ => h1, fun _ => by omega⟩
  ·subst h1; omega
  ·have := hs p h hp hh h1; omega
 refine .of_body Tryz.func161 rfl rfl ?_
 refine .seq (.rn ?_)
 refine .seq (.rn ?_)
 refine .seq (.rn ?_)
 refine .seq (.block ?_)
 refine .loopS (fun st : Nat × Nat => ([(0, ints l),(1, .int .i64 t),(6, .int .i64 l.length),(7, .int .i64 st.1),(8, .int .i64 st.2)], VHeap.empty)) (fun st => st.1 ≤ p ∧ p ≤ st.2 ∧ st.2 ≤ l.length) (fun st => st.2 - st.1) (0, l.length) ⟨by simp, by simp; omega, by simp⟩ (.mk [] [] zz14 zz15 rfl rfl rfl) ?_
 rintro ⟨i, j⟩ ⟨h1, h2, h3⟩
 simp only at h1 h2 h3 ⊢
 refine .seq (.seq (.rn ?_))
 refine .condS rfl (fun c15 => ?_) (fun c15 => ?_)
 ·try simp at c15
  have hij : i < j := by omega
  have hw1 : IntKind.i64.wrap ((i : Int) + (j : Int)) = (i : Int) + (j : Int) := wrap64 (by omega) (by omega)
  have hw2 : IntKind.u64.wrap ((i : Int) + (j : Int)) = (i : Int) + (j : Int) := wrapU64 (by omega) (by omega)
  have hbits : IntKind.u64.bits = 64 := rfl
  obtain ⟨m, hm, hm1, hm2⟩ : ∃ m : Nat, ((i : Int) + (j : Int)).fdiv 2 = (m : Int) ∧ i ≤ m ∧ m < j := ⟨(i + j) / 2, by rw [Int.fdiv_eq_ediv_of_nonneg _ (by omega)]; omega, by omega, by omega⟩
  have hh : m < l.length := by omega
  have hw3 : IntKind.i64.wrap (m : Int) = (m : Int) := wrap64 (by omega) (by omega)
  have hw4 := wr1 m
  have hcmp := hlt m hh
  refine .skip (.block (.seq (.rn ?_)))
  refine .seq ?_
  refine .regionL [0,1,2,3,4,5] rfl zz0 ?_
  refine .rn [0,1,2,3,4] [5] ?_
  refine .pc rfl rfl rfl rfl rfl Tryz.call198 (p198 _ _) ?_
  refine .done ?_
  refine .condS rfl (fun c27 => ?_) (fun c27 => ?_)
  ·try simp at c27
   refine .rn ?_
   refine ⟨(m + 1, j), ⟨by simp only; omega, h2, h3⟩, by simp only; omega, (.mk [] [] zz14 zz15 rfl rfl rfl)⟩
  ·try simp at c27
   refine .rn ?_
   refine ⟨(i, m), ⟨h1, by simp only; omega, by simp only; omega⟩, by simp only; omega, (.mk [] [] zz14 zz15 rfl rfl rfl)⟩
 ·try simp at c15
  have hip : i = p := by omega
  subst hip
  refine .exit (.seq ?_)
  refine .regionL [0,1,2,3,4,5,6,7,8,9,10,11,12,13,14,15,16,17,18,19,20,21,22,23,24] rfl zz0 ?_
  refine .rn [0,1,2,3,4] [5,6,7,8,9,10,11,12,13,14,15,16,17,18,19,20,21,22,23,24] ?_
  refine .split (t := 35) rfl (fun c35 => ?_) (fun c35 => ?_)
  ·try rw [c35]
   try simp at c35
   refine .rn [5,6,7,8,9,10,11] [12,13,14,15,16,17,18,19,20,21,22,23,24] ?_
   refine .split (t := 42) rfl (fun c42 => ?_) (fun c42 => ?_)
   ·try rw [c42]
    try simp at c42
    refine .rn [12,13,14,15,16,17,18,19,20,21,22,23,24] [] ?_
    refine .done (.ret ?_)
    refine ⟨_, _, zz4,zz4, ?_⟩
    first | rfl | (simp [*]; done) | (simp_all; done)
   ·try rw [c42]
    try simp at c42
  ·try rw [c35]
   try simp at c35
attribute [local simp] zW tup2
def kvM (l : List (Int × Int)) : List (Int × PV) := l.map fun x => (x.1, .int .u32 x.2)
def getM (l : List (Int × Int)) (n : Int) : Option Int := (l.find? fun x => decide (x.1 = n)).map (·.2)
def setM (l : List (Int × Int)) (n v : Int) : List (Int × Int) := match getM l n with
 | some _ => l.map fun x => if x.1 = n then (x.1, v) else x
 | none => l ++ [(n, v)]
theorem pfind_kvM (n : Int) : ∀ l : List (Int × Int), pfind .i64 n (kvs (kvM l)) = some ((getM l n).map (PV.int .u32))
 | [] => rfl
 | x :: r => by
  have ih := pfind_kvM n r
  unfold getM kvM kvs at ih ⊢
  simp only [List.map_cons, pfind, decide_true, cond_true]
  rw [ih, List.find?_cons]
  cases h : decide (x.1 = n) <;> simp
theorem map_qput_kvM (n v : Int) : ∀ l : List (Int × Int),(kvs (kvM l)).map (qput n (.int .u32 v)) = kvs (kvM (l.map fun x => if x.1 = n then (x.1, v) else x))
 | [] => rfl
 | x :: r => by
  have ih := map_qput_kvM n v r
  unfold kvM kvs at ih ⊢
  simp only [List.map_cons, qput] at ih ⊢
  rw [ih]
  by_cases h : x.1 = n <;> simp [h]
theorem pmset_kvM (n v : Int) (l : List (Int × Int)) : pmset .i64 n (.int .u32 v) (kvs (kvM l)) = some (kvs (kvM (setM l n v))) := by
 unfold pmset setM
 rw [pfind_kvM]
 cases h : getM l n with
 | none => simp [kvs, kvM]
 | some y => simp [map_qput_kvM]
theorem getM_none {l : List (Int × Int)} {n : Int} (h : getM l n = none) : n ∉ l.map (·.1) := by
 unfold getM at h
 rw [Option.map_eq_none_iff, List.find?_eq_none] at h
 intro h1
 obtain ⟨x, hx, rfl⟩ := List.mem_map.1 h1
 exact h x hx (by simp)
theorem setM_keys (l : List (Int × Int)) (n v : Int) : (setM l n v).map (·.1) = if (getM l n).isSome = true then l.map (·.1) else l.map (·.1) ++ [n] := by
 unfold setM
 cases h : getM l n with
 | none => simp
 | some y =>
  simp only [Option.isSome_some, if_true, List.map_map]
  apply List.map_congr_left
  intro x _
  simp only [Function.comp]
  split <;> rfl
theorem setM_nodup {l : List (Int × Int)} (h : (l.map (·.1)).Nodup) (n v : Int) : ((setM l n v).map (·.1)).Nodup := by
 rw [setM_keys]
 cases h1 : getM l n with
 | some y => simpa using h
 | none =>
  simp only [Option.isSome_none, Bool.false_eq_true, if_false]
  exact List.nodup_append.2 ⟨h, by simp, fun a ha b hb hab => by rw [List.mem_singleton] at hb; subst hab; subst hb; exact getM_none h1 ha⟩
theorem getM_mem {l : List (Int × Int)} {n : Int} : (getM l n).isSome = true ↔ n ∈ l.map (·.1) := by
 unfold getM
 rw [Option.isSome_map, List.find?_isSome]
 simp
theorem setM_mem {l : List (Int × Int)} {n v m : Int} : m ∈ (setM l n v).map (·.1) ↔ m ∈ l.map (·.1) ∨ m = n := by
 rw [setM_keys]
 split
 ·rename_i h
  rw [getM_mem] at h
  exact ⟨.inl, fun h2 => h2.elim id fun h3 => h3 ▸ h⟩
 ·simp
def posI (s : List Wit) (id : Int) : Nat := (idsS s).idxOf id
def orV (a b : Int) : Int := IntKind.u32.wrap ((BitVec.ofInt 32 a ||| BitVec.ofInt 32 b).toNat : Int)
def bitV (k : Nat) : Int := IntKind.u32.wrap (2 ^ min k 32)
def orU (a : Int) (k : Nat) : Int := orV a (bitV k)
@[local simp ↓ high] theorem aint_or32 (a b : Int) : aint .or .u32 a b = some (.int .u32 (orV a b)) := rfl
@[local simp ↓ high] theorem ashl32 (k : Nat) : ashift .shl .u32 1 (k : Int) = some (.int .u32 (bitV k)) := by
 unfold ashift bitV
 have h : ¬ ((k : Int) < 0) := by omega
 rw [decide_eq_false h, cond_false, Int.toNat_natCast, Int.one_mul]; rfl
def putM (k : Nat) (es : List (Int × Int)) (n : Int) : List (Int × Int) := setM es n (orU ((getM es n).getD 0) k)
def heldF (s : List Wit) (es : List (Int × Int)) (w : Wit) : List (Int × Int) := w.slips.foldl (putM (posI s w.id)) es
def heldM (s : List Wit) : List (Int × Int) := s.foldl (heldF s) []
theorem pos_get {s : List Wit} {w : Wit} (hw : w ∈ s) : ∃ h : posI s w.id < (idsS s).length, (idsS s)[posI s w.id] = w.id := by
 have h1 : posI s w.id < (idsS s).length := List.idxOf_lt_length_iff.2 (idsS_mem.2 ⟨w, hw, rfl⟩)
 exact ⟨h1, List.getElem_idxOf h1⟩
theorem p94 (s : List Wit) (h : checkS s = 0) : VPure Tryz.prog 94 [encS s] fun r => r = .vmap (kvs (kvM (heldM s))) := by
 have hl24 := (checkS_ok h).1
 have hidl := idsS_len s
 have hso := idsS_sorted (checkS_nodup h)
 refine .of_body Tryz.func94 rfl rfl ?_
 refine .seq (.rn ?_)
 refine .seq ?_
 refine .regionL [0,1,2,3,4] rfl zz0 ?_
 refine .rn [0,1] [2,3,4] ?_
 refine .pc rfl rfl rfl rfl rfl Tryz.call99 (p99' s (by omega)) ?_
 refine .rn [3,4] [] ?_
 refine .done (.seq (.seq (.rn ?_)))
 refine .block ?_
 refine .loopS (fun st : Nat × List (Int × Int) => ([(3, .mapv 1),(4, ints (idsS s)),(15, .vec (s.map encW)),(16, .int .i64 s.length),(17, .int .i64 st.1)], ⟨2,[(1, .map (kvs (kvM st.2))),(0, .box [.vec (s.map encW)])]⟩)) (fun st => st.1 ≤ s.length ∧ (s.drop st.1).foldl (heldF s) st.2 = heldM s) (fun st => s.length - st.1) (0,[]) ⟨by simp, by simp [heldM]⟩ (.mk [] [] zz14 zz15 rfl rfl rfl) ?_
 rintro ⟨i, es⟩ ⟨hi, hr⟩
 simp only at hi hr ⊢
 refine .seq (.rn ?_)
 refine .seq ?_
 refine .condS rfl (fun c18 => ?_) (fun c18 => ?_)
 ·try simp at c18
  have hw2 := wr1 i
  have hE := encW_e s[i]
  rw [foldl_drop (heldF s) s i c18] at hr
  obtain ⟨hp1, hp2⟩ := pos_get (List.getElem_mem c18)
  have hsl := ((checkS_lens h) s[i] (List.getElem_mem c18)).1
  obtain ⟨p, hp⟩ : ∃ p, posI s s[i].id = p := ⟨_, rfl⟩
  have hp24 : p < 24 := by omega
  refine .skip (.seq (.block (.seq (.rn ?_))))
  refine .seq ?_
  refine .regionL [0,1,2,3,4,5,6,7,8] rfl zz0 ?_
  refine .rn [0,1,2] [3,4,5,6,7,8] ?_
  refine .pc rfl rfl rfl rfl rfl Tryz.call161 ((by have h := p161 (idsS s) s[i].id (posI s s[i].id) hp1 hp2 hso (by omega); rw [hp] at h; exact h)) ?_
  refine .rn [4,5,6,7,8] [] ?_
  refine .done (.seq (.rn ?_))
  refine .block ?_
  refine .loopS (fun st : Nat × List (Int × Int) => ([(3, .mapv 1),(4, ints (idsS s)),(7, .int .i64 p),(15, .vec (s.map encW)),(16, .int .i64 s.length),(17, .int .i64 i),(29, ints s[i].slips),(30, .int .i64 s[i].slips.length),(31, .int .i64 st.1)], ⟨2,[(1, .map (kvs (kvM st.2))),(0, .box [.vec (s.map encW)])]⟩)) (fun st => st.1 ≤ s[i].slips.length ∧ (s[i].slips.drop st.1).foldl (putM p) st.2 = s[i].slips.foldl (putM p) es) (fun st => s[i].slips.length - st.1) (0, es) ⟨by simp, by simp⟩ (.mk [] [] zz14 zz15 rfl rfl rfl) ?_
  rintro ⟨j, es2⟩ ⟨hj, hs⟩
  simp only at hj hs ⊢
  refine .seq (.rn ?_)
  refine .seq ?_
  refine .condS rfl (fun c32 => ?_) (fun c32 => ?_)
  ·try simp at c32
   have hw3 := wr1 j
   rw [foldl_drop (putM p) s[i].slips j c32] at hs
   have hpf := pfind_kvM s[i].slips[j] es2
   have hpm := fun v => pmset_kvM s[i].slips[j] v es2
   rcases hgm : getM es2 s[i].slips[j] with _ | v0 <;> rw [hgm] at hpf <;> simp only [Option.map] at hpf
   ·skip
    refine .skip (.seq (.block (.seq (.rn ?_))))
    refine .drawn (ms := [0,0,3,0,8,31,63]) (W := [6]) (items := [.op 0, .op 1, .op 2, .op 3, .op 4, .op 5, .op 6]) rfl zz0 zz0 zz0 ?_
    refine .rx ?_
    refine .rx ?_
    refine .rx ?_
    refine .rx ?_
    refine .rx ?_
    refine .rx ?_
    refine .wr rfl rfl (by decide) (.vop zz1 (by decide) ?_)
    refine .done (.rn ?_)
    have hpu : putM p es2 s[i].slips[j] = setM es2 s[i].slips[j] (orV 0 (bitV p)) := by unfold putM; rw [hgm]; rfl
    refine ⟨(j + 1, putM p es2 s[i].slips[j]), ⟨zz5, hs⟩, zz5,(.mk [] [] zz14 zz15 rfl rfl rfl)⟩
   ·skip
    refine .skip (.seq (.block (.seq (.rn ?_))))
    refine .drawn (ms := [0,0,3,0,8,31,63]) (W := [6]) (items := [.op 0, .op 1, .op 2, .op 3, .op 4, .op 5, .op 6]) rfl zz0 zz0 zz0 ?_
    refine .rx ?_
    refine .rx ?_
    refine .rx ?_
    refine .rx ?_
    refine .rx ?_
    refine .rx ?_
    refine .wr rfl rfl (by decide) (.vop zz1 (by decide) ?_)
    refine .done (.rn ?_)
    have hpu : putM p es2 s[i].slips[j] = setM es2 s[i].slips[j] (orV v0 (bitV p)) := by unfold putM; rw [hgm]; rfl
    refine ⟨(j + 1, putM p es2 s[i].slips[j]), ⟨zz5, hs⟩, zz5,(.mk [] [] zz14 zz15 rfl rfl rfl)⟩
  ·try simp at c32
   have hj2 : j = s[i].slips.length := by omega
   refine .exit (.rn ?_)
   refine ⟨(i + 1, es2), ⟨zz5, ?_⟩, zz5,(.mk [] [] zz14 zz15 rfl rfl rfl)⟩
   rw [← hr, heldF, hp, ← hs, hj2, List.drop_length]; rfl
 ·try simp at c18
  have hi2 : i = s.length := by omega
  refine .exit (.seq (.rn ?_))
  refine .ret ?_
  refine ⟨_, _, zz4,zz4, ?_⟩
  rw [← hr, hi2, List.drop_length]; rfl
end Go.Am.Ds
end
section
namespace Go.Am.Ds
open Go Go.Am Go.Proofs
def upI (s : List Wit) (l : List Int) (id : Int) : Int := (l[(findI s id).toNat]?).getD 0
def rkI (s : List Wit) (id : Int) : Nat := match getW s id with
 | none => 0
 | some c => (s.filter fun w => decide (w.hi ≤ c.hi)).length
def chN (s : List Wit) (l : List Int) : Nat → Int → List Int
 | 0, _ => []
 | n + 1, id => if id = 0 then [] else id :: chN s l n (upI s l id)
def chI (s : List Wit) (l : List Int) (id : Int) : List Int := chN s l (rkI s id) id
def froI (s : List Wit) (l : List Int) (id : Int) : List Int := chI s l (upI s l id)
theorem filt_lt {p q : Wit → Bool} (h : ∀ w, p w = true → q w = true) : ∀ {s : List Wit} {c : Wit}, c ∈ s → q c = true → p c = false → (s.filter p).length < (s.filter q).length
 | a :: r, c, hc, h1, h2 => by
  have hle : (r.filter p).length ≤ (r.filter q).length := by
   rw [← List.countP_eq_length_filter, ← List.countP_eq_length_filter]
   exact List.countP_mono_left fun x _ hx => h x hx
  rcases List.mem_cons.1 hc with rfl | hc
  ·rw [List.filter_cons_of_pos h1, List.filter_cons_of_neg (by simp [h2]), List.length_cons]; omega
  ·have ih := filt_lt h hc h1 h2
   by_cases hp : p a = true
   ·rw [List.filter_cons_of_pos hp, List.filter_cons_of_pos (h a hp), List.length_cons, List.length_cons]; omega
   ·rw [List.filter_cons_of_neg hp]
    by_cases hq : q a = true
    ·rw [List.filter_cons_of_pos hq, List.length_cons]; omega
    ·rw [List.filter_cons_of_neg hq]; exact ih
theorem wit_lohi {s : List Wit} (h : checkS s = 0) {w : Wit} (hw : w ∈ s) : w.lo ≤ w.hi := by
 have := (checkS_ok h).2 w hw
 unfold witE at this
 repeat' split at this
 all_goals first | omega | cases this
theorem why_hi {c p : Wit} (h : (whyP c p).1 = 0) : p.hi < c.lo := by
 unfold whyP at h
 split at h
 ·cases h
 ·split at h
  ·cases h
  ·omega
theorem getW_zero {s : List Wit} (h : checkS s = 0) : getW s 0 = none := by
 cases hg : getW s 0 with
 | none => rfl
 | some p =>
  obtain ⟨hp, h0⟩ := getW_mem hg
  have := checkS_pos h p hp
  omega
theorem des_len {s : List Wit} {l : List Int} (hd : (desR s l).2 = true) : l.length = s.length ∧ (desL s l).all Option.isSome = true := by
 unfold desR at hd; split at hd
 ·assumption
 ·cases hd
theorem up_at {s : List Wit} {l : List Int} (hd : (desR s l).2 = true) {id : Int} {c : Wit} (hg : getW s id = some c) : ∃ i, ∃ hi : i < s.length, ∃ h2 : i < l.length, findI s id = (i : Int) ∧ s[i] = c ∧ l[i] = upI s l id := by
 obtain ⟨he, _⟩ := des_len hd
 obtain ⟨i, hi, hie, hc⟩ := getW_idx hg
 refine ⟨i, hi, by omega, hie, hc, ?_⟩
 unfold upI
 rw [hie, Int.toNat_natCast, List.getElem?_eq_getElem (by omega), Option.getD_some]
theorem up_some {s : List Wit} {l : List Int} (hd : (desR s l).2 = true) {id : Int} {c : Wit} (hg : getW s id = some c) : upI s l id = 0 ∨ ∃ p, getW s (upI s l id) = some p ∧ (whyP c p).1 = 0 := by
 obtain ⟨i, hi, h2, _, hc, hl⟩ := up_at hd hg
 obtain ⟨_, ha⟩ := des_len hd
 obtain ⟨h3, h4⟩ := desL_get s l i hi h2
 have h5 := List.all_eq_true.1 ha _ (List.getElem_mem h3)
 rw [h4, hc, hl] at h5
 unfold stepD at h5
 cases hp : getW s (upI s l id) with
 | none =>
  rw [hp] at h5
  simp only at h5
  split at h5
  ·rename_i h6; exact .inl h6.1
  ·cases h5
 | some p =>
  rw [hp] at h5
  simp only at h5
  split at h5
  ·rename_i h6; exact .inr ⟨p, rfl, h6⟩
  ·cases h5
theorem rk_pos {s : List Wit} {id : Int} {c : Wit} (hg : getW s id = some c) : 0 < rkI s id := by
 unfold rkI; rw [hg]
 exact List.length_pos_iff.2 (List.ne_nil_of_mem (List.mem_filter.2 ⟨(getW_mem hg).1, by simp⟩))
theorem rk_le (s : List Wit) (id : Int) : rkI s id ≤ s.length := by
 unfold rkI; split
 ·omega
 ·exact List.length_filter_le _ _
theorem rk_zero {s : List Wit} (h : checkS s = 0) : rkI s 0 = 0 := by unfold rkI; rw [getW_zero h]
theorem rk_up {s : List Wit} {l : List Int} (h : checkS s = 0) (hd : (desR s l).2 = true) {id : Int} {c : Wit} (hg : getW s id = some c) : rkI s (upI s l id) < rkI s id := by
 rcases up_some hd hg with h1 | ⟨p, h1, h2⟩
 ·rw [h1, rk_zero h]; exact rk_pos hg
 ·have h3 := why_hi h2
  have h4 := wit_lohi h (getW_mem hg).1
  unfold rkI; rw [h1, hg]
  exact filt_lt (fun w hw => by simp only [decide_eq_true_eq] at hw ⊢; omega) (getW_mem hg).1 (by simp) (by simp; omega)
def okI (s : List Wit) (id : Int) : Prop := id = 0 ∨ ∃ c, getW s id = some c
theorem up_ok {s : List Wit} {l : List Int} (hd : (desR s l).2 = true) {id : Int} {c : Wit} (hg : getW s id = some c) : okI s (upI s l id) := (up_some hd hg).imp (fun h => h) fun ⟨p, h, _⟩ => ⟨p, h⟩
theorem chN_zero (s : List Wit) (l : List Int) (n : Nat) : chN s l n 0 = [] := by cases n <;> simp [chN]
theorem chN_st {s : List Wit} {l : List Int} (h : checkS s = 0) (hd : (desR s l).2 = true) : ∀ n m id, okI s id → rkI s id ≤ n → rkI s id ≤ m → chN s l n id = chN s l m id := by
 intro n
 induction n with
 | zero =>
  intro m id ho h1 h2
  rcases ho with rfl | ⟨c, hg⟩
  ·rw [chN_zero, chN_zero]
  ·have := rk_pos hg; omega
 | succ n ih =>
  intro m id ho h1 h2
  rcases ho with rfl | ⟨c, hg⟩
  ·rw [chN_zero, chN_zero]
  ·have h3 := rk_pos hg
   obtain ⟨k, rfl⟩ : ∃ k, m = k + 1 := ⟨m - 1, by omega⟩
   have h4 := rk_up h hd hg
   unfold chN
   rw [ih k (upI s l id) (up_ok hd hg) (by omega) (by omega)]
theorem chI_zero (s : List Wit) (l : List Int) : chI s l 0 = [] := chN_zero s l _
theorem chI_step {s : List Wit} {l : List Int} (h : checkS s = 0) (hd : (desR s l).2 = true) {id : Int} {c : Wit} (hg : getW s id = some c) : chI s l id = id :: froI s l id := by
 have h0 : id ≠ 0 := fun h0 => by rw [h0, getW_zero h] at hg; cases hg
 have h3 := rk_pos hg
 have h4 := rk_up h hd hg
 unfold froI chI
 obtain ⟨k, hk⟩ : ∃ k, rkI s id = k + 1 := ⟨rkI s id - 1, by omega⟩
 rw [hk]
 show (if id = 0 then [] else id :: chN s l k (upI s l id)) = _
 rw [if_neg h0, chN_st h hd k (rkI s (upI s l id)) (upI s l id) (up_ok hd hg) (by omega) (Nat.le_refl _)]
theorem chI_len {s : List Wit} {l : List Int} (h : checkS s = 0) (hd : (desR s l).2 = true) (id : Int) : (chI s l id).length ≤ s.length := by
 have : ∀ n id, (chN s l n id).length ≤ n := by
  intro n
  induction n with
  | zero => intro id; simp [chN]
  | succ n ih =>
   intro id
   unfold chN
   split
   ·simp
   ·rw [List.length_cons]; have := ih (upI s l id); omega
 have h1 := this (rkI s id) id
 have h2 := rk_le s id
 unfold chI; omega
def askE (s : List Wit) (l : List Int) (id : Int) (text : Bool) : Int := if checkS s = 0 then (if getW s id = none ∧ (id ≠ 0 ∨ text = false) then 5 else if (desR s l).2 = true then 0 else 1) else checkS s
theorem askE_ok {s : List Wit} {l : List Int} {id : Int} {text : Bool} (h : askE s l id text = 0) : checkS s = 0 ∧ (desR s l).2 = true ∧ ((∃ c, getW s id = some c) ∨ id = 0 ∧ text = true) := by
 unfold askE at h
 split at h
 ·rename_i h0
  split at h
  ·cases h
  ·rename_i h1
   split at h
   ·rename_i h2
    refine ⟨h0, h2, ?_⟩
    cases hg : getW s id with
    | some c => exact .inl ⟨c, rfl⟩
    | none =>
     rw [hg] at h1
     refine .inr ⟨Decidable.by_contra fun h3 => h1 ⟨rfl, .inl h3⟩, ?_⟩
     cases text with
     | true => rfl
     | false => exact absurd ⟨rfl, .inr rfl⟩ h1
   ·cases h
 ·rename_i h0; exact absurd h h0
def froL (s : List Wit) (l : List Int) (id : Int) : List Int := if askE s l id false = 0 then froI s l id else []
def belB (s : List Wit) (l : List Int) (id : Int) (k : Int) : Bool := decide (id = 0) || decide (id ∈ froI s l k)
def belL (s : List Wit) (l : List Int) (id : Int) : List Int := if askE s l id true = 0 then (idsS s).filter (belB s l id) else []
end Go.Am.Ds
end
section
namespace Go.Am.Ds
open Go Go.Am Go.Proofs
set_option maxRecDepth 100000
set_option maxHeartbeats 4000000
set_option linter.unusedSimpArgs false
set_option linter.unusedVariables false
attribute [local simp] vrun vwanted vyielded vop vopA vputAll VHeap.back hidI hidF backL bm Nat.testBit_eq_decide_div_mod_eq veval vevals vparts vO vbuiltin vlen vappend velems vcopy vmakeSlice vbuildSlice valloc vbox vmakeMap vload vpartT vpart vstore vfieldAddr vfield vindexAddr vindex vextract vslice vsliceZ vbounds vbnd zeroO vidx vlookup vmget vmapUpdate vdelete vclear vnilq vnilp vnils vbin vsc vsc1 vscs vscl abinOp aint ashift aunOp aconvert amaxs amax2 pvcV pvc pvcs tput tget vargs VHeap.get VHeap.alloc VHeap.put VHeap.drop VHeap.empty vlook vput vdrop psplice pfill preps chunk List.range List.range.loop vresults vresult vresultV frz frzL PV.isF PV.allF PV.scal PV.allS retP subT allFT PV.one PV.ids PV.idsL dropL beq_eq ble_dec blt_dec
attribute [local simp] zW tup2
theorem any_memD (l : List Int) (v : Int) : (l.any fun a => decide (v = a)) = decide (v ∈ l) := by rw [Bool.eq_iff_iff]; simp
theorem p144d (l : List Int) (v : Int) (hl : l.length < 4294967296) : VPure Tryz.prog 144 [ints l, .int .i64 v] fun r => r = .bool (decide (v ∈ l)) := by
 have := p144 l v hl
 rw [any_memD] at this; exact this
theorem p142 (s : List Wit) (l : List Int) (m id : Int) (text : Bool) (hl : s.length < 65536) (hlL : l.length < 4611686018427387904) : VPure Tryz.prog 142 [encS s, .agg [ints l, .int .i64 m], .int .i64 id, .bool text] fun r => r = .int .i64 (askE s l id text) := by
 refine .of_body Tryz.func142 rfl rfl ?_
 refine .seq (.rn ?_)
 refine .seq (.seq ?_)
 refine .regionL [0,1,2] rfl zz0 ?_
 refine .rn [0] [1,2] ?_
 refine .pc rfl rfl rfl rfl rfl Tryz.call35 (p35 s (by omega)) ?_
 refine .rn [2] [] ?_
 refine .done (.seq (.rn ?_))
 refine .condS rfl (fun c15 => ?_) (fun c15 => ?_)
 ·try simp at c15
  refine .seq (.rn ?_)
  refine .ret ?_
  refine ⟨_, _, zz4,zz4, ?_⟩
  simp_all [askE]
 ·try simp at c15
  refine .skip (.seq (.seq ?_))
  refine .regionL [0,1,2,3,4,5,6,7,8,9,10,11] rfl zz0 ?_
  refine .rn [0,1] [2,3,4,5,6,7,8,9,10,11] ?_
  refine .pc rfl rfl rfl rfl rfl Tryz.call105 (p105' s id (by omega)) ?_
  refine .rn [3,4] [5,6,7,8,9,10,11] ?_
  refine .split (t := 21) rfl (fun c21 => ?_) (fun c21 => ?_)
  ·try rw [c21]
   try simp at c21
   have hn := getW_none c21
   refine .rn [5,6,7] [8,9,10,11] ?_
   refine .split (t := 24) rfl (fun c24 => ?_) (fun c24 => ?_)
   ·try rw [c24]
    try simp at c24
    refine .rn [8,9,10,11] [] ?_
    refine .done (.condT rfl (.seq (.rn ?_)))
    refine .ret ?_
    refine ⟨_, _, zz4,zz4, ?_⟩
    simp_all [askE]
   ·try rw [c24]
    try simp at c24
    refine .rn [8,9,10,11] [] ?_
    refine .done ?_
    refine .condS rfl (fun c28 => ?_) (fun c28 => ?_)
    ·try simp at c28
     refine .seq (.rn ?_)
     refine .ret ?_
     refine ⟨_, _, zz4,zz4, ?_⟩
     simp_all [askE]
    ·try simp at c28
     refine .skip (.seq (.seq ?_))
     refine .regionL [0,1,2,3,4,5,6,7,8] rfl zz0 ?_
     refine .rn [0,1,2] [3,4,5,6,7,8] ?_
     refine .pc rfl rfl rfl rfl rfl Tryz.call132 (p132 s l hl hlL (checkS_lens c15)) ?_
     refine .rn [4,5,6,7,8] [] ?_
     refine .done (.seq (.rn ?_))
     refine .condS rfl (fun c37 => ?_) (fun c37 => ?_)
     ·try simp at c37
      refine .seq (.rn ?_)
      refine .ret ?_
      refine ⟨_, _, zz4,zz4, ?_⟩
      simp_all [askE]
     ·try simp at c37
      refine .skip (.seq (.rn ?_))
      refine .ret ?_
      refine ⟨_, _, zz4,zz4, ?_⟩
      simp_all [askE]
  ·try rw [c21]
   try simp at c21
   obtain ⟨i, hi, hie, hga⟩ := getW_some (show 0 ≤ findI s id by omega)
   refine .rn [5,6,7,8,9,10,11] [] ?_
   refine .done (.condF rfl (.skip (.seq (.seq ?_))))
   refine .regionL [0,1,2,3,4,5,6,7,8] rfl zz0 ?_
   refine .rn [0,1,2] [3,4,5,6,7,8] ?_
   refine .pc rfl rfl rfl rfl rfl Tryz.call132 (p132 s l hl hlL (checkS_lens c15)) ?_
   refine .rn [4,5,6,7,8] [] ?_
   refine .done (.seq (.rn ?_))
   refine .condS rfl (fun c37 => ?_) (fun c37 => ?_)
   ·try simp at c37
    refine .seq (.rn ?_)
    refine .ret ?_
    refine ⟨_, _, zz4,zz4, ?_⟩
    simp_all [askE]
   ·try simp at c37
    refine .skip (.seq (.rn ?_))
    refine .ret ?_
    refine ⟨_, _, zz4,zz4, ?_⟩
    simp_all [askE]
theorem p143 (s : List Wit) (l : List Int) (m id : Int) (c : Wit) (h : checkS s = 0) (hd : (desR s l).2 = true) (hg : getW s id = some c) : VPure Tryz.prog 143 [encS s, .agg [ints l, .int .i64 m], .int .i64 id] fun r => r = ints (froI s l id) := by
 have hl24 := (checkS_ok h).1
 obtain ⟨i, hi, hi2, hie, hci, hup⟩ := up_at hd hg
 refine .of_body Tryz.func143 rfl rfl ?_
 refine .seq (.rn ?_)
 refine .seq (.rn ?_)
 refine .seq (.seq ?_)
 refine .drawn (ms := [0,1,0,0,12,31,63,127]) (W := [4]) (items := [.op 0, .op 1, .op 2, .op 3, .op 4, .ck 1, .op 5, .op 6, .op 7]) rfl zz0 zz0 zz0 ?_
 refine .rx ?_
 refine .rx ?_
 refine .rx ?_
 refine .rx ?_
 refine .wp rfl rfl rfl rfl rfl Tryz.call105 ((by have h := p105' s id (by omega); rw [hie] at h; exact h)) ?_
 refine .ck rfl zz0 ?_
 refine .rx ?_
 refine .rx ?_
 refine .rx ?_
 refine .done (.block ?_)
 refine .loopS (fun st : List Int × Int => ([(2, .int .i64 st.2),(3, .ptr 0 0),(4, .ptr 1 0),(7, .grow 2 st.1.length true)], ⟨3,[(2, .grow 1 (st.1.map (.int .i64))),(1, .box [ints l, .int .i64 m]),(0, .box [.vec (s.map encW)])]⟩)) (fun st => okI s st.2 ∧ froI s l id = st.1 ++ chI s l st.2) (fun st => rkI s st.2) ([], upI s l id) ⟨up_ok hd hg, rfl⟩ (.mk [] [] zz14 zz15 rfl rfl rfl) ?_
 rintro ⟨o, x⟩ ⟨hx, ho⟩
 simp only at hx ho ⊢
 have hol : o.length ≤ 24 := by
  have h1 := chI_len h hd (upI s l id)
  have h2 : (froI s l id).length = o.length + (chI s l x).length := by rw [ho, List.length_append]
  unfold froI at h2; omega
 refine .seq (.seq (.rn ?_))
 refine .condS rfl (fun c16 => ?_) (fun c16 => ?_)
 ·try simp at c16
  obtain ⟨c2, hg2⟩ := hx.resolve_left c16
  obtain ⟨i2, hi3, hi4, hie2, hci2, hup2⟩ := up_at hd hg2
  have hone : allOne [PV.int IntKind.i64 x] = true := rfl
  have hb : o.length ≤ 4294967295 := by omega
  have hrk := rk_up h hd hg2
  refine .skip (.seq (.block (.rn ?_)))
  refine .drawn (ms := [0,1,0,0,12,31,63,127]) (W := [4]) (items := [.op 0, .op 1, .op 2, .op 3, .op 4, .ck 1, .op 5, .op 6, .op 7]) rfl zz0 zz0 zz0 ?_
  refine .rx ?_
  refine .rx ?_
  refine .rx ?_
  refine .rx ?_
  refine .wp rfl rfl rfl rfl rfl Tryz.call105 ((by have h := p105' s x (by omega); rw [hie2] at h; exact h)) ?_
  refine .ck rfl zz0 ?_
  refine .rx ?_
  refine .rx ?_
  refine .rx ?_
  refine .done ?_
  refine ⟨(o ++ [x], upI s l x), ⟨up_ok hd hg2, by rw [ho, chI_step h hd hg2]; simp [froI]⟩, hrk, (.mk [] [(2,4)] zz14 zz15 rfl rfl rfl)⟩
 ·try simp at c16
  have hfr : froI s l id = o := by rw [ho, c16, chI_zero, List.append_nil]
  refine .exit (.seq (.rn ?_))
  refine .ret ?_
  refine ⟨_, _, zz4,zz4, ?_⟩
  first | rfl | (simp [*]; done) | (simp_all; done)
theorem p71 (s : List Wit) (l : List Int) (m id : Int) (hl : s.length < 65536) (hlL : l.length < 4611686018427387904) : VPure Tryz.prog 71 [encS s, .agg [ints l, .int .i64 m], .int .i64 id] fun r => Soft r (.tup [ints (froL s l id), .int .i64 (askE s l id false)]) := by
 refine .of_body Tryz.func71 rfl rfl ?_
 refine .seq (.rn ?_)
 refine .seq (.seq ?_)
 refine .regionL [0,1,2,3,4] rfl zz0 ?_
 refine .rn [0,1,2] [3,4] ?_
 refine .pc rfl rfl rfl rfl rfl Tryz.call142 (p142 s l m id false hl hlL) ?_
 refine .rn [4] [] ?_
 refine .done (.seq (.rn ?_))
 refine .condS rfl (fun c14 => ?_) (fun c14 => ?_)
 ·try simp at c14
  refine .seq (.rn ?_)
  refine .ret ?_
  refine ⟨_, _, zz4,zz4, ?_⟩
  rw [show froL s l id = [] by unfold froL; rw [if_neg c14]]
  exact soft_tup (AltL.cons .sl0v (AltL.cons (.same _ rfl) AltL.nil))
 ·try simp at c14
  obtain ⟨h0, hd, hor⟩ := askE_ok c14
  obtain ⟨c, hg⟩ := hor.resolve_right (fun h => by cases h.2)
  have hfr : froL s l id = froI s l id := by unfold froL; rw [if_pos c14]
  refine .skip (.seq ?_)
  refine .regionL [0,1,2,3,4,5] rfl zz0 ?_
  refine .rn [0,1,2] [3,4,5] ?_
  refine .pc rfl rfl rfl rfl rfl Tryz.call143 (p143 s l m id c h0 hd hg) ?_
  refine .rn [4,5] [] ?_
  refine .done (.ret ?_)
  refine ⟨_, _, zz4,zz4, ?_⟩
  rw [hfr, c14]
  exact soft_rfl rfl
theorem p72 (s : List Wit) (l : List Int) (m id : Int) (hl : s.length < 65536) (hlL : l.length < 4611686018427387904) : VPure Tryz.prog 72 [encS s, .agg [ints l, .int .i64 m], .int .i64 id] fun r => Soft r (.tup [ints (belL s l id), .int .i64 (askE s l id true)]) := by
 refine .of_body Tryz.func72 rfl rfl ?_
 refine .seq (.rn ?_)
 refine .seq (.seq ?_)
 refine .regionL [0,1,2,3,4] rfl zz0 ?_
 refine .rn [0,1,2] [3,4] ?_
 refine .pc rfl rfl rfl rfl rfl Tryz.call142 (p142 s l m id true hl hlL) ?_
 refine .rn [4] [] ?_
 refine .done (.seq (.rn ?_))
 refine .condS rfl (fun c17 => ?_) (fun c17 => ?_)
 ·try simp at c17
  refine .seq (.rn ?_)
  refine .ret ?_
  refine ⟨_, _, zz4,zz4, ?_⟩
  rw [show belL s l id = [] by unfold belL; rw [if_neg c17]]
  exact soft_tup (AltL.cons .sl0v (AltL.cons (.same _ rfl) AltL.nil))
 ·try simp at c17
  obtain ⟨h0, hd, _⟩ := askE_ok c17
  have hl24 := (checkS_ok h0).1
  have hidl := idsS_len s
  refine .skip (.seq (.rn ?_))
  refine .seq (.seq ?_)
  refine .regionL [0,1,2,3] rfl zz0 ?_
  refine .rn [0] [1,2,3] ?_
  refine .pc rfl rfl rfl rfl rfl Tryz.call99 (p99' s (by omega)) ?_
  refine .rn [2,3] [] ?_
  refine .done (.block ?_)
  refine .loopS (fun k : Nat => ([(2, .int .i64 id),(3, .ptr 0 0),(4, .ptr 1 0),(9, .grow 2 ((idsS s).take k |>.filter (belB s l id)).length true),(20, ints (idsS s)),(21, .int .i64 (idsS s).length),(22, .int .i64 k)], ⟨3,[(2, .grow 1 (((idsS s).take k |>.filter (belB s l id)).map (.int .i64))),(1, .box [ints l, .int .i64 m]),(0, .box [.vec (s.map encW)])]⟩)) (fun k => k ≤ (idsS s).length) (fun k => (idsS s).length - k) 0 (by simp) (.mk [] [] zz14 zz15 rfl rfl rfl) ?_
  rintro k hk
  simp only at hk ⊢
  clear hidl
  refine .seq (.rn ?_)
  refine .seq ?_
  refine .condS rfl (fun c23 => ?_) (fun c23 => ?_)
  ·try simp at c23
   have hidl := idsS_len s
   have hw2 := wr1 k
   obtain ⟨i, hi, hie, hga⟩ := getW_some (find_ids (List.getElem_mem c23))
   have hle : ((idsS s).take k |>.filter (belB s l id)).length ≤ k := Nat.le_trans (List.length_filter_le _ _) (by simp; omega)
   have hb : ((idsS s).take k |>.filter (belB s l id)).length ≤ 4294967295 := by omega
   have hone : allOne [PV.int IntKind.i64 (idsS s)[k]] = true := rfl
   have hT := take_succ_filt (belB s l id) (idsS s) k c23
   clear hidl
   have hfl : (froI s l (idsS s)[k]).length < 4294967296 := by have := chI_len h0 hd (upI s l (idsS s)[k]); unfold froI; omega
   refine .skip (.seq (.block (.seq (.rn ?_))))
   refine .seq ?_
   refine .regionL [0,1,2,3,4,5,6,7,8,9] rfl zz0 ?_
   refine .rn [0,1,2] [3,4,5,6,7,8,9] ?_
   refine .split (t := 28) rfl (fun c28 => ?_) (fun c28 => ?_)
   ·try rw [c28]
    try simp at c28
    subst c28
    rw [if_pos (by simp [belB])] at hT
    refine .rn [3,4,5,6,7,8,9] [] ?_
    refine .done (.condT rfl (.rn ?_))
    refine .rn ?_
    refine ⟨k + 1, c23,zz5,(.mk [] [(2,4)] zz14 zz15 rfl rfl rfl)⟩
   ·try rw [c28]
    try simp at c28
    refine .rn [3,4,5] [6,7,8,9] ?_
    refine .pc rfl rfl rfl rfl rfl Tryz.call143 (p143 s l m (idsS s)[k] s[i] h0 hd hga) ?_
    refine .rn [7] [8,9] ?_
    refine .pc rfl rfl rfl rfl rfl Tryz.call144 (p144d _ id (by omega)) ?_
    refine .rn [9] [] ?_
    refine .done ?_
    refine .condS rfl (fun c35 => ?_) (fun c35 => ?_)
    ·try simp at c35
     rw [if_pos (by simp [belB, c35])] at hT
     refine .rn ?_
     refine .rn ?_
     refine ⟨k + 1, c23,zz5,(.mk [] [(2,4)] zz14 zz15 rfl rfl rfl)⟩
    ·try simp at c35
     rw [if_neg (by simp [belB, c35, c28])] at hT
     refine .skip (.rn ?_)
     refine ⟨k + 1, c23,zz5,(.mk [] [] zz14 zz15 rfl rfl rfl)⟩
  ·try simp at c23
   have hk2 : k = (idsS s).length := by omega
   subst hk2
   refine .exit (.seq (.rn ?_))
   refine .ret ?_
   refine ⟨_, _, zz4,zz4, ?_⟩
   rw [show belL s l id = (idsS s).filter (belB s l id) by unfold belL; rw [if_pos c17], c17]
   exact soft_rfl rfl
theorem p71' (s : List Wit) (l : List Int) (m id : Int) (hl : s.length < 65536) (hlL : l.length < 4611686018427387904) : VPure Tryz.prog 71 [encS s, .agg [ints l, .int .i64 m], .int .i64 id] fun r => r = .tup [ints (froL s l id), .int .i64 (askE s l id false)] := VPure.soft (p71 s l m id hl hlL) rfl
theorem p72' (s : List Wit) (l : List Int) (m id : Int) (hl : s.length < 65536) (hlL : l.length < 4611686018427387904) : VPure Tryz.prog 72 [encS s, .agg [ints l, .int .i64 m], .int .i64 id] fun r => r = .tup [ints (belL s l id), .int .i64 (askE s l id true)] := VPure.soft (p72 s l m id hl hlL) rfl
end Go.Am.Ds
end
section
namespace Go.Am.Ds
open Go Go.Am Go.Proofs
theorem nodup_sub : ∀ {l m : List Int}, l.Nodup → (∀ x ∈ l, x ∈ m) → l.length ≤ m.length
 | [], _, _, _ => Nat.zero_le _
 | a :: r, m, hn, h => by
  rw [List.nodup_cons] at hn
  have ha := h a List.mem_cons_self
  have ih := nodup_sub (l := r) (m := m.erase a) hn.2 fun x hx => (List.mem_erase_of_ne (by rintro rfl; exact hn.1 hx)).2 (h x (List.mem_cons_of_mem _ hx))
  rw [List.length_erase_of_mem ha] at ih
  have := List.length_pos_iff.2 (List.ne_nil_of_mem ha)
  rw [List.length_cons]; omega
theorem foldM_mem (k : Nat) : ∀ (l : List Int) (es : List (Int × Int)) (n : Int), n ∈ (l.foldl (putM k) es).map (·.1) ↔ n ∈ es.map (·.1) ∨ n ∈ l
 | [], es, n => by simp
 | a :: r, es, n => by
  rw [List.foldl_cons, foldM_mem k r, putM, setM_mem, List.mem_cons]
  constructor
  ·rintro ((h | h) | h)
   ·exact .inl h
   ·exact .inr (.inl h)
   ·exact .inr (.inr h)
  ·rintro (h | h | h)
   ·exact .inl (.inl h)
   ·exact .inl (.inr h)
   ·exact .inr h
theorem foldM_nodup (k : Nat) : ∀ (l : List Int) (es : List (Int × Int)),(es.map (·.1)).Nodup → ((l.foldl (putM k) es).map (·.1)).Nodup
 | [], _, h => h
 | a :: r, es, h => by rw [List.foldl_cons]; exact foldM_nodup k r _ (setM_nodup h _ _)
theorem heldM_mem {s : List Wit} {n : Int} : n ∈ (heldM s).map (·.1) ↔ ∃ w ∈ s, n ∈ w.slips := by
 have : ∀ (l : List Wit) (es : List (Int × Int)), n ∈ (l.foldl (heldF s) es).map (·.1) ↔ n ∈ es.map (·.1) ∨ ∃ w ∈ l, n ∈ w.slips := by
  intro l
  induction l with
  | nil => intro es; simp
  | cons a r ih =>
   intro es
   rw [List.foldl_cons, ih, heldF, foldM_mem]
   constructor
   ·rintro ((h | h) | ⟨w, h1, h2⟩)
    ·exact .inl h
    ·exact .inr ⟨a, List.mem_cons_self, h⟩
    ·exact .inr ⟨w, List.mem_cons_of_mem _ h1, h2⟩
   ·rintro (h | ⟨w, h1, h2⟩)
    ·exact .inl (.inl h)
    ·rcases List.mem_cons.1 h1 with rfl | h1
     ·exact .inl (.inr h2)
     ·exact .inr ⟨w, h1, h2⟩
 unfold heldM
 rw [this]; simp
theorem heldM_nodup (s : List Wit) : ((heldM s).map (·.1)).Nodup := by
 have : ∀ (l : List Wit) (es : List (Int × Int)),(es.map (·.1)).Nodup → ((l.foldl (heldF s) es).map (·.1)).Nodup := by
  intro l
  induction l with
  | nil => intro es h; exact h
  | cons a r ih => intro es h; exact ih _ (foldM_nodup _ _ _ h)
 exact this s [] (by simp)
theorem heldM_len {s : List Wit} (h : checkS s = 0) : (heldM s).length ≤ 24 * 30 := by
 obtain ⟨h1, h2⟩ := checkS_ok h
 have e1 : ((heldM s).map (·.1)).length ≤ (s.flatMap Wit.slips).length := nodup_sub (heldM_nodup s) fun x hx => by
  obtain ⟨w, hw, hx⟩ := heldM_mem.1 hx
  exact List.mem_flatMap.2 ⟨w, hw, hx⟩
 have e2 : ∀ l : List Wit, (∀ w ∈ l, w.slips.length ≤ 30) → (l.flatMap Wit.slips).length ≤ l.length * 30 := by
  intro l
  induction l with
  | nil => intro _; simp
  | cons a r ih =>
   intro h3
   have := ih fun w hw => h3 w (List.mem_cons_of_mem _ hw)
   have := h3 a List.mem_cons_self
   rw [List.flatMap_cons, List.length_append, List.length_cons]; omega
 have e3 := e2 s fun w hw => (witE_len (h2 w hw)).1
 have e4 : s.length * 30 ≤ 24 * 30 := Nat.mul_le_mul_right 30 h1
 rw [List.length_map] at e1; omega
def slipsL (s : List Wit) : List Int := ((heldM s).map (·.1)).mergeSort fun x y => decide (x ≤ y)
theorem slipsL_len (s : List Wit) : (slipsL s).length = (heldM s).length := by simp [slipsL]
theorem slipsL_mem {s : List Wit} {n : Int} : n ∈ slipsL s ↔ ∃ w ∈ s, n ∈ w.slips := by
 unfold slipsL; rw [List.mem_mergeSort, heldM_mem]
theorem kvM_keys (l : List (Int × Int)) : (kvM l).map (·.1) = l.map (·.1) := by unfold kvM; rw [List.map_map]; rfl
end Go.Am.Ds
end
section
namespace Go.Am.Ds
open Go Go.Am Go.Proofs
set_option maxRecDepth 100000
set_option maxHeartbeats 4000000
set_option linter.unusedSimpArgs false
set_option linter.unusedVariables false
attribute [local simp] vrun vwanted vyielded vop vopA vputAll VHeap.back hidI hidF backL bm Nat.testBit_eq_decide_div_mod_eq veval vevals vparts vO vbuiltin vlen vappend velems vcopy vmakeSlice vbuildSlice valloc vbox vmakeMap vload vpartT vpart vstore vfieldAddr vfield vindexAddr vindex vextract vslice vsliceZ vbounds vbnd zeroO vidx vlookup vmget vmapUpdate vdelete vclear vnilq vnilp vnils vbin vsc vsc1 vscs vscl abinOp aint ashift aunOp aconvert amaxs amax2 pvcV pvc pvcs tput tget vargs VHeap.get VHeap.alloc VHeap.put VHeap.drop VHeap.empty vlook vput vdrop psplice pfill preps chunk List.range List.range.loop vresults vresult vresultV frz frzL PV.isF PV.allF PV.scal PV.allS retP subT allFT PV.one PV.ids PV.idsL dropL beq_eq ble_dec blt_dec
attribute [local simp] zW tup2
attribute [local simp] zW tup2
def tiP (s : List Wit) (slip : Int) (w : Wit) (q : Nat) : Nat := ((choF s w).1.take q).countP fun p => decide (slip ∈ frS s w p)
def tiW (s : List Wit) (slip : Int) (w : Wit) : Nat := (choF s w).1.countP fun p => decide (slip ∈ frS s w p)
def surB (s : List Wit) (slip id : Int) : Bool := match getW s id with
 | some w => decide (tiW s slip w = (choF s w).1.length)
 | none => false
def mayI (s : List Wit) (slip id : Int) : Bool := match getW s id with
 | some w => decide (0 < tiW s slip w)
 | none => false
def surL (s : List Wit) (slip : Int) : List Int := (idsS s).filter (surB s slip)
def mayL (s : List Wit) (slip : Int) : List Int := (idsS s).filter (mayI s slip)
theorem tiP_succ (s : List Wit) (slip : Int) (w : Wit) (q : Nat) (h : q < (choF s w).1.length) : tiP s slip w (q + 1) = tiP s slip w q + if slip ∈ frS s w (choF s w).1[q] then 1 else 0 := by
 unfold tiP
 rw [List.take_succ_eq_append_getElem h, List.countP_append]
 congr 1
 simp [List.countP_cons]
theorem tiP_le (s : List Wit) (slip : Int) (w : Wit) (q : Nat) : tiP s slip w q ≤ q := by
 unfold tiP
 exact Nat.le_trans List.countP_le_length (by simp; omega)
theorem tiP_all (s : List Wit) (slip : Int) (w : Wit) : tiP s slip w (choF s w).1.length = tiW s slip w := by unfold tiP tiW; rw [List.take_length]
theorem cho_fr {s : List Wit} (h : checkS s = 0) {w : Wit} {p : Int} (hp : p ∈ (choF s w).1) : (getW s p = none ∧ frS s w p = w.slips) ∨ ∃ pw, getW s p = some pw ∧ frS s w p = ariS w pw := by
 rcases parS_mem.1 (choF_mem hp) with ⟨h1, _⟩ | ⟨pw, _, h2, _⟩
 ·injection h1 with h1 _
  subst h1
  exact .inl ⟨getW_zero h, by unfold frS; rw [if_pos rfl]⟩
 ·simp only at h2
  have h0 : p ≠ 0 := fun h0 => by rw [h0, getW_zero h] at h2; cases h2
  exact .inr ⟨pw, h2, by unfold frS; rw [if_neg h0, atI, h2]; rfl⟩
theorem p127 (l : List (Int × Int)) (n : Int) : VPure Tryz.prog 127 [.vmap (kvs (kvM l)), .int .i64 n] fun r => r = .bool (decide (n ∈ l.map (·.1))) := by
 have hp := pfind_kvM n l
 have hm : decide (n ∈ l.map (·.1)) = (getM l n).isSome := by rw [Bool.eq_iff_iff, getM_mem, decide_eq_true_eq]
 rw [hm]
 generalize getM l n = g at hp ⊢
 refine .of_body Tryz.func127 rfl rfl ?_
 rcases g with _ | v
 ·
  refine .seq (.rn ?_)
  refine .seq (.rn ?_)
  refine .seq (.rn ?_)
  refine .ret ?_
  refine ⟨_, _, zz4,zz4, ?_⟩
  first | rfl | (simp [*]; done) | (simp_all; done)
 ·
  refine .seq (.rn ?_)
  refine .seq (.rn ?_)
  refine .seq (.rn ?_)
  refine .ret ?_
  refine ⟨_, _, zz4,zz4, ?_⟩
  first | rfl | (simp [*]; done) | (simp_all; done)
theorem p140 (s : List Wit) (slip : Int) (hch : chE s = 0) : VPure Tryz.prog 140 [encS s, .vec ((chL s).map encC), .int .i64 slip] fun r => Soft r (.tup [ints (surL s slip), ints (mayL s slip)]) := by
 have h0 := (chE_ok hch).1
 have hl24 := (checkS_ok h0).1
 refine .of_body Tryz.func140 rfl rfl ?_
 refine .seq (.rn ?_)
 refine .seq (.rn ?_)
 refine .seq (.seq ?_)
 refine .regionL [0,1,2,3] rfl zz0 ?_
 refine .rn [0] [1,2,3] ?_
 refine .pc rfl rfl rfl rfl rfl Tryz.call99 (p99' s (by omega)) ?_
 refine .rn [2,3] [] ?_
 refine .done (.block ?_)
 refine .loopS (fun k : Nat => ([(1, .vec ((chL s).map encC)),(2, .int .i64 slip),(3, .ptr 0 0),(8, .grow 1 ((idsS s).take k |>.filter (surB s slip)).length true),(9, .grow 2 ((idsS s).take k |>.filter (mayI s slip)).length true),(17, ints (idsS s)),(18, .int .i64 (idsS s).length),(19, .int .i64 k)], ⟨3,[(2, .grow 1 (((idsS s).take k |>.filter (mayI s slip)).map (.int .i64))),(1, .grow 1 (((idsS s).take k |>.filter (surB s slip)).map (.int .i64))),(0, .box [.vec (s.map encW)])]⟩)) (fun k => k ≤ (idsS s).length) (fun k => (idsS s).length - k) 0 (by simp) (.mk [] [] zz14 zz15 rfl rfl rfl) ?_
 rintro k hk
 simp only at hk ⊢
 refine .seq (.rn ?_)
 refine .seq ?_
 refine .condS rfl (fun c20 => ?_) (fun c20 => ?_)
 ·try simp at c20
  have hk24 : k < 24 := by have := idsS_len s; omega
  have hw2 := wr1 k
  obtain ⟨j, hj, hje, hgb⟩ := getW_some (find_ids (List.getElem_mem c20))
  obtain ⟨hj2, hcj⟩ := chL_at2 hch hj
  have hE : encC (choF s s[j]) = .agg [ints (choF s s[j]).1, .int .i64 (choF s s[j]).2] := rfl
  have hcl : (choF s s[j]).1.length ≤ 25 := by rw [← chP_all]; have := chP_len s s[j] (idsS s).length; have := idsS_len s; omega
  have hle1 : ((idsS s).take k |>.filter (surB s slip)).length ≤ k := Nat.le_trans (List.length_filter_le _ _) (by simp; omega)
  have hle2 : ((idsS s).take k |>.filter (mayI s slip)).length ≤ k := Nat.le_trans (List.length_filter_le _ _) (by simp; omega)
  have hb1 : ((idsS s).take k |>.filter (surB s slip)).length ≤ 4294967295 := by omega
  have hb2 : ((idsS s).take k |>.filter (mayI s slip)).length ≤ 4294967295 := by omega
  have hone : allOne [PV.int IntKind.i64 (idsS s)[k]] = true := rfl
  have hT1 := take_succ_filt (surB s slip) (idsS s) k c20
  have hT2 := take_succ_filt (mayI s slip) (idsS s) k c20
  have hEj := encW_e s[j]
  obtain ⟨hw1, _, _⟩ := checkS_lens h0 s[j] (List.getElem_mem hj)
  refine .skip (.seq (.block (.seq (.rn ?_))))
  refine .seq ?_
  refine .regionL [0,1,2,3] rfl zz0 ?_
  refine .rn [0,1] [2,3] ?_
  refine .pc rfl rfl rfl rfl rfl Tryz.call105 ((by have h := p105' s (idsS s)[k] (by omega); rw [hje] at h; exact h)) ?_
  refine .rn [3] [] ?_
  refine .done (.seq (.rn ?_))
  refine .seq (.seq (.rn ?_))
  refine .block ?_
  refine .loopS (fun q : Nat => ([(1, .vec ((chL s).map encC)),(2, .int .i64 slip),(3, .ptr 0 0),(8, .grow 1 ((idsS s).take k |>.filter (surB s slip)).length true),(9, .grow 2 ((idsS s).take k |>.filter (mayI s slip)).length true),(11, .int .i64 (idsS s)[k]),(12, .int .i64 j),(13, .int .i64 (tiP s slip s[j] q)),(17, ints (idsS s)),(18, .int .i64 (idsS s).length),(19, .int .i64 k),(30, ints (choF s s[j]).1),(31, .int .i64 (choF s s[j]).1.length),(32, .int .i64 q)], ⟨3,[(2, .grow 1 (((idsS s).take k |>.filter (mayI s slip)).map (.int .i64))),(1, .grow 1 (((idsS s).take k |>.filter (surB s slip)).map (.int .i64))),(0, .box [.vec (s.map encW)])]⟩)) (fun q => q ≤ (choF s s[j]).1.length) (fun q => (choF s s[j]).1.length - q) 0 (by simp [tiP]) (.mk [] [] zz14 zz15 rfl rfl rfl) ?_
  rintro q hq
  simp only at hq ⊢
  have htl := tiP_le s slip s[j] q
  refine .seq (.rn ?_)
  refine .seq ?_
  refine .condS rfl (fun c33 => ?_) (fun c33 => ?_)
  ·try simp at c33
   have hw3 := wr1 q
   have hw4 : IntKind.i64.wrap ((tiP s slip s[j] q : Int) + 1) = (tiP s slip s[j] q : Int) + 1 := wrap64 (by omega) (by omega)
   have hS := tiP_succ s slip s[j] q c33
   have hcf := cho_fr h0 (List.getElem_mem c33)
   rcases hcf with ⟨hg, hfr⟩ | ⟨pw, hg, hfr⟩
   ·skip
    refine .skip (.seq (.block (.seq (.rn ?_))))
    refine .seq ?_
    refine .drawn (ms := [0,1,0,7,15,0,0,96,255,0,1023]) (W := [7,8,10]) (items := [.op 0, .op 1, .op 2, .op 3, .op 4, .op 5, .op 6, .op 9, .op 7, .ck 4, .ck 1, .op 8, .op 10]) rfl zz0 zz0 zz0 ?_
    refine .rx ?_
    refine .rx ?_
    refine .rx ?_
    refine .rx ?_
    refine .rx ?_
    refine .rx ?_
    refine .rx ?_
    refine .rx ?_
    refine .wp rfl rfl rfl rfl rfl Tryz.call173 ((by have h := p173 s (choF s s[j]).1[q] (by omega); rw [parR_none hg] at h; exact h)) ?_
    refine .ck rfl zz0 ?_
    refine .ck rfl zz0 ?_
    refine .wp rfl rfl rfl rfl rfl Tryz.call109 (p109a s[j]) ?_
    refine .wp rfl rfl rfl rfl rfl Tryz.call144 (p144d s[j].slips slip (by omega)) ?_
    refine .done ?_
    refine .condS rfl (fun c46 => ?_) (fun c46 => ?_)
    ·try simp at c46
     rw [hfr, if_pos c46] at hS
     refine .rn ?_
     refine .rn ?_
     refine ⟨q + 1, c33,zz5,(.mk [] [] zz14 zz15 rfl rfl rfl)⟩
    ·try simp at c46
     rw [hfr, if_neg c46] at hS
     refine .skip (.rn ?_)
     refine ⟨q + 1, c33,zz5,(.mk [] [] zz14 zz15 rfl rfl rfl)⟩
   ·skip
    refine .skip (.seq (.block (.seq (.rn ?_))))
    refine .seq ?_
    refine .drawn (ms := [0,1,0,7,15,0,0,96,255,0,1023]) (W := [7,8,10]) (items := [.op 0, .op 1, .op 2, .op 3, .op 4, .op 5, .op 6, .op 9, .op 7, .ck 4, .ck 1, .op 8, .op 10]) rfl zz0 zz0 zz0 ?_
    refine .rx ?_
    refine .rx ?_
    refine .rx ?_
    refine .rx ?_
    refine .rx ?_
    refine .rx ?_
    refine .rx ?_
    refine .rx ?_
    refine .wp rfl rfl rfl rfl rfl Tryz.call173 ((by have h := p173 s (choF s s[j]).1[q] (by omega); rw [parR_some hg] at h; exact h)) ?_
    refine .ck rfl zz0 ?_
    refine .ck rfl zz0 ?_
    refine .wp rfl rfl rfl rfl rfl Tryz.call109 (p109 s[j] pw hw1 (checkS_lens h0 pw (getW_mem hg).1).1) ?_
    refine .wp rfl rfl rfl rfl rfl Tryz.call144 (p144d (ariS s[j] pw) slip (by have := ariS_len s[j] pw; omega)) ?_
    refine .done ?_
    refine .condS rfl (fun c46 => ?_) (fun c46 => ?_)
    ·try simp at c46
     rw [hfr, if_pos c46] at hS
     refine .rn ?_
     refine .rn ?_
     refine ⟨q + 1, c33,zz5,(.mk [] [] zz14 zz15 rfl rfl rfl)⟩
    ·try simp at c46
     rw [hfr, if_neg c46] at hS
     refine .skip (.rn ?_)
     refine ⟨q + 1, c33,zz5,(.mk [] [] zz14 zz15 rfl rfl rfl)⟩
  ·try simp at c33
   have hq2 : q = (choF s s[j]).1.length := by omega
   subst hq2
   have hall := tiP_all s slip s[j]
   refine .exit (.seq (.seq (.rn ?_)))
   refine .condS rfl (fun c51 => ?_) (fun c51 => ?_)
   ·try simp at c51
    rw [if_pos (by unfold mayI; rw [hgb]; simp only [decide_eq_true_eq]; omega)] at hT2
    refine .rn ?_
    refine .seq (.rn ?_)
    refine .condS rfl (fun c63 => ?_) (fun c63 => ?_)
    ·try simp at c63
     rw [if_pos (by unfold surB; rw [hgb]; simp only [decide_eq_true_eq]; omega)] at hT1
     refine .rn ?_
     refine .rn ?_
     refine ⟨k + 1, c20,zz5,(.mk [] [(1,6),(2,4)] zz14 zz15 rfl rfl rfl)⟩
    ·try simp at c63
     rw [if_neg (by unfold surB; rw [hgb]; simp only [decide_eq_true_eq]; omega)] at hT1
     refine .skip (.rn ?_)
     refine ⟨k + 1, c20,zz5,(.mk [] [(2,4)] zz14 zz15 rfl rfl rfl)⟩
   ·try simp at c51
    rw [if_neg (by unfold mayI; rw [hgb]; simp only [decide_eq_true_eq]; omega)] at hT2
    refine .skip (.seq (.rn ?_))
    refine .condS rfl (fun c63 => ?_) (fun c63 => ?_)
    ·try simp at c63
     rw [if_pos (by unfold surB; rw [hgb]; simp only [decide_eq_true_eq]; omega)] at hT1
     refine .rn ?_
     refine .rn ?_
     refine ⟨k + 1, c20,zz5,(.mk [] [(1,4)] zz14 zz15 rfl rfl rfl)⟩
    ·try simp at c63
     rw [if_neg (by unfold surB; rw [hgb]; simp only [decide_eq_true_eq]; omega)] at hT1
     refine .skip (.rn ?_)
     refine ⟨k + 1, c20,zz5,(.mk [] [] zz14 zz15 rfl rfl rfl)⟩
 ·try simp at c20
  have hk2 : k = (idsS s).length := by omega
  subst hk2
  refine .exit (.seq (.rn ?_))
  refine .ret ?_
  refine ⟨_, _, zz4,zz4, ?_⟩
  exact soft_rfl rfl
theorem p140' (s : List Wit) (slip : Int) (hch : chE s = 0) : VPure Tryz.prog 140 [encS s, .vec ((chL s).map encC), .int .i64 slip] fun r => r = .tup [ints (surL s slip), ints (mayL s slip)] := VPure.soft (p140 s slip hch) rfl
def twL (s : List Wit) : List Int := (slipsL s).filter fun n => decide (2 ≤ (surL s n).length)
end Go.Am.Ds
end
section
namespace Go.Am.Ds
open Go Go.Am Go.Proofs
def hdB (s : List Wit) (p : Wit → Bool) (id : Int) : Bool := match getW s id with
 | some w => p w
 | none => false
def hdS (s : List Wit) (p : Wit → Bool) : List Int := (idsS s).filter (hdB s p)
def hasP (n : Int) (w : Wit) : Bool := decide (n ∈ w.slips)
theorem hdS_mem {s : List Wit} (h : checkS s = 0) {p : Wit → Bool} {id : Int} : id ∈ hdS s p ↔ hdB s p id = true := by
 unfold hdS
 rw [List.mem_filter]
 refine ⟨fun h1 => h1.2, fun h1 => ⟨?_, h1⟩⟩
 unfold hdB at h1
 cases hg : getW s id with
 | none => rw [hg] at h1; cases h1
 | some w =>
  obtain ⟨hw, hi⟩ := getW_mem hg
  exact idsS_mem.2 ⟨w, hw, hi⟩
def hoF (s : List Wit) (n : Int) (k : Nat) : List Int := (s.take k).foldl (fun o w => if hasP n w = true then putS o w.id else o) []
theorem hoF_succ (s : List Wit) (n : Int) (k : Nat) (h : k < s.length) : hoF s n (k + 1) = if hasP n s[k] = true then putS (hoF s n k) s[k].id else hoF s n k := by
 unfold hoF; rw [List.take_succ_eq_append_getElem h, List.foldl_append]; rfl
theorem hoF_len (s : List Wit) (n : Int) : ∀ k, k ≤ s.length → (hoF s n k).length ≤ k
 | 0, _ => by simp [hoF]
 | k + 1, h => by
  rw [hoF_succ s n k (by omega)]
  have := hoF_len s n k (by omega)
  split
  ·have := putS_len (hoF s n k) s[k].id; omega
  ·omega
theorem hoF_all {s : List Wit} (h : checkS s = 0) (n : Int) : hoF s n s.length = hdS s (hasP n) := by
 unfold hoF
 rw [List.take_length]
 have h1 : ∀ (l : List Wit) (o : List Int), o.Pairwise (· < ·) → (l.foldl (fun o w => if hasP n w = true then putS o w.id else o) o).Pairwise (· < ·) := by
  intro l
  induction l with
  | nil => intro o h; exact h
  | cons a r ih =>
   intro o h
   refine ih _ ?_
   show List.Pairwise (· < ·) (if hasP n a = true then putS o a.id else o)
   split
   ·exact putS_sorted h
   ·exact h
 have h2 : ∀ (l : List Wit) (o : List Int) (b : Int), b ∈ l.foldl (fun o w => if hasP n w = true then putS o w.id else o) o ↔ b ∈ o ∨ ∃ w ∈ l, w.id = b ∧ hasP n w = true := by
  intro l
  induction l with
  | nil => intro o b; simp
  | cons a r ih =>
   intro o b
   rw [List.foldl_cons, ih]
   have : b ∈ (if hasP n a = true then putS o a.id else o) ↔ b ∈ o ∨ (a.id = b ∧ hasP n a = true) := by
    split
    ·rename_i h3; rw [putS_mem]; exact ⟨fun h4 => h4.imp_right fun h5 => ⟨h5.symm, h3⟩, fun h4 => h4.imp_right fun h5 => h5.1.symm⟩
    ·rename_i h3; exact ⟨.inl, fun h4 => h4.elim id fun h5 => absurd h5.2 h3⟩
   rw [this]
   constructor
   ·rintro ((h3 | h3) | ⟨w, h3, h4⟩)
    ·exact .inl h3
    ·exact .inr ⟨a, List.mem_cons_self, h3⟩
    ·exact .inr ⟨w, List.mem_cons_of_mem _ h3, h4⟩
   ·rintro (h3 | ⟨w, h3, h4⟩)
    ·exact .inl (.inl h3)
    ·rcases List.mem_cons.1 h3 with rfl | h3
     ·exact .inl (.inr h4)
     ·exact .inr ⟨w, h3, h4⟩
 have hs := idsS_sorted (checkS_nodup h)
 refine strict_eq (h1 s [] .nil) (hs.sublist List.filter_sublist) fun b => ?_
 rw [h2]
 constructor
 ·rintro (h3 | ⟨w, hw, rfl, h3⟩)
  ·cases h3
  ·refine (hdS_mem h).2 ?_
   unfold hdB; rw [getW_own (checkS_nodup h) hw]; exact h3
 ·intro h3
  have h4 := (hdS_mem h).1 h3
  unfold hdB at h4
  cases hg : getW s b with
  | none => rw [hg] at h4; cases h4
  | some w =>
   rw [hg] at h4
   obtain ⟨hw, hi⟩ := getW_mem hg
   exact .inr ⟨w, hw, hi, h4⟩
def slW (o : List Int) (w : Wit) : List Int := w.slips.foldl putS o
def slF (s : List Wit) (k : Nat) : List Int := (s.take k).foldl slW []
theorem foldP_sorted : ∀ (l : List Int) {o : List Int}, o.Pairwise (· < ·) → (l.foldl putS o).Pairwise (· < ·)
 | [], _, h => h
 | a :: r, _, h => foldP_sorted r (putS_sorted h)
theorem foldP_mem : ∀ (l o : List Int) (n : Int), n ∈ l.foldl putS o ↔ n ∈ o ∨ n ∈ l
 | [], o, n => by simp
 | a :: r, o, n => by
  rw [List.foldl_cons, foldP_mem r, putS_mem, List.mem_cons]
  constructor
  ·rintro ((h | h) | h)
   ·exact .inl h
   ·exact .inr (.inl h)
   ·exact .inr (.inr h)
  ·rintro (h | h | h)
   ·exact .inl (.inl h)
   ·exact .inl (.inr h)
   ·exact .inr h
theorem sl_all (s : List Wit) : s.foldl slW [] = slipsL s := by
 have h1 : ∀ (l : List Wit) (o : List Int), o.Pairwise (· < ·) → (l.foldl slW o).Pairwise (· < ·) := by
  intro l
  induction l with
  | nil => intro o h; exact h
  | cons a r ih => intro o h; exact ih _ (foldP_sorted _ h)
 have h2 : ∀ (l : List Wit) (o : List Int) (n : Int), n ∈ l.foldl slW o ↔ n ∈ o ∨ ∃ w ∈ l, n ∈ w.slips := by
  intro l
  induction l with
  | nil => intro o n; simp
  | cons a r ih =>
   intro o n
   rw [List.foldl_cons, ih, slW, foldP_mem]
   constructor
   ·rintro ((h | h) | ⟨w, h3, h4⟩)
    ·exact .inl h
    ·exact .inr ⟨a, List.mem_cons_self, h⟩
    ·exact .inr ⟨w, List.mem_cons_of_mem _ h3, h4⟩
   ·rintro (h | ⟨w, h3, h4⟩)
    ·exact .inl (.inl h)
    ·rcases List.mem_cons.1 h3 with rfl | h3
     ·exact .inl (.inr h4)
     ·exact .inr ⟨w, h3, h4⟩
 have hsl : (slipsL s).Pairwise (· < ·) := by
  unfold slipsL
  have e1 := List.pairwise_mergeSort (le := fun x y : Int => decide (x ≤ y)) (fun a b c h1 h2 => by simp only [decide_eq_true_eq] at *; omega) (fun a b => by simp only [Bool.or_eq_true, decide_eq_true_eq]; omega) ((heldM s).map (·.1))
  have e2 : (((heldM s).map (·.1)).mergeSort fun x y => decide (x ≤ y)).Nodup := (List.mergeSort_perm _ _).nodup_iff.2 (heldM_nodup s)
  exact (e1.and e2).imp fun ⟨h4, h5⟩ => by
   simp only [decide_eq_true_eq] at h4
   rcases Int.lt_or_eq_of_le h4 with h6 | h6
   ·exact h6
   ·exact absurd h6 h5
 refine strict_eq (h1 s [] .nil) hsl fun n => ?_
 rw [h2, slipsL_mem]; simp
end Go.Am.Ds
end
section
namespace Go.Am.Ds
open Go Go.Am Go.Proofs
set_option maxHeartbeats 4000000
set_option linter.unusedSimpArgs false
set_option linter.unusedVariables false
attribute [local simp] vrun vwanted vyielded vop veval vevals vparts vO vbuiltin vlen vappend velems vcopy vmakeSlice vbuildSlice valloc vbox vmakeMap vload vpartT vpart vstore vfieldAddr vfield vindexAddr vindex vextract vslice vsliceZ vbounds vbnd zeroO vidx vlookup vmget vmapUpdate vdelete vnilq vnilp vnils vbin vsc vsc1 vscs vscl abinOp aint ashift aunOp aconvert amaxs amax2 pvcV pvc pvcs tput tget vargs VHeap.get VHeap.alloc VHeap.put VHeap.drop VHeap.empty vlook vput vdrop psplice pfill preps chunk List.range List.range.loop vresults vresult vresultV frz frzL PV.isF PV.allF PV.scal PV.allS retP subT allFT PV.one PV.ids PV.idsL dropL beq_eq ble_dec blt_dec
set_option maxRecDepth 100000
attribute [local simp] zW tup2
theorem slF_succ (s : List Wit) (k : Nat) (h : k < s.length) : slF s (k + 1) = slW (slF s k) s[k] := by
 unfold slF; rw [List.take_succ_eq_append_getElem h, List.foldl_append]; rfl
theorem foldP_len : ∀ (l o : List Int),(l.foldl putS o).length ≤ o.length + l.length
 | [], o => by simp
 | a :: r, o => by
  have h1 := foldP_len r (putS o a)
  have h2 := putS_len o a
  rw [List.foldl_cons, List.length_cons]; omega
theorem slF_len {s : List Wit} (h : checkS s = 0) : ∀ k, k ≤ s.length → (slF s k).length ≤ k * 30
 | 0, _ => by simp [slF]
 | k + 1, hk => by
  have h1 := slF_len h k (by omega)
  rw [slF_succ s k (by omega), slW]
  have h2 := foldP_len s[k].slips (slF s k)
  have h3 := (witE_len ((checkS_ok h).2 s[k] (List.getElem_mem (by omega)))).1
  omega
theorem p126 (s : List Wit) (h : checkS s = 0) : VPure Tryz.prog 126 [encS s] fun r => r = ints (slipsL s) := by
 have hl24 := (checkS_ok h).1
 refine .of_body Tryz.func126 rfl rfl ?_
 refine .seq (.rn ?_)
 refine .seq (.rn ?_)
 refine .seq (.seq (.rn ?_))
 refine .block ?_
 refine .loopS (fun k : Nat => ([(1, .ptr 0 0),(3, ints (slF s k)),(4, .int .i64 k)], ⟨1,[(0, .box [.vec (s.map encW)])]⟩)) (fun k => k ≤ s.length) (fun k => s.length - k) 0 (by simp) (.mk [] [] zz14 zz15 rfl rfl rfl) ?_
 rintro k hk
 simp only at hk ⊢
 have hfl := slF_len h k hk
 refine .seq (.seq (.rn ?_))
 refine .condS rfl (fun c10 => ?_) (fun c10 => ?_)
 ·try simp at c10
  have hw2 := wr1 k
  have hE := encW_e s[k]
  have hsl := (witE_len ((checkS_ok h).2 s[k] (List.getElem_mem c10))).1
  have hSk := slF_succ s k c10
  refine .skip (.seq (.block (.seq (.rn ?_))))
  refine .block ?_
  refine .loopS (fun q : Nat => ([(1, .ptr 0 0),(3, ints ((s[k].slips.take q).foldl putS (slF s k))),(4, .int .i64 k),(5, .int .i64 q)], ⟨1,[(0, .box [.vec (s.map encW)])]⟩)) (fun q => q ≤ s[k].slips.length) (fun q => s[k].slips.length - q) 0 (by simp) (.mk [] [] zz14 zz15 rfl rfl rfl) ?_
  rintro q hq
  simp only at hq ⊢
  have hql := foldP_len (s[k].slips.take q) (slF s k)
  rw [List.length_take] at hql
  refine .seq (.seq (.rn ?_))
  refine .condS rfl (fun c21 => ?_) (fun c21 => ?_)
  ·try simp at c21
   have hw3 := wr1 q
   have hT : (s[k].slips.take (q + 1)).foldl putS (slF s k) = putS ((s[k].slips.take q).foldl putS (slF s k)) s[k].slips[q] := by rw [List.take_succ_eq_append_getElem c21, List.foldl_append]; rfl
   refine .skip (.seq (.block ?_))
   refine .regionL [0,1,2,3,4,5,6,7,8,9,10,11] rfl zz0 ?_
   refine .rn [0,1,2,3,4,5,6,7,8,9] [10,11] ?_
   refine .pc rfl rfl rfl rfl rfl Tryz.call147 (p147 _ s[k].slips[q] (by omega)) ?_
   refine .rn [11] [] ?_
   refine .done (.rn ?_)
   refine ⟨q + 1, c21,zz5,(.mk [] [] zz14 zz15 rfl rfl rfl)⟩
  ·try simp at c21
   have hT2 : (s[k].slips.take q).foldl putS (slF s k) = slF s (k + 1) := by rw [List.take_of_length_le (by omega), hSk]; rfl
   refine .exit (.rn ?_)
   refine ⟨k + 1, c10,zz5,(.mk [] [] zz14 zz15 rfl rfl rfl)⟩
 ·try simp at c10
  have hk2 : k = s.length := by omega
  have hall : slF s k = slipsL s := by rw [hk2]; unfold slF; rw [List.take_length]; exact sl_all s
  refine .exit (.seq (.rn ?_))
  refine .ret ?_
  refine ⟨_, _, zz4,zz4, ?_⟩
  first | rfl | (simp [*]; done) | (simp_all; done)
theorem p128 (s : List Wit) (n : Int) (h : checkS s = 0) : VPure Tryz.prog 128 [encS s, .int .i64 n] fun r => r = ints (hdS s (hasP n)) := by
 have hl24 := (checkS_ok h).1
 refine .of_body Tryz.func128 rfl rfl ?_
 refine .seq (.rn ?_)
 refine .seq (.rn ?_)
 refine .seq (.seq (.rn ?_))
 refine .block ?_
 refine .loopS (fun k : Nat => ([(1, .int .i64 n),(2, .ptr 0 0),(5, ints (hoF s n k)),(6, .int .i64 k)], ⟨1,[(0, .box [.vec (s.map encW)])]⟩)) (fun k => k ≤ s.length) (fun k => s.length - k) 0 (by simp) (.mk [] [] zz14 zz15 rfl rfl rfl) ?_
 rintro k hk
 simp only at hk ⊢
 have hfl := hoF_len s n k hk
 refine .seq (.seq (.rn ?_))
 refine .condS rfl (fun c12 => ?_) (fun c12 => ?_)
 ·try simp at c12
  have hw2 := wr1 k
  have hE := encW_e s[k]
  have hsl := (checkS_lens h s[k] (List.getElem_mem c12)).1
  have hS := hoF_succ s n k c12
  refine .skip (.seq (.block (.seq ?_)))
  refine .regionL [0,1,2,3,4,5,6,7,8] rfl zz0 ?_
  refine .rn [0,1,2,3,4,5,6] [7,8] ?_
  refine .pc rfl rfl rfl rfl rfl Tryz.call121 (p121 s[k].slips n hsl) ?_
  refine .rn [8] [] ?_
  refine .done (.seq (.rn ?_))
  refine .condS rfl (fun c23 => ?_) (fun c23 => ?_)
  ·try simp at c23
   rw [if_pos (show hasP n s[k] = true from decide_eq_true c23)] at hS
   refine .regionL [0,1,2,3,4,5,6,7,8] rfl zz0 ?_
   refine .rn [0,1,2,3,4,5,6] [7,8] ?_
   refine .pc rfl rfl rfl rfl rfl Tryz.call147 (p147 _ s[k].id (by omega)) ?_
   refine .rn [8] [] ?_
   refine .done (.rn ?_)
   refine ⟨k + 1, c12,zz5,(.mk [] [] zz14 zz15 rfl rfl rfl)⟩
  ·try simp at c23
   rw [if_neg (show ¬ hasP n s[k] = true by unfold hasP; simpa using c23)] at hS
   refine .skip (.rn ?_)
   refine ⟨k + 1, c12,zz5,(.mk [] [] zz14 zz15 rfl rfl rfl)⟩
 ·try simp at c12
  have hk2 : k = s.length := by omega
  have hall : hoF s n k = hdS s (hasP n) := by rw [hk2]; exact hoF_all h n
  refine .exit (.seq (.rn ?_))
  refine .ret ?_
  refine ⟨_, _, zz4,zz4, ?_⟩
  first | rfl | (simp [*]; done) | (simp_all; done)
def hlL (s : List Wit) (n : Int) : List Int := if checkS s = 0 then hdS s (hasP n) else []
theorem hd_held {s : List Wit} (h : checkS s = 0) (n : Int) : n ∈ (heldM s).map (·.1) ↔ hdS s (hasP n) ≠ [] := by
 rw [heldM_mem]
 constructor
 ·rintro ⟨w, hw, hn⟩ h0
  have : w.id ∈ hdS s (hasP n) := (hdS_mem h).2 (by unfold hdB; rw [getW_own (checkS_nodup h) hw]; exact decide_eq_true hn)
  rw [h0] at this; cases this
 ·intro h0
  obtain ⟨b, hb⟩ := List.exists_mem_of_ne_nil _ h0
  have h1 := (hdS_mem h).1 hb
  unfold hdB at h1
  cases hg : getW s b with
  | none => rw [hg] at h1; cases h1
  | some w => rw [hg] at h1; exact ⟨w, (getW_mem hg).1, of_decide_eq_true h1⟩
end Go.Am.Ds
end
section
namespace Go.Am.Ds
open Go Go.Am Go.Proofs
set_option maxRecDepth 100000
set_option maxHeartbeats 4000000
set_option linter.unusedSimpArgs false
set_option linter.unusedVariables false
attribute [local simp] vrun vwanted vyielded vop vopA vputAll VHeap.back hidI hidF backL bm Nat.testBit_eq_decide_div_mod_eq veval vevals vparts vO vbuiltin vlen vappend velems vcopy vmakeSlice vbuildSlice valloc vbox vmakeMap vload vpartT vpart vstore vfieldAddr vfield vindexAddr vindex vextract vslice vsliceZ vbounds vbnd zeroO vidx vlookup vmget vmapUpdate vdelete vclear vnilq vnilp vnils vbin vsc vsc1 vscs vscl abinOp aint ashift aunOp aconvert amaxs amax2 pvcV pvc pvcs tput tget vargs VHeap.get VHeap.alloc VHeap.put VHeap.drop VHeap.empty vlook vput vdrop psplice pfill preps chunk List.range List.range.loop vresults vresult vresultV frz frzL PV.isF PV.allF PV.scal PV.allS retP subT allFT PV.one PV.ids PV.idsL dropL beq_eq ble_dec blt_dec
attribute [local simp] zW tup2
def puF (s : List Wit) (p : Wit → Bool) (k : Nat) : List Int := (s.take k).foldl (fun o w => if p w = true then putS o w.id else o) []
theorem puF_succ (s : List Wit) (p : Wit → Bool) (k : Nat) (h : k < s.length) : puF s p (k + 1) = if p s[k] = true then putS (puF s p k) s[k].id else puF s p k := by
 unfold puF; rw [List.take_succ_eq_append_getElem h, List.foldl_append]; rfl
theorem puF_len (s : List Wit) (p : Wit → Bool) : ∀ k, k ≤ s.length → (puF s p k).length ≤ k
 | 0, _ => by simp [puF]
 | k + 1, h => by
  rw [puF_succ s p k (by omega)]
  have := puF_len s p k (by omega)
  split
  ·have := putS_len (puF s p k) s[k].id; omega
  ·omega
theorem puF_all {s : List Wit} (h : checkS s = 0) (p : Wit → Bool) (q : Int → Bool) (hq : ∀ w ∈ s, q w.id = p w) : puF s p s.length = (idsS s).filter q := by
 unfold puF
 rw [List.take_length]
 have h1 : ∀ (l : List Wit) (o : List Int), o.Pairwise (· < ·) → (l.foldl (fun o w => if p w = true then putS o w.id else o) o).Pairwise (· < ·) := by
  intro l
  induction l with
  | nil => intro o h; exact h
  | cons a r ih =>
   intro o h
   refine ih _ ?_
   show List.Pairwise (· < ·) (if p a = true then putS o a.id else o)
   split
   ·exact putS_sorted h
   ·exact h
 have h2 : ∀ (l : List Wit) (o : List Int) (b : Int), b ∈ l.foldl (fun o w => if p w = true then putS o w.id else o) o ↔ b ∈ o ∨ ∃ w ∈ l, w.id = b ∧ p w = true := by
  intro l
  induction l with
  | nil => intro o b; simp
  | cons a r ih =>
   intro o b
   rw [List.foldl_cons, ih]
   have : b ∈ (if p a = true then putS o a.id else o) ↔ b ∈ o ∨ (a.id = b ∧ p a = true) := by
    split
    ·rename_i h3; rw [putS_mem]; exact ⟨fun h4 => h4.imp_right fun h5 => ⟨h5.symm, h3⟩, fun h4 => h4.imp_right fun h5 => h5.1.symm⟩
    ·rename_i h3; exact ⟨.inl, fun h4 => h4.elim id fun h5 => absurd h5.2 h3⟩
   rw [this]
   constructor
   ·rintro ((h3 | h3) | ⟨w, h3, h4⟩)
    ·exact .inl h3
    ·exact .inr ⟨a, List.mem_cons_self, h3⟩
    ·exact .inr ⟨w, List.mem_cons_of_mem _ h3, h4⟩
   ·rintro (h3 | ⟨w, h3, h4⟩)
    ·exact .inl (.inl h3)
    ·rcases List.mem_cons.1 h3 with rfl | h3
     ·exact .inl (.inr h4)
     ·exact .inr ⟨w, h3, h4⟩
 refine strict_eq (h1 s [] .nil) ((idsS_sorted (checkS_nodup h)).sublist List.filter_sublist) fun b => ?_
 rw [h2, List.mem_filter, idsS_mem]
 constructor
 ·rintro (h3 | ⟨w, hw, rfl, h3⟩)
  ·cases h3
  ·exact ⟨⟨w, hw, rfl⟩, by rw [hq w hw]; exact h3⟩
 ·rintro ⟨⟨w, hw, rfl⟩, h3⟩
  exact .inr ⟨w, hw, rfl, by rw [← hq w hw]; exact h3⟩
theorem p146 (s : List Wit) (l : List Int) (id : Int) (c : Wit) (h : checkS s = 0) (hd : (desR s l).2 = true) (hg : getW s id = some c) : VPure Tryz.prog 146 [encS s, ints l, .int .i64 id] fun r => r = ints (froI s l id) := by
 have hl24 := (checkS_ok h).1
 have hel := (des_len hd).1
 refine .of_body Tryz.func146 rfl rfl ?_
 refine .seq (.rn ?_)
 refine .seq (.rn ?_)
 refine .seq (.seq (.rn ?_))
 refine .block ?_
 refine .loopS (fun st : Nat × List Int × Int => ([(1, ints l),(2, .int .i64 st.2.2),(3, .ptr 0 0),(7, .grow 1 st.2.1.length true),(8, .int .i64 st.1)], ⟨2,[(1, .grow 1 (st.2.1.map (.int .i64))),(0, .box [.vec (s.map encW)])]⟩)) (fun st => st.1 = st.2.1.length ∧ (∃ c2, getW s st.2.2 = some c2) ∧ froI s l id = st.2.1 ++ froI s l st.2.2) (fun st => s.length + 1 - st.1) (0,[], id) ⟨rfl, ⟨c, hg⟩, rfl⟩ (.mk [] [] zz14 zz15 rfl rfl rfl) ?_
 rintro ⟨n, o, x⟩ ⟨hn, ⟨c2, hg2⟩, ho⟩
 simp only at hn hg2 ho ⊢
 subst hn
 have hol : o.length + (froI s l x).length ≤ s.length := by
  have h1 : (froI s l id).length ≤ s.length := chI_len h hd _
  rw [ho, List.length_append] at h1; exact h1
 obtain ⟨i, hi, hi2, hie, hci, hup⟩ := up_at hd hg2
 have hmx : (if 0 < i then (i : Int) else 0) = (i : Int) := by split <;> omega
 refine .seq (.seq (.rn ?_))
 refine .condS rfl (fun c13 => ?_) (fun c13 => ?_)
 ·try simp at c13
  have hw2 : IntKind.i64.wrap ((o.length : Int) + 1) = (o.length : Int) + 1 := wrap64 (by omega) (by omega)
  refine .skip (.seq (.block (.seq ?_)))
  refine .regionL [0,1,2,3] rfl zz0 ?_
  refine .rn [0,1] [2,3] ?_
  refine .pc rfl rfl rfl rfl rfl Tryz.call104 ((by have h := p104 s x (by omega); rw [hie] at h; exact h)) ?_
  refine .rn [3] [] ?_
  refine .done (.seq (.seq ?_))
  refine .regionL [0,1,2,3,4,5,6,7,8,9] rfl zz0 ?_
  refine .rn [0,1,2] [3,4,5,6,7,8,9] ?_
  refine .split (t := 21) rfl (fun c21 => ?_) (fun c21 => ?_)
  ·try rw [c21]
   try simp at c21
   exfalso; omega
  ·try rw [c21]
   try simp at c21
   refine .rn [3,4,5,6,7,8,9] [] ?_
   refine .done ?_
   refine .condS rfl (fun c28 => ?_) (fun c28 => ?_)
   ·try simp at c28
    have hfx : froI s l x = [] := by unfold froI; rw [c28, chI_zero]
    have hfr : froI s l id = o := by rw [ho, hfx, List.append_nil]
    refine .exit (.seq (.rn ?_))
    refine .ret ?_
    refine ⟨_, _, zz4,zz4, ?_⟩
    first | rfl | (simp [*]; done) | (simp_all; done)
   ·try simp at c28
    obtain ⟨c3, hg3⟩ := (up_ok hd hg2).resolve_left c28
    have hst : froI s l x = upI s l x :: froI s l (upI s l x) := by unfold froI; rw [chI_step h hd hg3]; rfl
    have hone : allOne [PV.int IntKind.i64 (upI s l x)] = true := rfl
    have hb : o.length ≤ 4294967295 := by omega
    have hl1 : (froI s l x).length = (froI s l (upI s l x)).length + 1 := by rw [hst]; rfl
    refine .skip (.seq (.rn ?_))
    refine .rn ?_
    refine .rn ?_
    refine ⟨(o.length + 1, o ++ [upI s l x], upI s l x), ⟨by simp, ⟨c3, hg3⟩, by rw [ho, hst]; simp⟩, by simp only; omega, (.mk [] [(1,3)] zz14 zz15 rfl rfl rfl)⟩
 ·try simp at c13
  exfalso; omega
theorem ask_kin (s : List Wit) (l : List Int) (id : Int) : askE s l id false = if kinE (kinR s id 0) = 0 then (if (desR s l).2 = true then 0 else 1) else kinE (kinR s id 0) := by
 unfold askE kinR
 by_cases h : checkS s = 0
 ·rw [if_pos h, if_pos h]
  cases hg : getW s id with
  | none => simp [kinE]
  | some c => simp [kinE]
 ·rw [if_neg h, if_neg h]; simp [kinE, h]
theorem kin_ok {s : List Wit} {id : Int} (h : kinE (kinR s id 0) = 0) : checkS s = 0 ∧ ∃ c, getW s id = some c := by
 unfold kinR at h
 split at h
 ·rename_i h0
  cases hg : getW s id with
  | none => rw [hg] at h; cases h
  | some c => exact ⟨h0, c, rfl⟩
 ·rename_i h0; exact absurd h h0
theorem p75a (s : List Wit) (l : List Int) (m id : Int) (hl : s.length < 4294967296) (hlL : l.length < 4611686018427387904) (hli : ∀ w ∈ s, w.slips.length < 4294967296 ∧ w.mended.length < 4294967296 ∧ w.models.length < 4294967296) : VPure Tryz.prog 75 [encS s, .agg [ints l, .int .i64 m], .int .i64 id] fun r => Soft r (.agg [ints (froL s l id), .int .i64 (askE s l id false)]) := by
 have hA := ask_kin s l id
 refine .of_body Tryz.func75 rfl rfl ?_
 refine .seq (.rn ?_)
 refine .seq ?_
 refine .regionL [0,1,2,3,4] rfl zz0 ?_
 refine .rn [0,1,2] [3,4] ?_
 refine .pc rfl rfl rfl rfl rfl Tryz.call102 (p102 s id 0 hl hli) ?_
 refine .rn [4] [] ?_
 refine .done (.seq (.seq (.rn ?_)))
 refine .condS rfl (fun c14 => ?_) (fun c14 => ?_)
 ·try simp at c14
  rw [if_neg c14] at hA
  refine .seq (.rn ?_)
  refine .ret ?_
  refine ⟨_, _, zz4,zz4, ?_⟩
  rw [show froL s l id = [] by unfold froL; rw [if_neg (by rw [hA]; exact c14)], hA]
  exact .agg' (AltL.cons .sl0v (AltL.cons (.same _ rfl) AltL.nil))
 ·try simp at c14
  rw [if_pos c14] at hA
  obtain ⟨h0, c, hg⟩ := kin_ok c14
  refine .skip (.seq ?_)
  refine .regionL [0,1,2,3,4] rfl zz0 ?_
  refine .rn [0,1,2] [3,4] ?_
  refine .pc rfl rfl rfl rfl rfl Tryz.call139 (p139 s l h0 hlL) ?_
  refine .rn [4] [] ?_
  refine .done (.seq (.seq (.rn ?_)))
  refine .condS rfl (fun c22 => ?_) (fun c22 => ?_)
  ·try simp at c22
   rw [if_neg (by simp [c22])] at hA
   refine .seq (.rn ?_)
   refine .ret ?_
   refine ⟨_, _, zz4,zz4, ?_⟩
   rw [show froL s l id = [] by unfold froL; rw [if_neg (by rw [hA]; decide)], hA]
   exact .agg' (AltL.cons .sl0v (AltL.cons (.same _ rfl) AltL.nil))
  ·try simp at c22
   rw [if_pos c22] at hA
   refine .skip (.seq ?_)
   refine .regionL [0,1,2,3,4,5,6] rfl zz0 ?_
   refine .rn [0,1,2,3] [4,5,6] ?_
   refine .pc rfl rfl rfl rfl rfl Tryz.call146 (p146 s l id c h0 c22 hg) ?_
   refine .rn [5,6] [] ?_
   refine .done (.ret ?_)
   refine ⟨_, _, zz4,zz4, ?_⟩
   rw [show froL s l id = froI s l id by unfold froL; rw [if_pos hA], hA]
   exact soft_rfl rfl
theorem p177 (s : List Wit) (k : Nat) (slip : Int) (hk : k < s.length) (h : checkS s = 0) : VPure Tryz.prog 177 [encS s, .int .i64 k, .int .i64 slip] fun r => r = .tup [.int .i64 (tiW s slip s[k]), .int .i64 (choF s s[k]).1.length] := by
 have ok := okS_of h
 have hl24 := ok.len
 have q112 := p112 s k hk ok
 rw [best_eq h] at q112
 have hcl : (choF s s[k]).1.length ≤ 25 := by rw [← chP_all]; have := chP_len s s[k] (idsS s).length; have := idsS_len s; omega
 refine .of_body Tryz.func177 rfl rfl ?_
 refine .seq (.rn ?_)
 refine .seq ?_
 refine .regionL [0,1,2,3] rfl zz0 ?_
 refine .rn [0,1] [2,3] ?_
 refine .pc rfl rfl rfl rfl rfl Tryz.call112 (q112) ?_
 refine .rn [3] [] ?_
 refine .done (.seq (.rn ?_))
 refine .seq (.seq (.rn ?_))
 refine .block ?_
 refine .loopS (fun q : Nat => ([(1, .int .i64 k),(2, .int .i64 slip),(3, .ptr 0 0),(8, ints (choF s s[k]).1),(9, .int .i64 (tiP s slip s[k] q)),(10, .int .i64 q)], ⟨1,[(0, .box [.vec (s.map encW)])]⟩)) (fun q => q ≤ (choF s s[k]).1.length) (fun q => (choF s s[k]).1.length - q) 0 (by simp [tiP]) (.mk [] [] zz14 zz15 rfl rfl rfl) ?_
 rintro q hq
 simp only at hq ⊢
 have htl := tiP_le s slip s[k] q
 refine .seq (.seq (.rn ?_))
 refine .condS rfl (fun c18 => ?_) (fun c18 => ?_)
 ·try simp at c18
  have hw2 := wr1 q
  have hw4 : IntKind.i64.wrap ((tiP s slip s[k] q : Int) + 1) = (tiP s slip s[k] q : Int) + 1 := wrap64 (by omega) (by omega)
  have hS := tiP_succ s slip s[k] q c18
  have hm : (choF s s[k]).1[q] = 0 ∨ ∃ w ∈ s, w.id = (choF s s[k]).1[q] := by
   have h1 : (choF s s[k]).1[q] ∈ (choF s s[k]).1 := List.getElem_mem c18
   generalize (choF s s[k]).1[q] = y at h1 ⊢
   rw [← best_eq h] at h1
   exact mem_modR (List.mem_filter.1 h1).1
  have hfl := frS_len s s[k] (choF s s[k]).1[q]
  have hsl := (ok.lens s[k] (List.getElem_mem hk)).1
  refine .skip (.seq (.block (.seq ?_)))
  refine .drawn (ms := [0,0,0,0,12,28,63,0,255,511]) (W := [6,8]) (items := [.op 0, .op 1, .op 2, .op 3, .op 4, .op 5, .op 7, .op 6, .op 8, .op 9]) rfl zz0 zz0 zz0 ?_
  refine .rx ?_
  refine .rx ?_
  refine .rx ?_
  refine .rx ?_
  refine .rx ?_
  refine .rx ?_
  refine .rx ?_
  refine .wp rfl rfl rfl rfl rfl Tryz.call111 (p111 s k hk ok _ hm) ?_
  refine .wp rfl rfl rfl rfl rfl Tryz.call121 (p121 _ slip (by omega)) ?_
  refine .rx ?_
  refine .done (.seq (.rn ?_))
  refine .condS rfl (fun c30 => ?_) (fun c30 => ?_)
  ·try simp at c30
   rw [if_pos c30] at hS
   refine .rn ?_
   refine .rn ?_
   refine ⟨q + 1, c18,zz5,(.mk [] [] zz14 zz15 rfl rfl rfl)⟩
  ·try simp at c30
   rw [if_neg c30] at hS
   refine .skip (.rn ?_)
   refine ⟨q + 1, c18,zz5,(.mk [] [] zz14 zz15 rfl rfl rfl)⟩
 ·try simp at c18
  have hq2 : q = (choF s s[k]).1.length := by omega
  subst hq2
  have hall := tiP_all s slip s[k]
  refine .exit (.seq (.rn ?_))
  refine .ret ?_
  refine ⟨_, _, zz4,zz4, ?_⟩
  first | rfl | (simp [*]; done) | (simp_all; done)
def surP (s : List Wit) (n : Int) (w : Wit) : Bool := decide (0 < tiW s n w) && decide (tiW s n w = (choF s w).1.length)
def mayP (s : List Wit) (n : Int) (w : Wit) : Bool := decide (0 < tiW s n w)
theorem sur_all {s : List Wit} (h : chE s = 0) (n : Int) : puF s (surP s n) s.length = surL s n := by
 obtain ⟨h0, hne⟩ := chE_ok h
 refine puF_all h0 _ _ fun w hw => ?_
 have := List.length_pos_iff.2 (hne w hw)
 unfold surB surP
 rw [getW_own (checkS_nodup h0) hw, Bool.eq_iff_iff]
 simp only [Bool.and_eq_true, decide_eq_true_eq]
 omega
theorem may_all {s : List Wit} (h : chE s = 0) (n : Int) : puF s (mayP s n) s.length = mayL s n := by
 obtain ⟨h0, _⟩ := chE_ok h
 refine puF_all h0 _ _ fun w hw => ?_
 unfold mayI mayP
 rw [getW_own (checkS_nodup h0) hw]
theorem p145 (s : List Wit) (n : Int) (hch : chE s = 0) : VPure Tryz.prog 145 [encS s, .int .i64 n] fun r => r = .agg [ints (surL s n), ints (mayL s n), .int .i64 0] := by
 have h0 := (chE_ok hch).1
 have hl24 := (checkS_ok h0).1
 refine .of_body Tryz.func145 rfl rfl ?_
 refine .seq (.rn ?_)
 refine .seq (.rn ?_)
 refine .seq (.seq (.rn ?_))
 refine .block ?_
 refine .loopS (fun k : Nat => ([(1, .int .i64 n),(2, .ptr 0 0),(4, .ptr 1 0),(5, .ptr 2 0),(6, .int .i64 k)], ⟨3,[(2, .box [ints (puF s (surP s n) k), ints (puF s (mayP s n) k), .int .i64 0]),(1, .box [.sl0, .sl0, .int .i64 0]),(0, .box [.vec (s.map encW)])]⟩)) (fun k => k ≤ s.length) (fun k => s.length - k) 0 (by simp) (.mk [] [] zz14 zz15 rfl rfl rfl) ?_
 rintro k hk
 simp only at hk ⊢
 have hl1 := puF_len s (surP s n) k hk
 have hl2 := puF_len s (mayP s n) k hk
 refine .seq (.seq (.rn ?_))
 refine .condS rfl (fun c13 => ?_) (fun c13 => ?_)
 ·try simp at c13
  have hw2 := wr1 k
  have hE := encW_e s[k]
  have hS1 := puF_succ s (surP s n) k c13
  have hS2 := puF_succ s (mayP s n) k c13
  refine .skip (.seq (.block (.seq ?_)))
  refine .regionL [0,1,2,3,4,5,6,7,8] rfl zz0 ?_
  refine .rn [0,1,2] [3,4,5,6,7,8] ?_
  refine .pc rfl rfl rfl rfl rfl Tryz.call177 (p177 s k n c13 h0) ?_
  refine .rn [4,5,6,7,8] [] ?_
  refine .done (.seq (.seq (.rn ?_)))
  refine .condS rfl (fun c24 => ?_) (fun c24 => ?_)
  ·try simp at c24
   rw [if_pos (by unfold mayP; simp only [decide_eq_true_eq]; omega)] at hS2
   refine .drawn (ms := [0,1,0,4,0,28,60,124,255,511,1023]) (W := [8,10]) (items := [.op 0, .op 1, .op 2, .op 3, .op 4, .op 5, .op 6, .op 7, .op 8, .op 9, .op 10]) rfl zz0 zz0 zz0 ?_
   refine .rx ?_
   refine .rx ?_
   refine .rx ?_
   refine .rx ?_
   refine .rx ?_
   refine .rx ?_
   refine .rx ?_
   refine .rx ?_
   refine .wp rfl rfl rfl rfl rfl Tryz.call147 (p147 (puF s (mayP s n) k) s[k].id (by omega)) ?_
   refine .rx ?_
   refine .wr rfl rfl (by decide) (.vop zz1 (by decide) ?_)
   refine .done (.seq ?_)
   refine .regionL [0,1,2,3,4,5,6] rfl zz0 ?_
   refine .rn [0,1,2] [3,4,5,6] ?_
   refine .split (t := 37) rfl (fun c37 => ?_) (fun c37 => ?_)
   ·try rw [c37]
    try simp at c37
    refine .rn [3,4,5,6] [] ?_
    refine .done ?_
    refine .condS rfl (fun c41 => ?_) (fun c41 => ?_)
    ·try simp at c41
     rw [if_pos (by unfold surP; simp only [Bool.and_eq_true, decide_eq_true_eq]; omega)] at hS1
     refine .drawn (ms := [0,1,0,4,0,28,60,124,255,511,1023]) (W := [8,10]) (items := [.op 0, .op 1, .op 2, .op 3, .op 4, .op 5, .op 6, .op 7, .op 8, .op 9, .op 10]) rfl zz0 zz0 zz0 ?_
     refine .rx ?_
     refine .rx ?_
     refine .rx ?_
     refine .rx ?_
     refine .rx ?_
     refine .rx ?_
     refine .rx ?_
     refine .rx ?_
     refine .wp rfl rfl rfl rfl rfl Tryz.call147 (p147 (puF s (surP s n) k) s[k].id (by omega)) ?_
     refine .rx ?_
     refine .wr rfl rfl (by decide) (.vop zz1 (by decide) ?_)
     refine .done (.rn ?_)
     refine ⟨k + 1, c13,zz5,(.mk [] [] zz14 zz15 rfl rfl rfl)⟩
    ·try simp at c41
     rw [if_neg (by unfold surP; simp only [Bool.and_eq_true, decide_eq_true_eq]; omega)] at hS1
     refine .skip (.rn ?_)
     refine ⟨k + 1, c13,zz5,(.mk [] [] zz14 zz15 rfl rfl rfl)⟩
   ·try rw [c37]
    try simp at c37
  ·try simp at c24
   rw [if_neg (by unfold mayP; simp only [decide_eq_true_eq]; omega)] at hS2
   rw [if_neg (by unfold surP; simp only [Bool.and_eq_true, decide_eq_true_eq]; omega)] at hS1
   refine .skip (.seq ?_)
   refine .regionL [0,1,2,3,4,5,6] rfl zz0 ?_
   refine .rn [0,1,2] [3,4,5,6] ?_
   refine .split (t := 37) rfl (fun c37 => ?_) (fun c37 => ?_)
   ·try rw [c37]
    try simp at c37
   ·try rw [c37]
    try simp at c37
    refine .rn [3,4,5,6] [] ?_
    refine .done (.condF rfl (.skip (.rn ?_)))
    refine ⟨k + 1, c13,zz5,(.mk [] [] zz14 zz15 rfl rfl rfl)⟩
 ·try simp at c13
  have hk2 : k = s.length := by omega
  subst hk2
  have ha1 := sur_all hch n
  have ha2 := may_all hch n
  refine .exit (.seq (.rn ?_))
  refine .ret ?_
  refine ⟨_, _, zz4,zz4, ?_⟩
  first | rfl | (simp [*]; done) | (simp_all; done)
def arE (s : List Wit) (n : Int) : Int := if checkS s = 0 then (if hdS s (hasP n) = [] then 5 else chE s) else checkS s
def arA (s : List Wit) (n : Int) : List Int := if arE s n = 0 then surL s n else []
def arM (s : List Wit) (n : Int) : List Int := if arE s n = 0 then mayL s n else []
def twR (s : List Wit) : List Int := if chE s = 0 then twL s else []
theorem p73a (s : List Wit) (n : Int) (hl : s.length < 4294967296) (hli : ∀ w ∈ s, w.slips.length < 4294967296 ∧ w.mended.length < 4294967296 ∧ w.models.length < 4294967296) : VPure Tryz.prog 73 [encS s, .int .i64 n] fun r => Soft r (.agg [ints (arA s n), ints (arM s n), .int .i64 (arE s n)]) := by
 refine .of_body Tryz.func73 rfl rfl ?_
 refine .seq (.rn ?_)
 refine .seq ?_
 refine .regionL [0,1,2] rfl zz0 ?_
 refine .rn [0] [1,2] ?_
 refine .pc rfl rfl rfl rfl rfl Tryz.call52 (p52 s hl hli) ?_
 refine .rn [2] [] ?_
 refine .done (.seq (.seq (.rn ?_)))
 refine .condS rfl (fun c10 => ?_) (fun c10 => ?_)
 ·try simp at c10
  refine .seq (.rn ?_)
  refine .ret ?_
  refine ⟨_, _, zz4,zz4, ?_⟩
  have hE : arE s n = checkS s := by unfold arE; rw [if_neg c10]
  rw [show arA s n = [] by unfold arA; rw [if_neg (by rw [hE]; exact c10)], show arM s n = [] by unfold arM; rw [if_neg (by rw [hE]; exact c10)], hE]
  exact .agg' (AltL.cons .sl0v (AltL.cons .sl0v (AltL.cons (.same _ rfl) AltL.nil)))
 ·try simp at c10
  refine .skip (.seq (.seq ?_))
  refine .regionL [0,1,2,3,4] rfl zz0 ?_
  refine .rn [0,1] [2,3,4] ?_
  refine .pc rfl rfl rfl rfl rfl Tryz.call128 (p128 s n c10) ?_
  refine .rn [3,4] [] ?_
  refine .done ?_
  refine .condS rfl (fun c17 => ?_) (fun c17 => ?_)
  ·try simp at c17
   refine .seq (.rn ?_)
   refine .ret ?_
   refine ⟨_, _, zz4,zz4, ?_⟩
   have hE : arE s n = 5 := by unfold arE; rw [if_pos c10, if_pos c17]
   rw [show arA s n = [] by unfold arA; rw [if_neg (by rw [hE]; decide)], show arM s n = [] by unfold arM; rw [if_neg (by rw [hE]; decide)], hE]
   exact .agg' (AltL.cons .sl0v (AltL.cons .sl0v (AltL.cons (.same _ rfl) AltL.nil)))
  ·try simp at c17
   refine .skip (.seq ?_)
   refine .regionL [0,1,2] rfl zz0 ?_
   refine .rn [0] [1,2] ?_
   refine .pc rfl rfl rfl rfl rfl Tryz.call110 (p110 s (okS_of c10)) ?_
   refine .rn [2] [] ?_
   refine .done (.seq (.seq (.rn ?_)))
   refine .condS rfl (fun c21 => ?_) (fun c21 => ?_)
   ·try simp at c21
    refine .seq (.rn ?_)
    refine .ret ?_
    refine ⟨_, _, zz4,zz4, ?_⟩
    have hE : arE s n = 9 := by unfold arE; rw [if_pos c10, if_neg c17, chE_eq c10, if_pos c21]
    rw [show arA s n = [] by unfold arA; rw [if_neg (by rw [hE]; decide)], show arM s n = [] by unfold arM; rw [if_neg (by rw [hE]; decide)], hE]
    exact .agg' (AltL.cons .sl0v (AltL.cons .sl0v (AltL.cons (.same _ rfl) AltL.nil)))
   ·try simp at c21
    have hch : chE s = 0 := by rw [chE_eq c10, if_neg (fun ⟨w, h1, h2⟩ => c21 w h1 h2)]
    have hE : arE s n = 0 := by unfold arE; rw [if_pos c10, if_neg c17, hch]
    have hA : arA s n = surL s n := by unfold arA; rw [if_pos hE]
    have hM : arM s n = mayL s n := by unfold arM; rw [if_pos hE]
    refine .skip (.seq ?_)
    refine .regionL [0,1,2,3] rfl zz0 ?_
    refine .rn [0,1] [2,3] ?_
    refine .pc rfl rfl rfl rfl rfl Tryz.call145 (p145 s n hch) ?_
    refine .rn [3] [] ?_
    refine .done (.ret ?_)
    refine ⟨_, _, zz4,zz4, ?_⟩
    rw [hA, hM, hE]
    exact soft_rfl rfl
theorem p74a (s : List Wit) (hl : s.length < 4294967296) (hli : ∀ w ∈ s, w.slips.length < 4294967296 ∧ w.mended.length < 4294967296 ∧ w.models.length < 4294967296) : VPure Tryz.prog 74 [encS s] fun r => Soft r (.agg [ints (twR s), .int .i64 (chE s)]) := by
 refine .of_body Tryz.func74 rfl rfl ?_
 refine .seq (.rn ?_)
 refine .seq ?_
 refine .regionL [0,1,2] rfl zz0 ?_
 refine .rn [0] [1,2] ?_
 refine .pc rfl rfl rfl rfl rfl Tryz.call137 (p137 s hl hli) ?_
 refine .rn [2] [] ?_
 refine .done (.seq (.seq (.rn ?_)))
 refine .condS rfl (fun c10 => ?_) (fun c10 => ?_)
 ·try simp at c10
  refine .seq (.rn ?_)
  refine .ret ?_
  refine ⟨_, _, zz4,zz4, ?_⟩
  rw [show twR s = [] by unfold twR; rw [if_neg c10]]
  exact .agg' (AltL.cons .sl0v (AltL.cons (.same _ rfl) AltL.nil))
 ·try simp at c10
  have h0 := (chE_ok c10).1
  have hL : (slipsL s).length ≤ 720 := by rw [slipsL_len]; exact heldM_len h0
  refine .skip (.seq ?_)
  refine .regionL [0,1,2] rfl zz0 ?_
  refine .rn [0] [1,2] ?_
  refine .pc rfl rfl rfl rfl rfl Tryz.call126 (p126 s h0) ?_
  refine .rn [2] [] ?_
  refine .done (.seq (.rn ?_))
  refine .seq (.seq (.rn ?_))
  refine .block ?_
  refine .loopS (fun k : Nat => ([(1, .ptr 0 0),(2, .ptr 1 0),(4, ints (slipsL s)),(5, .grow 2 ((slipsL s).take k |>.filter fun n => decide (2 ≤ (surL s n).length)).length true),(6, .int .i64 k)], ⟨3,[(2, .grow 1 (((slipsL s).take k |>.filter fun n => decide (2 ≤ (surL s n).length)).map (.int .i64))),(1, .box [.sl0, .int .i64 0]),(0, .box [.vec (s.map encW)])]⟩)) (fun k => k ≤ (slipsL s).length) (fun k => (slipsL s).length - k) 0 (by simp) (.mk [] [] zz14 zz15 rfl rfl rfl) ?_
  rintro k hk
  simp only at hk ⊢
  refine .seq (.seq (.rn ?_))
  refine .condS rfl (fun c18 => ?_) (fun c18 => ?_)
  ·try simp at c18
   have hw2 := wr1 k
   have hle : ((slipsL s).take k |>.filter fun n => decide (2 ≤ (surL s n).length)).length ≤ k := Nat.le_trans (List.length_filter_le _ _) (by simp; omega)
   have hb : ((slipsL s).take k |>.filter fun n => decide (2 ≤ (surL s n).length)).length ≤ 4294967295 := by omega
   have hone : allOne [PV.int IntKind.i64 (slipsL s)[k]] = true := rfl
   have hT := take_succ_filt (fun n => decide (2 ≤ (surL s n).length)) (slipsL s) k c18
   refine .skip (.seq (.block (.seq ?_)))
   refine .drawn (ms := [0,0,0,6,14,31,63,127,255]) (W := [5]) (items := [.op 0, .op 1, .op 2, .op 3, .op 4, .op 5, .op 6, .op 7, .op 8]) rfl zz0 zz0 zz0 ?_
   refine .rx ?_
   refine .rx ?_
   refine .rx ?_
   refine .rx ?_
   refine .rx ?_
   refine .wp rfl rfl rfl rfl rfl Tryz.call145 (p145 s (slipsL s)[k] c10) ?_
   refine .rx ?_
   refine .rx ?_
   refine .rx ?_
   refine .done ?_
   refine .condS rfl (fun c29 => ?_) (fun c29 => ?_)
   ·try simp at c29
    rw [if_pos (by simp; omega)] at hT
    refine .rn ?_
    refine .rn ?_
    refine ⟨k + 1, c18,zz5,(.mk [] [(2,4)] zz14 zz15 rfl rfl rfl)⟩
   ·try simp at c29
    rw [if_neg (by simp; omega)] at hT
    refine .skip (.rn ?_)
    refine ⟨k + 1, c18,zz5,(.mk [] [] zz14 zz15 rfl rfl rfl)⟩
  ·try simp at c18
   have hk2 : k = (slipsL s).length := by omega
   subst hk2
   refine .exit (.seq (.rn ?_))
   refine .ret ?_
   refine ⟨_, _, zz4,zz4, ?_⟩
   rw [show twR s = twL s by unfold twR; rw [if_pos c10], c10]
   exact soft_rfl rfl
theorem ask_none {s : List Wit} {l : List Int} {id : Int} (h0 : checkS s = 0) (h1 : id ≠ 0) (h2 : getW s id = none) : askE s l id true = 5 := by
 unfold askE; rw [if_pos h0, if_pos ⟨h2, .inl h1⟩]
theorem ask_arg {s : List Wit} {l : List Int} {id : Int} (h0 : checkS s = 0) (h1 : id = 0 ∨ ∃ c, getW s id = some c) : askE s l id true = if (desR s l).2 = true then 0 else 1 := by
 unfold askE; rw [if_pos h0, if_neg]
 rintro ⟨h2, h3⟩
 rcases h1 with h1 | ⟨c, h1⟩
 ·exact h3.elim (fun h => h h1) (fun h => by cases h)
 ·rw [h1] at h2; cases h2
theorem p76a (s : List Wit) (l : List Int) (m id : Int) (hl : s.length < 4294967296) (hlL : l.length < 4611686018427387904) (hli : ∀ w ∈ s, w.slips.length < 4294967296 ∧ w.mended.length < 4294967296 ∧ w.models.length < 4294967296) : VPure Tryz.prog 76 [encS s, .agg [ints l, .int .i64 m], .int .i64 id] fun r => Soft r (.agg [ints (belL s l id), .int .i64 (askE s l id true)]) := by
 refine .of_body Tryz.func76 rfl rfl ?_
 refine .seq (.rn ?_)
 refine .seq ?_
 refine .regionL [0,1,2] rfl zz0 ?_
 refine .rn [0] [1,2] ?_
 refine .pc rfl rfl rfl rfl rfl Tryz.call52 (p52 s hl hli) ?_
 refine .rn [2] [] ?_
 refine .done (.seq (.seq (.rn ?_)))
 refine .condS rfl (fun c15 => ?_) (fun c15 => ?_)
 ·try simp at c15
  refine .seq (.rn ?_)
  refine .ret ?_
  refine ⟨_, _, zz4,zz4, ?_⟩
  have hA : askE s l id true = checkS s := by unfold askE; rw [if_neg c15]
  rw [show belL s l id = [] by unfold belL; rw [if_neg (by rw [hA]; exact c15)], hA]
  exact .agg' (AltL.cons .sl0v (AltL.cons (.same _ rfl) AltL.nil))
 ·try simp at c15
  have hl24 := (checkS_ok c15).1
  refine .skip (.seq (.seq ?_))
  refine .regionL [0,1,2,3,4,5,6,7] rfl zz0 ?_
  refine .rn [0,1,2] [3,4,5,6,7] ?_
  refine .split (t := 20) rfl (fun c20 => ?_) (fun c20 => ?_)
  ·try rw [c20]
   try simp at c20
   refine .rn [3,4] [5,6,7] ?_
   refine .pc rfl rfl rfl rfl rfl Tryz.call104 (p104 s id hl) ?_
   refine .rn [6,7] [] ?_
   refine .done ?_
   refine .condS rfl (fun c25 => ?_) (fun c25 => ?_)
   ·try simp at c25
    refine .seq (.rn ?_)
    refine .ret ?_
    refine ⟨_, _, zz4,zz4, ?_⟩
    have hA : askE s l id true = 5 := ask_none c15 c20 (getW_none c25)
    rw [show belL s l id = [] by unfold belL; rw [if_neg (by rw [hA]; decide)], hA]
    exact .agg' (AltL.cons .sl0v (AltL.cons (.same _ rfl) AltL.nil))
   ·try simp at c25
    have hA : askE s l id true = if (desR s l).2 = true then 0 else 1 := ask_arg c15 (.inr (by obtain ⟨i, hi, hie, hg⟩ := getW_some (show 0 ≤ findI s id by omega); exact ⟨_, hg⟩))
    refine .skip (.seq ?_)
    refine .regionL [0,1,2,3,4] rfl zz0 ?_
    refine .rn [0,1,2] [3,4] ?_
    refine .pc rfl rfl rfl rfl rfl Tryz.call139 (p139 s l c15 hlL) ?_
    refine .rn [4] [] ?_
    refine .done (.seq (.seq (.rn ?_)))
    refine .condS rfl (fun c32 => ?_) (fun c32 => ?_)
    ·try simp at c32
     rw [if_neg (by simp [c32])] at hA
     refine .seq (.rn ?_)
     refine .ret ?_
     refine ⟨_, _, zz4,zz4, ?_⟩
     rw [show belL s l id = [] by unfold belL; rw [if_neg (by rw [hA]; decide)], hA]
     exact .agg' (AltL.cons .sl0v (AltL.cons (.same _ rfl) AltL.nil))
    ·try simp at c32
     rw [if_pos c32] at hA
     refine .skip (.seq (.rn ?_))
     refine .seq (.seq (.rn ?_))
     refine .block ?_
     refine .loopS (fun k : Nat => ([(2, .int .i64 id),(3, .ptr 0 0),(4, .ptr 1 0),(6, .ptr 2 0),(9, ints (puF s (fun w => belB s l id w.id) k)),(10, .int .i64 k)], ⟨3,[(2, .box [.sl0, .int .i64 0]),(1, .box [ints l, .int .i64 m]),(0, .box [.vec (s.map encW)])]⟩)) (fun k => k ≤ s.length) (fun k => s.length - k) 0 (by simp) (.mk [] [] zz14 zz15 rfl rfl rfl) ?_
     rintro k hk
     simp only at hk ⊢
     have hfl := puF_len s (fun w => belB s l id w.id) k hk
     refine .seq (.seq (.rn ?_))
     refine .condS rfl (fun c38 => ?_) (fun c38 => ?_)
     ·try simp at c38
      have hw2 := wr1 k
      have hE := encW_e s[k]
      have hgk := getW_own (checkS_nodup c15) (List.getElem_mem c38)
      have hS := puF_succ s (fun w => belB s l id w.id) k c38
      have hfr : (froI s l s[k].id).length < 4294967296 := by have := chI_len c15 c32 (upI s l s[k].id); unfold froI; omega
      refine .skip (.seq (.block (.seq ?_)))
      refine .drawn (ms := [0,0,2,0,8,0,56,120,248,511,0,2047,4095]) (W := [9,11]) (items := [.op 0, .op 1, .op 2, .op 3, .op 4, .op 5, .op 6, .op 7, .op 8, .op 10, .op 9, .op 11, .op 12]) rfl zz0 zz0 zz0 ?_
      refine .rx ?_
      refine .rx ?_
      refine .rx ?_
      refine .rx ?_
      refine .rx ?_
      refine .rx ?_
      refine .rx ?_
      refine .rx ?_
      refine .rx ?_
      refine .rx ?_
      refine .wp rfl rfl rfl rfl rfl Tryz.call146 (p146 s l s[k].id s[k] c15 c32 hgk) ?_
      refine .wp rfl rfl rfl rfl rfl Tryz.call121 (p121 _ _ (by omega)) ?_
      refine .rx ?_
      refine .done (.seq ?_)
      refine .regionL [0,1,2,3,4] rfl zz0 ?_
      refine .rn [0,1] [2,3,4] ?_
      refine .split (t := 54) rfl (fun c54 => ?_) (fun c54 => ?_)
      ·try rw [c54]
       try simp at c54
       rw [if_pos (by simp [belB, c54])] at hS
       refine .rn [2,3,4] [] ?_
       refine .done (.condT rfl ?_)
       refine .regionL [0,1,2,3,4,5,6,7,8] rfl zz0 ?_
       refine .rn [0,1,2,3,4,5,6] [7,8] ?_
       refine .pc rfl rfl rfl rfl rfl Tryz.call147 (p147 _ s[k].id (by omega)) ?_
       refine .rn [8] [] ?_
       refine .done (.rn ?_)
       refine ⟨k + 1, c38,zz5,(.mk [] [] zz14 zz15 rfl rfl rfl)⟩
      ·try rw [c54]
       try simp at c54
       refine .rn [2,3,4] [] ?_
       refine .done ?_
       refine .condS rfl (fun c57 => ?_) (fun c57 => ?_)
       ·try simp at c57
        exact absurd c57 c20
       ·try simp at c57
        rw [if_neg (by simp [belB, c54, c57])] at hS
        refine .skip (.rn ?_)
        refine ⟨k + 1, c38,zz5,(.mk [] [] zz14 zz15 rfl rfl rfl)⟩
     ·try simp at c38
      have hk2 : k = s.length := by omega
      have hall : puF s (fun w => belB s l id w.id) s.length = (idsS s).filter (belB s l id) := puF_all c15 _ _ fun _ _ => rfl
      refine .exit (.seq (.rn ?_))
      refine .ret ?_
      refine ⟨_, _, zz4,zz4, ?_⟩
      rw [show belL s l id = (idsS s).filter (belB s l id) by unfold belL; rw [if_pos hA], hA]
      exact soft_rfl rfl
  ·try rw [c20]
   try simp at c20
   subst c20
   have hA : askE s l 0 true = if (desR s l).2 = true then 0 else 1 := ask_arg c15 (.inl rfl)
   refine .rn [3,4,5,6,7] [] ?_
   refine .done (.condF rfl (.skip (.seq ?_)))
   refine .regionL [0,1,2,3,4] rfl zz0 ?_
   refine .rn [0,1,2] [3,4] ?_
   refine .pc rfl rfl rfl rfl rfl Tryz.call139 (p139 s l c15 hlL) ?_
   refine .rn [4] [] ?_
   refine .done (.seq (.seq (.rn ?_)))
   refine .condS rfl (fun c32 => ?_) (fun c32 => ?_)
   ·try simp at c32
    rw [if_neg (by simp [c32])] at hA
    refine .seq (.rn ?_)
    refine .ret ?_
    refine ⟨_, _, zz4,zz4, ?_⟩
    rw [show belL s l 0 = [] by unfold belL; rw [if_neg (by rw [hA]; decide)], hA]
    exact .agg' (AltL.cons .sl0v (AltL.cons (.same _ rfl) AltL.nil))
   ·try simp at c32
    rw [if_pos c32] at hA
    refine .skip (.seq (.rn ?_))
    refine .seq (.seq (.rn ?_))
    refine .block ?_
    refine .loopS (fun k : Nat => ([(2, .int .i64 0),(3, .ptr 0 0),(4, .ptr 1 0),(6, .ptr 2 0),(9, ints (puF s (fun w => belB s l 0 w.id) k)),(10, .int .i64 k)], ⟨3,[(2, .box [.sl0, .int .i64 0]),(1, .box [ints l, .int .i64 m]),(0, .box [.vec (s.map encW)])]⟩)) (fun k => k ≤ s.length) (fun k => s.length - k) 0 (by simp) (.mk [] [] zz14 zz15 rfl rfl rfl) ?_
    rintro k hk
    simp only at hk ⊢
    have hfl := puF_len s (fun w => belB s l 0 w.id) k hk
    refine .seq (.seq (.rn ?_))
    refine .condS rfl (fun c38 => ?_) (fun c38 => ?_)
    ·try simp at c38
     have hw2 := wr1 k
     have hE := encW_e s[k]
     have hgk := getW_own (checkS_nodup c15) (List.getElem_mem c38)
     have hS := puF_succ s (fun w => belB s l 0 w.id) k c38
     have hfr : (froI s l s[k].id).length < 4294967296 := by have := chI_len c15 c32 (upI s l s[k].id); unfold froI; omega
     refine .skip (.seq (.block (.seq ?_)))
     refine .drawn (ms := [0,0,2,0,8,0,56,120,248,511,0,2047,4095]) (W := [9,11]) (items := [.op 0, .op 1, .op 2, .op 3, .op 4, .op 5, .op 6, .op 7, .op 8, .op 10, .op 9, .op 11, .op 12]) rfl zz0 zz0 zz0 ?_
     refine .rx ?_
     refine .rx ?_
     refine .rx ?_
     refine .rx ?_
     refine .rx ?_
     refine .rx ?_
     refine .rx ?_
     refine .rx ?_
     refine .rx ?_
     refine .rx ?_
     refine .wp rfl rfl rfl rfl rfl Tryz.call146 (p146 s l s[k].id s[k] c15 c32 hgk) ?_
     refine .wp rfl rfl rfl rfl rfl Tryz.call121 (p121 _ _ (by omega)) ?_
     refine .rx ?_
     refine .done (.seq ?_)
     refine .regionL [0,1,2,3,4] rfl zz0 ?_
     refine .rn [0,1] [2,3,4] ?_
     refine .split (t := 54) rfl (fun c54 => ?_) (fun c54 => ?_)
     ·try rw [c54]
      try simp at c54
      rw [if_pos (by simp [belB, c54])] at hS
      refine .rn [2,3,4] [] ?_
      refine .done (.condT rfl ?_)
      refine .regionL [0,1,2,3,4,5,6,7,8] rfl zz0 ?_
      refine .rn [0,1,2,3,4,5,6] [7,8] ?_
      refine .pc rfl rfl rfl rfl rfl Tryz.call147 (p147 _ s[k].id (by omega)) ?_
      refine .rn [8] [] ?_
      refine .done (.rn ?_)
      refine ⟨k + 1, c38,zz5,(.mk [] [] zz14 zz15 rfl rfl rfl)⟩
     ·try rw [c54]
      try simp at c54
      refine .rn [2,3,4] [] ?_
      refine .done ?_
      refine .condS rfl (fun c57 => ?_) (fun c57 => ?_)
      ·try simp at c57
       rw [if_pos (by simp [belB])] at hS
       refine .regionL [0,1,2,3,4,5,6,7,8] rfl zz0 ?_
       refine .rn [0,1,2,3,4,5,6] [7,8] ?_
       refine .pc rfl rfl rfl rfl rfl Tryz.call147 (p147 _ s[k].id (by omega)) ?_
       refine .rn [8] [] ?_
       refine .done (.rn ?_)
       refine ⟨k + 1, c38,zz5,(.mk [] [] zz14 zz15 rfl rfl rfl)⟩
      ·try simp at c57
    ·try simp at c38
     have hk2 : k = s.length := by omega
     have hall : puF s (fun w => belB s l 0 w.id) s.length = (idsS s).filter (belB s l 0) := puF_all c15 _ _ fun _ _ => rfl
     refine .exit (.seq (.rn ?_))
     refine .ret ?_
     refine ⟨_, _, zz4,zz4, ?_⟩
     rw [show belL s l 0 = (idsS s).filter (belB s l 0) by unfold belL; rw [if_pos hA], hA]
     exact soft_rfl rfl
theorem p67g (s : List Wit) (n : Int) (hl : s.length < 4294967296) : VPure Tryz.prog 67 [encS s, .int .i64 n] fun r => Soft r (.tup [ints (arA s n), ints (arM s n), .int .i64 (arE s n)]) := by
 refine .of_body Tryz.func67 rfl rfl ?_
 refine .seq (.rn ?_)
 refine .seq (.seq ?_)
 refine .regionL [0,1,2] rfl zz0 ?_
 refine .rn [0] [1,2] ?_
 refine .pc rfl rfl rfl rfl rfl Tryz.call35 (p35 s hl) ?_
 refine .rn [2] [] ?_
 refine .done (.seq (.rn ?_))
 refine .condS rfl (fun c15 => ?_) (fun c15 => ?_)
 ·try simp at c15
  refine .seq (.rn ?_)
  refine .ret ?_
  refine ⟨_, _, zz4,zz4, ?_⟩
  have hE : arE s n = checkS s := by unfold arE; rw [if_neg c15]
  rw [show arA s n = [] by unfold arA; rw [if_neg (by rw [hE]; exact c15)], show arM s n = [] by unfold arM; rw [if_neg (by rw [hE]; exact c15)], hE]
  exact soft_tup (AltL.cons .sl0v (AltL.cons .sl0v (AltL.cons (.same _ rfl) AltL.nil)))
 ·try simp at c15
  have hl24 := (checkS_ok c15).1
  have hiff := hd_held c15 n
  refine .skip (.seq (.seq ?_))
  refine .regionL [0,1,2,3,4] rfl zz0 ?_
  refine .rn [0] [1,2,3,4] ?_
  refine .pc rfl rfl rfl rfl rfl Tryz.call94 (p94 s c15) ?_
  refine .rn [2] [3,4] ?_
  refine .pc rfl rfl rfl rfl rfl Tryz.call127 (p127 (heldM s) n) ?_
  refine .rn [4] [] ?_
  refine .done ?_
  refine .condS rfl (fun c21 => ?_) (fun c21 => ?_)
  ·try simp at c21
   have h5 : hdS s (hasP n) = [] := Decidable.by_contra fun h1 => by have := hiff.2 h1; simp_all
   have hE : arE s n = 5 := by unfold arE; rw [if_pos c15, if_pos h5]
   refine .seq (.rn ?_)
   refine .ret ?_
   refine ⟨_, _, zz4,zz4, ?_⟩
   rw [show arA s n = [] by unfold arA; rw [if_neg (by rw [hE]; decide)], show arM s n = [] by unfold arM; rw [if_neg (by rw [hE]; decide)], hE]
   exact soft_tup (AltL.cons .sl0v (AltL.cons .sl0v (AltL.cons (.same _ rfl) AltL.nil)))
  ·try simp at c21
   have h5 : hdS s (hasP n) ≠ [] := by first | exact c21 | exact hiff.1 (by simpa using c21)
   have hE : arE s n = chE s := by unfold arE; rw [if_pos c15, if_neg h5]
   clear hiff
   refine .skip (.seq ?_)
   refine .regionL [0,1,2,3,4,5,6] rfl zz0 ?_
   refine .rn [0] [1,2,3,4,5,6] ?_
   refine .pc rfl rfl rfl rfl rfl Tryz.call108 (p108' s hl) ?_
   refine .rn [2,3,4,5,6] [] ?_
   refine .done (.seq (.seq (.rn ?_)))
   refine .condS rfl (fun c28 => ?_) (fun c28 => ?_)
   ·try simp at c28
    refine .seq (.rn ?_)
    refine .ret ?_
    refine ⟨_, _, zz4,zz4, ?_⟩
    rw [show arA s n = [] by unfold arA; rw [if_neg (by rw [hE]; exact c28)], show arM s n = [] by unfold arM; rw [if_neg (by rw [hE]; exact c28)], hE]
    exact soft_tup (AltL.cons .sl0v (AltL.cons .sl0v (AltL.cons (.same _ rfl) AltL.nil)))
   ·try simp at c28
    refine .skip (.seq ?_)
    refine .regionL [0,1,2,3,4,5,6,7,8] rfl zz0 ?_
    refine .rn [0,1,2] [3,4,5,6,7,8] ?_
    refine .pc rfl rfl rfl rfl rfl Tryz.call140 (p140' s n c28) ?_
    refine .rn [4,5,6,7,8] [] ?_
    refine .done (.seq (.rn ?_))
    refine .ret ?_
    refine ⟨_, _, zz4,zz4, ?_⟩
    rw [show arA s n = surL s n by unfold arA; rw [if_pos (hE.trans c28)], show arM s n = mayL s n by unfold arM; rw [if_pos (hE.trans c28)], hE, c28]
    exact soft_rfl rfl
theorem p66g (s : List Wit) (hl : s.length < 4294967296) : VPure Tryz.prog 66 [encS s] fun r => Soft r (.tup [ints (twR s), .int .i64 (chE s)]) := by
 refine .of_body Tryz.func66 rfl rfl ?_
 refine .seq (.rn ?_)
 refine .seq ?_
 refine .regionL [0,1,2,3,4,5,6] rfl zz0 ?_
 refine .rn [0] [1,2,3,4,5,6] ?_
 refine .pc rfl rfl rfl rfl rfl Tryz.call108 (p108' s hl) ?_
 refine .rn [2,3,4,5,6] [] ?_
 refine .done (.seq (.seq (.rn ?_)))
 refine .condS rfl (fun c17 => ?_) (fun c17 => ?_)
 ·try simp at c17
  refine .seq (.rn ?_)
  refine .ret ?_
  refine ⟨_, _, zz4,zz4, ?_⟩
  rw [show twR s = [] by unfold twR; rw [if_neg c17]]
  exact soft_tup (AltL.cons .sl0v (AltL.cons (.same _ rfl) AltL.nil))
 ·try simp at c17
  have h0 := (chE_ok c17).1
  have hl24 := (checkS_ok h0).1
  have hlen := heldM_len h0
  have hsl := slipsL_len s
  have h125 : VPure Tryz.prog 125 [.vmap (kvs (kvM (heldM s)))] fun r => r = ints (slipsL s) := by
   have h := p125 (kvM (heldM s)) (by rw [kvM_keys]; exact heldM_nodup s) (by simp only [kvM, List.length_map]; omega)
   rw [kvM_keys] at h; exact h
  have hL : (slipsL s).length ≤ 720 := by omega
  clear hsl
  refine .skip (.seq (.rn ?_))
  refine .seq (.seq ?_)
  refine .regionL [0,1,2,3,4] rfl zz0 ?_
  refine .rn [0] [1,2,3,4] ?_
  refine .pc rfl rfl rfl rfl rfl Tryz.call94 (p94 s h0) ?_
  refine .pc rfl rfl rfl rfl rfl Tryz.call125 (h125) ?_
  refine .rn [3,4] [] ?_
  refine .done (.block ?_)
  refine .loopS (fun k : Nat => ([(1, .ptr 0 0),(4, .vec ((chL s).map encC)),(6, .grow 1 ((slipsL s).take k |>.filter fun n => decide (2 ≤ (surL s n).length)).length true),(21, ints (slipsL s)),(22, .int .i64 (slipsL s).length),(23, .int .i64 k)], ⟨2,[(1, .grow 1 (((slipsL s).take k |>.filter fun n => decide (2 ≤ (surL s n).length)).map (.int .i64))),(0, .box [.vec (s.map encW)])]⟩)) (fun k => k ≤ (slipsL s).length) (fun k => (slipsL s).length - k) 0 (by simp) (.mk [] [] zz14 zz15 rfl rfl rfl) ?_
  rintro k hk
  simp only at hk ⊢
  refine .seq (.rn ?_)
  refine .seq ?_
  refine .condS rfl (fun c24 => ?_) (fun c24 => ?_)
  ·try simp at c24
   have hw2 := wr1 k
   have hle : ((slipsL s).take k |>.filter fun n => decide (2 ≤ (surL s n).length)).length ≤ k := Nat.le_trans (List.length_filter_le _ _) (by simp; omega)
   have hb : ((slipsL s).take k |>.filter fun n => decide (2 ≤ (surL s n).length)).length ≤ 4294967295 := by omega
   have hone : allOne [PV.int IntKind.i64 (slipsL s)[k]] = true := rfl
   have hT := take_succ_filt (fun n => decide (2 ≤ (surL s n).length)) (slipsL s) k c24
   refine .skip (.seq (.block (.seq (.rn ?_))))
   refine .seq ?_
   refine .regionL [0,1,2,3,4,5,6,7,8] rfl zz0 ?_
   refine .rn [0,1,2] [3,4,5,6,7,8] ?_
   refine .pc rfl rfl rfl rfl rfl Tryz.call140 (p140' s (slipsL s)[k] c17) ?_
   refine .rn [4,5,6,7,8] [] ?_
   refine .done (.seq (.rn ?_))
   refine .condS rfl (fun c36 => ?_) (fun c36 => ?_)
   ·try simp at c36
    rw [if_pos (by simp; omega)] at hT
    refine .rn ?_
    refine .rn ?_
    refine ⟨k + 1, c24,zz5,(.mk [] [(1,3)] zz14 zz15 rfl rfl rfl)⟩
   ·try simp at c36
    rw [if_neg (by simp; omega)] at hT
    refine .skip (.rn ?_)
    refine ⟨k + 1, c24,zz5,(.mk [] [] zz14 zz15 rfl rfl rfl)⟩
  ·try simp at c24
   have hk2 : k = (slipsL s).length := by omega
   subst hk2
   refine .exit (.seq (.rn ?_))
   refine .ret ?_
   refine ⟨_, _, zz4,zz4, ?_⟩
   rw [show twR s = twL s by unfold twR; rw [if_pos c17], c17]
   exact soft_rfl rfl
theorem p75 (s : List Wit) (l : List Int) (m id : Int) (hl : s.length < 4294967296) (hlL : l.length < 4611686018427387904) (hli : ∀ w ∈ s, w.slips.length < 4294967296 ∧ w.mended.length < 4294967296 ∧ w.models.length < 4294967296) : VPure Tryz.prog 75 [encS s, .agg [ints l, .int .i64 m], .int .i64 id] fun r => r = .agg [ints (froL s l id), .int .i64 (askE s l id false)] := VPure.soft (p75a s l m id hl hlL hli) rfl
theorem p76 (s : List Wit) (l : List Int) (m id : Int) (hl : s.length < 4294967296) (hlL : l.length < 4611686018427387904) (hli : ∀ w ∈ s, w.slips.length < 4294967296 ∧ w.mended.length < 4294967296 ∧ w.models.length < 4294967296) : VPure Tryz.prog 76 [encS s, .agg [ints l, .int .i64 m], .int .i64 id] fun r => r = .agg [ints (belL s l id), .int .i64 (askE s l id true)] := VPure.soft (p76a s l m id hl hlL hli) rfl
theorem p73 (s : List Wit) (n : Int) (hl : s.length < 4294967296) (hli : ∀ w ∈ s, w.slips.length < 4294967296 ∧ w.mended.length < 4294967296 ∧ w.models.length < 4294967296) : VPure Tryz.prog 73 [encS s, .int .i64 n] fun r => r = .agg [ints (arA s n), ints (arM s n), .int .i64 (arE s n)] := VPure.soft (p73a s n hl hli) rfl
theorem p74 (s : List Wit) (hl : s.length < 4294967296) (hli : ∀ w ∈ s, w.slips.length < 4294967296 ∧ w.mended.length < 4294967296 ∧ w.models.length < 4294967296) : VPure Tryz.prog 74 [encS s] fun r => r = .agg [ints (twR s), .int .i64 (chE s)] := VPure.soft (p74a s hl hli) rfl
theorem p67e (s : List Wit) (n : Int) (hl : s.length < 4294967296) : VPure Tryz.prog 67 [encS s, .int .i64 n] fun r => r = .tup [ints (arA s n), ints (arM s n), .int .i64 (arE s n)] := VPure.soft (p67g s n hl) rfl
theorem p66e (s : List Wit) (hl : s.length < 4294967296) : VPure Tryz.prog 66 [encS s] fun r => r = .tup [ints (twR s), .int .i64 (chE s)] := VPure.soft (p66g s hl) rfl
attribute [local simp] zW tup2
set_option maxHeartbeats 40000000
theorem few_40c {s : List Wit} (h : fewS s = true) : s.length ≤ 40 := by
 unfold fewS at h
 simp only [Bool.and_eq_true, Bool.not_eq_true', Bool.or_eq_true, decide_eq_true_eq] at h
 omega
theorem fro_len {s : List Wit} {l : List Int} (id : Int) : (froL s l id).length ≤ s.length := by
 unfold froL
 split
 ·rename_i h
  obtain ⟨h0, hd, _⟩ := askE_ok h
  exact chI_len h0 hd _
 ·simp
theorem bel_len {s : List Wit} {l : List Int} (id : Int) : (belL s l id).length ≤ s.length := by
 unfold belL
 split
 ·exact Nat.le_trans (List.length_filter_le _ _) (by rw [idsS_len]; exact Nat.le_refl _)
 ·simp
theorem arA_len (s : List Wit) (n : Int) : (arA s n).length ≤ s.length := by
 unfold arA
 split
 ·exact Nat.le_trans (List.length_filter_le _ _) (by rw [idsS_len]; exact Nat.le_refl _)
 ·simp
theorem arM_len (s : List Wit) (n : Int) : (arM s n).length ≤ s.length := by
 unfold arM
 split
 ·exact Nat.le_trans (List.length_filter_le _ _) (by rw [idsS_len]; exact Nat.le_refl _)
 ·simp
theorem twR_len (s : List Wit) : (twR s).length ≤ 720 := by
 unfold twR
 split
 ·rename_i h
  have := heldM_len (chE_ok h).1
  exact Nat.le_trans (List.length_filter_le _ _) (by rw [slipsL_len]; exact this)
 ·simp
theorem bestP_len (s : List Wit) : (bestP s).length ≤ s.length := by
 unfold bestP
 by_cases h : chE s = 0
 ·simp [chL_len h]
 ·simp [chL_no h]
theorem p16 (s : List Wit) (n id : Int) (l : List Int) (m : Int) (hl : s.length < 4611686018427387904) (hlL : l.length < 4611686018427387904) (sanB : Bool) (hsan : VPure Tryz.prog 22 [] fun r => r = .bool sanB) (hsb : sanB = true) : VPure Tryz.prog 16 [encS s, .int .i64 n, .int .i64 id, .agg [ints l, .int .i64 m]] fun r => r = .bool true := by
 refine .of_body Tryz.func16 rfl rfl ?_
 refine .seq (.rn ?_)
 refine .seq (.seq ?_)
 refine .regionL [0,1,2,3,4,5,6,7,8] rfl zz0 ?_
 refine .rn [0] [1,2,3,4,5,6,7,8] ?_
 refine .pc rfl rfl rfl rfl rfl Tryz.call26 (p26 s hl) ?_
 refine .rn [2,3] [4,5,6,7,8] ?_
 refine .split (t := 28) rfl (fun c28 => ?_) (fun c28 => ?_)
 ·first | cases c28 | try rw [c28]
  try simp at c28
  refine .rn [4,5,6,7,8] [] ?_
  refine .done (.condT rfl (.seq ?_))
  refine .regionL [0,1] rfl zz0 ?_
  refine .pc rfl rfl rfl rfl rfl Tryz.call22 (hsan) ?_
  refine .rn [1] [] ?_
  refine .done (.ret ?_)
  refine ⟨_, _, zz4,zz4, ?_⟩
  first | rfl | (simp [*]; done) | (simp_all; done)
 ·first | cases c28 | try rw [c28]
  try simp at c28
  obtain ⟨hl2, hw⟩ := fewS_len c28
  have h40 := few_40c c28
  have hA := arA_len s n
  have hM := arM_len s n
  have hT := twR_len s
  have hB := bestP_len s
  have q67 := p67e s n hl2
  have q73 := p73 s n hl2 hw
  have q66 := p66e s hl2
  have q74 := p74 s hl2 hw
  have q63 := p63' s (by omega)
  generalize arA s n = A1 at q67 q73 hA
  generalize arM s n = M1 at q67 q73 hM
  generalize arE s n = e1 at q67 q73
  generalize twR s = T1 at q66 q74 hT
  generalize chE s = ce at q66 q74 q63
  generalize bestP s = bp at q63 hB
  generalize bestS s (chL s).length = bn at q63
  refine .rn [4,5] [6,7,8] ?_
  refine .pc rfl rfl rfl rfl rfl Tryz.call38 (p38 l) ?_
  refine .rn [7,8] [] ?_
  refine .done ?_
  refine .condS rfl (fun c33 => ?_) (fun c33 => ?_)
  ·try simp at c33
   refine .seq ?_
   refine .regionL [0,1] rfl zz0 ?_
   refine .pc rfl rfl rfl rfl rfl Tryz.call22 (hsan) ?_
   refine .rn [1] [] ?_
   refine .done (.ret ?_)
   refine ⟨_, _, zz4,zz4, ?_⟩
   first | rfl | (simp [*]; done) | (simp_all; done)
  ·try simp at c33
   refine .skip (.seq ?_)
   refine .regionL [0,1,2,3,4,5,6,7,8,9] rfl zz0 ?_
   refine .rn [0,1] [2,3,4,5,6,7,8,9] ?_
   refine .pc rfl rfl rfl rfl rfl Tryz.call67 (q67) ?_
   refine .rn [3,4,5,6,7,8,9] [] ?_
   refine .done (.seq ?_)
   refine .regionL [0,1,2,3,4] rfl zz0 ?_
   refine .rn [0,1] [2,3,4] ?_
   refine .pc rfl rfl rfl rfl rfl Tryz.call73 (q73) ?_
   refine .rn [3,4] [] ?_
   refine .done (.seq ?_)
   refine .regionL [0,1,2,3,4,5,6] rfl zz0 ?_
   refine .rn [0] [1,2,3,4,5,6] ?_
   refine .pc rfl rfl rfl rfl rfl Tryz.call66 (q66) ?_
   refine .rn [2,3,4,5,6] [] ?_
   refine .done (.seq ?_)
   refine .regionL [0,1,2,3] rfl zz0 ?_
   refine .rn [0] [1,2,3] ?_
   refine .pc rfl rfl rfl rfl rfl Tryz.call74 (q74) ?_
   refine .rn [2,3] [] ?_
   refine .done (.seq ?_)
   refine .regionL [0,1,2,3,4,5,6,7] rfl zz0 ?_
   refine .rn [0] [1,2,3,4,5,6,7] ?_
   refine .pc rfl rfl rfl rfl rfl Tryz.call63 (q63) ?_
   refine .rn [2,3,4,5,6,7] [] ?_
   refine .done (.seq (.seq ?_))
   refine .regionL [0,1,2,3,4,5,6,7,8,9,10,11,12,13,14,15,16,17,18,19,20,21,22,23,24,25,26,27,28,29,30] rfl zz0 ?_
   refine .rn [0,1,2] [3,4,5,6,7,8,9,10,11,12,13,14,15,16,17,18,19,20,21,22,23,24,25,26,27,28,29,30] ?_
   refine .pc rfl rfl rfl rfl rfl Tryz.call34 (p34 A1 A1 (by omega) (by omega)) ?_
   refine .rn [4,5] [6,7,8,9,10,11,12,13,14,15,16,17,18,19,20,21,22,23,24,25,26,27,28,29,30] ?_
   refine .split (t := 62) rfl (fun c62 => ?_) (fun c62 => ?_)
   ·first | cases c62 | try rw [c62]
    try simp at c62
   ·first | cases c62 | try rw [c62]
    try simp at c62
    refine .rn [6,7,8] [9,10,11,12,13,14,15,16,17,18,19,20,21,22,23,24,25,26,27,28,29,30] ?_
    refine .pc rfl rfl rfl rfl rfl Tryz.call34 (p34 M1 M1 (by omega) (by omega)) ?_
    refine .rn [10,11,12] [13,14,15,16,17,18,19,20,21,22,23,24,25,26,27,28,29,30] ?_
    refine .split (t := 69) rfl (fun c69 => ?_) (fun c69 => ?_)
    ·first | cases c69 | try rw [c69]
     try simp at c69
    ·first | cases c69 | try rw [c69]
     try simp at c69
     refine .rn [13,14,15,16,17,18] [19,20,21,22,23,24,25,26,27,28,29,30] ?_
     refine .split (t := 75) rfl (fun c75 => ?_) (fun c75 => ?_)
     ·first | cases c75 | try rw [c75]
      try simp at c75
     ·first | cases c75 | try rw [c75]
      try simp at c75
      refine .rn [19,20,21] [22,23,24,25,26,27,28,29,30] ?_
      refine .pc rfl rfl rfl rfl rfl Tryz.call34 (p34 T1 T1 (by omega) (by omega)) ?_
      refine .rn [23,24,25] [26,27,28,29,30] ?_
      refine .split (t := 82) rfl (fun c82 => ?_) (fun c82 => ?_)
      ·first | cases c82 | try rw [c82]
       try simp at c82
      ·first | cases c82 | try rw [c82]
       try simp at c82
       refine .rn [26,27,28,29,30] [] ?_
       refine .done ?_
       refine .condS rfl (fun c87 => ?_) (fun c87 => ?_)
       ·try simp at c87
       ·try simp at c87
        refine .skip (.seq (.seq (.rn ?_)))
        refine .block ?_
        refine .loopS (fun st : Nat × List Int × Int => ([(2, .int .i64 id),(4, .ptr 0 0),(7, .ptr 1 0),(16, .ptr 4 0),(18, .int .i64 st.1)], ⟨5,[(4, .box [ints bp, .int .i64 bn]),(3, .box [ints T1, .int .i64 ce]),(2, .box [ints A1, ints M1, .int .i64 e1]),(1, .box [ints st.2.1, .int .i64 st.2.2]),(0, .box [.vec (s.map encW)])]⟩)) (fun st => st.1 ≤ 2 ∧ st.2.1.length < 4611686018427387904) (fun st => 2 - st.1) (0, l, m) ⟨by simp, hlL⟩ (.mk [] [] zz14 zz15 rfl rfl rfl) ?_
        rintro ⟨k, x, y⟩ ⟨hk, hx⟩
        simp only at hk hx ⊢
        have hF := fro_len (s := s) (l := x) id
        have hG := bel_len (s := s) (l := x) id
        have q71 := p71' s x y id (by omega) hx
        have q75 := p75 s x y id hl2 hx hw
        have q72 := p72' s x y id (by omega) hx
        have q76 := p76 s x y id hl2 hx hw
        generalize froL s x id = F1 at q71 q75 hF
        generalize belL s x id = G1 at q72 q76 hG
        generalize askE s x id false = a1 at q71 q75
        generalize askE s x id true = a2 at q72 q76
        refine .seq (.seq (.rn ?_))
        refine .condS rfl (fun c89 => ?_) (fun c89 => ?_)
        ·try simp at c89
         have hw2 := wr1 k
         refine .skip (.seq (.block (.seq ?_)))
         refine .regionL [0,1,2,3,4,5,6,7,8] rfl zz0 ?_
         refine .rn [0,1,2] [3,4,5,6,7,8] ?_
         refine .pc rfl rfl rfl rfl rfl Tryz.call71 (q71) ?_
         refine .rn [4,5,6,7,8] [] ?_
         refine .done (.seq ?_)
         refine .regionL [0,1,2,3,4,5] rfl zz0 ?_
         refine .rn [0,1,2] [3,4,5] ?_
         refine .pc rfl rfl rfl rfl rfl Tryz.call75 (q75) ?_
         refine .rn [4,5] [] ?_
         refine .done (.seq ?_)
         refine .regionL [0,1,2,3,4,5,6,7,8] rfl zz0 ?_
         refine .rn [0,1,2] [3,4,5,6,7,8] ?_
         refine .pc rfl rfl rfl rfl rfl Tryz.call72 (q72) ?_
         refine .rn [4,5,6,7,8] [] ?_
         refine .done (.seq ?_)
         refine .regionL [0,1,2,3,4,5] rfl zz0 ?_
         refine .rn [0,1,2] [3,4,5] ?_
         refine .pc rfl rfl rfl rfl rfl Tryz.call76 (q76) ?_
         refine .rn [4,5] [] ?_
         refine .done (.seq (.seq ?_))
         refine .regionL [0,1,2,3,4,5,6,7,8,9,10,11,12,13,14,15,16,17,18,19,20,21,22,23] rfl zz0 ?_
         refine .rn [0,1,2] [3,4,5,6,7,8,9,10,11,12,13,14,15,16,17,18,19,20,21,22,23] ?_
         refine .pc rfl rfl rfl rfl rfl Tryz.call34 (p34 F1 F1 (by omega) (by omega)) ?_
         refine .rn [4,5] [6,7,8,9,10,11,12,13,14,15,16,17,18,19,20,21,22,23] ?_
         refine .split (t := 119) rfl (fun c119 => ?_) (fun c119 => ?_)
         ·first | cases c119 | try rw [c119]
          try simp at c119
         ·first | cases c119 | try rw [c119]
          try simp at c119
          refine .rn [6,7,8,9,10,11] [12,13,14,15,16,17,18,19,20,21,22,23] ?_
          refine .split (t := 125) rfl (fun c125 => ?_) (fun c125 => ?_)
          ·first | cases c125 | try rw [c125]
           try simp at c125
          ·first | cases c125 | try rw [c125]
           try simp at c125
           refine .rn [12,13,14] [15,16,17,18,19,20,21,22,23] ?_
           refine .pc rfl rfl rfl rfl rfl Tryz.call34 (p34 G1 G1 (by omega) (by omega)) ?_
           refine .rn [16,17,18] [19,20,21,22,23] ?_
           refine .split (t := 132) rfl (fun c132 => ?_) (fun c132 => ?_)
           ·first | cases c132 | try rw [c132]
            try simp at c132
           ·first | cases c132 | try rw [c132]
            try simp at c132
            refine .rn [19,20,21,22,23] [] ?_
            refine .done ?_
            refine .condS rfl (fun c137 => ?_) (fun c137 => ?_)
            ·try simp at c137
            ·try simp at c137
             refine .skip (.rn ?_)
             refine .rn ?_
             refine ⟨(k + 1, bp, bn), ⟨by simp only; omega, by simp only; omega⟩, zz5,(.mk [] [] zz14 zz15 rfl rfl rfl)⟩
        ·try simp at c89
         refine .exit (.seq ?_)
         refine .regionL [0,1] rfl zz0 ?_
         refine .pc rfl rfl rfl rfl rfl Tryz.call22 (hsan) ?_
         refine .rn [1] [] ?_
         refine .done (.ret ?_)
         refine ⟨_, _, zz4,zz4, ?_⟩
         first | rfl | (simp [*]; done) | (simp_all; done)
end Go.Am.Ds
end
