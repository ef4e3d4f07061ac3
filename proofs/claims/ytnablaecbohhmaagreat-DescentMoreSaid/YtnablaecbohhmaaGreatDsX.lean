/-
 What is used in the proof of a statement (part DsX); no condition.
-/
import Derived.Test.YtnablaecbohhmaaGreatDsT
import Derived.Test.YtnablaecbohhmaaGreatVm2
import Derived.Test.YtnablaecbohhmaaGreatDsC
import Derived.Test.YtnablaecbohhmaaGreatDsG
import Derived.Test.YtnablaecbohhmaaGreatDsF
import Derived.Test.YtnablaecbohhmaaGreatDsS
set_option linter.all false
namespace Go.Am
open Go Go.Proofs
section
variable {P : Program} {N b : Nat} {vts : VTs} {vh : VHeap}
theorem VOps.pc {ops : Array Oper} {K : VTs → VHeap → Prop} {i : Nat} {r : List Nat} {o : Oper} {fo : Operand} {args : Array Operand} {aT : Array TypeId} {f : FuncId} {xs ys l : List PV} {v : PV} (ho : ops[i]? = some o) (hw : vwanted ops o vts = some true) (hc : o.op = .call ⟨.value fo, args, aT⟩) (hf : veval vts fo = some (.func f xs ys)) (hl : vevals vts args.toList = some l) (hcf : ∀ cs w, (callFunc f cs).run P w = .ok (.enter f cs) w) (hp : VPure P f (xs ++ l ++ ys) fun r => r = v) (k : VOps P N b ops K r (tput vts o.dst v) vh) (hd : dstOK N o.dst = true := by decide) (hF : PV.allF (xs ++ l ++ ys) = true := by first | rfl | simp [*]) : VOps P N b ops K (i :: r) vts vh := .step ho hw (.pure hc hf hl hcf hd hp hF fun r h => by subst h; exact k)
theorem VScr.wp {ops : Array Oper} {W todo : List Nat} {K : VTs → VHeap → Prop} {m : Nat} {r : List SItem} {o : Oper} {fo : Operand} {args : Array Operand} {aT : Array TypeId} {f : FuncId} {xs ys l : List PV} {v : PV} (ho : ops[m]? = some o) (hw : vwanted ops o vts = some true) (hc : o.op = .call ⟨.value fo, args, aT⟩) (hf : veval vts fo = some (.func f xs ys)) (hl : vevals vts args.toList = some l) (hcf : ∀ cs w, (callFunc f cs).run P w = .ok (.enter f cs) w) (hp : VPure P f (xs ++ l ++ ys) fun r => r = v) (k : VScr P N b ops W K r (todoF ops todo o.dst) (tput vts o.dst v) vh) (hW : W.contains m = true := by decide) (hd : dstOK N o.dst = true := by decide) (hF : PV.allF (xs ++ l ++ ys) = true := by first | rfl | simp [*]) : VScr P N b ops W K (.op m :: r) todo vts vh := .wr ho hw hW (.pure hc hf hl hcf hd hp hF fun r h => by subst h; exact k)
theorem VScr.ux {ops : Array Oper} {W todo : List Nat} {K : VTs → VHeap → Prop} {m : Nat} {r : List SItem} {o : Oper} (k : VScr P N b ops W K r (todoF ops todo o.dst) (tput vts o.dst (.tup [])) vh) (ho : ops[m]? = some o := by rfl) (hw : vwanted ops o vts = some false := by rfl) (hd : dstOK N o.dst = true := by decide) : VScr P N b ops W K (.op m :: r) todo vts vh := .un ho hw hd k
theorem VScr.wv {ops : Array Oper} {W todo : List Nat} {K : VTs → VHeap → Prop} {m : Nat} {r : List SItem} {o : Oper} {v : PV} {vh' : VHeap} (k : VScr P N b ops W K r (bif isA o.op then todoF ops todo o.dst else []) (tput vts o.dst v) vh') (ho : ops[m]? = some o := by rfl) (hw : vwanted ops o vts = some true := by rfl) (hW : W.contains m = true := by decide) (hv : vop P vts vh o.op = some (v, vh') := by simp [*] <;> first | exact ⟨rfl, rfl⟩ | exact rfl) (hd : dstOK N o.dst = true := by decide) : VScr P N b ops W K (.op m :: r) todo vts vh := .wr ho hw hW (.vop hv hd k)
theorem VScrF.rf {ops : Array Oper} {ms : List Nat} {W As todo : List Nat} {K : VTs → VHeap → Prop} {m : Nat} {r : List SItem} {o : Oper} {vfl : List (Nat × Nat)} {Ar : List Nat} {v : PV} (k : VScrF P N b ops ms W As K r (bif selfFree o && vfl.isEmpty then m :: todoF ops todo o.dst else todoF ops todo o.dst) vfl Ar (tput vts o.dst v) vh) (ho : ops[m]? = some o := by rfl) (hw : vwanted ops o vts = some true := by rfl) (hW : W.contains m = false := by decide) (hA : Ar.contains m = false := by decide) (hA2 : As.contains m = false := by decide) (hr : isR o.op = true := by rfl) (hd : dstOK N o.dst = true := by decide) (hv : vop P vts (dropL (hidI ms m vfl) vh) o.op = some (v, dropL (hidI ms m vfl) vh) := by simp [*] <;> first | exact ⟨rfl, rfl⟩ | exact rfl) : VScrF P N b ops ms W As K (.op m :: r) todo vfl Ar vts vh := .rd ho hw hW hA hA2 hr hd hv k
theorem wr1 (k : Nat) (h : k < 4611686018427387904 := by omega) : IntKind.i64.wrap ((k : Int) + 1) = (k : Int) + 1 := wrap64 (by omega) (by omega)
end
end Go.Am
namespace Go.Am.Ds
open Go Go.Am Go.Proofs
theorem encW_e (w : Wit) : encW w = .agg [.int .i64 w.id, .int .i64 w.known, ints w.slips, ints w.mended, ints w.models, .int .i64 w.lo, .int .i64 w.hi] := rfl
end Go.Am.Ds
set_option maxHeartbeats 40000000
set_option maxRecDepth 100000
namespace Go.Am
open Go Go.Proofs
section
variable {P : Program} {N b : Nat} {vts : VTs} {vh : VHeap}
theorem VScr.rx {ops : Array Oper} {W todo : List Nat} {K : VTs → VHeap → Prop} {m : Nat} {r : List SItem} {o : Oper} {v : PV} (k : VScr P N b ops W K r (bif selfFree o then m :: todoF ops todo o.dst else todoF ops todo o.dst) (tput vts o.dst v) vh) (ho : ops[m]? = some o := by rfl) (hw : vwanted ops o vts = some true := by rfl) (hW : W.contains m = false := by decide) (hr : isR o.op = true := by rfl) (hd : dstOK N o.dst = true := by decide) (hv : vop P vts vh o.op = some (v, vh) := by simp [*] <;> first | exact ⟨rfl, rfl⟩ | exact rfl) : VScr P N b ops W K (.op m :: r) todo vts vh := .rd ho hw hW hr hd hv k
end
end Go.Am
section
namespace Go.Am
open Go Go.Proofs
theorem rf_ret {i : Nat} {vts vts2 : VTs} {Q : VPost} {vh' : VHeap} {N2 : Nat} {ps2 : Array Tmp} {a2 b2 : Code} (h : vh'.get i = some (.loop N2 ps2 a2 b2 vts2 (some .ret))) (k : Q .ret vts (vh'.drop i)) : rfEnd i vts Q vh' := by
 unfold rfEnd; rw [h]; exact k
end Go.Am
end
section
namespace Go.Am.Ds
open Go Go.Am Go.Proofs
attribute [local simp] vrun vwanted vyielded vop veval vevals vparts vO vbuiltin vlen vappend velems vcopy vmakeSlice vbuildSlice valloc vbox vmakeMap vload vpartT vpart vstore vfieldAddr vfield vindexAddr vindex vextract vslice vsliceZ vbounds vbnd zeroO vidx vlookup vmget vmapUpdate vdelete vnilq vnilp vnils vbin vsc vsc1 vscs vscl abinOp aint ashift aunOp aconvert amaxs amax2 pvcV pvc pvcs tput tget vargs VHeap.get VHeap.alloc VHeap.put VHeap.drop VHeap.empty vlook vput vdrop psplice pfill preps chunk List.range List.range.loop vresults vresult vresultV frz frzL PV.isF PV.allF PV.scal PV.allS retP subT allFT PV.one PV.ids PV.idsL dropL beq_eq ble_dec blt_dec
theorem preps1 (z : PV) (n : Nat) : preps [z] n = List.replicate n z := by
 unfold preps
 induction n with
 | zero => rfl
 | succ n ih => simp only [List.replicate_succ, List.flatten_cons, ih]; rfl
theorem flat_int (k : IntKind) : ∀ l : List Int, (l.map (PV.int k)).flatMap PV.cells = l.map (PV.int k)
 | [] => rfl
 | a :: r => by simp only [List.map_cons, List.flatMap_cons, flat_int k r]; rfl
theorem frz_own_int (vh : VHeap) (i k : Nat) (l : List Int) (hg : vh.get i = some (.arr false 1 (l.map (PV.int .i64)))) : frz vh (.own i 0 l.length k) = some (ints l) := by
 by_cases h : l.length = 0
 ·have := List.eq_nil_of_length_eq_zero h
  subst this; rfl
 ·have h1 : Nat.beq l.length 0 = false := by rw [beq_eq]; simpa using h
  have h2 : (l.map (PV.int .i64)).take l.length = l.map (PV.int .i64) := by
   have := List.take_length (l := l.map (PV.int .i64)); simpa using this
  simp only [frz, h1, cond_false, hg, velems]
  simp only [all_one_int, beq_eq, ble_dec, List.drop_zero, chunk, cond_false, h2, List.length_map]
  simp
theorem vcopy_ints (P : Program) (t e : TypeId) (vh : VHeap) (i : Nat) (l : List Int) (ht : telem P t = some (e, 1)) (hg : vh.get i = some (.arr false 1 (preps [.int .i64 0] l.length))) :
  vcopy P vh t (.own i 0 l.length l.length) (ints l) = some (.int .i64 l.length, vh.put i (.arr false 1 (l.map (PV.int .i64)))) := by
 have h1 : velems vh 1 (ints l) = some (l.map (PV.int .i64)) := by simp [velems]
 simp only [vcopy, ht, h1, hg, preps1]
 have h2 : (l.map (PV.int .i64)).take l.length = l.map (PV.int .i64) := by
  have := List.take_length (l := l.map (PV.int .i64)); simpa using this
 rw [h2, flat_int]
 have h3 : psplice (List.replicate l.length (PV.int .i64 0)) 0 (l.map (PV.int .i64)) = l.map (PV.int .i64) := by simp [psplice]
 rw [h3]
 simp [blt_dec, ble_dec]
theorem p170 (l : List Int) (hl : l.length < 4294967296) : VPure Tryz.prog 170 [ints l] fun r => r = ints l := by
 have hl2 : ((l.length : Nat) : Int) ≤ 4294967296 := by omega
 refine .of_body Tryz.func170 rfl rfl ?_
 refine .seq ?_
 refine .run zz0 (by simp [*, -vcopy, -preps, vcopy_ints] <;> first | exact ⟨rfl, rfl⟩ | exact rfl) ?_
 refine .seq ?_
 refine .run zz0 (by simp [*, -vcopy, -preps, vcopy_ints] <;> first | exact ⟨rfl, rfl⟩ | exact rfl) ?_
 refine .seq ?_
 refine .run zz0 (by simp [*, -vcopy, -preps, vcopy_ints] <;> first | exact ⟨rfl, rfl⟩ | exact rfl) ?_
 refine .seq ?_
 refine .run zz0 (by simp [*, -vcopy, -preps, vcopy_ints] <;> first | exact ⟨rfl, rfl⟩ | exact rfl) ?_
 refine .ret ?_
 refine ⟨_, _, zz4,(by exact frz_own_int _ _ _ _ rfl), ?_⟩
 first | rfl | (simp [*]; done) | (simp_all; done)
theorem p117 (s : List Wit) (p : Wit → Bool) (f : FuncId) (xs ys : List PV) (hl : s.length < 4294967296) (hw : ∀ w ∈ s, w.slips.length < 4294967296 ∧ w.mended.length < 4294967296 ∧ w.models.length < 4294967296) (hx : PV.allF xs = true) (hy : PV.allF ys = true) (hcf : ∀ cs w, (callFunc f cs).run Tryz.prog w = .ok (.enter f cs) w) (hp : ∀ a ∈ s, VPure Tryz.prog f (xs ++ [encW a] ++ ys) fun r => r = .bool (p a)) : VPure Tryz.prog 117 [encS s, .func f xs ys] fun r => r = encS (s.filter p) := by
 refine .of_body Tryz.func117 rfl rfl ?_
 refine .seq (.rn ?_)
 refine .seq (.rn ?_)
 refine .seq (.seq (.rn ?_))
 refine .block ?_
 refine .loopS (fun i : Nat => ([(1, .func f xs ys),(4, .ptr 1 0),(5, .ptr 2 0),(9, .vec (s.map encW)),(10, .int .i64 s.length),(11, .int .i64 i)], ⟨4,[(3, .grow 7 (((s.take i).filter p).map encW)),(2, .box [.grow 3 ((s.take i).filter p).length true]),(1, .box [.sl0])]⟩)) (fun i => i ≤ s.length) (fun i => s.length - i) 0 (by simp) (.mk [] [] zz2 zz3 rfl rfl rfl) ?_
 rintro i hi
 simp only at hi ⊢
 have hlen : ((s.take i).filter p).length ≤ i := Nat.le_trans (List.length_filter_le _ _) (by simp; omega)
 refine .seq (.rn ?_)
 refine .seq ?_
 refine .condS rfl (fun c12 => ?_) (fun c12 => ?_)
 ·try simp at c12
  have hw2 := wr1 i
  have hp := hp s[i] (List.getElem_mem c12)
  obtain ⟨hw3, hw4, hw5⟩ := hw s[i] (List.getElem_mem c12)
  have hT := take_succ_filter p s i c12
  have hb : ((s.take i).filter p).length + 1 ≤ 4294967296 := by omega
  have hE := encW_e s[i]
  refine .skip (.seq (.block (.seq (.rn ?_))))
  refine .seq ?_
  refine .regionL [0,1,2] rfl zz0 ?_
  refine .rn [0,1] [2] ?_
  refine .step rfl rfl (.pure rfl rfl rfl hcf (by decide) (hp) (by first | rfl | simp [*]) ?_)
  rintro _ rfl
  refine .done ?_
  refine .condS rfl (fun c17 => ?_) (fun c17 => ?_)
  ·try simp at c17
   rw [if_pos c17] at hT
   refine .seq ?_
   refine .drawn (ms := [0,1,3,0,8,31,0,64,255,223,1023,2047,4095,8191,16383]) (W := [2,5,8,10,12,14]) (items := [.op 0, .op 1, .op 3, .op 4, .op 6, .op 7, .op 2, .ck 7, .ck 4, .op 9, .op 5, .ck 7, .op 8, .op 10, .op 11, .op 12, .op 13, .op 14]) rfl zz0 zz0 zz0 ?_
   refine .rx ?_
   refine .rx ?_
   refine .rx ?_
   refine .rx ?_
   refine .rx ?_
   refine .rx ?_
   refine .wp rfl rfl rfl rfl rfl Tryz.call170 (p170 s[i].slips hw3) ?_
   refine .ck rfl zz0 ?_
   refine .ck rfl zz0 ?_
   refine .rx ?_
   refine .wp rfl rfl rfl rfl rfl Tryz.call170 (p170 s[i].mended hw4) ?_
   refine .ck rfl zz0 ?_
   refine .wp rfl rfl rfl rfl rfl Tryz.call170 (p170 s[i].models hw5) ?_
   refine .wv ?_
   refine .rx ?_
   refine .wv ?_
   refine .rx ?_
   refine .wv ?_
   refine .done (.rn ?_)
   refine .rn ?_
   refine ⟨i + 1,zz5,zz5,(.mk [] [(3,6)] zz2 zz3 rfl rfl rfl)⟩
  ·try simp at c17
   rw [if_neg (by simp [c17])] at hT
   refine .skip (.rn ?_)
   refine ⟨i + 1,zz5,zz5,(.mk [] [] zz2 zz3 rfl rfl rfl)⟩
 ·try simp at c12
  have : i = s.length := by omega
  subst this
  refine .exit (.seq (.rn ?_))
  refine .ret ⟨_, _, zz4,zz4, ?_⟩
  simp [encS]
theorem p40a (s : List Wit) (ids : List Int) (hl : s.length < 4294967296) (hi0 : ids.length < 4294967296) (hw : ∀ w ∈ s, w.slips.length < 4294967296 ∧ w.mended.length < 4294967296 ∧ w.models.length < 4294967296) : VPure Tryz.prog 40 [encS s, ints ids] fun r => r = .agg [if checkS s = 0 then .vec ((s.filter fun w => !decide (w.id ∈ ids)).map encW) else .sl0, .int .i64 (checkS s)] := by
 refine .of_body Tryz.func40 rfl rfl ?_
 refine .seq (.rn ?_)
 refine .seq ?_
 refine .regionL [0,1,2] rfl zz0 ?_
 refine .rn [0] [1,2] ?_
 refine .pc rfl rfl rfl rfl rfl Tryz.call52 (p52 s hl hw) ?_
 refine .rn [2] [] ?_
 refine .done (.seq (.seq (.rn ?_)))
 refine .condS rfl (fun c12 => ?_) (fun c12 => ?_)
 ·try simp at c12
  refine .seq (.rn ?_)
  refine .ret ⟨_, _, zz4,zz4, ?_⟩
  simp [c12]
 ·try simp at c12
  refine .skip (.seq (.rn ?_))
  refine .seq (.seq (.rn ?_))
  refine .block ?_
  refine .loopS (fun i : Nat => ([(1, ints ids),(2, .ptr 0 0),(4, .ptr 1 0),(6, .ptr 2 0),(7, .int .i64 i)], ⟨4,[(3, .grow 7 (((s.take i).filter fun w => !decide (w.id ∈ ids)).map encW)),(2, .box [.grow 3 ((s.take i).filter fun w => !decide (w.id ∈ ids)).length true]),(1, .box [.sl0, .int .i64 0]),(0, .box [.vec (s.map encW)])]⟩)) (fun i => i ≤ s.length) (fun i => s.length - i) 0 (by simp) (.mk [] [] zz2 zz3 rfl rfl rfl) ?_
  rintro i hi
  simp only at hi ⊢
  have hlen : ((s.take i).filter fun w => !decide (w.id ∈ ids)).length ≤ i := Nat.le_trans (List.length_filter_le _ _) (by simp; omega)
  refine .seq (.seq (.rn ?_))
  refine .condS rfl (fun c19 => ?_) (fun c19 => ?_)
  ·try simp at c19
   have hw2 := wr1 i
   have hT := take_succ_filter (fun w => !decide (w.id ∈ ids)) s i c19
   have hb : ((s.take i).filter fun w => !decide (w.id ∈ ids)).length + 1 ≤ 4294967296 := by omega
   have hE := encW_e s[i]
   refine .skip (.seq (.block (.seq ?_)))
   refine .regionL [0,1,2,3,4,5,6,7,8] rfl zz0 ?_
   refine .rn [0,1,2,3,4,5,6] [7,8] ?_
   refine .pc rfl rfl rfl rfl rfl Tryz.call121 (p121 ids s[i].id hi0) ?_
   refine .rn [8] [] ?_
   refine .done (.seq (.rn ?_))
   refine .condS rfl (fun c31 => ?_) (fun c31 => ?_)
   ·try simp at c31
    rw [if_pos (by simpa using c31)] at hT
    refine .drawn (ms := [0,1,0,4,0,28,60,124,255,511,1023]) (W := [7,8,10]) (items := [.op 0, .op 1, .op 2, .op 3, .op 4, .op 5, .op 6, .op 7, .ck 1, .op 8, .op 9, .op 10]) rfl zz0 zz0 zz0 ?_
    refine .rx ?_
    refine .rx ?_
    refine .rx ?_
    refine .rx ?_
    refine .rx ?_
    refine .rx ?_
    refine .rx ?_
    refine .wv ?_
    refine .ck rfl zz0 ?_
    refine .wv ?_
    refine .rx ?_
    refine .wv ?_
    refine .done (.rn ?_)
    refine ⟨i + 1,zz5,zz5,(.mk [] [(3,5)] zz2 zz3 rfl rfl rfl)⟩
   ·try simp at c31
    rw [if_neg (by simpa using c31)] at hT
    refine .skip (.rn ?_)
    refine ⟨i + 1,zz5,zz5,(.mk [] [] zz2 zz3 rfl rfl rfl)⟩
  ·try simp at c19
   have : i = s.length := by omega
   subst this
   refine .exit (.seq (.rn ?_))
   refine .ret ⟨_, _, zz4,zz4, ?_⟩
   simp [c12]
theorem p38 (l : List Int) : VPure Tryz.prog 38 [ints l] fun r => r = .bool (decide (l.length ≤ 60)) := by
 refine .of_body Tryz.func38 rfl rfl ?_
 refine .seq (.rn ?_)
 refine .seq (.rn ?_)
 refine .ret ⟨_, _, zz4,zz4, ?_⟩
 simp; omega
theorem p40 (s : List Wit) (ids : List Int) (hl : s.length < 4294967296) (hi0 : ids.length < 4294967296) (hw : ∀ w ∈ s, w.slips.length < 4294967296 ∧ w.mended.length < 4294967296 ∧ w.models.length < 4294967296) : VPure Tryz.prog 40 [encS s, ints ids] fun r => r = .agg [.vec ((if checkS s = 0 then s.filter fun w => !decide (w.id ∈ ids) else []).map encW), .int .i64 (checkS s)] := by
 refine (p40a s ids hl hi0 hw).alt ?_
 rintro _ rfl
 refine ⟨_, ?_, ?_, rfl⟩
 ·refine .agg' (.cons ?_ (.cons (.same _ rfl) .nil))
  split
  ·exact .same _ (by simp)
  ·exact .sl0v
 ·simp
end Go.Am.Ds
end
section
namespace Go.Am.Ds
open Go Go.Am Go.Proofs
attribute [local simp] vrun vwanted vyielded vop vopA vputAll VHeap.back hidI hidF backL bm Nat.testBit_eq_decide_div_mod_eq veval vevals vparts vO vbuiltin vlen vappend velems vcopy vmakeSlice vbuildSlice valloc vbox vmakeMap vload vpartT vpart vstore vfieldAddr vfield vindexAddr vindex vextract vslice vsliceZ vbounds vbnd zeroO vidx vlookup vmget vmapUpdate vdelete vclear vnilq vnilp vnils vbin vsc vsc1 vscs vscl abinOp aint ashift aunOp aconvert amaxs amax2 pvcV pvc pvcs tput tget vargs VHeap.get VHeap.alloc VHeap.put VHeap.drop VHeap.empty vlook vput vdrop psplice pfill preps chunk List.range List.range.loop vresults vresult vresultV frz frzL PV.isF PV.allF PV.scal PV.allS retP subT allFT PV.one PV.ids PV.idsL dropL beq_eq ble_dec blt_dec
attribute [local simp] zW tup2
def lowN (l : List Int) (n : Int) : Nat := match l with
 | [] => 0
 | a :: r => if a < n then lowN r n + 1 else 0
def putS (l : List Int) (n : Int) : List Int := if l[lowN l n]? = some n then l else l.take (lowN l n) ++ [n] ++ l.drop (lowN l n)
theorem lowN_drop (l : List Int) (n : Int) (i : Nat) (h : i < l.length) : lowN (l.drop i) n = if l[i] < n then lowN (l.drop (i + 1)) n + 1 else 0 := by
 rw [List.drop_eq_getElem_cons h]; rfl
theorem allSz_take_int (l : List Int) (k : Nat) : allSz 1 ((l.map (PV.int .i64)).take k) = true := allSz_take (allSz_int .i64 l)
theorem allSz_drop_int (l : List Int) (k : Nat) : allSz 1 ((l.map (PV.int .i64)).drop k) = true := allSz_drop (allSz_int .i64 l)
theorem allOne_take_int (l : List Int) (k : Nat) : allOne ((l.map (PV.int .i64)).take k) = true := by rw [← List.map_take]; exact allOne_int .i64 _
theorem allOne_drop_int (l : List Int) (k : Nat) : allOne ((l.map (PV.int .i64)).drop k) = true := by rw [← List.map_drop]; exact allOne_int .i64 _
theorem p104 (s : List Wit) (id : Int) (hl : s.length < 4294967296) : VPure Tryz.prog 104 [encS s, .int .i64 id] fun r => r = .int .i64 (findI s id) := by
 refine .of_body Tryz.func104 rfl rfl ?_
 refine .seq (.rn ?_)
 refine .seq (.seq (.rn ?_))
 refine .block ?_
 refine .loopS (fun i : Nat => ([(1, .int .i64 id),(2, .ptr 0 0),(5, .int .i64 i)], ⟨1,[(0, .box [.vec (s.map encW)])]⟩)) (fun i => i ≤ s.length ∧ idxF (fun w : Wit => decide (w.id = id)) i (s.drop i) = findI s id) (fun i => s.length - i) 0 ⟨by simp, rfl⟩ (.mk [] [] zz10 zz11 rfl rfl rfl) ?_
 rintro i ⟨hi, hr⟩
 simp only at hi hr ⊢
 refine .seq (.seq (.rn ?_))
 refine .condS rfl (fun c10 => ?_) (fun c10 => ?_)
 ·try simp at c10
  have hw2 := wr1 i
  rw [idxF_drop _ s i c10] at hr
  have hE := encW_e s[i]
  refine .skip (.seq (.block (.seq (.rn ?_))))
  refine .condS rfl (fun c20 => ?_) (fun c20 => ?_)
  ·try simp at c20
   refine .seq (.rn ?_)
   refine .ret ⟨_, _, zz4,zz4, ?_⟩
   rw [← hr, if_pos (by simp [c20])]
  ·try simp at c20
   refine .skip (.rn ?_)
   refine ⟨i + 1, ⟨zz5, ?_⟩, zz5,(.mk [] [] zz10 zz11 rfl rfl rfl)⟩
   rw [← hr, if_neg (by simp [c20])]
 ·try simp at c10
  have : i = s.length := by omega
  refine .exit (.seq (.rn ?_))
  refine .ret ⟨_, _, zz4,zz4, ?_⟩
  rw [← hr, this, List.drop_length]; rfl
theorem p147 (l : List Int) (n : Int) (hl : l.length < 4294967295) : VPure Tryz.prog 147 [ints l, .int .i64 n] fun r => r = ints (putS l n) := by
 refine .of_body Tryz.func147 rfl rfl ?_
 refine .seq (.rn ?_)
 refine .seq (.rn ?_)
 refine .seq (.block ?_)
 refine .loopS (fun i : Nat => ([(0, ints l),(1, .int .i64 n),(5, .int .i64 i)], VHeap.empty)) (fun i => i ≤ l.length ∧ i + lowN (l.drop i) n = lowN l n) (fun i => l.length - i) 0 ⟨by simp, by simp⟩ (.pure (by simp [*]) (by simp)) ?_
 rintro i ⟨hi, hr⟩
 simp only at hi hr ⊢
 refine .seq (.seq ?_)
 refine .regionL [0,1,2,3,4,5,6,7,8,9,10,11] rfl zz0 ?_
 refine .rn [0,1,2,3,4] [5,6,7,8,9,10,11] ?_
 refine .split (t := 10) rfl (fun c10 => ?_) (fun c10 => ?_)
 ·try rw [c10]
  try simp at c10
  have hw2 := wr1 i
  rw [lowN_drop l n i c10] at hr
  refine .rn [5,6,7,8,9,10,11] [] ?_
  refine .done ?_
  refine .condS rfl (fun c17 => ?_) (fun c17 => ?_)
  ·try simp at c17
   refine .skip (.block (.rn ?_))
   refine ⟨i + 1, ⟨zz5, ?_⟩, zz5, .pure (by simp [*]) (by simp)⟩
   rw [← hr, if_pos c17]; omega
  ·try simp at c17
   have hlow : lowN l n = i := by rw [← hr, if_neg (by omega)]; rfl
   have g1 := allSz_take_int l i
   have g2 := allSz_drop_int l i
   have g3 := allOne_take_int l i
   have g4 := allOne_drop_int l i
   have g5 : min i l.length = i := Nat.min_eq_left hi
   have g6 : i ≤ 4294967296 := by omega
   have g7 : i + 1 ≤ 4294967296 := by omega
   have g8 : i + 1 + (l.length - i) ≤ 4294967296 := by omega
   have g9 : allOne [PV.int .i64 n] = true := rfl
   have g20 : i + (l.length - i + 1) = i + 1 + (l.length - i) := by omega
   have g10 : List.take (l.length - i) (List.drop i (l.map (PV.int .i64))) = List.drop i (l.map (PV.int .i64)) := List.take_of_length_le (by simp)
   refine .exit (.seq (.seq ?_))
   refine .regionL [0,1,2,3,4,5,6,7,8,9,10,11] rfl zz0 ?_
   refine .rn [0,1,2,3,4] [5,6,7,8,9,10,11] ?_
   refine .split (t := 24) rfl (fun c24 => ?_) (fun c24 => ?_)
   ·try rw [c24]
    try simp at c24
    refine .rn [5,6,7,8,9,10,11] [] ?_
    refine .done ?_
    refine .condS rfl (fun c31 => ?_) (fun c31 => ?_)
    ·try simp at c31
     refine .seq (.rn ?_)
     refine .ret ⟨_, _, zz4,zz4, ?_⟩
     have e : putS l n = l := by unfold putS; rw [hlow, if_pos (by rw [List.getElem?_eq_getElem c10, c31])]
     rw [e]
    ·try simp at c31
     refine .skip (.seq ?_)
     refine .drawnF (ms := [0,0,0,6,15,0,32,127,0,0,768,2047,4095]) (W := [0,4,7,11]) (As := [6]) (items := [.op 1, .op 2, .op 3, .op 5, .op 6, .op 8, .op 9, .op 10, .op 0, .op 4, .op 7, .op 11, .op 12]) rfl zz0 zz0 zz0 zz0 (by decide) ?_
     refine .rf ?_
     refine .rf ?_
     refine .rf ?_
     refine .rf ?_
     refine .al rfl rfl (by decide) (by decide) (by decide) (by decide) zz1 ?_
     refine .rf ?_
     refine .rf ?_
     refine .rf ?_
     refine .wr rfl rfl (by decide) (.vop zz1 (by decide) ?_)
     refine .wr rfl rfl (by decide) (.vop zz1 (by decide) ?_)
     refine .wr rfl rfl (by decide) (.vop zz1 (by decide) ?_)
     refine .wr rfl rfl (by decide) (.vop zz1 (by decide) ?_)
     refine .rf ?_
     refine .done (.ret ?_)
     refine ⟨_, _, zz4,(by simp [g5, g20] <;> rfl), ?_⟩
     have e : putS l n = l.take i ++ [n] ++ l.drop i := by unfold putS; rw [hlow, if_neg (by rw [List.getElem?_eq_getElem c10]; simpa using c31)]
     rw [e]; simp [ints]
   ·try rw [c24]
    try simp at c24
 ·try rw [c10]
  try simp at c10
  have hil : i = l.length := by omega
  have hlow : lowN l n = i := by rw [← hr, List.drop_of_length_le c10]; rfl
  subst hil
  have g1 := allSz_take_int l l.length
  have g2 := allSz_drop_int l l.length
  have g3 := allOne_take_int l l.length
  have g4 := allOne_drop_int l l.length
  have g6 : l.length ≤ 4294967296 := by omega
  have g7 : l.length + 1 ≤ 4294967296 := by omega
  have g8 : l.length + 1 + (l.length - l.length) ≤ 4294967296 := by omega
  have g9 : allOne [PV.int .i64 n] = true := rfl
  have g11 : List.drop l.length (l.map (PV.int .i64)) = [] := List.drop_of_length_le (by simp)
  have g12 : allSz 1 [] = true := rfl
  have g13 : allOne [] = true := rfl
  refine .rn [5,6,7,8,9,10,11] [] ?_
  refine .done (.condF rfl (.exit (.seq (.seq ?_))))
  refine .regionL [0,1,2,3,4,5,6,7,8,9,10,11] rfl zz0 ?_
  refine .rn [0,1,2,3,4] [5,6,7,8,9,10,11] ?_
  refine .split (t := 24) rfl (fun c24 => ?_) (fun c24 => ?_)
  ·try rw [c24]
   try simp at c24
  ·try rw [c24]
   try simp at c24
   refine .rn [5,6,7,8,9,10,11] [] ?_
   refine .done (.condF rfl (.skip (.seq ?_)))
   refine .drawnF (ms := [0,0,0,6,15,0,32,127,0,0,768,2047,4095]) (W := [0,4,7,11]) (As := [6]) (items := [.op 1, .op 2, .op 3, .op 5, .op 6, .op 8, .op 9, .op 10, .op 0, .op 4, .op 7, .op 11, .op 12]) rfl zz0 zz0 zz0 zz0 (by decide) ?_
   refine .rf ?_
   refine .rf ?_
   refine .rf ?_
   refine .rf ?_
   refine .al rfl rfl (by decide) (by decide) (by decide) (by decide) zz1 ?_
   refine .rf ?_
   refine .rf ?_
   refine .rf ?_
   refine .wr rfl rfl (by decide) (.vop zz1 (by decide) ?_)
   refine .wr rfl rfl (by decide) (.vop zz1 (by decide) ?_)
   refine .wr rfl rfl (by decide) (.vop zz1 (by decide) ?_)
   refine .wr rfl rfl (by decide) (.vop zz1 (by decide) ?_)
   refine .rf ?_
   refine .done (.ret ⟨_, _, zz4,zz4, ?_⟩)
   have e : putS l n = l ++ [n] := by unfold putS; rw [hlow, if_neg (by rw [List.getElem?_eq_none (Nat.le_refl _)]; simp)]; simp
   rw [e]; simp [ints]
end Go.Am.Ds
end
section
namespace Go.Am.Ds
open Go Go.Am Go.Proofs
attribute [local simp] vrun vwanted vyielded vop veval vevals vparts vO vbuiltin vlen vappend velems vcopy vmakeSlice vbuildSlice valloc vbox vmakeMap vload vpartT vpart vstore vfieldAddr vfield vindexAddr vindex vextract vslice vsliceZ vbounds vbnd zeroO vidx vlookup vmget vmapUpdate vdelete vnilq vnilp vnils vbin vsc vsc1 vscs vscl abinOp aint ashift aunOp aconvert amaxs amax2 pvcV pvc pvcs tput tget vargs VHeap.get VHeap.alloc VHeap.put VHeap.drop VHeap.empty vlook vput vdrop psplice pfill preps chunk List.range List.range.loop vresults vresult vresultV frz frzL PV.isF PV.allF PV.scal PV.allS retP subT allFT PV.one PV.ids PV.idsL dropL beq_eq ble_dec blt_dec
attribute [local simp] zW tup2
theorem lackF_iff (c : Wit) (n : Int) : lackF c n = true ↔ n ∉ c.slips ∧ n ∉ c.mended := by
 unfold lackF
 simp [mem_setK]
theorem getW_idx {s : List Wit} {id : Int} {c : Wit} (h : getW s id = some c) : ∃ i, ∃ h : i < s.length, findI s id = (i : Int) ∧ s[i] = c := by
 rcases Int.lt_or_le (findI s id) 0 with h0 | h0
 ·rw [getW_none h0] at h; cases h
 ·obtain ⟨i, h1, h2, h3⟩ := getW_some h0
  rw [h3] at h; injection h with h
  exact ⟨i, h1, h2, h⟩
theorem p103a (s : List Wit) (k : Nat) (hk : k < s.length) (hl : s.length < 4294967296) (h3 : s[k].models.length < 4294967296) : VPure Tryz.prog 103 [encS s, .int .i64 k, .int .i64 0] fun r => r = tup2 (lastS s[k] 0,0) := by
 have hE := encW_e s[k]
 refine .of_body Tryz.func103 rfl rfl ?_
 refine .seq (.rn ?_)
 refine .seq (.rn ?_)
 refine .seq (.seq (.rn ?_))
 refine .condS rfl (fun c20 => ?_) (fun c20 => ?_)
 ·try simp at c20
 ·try simp at c20
  refine .skip (.seq ?_)
  refine .regionL [0,1,2,3,4] rfl zz0 ?_
  refine .rn [0,1,2] [3,4] ?_
  refine .pc rfl rfl rfl rfl rfl Tryz.call121 (p121 s[k].models 0 h3) ?_
  refine .rn [4] [] ?_
  refine .done (.seq (.seq ?_))
  refine .regionL [0,1,2,3,4,5,6,7] rfl zz0 ?_
  refine .rn [0,1,2,3,4] [5,6,7] ?_
  refine .split (t := 83) rfl (fun c83 => ?_) (fun c83 => ?_)
  ·try rw [c83]
   try simp at c83
   refine .rn [5,6,7] [] ?_
   refine .done ?_
   refine .condS rfl (fun c86 => ?_) (fun c86 => ?_)
   ·try simp at c86
    refine .seq (.rn ?_)
    refine .ret ⟨_, _, zz4,zz4, ?_⟩
    simp [tup2, lastS, *]
   ·try simp at c86
    refine .skip (.seq (.rn ?_))
    refine .ret ⟨_, _, zz4,zz4, ?_⟩
    simp [tup2, lastS, *]
  ·try rw [c83]
   try simp at c83
   refine .rn [5,6,7] [] ?_
   refine .done (.condF rfl (.skip (.seq (.rn ?_))))
   refine .ret ⟨_, _, zz4,zz4, ?_⟩
   simp [tup2, lastS, *]
theorem p103b (s : List Wit) (k j : Nat) (hk : k < s.length) (hj : j < s.length) (b : Int) (hb : b ≠ 0) (hje : findI s b = (j : Int)) (hid : s[j].id = b) (hl : s.length < 4294967296) (h1 : s[k].slips.length < 4294967296) (h2 : s[k].mended.length < 4294967296) (h3 : s[k].models.length < 4294967296) (h4 : s[j].slips.length < 4294967296) : VPure Tryz.prog 103 [encS s, .int .i64 k, .int .i64 b] fun r => r = tup2 (whyP s[k] s[j]) := by
 have hE := encW_e s[k]
 have hE2 := encW_e s[j]
 have hmx : (if 0 < j then (j : Int) else 0) = (j : Int) := by split <;> omega
 refine .of_body Tryz.func103 rfl rfl ?_
 refine .seq (.rn ?_)
 refine .seq (.rn ?_)
 refine .seq (.seq (.rn ?_))
 refine .condS rfl (fun c20 => ?_) (fun c20 => ?_)
 ·try simp at c20
  refine .seq ?_
  refine .drawnF (ms := [0,1,0,0,12,28,63,127,0,511]) (W := [4,9]) (As := [8]) (items := [.op 0, .op 1, .op 2, .op 3, .op 8, .op 4, .ck 1, .op 5, .op 6, .op 7, .op 9]) rfl zz0 zz0 zz0 zz0 (by decide) ?_
  refine .rf ?_
  refine .rf ?_
  refine .rf ?_
  refine .rf ?_
  refine .al rfl rfl (by decide) (by decide) (by decide) (by decide) zz1 ?_
  refine .wr rfl rfl (by decide) (.pure rfl rfl rfl Tryz.call104 (by decide) (p104 s b hl) (by first | rfl | simp [*]) ?_)
  rintro _ rfl
  refine .ck rfl zz0 ?_
  refine .rf ?_
  refine .rf ?_
  refine .rf ?_
  refine .wr rfl rfl (by decide) (.vop zz1 (by decide) ?_)
  refine .done (.seq (.seq (.rn ?_)))
  refine .condS rfl (fun c33 => ?_) (fun c33 => ?_)
  ·try simp at c33
   refine .seq (.rn ?_)
   refine .ret ⟨_, _, zz4,zz4, ?_⟩
   simp [tup2, whyP, hid, c33]
  ·try simp at c33
   refine .skip (.seq (.seq (.rn ?_)))
   refine .condS rfl (fun c40 => ?_) (fun c40 => ?_)
   ·try simp at c40
    refine .seq (.rn ?_)
    refine .ret ⟨_, _, zz4,zz4, ?_⟩
    simp [tup2, whyP, hid, c33, c40]
   ·try simp at c40
    refine .skip (.seq (.rn ?_))
    refine .block ?_
    refine .loopS (fun i : Nat => ([(2, .int .i64 b),(8, .ptr 1 0),(9, .ptr 2 0),(10, .int .i64 i)], ⟨3,[(2, .box [.int .i64 s[j].id, .int .i64 s[j].known, ints s[j].slips, ints s[j].mended, ints s[j].models, .int .i64 s[j].lo, .int .i64 s[j].hi]),(1, .box [.int .i64 s[k].id, .int .i64 s[k].known, ints s[k].slips, ints s[k].mended, ints s[k].models, .int .i64 s[k].lo, .int .i64 s[k].hi])]⟩)) (fun i => i ≤ s[j].slips.length ∧ idxF (lackF s[k]) i (s[j].slips.drop i) = idxF (lackF s[k]) 0 s[j].slips ∧ fstF (lackF s[k]) (s[j].slips.drop i) = fstF (lackF s[k]) s[j].slips) (fun i => s[j].slips.length - i) 0 ⟨by simp, rfl, rfl⟩ (.mk [] [] zz12 zz13 rfl rfl rfl) ?_
    rintro i ⟨hi, hr, hr2⟩
    simp only at hi hr hr2 ⊢
    refine .seq (.seq (.rn ?_))
    refine .condS rfl (fun c45 => ?_) (fun c45 => ?_)
    ·try simp at c45
     have hw2 := wr1 i
     rw [idxF_drop _ s[j].slips i c45] at hr
     rw [fstF_drop _ s[j].slips i c45] at hr2
     refine .skip (.seq (.block (.seq ?_)))
     refine .drawn (ms := [0,1,0,4,0,28,60,127,255]) (W := [7]) (items := [.op 0, .op 1, .op 2, .op 3, .op 4, .op 5, .op 6, .op 7, .op 8]) rfl zz0 zz0 zz0 ?_
     refine .rx ?_
     refine .rx ?_
     refine .rx ?_
     refine .rx ?_
     refine .rx ?_
     refine .rx ?_
     refine .rx ?_
     refine .wp rfl rfl rfl rfl rfl Tryz.call121 (p121 s[k].slips _ h1) ?_
     refine .rx ?_
     refine .done (.seq ?_)
     refine .drawn (ms := [0,1,0,4,0,28,60,127,255]) (W := [7]) (items := [.op 0, .op 1, .op 2, .op 3, .op 4, .op 5, .op 6, .op 7, .op 8]) rfl zz0 zz0 zz0 ?_
     refine .rx ?_
     refine .rx ?_
     refine .rx ?_
     refine .rx ?_
     refine .rx ?_
     refine .rx ?_
     refine .rx ?_
     refine .wp rfl rfl rfl rfl rfl Tryz.call121 (p121 s[k].mended _ h2) ?_
     refine .rx ?_
     refine .done (.seq ?_)
     refine .regionL [0,1,2,3,4,5] rfl zz0 ?_
     refine .rn [0,1,2] [3,4,5] ?_
     refine .split (t := 66) rfl (fun c66 => ?_) (fun c66 => ?_)
     ·try rw [c66]
      try simp at c66
      refine .rn [3,4,5] [] ?_
      refine .done ?_
      refine .condS rfl (fun c69 => ?_) (fun c69 => ?_)
      ·try simp at c69
       have hlf : lackF s[k] s[j].slips[i] = true := (lackF_iff _ _).2 ⟨c66, c69⟩
       refine .seq ?_
       refine .drawn (ms := [0,1,0,7,15,0,63]) (W := []) (items := [.op 0, .op 1, .op 2, .op 3, .op 4, .op 5, .op 6]) rfl zz0 zz0 zz0 ?_
       refine .rx ?_
       refine .rx ?_
       refine .rx ?_
       refine .rx ?_
       refine .rx ?_
       refine .rx ?_
       refine .rx ?_
       refine .done (.ret ⟨_, _, zz4,zz4, ?_⟩)
       have e : whyP s[k] s[j] = (3, s[j].slips[i]) := by
        rw [if_pos hlf] at hr hr2
        unfold whyP
        rw [hid, if_neg c33, if_neg (by omega), if_pos (by rw [← hr]; omega), ← hr2]
       rw [e]; rfl
      ·try simp at c69
       have hlf : ¬ lackF s[k] s[j].slips[i] = true := fun h => ((lackF_iff _ _).1 h).2 c69
       refine .skip (.rn ?_)
       refine ⟨i + 1, ⟨zz5, ?_, ?_⟩, zz5,(.mk [] [] zz12 zz13 rfl rfl rfl)⟩
       ·rw [← hr, if_neg hlf]
       ·rw [← hr2, if_neg hlf]
     ·try rw [c66]
      try simp at c66
      have hlf : ¬ lackF s[k] s[j].slips[i] = true := fun h => ((lackF_iff _ _).1 h).1 c66
      refine .rn [3,4,5] [] ?_
      refine .done (.condF rfl (.skip (.rn ?_)))
      refine ⟨i + 1, ⟨zz5, ?_, ?_⟩, zz5,(.mk [] [] zz12 zz13 rfl rfl rfl)⟩
      ·rw [← hr, if_neg hlf]
      ·rw [← hr2, if_neg hlf]
    ·try simp at c45
     have hin : i = s[j].slips.length := by omega
     have hlk : idxF (lackF s[k]) 0 s[j].slips = -1 := by rw [← hr, hin, List.drop_length]; rfl
     refine .exit (.seq ?_)
     refine .regionL [0,1,2,3,4] rfl zz0 ?_
     refine .rn [0,1,2] [3,4] ?_
     refine .pc rfl rfl rfl rfl rfl Tryz.call121 (p121 s[k].models b h3) ?_
     refine .rn [4] [] ?_
     refine .done (.seq (.seq ?_))
     refine .regionL [0,1,2,3,4,5,6,7] rfl zz0 ?_
     refine .rn [0,1,2,3,4] [5,6,7] ?_
     refine .split (t := 83) rfl (fun c83 => ?_) (fun c83 => ?_)
     ·try rw [c83]
      try simp at c83
      refine .rn [5,6,7] [] ?_
      refine .done ?_
      refine .condS rfl (fun c86 => ?_) (fun c86 => ?_)
      ·try simp at c86
       refine .seq (.rn ?_)
       refine .ret ⟨_, _, zz4,zz4, ?_⟩
       have e : whyP s[k] s[j] = (lastS s[k] b, 0) := by
        unfold whyP
        rw [hid, if_neg c33, if_neg (by omega), if_neg (by rw [hlk]; decide)]
       rw [e]; simp [tup2, lastS, *]
      ·try simp at c86
       refine .skip (.seq (.rn ?_))
       refine .ret ⟨_, _, zz4,zz4, ?_⟩
       have e : whyP s[k] s[j] = (lastS s[k] b, 0) := by
        unfold whyP
        rw [hid, if_neg c33, if_neg (by omega), if_neg (by rw [hlk]; decide)]
       rw [e]; simp [tup2, lastS, *]
     ·try rw [c83]
      try simp at c83
      refine .rn [5,6,7] [] ?_
      refine .done (.condF rfl (.skip (.seq (.rn ?_))))
      refine .ret ⟨_, _, zz4,zz4, ?_⟩
      have e : whyP s[k] s[j] = (lastS s[k] b, 0) := by
       unfold whyP
       rw [hid, if_neg c33, if_neg (by omega), if_neg (by rw [hlk]; decide)]
      rw [e]; simp [tup2, lastS, *]
 ·try simp at c20
  exact absurd c20 hb
attribute [local simp] zW tup2
theorem VPure.nilArg {P : Program} {f : FuncId} {rest : List PV} {R : PV → Prop} (hp : VPure P f (.vec [] :: rest) R) : VPure P f (.sl0 :: rest) R := fun lo g σ h args' ha s => hp lo g σ h args' (by
 obtain ⟨v', r', rfl, h1, h2⟩ := ha.inv_cons
 have := h1.isF rfl; cases this
 exact .cons (.fr _ _ .vecN) h2) s
structure OkS (s : List Wit) : Prop where
  len : s.length ≤ 24
  lens : ∀ w ∈ s, w.slips.length < 4294967296 ∧ w.mended.length < 4294967296 ∧ w.models.length < 4294967296
  pos : ∀ w ∈ s, w.id ≠ 0
theorem okS_of {s : List Wit} (h : checkS s = 0) : OkS s := by
 refine ⟨(checkS_ok h).1, checkS_lens h, fun w hw => ?_⟩
 have := (checkS_ok h).2 w hw
 unfold witE at this
 split at this
 ·cases this
 ·omega
theorem OkS.idx {s : List Wit} (h : OkS s) {i : Nat} (hi : i < s.length) : ∃ j, ∃ hj : j < s.length, findI s s[i].id = (j : Int) ∧ s[j].id = s[i].id ∧ getW s s[i].id = some s[j] := by
 have h0 : 0 ≤ findI s s[i].id := find_ids (idsS_mem.2 ⟨s[i], List.getElem_mem hi, rfl⟩)
 obtain ⟨j, h1, h2, h3⟩ := getW_some h0
 exact ⟨j, h1, h2,(getW_mem h3).2, h3⟩
def atI (s : List Wit) (id : Int) (d : Wit) : Wit := (getW s id).getD d
def stepR (s : List Wit) (c : Wit) (out : List Int) (w : Wit) : List Int := if (whyP c (atI s w.id w)).1 = 0 then putS out w.id else out
def modR (s : List Wit) (c : Wit) : List Int := s.foldl (stepR s c) (if lastS c 0 = 0 then [0] else [])
def moP (s : List Wit) (c : Wit) (i : Nat) : List Int := (s.take i).foldl (stepR s c) (if lastS c 0 = 0 then [0] else [])
theorem moP_all (s : List Wit) (c : Wit) : moP s c s.length = modR s c := by simp [moP, modR]
theorem moP_succ (s : List Wit) (c : Wit) (i : Nat) (h : i < s.length) : moP s c (i + 1) = stepR s c (moP s c i) s[i] := by
 simp only [moP, List.take_succ_eq_append_getElem h, List.foldl_append, List.foldl_cons, List.foldl_nil]
theorem putS_len (l : List Int) (n : Int) : (putS l n).length ≤ l.length + 1 := by
 unfold putS
 split
 ·omega
 ·simp; omega
theorem moP_len (s : List Wit) (c : Wit) (i : Nat) : (moP s c i).length ≤ i + 1 := by
 have : ∀ (l : List Wit) (a : List Int),(l.foldl (stepR s c) a).length ≤ a.length + l.length := by
  intro l
  induction l with
  | nil => intro a; simp
  | cons w r ih =>
   intro a
   have h1 := ih (stepR s c a w)
   have h2 : (stepR s c a w).length ≤ a.length + 1 := by
    unfold stepR
    split
    ·exact putS_len _ _
    ·omega
   simp only [List.foldl_cons, List.length_cons]; omega
 have h1 := this (s.take i) (if lastS c 0 = 0 then [0] else [])
 have h2 : (if lastS c 0 = 0 then [0] else ([] : List Int)).length ≤ 1 := by split <;> simp
 have h3 : (s.take i).length ≤ i := by simp; omega
 simp only [moP]; omega
theorem moP_zeroT (s : List Wit) (c : Wit) (h : lastS c 0 = 0) : moP s c 0 = [0] := by simp [moP, h]
theorem moP_zeroF (s : List Wit) (c : Wit) (h : ¬ lastS c 0 = 0) : moP s c 0 = [] := by simp [moP, h]
theorem putS_nil (n : Int) : putS [] n = [n] := by simp [putS, lowN]
theorem p107 (s : List Wit) (k : Nat) (hk : k < s.length) (ok : OkS s) : VPure Tryz.prog 107 [encS s, .int .i64 k] fun r => r = ints (modR s s[k]) := by
 have hl : s.length < 4294967296 := by have := ok.len; omega
 have hl24 := ok.len
 obtain ⟨hw1, hw2, hw3⟩ := ok.lens s[k] (List.getElem_mem hk)
 refine .of_body Tryz.func107 rfl rfl ?_
 refine .seq (.rn ?_)
 refine .seq (.rn ?_)
 refine .seq ?_
 refine .regionL [0,1,2,3,4,5,6,7] rfl zz0 ?_
 refine .rn [0,1] [2,3,4,5,6,7] ?_
 refine .pc rfl rfl rfl rfl rfl Tryz.call103 (p103a s k hk hl hw3) ?_
 refine .rn [3,4,5,6,7] [] ?_
 refine .done (.seq (.seq (.rn ?_)))
 refine .condS rfl (fun c18 => ?_) (fun c18 => ?_)
 ·try simp at c18
  have hO := moP_zeroT s s[k] c18
  have hput := putS_nil 0
  refine .regionL [0,1,2] rfl zz0 ?_
  refine .rn [0] [1,2] ?_
  refine .pc rfl rfl rfl rfl rfl Tryz.call147 (VPure.nilArg (p147 [] 0 (by simp))) ?_
  refine .rn [2] [] ?_
  refine .done (.seq (.seq (.rn ?_)))
  refine .block ?_
  refine .loopS (fun i : Nat => ([(1, .int .i64 k),(2, .ptr 0 0),(5, ints (moP s s[k] i)),(8, .int .i64 i)], ⟨1,[(0, .box [.vec (s.map encW)])]⟩)) (fun i => i ≤ s.length) (fun i => s.length - i) 0 (by simp) (.mk [] [] zz14 zz15 rfl rfl rfl) ?_
  rintro i hi
  simp only at hi ⊢
  refine .seq (.seq (.rn ?_))
  refine .condS rfl (fun c25 => ?_) (fun c25 => ?_)
  ·try simp at c25
   have hwr := wr1 i
   have hE := encW_e s[i]
   obtain ⟨j, hj, hje, hid, hgj⟩ := ok.idx c25
   obtain ⟨hv1, hv2, hv3⟩ := ok.lens s[j] (List.getElem_mem hj)
   have hS := moP_succ s s[k] i c25
   rw [stepR, atI, hgj, Option.getD_some] at hS
   have hln := moP_len s s[k] i
   refine .skip (.seq (.block (.seq ?_)))
   refine .drawn (ms := [0,0,0,4,0,28,60,124,255,511,1023,1023,2047,8191]) (W := [8]) (items := [.op 0, .op 1, .op 2, .op 3, .op 4, .op 5, .op 6, .op 7, .op 8, .op 9, .op 10, .op 11, .op 12, .op 13]) rfl zz0 zz0 zz0 ?_
   refine .rx ?_
   refine .rx ?_
   refine .rx ?_
   refine .rx ?_
   refine .rx ?_
   refine .rx ?_
   refine .rx ?_
   refine .rx ?_
   refine .wp rfl rfl rfl rfl rfl Tryz.call103 (p103b s k j hk hj s[i].id (ok.pos _ (List.getElem_mem c25)) hje hid hl hw1 hw2 hw3 hv1) ?_
   refine .rx ?_
   refine .rx ?_
   refine .rx ?_
   refine .rx ?_
   refine .rx ?_
   refine .done (.seq (.rn ?_))
   refine .condS rfl (fun c41 => ?_) (fun c41 => ?_)
   ·try simp at c41
    rw [if_pos c41] at hS
    refine .regionL [0,1,2,3,4,5,6,7,8] rfl zz0 ?_
    refine .rn [0,1,2,3,4,5,6] [7,8] ?_
    refine .pc rfl rfl rfl rfl rfl Tryz.call147 (p147 _ s[i].id (by omega)) ?_
    refine .rn [8] [] ?_
    refine .done (.rn ?_)
    refine ⟨i + 1, c25,zz5,(.mk [] [] zz14 zz15 rfl rfl rfl)⟩
   ·try simp at c41
    rw [if_neg c41] at hS
    refine .skip (.rn ?_)
    refine ⟨i + 1, c25,zz5,(.mk [] [] zz14 zz15 rfl rfl rfl)⟩
  ·try simp at c25
   have hin : i = s.length := by omega
   subst hin
   have hall := moP_all s s[k]
   refine .exit (.seq (.rn ?_))
   refine .ret ⟨_, _, zz4,zz4, ?_⟩
   first | rfl | (simp [*]; done) | (simp_all; done)
 ·try simp at c18
  have hO := moP_zeroF s s[k] c18
  refine .skip (.seq (.seq (.rn ?_)))
  refine .block ?_
  refine .loopS (fun i : Nat => ([(1, .int .i64 k),(2, .ptr 0 0),(5, ints (moP s s[k] i)),(8, .int .i64 i)], ⟨1,[(0, .box [.vec (s.map encW)])]⟩)) (fun i => i ≤ s.length) (fun i => s.length - i) 0 (by simp) (.mk [] [] zz14 zz15 rfl rfl rfl) ?_
  rintro i hi
  simp only at hi ⊢
  refine .seq (.seq (.rn ?_))
  refine .condS rfl (fun c25 => ?_) (fun c25 => ?_)
  ·try simp at c25
   have hwr := wr1 i
   have hE := encW_e s[i]
   obtain ⟨j, hj, hje, hid, hgj⟩ := ok.idx c25
   obtain ⟨hv1, hv2, hv3⟩ := ok.lens s[j] (List.getElem_mem hj)
   have hS := moP_succ s s[k] i c25
   rw [stepR, atI, hgj, Option.getD_some] at hS
   have hln := moP_len s s[k] i
   refine .skip (.seq (.block (.seq ?_)))
   refine .drawn (ms := [0,0,0,4,0,28,60,124,255,511,1023,1023,2047,8191]) (W := [8]) (items := [.op 0, .op 1, .op 2, .op 3, .op 4, .op 5, .op 6, .op 7, .op 8, .op 9, .op 10, .op 11, .op 12, .op 13]) rfl zz0 zz0 zz0 ?_
   refine .rx ?_
   refine .rx ?_
   refine .rx ?_
   refine .rx ?_
   refine .rx ?_
   refine .rx ?_
   refine .rx ?_
   refine .rx ?_
   refine .wp rfl rfl rfl rfl rfl Tryz.call103 (p103b s k j hk hj s[i].id (ok.pos _ (List.getElem_mem c25)) hje hid hl hw1 hw2 hw3 hv1) ?_
   refine .rx ?_
   refine .rx ?_
   refine .rx ?_
   refine .rx ?_
   refine .rx ?_
   refine .done (.seq (.rn ?_))
   refine .condS rfl (fun c41 => ?_) (fun c41 => ?_)
   ·try simp at c41
    rw [if_pos c41] at hS
    refine .regionL [0,1,2,3,4,5,6,7,8] rfl zz0 ?_
    refine .rn [0,1,2,3,4,5,6] [7,8] ?_
    refine .pc rfl rfl rfl rfl rfl Tryz.call147 (p147 _ s[i].id (by omega)) ?_
    refine .rn [8] [] ?_
    refine .done (.rn ?_)
    refine ⟨i + 1, c25,zz5,(.mk [] [] zz14 zz15 rfl rfl rfl)⟩
   ·try simp at c41
    rw [if_neg c41] at hS
    refine .skip (.rn ?_)
    refine ⟨i + 1, c25,zz5,(.mk [] [] zz14 zz15 rfl rfl rfl)⟩
  ·try simp at c25
   have hin : i = s.length := by omega
   subst hin
   have hall := moP_all s s[k]
   refine .exit (.seq (.rn ?_))
   refine .ret ⟨_, _, zz4,zz4, ?_⟩
   first | rfl | (simp [*]; done) | (simp_all; done)
attribute [local simp] zW tup2
theorem ariS_eq (c p : Wit) : ariS c p = c.slips.filter fun n => !decide (n ∈ p.slips) := by
 unfold ariS
 congr 1
 funext n
 simp [mem_setK]
theorem take_succ_filt (p : Int → Bool) (l : List Int) (i : Nat) (h : i < l.length) : (l.take (i + 1)).filter p = if p l[i] then (l.take i).filter p ++ [l[i]] else (l.take i).filter p := take_succ_filter p l i h
theorem p111a (s : List Wit) (k : Nat) (hk : k < s.length) (ok : OkS s) : VPure Tryz.prog 111 [encS s, .int .i64 k, .int .i64 0] fun r => r = ints s[k].slips := by
 have hl : s.length < 4294967296 := by have := ok.len; omega
 obtain ⟨hw1, hw2, hw3⟩ := ok.lens s[k] (List.getElem_mem hk)
 have hE := encW_e s[k]
 refine .of_body Tryz.func111 rfl rfl ?_
 refine .seq (.rn ?_)
 refine .seq (.rn ?_)
 refine .seq (.seq (.rn ?_))
 refine .condS rfl (fun c13 => ?_) (fun c13 => ?_)
 ·try simp at c13
 ·try simp at c13
  refine .skip (.seq (.rn ?_))
  refine .seq (.rn ?_)
  refine .seq (.seq (.rn ?_))
  refine .block ?_
  refine .loopS (fun i : Nat => ([(7, .sl0),(8, .grow 1 ((s[k].slips.take i).length) true),(9, ints s[k].slips),(10, .int .i64 i)], ⟨2,[(1, .grow 1 ((s[k].slips.take i).map (.int .i64)))]⟩)) (fun i => i ≤ s[k].slips.length) (fun i => s[k].slips.length - i) 0 (by simp) (.mk [] [] zz14 zz15 rfl rfl rfl) ?_
  rintro i hi
  simp only at hi ⊢
  refine .seq (.seq (.rn ?_))
  refine .condS rfl (fun c32 => ?_) (fun c32 => ?_)
  ·try simp at c32
   have hwr := wr1 i
   have hT := take_succ_map (PV.int .i64) s[k].slips i c32
   have hmn2 : min (i + 1) s[k].slips.length = i + 1 := by omega
   have hb : i + 1 ≤ 4294967296 := by omega
   have hb2 : i ≤ 4294967295 := by omega
   have hone : allOne [PV.int IntKind.i64 s[k].slips[i]] = true := rfl
   have hmn : min i s[k].slips.length = i := by omega
   refine .skip (.seq (.block (.seq ?_)))
   refine .regionL [0,1,2,3,4,5,6] rfl zz0 ?_
   refine .rn [0,1,2,3,4] [5,6] ?_
   refine .pc rfl rfl rfl rfl rfl Tryz.call121 (VPure.nilArg (p121 [] s[k].slips[i] (by simp))) ?_
   refine .rn [6] [] ?_
   refine .done (.seq (.rn ?_))
   refine .condS rfl (fun c42 => ?_) (fun c42 => ?_)
   ·try simp at c42
    refine .rn ?_
    refine .rn ?_
    refine ⟨i + 1, c32,zz5,(.mk [] [(1,3)] zz14 zz15 rfl rfl rfl)⟩
   ·try simp at c42
  ·try simp at c32
   have hin : i = s[k].slips.length := by omega
   subst hin
   refine .exit (.seq (.rn ?_))
   refine .ret ⟨_, _, zz4,zz4, ?_⟩
   first | rfl | (simp [*]; done) | (simp_all; done)
theorem p111b (s : List Wit) (k j : Nat) (hk : k < s.length) (hj : j < s.length) (b : Int) (hb : b ≠ 0) (hje : findI s b = (j : Int)) (ok : OkS s) : VPure Tryz.prog 111 [encS s, .int .i64 k, .int .i64 b] fun r => r = ints (ariS s[k] s[j]) := by
 have hl : s.length < 4294967296 := by have := ok.len; omega
 obtain ⟨hw1, hw2, hw3⟩ := ok.lens s[k] (List.getElem_mem hk)
 obtain ⟨hv1, hv2, hv3⟩ := ok.lens s[j] (List.getElem_mem hj)
 have hE := encW_e s[k]
 have hE2 := encW_e s[j]
 have hmx : (if 0 < j then (j : Int) else 0) = (j : Int) := by split <;> omega
 refine .of_body Tryz.func111 rfl rfl ?_
 refine .seq (.rn ?_)
 refine .seq (.rn ?_)
 refine .seq (.seq (.rn ?_))
 refine .condS rfl (fun c13 => ?_) (fun c13 => ?_)
 ·try simp at c13
  refine .drawn (ms := [0,1,0,0,12,28,63,127,255,511]) (W := [4]) (items := [.op 0, .op 1, .op 2, .op 3, .op 4, .ck 1, .op 5, .op 6, .op 7, .op 8, .op 9]) rfl zz0 zz0 zz0 ?_
  refine .rx ?_
  refine .rx ?_
  refine .rx ?_
  refine .rx ?_
  refine .wp rfl rfl rfl rfl rfl Tryz.call104 (p104 s b hl) ?_
  refine .ck rfl zz0 ?_
  refine .rx ?_
  refine .rx ?_
  refine .rx ?_
  refine .rx ?_
  refine .rx ?_
  refine .done (.seq (.rn ?_))
  refine .seq (.rn ?_)
  refine .seq (.seq (.rn ?_))
  refine .block ?_
  refine .loopS (fun i : Nat => ([(7, ints s[j].slips),(8, .grow 1 (((s[k].slips.take i).filter fun n => !decide (n ∈ s[j].slips)).length) true),(9, ints s[k].slips),(10, .int .i64 i)], ⟨2,[(1, .grow 1 (((s[k].slips.take i).filter fun n => !decide (n ∈ s[j].slips)).map (.int .i64)))]⟩)) (fun i => i ≤ s[k].slips.length) (fun i => s[k].slips.length - i) 0 (by simp) (.mk [] [] zz14 zz15 rfl rfl rfl) ?_
  rintro i hi
  simp only at hi ⊢
  refine .seq (.seq (.rn ?_))
  refine .condS rfl (fun c32 => ?_) (fun c32 => ?_)
  ·try simp at c32
   have hwr := wr1 i
   have hT := take_succ_filt (fun n => !decide (n ∈ s[j].slips)) s[k].slips i c32
   have hle : ((s[k].slips.take i).filter fun n => !decide (n ∈ s[j].slips)).length ≤ i := Nat.le_trans (List.length_filter_le _ _) (by simp; omega)
   have hb : ((s[k].slips.take i).filter fun n => !decide (n ∈ s[j].slips)).length ≤ 4294967295 := by omega
   have hone : allOne [PV.int IntKind.i64 s[k].slips[i]] = true := rfl
   refine .skip (.seq (.block (.seq ?_)))
   refine .regionL [0,1,2,3,4,5,6] rfl zz0 ?_
   refine .rn [0,1,2,3,4] [5,6] ?_
   refine .pc rfl rfl rfl rfl rfl Tryz.call121 (p121 s[j].slips s[k].slips[i] hv1) ?_
   refine .rn [6] [] ?_
   refine .done (.seq (.rn ?_))
   refine .condS rfl (fun c42 => ?_) (fun c42 => ?_)
   ·try simp at c42
    rw [if_pos (by simp [c42])] at hT
    refine .rn ?_
    refine .rn ?_
    refine ⟨i + 1, c32,zz5,(.mk [] [(1,3)] zz14 zz15 rfl rfl rfl)⟩
   ·try simp at c42
    rw [if_neg (by simp [c42])] at hT
    refine .skip (.rn ?_)
    refine ⟨i + 1, c32,zz5,(.mk [] [] zz14 zz15 rfl rfl rfl)⟩
  ·try simp at c32
   have hin : i = s[k].slips.length := by omega
   subst hin
   refine .exit (.seq (.rn ?_))
   refine .ret ⟨_, _, zz4,zz4, ?_⟩
   rw [ariS_eq]
 ·try simp at c13
  exact absurd c13 hb
end Go.Am.Ds
end
section
namespace Go.Am.Ds
open Go Go.Am Go.Proofs
attribute [local simp] vrun vwanted vyielded vop vopA vputAll VHeap.back hidI hidF backL bm Nat.testBit_eq_decide_div_mod_eq veval vevals vparts vO vbuiltin vlen vappend velems vcopy vmakeSlice vbuildSlice valloc vbox vmakeMap vload vpartT vpart vstore vfieldAddr vfield vindexAddr vindex vextract vslice vsliceZ vbounds vbnd zeroO vidx vlookup vmget vmapUpdate vdelete vclear vnilq vnilp vnils vbin vsc vsc1 vscs vscl abinOp aint ashift aunOp aconvert amaxs amax2 pvcV pvc pvcs tput tget vargs VHeap.get VHeap.alloc VHeap.put VHeap.drop VHeap.empty vlook vput vdrop psplice pfill preps chunk List.range List.range.loop vresults vresult vresultV frz frzL PV.isF PV.allF PV.scal PV.allS retP subT allFT PV.one PV.ids PV.idsL dropL beq_eq ble_dec blt_dec
attribute [local simp] zW tup2
def frS (s : List Wit) (c : Wit) (b : Int) : List Int := if b = 0 then c.slips else ariS c (atI s b c)
theorem p111 (s : List Wit) (k : Nat) (hk : k < s.length) (ok : OkS s) (b : Int) (hb : b = 0 ∨ ∃ w ∈ s, w.id = b) : VPure Tryz.prog 111 [encS s, .int .i64 k, .int .i64 b] fun r => r = ints (frS s s[k] b) := by
 by_cases h0 : b = 0
 ·subst h0
  rw [frS, if_pos rfl]
  exact p111a s k hk ok
 ·have hm : b ∈ idsS s := idsS_mem.2 (hb.resolve_left h0)
  obtain ⟨j, h1, h2, h3⟩ := getW_some (find_ids hm)
  rw [frS, if_neg h0, atI, h3, Option.getD_some]
  exact p111b s k j hk h1 b h0 h2 ok
theorem mem_putS {l : List Int} {n m : Int} (h : m ∈ putS l n) : m ∈ l ∨ m = n := by
 unfold putS at h
 split at h
 ·exact .inl h
 ·rcases List.mem_append.1 h with h | h
  ·rcases List.mem_append.1 h with h | h
   ·exact .inl (List.mem_of_mem_take h)
   ·exact .inr (by simpa using h)
  ·exact .inl (List.mem_of_mem_drop h)
theorem mem_modR {s : List Wit} {c : Wit} {b : Int} (h : b ∈ modR s c) : b = 0 ∨ ∃ w ∈ s, w.id = b := by
 have : ∀ (l : List Wit) (a : List Int), b ∈ l.foldl (stepR s c) a → b ∈ a ∨ ∃ w ∈ l, w.id = b := by
  intro l
  induction l with
  | nil => intro a h; exact .inl h
  | cons w r ih =>
   intro a h
   rcases ih _ h with h | ⟨u, h1, h2⟩
   ·unfold stepR at h
    split at h
    ·rcases mem_putS h with h | h
     ·exact .inl h
     ·exact .inr ⟨w, List.mem_cons_self, h.symm⟩
    ·exact .inl h
   ·exact .inr ⟨u, List.mem_cons_of_mem _ h1, h2⟩
 rcases this s _ h with h | h
 ·split at h
  ·exact .inl (by simpa using h)
  ·cases h
 ·exact .inr h
theorem modR_len (s : List Wit) (c : Wit) : (modR s c).length ≤ s.length + 1 := by
 rw [← moP_all]; exact moP_len s c s.length
def isB (s : List Wit) (c : Wit) (b : Int) : Bool := (modR s c).all fun b2 => decide ((frS s c b).length ≤ (frS s c b2).length)
def bestR (s : List Wit) (c : Wit) : List Int := (modR s c).filter (isB s c)
def leB (s : List Wit) (c : Wit) (b : Int) (q : Nat) : Bool := ((modR s c).take q).all fun b2 => decide ((frS s c b).length ≤ (frS s c b2).length)
theorem leB_succ (s : List Wit) (c : Wit) (b : Int) (q : Nat) (h : q < (modR s c).length) : leB s c b (q + 1) = (leB s c b q && decide ((frS s c b).length ≤ (frS s c (modR s c)[q]).length)) := by
 unfold leB
 rw [List.take_succ_eq_append_getElem h, List.all_append]
 simp
theorem leB_all (s : List Wit) (c : Wit) (b : Int) : leB s c b (modR s c).length = isB s c b := by unfold leB isB; rw [List.take_length]
theorem p112 (s : List Wit) (c : Nat) (hc : c < s.length) (ok : OkS s) : VPure Tryz.prog 112 [encS s, .int .i64 c] fun r => r = ints (bestR s s[c]) := by
 have hl24 := ok.len
 have hml := modR_len s s[c]
 refine .of_body Tryz.func112 rfl rfl ?_
 refine .seq (.rn ?_)
 refine .seq ?_
 refine .regionL [0,1,2,3] rfl zz0 ?_
 refine .rn [0,1] [2,3] ?_
 refine .pc rfl rfl rfl rfl rfl Tryz.call107 (p107 s c hc ok) ?_
 refine .rn [3] [] ?_
 refine .done (.seq (.rn ?_))
 refine .seq (.seq (.rn ?_))
 refine .block ?_
 refine .loopS (fun i : Nat => ([(1, .int .i64 c),(2, .ptr 0 0),(5, ints (modR s s[c])),(6, .grow 1 (((modR s s[c]).take i).filter (isB s s[c])).length true),(7, .int .i64 i)], ⟨2,[(1, .grow 1 ((((modR s s[c]).take i).filter (isB s s[c])).map (.int .i64))),(0, .box [.vec (s.map encW)])]⟩)) (fun i => i ≤ (modR s s[c]).length) (fun i => (modR s s[c]).length - i) 0 (by simp) (.mk [] [] zz14 zz15 rfl rfl rfl) ?_
 rintro i hi
 simp only at hi ⊢
 refine .seq (.seq (.rn ?_))
 refine .condS rfl (fun c16 => ?_) (fun c16 => ?_)
 ·try simp at c16
  have hwr := wr1 i
  have hT := take_succ_filt (isB s s[c]) (modR s s[c]) i c16
  have hle : (((modR s s[c]).take i).filter (isB s s[c])).length ≤ i := Nat.le_trans (List.length_filter_le _ _) (by simp; omega)
  have hb : (((modR s s[c]).take i).filter (isB s s[c])).length ≤ 4294967295 := by omega
  have hone : allOne [PV.int IntKind.i64 (modR s s[c])[i]] = true := rfl
  have hm1 := mem_modR (List.getElem_mem c16)
  refine .skip (.seq (.block (.seq (.rn ?_))))
  refine .seq (.seq (.rn ?_))
  refine .block ?_
  refine .loopS (fun q : Nat => ([(1, .int .i64 c),(2, .ptr 0 0),(5, ints (modR s s[c])),(6, .grow 1 (((modR s s[c]).take i).filter (isB s s[c])).length true),(7, .int .i64 i),(8, .bool (leB s s[c] (modR s s[c])[i] q)),(9, .int .i64 q)], ⟨2,[(1, .grow 1 ((((modR s s[c]).take i).filter (isB s s[c])).map (.int .i64))),(0, .box [.vec (s.map encW)])]⟩)) (fun q => q ≤ (modR s s[c]).length) (fun q => (modR s s[c]).length - q) 0 (by simp) (.mk [] [] zz14 zz15 rfl rfl rfl) ?_
  rintro q hq
  simp only at hq ⊢
  refine .seq (.seq (.rn ?_))
  refine .condS rfl (fun c22 => ?_) (fun c22 => ?_)
  ·try simp at c22
   have hwr2 := wr1 q
   have hS := leB_succ s s[c] (modR s s[c])[i] q c22
   have hm2 := mem_modR (List.getElem_mem c22)
   refine .skip (.seq (.block ?_))
   refine .drawn (ms := [0,1,3,3,3,3,51,115,255,511,3,3,3,3,12291,28675,65023,130559,262143,524287,1048575]) (W := [8,16]) (items := [.op 0, .op 1, .op 2, .op 3, .op 4, .op 5, .op 6, .op 7, .op 10, .op 11, .op 12, .op 13, .op 14, .op 15, .op 8, .ck 15, .ck 10, .op 9, .op 16, .ck 9, .op 17, .op 18, .op 19, .op 20]) rfl zz0 zz0 zz0 ?_
   refine .rx ?_
   refine .rx ?_
   refine .split (t := 26) rfl (fun c26 => ?_) (fun c26 => ?_)
   ·try rw [c26]
    try simp at c26
    rw [c26, Bool.true_and] at hS
    refine .rx ?_
    refine .rx ?_
    refine .rx ?_
    refine .rx ?_
    refine .rx ?_
    refine .rx ?_
    refine .rx ?_
    refine .rx ?_
    refine .rx ?_
    refine .rx ?_
    refine .rx ?_
    refine .rx ?_
    refine .wp rfl rfl rfl rfl rfl Tryz.call111 (p111 s c hc ok _ hm1) ?_
    refine .ck rfl zz0 ?_
    refine .ck rfl zz0 ?_
    refine .rx ?_
    refine .wp rfl rfl rfl rfl rfl Tryz.call111 (p111 s c hc ok _ hm2) ?_
    refine .ck rfl zz0 ?_
    refine .rx ?_
    refine .rx ?_
    refine .rx ?_
    refine .rx ?_
    refine .done (.rn ?_)
    refine ⟨q + 1, c22,zz5,(.mk [] [] zz14 zz15 rfl rfl rfl)⟩
   ·try rw [c26]
    try simp at c26
    rw [c26, Bool.false_and] at hS
    refine .ux ?_
    refine .ux ?_
    refine .ux ?_
    refine .ux ?_
    refine .ux ?_
    refine .ux ?_
    refine .ux ?_
    refine .ux ?_
    refine .ux ?_
    refine .ux ?_
    refine .ux ?_
    refine .ux ?_
    refine .ux ?_
    refine .ckU rfl rfl rfl ?_
    refine .ckU rfl rfl rfl ?_
    refine .ux ?_
    refine .ux ?_
    refine .ckU rfl rfl rfl ?_
    refine .ux ?_
    refine .ux ?_
    refine .rx ?_
    refine .rx ?_
    refine .done (.rn ?_)
    refine ⟨q + 1, c22,zz5,(.mk [] [] zz14 zz15 rfl rfl rfl)⟩
  ·try simp at c22
   have hqn : q = (modR s s[c]).length := by omega
   subst hqn
   have hall := leB_all s s[c] (modR s s[c])[i]
   refine .exit (.seq (.rn ?_))
   refine .condS rfl (fun c45 => ?_) (fun c45 => ?_)
   ·try simp at c45
    rw [if_pos c45] at hT
    refine .rn ?_
    refine .rn ?_
    refine ⟨i + 1, c16,zz5,(.mk [] [(1,3)] zz14 zz15 rfl rfl rfl)⟩
   ·try simp at c45
    rw [if_neg (by simp [c45])] at hT
    refine .skip (.rn ?_)
    refine ⟨i + 1, c16,zz5,(.mk [] [] zz14 zz15 rfl rfl rfl)⟩
 ·try simp at c16
  have hin : i = (modR s s[c]).length := by omega
  subst hin
  refine .exit (.seq (.rn ?_))
  refine .ret ⟨_, _, zz4,zz4, ?_⟩
  first | rfl | (simp [*]; done) | (simp_all; done)
theorem p110 (s : List Wit) (ok : OkS s) : VPure Tryz.prog 110 [encS s] fun r => r = .bool (s.any fun w => decide (modR s w = [])) := by
 have hl24 := ok.len
 refine .of_body Tryz.func110 rfl rfl ?_
 refine .seq (.rn ?_)
 refine .seq (.seq (.rn ?_))
 refine .block ?_
 refine .loopS (fun i : Nat => ([(1, .ptr 0 0),(3, .int .i64 i)], ⟨1,[(0, .box [.vec (s.map encW)])]⟩)) (fun i => i ≤ s.length ∧ ∀ w ∈ s.take i, modR s w ≠ []) (fun i => s.length - i) 0 (by simp) (.mk [] [] zz14 zz15 rfl rfl rfl) ?_
 rintro i ⟨hi, hne⟩
 simp only at hi hne ⊢
 refine .seq (.seq (.rn ?_))
 refine .condS rfl (fun c8 => ?_) (fun c8 => ?_)
 ·try simp at c8
  have hwr := wr1 i
  refine .skip (.seq (.block (.seq ?_)))
  refine .regionL [0,1,2,3,4] rfl zz0 ?_
  refine .rn [0,1] [2,3,4] ?_
  refine .pc rfl rfl rfl rfl rfl Tryz.call107 (p107 s i c8 ok) ?_
  refine .rn [3,4] [] ?_
  refine .done ?_
  refine .condS rfl (fun c15 => ?_) (fun c15 => ?_)
  ·try simp at c15
   refine .seq (.rn ?_)
   refine .ret ⟨_, _, zz4,zz4, ?_⟩
   have e : (s.any fun w => decide (modR s w = [])) = true := List.any_eq_true.2 ⟨s[i], List.getElem_mem c8, by simpa using c15⟩
   rw [e]
  ·try simp at c15
   refine .skip (.rn ?_)
   refine ⟨i + 1, ⟨c8, ?_⟩, zz5,(.mk [] [] zz14 zz15 rfl rfl rfl)⟩
   intro w hw
   rw [List.take_succ_eq_append_getElem c8] at hw
   rcases List.mem_append.1 hw with hw | hw
   ·exact hne w hw
   ·rw [List.mem_singleton] at hw
    rw [hw]; exact c15
 ·try simp at c8
  have hin : i = s.length := by omega
  subst hin
  rw [List.take_length] at hne
  refine .exit (.seq (.rn ?_))
  refine .ret ⟨_, _, zz4,zz4, ?_⟩
  have e : (s.any fun w => decide (modR s w = [])) = false := by
   rw [List.any_eq_false]
   intro w hw
   simpa using hne w hw
  rw [e]
end Go.Am.Ds
end
section
namespace Go.Am.Ds
open Go Go.Am Go.Proofs
attribute [local simp] vrun vwanted vyielded vop veval vevals vparts vO vbuiltin vlen vappend velems vcopy vmakeSlice vbuildSlice valloc vbox vmakeMap vload vpartT vpart vstore vfieldAddr vfield vindexAddr vindex vextract vslice vsliceZ vbounds vbnd zeroO vidx vlookup vmget vmapUpdate vdelete vnilq vnilp vnils vbin vsc vsc1 vscs vscl abinOp aint ashift aunOp aconvert amaxs amax2 pvcV pvc pvcs tput tget vargs VHeap.get VHeap.alloc VHeap.put VHeap.drop VHeap.empty vlook vput vdrop psplice pfill preps chunk List.range List.range.loop vresults vresult vresultV frz frzL PV.isF PV.allF PV.scal PV.allS retP subT allFT PV.one PV.ids PV.idsL dropL beq_eq ble_dec blt_dec
attribute [local simp] zW tup2
def kinE : KinR → Int
 | .err e => e
 | _ => 0
def kinE_err {s : List Wit} {a b : Int} (h : checkS s ≠ 0) : kinE (kinR s a b) = checkS s := by unfold kinR; rw [if_neg h]; rfl
theorem kinE_n {s : List Wit} {a b : Int} (h : checkS s = 0) (h2 : getW s a = none) : kinE (kinR s a b) = 5 := by unfold kinR; rw [if_pos h, h2]; rfl
theorem kinE_nn {s : List Wit} {a b : Int} {c : Wit} (h : checkS s = 0) (h2 : getW s a = some c) (hb : b ≠ 0) (h3 : getW s b = none) : kinE (kinR s a b) = 5 := by unfold kinR; rw [if_pos h, h2]; simp only; rw [if_neg hb, h3]; rfl
theorem kinE_s {s : List Wit} {a b : Int} {c p : Wit} (h : checkS s = 0) (h2 : getW s a = some c) (hb : b ≠ 0) (h3 : getW s b = some p) : kinE (kinR s a b) = 0 := by unfold kinR; rw [if_pos h, h2]; simp only; rw [if_neg hb, h3]; rfl
theorem kinE_t {s : List Wit} {a b : Int} {c : Wit} (h : checkS s = 0) (h2 : getW s a = some c) (hb : b = 0) : kinE (kinR s a b) = 0 := by unfold kinR; rw [if_pos h, h2]; simp only; rw [if_pos hb]; rfl
theorem p102 (s : List Wit) (a b : Int) (hl : s.length < 4294967296) (hli : ∀ w ∈ s, w.slips.length < 4294967296 ∧ w.mended.length < 4294967296 ∧ w.models.length < 4294967296) : VPure Tryz.prog 102 [encS s, .agg [.int .i64 a, .int .i64 b]] fun r => r = .int .i64 (kinE (kinR s a b)) := by
 refine .of_body Tryz.func102 rfl rfl ?_
 refine .seq (.rn ?_)
 refine .seq ?_
 refine .regionL [0,1,2] rfl zz0 ?_
 refine .rn [0] [1,2] ?_
 refine .pc rfl rfl rfl rfl rfl Tryz.call52 (p52 s hl hli) ?_
 refine .rn [2] [] ?_
 refine .done (.seq (.seq (.rn ?_)))
 refine .condS rfl (fun c9 => ?_) (fun c9 => ?_)
 ·try simp at c9
  refine .seq (.rn ?_)
  refine .ret ⟨_, _, zz4,zz4, ?_⟩
  rw [kinE_err c9]
 ·try simp at c9
  refine .skip (.seq (.seq ?_))
  refine .regionL [0,1,2,3,4,5,6,7,8,9,10,11,12,13,14,15,16] rfl zz0 ?_
  refine .rn [0,1,2] [3,4,5,6,7,8,9,10,11,12,13,14,15,16] ?_
  refine .pc rfl rfl rfl rfl rfl Tryz.call104 (p104 s a hl) ?_
  refine .rn [4,5] [6,7,8,9,10,11,12,13,14,15,16] ?_
  refine .split (t := 16) rfl (fun c16 => ?_) (fun c16 => ?_)
  ·try rw [c16]
   try simp at c16
   have hn := getW_none c16
   refine .rn [6,7,8,9,10,11,12,13,14,15,16] [] ?_
   refine .done (.condT rfl (.seq (.rn ?_)))
   refine .ret ⟨_, _, zz4,zz4, ?_⟩
   rw [kinE_n c9 hn]
  ·try rw [c16]
   try simp at c16
   obtain ⟨i, hi, hie, hga⟩ := getW_some c16
   refine .rn [6,7,8,9] [10,11,12,13,14,15,16] ?_
   refine .split (t := 20) rfl (fun c20 => ?_) (fun c20 => ?_)
   ·try rw [c20]
    try simp at c20
    refine .rn [10,11,12] [13,14,15,16] ?_
    refine .pc rfl rfl rfl rfl rfl Tryz.call104 (p104 s b hl) ?_
    refine .rn [14,15,16] [] ?_
    refine .done ?_
    refine .condS rfl (fun c27 => ?_) (fun c27 => ?_)
    ·try simp at c27
     have hn := getW_none c27
     refine .seq (.rn ?_)
     refine .ret ⟨_, _, zz4,zz4, ?_⟩
     rw [kinE_nn c9 hga c20 hn]
    ·try simp at c27
     obtain ⟨j, hj, hje, hgb⟩ := getW_some c27
     refine .skip (.seq (.rn ?_))
     refine .ret ⟨_, _, zz4,zz4, ?_⟩
     rw [kinE_s c9 hga c20 hgb]
   ·try rw [c20]
    try simp at c20
    refine .rn [10,11,12,13,14,15,16] [] ?_
    refine .done (.condF rfl (.skip (.seq (.rn ?_))))
    refine .ret ⟨_, _, zz4,zz4, ?_⟩
    rw [kinE_t c9 hga c20]
attribute [local simp] zW tup2
theorem p108' (s : List Wit) (hl : s.length < 4294967296) : VPure Tryz.prog 108 [encS s] fun r => r = .tup [.vec ((chL s).map encC), .int .i64 (chE s)] := VPure.soft (p108 s hl) rfl
end Go.Am.Ds
end
section
namespace Go.Am.Ds
open Go Go.Am Go.Proofs
theorem checkL_nodup : ∀ {l : List Wit} {seen : List Int}, checkL l seen = 0 → (l.map Wit.id).Nodup ∧ ∀ w ∈ l, w.id ∉ seen
 | [], _, _ => ⟨.nil, fun w hw => by cases hw⟩
 | a :: r, seen, h => by
  simp only [checkL] at h
  split at h
  ·split at h
   ·simp at h
   ·rename_i hn
    obtain ⟨h1, h2⟩ := checkL_nodup h
    refine ⟨?_, fun w hw => ?_⟩
    ·rw [List.map_cons, List.nodup_cons]
     refine ⟨fun hm => ?_, h1⟩
     obtain ⟨w, hw, he⟩ := List.mem_map.1 hm
     exact h2 w hw ((mem_insU _ _ _).2 (.inr he))
    ·rcases List.mem_cons.1 hw with rfl | hw
     ·exact hn
     ·exact fun hs => h2 w hw ((mem_insU _ _ _).2 (.inl hs))
  ·rename_i h0; exact absurd h h0
theorem checkS_nodup {s : List Wit} (h : checkS s = 0) : (s.map Wit.id).Nodup := by
 unfold checkS at h
 split at h
 ·simp at h
 ·exact (checkL_nodup h).1
theorem checkS_pos {s : List Wit} (h : checkS s = 0) : ∀ w ∈ s, 0 < w.id := fun w hw => by
 have := (checkS_ok h).2 w hw
 unfold witE at this
 split at this
 ·cases this
 ·omega
theorem strict_eq : ∀ {l m : List Int}, l.Pairwise (· < ·) → m.Pairwise (· < ·) → (∀ x, x ∈ l ↔ x ∈ m) → l = m
 | [],[], _, _, _ => rfl
 | [], b :: s, _, _, h => absurd ((h b).2 List.mem_cons_self) (by simp)
 | a :: r, [], _, _, h => absurd ((h a).1 List.mem_cons_self) (by simp)
 | a :: r, b :: s, hl, hm, h => by
  rw [List.pairwise_cons] at hl hm
  have h1 : a = b := by
   rcases List.mem_cons.1 ((h a).1 List.mem_cons_self) with h1 | h1
   ·exact h1
   ·rcases List.mem_cons.1 ((h b).2 List.mem_cons_self) with h2 | h2
    ·exact h2.symm
    ·have := hl.1 b h2
     have := hm.1 a h1
     omega
  subst h1
  rw [strict_eq hl.2 hm.2 fun x => ⟨fun hx => ?_, fun hx => ?_⟩]
  ·rcases List.mem_cons.1 ((h x).1 (List.mem_cons_of_mem _ hx)) with rfl | h2
   ·have := hl.1 x hx; omega
   ·exact h2
  ·rcases List.mem_cons.1 ((h x).2 (List.mem_cons_of_mem _ hx)) with rfl | h2
   ·have := hm.1 x hx; omega
   ·exact h2
theorem lowN_spec (n : Int) : ∀ (l : List Int), l.Pairwise (· < ·) → (∀ x ∈ l.take (lowN l n), x < n) ∧ (∀ x ∈ l.drop (lowN l n), n ≤ x)
 | [], _ => ⟨fun x hx => by simp [lowN] at hx, fun x hx => by simp at hx⟩
 | a :: r, h => by
  rw [List.pairwise_cons] at h
  obtain ⟨h1, h2⟩ := lowN_spec n r h.2
  simp only [lowN]
  by_cases ha : a < n
  ·rw [if_pos ha]
   refine ⟨fun x hx => ?_, fun x hx => ?_⟩
   ·rw [List.take_succ_cons] at hx
    rcases List.mem_cons.1 hx with rfl | hx
    ·exact ha
    ·exact h1 x hx
   ·rw [List.drop_succ_cons] at hx; exact h2 x hx
  ·rw [if_neg ha]
   refine ⟨fun x hx => by simp at hx, fun x hx => ?_⟩
   rw [List.drop_zero] at hx
   rcases List.mem_cons.1 hx with rfl | hx
   ·omega
   ·have := h.1 x hx; omega
theorem putS_mem {l : List Int} {n m : Int} : m ∈ putS l n ↔ m ∈ l ∨ m = n := by
 refine ⟨mem_putS, fun h => ?_⟩
 unfold putS
 split
 ·rename_i hg
  rcases h with h | h
  ·exact h
  ·rw [h]; exact List.mem_of_getElem? hg
 ·rcases h with h | h
  ·rw [← List.take_append_drop (lowN l n) l] at h
   rcases List.mem_append.1 h with h | h
   ·exact List.mem_append_left _ (List.mem_append_left _ h)
   ·exact List.mem_append_right _ h
  ·exact List.mem_append_left _ (List.mem_append_right _ (by simp [h]))
theorem putS_sorted {l : List Int} {n : Int} (h : l.Pairwise (· < ·)) : (putS l n).Pairwise (· < ·) := by
 unfold putS
 split
 ·exact h
 ·rename_i hg
  obtain ⟨h1, h2⟩ := lowN_spec n l h
  have h3 : ∀ x ∈ l.drop (lowN l n), n < x := fun x hx => by
   have h4 := h2 x hx
   rcases Int.lt_or_eq_of_le h4 with h5 | h5
   ·exact h5
   ·exfalso
    cases hd : l.drop (lowN l n) with
    | nil => rw [hd] at hx; cases hx
    | cons b r =>
     have hb : l[lowN l n]? = some b := by
      have := congrArg (·[0]?) hd
      simpa using this
     rw [hd] at hx h2
     have hbn := h2 b List.mem_cons_self
     have hs : (b :: r).Pairwise (· < ·) := hd ▸ h.sublist (List.drop_sublist _ _)
     rw [List.pairwise_cons] at hs
     rcases List.mem_cons.1 hx with h6 | h6
     ·exact hg (by rw [hb, ← h6, h5])
     ·have := hs.1 x h6; omega
  have ht := h.sublist (List.take_sublist (lowN l n) l)
  have hd := h.sublist (List.drop_sublist (lowN l n) l)
  rw [List.pairwise_append, List.pairwise_append]
  refine ⟨⟨ht, by simp, fun a ha b hb => ?_⟩, hd, fun a ha b hb => ?_⟩
  ·rw [List.mem_singleton] at hb; rw [hb]; exact h1 a ha
  ·have hb' := h3 b hb
   rcases List.mem_append.1 ha with ha | ha
   ·have := h1 a ha; omega
   ·rw [List.mem_singleton] at ha; omega
theorem idsS_sorted {s : List Wit} (h : (s.map Wit.id).Nodup) : (idsS s).Pairwise (· < ·) := by
 unfold idsS
 have h1 := List.pairwise_mergeSort (le := fun x y : Int => decide (x ≤ y)) (fun a b c h1 h2 => by simp only [decide_eq_true_eq] at *; omega) (fun a b => by simp only [Bool.or_eq_true, decide_eq_true_eq]; omega) (s.map Wit.id)
 have h2 : ((s.map Wit.id).mergeSort fun x y => decide (x ≤ y)).Nodup := (List.mergeSort_perm _ _).nodup_iff.2 h
 have h3 := h1.and h2
 exact h3.imp fun ⟨h4, h5⟩ => by
  simp only [decide_eq_true_eq] at h4
  rcases Int.lt_or_eq_of_le h4 with h6 | h6
  ·exact h6
  ·exact absurd h6 h5
theorem modR_mem {s : List Wit} {c : Wit} {b : Int} : b ∈ modR s c ↔ (b = 0 ∧ lastS c 0 = 0) ∨ ∃ w ∈ s, w.id = b ∧ (whyP c (atI s w.id w)).1 = 0 := by
 have : ∀ (l : List Wit) (a : List Int), b ∈ l.foldl (stepR s c) a ↔ b ∈ a ∨ ∃ w ∈ l, w.id = b ∧ (whyP c (atI s w.id w)).1 = 0 := by
  intro l
  induction l with
  | nil => intro a; simp
  | cons w r ih =>
   intro a
   rw [List.foldl_cons, ih]
   have h1 : b ∈ stepR s c a w ↔ b ∈ a ∨ (w.id = b ∧ (whyP c (atI s w.id w)).1 = 0) := by
    unfold stepR
    split
    ·rename_i h
     rw [putS_mem]
     exact ⟨fun h2 => h2.imp_right fun h3 => ⟨h3.symm, h⟩, fun h2 => h2.imp_right fun h3 => h3.1.symm⟩
    ·rename_i h
     exact ⟨.inl, fun h2 => h2.elim id fun h3 => absurd h3.2 h⟩
   rw [h1]
   constructor
   ·rintro ((h | h) | ⟨u, h2, h3⟩)
    ·exact .inl h
    ·exact .inr ⟨w, List.mem_cons_self, h⟩
    ·exact .inr ⟨u, List.mem_cons_of_mem _ h2, h3⟩
   ·rintro (h | ⟨u, h2, h3⟩)
    ·exact .inl (.inl h)
    ·rcases List.mem_cons.1 h2 with rfl | h2
     ·exact .inl (.inr h3)
     ·exact .inr ⟨u, h2, h3⟩
 unfold modR
 rw [this]
 have h0 : b ∈ (if lastS c 0 = 0 then [0] else ([] : List Int)) ↔ b = 0 ∧ lastS c 0 = 0 := by
  split
  ·rename_i h; simp [h]
  ·rename_i h; simp [h]
 rw [h0]
theorem modR_sorted (s : List Wit) (c : Wit) : (modR s c).Pairwise (· < ·) := by
 have : ∀ (l : List Wit) (a : List Int), a.Pairwise (· < ·) → (l.foldl (stepR s c) a).Pairwise (· < ·) := by
  intro l
  induction l with
  | nil => intro a h; exact h
  | cons w r ih =>
   intro a h
   refine ih _ ?_
   unfold stepR
   split
   ·exact putS_sorted h
   ·exact h
 refine this s _ ?_
 split <;> simp
theorem stepP_some {s : List Wit} {c : Wit} {id : Int} {y : Int × Int} : stepP s c id = some y ↔ ∃ p, getW s id = some p ∧ (whyP c p).1 = 0 ∧ y = (id, ((ariS c p).length : Int)) := by
 unfold stepP
 cases hg : getW s id with
 | none => simp
 | some p =>
  simp only
  by_cases h : (whyP c p).1 = 0
  ·rw [if_pos h]
   constructor
   ·intro h2; injection h2 with h2; exact ⟨p, rfl, h, h2.symm⟩
   ·rintro ⟨q, h2, _, h3⟩; injection h2 with h2; subst h2; rw [h3]
  ·rw [if_neg h]
   constructor
   ·intro h2; cases h2
   ·rintro ⟨q, h2, h3, _⟩; injection h2 with h2; subst h2; exact absurd h3 h
theorem parS_mem {s : List Wit} {c : Wit} {y : Int × Int} : y ∈ parS s c ↔ (y = (0,(c.slips.length : Int)) ∧ lastS c 0 = 0) ∨ ∃ p, y.1 ∈ idsS s ∧ getW s y.1 = some p ∧ (whyP c p).1 = 0 ∧ y.2 = ((ariS c p).length : Int) := by
 unfold parS
 rw [List.mem_append, List.mem_filterMap]
 have h0 : y ∈ headP c ↔ y = (0,(c.slips.length : Int)) ∧ lastS c 0 = 0 := by
  unfold headP
  split
  ·rename_i h; simp [h]
  ·rename_i h; simp [h]
 rw [h0]
 constructor
 ·rintro (h | ⟨id, h1, h2⟩)
  ·exact .inl h
  ·obtain ⟨p, h3, h4, h5⟩ := stepP_some.1 h2
   subst h5
   exact .inr ⟨p, h1, h3, h4, rfl⟩
 ·rintro (h | ⟨p, h1, h2, h3, h4⟩)
  ·exact .inl h
  ·exact .inr ⟨y.1, h1, stepP_some.2 ⟨p, h2, h3, Prod.ext rfl h4⟩⟩
theorem fst_sorted {f : Int → Option (Int × Int)} (hf : ∀ x y, f x = some y → y.1 = x) : ∀ {l : List Int}, l.Pairwise (· < ·) → ((l.filterMap f).map (·.1)).Pairwise (· < ·)
 | [], _ => .nil
 | a :: r, h => by
  rw [List.pairwise_cons] at h
  rw [List.filterMap_cons]
  cases hfa : f a with
  | none => exact fst_sorted hf h.2
  | some y =>
   simp only [List.map_cons, List.pairwise_cons]
   refine ⟨fun b hb => ?_, fst_sorted hf h.2⟩
   obtain ⟨z, hz, rfl⟩ := List.mem_map.1 hb
   obtain ⟨x, hx, h2⟩ := List.mem_filterMap.1 hz
   rw [hf a y hfa, hf x z h2]
   exact h.1 x hx
theorem models_eq {s : List Wit} (h : checkS s = 0) (c : Wit) : (parS s c).map (·.1) = modR s c := by
 refine strict_eq ?_ (modR_sorted s c) fun b => ?_
 ·have h1 : (((idsS s).filterMap (stepP s c)).map (·.1)).Pairwise (· < ·) := fst_sorted (fun x y hxy => by obtain ⟨p, _, _, rfl⟩ := stepP_some.1 hxy; rfl) (idsS_sorted (checkS_nodup h))
  unfold parS headP
  split
  ·simp only [List.singleton_append, List.map_cons, List.pairwise_cons]
   refine ⟨fun b hb => ?_, h1⟩
   obtain ⟨z, hz, rfl⟩ := List.mem_map.1 hb
   obtain ⟨x, hx, h2⟩ := List.mem_filterMap.1 hz
   obtain ⟨p, _, _, rfl⟩ := stepP_some.1 h2
   obtain ⟨w, hw, rfl⟩ := idsS_mem.1 hx
   exact checkS_pos h w hw
  ·simpa using h1
 ·rw [modR_mem, List.mem_map]
  constructor
  ·rintro ⟨y, hy, rfl⟩
   rcases parS_mem.1 hy with ⟨rfl, h2⟩ | ⟨p, h1, h2, h3, _⟩
   ·exact .inl ⟨rfl, h2⟩
   ·obtain ⟨hp, hpi⟩ := getW_mem h2
    refine .inr ⟨p, hp, hpi, ?_⟩
    rw [atI, hpi, h2]; exact h3
  ·rintro (⟨rfl, h2⟩ | ⟨w, hw, rfl, h3⟩)
   ·exact ⟨(0,(c.slips.length : Int)), parS_mem.2 (.inl ⟨rfl, h2⟩), rfl⟩
   ·have hm : w.id ∈ idsS s := idsS_mem.2 ⟨w, hw, rfl⟩
    obtain ⟨j, h4, h5, h6⟩ := getW_some (find_ids hm)
    rw [atI, h6, Option.getD_some] at h3
    exact ⟨(w.id, ((ariS c s[j]).length : Int)), parS_mem.2 (.inr ⟨s[j], hm, h6, h3, rfl⟩), rfl⟩
theorem fold_spec : ∀ (l : List (Int × Int)) (d : List (Int × Int)) (x : List Int × Int),(d = [] ∧ x.1 = [] ∨ x.1 ≠ [] ∧ (∀ y ∈ d, x.2 ≤ y.2) ∧ ∃ y ∈ d, y.2 = x.2) →
  (d ++ l = [] ∧ (l.foldl stepC x).1 = [] ∨ (l.foldl stepC x).1 ≠ [] ∧ (∀ y ∈ d ++ l, (l.foldl stepC x).2 ≤ y.2) ∧ ∃ y ∈ d ++ l, y.2 = (l.foldl stepC x).2)
 | [], d, x, h => by simpa using h
 | y :: r, d, x, h => by
  have ih := fold_spec r (d ++ [y]) (stepC x y) (.inr (by
   unfold stepC
   split
   ·rename_i h1
    rcases h with ⟨_, h2⟩ | ⟨h2, h3, z, h4, h5⟩
    ·exact absurd h2 h1.1
    ·refine ⟨h2, fun w hw => ?_, z, List.mem_append_left _ h4, h5⟩
     rcases List.mem_append.1 hw with hw | hw
     ·exact h3 w hw
     ·rw [List.mem_singleton] at hw; rw [hw]; omega
   ·rename_i h1
    split
    ·rename_i h2
     refine ⟨by simp, fun w hw => ?_, y, by simp, rfl⟩
     rcases List.mem_append.1 hw with hw | hw
     ·rcases h with ⟨h3, _⟩ | ⟨h3, h4, _⟩
      ·rw [h3] at hw; cases hw
      ·rcases h2 with h2 | h2
       ·exact absurd h2 h3
       ·have := h4 w hw; simp only; omega
     ·rw [List.mem_singleton] at hw; rw [hw]; exact Int.le_refl _
    ·rename_i h2
     have h3 : x.1 ≠ [] := fun h4 => h2 (.inl h4)
     have h4 : ¬ y.2 < x.2 := fun h4 => h2 (.inr h4)
     have h5 : ¬ x.2 < y.2 := fun h5 => h1 ⟨h3, h5⟩
     rcases h with ⟨_, h6⟩ | ⟨_, h7, z, h8, h9⟩
     ·exact absurd h6 h3
     ·refine ⟨by simp, fun w hw => ?_, z, List.mem_append_left _ h8, h9⟩
      rcases List.mem_append.1 hw with hw | hw
      ·exact h7 w hw
      ·rw [List.mem_singleton] at hw; rw [hw]; simp only; omega))
  rw [List.append_assoc, List.singleton_append] at ih
  rw [List.foldl_cons]
  exact ih
theorem choF_spec (s : List Wit) (c : Wit) : (parS s c = [] ∧ (choF s c).1 = []) ∨ ((choF s c).1 ≠ [] ∧ (∀ y ∈ parS s c, (choF s c).2 ≤ y.2) ∧ ∃ y ∈ parS s c, y.2 = (choF s c).2) := by
 have := fold_spec (parS s c) [] ([],0) (.inl ⟨rfl, rfl⟩)
 simpa [choF] using this
theorem choF_nil {s : List Wit} (h : checkS s = 0) (c : Wit) : (choF s c).1 = [] ↔ modR s c = [] := by
 rw [← models_eq h c, List.map_eq_nil_iff]
 rcases choF_spec s c with ⟨h1, h2⟩ | ⟨h1, _, y, h2, _⟩
 ·simp [h1, h2]
 ·exact ⟨fun h3 => absurd h3 h1, fun h3 => by rw [h3] at h2; cases h2⟩
theorem parS_fr {s : List Wit} (h : checkS s = 0) {c : Wit} {y : Int × Int} (hy : y ∈ parS s c) : y.2 = ((frS s c y.1).length : Int) := by
 rcases parS_mem.1 hy with ⟨rfl, _⟩ | ⟨p, h1, h2, _, h4⟩
 ·simp [frS]
 ·obtain ⟨hp, hpi⟩ := getW_mem h2
  have h0 : y.1 ≠ 0 := by have := checkS_pos h p hp; omega
  rw [h4, frS, if_neg h0, atI, h2]; rfl
theorem chE_eq {s : List Wit} (h : checkS s = 0) : chE s = if ∃ w ∈ s, modR s w = [] then 9 else 0 := by
 unfold chE
 rw [if_pos h]
 have : (∃ c ∈ s, (choF s c).1 = []) ↔ ∃ w ∈ s, modR s w = [] := ⟨fun ⟨w, h1, h2⟩ => ⟨w, h1,(choF_nil h w).1 h2⟩, fun ⟨w, h1, h2⟩ => ⟨w, h1,(choF_nil h w).2 h2⟩⟩
 by_cases h2 : ∃ w ∈ s, modR s w = []
 ·rw [if_pos h2, if_pos (this.2 h2)]
 ·rw [if_neg h2, if_neg (fun h3 => h2 (this.1 h3))]
end Go.Am.Ds
end
section
namespace Go.Am.Ds
open Go Go.Am Go.Proofs
attribute [local simp] vrun vwanted vyielded vop vopA vputAll VHeap.back hidI hidF backL bm Nat.testBit_eq_decide_div_mod_eq veval vevals vparts vO vbuiltin vlen vappend velems vcopy vmakeSlice vbuildSlice valloc vbox vmakeMap vload vpartT vpart vstore vfieldAddr vfield vindexAddr vindex vextract vslice vsliceZ vbounds vbnd zeroO vidx vlookup vmget vmapUpdate vdelete vclear vnilq vnilp vnils vbin vsc vsc1 vscs vscl abinOp aint ashift aunOp aconvert amaxs amax2 pvcV pvc pvcs tput tget vargs VHeap.get VHeap.alloc VHeap.put VHeap.drop VHeap.empty vlook vput vdrop psplice pfill preps chunk List.range List.range.loop vresults vresult vresultV frz frzL PV.isF PV.allF PV.scal PV.allS retP subT allFT PV.one PV.ids PV.idsL dropL beq_eq ble_dec blt_dec
def parR (s : List Wit) (id : Int) : PV := match getW s id with
 | some p => .vp (encW p).cells
 | none => .ptr0
theorem parR_none {s : List Wit} {id : Int} (h : getW s id = none) : parR s id = .ptr0 := by unfold parR; rw [h]
theorem parR_some {s : List Wit} {id : Int} {p : Wit} (h : getW s id = some p) : parR s id = .vp (encW p).cells := by unfold parR; rw [h]
def stepD (s : List Wit) (c : Wit) (id : Int) : Option Int := match getW s id with
 | none => if id = 0 ∧ lastS c 0 = 0 then some (c.slips.length : Int) else none
 | some p => if (whyP c p).1 = 0 then some ((ariS c p).length : Int) else none
def desL (s : List Wit) (l : List Int) : List (Option Int) := (s.zip l).map fun x => stepD s x.1 x.2
def desP (s : List Wit) (l : List Int) (k : Nat) : Int := (((desL s l).take k).map (·.getD 0)).sum
def desR (s : List Wit) (l : List Int) : Int × Bool := if l.length = s.length ∧ (desL s l).all Option.isSome = true then (desP s l s.length, true) else (0, false)
theorem desL_get (s : List Wit) (l : List Int) (k : Nat) (h : k < s.length) (h2 : k < l.length) : ∃ h3 : k < (desL s l).length, (desL s l)[k] = stepD s s[k] l[k] := by
 refine ⟨by simp [desL]; omega, by simp [desL]⟩
theorem desP_succ (s : List Wit) (l : List Int) (k : Nat) (h : k < s.length) (h2 : k < l.length) : desP s l (k + 1) = desP s l k + (stepD s s[k] l[k]).getD 0 := by
 obtain ⟨h3, h4⟩ := desL_get s l k h h2
 unfold desP
 rw [List.take_succ_eq_append_getElem h3, h4]; simp
theorem desA_succ (s : List Wit) (l : List Int) (k : Nat) (h : k < s.length) (h2 : k < l.length) : ((desL s l).take (k + 1)).all Option.isSome = (((desL s l).take k).all Option.isSome && (stepD s s[k] l[k]).isSome) := by
 obtain ⟨h3, h4⟩ := desL_get s l k h h2
 rw [take_succ_all _ _ _ h3, h4]
theorem ariS_len (c p : Wit) : (ariS c p).length ≤ c.slips.length := by unfold ariS; exact List.length_filter_le _ _
theorem stepD_bd (s : List Wit) (c : Wit) (id : Int) : 0 ≤ (stepD s c id).getD 0 ∧ (stepD s c id).getD 0 ≤ (c.slips.length : Int) := by
 unfold stepD
 cases getW s id with
 | none => simp only; split <;> simp
 | some p =>
  simp only; have := ariS_len c p
  split <;> simp <;> omega
theorem desP_bd (s : List Wit) (l : List Int) (hli : ∀ w ∈ s, w.slips.length < 4294967296 ∧ w.mended.length < 4294967296 ∧ w.models.length < 4294967296) (he : l.length = s.length) : ∀ k, k ≤ s.length → 0 ≤ desP s l k ∧ desP s l k ≤ (k : Int) * 4294967296
 | 0, _ => by simp [desP]
 | k + 1, h => by
  have h1 := desP_bd s l hli he k (by omega)
  rw [desP_succ s l k (by omega) (by omega)]
  have h2 := stepD_bd s s[k] l[k]
  have h3 := (hli s[k] (List.getElem_mem (by omega))).1
  constructor
  ·omega
  ·push_cast; omega
theorem desR_none {s : List Wit} {l : List Int} {k : Nat} (h : k < s.length) (h2 : k < l.length) (hN : stepD s s[k] l[k] = none) : desR s l = (0, false) := by
 obtain ⟨h3, h4⟩ := desL_get s l k h h2
 unfold desR
 rw [if_neg]
 rintro ⟨_, ha⟩
 have := List.all_eq_true.1 ha _ (List.getElem_mem h3)
 rw [h4, hN] at this; cases this
theorem p173 (s : List Wit) (id : Int) (hl : s.length < 4294967296) : VPure Tryz.prog 173 [encS s, .int .i64 id] fun r => r = parR s id := by
 refine .of_body Tryz.func173 rfl rfl ?_
 refine .seq (.rn ?_)
 refine .seq (.seq ?_)
 refine .regionL [0,1,2,3] rfl zz0 ?_
 refine .rn [0,1] [2,3] ?_
 refine .pc rfl rfl rfl rfl rfl Tryz.call105 (p105' s id hl) ?_
 refine .rn [3] [] ?_
 refine .done (.seq (.rn ?_))
 refine .condS rfl (fun c10 => ?_) (fun c10 => ?_)
 ·try simp at c10
  obtain ⟨i, hi, hie, hga⟩ := getW_some c10
  refine .seq (.rn ?_)
  refine .ret ⟨_, _, zz4,zz4, ?_⟩
  rw [parR_some hga]; rfl
 ·try simp at c10
  have hn := getW_none (show findI s id < 0 by omega)
  refine .skip (.seq (.rn ?_))
  refine .ret ⟨_, _, zz4,zz4, ?_⟩
  rw [parR_none hn]
theorem p132 (s : List Wit) (l : List Int) (hl : s.length < 65536) (hlL : l.length < 4611686018427387904) (hli : ∀ w ∈ s, w.slips.length < 4294967296 ∧ w.mended.length < 4294967296 ∧ w.models.length < 4294967296) : VPure Tryz.prog 132 [encS s, ints l] fun r => r = .tup [.int .i64 (desR s l).1, .bool (desR s l).2] := by
 refine .of_body Tryz.func132 rfl rfl ?_
 refine .seq (.rn ?_)
 refine .seq (.seq (.rn ?_))
 refine .condS rfl (fun c17 => ?_) (fun c17 => ?_)
 ·try simp at c17
  refine .seq (.rn ?_)
  refine .ret ⟨_, _, zz4,zz4, ?_⟩
  rw [desR, if_neg (by rintro ⟨h, _⟩; omega)]
 ·try simp at c17
  have he : l.length = s.length := by omega
  refine .skip (.seq (.rn ?_))
  refine .seq (.seq (.rn ?_))
  refine .block ?_
  refine .loopS (fun k : Nat => ([(1, ints l),(2, .ptr 0 0),(6, .int .i64 (desP s l k)),(19, .vec (s.map encW)),(20, .int .i64 s.length),(21, .int .i64 k)], ⟨1,[(0, .box [.vec (s.map encW)])]⟩)) (fun k => k ≤ s.length ∧ ((desL s l).take k).all Option.isSome = true) (fun k => s.length - k) 0 (by simp) (.mk [] [] zz14 zz15 rfl rfl rfl) ?_
  rintro k ⟨hk, hal⟩
  simp only at hk hal ⊢
  refine .seq (.rn ?_)
  refine .seq ?_
  refine .condS rfl (fun c22 => ?_) (fun c22 => ?_)
  ·try simp at c22
   have hw2 := wr1 k
   have hkl : k < l.length := by omega
   obtain ⟨hw1, hw3, hw4⟩ := hli s[k] (List.getElem_mem c22)
   have hbd := desP_bd s l hli he k hk
   have hbd2 := stepD_bd s s[k] l[k]
   have hS := desP_succ s l k c22 hkl
   have hA := desA_succ s l k c22 hkl
   have hW3 : ∀ x : Int, 0 ≤ x → x ≤ 4294967296 → IntKind.i64.wrap (desP s l k + x) = desP s l k + x := fun x h1 h2 => wrap64 (by omega) (by omega)
   have hE := encW_e s[k]
   rcases hg : getW s l[k] with _ | p
   ·skip
    refine .skip (.seq (.block (.seq (.rn ?_))))
    refine .seq ?_
    refine .drawn (ms := [0,0,0,6,14,31,63]) (W := [5]) (items := [.op 0, .op 1, .op 2, .op 3, .op 4, .op 5, .op 6]) rfl zz0 zz0 zz0 ?_
    refine .rx ?_
    refine .rx ?_
    refine .rx ?_
    refine .rx ?_
    refine .rx ?_
    refine .wp rfl rfl rfl rfl rfl Tryz.call173 ((by have h := p173 s l[k] (by omega); rw [parR_none hg] at h; exact h)) ?_
    refine .rx ?_
    refine .done (.seq (.seq ?_))
    refine .regionL [0,1,2,3,4,5,6,7,8] rfl zz0 ?_
    refine .rn [0,1,2] [3,4,5,6,7,8] ?_
    refine .split (t := 34) rfl (fun c34 => ?_) (fun c34 => ?_)
    ·try rw [c34]
     try simp at c34
     refine .rn [3,4,5,6,7,8] [] ?_
     refine .done ?_
     refine .condS rfl (fun c40 => ?_) (fun c40 => ?_)
     ·try simp at c40
      have hN : stepD s s[k] l[k] = none := by simp only [stepD, hg]; rw [if_neg (fun h => c40 h.1)]
      refine .seq (.rn ?_)
      refine .ret ⟨_, _, zz4,zz4, ?_⟩
      rw [desR_none c22 hkl hN]
     ·try simp at c40
      refine .skip (.seq (.seq ?_))
      refine .regionL [0,1,2,3,4,5,6,7] rfl zz0 ?_
      refine .rn [0,1] [2,3,4,5,6,7] ?_
      refine .pc rfl rfl rfl rfl rfl Tryz.call101 (p101a s[k] hw4) ?_
      refine .rn [3,4,5,6,7] [] ?_
      refine .done (.seq (.rn ?_))
      refine .condS rfl (fun c48 => ?_) (fun c48 => ?_)
      ·try simp at c48
       have hN : stepD s s[k] l[k] = none := by simp only [stepD, hg]; rw [if_neg (fun h => c48 h.2)]
       refine .seq (.rn ?_)
       refine .ret ⟨_, _, zz4,zz4, ?_⟩
       rw [desR_none c22 hkl hN]
      ·try simp at c48
       have hN : stepD s s[k] l[k] = some (s[k].slips.length : Int) := by simp only [stepD, hg]; rw [if_pos ⟨c40, c48⟩]
       rw [hN] at hS hA
       simp only [Option.getD_some] at hS
       have hW4 := hW3 (s[k].slips.length : Int) (by omega) (by omega)
       refine .skip ?_
       refine .regionL [0,1,2,3,4,5,6] rfl zz0 ?_
       refine .rn [0,1,2] [3,4,5,6] ?_
       refine .pc rfl rfl rfl rfl rfl Tryz.call109 (p109a s[k]) ?_
       refine .rn [4,5,6] [] ?_
       refine .done (.rn ?_)
       refine ⟨k + 1, ⟨zz5, by rw [hA]; simpa using hal⟩, zz5,(.mk [] [] zz14 zz15 rfl rfl rfl)⟩
    ·try rw [c34]
     try simp at c34
   ·skip
    refine .skip (.seq (.block (.seq (.rn ?_))))
    refine .seq ?_
    refine .drawn (ms := [0,0,0,6,14,31,63]) (W := [5]) (items := [.op 0, .op 1, .op 2, .op 3, .op 4, .op 5, .op 6]) rfl zz0 zz0 zz0 ?_
    refine .rx ?_
    refine .rx ?_
    refine .rx ?_
    refine .rx ?_
    refine .rx ?_
    refine .wp rfl rfl rfl rfl rfl Tryz.call173 ((by have h := p173 s l[k] (by omega); rw [parR_some hg] at h; exact h)) ?_
    refine .rx ?_
    refine .done (.seq (.seq ?_))
    refine .regionL [0,1,2,3,4,5,6,7,8] rfl zz0 ?_
    refine .rn [0,1,2] [3,4,5,6,7,8] ?_
    refine .split (t := 34) rfl (fun c34 => ?_) (fun c34 => ?_)
    ·try rw [c34]
     try simp at c34
    ·try rw [c34]
     try simp at c34
     have hp := (getW_mem hg).1
     have hp1 := (hli p hp).1
     refine .rn [3,4,5,6,7,8] [] ?_
     refine .done (.condF rfl (.skip (.seq (.seq ?_))))
     refine .regionL [0,1,2,3,4,5,6,7] rfl zz0 ?_
     refine .rn [0,1] [2,3,4,5,6,7] ?_
     refine .pc rfl rfl rfl rfl rfl Tryz.call101 (p101b s[k] p hw1 hw3 hw4 hp1) ?_
     refine .rn [3,4,5,6,7] [] ?_
     refine .done (.seq (.rn ?_))
     refine .condS rfl (fun c48 => ?_) (fun c48 => ?_)
     ·try simp at c48
      have hN : stepD s s[k] l[k] = none := by simp only [stepD, hg]; rw [if_neg c48]
      refine .seq (.rn ?_)
      refine .ret ⟨_, _, zz4,zz4, ?_⟩
      rw [desR_none c22 hkl hN]
     ·try simp at c48
      have hN : stepD s s[k] l[k] = some ((ariS s[k] p).length : Int) := by simp only [stepD, hg]; rw [if_pos c48]
      rw [hN] at hS hA
      simp only [Option.getD_some] at hS
      have har := ariS_len s[k] p
      have hW4 := hW3 ((ariS s[k] p).length : Int) (by omega) (by omega)
      refine .skip ?_
      refine .regionL [0,1,2,3,4,5,6] rfl zz0 ?_
      refine .rn [0,1,2] [3,4,5,6] ?_
      refine .pc rfl rfl rfl rfl rfl Tryz.call109 (p109 s[k] p hw1 hp1) ?_
      refine .rn [4,5,6] [] ?_
      refine .done (.rn ?_)
      refine ⟨k + 1, ⟨zz5, by rw [hA]; simpa using hal⟩, zz5,(.mk [] [] zz14 zz15 rfl rfl rfl)⟩
  ·try simp at c22
   have hk2 : k = s.length := by omega
   subst hk2
   refine .exit (.seq (.rn ?_))
   refine .ret ⟨_, _, zz4,zz4, ?_⟩
   have hall : (desL s l).all Option.isSome = true := by
    rw [List.take_of_length_le (by simp [desL]; omega)] at hal
    simpa using hal
   rw [desR, if_pos ⟨he, hall⟩]
def bestP (s : List Wit) : List Int := (chL s).map fun c => c.1.headD 0
def bestS (s : List Wit) (k : Nat) : Int := (((chL s).take k).map (·.2)).sum
theorem chL_ok {s : List Wit} (h : chE s = 0) : chL s = s.map (choF s) := by unfold chL; rw [if_pos h]
theorem chE_ok {s : List Wit} (h : chE s = 0) : checkS s = 0 ∧ ∀ c ∈ s, (choF s c).1 ≠ [] := by
 unfold chE at h
 split at h
 ·split at h
  ·cases h
  ·rename_i h1 h2; exact ⟨h1, fun c hc h3 => h2 ⟨c, hc, h3⟩⟩
 ·contradiction
theorem choF_bd {s : List Wit} {c : Wit} (h : (choF s c).1 ≠ []) : 0 ≤ (choF s c).2 ∧ (choF s c).2 ≤ (c.slips.length : Int) := by
 rcases choF_spec s c with ⟨_, h1⟩ | ⟨_, _, y, hy, h2⟩
 ·exact absurd h1 h
 ·rcases parS_mem.1 hy with ⟨rfl, _⟩ | ⟨p, _, _, _, h4⟩
  ·simp only at h2; omega
  ·have := ariS_len c p; omega
theorem chL_get {s : List Wit} (h : chE s = 0) {k : Nat} (hk : k < (chL s).length) : ∃ a r d, (chL s)[k] = (a :: r, d) ∧ 0 ≤ d ∧ d < 4294967296 := by
 obtain ⟨h1, h2⟩ := chE_ok h
 have aux : ∀ x ∈ chL s, ∃ c ∈ s, choF s c = x := fun x hx => by rw [chL_ok h] at hx; exact List.mem_map.1 hx
 obtain ⟨c, hc, he⟩ := aux _ (List.getElem_mem hk)
 have h3 := h2 c hc
 have h4 := choF_bd h3
 have h5 := (checkS_lens h1 c hc).1
 cases h6 : (choF s c).1 with
 | nil => exact absurd h6 h3
 | cons a r => exact ⟨a, r, (choF s c).2, by rw [← he, ← h6], h4.1, by omega⟩
theorem chL_len {s : List Wit} (h : chE s = 0) : (chL s).length = s.length := by rw [chL_ok h]; simp
theorem bestS_succ (s : List Wit) (k : Nat) (hk : k < (chL s).length) : bestS s (k + 1) = bestS s k + (chL s)[k].2 := by
 unfold bestS; rw [List.take_succ_eq_append_getElem hk, List.map_append, List.sum_append]; simp only [List.map_cons, List.map_nil, List.sum_cons, List.sum_nil]; omega
theorem bestS_bd {s : List Wit} (h : chE s = 0) : ∀ k, k ≤ (chL s).length → 0 ≤ bestS s k ∧ bestS s k ≤ (k : Int) * 4294967296
 | 0, _ => by simp [bestS]
 | k + 1, hk => by
  have h1 := bestS_bd h k (by omega)
  obtain ⟨a, r, d, he, h2, h3⟩ := chL_get h (show k < (chL s).length by omega)
  rw [bestS_succ s k (by omega), he]
  constructor
  ·omega
  ·push_cast; omega
theorem p63 (s : List Wit) (hl : s.length < 65536) : VPure Tryz.prog 63 [encS s] fun r => Soft r (.tup [.agg [ints (bestP s), .int .i64 (bestS s (chL s).length)], .int .i64 (chE s)]) := by
 refine .of_body Tryz.func63 rfl rfl ?_
 refine .seq (.rn ?_)
 refine .seq ?_
 refine .regionL [0,1,2,3,4,5,6] rfl zz0 ?_
 refine .rn [0] [1,2,3,4,5,6] ?_
 refine .pc rfl rfl rfl rfl rfl Tryz.call108 (p108' s (by omega)) ?_
 refine .rn [2,3,4,5,6] [] ?_
 refine .done (.seq (.seq (.rn ?_)))
 refine .condS rfl (fun c15 => ?_) (fun c15 => ?_)
 ·try simp at c15
  refine .seq (.rn ?_)
  refine .ret ⟨_, _, zz4,zz4, ?_⟩
  have e2 : chL s = [] := by unfold chL; rw [if_neg c15]
  have e3 : bestP s = [] := by unfold bestP; rw [e2]; rfl
  have e4 : bestS s (chL s).length = 0 := by unfold bestS; rw [e2]; rfl
  rw [e3, e4]
  exact soft_tup (AltL.cons (.agg' (.cons .sl0v (.cons (.same _ rfl) .nil))) (AltL.cons (.same _ rfl) AltL.nil))
 ·try simp at c15
  refine .skip (.seq (.rn ?_))
  refine .seq (.seq (.rn ?_))
  refine .block ?_
  refine .loopS (fun k : Nat => ([(2, .ptr 1 0),(6, .ptr 2 0),(18, .vec ((chL s).map encC)),(19, .int .i64 (chL s).length),(20, .int .i64 k)], ⟨4,[(3, .grow 1 (((bestP s).take k).map (.int .i64))),(2, .box [.grow 3 k true, .int .i64 (bestS s k)]),(1, .box [.sl0, .int .i64 0]),(0, .box [.vec (s.map encW)])]⟩)) (fun k => k ≤ (chL s).length) (fun k => (chL s).length - k) 0 (by simp) (.mk [] [] zz14 zz15 rfl rfl rfl) ?_
  rintro k hk
  simp only at hk ⊢
  refine .seq (.rn ?_)
  refine .seq ?_
  refine .condS rfl (fun c21 => ?_) (fun c21 => ?_)
  ·try simp at c21
   have hcl : (chL s).length < 65536 := by have := chL_len c15; omega
   have hw2 := wr1 k
   obtain ⟨a, r, d, hc, hd1, hd2⟩ := chL_get c15 c21
   have hE : encC (a :: r, d) = .agg [ints (a :: r), .int .i64 d] := rfl
   have hS := bestS_succ s k c21
   rw [hc] at hS
   simp only at hS
   have hbd := bestS_bd c15 k hk
   have hW4 : IntKind.i64.wrap (bestS s k + d) = bestS s k + d := wrap64 (by omega) (by omega)
   have hT : (bestP s).take (k + 1) = (bestP s).take k ++ [a] := by
    have h1 : k < (bestP s).length := by simpa [bestP] using c21
    rw [List.take_succ_eq_append_getElem h1]; simp [bestP, hc]
   have hln : min k (bestP s).length = k := by simp [bestP]; omega
   have hT2 : List.take (k + 1) (List.map (PV.int .i64) (bestP s)) = List.take k (List.map (PV.int .i64) (bestP s)) ++ [.int .i64 a] := by rw [← List.map_take, hT]; simp
   have hb : k + 1 ≤ 4294967296 := by omega
   refine .skip (.seq (.block (.seq (.rn ?_))))
   refine .seq ?_
   refine .drawn (ms := [0,1,0,4,12,28,60,127,255,511]) (W := [6,7,9]) (items := [.op 0, .op 1, .op 2, .op 3, .op 4, .op 5, .op 6, .ck 1, .op 7, .op 8, .op 9]) rfl zz0 zz0 zz0 ?_
   refine .rx ?_
   refine .rx ?_
   refine .rx ?_
   refine .rx ?_
   refine .rx ?_
   refine .rx ?_
   refine .wv ?_
   refine .ck rfl zz0 ?_
   refine .wv ?_
   refine .rx ?_
   refine .wv ?_
   refine .done (.rn ?_)
   refine .rn ?_
   refine ⟨k + 1, c21,zz5,(.mk [] [(3,6)] zz14 zz15 rfl rfl rfl)⟩
  ·try simp at c21
   have : k = (chL s).length := by omega
   subst this
   have hbl : (bestP s).length = (chL s).length := by simp [bestP]
   refine .exit (.seq (.rn ?_))
   refine .ret ?_
   refine ⟨_, _, zz4,(by simp [hbl] <;> rfl), ?_⟩
   have e3 : List.take (chL s).length (List.map (PV.int .i64) (bestP s)) = List.map (PV.int .i64) (bestP s) := List.take_of_length_le (by simp [hbl])
   rw [c15]
   show Soft _ _
   rw [e3]
   exact soft_rfl rfl
end Go.Am.Ds
end
section
namespace Go.Am.Ds
open Go Go.Am Go.Proofs
attribute [local simp] vrun vwanted vyielded vop veval vevals vparts vO vbuiltin vlen vappend velems vcopy vmakeSlice vbuildSlice valloc vbox vmakeMap vload vpartT vpart vstore vfieldAddr vfield vindexAddr vindex vextract vslice vsliceZ vbounds vbnd zeroO vidx vlookup vmget vmapUpdate vdelete vnilq vnilp vnils vbin vsc vsc1 vscs vscl abinOp aint ashift aunOp aconvert amaxs amax2 pvcV pvc pvcs tput tget vargs VHeap.get VHeap.alloc VHeap.put VHeap.drop VHeap.empty vlook vput vdrop psplice pfill preps chunk List.range List.range.loop vresults vresult vresultV frz frzL PV.isF PV.allF PV.scal PV.allS retP subT allFT PV.one PV.ids PV.idsL dropL beq_eq ble_dec blt_dec
theorem p63' (s : List Wit) (hl : s.length < 65536) : VPure Tryz.prog 63 [encS s] fun r => r = .tup [.agg [ints (bestP s), .int .i64 (bestS s (chL s).length)], .int .i64 (chE s)] := VPure.soft (p63 s hl) rfl
def orpW (s : List Wit) (c : Wit) : Bool := (parS s c).isEmpty
theorem orpW_head {s : List Wit} {c : Wit} (h : lastS c 0 = 0) : orpW s c = false := by unfold orpW parS headP; rw [if_pos h]; rfl
theorem orpW_step {s : List Wit} {c : Wit} {k : Nat} (hk : k < (idsS s).length) (h : (stepP s c (idsS s)[k]).isSome = true) : orpW s c = false := by
 unfold orpW
 cases hp : parS s c with
 | nil =>
  unfold parS at hp
  have h1 := (List.append_eq_nil_iff.1 hp).2
  rw [List.filterMap_eq_nil_iff] at h1
  rw [h1 _ (List.getElem_mem hk)] at h; cases h
 | cons a r => rfl
theorem orpW_all {s : List Wit} {c : Wit} (h : lastS c 0 ≠ 0) (h2 : ∀ k, ∀ hk : k < (idsS s).length, stepP s c (idsS s)[k] = none) : orpW s c = true := by
 unfold orpW parS headP
 rw [if_neg h, List.nil_append, List.isEmpty_iff, List.filterMap_eq_nil_iff]
 intro a ha
 obtain ⟨k, hk, rfl⟩ := List.getElem_of_mem ha
 exact h2 k hk
theorem p141 (s : List Wit) (id : Int) (i : Nat) (hi : i < s.length) (hie : findI s id = (i : Int)) (hl : s.length < 4294967296) (hck : ∀ w ∈ s, w.slips.length < 4294967296 ∧ w.mended.length < 4294967296 ∧ w.models.length < 4294967296) : VPure Tryz.prog 141 [.int .i64 id, .vp (encS s).cells] fun r => r = .bool (!(orpW s s[i])) := by
 obtain ⟨hw1, hw2, hw3⟩ := hck s[i] (List.getElem_mem hi)
 have hE := encW_e s[i]
 refine .of_body Tryz.func141 rfl rfl ?_
 refine .seq (.rn ?_)
 refine .seq (.seq ?_)
 refine .drawn (ms := [0,0,2,0,0,24,62,126,255]) (W := [5,8]) (items := [.op 0, .op 1, .op 2, .op 3, .op 4, .op 5, .ck 2, .ck 0, .op 6, .op 7, .op 8]) rfl zz0 zz0 zz0 ?_
 refine .rx ?_
 refine .rx ?_
 refine .rx ?_
 refine .rx ?_
 refine .rx ?_
 refine .wp rfl rfl rfl rfl rfl Tryz.call105 (p105' s id hl) ?_
 refine .ck rfl zz0 ?_
 refine .ck rfl zz0 ?_
 refine .rx ?_
 refine .rx ?_
 refine .wp rfl rfl rfl rfl rfl Tryz.call106 (p106 s s[i]) ?_
 refine .done (.block ?_)
 refine .rangeFunc rfl Tryz.call166 Tryz.func166 rfl rfl rfl ?_
 refine .seq (.seq ?_)
 refine .regionL [0,1,2,3,4,5,6] rfl zz0 ?_
 refine .rn [0] [1,2,3,4,5,6] ?_
 refine .pc rfl rfl rfl rfl rfl Tryz.call101 (p101a s[i] hw3) ?_
 refine .rn [2,3,4,5,6] [] ?_
 refine .done (.seq ?_)
 refine .regionL [0,1,2,3,4,5,6,7,8,9] rfl zz0 ?_
 refine .rn [0,1,2] [3,4,5,6,7,8,9] ?_
 refine .split (t := 18) rfl (fun c18 => ?_) (fun c18 => ?_)
 ·try rw [c18]
  try simp at c18
  refine .rn [3,4,5,6] [7,8,9] ?_
  refine .step rfl rfl (.yield rfl rfl rfl rfl rfl (by decide) rfl ?_)
  refine .skip (.block (.seq (.rn ?_)))
  refine .ret ?_
  change VOps _ _ _ _ _ _ _ _
  refine .rn [8,9] [] ?_
  refine .done (.condT rfl (.ret ?_))
  change rfEnd _ _ _ _
  refine rf_ret rfl ?_
  refine ⟨_, _, zz4,zz4, ?_⟩
  rw [orpW_head c18]; rfl
 ·try rw [c18]
  try simp at c18
  refine .rn [3,4,5,6,7,8,9] [] ?_
  refine .done (.condF rfl (.skip (.seq ?_)))
  refine .regionL [0,1,2,3] rfl zz0 ?_
  refine .rn [0] [1,2,3] ?_
  refine .pc rfl rfl rfl rfl rfl Tryz.call99 (p99' s hl) ?_
  refine .rn [2,3] [] ?_
  refine .done (.block ?_)
  refine .loopS (fun k : Nat => ([(0, .yld 1),(1, .vp (encW s[i]).cells),(2, .vp (encS s).cells),(27, ints (idsS s)),(28, .int .i64 (idsS s).length),(29, .int .i64 k)], ⟨2,[(1, .loop _ #[13,14] _ _ [(3, .ptr 0 0)] none),(0, .box [.bool false])]⟩)) (fun k => k ≤ (idsS s).length ∧ ∀ j, ∀ hj : j < (idsS s).length, j < k → stepP s s[i] (idsS s)[j] = none) (fun k => (idsS s).length - k) 0 (by simp) (.mk [] [] zz14 zz15 rfl rfl rfl) ?_
  rintro k ⟨hk, hno⟩
  simp only at hk hno ⊢
  refine .seq (.rn ?_)
  refine .seq ?_
  refine .condS rfl (fun c30 => ?_) (fun c30 => ?_)
  ·try simp at c30
   have hw2' : IntKind.i64.wrap ((k : Int) + 1) = (k : Int) + 1 := by have := idsS_len s; exact wrap64 (by omega) (by omega)
   have hmem := find_ids (List.getElem_mem c30)
   obtain ⟨j, hj, hje, hgb⟩ := getW_some hmem
   obtain ⟨hv1, hv2, hv3⟩ := hck s[j] (List.getElem_mem hj)
   have hE2 := encW_e s[j]
   refine .skip (.seq (.block (.seq (.rn ?_))))
   refine .seq ?_
   refine .drawnF (ms := [0,1,0,0,12,31,63,0,255]) (W := [4,8]) (As := [7]) (items := [.op 0, .op 1, .op 2, .op 3, .op 7, .op 4, .ck 1, .op 5, .op 6, .op 8]) rfl zz0 zz0 zz0 zz0 (by decide) ?_
   refine .rf ?_
   refine .rf ?_
   refine .rf ?_
   refine .rf ?_
   refine .al rfl rfl (by decide) (by decide) (by decide) (by decide) zz1 ?_
   refine .wr rfl rfl (by decide) (.pure rfl rfl rfl Tryz.call105 (by decide) (p105' s _ hl) (by first | rfl | simp [*]) ?_)
   rintro _ rfl
   refine .ck rfl zz0 ?_
   refine .rf ?_
   refine .rf ?_
   refine .wr rfl rfl (by decide) (.vop zz1 (by decide) ?_)
   refine .done (.seq (.seq ?_))
   refine .regionL [0,1,2,3,4,5,6] rfl zz0 ?_
   refine .rn [0] [1,2,3,4,5,6] ?_
   refine .step rfl rfl (.borrow rfl rfl rfl Tryz.call101 (by decide) (by first | (simp <;> rfl) | (simp [*] <;> rfl) | (simp [*]; done)) (p101b s[i] s[j] hw1 hw2 hw3 hv1) (by rintro _ rfl <;> first | (simp; done) | rfl) ?_)
   rintro _ rfl
   refine .rn [2,3,4,5,6] [] ?_
   refine .done (.seq (.rn ?_))
   refine .condS rfl (fun c46 => ?_) (fun c46 => ?_)
   ·try simp at c46
    have hN : stepP s s[i] (idsS s)[k] = none := by rw [stepP, hgb]; simp [c46]
    refine .exit (.rn ?_)
    refine ⟨k + 1, ⟨c30, fun j' hj' h => ?_⟩, zz5,(.mk [] [] zz14 zz15 rfl rfl rfl)⟩
    rcases Nat.lt_succ_iff_lt_or_eq.1 h with h | h
    ·exact hno j' hj' h
    ·subst h; exact hN
   ·try simp at c46
    have hN : (stepP s s[i] (idsS s)[k]).isSome = true := by rw [stepP, hgb]; simp [c46]
    refine .skip (.seq ?_)
    refine .regionL [0,1,2,3,4,5,6] rfl zz0 ?_
    refine .rn [0,1,2] [3,4,5,6] ?_
    refine .step rfl rfl (.take rfl rfl rfl Tryz.call109 (by decide) (by first | (simp <;> rfl) | (simp [*] <;> rfl) | (simp [*]; done)) (p109 s[i] s[j] hw1 hv1) ?_)
    rintro _ rfl
    refine .rn [4] [5,6] ?_
    refine .step rfl rfl (.yield rfl rfl rfl rfl rfl (by decide) rfl ?_)
    refine .skip (.block (.seq (.rn ?_)))
    refine .ret ?_
    change VOps _ _ _ _ _ _ _ _
    refine .rn [6] [] ?_
    refine .done (.condT rfl (.ret ?_))
    change rfEnd _ _ _ _
    refine rf_ret rfl ?_
    refine ⟨_, _, zz4,zz4, ?_⟩
    rw [orpW_step c30 hN]; rfl
  ·try simp at c30
   have hkn : k = (idsS s).length := by omega
   refine .exit ?_
   change rfEnd _ _ _ _
   refine rf_none rfl ?_
   refine .seq (.rn ?_)
   refine .ret ⟨_, _, zz4,zz4, ?_⟩
   rw [orpW_all c18 (fun j' hj' => hno j' hj' (by omega))]; rfl
theorem p99g (s : List Wit) (hl : s.length < 4294967296) (hne : 0 < s.length) : VCall Tryz.prog 99 [encS s] VHeap.empty fun v vh' => ∃ i nl, v = .grow i (idsS s).length nl ∧ vh'.get i = some (.grow 1 ((idsS s).map (.int .i64))) := by
 refine .of_body Tryz.func99 rfl rfl ?_
 refine .seq (.rn ?_)
 refine .seq (.rn ?_)
 refine .seq (.seq (.rn ?_))
 refine .block ?_
 refine .loopS (fun i : Nat => ([(3, .grow 1 i true),(7, .vec (s.map encW)),(8, .int .i64 s.length),(9, .int .i64 i)], ⟨2,[(1, .grow 1 (((s.take i).map Wit.id).map (.int .i64)))]⟩)) (fun i => i ≤ s.length) (fun i => s.length - i) 0 (by simp) (.mk [] [] zz14 zz15 rfl rfl rfl) ?_
 rintro i hi
 simp only at hi ⊢
 refine .seq (.rn ?_)
 refine .seq ?_
 refine .condS rfl (fun c10 => ?_) (fun c10 => ?_)
 ·try simp at c10
  have hw2 := wr1 i
  have hT := take_succ_map Wit.id s i c10
  have hb : i + 1 ≤ 4294967296 := by omega
  have hE := encW_e s[i]
  refine .skip (.seq (.block (.seq (.rn ?_))))
  refine .rn ?_
  refine .rn ?_
  refine ⟨i + 1,zz5,zz5,(.mk [] [(1,4)] zz14 zz15 rfl rfl rfl)⟩
 ·try simp at c10
  have : i = s.length := by omega
  subst this
  have hil := idsS_len s
  refine .exit (.seq ?_)
  refine .regionL [0,1] rfl zz0 ?_
  refine .rn [0] [1] ?_
  refine .step rfl rfl (.call rfl rfl rfl Tryz.call159 (by decide) (((VCall.sortGrow (zs := s.map Wit.id) lsort (by simp [List.take_of_length_le]) (by simp))).mono ?_))
  rintro _ _ ⟨rfl, rfl⟩
  refine .done (.seq (.rn ?_))
  refine .ret ?_
  exact ⟨_, zz4,1, true, (by rw [hil]; rfl), by simp [idsS]⟩
def orpI (s : List Wit) (id : Int) : Bool := match getW s id with
 | some c => orpW s c
 | none => false
def orpL (s : List Wit) : List Int := if checkS s = 0 then (idsS s).filter (orpI s) else []
theorem orp_call {s : List Wit} (hl : s.length < 4294967296) (h : checkS s = 0) : ∀ a ∈ idsS s, VPure Tryz.prog 141 ([] ++ [.int .i64 a] ++ [.vp (encS s).cells]) fun r => r = .bool (!(orpI s a)) := by
 intro a ha
 obtain ⟨j, hj, hje, hg⟩ := getW_some (find_ids ha)
 have := p141 s a j hj hje hl (checkS_lens h)
 rw [orpI, hg]; exact this
theorem p69a (s : List Wit) (hl : s.length < 4294967296) (hne : 0 < s.length) : VPure Tryz.prog 69 [encS s] fun r => Soft r (.tup [ints (orpL s), .int .i64 (checkS s)]) := by
 have hl2 : (idsS s).length < 4294967296 := by have := idsS_len s; omega
 have hne2 : 0 < (idsS s).length := by have := idsS_len s; omega
 refine .of_body Tryz.func69 rfl rfl ?_
 refine .seq (.rn ?_)
 refine .seq (.seq ?_)
 refine .regionL [0,1,2] rfl zz0 ?_
 refine .rn [0] [1,2] ?_
 refine .pc rfl rfl rfl rfl rfl Tryz.call35 (p35 s hl) ?_
 refine .rn [2] [] ?_
 refine .done (.seq (.rn ?_))
 refine .condS rfl (fun c8 => ?_) (fun c8 => ?_)
 ·try simp at c8
  refine .seq (.rn ?_)
  refine .ret ⟨_, _, zz4,zz4, ?_⟩
  have e1 : orpL s = [] := by unfold orpL; rw [if_neg c8]
  rw [e1]
  exact soft_tup (AltL.cons .sl0v (AltL.cons (.same _ rfl) AltL.nil))
 ·try simp at c8
  refine .rec (vts2 := [(1, .vp (encS s).cells)]) (vh2 := ⟨1,[]⟩) (.mk [0] [] (by repeat' (first | exact trivial | refine And.intro (Exists.intro _ (And.intro rfl ?_)) ?_ | exact Alt.fptr 0 0 _ rfl rfl rfl (Nat.zero_le _))) zz15 rfl rfl rfl) ?_
  refine .skip (.seq ?_)
  refine .regionL [0,1,2,3,4,5] rfl zz0 ?_
  refine .rn [0] [1,2,3,4,5] ?_
  refine .step rfl rfl (.call rfl rfl rfl Tryz.call99 (by decide) (((VCall.fresh' (by simp) (p99g s hl hne) rfl hne2)).mono ?_))
  rintro _ _ ⟨rfl, rfl⟩
  refine .rn [2] [3,4,5] ?_
  refine .step rfl rfl (.call rfl rfl rfl Tryz.call134 (by decide) (((give134 (idsS s) (fun a => !(orpI s a)) 141 [] [.vp (encS s).cells] hl2 hne2 rfl rfl Tryz.call141 (orp_call hl c8) 1 false rfl)).mono ?_))
  rintro _ _ ⟨rfl, rfl⟩
  refine .rn [4,5] [] ?_
  refine .done (.ret ⟨_, _, zz4,zz4, ?_⟩)
  have e1 : orpL s = (idsS s).filter fun a => orpI s a := by unfold orpL; rw [if_pos c8]
  rw [e1, c8]
  show Soft _ _
  exact soft_rfl rfl
theorem orpL_len (s : List Wit) : (orpL s).length ≤ s.length := by
 unfold orpL
 split
 ·exact Nat.le_trans (List.length_filter_le _ _) (by rw [idsS_len]; exact Nat.le_refl _)
 ·exact Nat.zero_le _
theorem p69n (s : List Wit) (hl : s.length < 4294967296) (hne : 0 < s.length) : VPure Tryz.prog 69 [encS s] fun r => r = .tup [ints (orpL s), .int .i64 (checkS s)] := VPure.soft (p69a s hl hne) rfl
theorem p69e (hl : ([] : List Wit).length < 4294967296) : VPure Tryz.prog 69 [encS []] fun r => Soft r (.tup [ints (orpL []), .int .i64 (checkS [])]) := by
 refine .of_body Tryz.func69 rfl rfl ?_
 refine .seq (.rn ?_)
 refine .seq (.seq ?_)
 refine .regionL [0,1,2] rfl zz0 ?_
 refine .rn [0] [1,2] ?_
 refine .pc rfl rfl rfl rfl rfl Tryz.call35 (p35 [] hl) ?_
 refine .rn [2] [] ?_
 refine .done (.seq (.rn ?_))
 refine .condS rfl (fun c8 => ?_) (fun c8 => ?_)
 ·try simp at c8
  refine .seq (.rn ?_)
  refine .ret ⟨_, _, zz4,zz4, ?_⟩
  have e1 : orpL [] = [] := by unfold orpL; rw [if_neg c8]
  rw [e1]
  exact soft_tup (AltL.cons .sl0v (AltL.cons (.same _ rfl) AltL.nil))
 ·try simp at c8
  refine .rec (vts2 := [(1, .vp (encS []).cells)]) (vh2 := ⟨1,[]⟩) (.mk [0] [] (by repeat' (first | exact trivial | refine And.intro (Exists.intro _ (And.intro rfl ?_)) ?_ | exact Alt.fptr 0 0 _ rfl rfl rfl (Nat.zero_le _))) zz15 rfl rfl rfl) ?_
  refine .skip (.seq ?_)
  refine .regionL [0,1,2,3,4,5] rfl zz0 ?_
  refine .rn [0] [1,2,3,4,5] ?_
  refine .pc rfl rfl rfl rfl rfl Tryz.call99 ((by have h := p99' [] hl; rw [show idsS [] = [] by simp [idsS]] at h; exact h)) ?_
  refine .rn [2] [3,4,5] ?_
  refine .pc rfl rfl rfl rfl rfl Tryz.call134 (p134e 141 [] [.vp (encS []).cells] rfl rfl Tryz.call141) ?_
  refine .rn [4,5] [] ?_
  refine .done (.ret ⟨_, _, zz4,zz4, ?_⟩)
  have e1 : orpL [] = [] := by unfold orpL; rw [if_pos c8]; simp [idsS]
  rw [e1, c8]
  show Soft _ _
  exact soft_rfl rfl
theorem p69 (s : List Wit) (hl : s.length < 4294967296) : VPure Tryz.prog 69 [encS s] fun r => r = .tup [ints (orpL s), .int .i64 (checkS s)] := by
 cases s with
 | nil => exact VPure.soft (p69e hl) rfl
 | cons a r => exact p69n (a :: r) hl (by simp)
end Go.Am.Ds
end
section
namespace Go.Am.Ds
open Go Go.Am Go.Proofs
theorem stepD_par {s : List Wit} (h : checkS s = 0) {c : Wit} {b d : Int} (hb : (b, d) ∈ parS s c) : stepD s c b = some d := by
 rcases parS_mem.1 hb with ⟨he, h1⟩ | ⟨p, _, h2, h3, h4⟩
 ·injection he with e1 e2
  subst e1; subst e2
  have hg : getW s 0 = none := by
   cases hg : getW s 0 with
   | none => rfl
   | some p =>
    obtain ⟨hp, h0⟩ := getW_mem hg
    have := checkS_pos h p hp
    omega
  simp only [stepD, hg]
  rw [if_pos ⟨trivial, h1⟩]
 ·simp only at h2 h4
  simp only [stepD, h2]
  rw [if_pos h3, h4]
theorem getW_own : ∀ {s : List Wit},(s.map Wit.id).Nodup → ∀ {w : Wit}, w ∈ s → getW s w.id = some w
 | a :: r, hn, w, hw => by
  rw [List.map_cons, List.nodup_cons] at hn
  unfold getW
  rw [List.find?_cons]
  rcases List.mem_cons.1 hw with rfl | hw
  ·simp
  ·have : a.id ≠ w.id := fun h => hn.1 (h ▸ List.mem_map_of_mem hw)
   rw [show decide (a.id = w.id) = false from decide_eq_false this]
   exact getW_own hn.2 hw
theorem orpI_own {s : List Wit} (h : checkS s = 0) {w : Wit} (hw : w ∈ s) : orpI s w.id = orpW s w := by
 unfold orpI; rw [getW_own (checkS_nodup h) hw]
end Go.Am.Ds
end
section
namespace Go.Am.Ds
open Go Go.Am Go.Proofs
attribute [local simp] vrun vwanted vyielded vop vopA vputAll VHeap.back hidI hidF backL bm Nat.testBit_eq_decide_div_mod_eq veval vevals vparts vO vbuiltin vlen vappend velems vcopy vmakeSlice vbuildSlice valloc vbox vmakeMap vload vpartT vpart vstore vfieldAddr vfield vindexAddr vindex vextract vslice vsliceZ vbounds vbnd zeroO vidx vlookup vmget vmapUpdate vdelete vclear vnilq vnilp vnils vbin vsc vsc1 vscs vscl abinOp aint ashift aunOp aconvert amaxs amax2 pvcV pvc pvcs tput tget vargs VHeap.get VHeap.alloc VHeap.put VHeap.drop VHeap.empty vlook vput vdrop psplice pfill preps chunk List.range List.range.loop vresults vresult vresultV frz frzL PV.isF PV.allF PV.scal PV.allS retP subT allFT PV.one PV.ids PV.idsL dropL beq_eq ble_dec blt_dec
def encK (x : Int × Int) : PV := .agg [.int .i64 x.1, .int .i64 x.2]
@[simp] theorem allSz_encK (l : List (Int × Int)) : allSz 2 (l.map encK) = true := allSz_map (f := encK) (n := 2) (fun _ => rfl) l
@[simp] theorem allOne_encK (l : List (Int × Int)) : allOne (l.map encK) = true := allOne_map (f := encK) (fun _ => rfl) l
def cI (s : List Wit) (id : Int) : List Int := match getW s id with
 | some c => (choF s c).1
 | none => []
def kinI (may : Nat → Bool) (s : List Wit) (id : Int) : List (Int × Int) := if may (cI s id).length = true then (cI s id).map fun b => (id, b) else []
def kinP (may : Nat → Bool) (s : List Wit) (k : Nat) : List (Int × Int) := ((idsS s).take k).flatMap (kinI may s)
def kinQ (may : Nat → Bool) (s : List Wit) (id : Int) (j : Nat) : List (Int × Int) := if may (cI s id).length = true then ((cI s id).take j).map fun b => (id, b) else []
def kinT (may : Nat → Bool) (s : List Wit) : List (Int × Int) := if chE s = 0 then (idsS s).flatMap (kinI may s) else []
theorem kinP_succ (may : Nat → Bool) (s : List Wit) (k : Nat) (h : k < (idsS s).length) : kinP may s (k + 1) = kinP may s k ++ kinI may s (idsS s)[k] := by
 unfold kinP; rw [List.take_succ_eq_append_getElem h, List.flatMap_append]; simp
theorem kinQ_all (may : Nat → Bool) (s : List Wit) (id : Int) : kinQ may s id (cI s id).length = kinI may s id := by unfold kinQ kinI; rw [List.take_length]
theorem kinQ_zero (may : Nat → Bool) (s : List Wit) (id : Int) : kinQ may s id 0 = [] := by unfold kinQ; split <;> rfl
theorem kinQ_len (may : Nat → Bool) (s : List Wit) (id : Int) (j : Nat) : (kinQ may s id j).length ≤ j := by
 unfold kinQ; split
 ·rw [List.length_map, List.length_take]; omega
 ·simp
theorem cI_len (s : List Wit) (id : Int) : (cI s id).length ≤ s.length + 1 := by
 unfold cI
 cases getW s id with
 | none => simp
 | some c =>
  simp only
  rw [← chP_all]
  have := chP_len s c (idsS s).length
  have := idsS_len s
  omega
theorem kinI_len (may : Nat → Bool) (s : List Wit) (id : Int) : (kinI may s id).length ≤ s.length + 1 := by
 have := cI_len s id
 unfold kinI; split
 ·rw [List.length_map]; exact this
 ·simp
theorem kinP_len (may : Nat → Bool) (s : List Wit) : ∀ k, k ≤ (idsS s).length → (kinP may s k).length ≤ k * (s.length + 1)
 | 0, _ => by simp [kinP]
 | k + 1, h => by
  have h1 := kinP_len may s k (by omega)
  have h2 := kinI_len may s (idsS s)[k]
  rw [kinP_succ may s k (by omega), List.length_append, Nat.succ_mul]
  omega
theorem chL_at {s : List Wit} (h : chE s = 0) {id : Int} {j : Nat} (hj : j < s.length) (hg : getW s id = some s[j]) : ∃ h2 : j < (chL s).length, (chL s)[j] = (cI s id, (choF s s[j]).2) := by
 refine ⟨by rw [chL_len h]; exact hj, ?_⟩
 have aux : ∀ (l : List (List Int × Int)) (e : l = s.map (choF s)) (hl : j < l.length), l[j] = choF s s[j] := by rintro _ rfl _; simp
 rw [aux _ (chL_ok h)]
 unfold cI; rw [hg]
theorem p122 (s : List Wit) (may : Nat → Bool) (f : FuncId) (hl : s.length < 65536) (hcf : ∀ cs w, (callFunc f cs).run Tryz.prog w = .ok (.enter f cs) w) (hp : ∀ n : Nat, n < 65538 → VPure Tryz.prog f ([] ++ [.int .i64 n] ++ []) fun r => r = .bool (may n)) : VPure Tryz.prog 122 [encS s, .func f [] []] fun r => Soft r (.tup [.vec ((kinT may s).map encK), .int .i64 (chE s)]) := by
 refine .of_body Tryz.func122 rfl rfl ?_
 refine .seq (.rn ?_)
 refine .seq ?_
 refine .regionL [0,1,2,3,4,5,6] rfl zz0 ?_
 refine .rn [0] [1,2,3,4,5,6] ?_
 refine .pc rfl rfl rfl rfl rfl Tryz.call108 (p108' s (by omega)) ?_
 refine .rn [2,3,4,5,6] [] ?_
 refine .done (.seq (.seq (.rn ?_)))
 refine .condS rfl (fun c20 => ?_) (fun c20 => ?_)
 ·try simp at c20
  refine .seq (.rn ?_)
  refine .ret ⟨_, _, zz4,zz4, ?_⟩
  have e1 : kinT may s = [] := by unfold kinT; rw [if_neg c20]
  rw [e1]
  exact soft_tup (AltL.cons .sl0v (AltL.cons (.same _ rfl) AltL.nil))
 ·try simp at c20
  have h24 := (checkS_ok (chE_ok c20).1).1
  refine .skip (.seq (.rn ?_))
  refine .seq (.seq ?_)
  refine .regionL [0,1,2,3] rfl zz0 ?_
  refine .rn [0] [1,2,3] ?_
  refine .pc rfl rfl rfl rfl rfl Tryz.call99 (p99' s (by omega)) ?_
  refine .rn [2,3] [] ?_
  refine .done (.block ?_)
  refine .loopS (fun k : Nat => ([(1, .func f [] []),(2, .ptr 0 0),(6, .vec ((chL s).map encC)),(8, .grow 1 (kinP may s k).length true),(23, ints (idsS s)),(24, .int .i64 (idsS s).length),(25, .int .i64 k)], ⟨2,[(1, .grow 2 ((kinP may s k).map encK)),(0, .box [.vec (s.map encW)])]⟩)) (fun k => k ≤ (idsS s).length) (fun k => (idsS s).length - k) 0 (by simp) (.mk [] [] zz14 zz15 rfl rfl rfl) ?_
  rintro k hk
  simp only at hk ⊢
  refine .seq (.rn ?_)
  refine .seq ?_
  refine .condS rfl (fun c26 => ?_) (fun c26 => ?_)
  ·try simp at c26
   have hk24 : k < 24 := by have := idsS_len s; omega
   have hw2 := wr1 k
   obtain ⟨j, hj, hje, hgb⟩ := getW_some (find_ids (List.getElem_mem c26))
   obtain ⟨hj2, hcj⟩ := chL_at c20 hj hgb
   have hE : encC (cI s (idsS s)[k],(choF s s[j]).2) = .agg [ints (cI s (idsS s)[k]), .int .i64 (choF s s[j]).2] := rfl
   have hpl := kinP_len may s k hk
   have hcl := cI_len s (idsS s)[k]
   have hS := kinP_succ may s k c26
   have hQ0 := kinQ_zero may s (idsS s)[k]
   have hkm : k * (s.length + 1) ≤ 24 * 25 := Nat.mul_le_mul (by omega) (by omega)
   refine .skip (.seq (.block (.seq (.rn ?_))))
   refine .seq ?_
   refine .regionL [0,1,2,3,4,5,6,7] rfl zz0 ?_
   refine .rn [0,1,2] [3,4,5,6,7] ?_
   refine .pc rfl rfl rfl rfl rfl Tryz.call105 (p105' s _ (by omega)) ?_
   refine .rn [4,5,6,7] [] ?_
   refine .done (.seq (.rn ?_))
   refine .block ?_
   refine .loopS (fun q : Nat => ([(1, .func f [] []),(2, .ptr 0 0),(6, .vec ((chL s).map encC)),(8, .grow 1 (kinP may s k ++ kinQ may s (idsS s)[k] q).length true),(10, .int .i64 (idsS s)[k]),(11, .ptr 2 0),(23, ints (idsS s)),(24, .int .i64 (idsS s).length),(25, .int .i64 k),(36, ints (cI s (idsS s)[k])),(37, .int .i64 (cI s (idsS s)[k]).length),(38, .int .i64 q)], ⟨3,[(2, .box [ints (cI s (idsS s)[k]), .int .i64 (choF s s[j]).2]),(1, .grow 2 ((kinP may s k ++ kinQ may s (idsS s)[k] q).map encK)),(0, .box [.vec (s.map encW)])]⟩)) (fun q => q ≤ (cI s (idsS s)[k]).length) (fun q => (cI s (idsS s)[k]).length - q) 0 (by simp) (.mk [] [] zz14 zz15 rfl rfl rfl) ?_
   rintro q hq
   simp only at hq ⊢
   have hql := kinQ_len may s (idsS s)[k] q
   refine .seq (.rn ?_)
   refine .seq ?_
   refine .condS rfl (fun c39 => ?_) (fun c39 => ?_)
   ·try simp at c39
    have hw3 := wr1 q
    have hb : (kinP may s k).length + (kinQ may s (idsS s)[k] q).length ≤ 4294967295 := by omega
    have hone : allOne [PV.agg [PV.int .i64 (idsS s)[k], PV.int .i64 (cI s (idsS s)[k])[q]]] = true := rfl
    have hpp := hp (cI s (idsS s)[k]).length (by omega)
    have hEk : encK ((idsS s)[k],(cI s (idsS s)[k])[q]) = .agg [.int .i64 (idsS s)[k], .int .i64 (cI s (idsS s)[k])[q]] := rfl
    refine .skip (.seq (.block (.seq (.rn ?_))))
    refine .seq ?_
    refine .regionL [0,1,2,3,4] rfl zz0 ?_
    refine .rn [0,1,2,3] [4] ?_
    refine .step rfl rfl (.pure rfl rfl rfl hcf (by decide) (hpp) (by first | rfl | simp [*]) ?_)
    rintro _ rfl
    refine .done ?_
    refine .condS rfl (fun c46 => ?_) (fun c46 => ?_)
    ·try simp at c46
     have hQ : kinQ may s (idsS s)[k] (q + 1) = kinQ may s (idsS s)[k] q ++ [((idsS s)[k],(cI s (idsS s)[k])[q])] := by
      unfold kinQ; rw [if_pos c46, if_pos c46, List.take_succ_eq_append_getElem c39, List.map_append]; rfl
     refine .rn ?_
     refine .rn ?_
     have hL : (kinP may s k).length + ((kinQ may s (idsS s)[k] q).length + 1) = (kinP may s k).length + (kinQ may s (idsS s)[k] q).length + 1 := by omega
     refine ⟨q + 1, c39,zz5,(.mk [] [(1,4)] zz14 zz15 rfl rfl rfl)⟩
    ·try simp at c46
     have hQ : kinQ may s (idsS s)[k] (q + 1) = kinQ may s (idsS s)[k] q := by
      unfold kinQ; rw [if_neg (by simp [c46]), if_neg (by simp [c46])]
     refine .skip (.rn ?_)
     refine ⟨q + 1, c39,zz5,(.mk [] [] zz14 zz15 rfl rfl rfl)⟩
   ·try simp at c39
    have : q = (cI s (idsS s)[k]).length := by omega
    subst this
    have hQ2 := kinQ_all may s (idsS s)[k]
    refine .exit (.rn ?_)
    refine ⟨k + 1, c26,zz5,(.mk [] [] zz14 zz15 rfl rfl rfl)⟩
  ·try simp at c26
   have : k = (idsS s).length := by omega
   subst this
   refine .exit (.seq (.rn ?_))
   refine .ret ⟨_, _, zz4,zz4, ?_⟩
   have e1 : kinT may s = kinP may s (idsS s).length := by unfold kinT kinP; rw [if_pos c20, List.take_length]
   rw [e1, c20]
   show Soft _ _
   exact soft_rfl rfl
theorem p123 (n : Nat) : VPure Tryz.prog 123 [.int .i64 n] fun r => r = .bool (decide (n = 1)) := by
 refine .of_body Tryz.func123 rfl rfl ?_
 refine .seq (.rn ?_)
 refine .seq (.rn ?_)
 refine .ret ⟨_, _, zz4,zz4, ?_⟩
 have h : (((n : Nat) : Int) == 1) = decide (n = 1) := by rw [Bool.eq_iff_iff]; simp <;> omega
 simp [h]
theorem p124 (n : Nat) : VPure Tryz.prog 124 [.int .i64 n] fun r => r = .bool true := by
 refine .of_body Tryz.func124 rfl rfl ?_
 refine .seq (.rn ?_)
 refine .seq (.rn ?_)
 refine .ret ⟨_, _, zz4,zz4, ?_⟩
 first | rfl | (simp [*]; done) | (simp_all; done)
theorem p42 (s : List Wit) (hl : s.length < 65536) : VPure Tryz.prog 42 [encS s] fun r => r = .tup [.vec ((kinT (fun n => decide (n = 1)) s).map encK), .int .i64 (chE s)] := by
 refine .of_body Tryz.func42 rfl rfl ?_
 refine .seq (.rn ?_)
 refine .seq ?_
 refine .regionL [0,1,2,3,4,5] rfl zz0 ?_
 refine .rn [0] [1,2,3,4,5] ?_
 refine .pc rfl rfl rfl rfl rfl Tryz.call122 ((VPure.soft (p122 s (fun n => decide (n = 1)) 123 hl Tryz.call123 (fun n _ => p123 n)) rfl)) ?_
 refine .rn [2,3,4,5] [] ?_
 refine .done (.ret ⟨_, _, zz4,zz4, ?_⟩)
 first | rfl | (simp [*]; done) | (simp_all; done)
theorem p43 (s : List Wit) (hl : s.length < 65536) : VPure Tryz.prog 43 [encS s] fun r => r = .tup [.vec ((kinT (fun _ => true) s).map encK), .int .i64 (chE s)] := by
 refine .of_body Tryz.func43 rfl rfl ?_
 refine .seq (.rn ?_)
 refine .seq ?_
 refine .regionL [0,1,2,3,4,5] rfl zz0 ?_
 refine .rn [0] [1,2,3,4,5] ?_
 refine .pc rfl rfl rfl rfl rfl Tryz.call122 ((VPure.soft (p122 s (fun _ => true) 124 hl Tryz.call124 (fun n _ => p124 n)) rfl)) ?_
 refine .rn [2,3,4,5] [] ?_
 refine .done (.ret ⟨_, _, zz4,zz4, ?_⟩)
 first | rfl | (simp [*]; done) | (simp_all; done)
end Go.Am.Ds
end
section
namespace Go.Am.Ds
open Go Go.Am Go.Proofs
theorem fold_all : ∀ (l d : List (Int × Int)) (x : List Int × Int),(∀ y ∈ d, x.1 ≠ [] ∧ x.2 ≤ y.2 ∧ (y.2 = x.2 → y.1 ∈ x.1)) → ∀ y ∈ d ++ l, (l.foldl stepC x).1 ≠ [] ∧ (l.foldl stepC x).2 ≤ y.2 ∧ (y.2 = (l.foldl stepC x).2 → y.1 ∈ (l.foldl stepC x).1)
 | [], d, x, h => by simpa using h
 | z :: r, d, x, h => by
  have ih := fold_all r (d ++ [z]) (stepC x z) (by
   unfold stepC
   split
   ·rename_i h1
    intro y hy
    rcases List.mem_append.1 hy with hy | hy
    ·exact h y hy
    ·rw [List.mem_singleton] at hy
     subst hy
     exact ⟨h1.1, by omega, fun h2 => by omega⟩
   ·rename_i h1
    split
    ·rename_i h2
     intro y hy
     rcases List.mem_append.1 hy with hy | hy
     ·obtain ⟨h3, h4, _⟩ := h y hy
      rcases h2 with h2 | h2
      ·exact absurd h2 h3
      ·exact ⟨by simp, by simp only; omega, fun h5 => by simp only at h5; omega⟩
     ·rw [List.mem_singleton] at hy
      subst hy
      exact ⟨by simp, Int.le_refl _, fun _ => by simp⟩
    ·rename_i h2
     have h3 : x.1 ≠ [] := fun h4 => h2 (.inl h4)
     have h4 : ¬ z.2 < x.2 := fun h4 => h2 (.inr h4)
     have h5 : ¬ x.2 < z.2 := fun h5 => h1 ⟨h3, h5⟩
     intro y hy
     rcases List.mem_append.1 hy with hy | hy
     ·obtain ⟨_, h7, h8⟩ := h y hy
      exact ⟨by simp, h7, fun h9 => List.mem_append_left _ (h8 h9)⟩
     ·rw [List.mem_singleton] at hy
      subst hy
      exact ⟨by simp, by simp only; omega, fun _ => by simp⟩)
  rw [List.append_assoc, List.singleton_append] at ih
  rw [List.foldl_cons]
  exact ih
theorem choF_all {s : List Wit} {c : Wit} {y : Int × Int} (h : y ∈ parS s c) : (choF s c).2 ≤ y.2 ∧ (y.2 = (choF s c).2 → y.1 ∈ (choF s c).1) := by
 have := fold_all (parS s c) [] ([],0) (by simp) y (by simpa using h)
 exact this.2
end Go.Am.Ds
end
section
namespace Go.Am.Ds
open Go Go.Am Go.Proofs
attribute [local simp] vrun vwanted vyielded vop vopA vputAll VHeap.back hidI hidF backL bm Nat.testBit_eq_decide_div_mod_eq veval vevals vparts vO vbuiltin vlen vappend velems vcopy vmakeSlice vbuildSlice valloc vbox vmakeMap vload vpartT vpart vstore vfieldAddr vfield vindexAddr vindex vextract vslice vsliceZ vbounds vbnd zeroO vidx vlookup vmget vmapUpdate vdelete vclear vnilq vnilp vnils vbin vsc vsc1 vscs vscl abinOp aint ashift aunOp aconvert amaxs amax2 pvcV pvc pvcs tput tget vargs VHeap.get VHeap.alloc VHeap.put VHeap.drop VHeap.empty vlook vput vdrop psplice pfill preps chunk List.range List.range.loop vresults vresult vresultV frz frzL PV.isF PV.allF PV.scal PV.allS retP subT allFT PV.one PV.ids PV.idsL dropL beq_eq ble_dec blt_dec
theorem kinT_len (may : Nat → Bool) (s : List Wit) : (kinT may s).length ≤ s.length * (s.length + 1) := by
 unfold kinT
 split
 ·have := kinP_len may s (idsS s).length (Nat.le_refl _)
  unfold kinP at this
  rw [List.take_length, idsS_len] at this
  exact this
 ·exact Nat.zero_le _
end Go.Am.Ds
end
section
namespace Go.Am.Ds
open Go Go.Am Go.Proofs
theorem fold_filt : ∀ (l d : List (Int × Int)) (x : List Int × Int), x.1 = (d.filter fun y => decide (y.2 = x.2)).map (·.1) → (∀ y ∈ d, x.2 ≤ y.2) → (x.1 = [] → d = []) → (l.foldl stepC x).1 = ((d ++ l).filter fun y => decide (y.2 = (l.foldl stepC x).2)).map (·.1)
 | [], d, x, h, _, _ => by rw [List.append_nil]; exact h
 | z :: r, d, x, h, hle, hn => by
  have key : (stepC x z).1 = ((d ++ [z]).filter fun y => decide (y.2 = (stepC x z).2)).map (·.1) ∧ (∀ y ∈ d ++ [z],(stepC x z).2 ≤ y.2) ∧ ((stepC x z).1 = [] → d ++ [z] = []) := by
   unfold stepC
   split
   ·rename_i h1
    have hz : ¬ z.2 = x.2 := by omega
    refine ⟨?_, fun y hy => ?_, fun h2 => absurd h2 h1.1⟩
    ·rw [List.filter_append, List.map_append, ← h]; simp [hz]
    ·rcases List.mem_append.1 hy with hy | hy
     ·exact hle y hy
     ·rw [List.mem_singleton] at hy; subst hy; omega
   ·rename_i h1
    split
    ·rename_i h2
     have hd : ∀ y ∈ d, z.2 < y.2 := fun y hy => by
      rcases h2 with h2 | h2
      ·rw [hn h2] at hy; cases hy
      ·have := hle y hy; omega
     have hf : (d.filter fun y => decide (y.2 = z.2)) = [] := List.filter_eq_nil_iff.2 fun y hy => by have := hd y hy; simp; omega
     refine ⟨?_, fun y hy => ?_, fun h2 => by simp at h2⟩
     ·rw [List.filter_append, List.map_append]; simp only; rw [hf]; simp
     ·rcases List.mem_append.1 hy with hy | hy
      ·have := hd y hy; simp only; omega
      ·rw [List.mem_singleton] at hy; subst hy; exact Int.le_refl _
    ·rename_i h2
     have h3 : x.1 ≠ [] := fun h4 => h2 (.inl h4)
     have hz : z.2 = x.2 := by
      have h4 : ¬ z.2 < x.2 := fun h4 => h2 (.inr h4)
      have h5 : ¬ x.2 < z.2 := fun h5 => h1 ⟨h3, h5⟩
      omega
     refine ⟨?_, fun y hy => ?_, fun h4 => by simp at h4⟩
     ·rw [List.filter_append, List.map_append]; simp only; rw [← h]; simp [hz]
     ·rcases List.mem_append.1 hy with hy | hy
      ·exact hle y hy
      ·rw [List.mem_singleton] at hy; subst hy; simp only; omega
  have ih := fold_filt r (d ++ [z]) (stepC x z) key.1 key.2.1 key.2.2
  rw [List.append_assoc, List.singleton_append] at ih
  rw [List.foldl_cons]; exact ih
theorem choF_filt (s : List Wit) (c : Wit) : (choF s c).1 = ((parS s c).filter fun y => decide (y.2 = (choF s c).2)).map (·.1) := by
 have := fold_filt (parS s c) [] ([],0) rfl (by simp) (fun _ => rfl)
 rw [List.nil_append] at this
 exact this
theorem best_eq {s : List Wit} (h : checkS s = 0) (c : Wit) : bestR s c = (choF s c).1 := by
 rw [choF_filt]
 unfold bestR
 rw [← models_eq h c, List.filter_map]
 congr 1
 apply List.filter_congr
 intro y hy
 simp only [Function.comp]
 rw [Bool.eq_iff_iff, decide_eq_true_eq]
 unfold isB
 rw [List.all_eq_true]
 have ha := (choF_all hy).1
 have hy2 := parS_fr h hy
 constructor
 ·intro H
  rcases choF_spec s c with ⟨h1, _⟩ | ⟨_, _, z, h2, h3⟩
  ·rw [h1] at hy; cases hy
  ·have e1 := H z.1 (by rw [← models_eq h c]; exact List.mem_map_of_mem h2)
   rw [decide_eq_true_eq] at e1
   have := parS_fr h h2
   omega
 ·intro H b hb
  rw [← models_eq h c] at hb
  obtain ⟨z, hz, rfl⟩ := List.mem_map.1 hb
  have e1 := (choF_all hz).1
  have := parS_fr h hz
  rw [decide_eq_true_eq]; omega
def idF (s : List Wit) (k : Nat) : List Int := (s.take k).foldl (fun a w => putS a w.id) []
theorem idF_succ (s : List Wit) (k : Nat) (h : k < s.length) : idF s (k + 1) = putS (idF s k) s[k].id := by
 unfold idF; rw [List.take_succ_eq_append_getElem h, List.foldl_append]; rfl
theorem idF_len (s : List Wit) : ∀ k, k ≤ s.length → (idF s k).length ≤ k
 | 0, _ => by simp [idF]
 | k + 1, h => by
  rw [idF_succ s k (by omega)]
  have := idF_len s k (by omega); have := putS_len (idF s k) s[k].id; omega
theorem idF_all {s : List Wit} (h : checkS s = 0) : idF s s.length = idsS s := by
 unfold idF
 rw [List.take_length]
 have h1 : ∀ (l : List Wit) (a : List Int), a.Pairwise (· < ·) → (l.foldl (fun a w => putS a w.id) a).Pairwise (· < ·) := by
  intro l
  induction l with
  | nil => intro a h; exact h
  | cons w r ih => intro a h; exact ih _ (putS_sorted h)
 have h2 : ∀ (l : List Wit) (a : List Int) (b : Int), b ∈ l.foldl (fun a w => putS a w.id) a ↔ b ∈ a ∨ ∃ w ∈ l, w.id = b := by
  intro l
  induction l with
  | nil => intro a b; simp
  | cons w r ih =>
   intro a b
   rw [List.foldl_cons, ih, putS_mem]
   constructor
   ·rintro ((h | h) | ⟨u, h3, h4⟩)
    ·exact .inl h
    ·exact .inr ⟨w, List.mem_cons_self, h.symm⟩
    ·exact .inr ⟨u, List.mem_cons_of_mem _ h3, h4⟩
   ·rintro (h | ⟨u, h3, h4⟩)
    ·exact .inl (.inl h)
    ·rcases List.mem_cons.1 h3 with rfl | h3
     ·exact .inl (.inr h4.symm)
     ·exact .inr ⟨u, h3, h4⟩
 refine strict_eq (h1 s [] .nil) (idsS_sorted (checkS_nodup h)) fun b => ?_
 rw [h2]
 exact ⟨fun h3 => h3.elim (fun h4 => by cases h4) fun ⟨w, hw, e⟩ => idsS_mem.2 ⟨w, hw, e⟩, fun h3 => .inr (idsS_mem.1 h3)⟩
theorem stepD_mod {s : List Wit} (h : checkS s = 0) (c : Wit) (b : Int) : stepD s c b = if b ∈ modR s c then some ((frS s c b).length : Int) else none := by
 by_cases hm : b ∈ modR s c
 ·rw [if_pos hm]
  rw [← models_eq h c] at hm
  obtain ⟨y, hy, rfl⟩ := List.mem_map.1 hm
  rw [← parS_fr h hy]
  exact stepD_par h hy
 ·rw [if_neg hm]
  cases hs : stepD s c b with
  | none => rfl
  | some d =>
   refine absurd ?_ hm
   rw [modR_mem]
   unfold stepD at hs
   cases hg : getW s b with
   | none =>
    rw [hg] at hs
    simp only at hs
    split at hs
    ·rename_i h1; exact .inl h1
    ·cases hs
   | some p =>
    rw [hg] at hs
    simp only at hs
    split at hs
    ·rename_i h1
     obtain ⟨hp, hpi⟩ := getW_mem hg
     exact .inr ⟨p, hp, hpi, by unfold atI; rw [hpi, hg]; exact h1⟩
    ·cases hs
end Go.Am.Ds
end
section
namespace Go.Am.Ds
open Go Go.Am Go.Proofs
attribute [local simp] vrun vwanted vyielded vop veval vevals vparts vO vbuiltin vlen vappend velems vcopy vmakeSlice vbuildSlice valloc vbox vmakeMap vload vpartT vpart vstore vfieldAddr vfield vindexAddr vindex vextract vslice vsliceZ vbounds vbnd zeroO vidx vlookup vmget vmapUpdate vdelete vnilq vnilp vnils vbin vsc vsc1 vscs vscl abinOp aint ashift aunOp aconvert amaxs amax2 pvcV pvc pvcs tput tget vargs VHeap.get VHeap.alloc VHeap.put VHeap.drop VHeap.empty vlook vput vdrop psplice pfill preps chunk List.range List.range.loop vresults vresult vresultV frz frzL PV.isF PV.allF PV.scal PV.allS retP subT allFT PV.one PV.ids PV.idsL dropL beq_eq ble_dec blt_dec
theorem g38 : (Tryz.prog.stoodInHeld 38 || Tryz.prog.eqGuardType Tryz.prog.depth 38) = false := by decide +kernel
theorem n38 : (match Tryz.prog.underlying 38 with | some (.struct fs) => fs.toList.map (fun f => (f.name == "_", tsz Tryz.prog f.type, f.type, f.offset)) | _ => []) = [(false, some 1,3,0),(false, some 1,3,1)] := by decide +kernel
theorem eq38 (a b c d : Int) : aeql Tryz.prog 38 (.agg #[.int .i64 a, .int .i64 b]) (.agg #[.int .i64 c, .int .i64 d]) = some (a == c && b == d) := by
 have hn := n38
 have hg := g38
 unfold aeql
 simp only
 cases hu : Tryz.prog.underlying 38 with
 | none => rw [hu] at hn; simp at hn
 | some td =>
  cases td with
  | struct fs =>
   rw [hu] at hn
   simp only at hn ⊢
   rw [hg]
   simp only [cond_false]
   generalize fs.toList = l at hn
   rcases l with _ | ⟨f1, _ | ⟨f2, _ | ⟨f3, r⟩⟩⟩
   ·simp at hn
   ·simp at hn
   ·simp only [List.map_cons, List.map_nil, List.cons.injEq, Prod.mk.injEq, and_true] at hn
    obtain ⟨⟨k1, k2, k3, k4⟩, ⟨m1, m2, m3, m4⟩⟩ := hn
    simp only [fieldsEq, k1, k2, k3, k4, m1, m2, m3, m4, cond_false]
    have ha : tagg Tryz.prog 3 = some false := by decide +kernel
    have hu3 : Tryz.prog.underlying 3 = some (.int .i64) := by rfl
    simp [apart, ha, simpleEq, hu3]
    cases a == c <;> cases b == d <;> rfl
   ·simp at hn
  | _ => rw [hu] at hn; simp at hn
theorem dec_beq (x y : Int) : decide (x = y) = (x == y) := by rw [Bool.eq_iff_iff]; simp
end Go.Am.Ds
end
section
namespace Go.Am.Ds
open Go Go.Am Go.Proofs
attribute [local simp] vrun vwanted vyielded vop vopA vputAll VHeap.back hidI hidF backL bm Nat.testBit_eq_decide_div_mod_eq veval vevals vparts vO vbuiltin vlen vappend velems vcopy vmakeSlice vbuildSlice valloc vbox vmakeMap vload vpartT vpart vstore vfieldAddr vfield vindexAddr vindex vextract vslice vsliceZ vbounds vbnd zeroO vidx vlookup vmget vmapUpdate vdelete vclear vnilq vnilp vnils vbin vsc vsc1 vscs vscl abinOp aint ashift aunOp aconvert amaxs amax2 pvcV pvc pvcs tput tget vargs VHeap.get VHeap.alloc VHeap.put VHeap.drop VHeap.empty vlook vput vdrop psplice pfill preps chunk List.range List.range.loop vresults vresult vresultV frz frzL PV.isF PV.allF PV.scal PV.allS retP subT allFT PV.one PV.ids PV.idsL dropL beq_eq ble_dec blt_dec
attribute [local simp] zW tup2
def mayB (sure : Bool) (n : Nat) : Bool := !sure || decide (n = 1)
theorem mayB_t : mayB true = fun n => decide (n = 1) := by funext n; simp [mayB]
theorem mayB_f : mayB false = fun _ => true := by funext n; simp [mayB]
theorem chE_bad {s : List Wit} (h : checkS s ≠ 0) : chE s = checkS s := by unfold chE; rw [if_neg h]
theorem chL_no {s : List Wit} (h : chE s ≠ 0) : chL s = [] := by unfold chL; rw [if_neg h]
theorem kinT_no {may : Nat → Bool} {s : List Wit} (h : chE s ≠ 0) : kinT may s = [] := by unfold kinT; rw [if_neg h]
theorem p137 (s : List Wit) (hl : s.length < 4294967296) (hli : ∀ w ∈ s, w.slips.length < 4294967296 ∧ w.mended.length < 4294967296 ∧ w.models.length < 4294967296) : VPure Tryz.prog 137 [encS s] fun r => r = .int .i64 (chE s) := by
 refine .of_body Tryz.func137 rfl rfl ?_
 refine .seq (.rn ?_)
 refine .seq ?_
 refine .regionL [0,1,2] rfl zz0 ?_
 refine .rn [0] [1,2] ?_
 refine .pc rfl rfl rfl rfl rfl Tryz.call52 (p52 s hl hli) ?_
 refine .rn [2] [] ?_
 refine .done (.seq (.seq (.rn ?_)))
 refine .condS rfl (fun c8 => ?_) (fun c8 => ?_)
 ·try simp at c8
  refine .seq (.rn ?_)
  refine .ret ⟨_, _, zz4,zz4, ?_⟩
  rw [chE_bad c8]
 ·try simp at c8
  refine .skip (.seq ?_)
  refine .regionL [0,1,2] rfl zz0 ?_
  refine .rn [0] [1,2] ?_
  refine .pc rfl rfl rfl rfl rfl Tryz.call110 (p110 s (okS_of c8)) ?_
  refine .rn [2] [] ?_
  refine .done (.seq (.seq (.rn ?_)))
  refine .condS rfl (fun c12 => ?_) (fun c12 => ?_)
  ·try simp at c12
   refine .seq (.rn ?_)
   refine .ret ⟨_, _, zz4,zz4, ?_⟩
   rw [chE_eq c8, if_pos c12]
  ·try simp at c12
   refine .skip (.seq (.rn ?_))
   refine .ret ⟨_, _, zz4,zz4, ?_⟩
   rw [chE_eq c8, if_neg (fun ⟨w, h1, h2⟩ => c12 w h1 h2)]
theorem p139 (s : List Wit) (l : List Int) (h : checkS s = 0) (hlL : l.length < 4611686018427387904) : VPure Tryz.prog 139 [encS s, ints l] fun r => r = .bool (desR s l).2 := by
 have ok := okS_of h
 have hl24 := ok.len
 refine .of_body Tryz.func139 rfl rfl ?_
 refine .seq (.rn ?_)
 refine .seq (.seq (.rn ?_))
 refine .condS rfl (fun c12 => ?_) (fun c12 => ?_)
 ·try simp at c12
  refine .seq (.rn ?_)
  refine .ret ⟨_, _, zz4,zz4, ?_⟩
  rw [desR, if_neg (by rintro ⟨h, _⟩; omega)]
 ·try simp at c12
  have he : l.length = s.length := by omega
  refine .skip (.seq (.seq (.rn ?_)))
  refine .block ?_
  refine .loopS (fun k : Nat => ([(1, ints l),(2, .ptr 0 0),(5, .int .i64 k)], ⟨1,[(0, .box [.vec (s.map encW)])]⟩)) (fun k => k ≤ s.length ∧ ((desL s l).take k).all Option.isSome = true) (fun k => s.length - k) 0 (by simp) (.mk [] [] zz14 zz15 rfl rfl rfl) ?_
  rintro k ⟨hk, hal⟩
  simp only at hk hal ⊢
  refine .seq (.seq (.rn ?_))
  refine .condS rfl (fun c16 => ?_) (fun c16 => ?_)
  ·try simp at c16
   have hw2 := wr1 k
   have hks : k < s.length := by omega
   have hkl : k < l.length := by omega
   have hA := desA_succ s l k hks hkl
   have hM := stepD_mod h s[k] l[k]
   have hml := modR_len s s[k]
   refine .skip (.seq (.block (.seq ?_)))
   refine .drawn (ms := [0,0,3,0,0,24,56,127,255]) (W := [2,7]) (items := [.op 0, .op 1, .op 3, .op 4, .op 5, .op 6, .op 2, .ck 6, .op 7, .op 8]) rfl zz0 zz0 zz0 ?_
   refine .rx ?_
   refine .rx ?_
   refine .rx ?_
   refine .rx ?_
   refine .rx ?_
   refine .rx ?_
   refine .wp rfl rfl rfl rfl rfl Tryz.call107 (p107 s k hks ok) ?_
   refine .ck rfl zz0 ?_
   refine .wp rfl rfl rfl rfl rfl Tryz.call121 (p121 (modR s s[k]) l[k] (by omega)) ?_
   refine .rx ?_
   refine .done (.seq (.rn ?_))
   refine .condS rfl (fun c28 => ?_) (fun c28 => ?_)
   ·try simp at c28
    refine .seq (.rn ?_)
    refine .ret ⟨_, _, zz4,zz4, ?_⟩
    rw [desR_none hks hkl (by rw [hM, if_neg c28])]
   ·try simp at c28
    refine .skip (.rn ?_)
    refine ⟨k + 1, ⟨zz5, by rw [hA, hM, if_pos c28]; simpa using hal⟩, zz5,(.mk [] [] zz14 zz15 rfl rfl rfl)⟩
  ·try simp at c16
   have hk2 : k = s.length := by omega
   subst hk2
   refine .exit (.seq (.rn ?_))
   refine .ret ⟨_, _, zz4,zz4, ?_⟩
   have hall : (desL s l).all Option.isSome = true := by
    rw [List.take_of_length_le (by simp [desL]; omega)] at hal
    simpa using hal
   rw [desR, if_pos ⟨he, hall⟩]
theorem p138 (s : List Wit) (sure : Bool) (hl : s.length < 4294967296) (hli : ∀ w ∈ s, w.slips.length < 4294967296 ∧ w.mended.length < 4294967296 ∧ w.models.length < 4294967296) : VPure Tryz.prog 138 [encS s, .bool sure] fun r => Soft r (.agg [.vec ((kinT (mayB sure) s).map encK), .int .i64 (chE s)]) := by
 obtain ⟨may, hme, hmay⟩ : ∃ may : Nat → Bool, mayB sure = may ∧ ∀ n, may n = (!sure || decide (n = 1)) := ⟨mayB sure, rfl, fun n => rfl⟩
 rw [hme]; clear hme
 refine .of_body Tryz.func138 rfl rfl ?_
 refine .seq (.rn ?_)
 refine .seq ?_
 refine .regionL [0,1,2] rfl zz0 ?_
 refine .rn [0] [1,2] ?_
 refine .pc rfl rfl rfl rfl rfl Tryz.call137 (p137 s hl hli) ?_
 refine .rn [2] [] ?_
 refine .done (.seq (.seq (.rn ?_)))
 refine .condS rfl (fun c15 => ?_) (fun c15 => ?_)
 ·try simp at c15
  refine .seq (.rn ?_)
  refine .ret ⟨_, _, zz4,zz4, ?_⟩
  rw [kinT_no c15]
  exact .agg' (AltL.cons .sl0v (AltL.cons (.same _ rfl) AltL.nil))
 ·try simp at c15
  have h0 := (chE_ok c15).1
  have ok := okS_of h0
  have hl24 := ok.len
  refine .skip (.seq (.rn ?_))
  refine .seq (.seq (.rn ?_))
  refine .block ?_
  refine .loopS (fun k : Nat => ([(1, .bool sure),(2, .ptr 0 0),(4, .ptr 1 0),(6, ints (idF s k)),(7, .int .i64 k)], ⟨2,[(1, .box [.sl0, .int .i64 0]),(0, .box [.vec (s.map encW)])]⟩)) (fun k => k ≤ s.length) (fun k => s.length - k) 0 (by simp) (.mk [] [] zz14 zz15 rfl rfl rfl) ?_
  rintro k hk
  simp only at hk ⊢
  refine .seq (.seq (.rn ?_))
  refine .condS rfl (fun c22 => ?_) (fun c22 => ?_)
  ·try simp at c22
   have hw2 := wr1 k
   have hE := encW_e s[k]
   have hS := idF_succ s k c22
   have hil := idF_len s k hk
   refine .skip (.seq (.block ?_))
   refine .regionL [0,1,2,3,4,5,6,7,8] rfl zz0 ?_
   refine .rn [0,1,2,3,4,5,6] [7,8] ?_
   refine .pc rfl rfl rfl rfl rfl Tryz.call147 (p147 (idF s k) s[k].id (by omega)) ?_
   refine .rn [8] [] ?_
   refine .done (.rn ?_)
   refine ⟨k + 1, c22,zz5,(.mk [] [] zz14 zz15 rfl rfl rfl)⟩
  ·try simp at c22
   have hk2 : k = s.length := by omega
   subst hk2
   have hida := idF_all h0
   refine .exit (.seq (.rn ?_))
   refine .seq (.seq (.rn ?_))
   refine .block ?_
   refine .loopS (fun k : Nat => ([(1, .bool sure),(2, .ptr 0 0),(4, .ptr 1 0),(6, ints (idsS s)),(8, .grow 2 (kinP (may) s k).length true),(9, .int .i64 k)], ⟨3,[(2, .grow 2 ((kinP (may) s k).map encK)),(1, .box [.sl0, .int .i64 0]),(0, .box [.vec (s.map encW)])]⟩)) (fun k => k ≤ (idsS s).length) (fun k => (idsS s).length - k) 0 (by simp) (.mk [] [] zz14 zz15 rfl rfl rfl) ?_
   rintro k hk
   simp only at hk ⊢
   refine .seq (.seq (.rn ?_))
   refine .condS rfl (fun c36 => ?_) (fun c36 => ?_)
   ·try simp at c36
    have hk24 : k < 24 := by have := idsS_len s; omega
    have hw2 := wr1 k
    obtain ⟨j, hj, hje, hgb⟩ := getW_some (find_ids (List.getElem_mem c36))
    have hbe : bestR s s[j] = cI s (idsS s)[k] := by rw [best_eq h0]; unfold cI; rw [hgb]
    have hpl := kinP_len (may) s k hk
    have hcl := cI_len s (idsS s)[k]
    have hS := kinP_succ (may) s k c36
    have hQ0 := kinQ_zero (may) s (idsS s)[k]
    have hkm : k * (s.length + 1) ≤ 24 * 25 := Nat.mul_le_mul (by have := idsS_len s; omega) (by omega)
    refine .skip (.seq (.block (.seq ?_)))
    refine .drawn (ms := [0,0,0,0,12,28,62,127,255]) (W := [6,7]) (items := [.op 0, .op 1, .op 2, .op 3, .op 4, .op 5, .op 6, .ck 0, .op 7, .op 8]) rfl zz0 zz0 zz0 ?_
    refine .rx ?_
    refine .rx ?_
    refine .rx ?_
    refine .rx ?_
    refine .rx ?_
    refine .rx ?_
    refine .wp rfl rfl rfl rfl rfl Tryz.call104 ((by have h := p104 s (idsS s)[k] (by omega); rw [hje] at h; exact h)) ?_
    refine .ck rfl zz0 ?_
    refine .wp rfl rfl rfl rfl rfl Tryz.call112 ((by have h := p112 s j hj ok; rw [hbe] at h; exact h)) ?_
    refine .rx ?_
    refine .done (.seq (.rn ?_))
    refine .block ?_
    refine .loopS (fun q : Nat => ([(1, .bool sure),(2, .ptr 0 0),(4, .ptr 1 0),(6, ints (idsS s)),(8, .grow 2 (kinP (may) s k ++ kinQ (may) s (idsS s)[k] q).length true),(9, .int .i64 k),(10, ints (cI s (idsS s)[k])),(11, .int .i64 q)], ⟨3,[(2, .grow 2 ((kinP (may) s k ++ kinQ (may) s (idsS s)[k] q).map encK)),(1, .box [.sl0, .int .i64 0]),(0, .box [.vec (s.map encW)])]⟩)) (fun q => q ≤ (cI s (idsS s)[k]).length) (fun q => (cI s (idsS s)[k]).length - q) 0 (by simp) (.mk [] [] zz14 zz15 rfl rfl rfl) ?_
    rintro q hq
    simp only at hq ⊢
    have hql := kinQ_len (may) s (idsS s)[k] q
    refine .seq (.seq (.rn ?_))
    refine .condS rfl (fun c50 => ?_) (fun c50 => ?_)
    ·try simp at c50
     have hw3 := wr1 q
     have hb : (kinP (may) s k).length + (kinQ (may) s (idsS s)[k] q).length ≤ 4294967295 := by omega
     have hone : allOne [PV.agg [PV.int .i64 (idsS s)[k], PV.int .i64 (cI s (idsS s)[k])[q]]] = true := rfl
     have hEk : encK ((idsS s)[k],(cI s (idsS s)[k])[q]) = .agg [.int .i64 (idsS s)[k], .int .i64 (cI s (idsS s)[k])[q]] := rfl
     refine .skip (.seq (.block (.seq ?_)))
     refine .regionL [0,1,2,3,4,5,6] rfl zz0 ?_
     refine .rn [0,1,2] [3,4,5,6] ?_
     refine .split (t := 55) rfl (fun c55 => ?_) (fun c55 => ?_)
     ·try rw [c55]
      try simp at c55
      have hmy : may (cI s (idsS s)[k]).length = true := by simp [hmay, c55]
      have hQ : kinQ (may) s (idsS s)[k] (q + 1) = kinQ (may) s (idsS s)[k] q ++ [((idsS s)[k],(cI s (idsS s)[k])[q])] := by
       unfold kinQ; rw [if_pos hmy, if_pos hmy, List.take_succ_eq_append_getElem c50, List.map_append]; rfl
      refine .rn [3,4,5,6] [] ?_
      refine .done (.condT rfl ?_)
      refine .drawn (ms := [0,0,0,6,14,0,0,96,224,510,1022,2047,4095]) (W := [10,11]) (items := [.op 0, .op 1, .op 2, .op 3, .op 4, .op 5, .op 6, .op 7, .op 8, .op 9, .op 10, .op 11, .op 12]) rfl zz0 zz0 zz0 ?_
      refine .rx ?_
      refine .rx ?_
      refine .rx ?_
      refine .rx ?_
      refine .rx ?_
      refine .rx ?_
      refine .rx ?_
      refine .rx ?_
      refine .rx ?_
      refine .rx ?_
      refine .wv ?_
      refine .wv ?_
      refine .rx ?_
      refine .done (.rn ?_)
      have hL : (kinP (may) s k).length + ((kinQ (may) s (idsS s)[k] q).length + 1) = (kinP (may) s k).length + (kinQ (may) s (idsS s)[k] q).length + 1 := by omega
      refine ⟨q + 1, c50,zz5,(.mk [] [(2,4)] zz14 zz15 rfl rfl rfl)⟩
     ·try rw [c55]
      try simp at c55
      refine .rn [3,4,5,6] [] ?_
      refine .done ?_
      refine .condS rfl (fun c59 => ?_) (fun c59 => ?_)
      ·try simp at c59
       have hmy : may (cI s (idsS s)[k]).length = true := by simp [hmay]; omega
       clear c59
       have hQ : kinQ (may) s (idsS s)[k] (q + 1) = kinQ (may) s (idsS s)[k] q ++ [((idsS s)[k],(cI s (idsS s)[k])[q])] := by
        unfold kinQ; rw [if_pos hmy, if_pos hmy, List.take_succ_eq_append_getElem c50, List.map_append]; rfl
       refine .drawn (ms := [0,0,0,6,14,0,0,96,224,510,1022,2047,4095]) (W := [10,11]) (items := [.op 0, .op 1, .op 2, .op 3, .op 4, .op 5, .op 6, .op 7, .op 8, .op 9, .op 10, .op 11, .op 12]) rfl zz0 zz0 zz0 ?_
       refine .rx ?_
       refine .rx ?_
       refine .rx ?_
       refine .rx ?_
       refine .rx ?_
       refine .rx ?_
       refine .rx ?_
       refine .rx ?_
       refine .rx ?_
       refine .rx ?_
       refine .wv ?_
       refine .wv ?_
       refine .rx ?_
       refine .done (.rn ?_)
       have hL : (kinP (may) s k).length + ((kinQ (may) s (idsS s)[k] q).length + 1) = (kinP (may) s k).length + (kinQ (may) s (idsS s)[k] q).length + 1 := by omega
       refine ⟨q + 1, c50,zz5,(.mk [] [(2,4)] zz14 zz15 rfl rfl rfl)⟩
      ·try simp at c59
       have hmy : ¬ may (cI s (idsS s)[k]).length = true := by simp [hmay, c55]; omega
       have hQ : kinQ (may) s (idsS s)[k] (q + 1) = kinQ (may) s (idsS s)[k] q := by
        unfold kinQ; rw [if_neg hmy, if_neg hmy]
       refine .skip (.rn ?_)
       refine ⟨q + 1, c50,zz5,(.mk [] [] zz14 zz15 rfl rfl rfl)⟩
    ·try simp at c50
     have hq2 : q = (cI s (idsS s)[k]).length := by omega
     subst hq2
     have hQ2 := kinQ_all (may) s (idsS s)[k]
     refine .exit (.rn ?_)
     refine ⟨k + 1, c36,zz5,(.mk [] [] zz14 zz15 rfl rfl rfl)⟩
   ·try simp at c36
    have hk3 : k = (idsS s).length := by omega
    subst hk3
    refine .exit (.seq (.rn ?_))
    refine .ret ⟨_, _, zz4,zz4, ?_⟩
    have e1 : kinT (may) s = kinP (may) s (idsS s).length := by unfold kinT kinP; rw [if_pos c15, List.take_length]
    rw [e1, c15]
    show Soft _ _
    exact soft_rfl rfl
theorem p138' (s : List Wit) (sure : Bool) (hl : s.length < 4294967296) (hli : ∀ w ∈ s, w.slips.length < 4294967296 ∧ w.mended.length < 4294967296 ∧ w.models.length < 4294967296) : VPure Tryz.prog 138 [encS s, .bool sure] fun r => r = .agg [.vec ((kinT (mayB sure) s).map encK), .int .i64 (chE s)] := VPure.soft (p138 s sure hl hli) rfl
theorem p61 (s : List Wit) (hl : s.length < 4294967296) (hli : ∀ w ∈ s, w.slips.length < 4294967296 ∧ w.mended.length < 4294967296 ∧ w.models.length < 4294967296) : VPure Tryz.prog 61 [encS s] fun r => r = .agg [.vec ((kinT (fun n => decide (n = 1)) s).map encK), .int .i64 (chE s)] := by
 refine .of_body Tryz.func61 rfl rfl ?_
 refine .seq (.rn ?_)
 refine .seq ?_
 refine .regionL [0,1,2] rfl zz0 ?_
 refine .rn [0] [1,2] ?_
 refine .pc rfl rfl rfl rfl rfl Tryz.call138 ((by have h := p138' s true hl hli; rw [mayB_t] at h; exact h)) ?_
 refine .rn [2] [] ?_
 refine .done (.ret ⟨_, _, zz4,zz4, ?_⟩)
 first | rfl | (simp [*]; done) | (simp_all; done)
theorem p62 (s : List Wit) (hl : s.length < 4294967296) (hli : ∀ w ∈ s, w.slips.length < 4294967296 ∧ w.mended.length < 4294967296 ∧ w.models.length < 4294967296) : VPure Tryz.prog 62 [encS s] fun r => r = .agg [.vec ((kinT (fun _ => true) s).map encK), .int .i64 (chE s)] := by
 refine .of_body Tryz.func62 rfl rfl ?_
 refine .seq (.rn ?_)
 refine .seq ?_
 refine .regionL [0,1,2] rfl zz0 ?_
 refine .rn [0] [1,2] ?_
 refine .pc rfl rfl rfl rfl rfl Tryz.call138 ((by have h := p138' s false hl hli; rw [mayB_f] at h; exact h)) ?_
 refine .rn [2] [] ?_
 refine .done (.ret ⟨_, _, zz4,zz4, ?_⟩)
 first | rfl | (simp [*]; done) | (simp_all; done)
end Go.Am.Ds
end
section
namespace Go.Am.Ds
open Go Go.Am Go.Proofs
def upI (s : List Wit) (l : List Int) (id : Int) : Int := (l[(findI s id).toNat]?).getD 0
def rkI (s : List Wit) (id : Int) : Nat := match getW s id with
 | none => 0
 | some c => (s.filter fun w => decide (w.hi ≤ c.hi)).length
def chN (s : List Wit) (l : List Int) : Nat → Int → List Int
 | 0, _ => []
 | n + 1, id => if id = 0 then [] else id :: chN s l n (upI s l id)
def chI (s : List Wit) (l : List Int) (id : Int) : List Int := chN s l (rkI s id) id
def froI (s : List Wit) (l : List Int) (id : Int) : List Int := chI s l (upI s l id)
theorem filt_lt {p q : Wit → Bool} (h : ∀ w, p w = true → q w = true) : ∀ {s : List Wit} {c : Wit}, c ∈ s → q c = true → p c = false → (s.filter p).length < (s.filter q).length
 | a :: r, c, hc, h1, h2 => by
  have hle : (r.filter p).length ≤ (r.filter q).length := by
   rw [← List.countP_eq_length_filter, ← List.countP_eq_length_filter]
   exact List.countP_mono_left fun x _ hx => h x hx
  rcases List.mem_cons.1 hc with rfl | hc
  ·rw [List.filter_cons_of_pos h1, List.filter_cons_of_neg (by simp [h2]), List.length_cons]; omega
  ·have ih := filt_lt h hc h1 h2
   by_cases hp : p a = true
   ·rw [List.filter_cons_of_pos hp, List.filter_cons_of_pos (h a hp), List.length_cons, List.length_cons]; omega
   ·rw [List.filter_cons_of_neg hp]
    by_cases hq : q a = true
    ·rw [List.filter_cons_of_pos hq, List.length_cons]; omega
    ·rw [List.filter_cons_of_neg hq]; exact ih
theorem wit_lohi {s : List Wit} (h : checkS s = 0) {w : Wit} (hw : w ∈ s) : w.lo ≤ w.hi := by
 have := (checkS_ok h).2 w hw
 unfold witE at this
 repeat' split at this
 all_goals first | omega | cases this
theorem why_hi {c p : Wit} (h : (whyP c p).1 = 0) : p.hi < c.lo := by
 unfold whyP at h
 split at h
 ·cases h
 ·split at h
  ·cases h
  ·omega
theorem getW_zero {s : List Wit} (h : checkS s = 0) : getW s 0 = none := by
 cases hg : getW s 0 with
 | none => rfl
 | some p =>
  obtain ⟨hp, h0⟩ := getW_mem hg
  have := checkS_pos h p hp
  omega
theorem des_len {s : List Wit} {l : List Int} (hd : (desR s l).2 = true) : l.length = s.length ∧ (desL s l).all Option.isSome = true := by
 unfold desR at hd; split at hd
 ·assumption
 ·cases hd
theorem up_at {s : List Wit} {l : List Int} (hd : (desR s l).2 = true) {id : Int} {c : Wit} (hg : getW s id = some c) : ∃ i, ∃ hi : i < s.length, ∃ h2 : i < l.length, findI s id = (i : Int) ∧ s[i] = c ∧ l[i] = upI s l id := by
 obtain ⟨he, _⟩ := des_len hd
 obtain ⟨i, hi, hie, hc⟩ := getW_idx hg
 refine ⟨i, hi, by omega, hie, hc, ?_⟩
 unfold upI
 rw [hie, Int.toNat_natCast, List.getElem?_eq_getElem (by omega), Option.getD_some]
theorem up_some {s : List Wit} {l : List Int} (hd : (desR s l).2 = true) {id : Int} {c : Wit} (hg : getW s id = some c) : upI s l id = 0 ∨ ∃ p, getW s (upI s l id) = some p ∧ (whyP c p).1 = 0 := by
 obtain ⟨i, hi, h2, _, hc, hl⟩ := up_at hd hg
 obtain ⟨_, ha⟩ := des_len hd
 obtain ⟨h3, h4⟩ := desL_get s l i hi h2
 have h5 := List.all_eq_true.1 ha _ (List.getElem_mem h3)
 rw [h4, hc, hl] at h5
 unfold stepD at h5
 cases hp : getW s (upI s l id) with
 | none =>
  rw [hp] at h5
  simp only at h5
  split at h5
  ·rename_i h6; exact .inl h6.1
  ·cases h5
 | some p =>
  rw [hp] at h5
  simp only at h5
  split at h5
  ·rename_i h6; exact .inr ⟨p, rfl, h6⟩
  ·cases h5
theorem rk_pos {s : List Wit} {id : Int} {c : Wit} (hg : getW s id = some c) : 0 < rkI s id := by
 unfold rkI; rw [hg]
 exact List.length_pos_iff.2 (List.ne_nil_of_mem (List.mem_filter.2 ⟨(getW_mem hg).1, by simp⟩))
theorem rk_le (s : List Wit) (id : Int) : rkI s id ≤ s.length := by
 unfold rkI; split
 ·omega
 ·exact List.length_filter_le _ _
theorem rk_zero {s : List Wit} (h : checkS s = 0) : rkI s 0 = 0 := by unfold rkI; rw [getW_zero h]
theorem rk_up {s : List Wit} {l : List Int} (h : checkS s = 0) (hd : (desR s l).2 = true) {id : Int} {c : Wit} (hg : getW s id = some c) : rkI s (upI s l id) < rkI s id := by
 rcases up_some hd hg with h1 | ⟨p, h1, h2⟩
 ·rw [h1, rk_zero h]; exact rk_pos hg
 ·have h3 := why_hi h2
  have h4 := wit_lohi h (getW_mem hg).1
  unfold rkI; rw [h1, hg]
  exact filt_lt (fun w hw => by simp only [decide_eq_true_eq] at hw ⊢; omega) (getW_mem hg).1 (by simp) (by simp; omega)
def okI (s : List Wit) (id : Int) : Prop := id = 0 ∨ ∃ c, getW s id = some c
theorem up_ok {s : List Wit} {l : List Int} (hd : (desR s l).2 = true) {id : Int} {c : Wit} (hg : getW s id = some c) : okI s (upI s l id) := (up_some hd hg).imp (fun h => h) fun ⟨p, h, _⟩ => ⟨p, h⟩
theorem chN_zero (s : List Wit) (l : List Int) (n : Nat) : chN s l n 0 = [] := by cases n <;> simp [chN]
theorem chN_st {s : List Wit} {l : List Int} (h : checkS s = 0) (hd : (desR s l).2 = true) : ∀ n m id, okI s id → rkI s id ≤ n → rkI s id ≤ m → chN s l n id = chN s l m id := by
 intro n
 induction n with
 | zero =>
  intro m id ho h1 h2
  rcases ho with rfl | ⟨c, hg⟩
  ·rw [chN_zero, chN_zero]
  ·have := rk_pos hg; omega
 | succ n ih =>
  intro m id ho h1 h2
  rcases ho with rfl | ⟨c, hg⟩
  ·rw [chN_zero, chN_zero]
  ·have h3 := rk_pos hg
   obtain ⟨k, rfl⟩ : ∃ k, m = k + 1 := ⟨m - 1, by omega⟩
   have h4 := rk_up h hd hg
   unfold chN
   rw [ih k (upI s l id) (up_ok hd hg) (by omega) (by omega)]
theorem chI_zero (s : List Wit) (l : List Int) : chI s l 0 = [] := chN_zero s l _
theorem chI_step {s : List Wit} {l : List Int} (h : checkS s = 0) (hd : (desR s l).2 = true) {id : Int} {c : Wit} (hg : getW s id = some c) : chI s l id = id :: froI s l id := by
 have h0 : id ≠ 0 := fun h0 => by rw [h0, getW_zero h] at hg; cases hg
 have h3 := rk_pos hg
 have h4 := rk_up h hd hg
 unfold froI chI
 obtain ⟨k, hk⟩ : ∃ k, rkI s id = k + 1 := ⟨rkI s id - 1, by omega⟩
 rw [hk]
 show (if id = 0 then [] else id :: chN s l k (upI s l id)) = _
 rw [if_neg h0, chN_st h hd k (rkI s (upI s l id)) (upI s l id) (up_ok hd hg) (by omega) (Nat.le_refl _)]
theorem chI_len {s : List Wit} {l : List Int} (h : checkS s = 0) (hd : (desR s l).2 = true) (id : Int) : (chI s l id).length ≤ s.length := by
 have : ∀ n id, (chN s l n id).length ≤ n := by
  intro n
  induction n with
  | zero => intro id; simp [chN]
  | succ n ih =>
   intro id
   unfold chN
   split
   ·simp
   ·rw [List.length_cons]; have := ih (upI s l id); omega
 have h1 := this (rkI s id) id
 have h2 := rk_le s id
 unfold chI; omega
def askE (s : List Wit) (l : List Int) (id : Int) (text : Bool) : Int := if checkS s = 0 then (if getW s id = none ∧ (id ≠ 0 ∨ text = false) then 5 else if (desR s l).2 = true then 0 else 1) else checkS s
theorem askE_ok {s : List Wit} {l : List Int} {id : Int} {text : Bool} (h : askE s l id text = 0) : checkS s = 0 ∧ (desR s l).2 = true ∧ ((∃ c, getW s id = some c) ∨ id = 0 ∧ text = true) := by
 unfold askE at h
 split at h
 ·rename_i h0
  split at h
  ·cases h
  ·rename_i h1
   split at h
   ·rename_i h2
    refine ⟨h0, h2, ?_⟩
    cases hg : getW s id with
    | some c => exact .inl ⟨c, rfl⟩
    | none =>
     rw [hg] at h1
     refine .inr ⟨Decidable.by_contra fun h3 => h1 ⟨rfl, .inl h3⟩, ?_⟩
     cases text with
     | true => rfl
     | false => exact absurd ⟨rfl, .inr rfl⟩ h1
   ·cases h
 ·rename_i h0; exact absurd h h0
end Go.Am.Ds
end
section
namespace Go.Am.Ds
open Go Go.Am Go.Proofs
attribute [local simp] vrun vwanted vyielded vop vopA vputAll VHeap.back hidI hidF backL bm Nat.testBit_eq_decide_div_mod_eq veval vevals vparts vO vbuiltin vlen vappend velems vcopy vmakeSlice vbuildSlice valloc vbox vmakeMap vload vpartT vpart vstore vfieldAddr vfield vindexAddr vindex vextract vslice vsliceZ vbounds vbnd zeroO vidx vlookup vmget vmapUpdate vdelete vclear vnilq vnilp vnils vbin vsc vsc1 vscs vscl abinOp aint ashift aunOp aconvert amaxs amax2 pvcV pvc pvcs tput tget vargs VHeap.get VHeap.alloc VHeap.put VHeap.drop VHeap.empty vlook vput vdrop psplice pfill preps chunk List.range List.range.loop vresults vresult vresultV frz frzL PV.isF PV.allF PV.scal PV.allS retP subT allFT PV.one PV.ids PV.idsL dropL beq_eq ble_dec blt_dec
attribute [local simp] zW tup2
theorem any_memD (l : List Int) (v : Int) : (l.any fun a => decide (v = a)) = decide (v ∈ l) := by rw [Bool.eq_iff_iff]; simp
theorem p144d (l : List Int) (v : Int) (hl : l.length < 4294967296) : VPure Tryz.prog 144 [ints l, .int .i64 v] fun r => r = .bool (decide (v ∈ l)) := by
 have := p144 l v hl
 rw [any_memD] at this; exact this
theorem p142 (s : List Wit) (l : List Int) (m id : Int) (text : Bool) (hl : s.length < 65536) (hlL : l.length < 4611686018427387904) : VPure Tryz.prog 142 [encS s, .agg [ints l, .int .i64 m], .int .i64 id, .bool text] fun r => r = .int .i64 (askE s l id text) := by
 refine .of_body Tryz.func142 rfl rfl ?_
 refine .seq (.rn ?_)
 refine .seq (.seq ?_)
 refine .regionL [0,1,2] rfl zz0 ?_
 refine .rn [0] [1,2] ?_
 refine .pc rfl rfl rfl rfl rfl Tryz.call35 (p35 s (by omega)) ?_
 refine .rn [2] [] ?_
 refine .done (.seq (.rn ?_))
 refine .condS rfl (fun c15 => ?_) (fun c15 => ?_)
 ·try simp at c15
  refine .seq (.rn ?_)
  refine .ret ⟨_, _, zz4,zz4, ?_⟩
  simp_all [askE]
 ·try simp at c15
  refine .skip (.seq (.seq ?_))
  refine .regionL [0,1,2,3,4,5,6,7,8,9,10,11] rfl zz0 ?_
  refine .rn [0,1] [2,3,4,5,6,7,8,9,10,11] ?_
  refine .pc rfl rfl rfl rfl rfl Tryz.call105 (p105' s id (by omega)) ?_
  refine .rn [3,4] [5,6,7,8,9,10,11] ?_
  refine .split (t := 21) rfl (fun c21 => ?_) (fun c21 => ?_)
  ·try rw [c21]
   try simp at c21
   have hn := getW_none c21
   refine .rn [5,6,7] [8,9,10,11] ?_
   refine .split (t := 24) rfl (fun c24 => ?_) (fun c24 => ?_)
   ·try rw [c24]
    try simp at c24
    refine .rn [8,9,10,11] [] ?_
    refine .done (.condT rfl (.seq (.rn ?_)))
    refine .ret ⟨_, _, zz4,zz4, ?_⟩
    simp_all [askE]
   ·try rw [c24]
    try simp at c24
    refine .rn [8,9,10,11] [] ?_
    refine .done ?_
    refine .condS rfl (fun c28 => ?_) (fun c28 => ?_)
    ·try simp at c28
     refine .seq (.rn ?_)
     refine .ret ⟨_, _, zz4,zz4, ?_⟩
     simp_all [askE]
    ·try simp at c28
     refine .skip (.seq (.seq ?_))
     refine .regionL [0,1,2,3,4,5,6,7,8] rfl zz0 ?_
     refine .rn [0,1,2] [3,4,5,6,7,8] ?_
     refine .pc rfl rfl rfl rfl rfl Tryz.call132 (p132 s l hl hlL (checkS_lens c15)) ?_
     refine .rn [4,5,6,7,8] [] ?_
     refine .done (.seq (.rn ?_))
     refine .condS rfl (fun c37 => ?_) (fun c37 => ?_)
     ·try simp at c37
      refine .seq (.rn ?_)
      refine .ret ⟨_, _, zz4,zz4, ?_⟩
      simp_all [askE]
     ·try simp at c37
      refine .skip (.seq (.rn ?_))
      refine .ret ⟨_, _, zz4,zz4, ?_⟩
      simp_all [askE]
  ·try rw [c21]
   try simp at c21
   obtain ⟨i, hi, hie, hga⟩ := getW_some (show 0 ≤ findI s id by omega)
   refine .rn [5,6,7,8,9,10,11] [] ?_
   refine .done (.condF rfl (.skip (.seq (.seq ?_))))
   refine .regionL [0,1,2,3,4,5,6,7,8] rfl zz0 ?_
   refine .rn [0,1,2] [3,4,5,6,7,8] ?_
   refine .pc rfl rfl rfl rfl rfl Tryz.call132 (p132 s l hl hlL (checkS_lens c15)) ?_
   refine .rn [4,5,6,7,8] [] ?_
   refine .done (.seq (.rn ?_))
   refine .condS rfl (fun c37 => ?_) (fun c37 => ?_)
   ·try simp at c37
    refine .seq (.rn ?_)
    refine .ret ⟨_, _, zz4,zz4, ?_⟩
    simp_all [askE]
   ·try simp at c37
    refine .skip (.seq (.rn ?_))
    refine .ret ⟨_, _, zz4,zz4, ?_⟩
    simp_all [askE]
theorem p143 (s : List Wit) (l : List Int) (m id : Int) (c : Wit) (h : checkS s = 0) (hd : (desR s l).2 = true) (hg : getW s id = some c) : VPure Tryz.prog 143 [encS s, .agg [ints l, .int .i64 m], .int .i64 id] fun r => r = ints (froI s l id) := by
 have hl24 := (checkS_ok h).1
 obtain ⟨i, hi, hi2, hie, hci, hup⟩ := up_at hd hg
 refine .of_body Tryz.func143 rfl rfl ?_
 refine .seq (.rn ?_)
 refine .seq (.rn ?_)
 refine .seq (.seq ?_)
 refine .drawn (ms := [0,1,0,0,12,31,63,127]) (W := [4]) (items := [.op 0, .op 1, .op 2, .op 3, .op 4, .ck 1, .op 5, .op 6, .op 7]) rfl zz0 zz0 zz0 ?_
 refine .rx ?_
 refine .rx ?_
 refine .rx ?_
 refine .rx ?_
 refine .wp rfl rfl rfl rfl rfl Tryz.call105 ((by have h := p105' s id (by omega); rw [hie] at h; exact h)) ?_
 refine .ck rfl zz0 ?_
 refine .rx ?_
 refine .rx ?_
 refine .rx ?_
 refine .done (.block ?_)
 refine .loopS (fun st : List Int × Int => ([(2, .int .i64 st.2),(3, .ptr 0 0),(4, .ptr 1 0),(7, .grow 2 st.1.length true)], ⟨3,[(2, .grow 1 (st.1.map (.int .i64))),(1, .box [ints l, .int .i64 m]),(0, .box [.vec (s.map encW)])]⟩)) (fun st => okI s st.2 ∧ froI s l id = st.1 ++ chI s l st.2) (fun st => rkI s st.2) ([], upI s l id) ⟨up_ok hd hg, rfl⟩ (.mk [] [] zz14 zz15 rfl rfl rfl) ?_
 rintro ⟨o, x⟩ ⟨hx, ho⟩
 simp only at hx ho ⊢
 have hol : o.length ≤ 24 := by
  have h1 := chI_len h hd (upI s l id)
  have h2 : (froI s l id).length = o.length + (chI s l x).length := by rw [ho, List.length_append]
  unfold froI at h2; omega
 refine .seq (.seq (.rn ?_))
 refine .condS rfl (fun c16 => ?_) (fun c16 => ?_)
 ·try simp at c16
  obtain ⟨c2, hg2⟩ := hx.resolve_left c16
  obtain ⟨i2, hi3, hi4, hie2, hci2, hup2⟩ := up_at hd hg2
  have hone : allOne [PV.int IntKind.i64 x] = true := rfl
  have hb : o.length ≤ 4294967295 := by omega
  have hrk := rk_up h hd hg2
  refine .skip (.seq (.block (.rn ?_)))
  refine .drawn (ms := [0,1,0,0,12,31,63,127]) (W := [4]) (items := [.op 0, .op 1, .op 2, .op 3, .op 4, .ck 1, .op 5, .op 6, .op 7]) rfl zz0 zz0 zz0 ?_
  refine .rx ?_
  refine .rx ?_
  refine .rx ?_
  refine .rx ?_
  refine .wp rfl rfl rfl rfl rfl Tryz.call105 ((by have h := p105' s x (by omega); rw [hie2] at h; exact h)) ?_
  refine .ck rfl zz0 ?_
  refine .rx ?_
  refine .rx ?_
  refine .rx ?_
  refine .done ?_
  refine ⟨(o ++ [x], upI s l x), ⟨up_ok hd hg2, by rw [ho, chI_step h hd hg2]; simp [froI]⟩, hrk, (.mk [] [(2,4)] zz14 zz15 rfl rfl rfl)⟩
 ·try simp at c16
  have hfr : froI s l id = o := by rw [ho, c16, chI_zero, List.append_nil]
  refine .exit (.seq (.rn ?_))
  refine .ret ⟨_, _, zz4,zz4, ?_⟩
  first | rfl | (simp [*]; done) | (simp_all; done)
end Go.Am.Ds
end
section
namespace Go.Am.Ds
open Go Go.Am Go.Proofs
def isK (s : List Wit) (k : Int × Int) : Int := if k ∈ kinT (fun n => decide (n = 1)) s then 2 else if k ∈ kinT (fun _ => true) s then 1 else 0
def lessI (s : List Wit) (id : Int) : List Wit := s.filter fun w => !decide (w.id = id)
def delB (s : List Wit) (k : Int × Int) (now : Int) (id : Int) : Bool := decide (id = k.1) || (decide (id = k.2) || decide (isK (lessI s id) k = now))
def resL (s : List Wit) (k : Int × Int) : List Int := (idsS s).filter fun id => !delB s k (isK s k) id
theorem resL_len (s : List Wit) (k : Int × Int) : (resL s k).length ≤ s.length := by
 unfold resL
 have := List.length_filter_le (fun id => !delB s k (isK s k) id) (idsS s)
 rw [idsS_len] at this; exact this
end Go.Am.Ds
end
section
namespace Go.Am.Ds
open Go Go.Am Go.Proofs
attribute [local simp] vrun vwanted vyielded vop vopA vputAll VHeap.back hidI hidF backL bm Nat.testBit_eq_decide_div_mod_eq veval vevals vparts vO vbuiltin vlen vappend velems vcopy vmakeSlice vbuildSlice valloc vbox vmakeMap vload vpartT vpart vstore vfieldAddr vfield vindexAddr vindex vextract vslice vsliceZ vbounds vbnd zeroO vidx vlookup vmget vmapUpdate vdelete vclear vnilq vnilp vnils vbin vsc vsc1 vscs vscl abinOp aint ashift aunOp aconvert amaxs amax2 pvcV pvc pvcs tput tget vargs VHeap.get VHeap.alloc VHeap.put VHeap.drop VHeap.empty vlook vput vdrop psplice pfill preps chunk List.range List.range.loop vresults vresult vresultV frz frzL PV.isF PV.allF PV.scal PV.allS retP subT allFT PV.one PV.ids PV.idsL dropL beq_eq ble_dec blt_dec
attribute [local simp] zW tup2
theorem any_memK (l : List (Int × Int)) (v : Int × Int) : (l.any fun a => decide (v = a)) = decide (v ∈ l) := by rw [Bool.eq_iff_iff]; simp
theorem pair_beq (a b : Int × Int) : (a.1 == b.1 && a.2 == b.2) = decide (a = b) := by
 rw [Bool.eq_iff_iff]
 simp only [Bool.and_eq_true, beq_iff_eq, decide_eq_true_eq]
 exact ⟨fun h => Prod.ext h.1 h.2, fun h => by rw [h]; exact ⟨rfl, rfl⟩⟩
theorem eq38d (a b : Int × Int) : aeql Tryz.prog 38 (.agg #[.int .i64 a.1, .int .i64 a.2]) (.agg #[.int .i64 b.1, .int .i64 b.2]) = some (decide (a = b)) := by rw [eq38, pair_beq]
theorem p200 (l : List (Int × Int)) (v : Int × Int) (hl : l.length < 4294967296) : VPure Tryz.prog 200 [.vec (l.map encK), .agg [.int .i64 v.1, .int .i64 v.2]] fun r => r = .int .i64 (idxF (fun a => decide (v = a)) 0 l) := by
 refine .of_body Tryz.func200 rfl rfl ?_
 refine .seq (.rn ?_)
 refine .seq (.seq (.rn ?_))
 refine .block ?_
 refine .loopS (fun s : Nat => ([(0, .vec (l.map encK)),(3, .ptr 0 0),(7, .int .i64 l.length),(8, .int .i64 s)], ⟨1,[(0, .box [.int .i64 v.1, .int .i64 v.2])]⟩)) (fun s => s ≤ l.length ∧ idxF (fun a => decide (v = a)) s (l.drop s) = idxF (fun a => decide (v = a)) 0 l) (fun s => l.length - s) 0 ⟨by simp, by simp⟩ (.mk [] [] zz14 zz15 rfl rfl rfl) ?_
 rintro i ⟨hi, hr⟩
 simp only at hi hr ⊢
 refine .seq (.rn ?_)
 refine .seq ?_
 refine .condS rfl (fun c9 => ?_) (fun c9 => ?_)
 ·try simp at c9
  have hw2 := wr1 i
  rw [idxF_drop _ l i c9] at hr
  have hE : encK l[i] = .agg [.int .i64 l[i].1, .int .i64 l[i].2] := rfl
  have hq := eq38d v l[i]
  refine .skip (.seq (.block (.seq (.rn ?_))))
  refine .seq ?_
  refine .drawn (ms := [0,0,0,6,14,31]) (W := []) (items := [.op 0, .op 1, .op 2, .op 3, .op 4, .op 5]) rfl zz0 zz0 zz0 ?_
  refine .rx ?_
  refine .rx ?_
  refine .rx ?_
  refine .rx ?_
  refine .rx ?_
  refine .rx ?_
  refine .done ?_
  refine .condS rfl (fun c16 => ?_) (fun c16 => ?_)
  ·try simp at c16
   refine .seq (.rn ?_)
   refine .ret ⟨_, _, zz4,zz4, ?_⟩
   rw [← hr, if_pos (by simp [c16])]
  ·try simp at c16
   refine .skip (.rn ?_)
   refine ⟨i + 1, ⟨zz5, ?_⟩, zz5,(.mk [] [] zz14 zz15 rfl rfl rfl)⟩
   rw [← hr, if_neg (by simp [c16])]
 ·try simp at c9
  have : i = l.length := by omega
  refine .exit (.seq (.rn ?_))
  refine .ret ⟨_, _, zz4,zz4, ?_⟩
  rw [← hr, this, List.drop_length]; rfl
theorem p174 (l : List (Int × Int)) (v : Int × Int) (hl : l.length < 4294967296) : VPure Tryz.prog 174 [.vec (l.map encK), .agg [.int .i64 v.1, .int .i64 v.2]] fun r => r = .bool (decide (v ∈ l)) := by
 refine .of_body Tryz.func174 rfl rfl ?_
 refine .seq (.rn ?_)
 refine .seq ?_
 refine .regionL [0,1,2,3,4] rfl zz0 ?_
 refine .rn [0,1] [2,3,4] ?_
 refine .pc rfl rfl rfl rfl rfl Tryz.call200 (p200 l v hl) ?_
 refine .rn [3,4] [] ?_
 refine .done (.ret ⟨_, _, zz4,zz4, ?_⟩)
 rw [← any_memK, ← idxF_any _ l 0]
theorem p133 (s : List Wit) (k : Int × Int) (hl : s.length ≤ 24) : VPure Tryz.prog 133 [encS s, .agg [.int .i64 k.1, .int .i64 k.2]] fun r => r = .int .i64 (isK s k) := by
 have hkt := kinT_len (fun _ => true) s
 have hks := kinT_len (fun n => decide (n = 1)) s
 have hm : s.length * (s.length + 1) ≤ 24 * 25 := Nat.mul_le_mul (by omega) (by omega)
 refine .of_body Tryz.func133 rfl rfl ?_
 refine .seq (.rn ?_)
 refine .seq (.seq ?_)
 refine .regionL [0,1,2,3,4,5,6] rfl zz0 ?_
 refine .rn [0] [1,2,3,4,5,6] ?_
 refine .pc rfl rfl rfl rfl rfl Tryz.call42 (p42 s (by omega)) ?_
 refine .rn [2,3,4,5,6] [] ?_
 refine .done (.seq ?_)
 refine .regionL [0,1,2] rfl zz0 ?_
 refine .rn [0,1] [2] ?_
 refine .pc rfl rfl rfl rfl rfl Tryz.call174 (p174 _ k (by omega)) ?_
 refine .done ?_
 refine .condS rfl (fun c16 => ?_) (fun c16 => ?_)
 ·try simp at c16
  refine .seq (.rn ?_)
  refine .ret ⟨_, _, zz4,zz4, ?_⟩
  rw [isK, if_pos c16]
 ·try simp at c16
  refine .skip (.seq (.seq ?_))
  refine .regionL [0,1,2,3,4,5,6] rfl zz0 ?_
  refine .rn [0] [1,2,3,4,5,6] ?_
  refine .pc rfl rfl rfl rfl rfl Tryz.call43 (p43 s (by omega)) ?_
  refine .rn [2,3,4,5,6] [] ?_
  refine .done (.seq ?_)
  refine .regionL [0,1,2] rfl zz0 ?_
  refine .rn [0,1] [2] ?_
  refine .pc rfl rfl rfl rfl rfl Tryz.call174 (p174 _ k (by omega)) ?_
  refine .done ?_
  refine .condS rfl (fun c24 => ?_) (fun c24 => ?_)
  ·try simp at c24
   refine .seq (.rn ?_)
   refine .ret ⟨_, _, zz4,zz4, ?_⟩
   rw [isK, if_neg c16, if_pos c24]
  ·try simp at c24
   refine .skip (.seq (.rn ?_))
   refine .ret ⟨_, _, zz4,zz4, ?_⟩
   rw [isK, if_neg c16, if_neg c24]
theorem p136 (w : Wit) (id : Int) : VPure Tryz.prog 136 [encW w, .vp [.int .i64 id]] fun r => r = .bool (!decide (w.id = id)) := by
 refine .of_body Tryz.func136 rfl rfl ?_
 refine .seq (.rn ?_)
 refine .seq (.rn ?_)
 refine .ret ⟨_, _, zz4,zz4, ?_⟩
 first | rfl | (simp [*]; done) | (simp_all; done)
theorem p135 (s : List Wit) (k : Int × Int) (now id : Int) (h : checkS s = 0) : VPure Tryz.prog 135 [.int .i64 id, .vp (encS s).cells, .vp [.int .i64 k.1, .int .i64 k.2], .vp [.int .i64 now]] fun r => r = .bool (delB s k now id) := by
 have hl24 := (checkS_ok h).1
 have hll : (lessI s id).length ≤ 24 := Nat.le_trans (List.length_filter_le _ _) hl24
 refine .of_body Tryz.func135 rfl rfl ?_
 refine .seq (.rn ?_)
 refine .seq ?_
 refine .rec (vts2 := [(1, .vp (encS s).cells),(2, .vp [.int .i64 k.1, .int .i64 k.2]),(3, .vp [.int .i64 now]),(4, .vp [.int .i64 id])]) (vh2 := ⟨1,[]⟩) (.mk [0] [] (by repeat' (first | exact trivial | refine And.intro (Exists.intro _ (And.intro rfl ?_)) ?_ | exact Alt.fptr 0 0 _ rfl rfl rfl (Nat.zero_le _) | (refine Alt.same _ ?_; first | rfl | (simp [*]; done)))) zz15 rfl rfl rfl) ?_
 refine .regionL [0,1,2,3,4] rfl zz0 ?_
 refine .rn [0,1] [2,3,4] ?_
 refine .pc rfl rfl rfl rfl rfl Tryz.call117 (p117 s (fun w => !decide (w.id = id)) 136 [] [.vp [.int .i64 id]] (by omega) (checkS_lens h) rfl rfl Tryz.call136 (fun w _ => p136 w id)) ?_
 refine .rn [3,4] [] ?_
 refine .done (.seq ?_)
 refine .drawn (ms := [0,0,2,7,15,31,31,95,255,511,1023,2047,2047,8191,2047,32767,65535,131071]) (W := [13]) (items := [.op 0, .op 1, .op 2, .op 3, .op 4, .op 5, .op 6, .op 7, .op 8, .op 9, .op 10, .op 11, .op 12, .op 14, .op 13, .ck 14, .op 15, .op 16, .op 17]) rfl zz0 zz0 zz0 ?_
 refine .rx ?_
 refine .rx ?_
 refine .rx ?_
 refine .rx ?_
 refine .rx ?_
 refine .split (t := 14) rfl (fun c14 => ?_) (fun c14 => ?_)
 ·try rw [c14]
  try simp at c14
  refine .ux ?_
  refine .ux ?_
  refine .ux ?_
  refine .ux ?_
  refine .rx ?_
  refine .rx ?_
  refine .ux ?_
  refine .ux ?_
  refine .ux ?_
  refine .ux ?_
  refine .ckU rfl rfl rfl ?_
  refine .ux ?_
  refine .rx ?_
  refine .rx ?_
  refine .done (.ret ⟨_, _, zz4,zz4, ?_⟩)
  simp [delB, c14]
 ·try rw [c14]
  try simp at c14
  refine .rx ?_
  refine .rx ?_
  refine .rx ?_
  refine .rx ?_
  refine .rx ?_
  refine .rx ?_
  refine .split (t := 20) rfl (fun c20 => ?_) (fun c20 => ?_)
  ·try rw [c20]
   try simp at c20
   refine .ux ?_
   refine .ux ?_
   refine .ux ?_
   refine .ux ?_
   refine .ckU rfl rfl rfl ?_
   refine .ux ?_
   refine .rx ?_
   refine .rx ?_
   refine .done (.ret ⟨_, _, zz4,zz4, ?_⟩)
   simp [delB, c14, c20]
  ·try rw [c20]
   try simp at c20
   refine .rx ?_
   refine .rx ?_
   refine .rx ?_
   refine .wp rfl rfl rfl rfl rfl Tryz.call133 (p133 (lessI s id) k hll) ?_
   refine .ck rfl zz0 ?_
   refine .rx ?_
   refine .rx ?_
   refine .rx ?_
   refine .done (.ret ⟨_, _, zz4,zz4, ?_⟩)
   simp [delB, c14, c20, dec_beq]
theorem p57a (s : List Wit) (k : Int × Int) (hl : s.length < 4294967296) : VPure Tryz.prog 57 [encS s, .agg [.int .i64 k.1, .int .i64 k.2]] fun r => Soft r (.tup [ints (if kinE (kinR s k.1 k.2) = 0 then resL s k else []), .int .i64 (kinE (kinR s k.1 k.2))]) := by
 refine .of_body Tryz.func57 rfl rfl ?_
 rcases hk : kinR s k.1 k.2 with e | c | ⟨c, p⟩
 ·
  have he := kinR_err hk
  have hp100 := p100 s k.1 k.2 hl
  rw [hk] at hp100
  simp only [KinR.enc] at hp100
  refine .seq (.rn ?_)
  refine .seq (.seq ?_)
  refine .regionL [0,1,2,3,4,5,6,7,8,9,10] rfl zz0 ?_
  refine .rn [0,1] [2,3,4,5,6,7,8,9,10] ?_
  refine .pc rfl rfl rfl rfl rfl Tryz.call100 (hp100) ?_
  refine .rn [3,4,5,6,7,8,9,10] [] ?_
  refine .done (.seq (.rn ?_))
  refine .condS rfl (fun c18 => ?_) (fun c18 => ?_)
  ·try simp at c18
   refine .seq (.rn ?_)
   refine .ret ⟨_, _, zz4,zz4, ?_⟩
   rw [show kinE (.err e) = e from rfl, if_neg he]
   exact soft_tup (AltL.cons .sl0v (AltL.cons (.same _ rfl) AltL.nil))
  ·try simp at c18
   exact absurd c18 he
 ·
  obtain ⟨hc0, hg, -⟩ := kinR_text hk
  have hl24 := (checkS_ok hc0).1
  have hne : 0 < s.length := List.length_pos_iff.2 (List.ne_nil_of_mem (getW_mem hg).1)
  have hl2 : (idsS s).length < 4294967296 := by have := idsS_len s; omega
  have hne2 : 0 < (idsS s).length := by have := idsS_len s; omega
  have hp100 := p100 s k.1 k.2 hl
  rw [hk] at hp100
  simp only [KinR.enc] at hp100
  have hE := encW_e c
  refine .seq (.rn ?_)
  refine .seq (.seq ?_)
  refine .regionL [0,1,2,3,4,5,6,7,8,9,10] rfl zz0 ?_
  refine .rn [0,1] [2,3,4,5,6,7,8,9,10] ?_
  refine .pc rfl rfl rfl rfl rfl Tryz.call100 (hp100) ?_
  refine .rn [3,4,5,6,7,8,9,10] [] ?_
  refine .done (.seq (.rn ?_))
  refine .condS rfl (fun c18 => ?_) (fun c18 => ?_)
  ·try simp at c18
  ·try simp at c18
   refine .skip (.seq ?_)
   refine .regionL [0,1,2,3,4] rfl zz0 ?_
   refine .rn [0,1] [2,3,4] ?_
   refine .pc rfl rfl rfl rfl rfl Tryz.call133 (p133 s k hl24) ?_
   refine .rn [3,4] [] ?_
   refine .done (.seq ?_)
   refine .rec (vts2 := [(2, .vp (encS s).cells),(3, .vp [.int .i64 k.1, .int .i64 k.2]),(9, .vp [.int .i64 (isK s k)])]) (vh2 := ⟨4,[]⟩) (.mk [0,1,2,3] [] (by repeat' (first | exact trivial | refine And.intro (Exists.intro _ (And.intro rfl ?_)) ?_ | exact Alt.fptr 0 0 _ rfl rfl rfl (Nat.zero_le _) | exact Alt.fptr 1 0 _ rfl rfl rfl (Nat.zero_le _) | exact Alt.fptr 3 0 _ rfl rfl rfl (Nat.zero_le _))) zz15 rfl rfl rfl) ?_
   refine .regionL [0,1,2,3,4,5] rfl zz0 ?_
   refine .rn [0] [1,2,3,4,5] ?_
   refine .step rfl rfl (.call rfl rfl rfl Tryz.call99 (by decide) (((VCall.fresh' (by simp) (p99g s hl hne) rfl hne2)).mono ?_))
   rintro _ _ ⟨rfl, rfl⟩
   refine .rn [2] [3,4,5] ?_
   refine .step rfl rfl (.call rfl rfl rfl Tryz.call134 (by decide) (((give134 (idsS s) (fun a => delB s k (isK s k) a) 135 [] [.vp (encS s).cells, .vp [.int .i64 k.1, .int .i64 k.2], .vp [.int .i64 (isK s k)]] hl2 hne2 rfl rfl Tryz.call135 (fun a _ => p135 s k (isK s k) a hc0) 4 false rfl)).mono ?_))
   rintro _ _ ⟨rfl, rfl⟩
   refine .rn [4,5] [] ?_
   refine .done (.ret ⟨_, _, zz4,zz4, ?_⟩)
   rw [show kinE (.text c) = 0 from rfl, if_pos rfl]
   show Soft _ _
   exact soft_rfl rfl
 ·
  obtain ⟨hc0, hg, -, hg2⟩ := kinR_of hk
  have hl24 := (checkS_ok hc0).1
  have hne : 0 < s.length := List.length_pos_iff.2 (List.ne_nil_of_mem (getW_mem hg).1)
  have hl2 : (idsS s).length < 4294967296 := by have := idsS_len s; omega
  have hne2 : 0 < (idsS s).length := by have := idsS_len s; omega
  have hp100 := p100 s k.1 k.2 hl
  rw [hk] at hp100
  simp only [KinR.enc] at hp100
  have hE := encW_e c
  refine .seq (.rn ?_)
  refine .seq (.seq ?_)
  refine .regionL [0,1,2,3,4,5,6,7,8,9,10] rfl zz0 ?_
  refine .rn [0,1] [2,3,4,5,6,7,8,9,10] ?_
  refine .pc rfl rfl rfl rfl rfl Tryz.call100 (hp100) ?_
  refine .rn [3,4,5,6,7,8,9,10] [] ?_
  refine .done (.seq (.rn ?_))
  refine .condS rfl (fun c18 => ?_) (fun c18 => ?_)
  ·try simp at c18
  ·try simp at c18
   refine .skip (.seq ?_)
   refine .regionL [0,1,2,3,4] rfl zz0 ?_
   refine .rn [0,1] [2,3,4] ?_
   refine .pc rfl rfl rfl rfl rfl Tryz.call133 (p133 s k hl24) ?_
   refine .rn [3,4] [] ?_
   refine .done (.seq ?_)
   refine .rec (vts2 := [(2, .vp (encS s).cells),(3, .vp [.int .i64 k.1, .int .i64 k.2]),(9, .vp [.int .i64 (isK s k)])]) (vh2 := ⟨4,[]⟩) (.mk [0,1,2,3] [] (by repeat' (first | exact trivial | refine And.intro (Exists.intro _ (And.intro rfl ?_)) ?_ | exact Alt.fptr 0 0 _ rfl rfl rfl (Nat.zero_le _) | exact Alt.fptr 1 0 _ rfl rfl rfl (Nat.zero_le _) | exact Alt.fptr 3 0 _ rfl rfl rfl (Nat.zero_le _))) zz15 rfl rfl rfl) ?_
   refine .regionL [0,1,2,3,4,5] rfl zz0 ?_
   refine .rn [0] [1,2,3,4,5] ?_
   refine .step rfl rfl (.call rfl rfl rfl Tryz.call99 (by decide) (((VCall.fresh' (by simp) (p99g s hl hne) rfl hne2)).mono ?_))
   rintro _ _ ⟨rfl, rfl⟩
   refine .rn [2] [3,4,5] ?_
   refine .step rfl rfl (.call rfl rfl rfl Tryz.call134 (by decide) (((give134 (idsS s) (fun a => delB s k (isK s k) a) 135 [] [.vp (encS s).cells, .vp [.int .i64 k.1, .int .i64 k.2], .vp [.int .i64 (isK s k)]] hl2 hne2 rfl rfl Tryz.call135 (fun a _ => p135 s k (isK s k) a hc0) 4 false rfl)).mono ?_))
   rintro _ _ ⟨rfl, rfl⟩
   refine .rn [4,5] [] ?_
   refine .done (.ret ⟨_, _, zz4,zz4, ?_⟩)
   rw [show kinE (.of c p) = 0 from rfl, if_pos rfl]
   show Soft _ _
   exact soft_rfl rfl
theorem p57 (s : List Wit) (x y : Int) (hl : s.length < 4294967296) : VPure Tryz.prog 57 [encS s, .agg [.int .i64 x, .int .i64 y]] fun r => r = .tup [ints (if kinE (kinR s x y) = 0 then resL s (x, y) else []), .int .i64 (kinE (kinR s x y))] := VPure.soft (p57a s (x, y) hl) rfl
attribute [local simp] zW tup2
attribute [local simp] zW tup2
def kvM (l : List (Int × Int)) : List (Int × PV) := l.map fun x => (x.1, .int .u32 x.2)
def getM (l : List (Int × Int)) (n : Int) : Option Int := (l.find? fun x => decide (x.1 = n)).map (·.2)
theorem pfind_kvM (n : Int) : ∀ l : List (Int × Int), pfind .i64 n (kvs (kvM l)) = some ((getM l n).map (PV.int .u32))
 | [] => rfl
 | x :: r => by
  have ih := pfind_kvM n r
  unfold getM kvM kvs at ih ⊢
  simp only [List.map_cons, pfind, decide_true, cond_true]
  rw [ih, List.find?_cons]
  cases h : decide (x.1 = n) <;> simp
def orV (a b : Int) : Int := IntKind.u32.wrap ((BitVec.ofInt 32 a ||| BitVec.ofInt 32 b).toNat : Int)
def bitV (k : Nat) : Int := IntKind.u32.wrap (2 ^ min k 32)
@[local simp ↓ high] theorem aint_or32 (a b : Int) : aint .or .u32 a b = some (.int .u32 (orV a b)) := rfl
@[local simp ↓ high] theorem ashl32 (k : Nat) : ashift .shl .u32 1 (k : Int) = some (.int .u32 (bitV k)) := by
 unfold ashift bitV
 have h : ¬ ((k : Int) < 0) := by omega
 rw [decide_eq_false h, cond_false, Int.toNat_natCast, Int.one_mul]; rfl
end Go.Am.Ds
end
section
namespace Go.Am.Ds
open Go Go.Am Go.Proofs
end Go.Am.Ds
end
section
namespace Go.Am.Ds
open Go Go.Am Go.Proofs
attribute [local simp] vrun vwanted vyielded vop vopA vputAll VHeap.back hidI hidF backL bm Nat.testBit_eq_decide_div_mod_eq veval vevals vparts vO vbuiltin vlen vappend velems vcopy vmakeSlice vbuildSlice valloc vbox vmakeMap vload vpartT vpart vstore vfieldAddr vfield vindexAddr vindex vextract vslice vsliceZ vbounds vbnd zeroO vidx vlookup vmget vmapUpdate vdelete vclear vnilq vnilp vnils vbin vsc vsc1 vscs vscl abinOp aint ashift aunOp aconvert amaxs amax2 pvcV pvc pvcs tput tget vargs VHeap.get VHeap.alloc VHeap.put VHeap.drop VHeap.empty vlook vput vdrop psplice pfill preps chunk List.range List.range.loop vresults vresult vresultV frz frzL PV.isF PV.allF PV.scal PV.allS retP subT allFT PV.one PV.ids PV.idsL dropL beq_eq ble_dec blt_dec
attribute [local simp] zW tup2
end Go.Am.Ds
end
section
namespace Go.Am.Ds
open Go Go.Am Go.Proofs
def meetI (s : List Wit) (l : List Int) (a b : Int) : Int := ((chI s l a).find? fun x => decide (x ∈ chI s l b)).getD 0
def meetE (s : List Wit) (l : List Int) (a b : Int) : Int := if checkS s = 0 then (if getW s a = none ∨ getW s b = none then 5 else askE s l a false) else checkS s
def meetR (s : List Wit) (l : List Int) (a b : Int) : Int := if meetE s l a b = 0 then meetI s l a b else 0
section
variable {s : List Wit} {l : List Int} (h : checkS s = 0) (hd : (desR s l).2 = true)
include h hd
end
section
variable {s : List Wit} {l : List Int} (h : checkS s = 0) (hd : (desR s l).2 = true)
include h hd
end
end Go.Am.Ds
end
section
namespace Go.Am.Ds
open Go Go.Am Go.Proofs
attribute [local simp] vrun vwanted vyielded vop vopA vputAll VHeap.back hidI hidF backL bm Nat.testBit_eq_decide_div_mod_eq veval vevals vparts vO vbuiltin vlen vappend velems vcopy vmakeSlice vbuildSlice valloc vbox vmakeMap vload vpartT vpart vstore vfieldAddr vfield vindexAddr vindex vextract vslice vsliceZ vbounds vbnd zeroO vidx vlookup vmget vmapUpdate vdelete vclear vnilq vnilp vnils vbin vsc vsc1 vscs vscl abinOp aint ashift aunOp aconvert amaxs amax2 pvcV pvc pvcs tput tget vargs VHeap.get VHeap.alloc VHeap.put VHeap.drop VHeap.empty vlook vput vdrop psplice pfill preps chunk List.range List.range.loop vresults vresult vresultV frz frzL PV.isF PV.allF PV.scal PV.allS retP subT allFT PV.one PV.ids PV.idsL dropL beq_eq ble_dec blt_dec
attribute [local simp] zW tup2
theorem p77 (s : List Wit) (l : List Int) (m a b : Int) (hl : s.length < 65536) (hlL : l.length < 4611686018427387904) : VPure Tryz.prog 77 [encS s, .agg [ints l, .int .i64 m], .int .i64 a, .int .i64 b] fun r => r = .tup [.int .i64 (meetR s l a b), .int .i64 (meetE s l a b)] := by
 refine .of_body Tryz.func77 rfl rfl ?_
 refine .seq (.rn ?_)
 refine .seq (.seq ?_)
 refine .regionL [0,1,2] rfl zz0 ?_
 refine .rn [0] [1,2] ?_
 refine .pc rfl rfl rfl rfl rfl Tryz.call35 (p35 s (by omega)) ?_
 refine .rn [2] [] ?_
 refine .done (.seq (.rn ?_))
 refine .condS rfl (fun c18 => ?_) (fun c18 => ?_)
 ·try simp at c18
  refine .seq (.rn ?_)
  refine .ret ⟨_, _, zz4,zz4, ?_⟩
  have e1 : meetE s l a b = checkS s := by unfold meetE; rw [if_neg c18]
  rw [meetR, e1, if_neg c18]
 ·try simp at c18
  refine .skip (.seq (.seq ?_))
  refine .regionL [0,1,2,3,4,5,6,7,8,9] rfl zz0 ?_
  refine .rn [0,1] [2,3,4,5,6,7,8,9] ?_
  refine .pc rfl rfl rfl rfl rfl Tryz.call105 (p105' s a (by omega)) ?_
  refine .rn [3,4] [5,6,7,8,9] ?_
  refine .split (t := 24) rfl (fun c24 => ?_) (fun c24 => ?_)
  ·try rw [c24]
   try simp at c24
   have hn := getW_none c24
   refine .rn [5,6,7,8,9] [] ?_
   refine .done (.condT rfl (.seq (.rn ?_)))
   refine .ret ⟨_, _, zz4,zz4, ?_⟩
   have e1 : meetE s l a b = 5 := by unfold meetE; rw [if_pos c18, if_pos (.inl hn)]
   rw [meetR, e1]; rfl
  ·try rw [c24]
   try simp at c24
   obtain ⟨i, hi, hie, hga⟩ := getW_some (show 0 ≤ findI s a by omega)
   refine .rn [5,6] [7,8,9] ?_
   refine .pc rfl rfl rfl rfl rfl Tryz.call105 (p105' s b (by omega)) ?_
   refine .rn [8,9] [] ?_
   refine .done ?_
   refine .condS rfl (fun c29 => ?_) (fun c29 => ?_)
   ·try simp at c29
    have hn := getW_none c29
    refine .seq (.rn ?_)
    refine .ret ⟨_, _, zz4,zz4, ?_⟩
    have e1 : meetE s l a b = 5 := by unfold meetE; rw [if_pos c18, if_pos (.inr hn)]
    rw [meetR, e1]; rfl
   ·try simp at c29
    obtain ⟨j, hj, hje, hgb⟩ := getW_some (show 0 ≤ findI s b by omega)
    have hE : meetE s l a b = askE s l a false := by
     unfold meetE; rw [if_pos c18, if_neg]
     rintro (h3 | h3)
     ·rw [hga] at h3; cases h3
     ·rw [hgb] at h3; cases h3
    refine .skip (.seq (.seq ?_))
    refine .regionL [0,1,2,3,4] rfl zz0 ?_
    refine .rn [0,1,2] [3,4] ?_
    refine .pc rfl rfl rfl rfl rfl Tryz.call142 (p142 s l m a false hl hlL) ?_
    refine .rn [4] [] ?_
    refine .done (.seq (.rn ?_))
    refine .condS rfl (fun c35 => ?_) (fun c35 => ?_)
    ·try simp at c35
     refine .seq (.rn ?_)
     refine .ret ⟨_, _, zz4,zz4, ?_⟩
     rw [meetR, hE, if_neg c35]
    ·try simp at c35
     obtain ⟨h0, hd, _⟩ := askE_ok c35
     have hE0 : meetE s l a b = 0 := by rw [hE, c35]
     have hR : meetR s l a b = meetI s l a b := by unfold meetR; rw [if_pos hE0]
     have hsa := chI_step h0 hd hga
     have hsb := chI_step h0 hd hgb
     have hla := chI_len h0 hd a
     have hlb := chI_len h0 hd b
     have hl24 := (checkS_ok h0).1
     have hfa : (froI s l a).length ≤ 24 := by rw [hsa, List.length_cons] at hla; omega
     have hfb : (froI s l b).length ≤ 24 := by rw [hsb, List.length_cons] at hlb; omega
     have hb1 : (froI s l a).length ≤ 4294967295 := by omega
     have hb2 : (froI s l b).length ≤ 4294967295 := by omega
     have hc1 : 1 + (froI s l a).length = (froI s l a).length + 1 := Nat.add_comm _ _
     have hc2 : 1 + (froI s l b).length = (froI s l b).length + 1 := Nat.add_comm _ _
     refine .skip (.seq ?_)
     refine .regionL [0,1,2,3,4,5,6,7] rfl zz0 ?_
     refine .rn [0,1,2,3,4] [5,6,7] ?_
     refine .pc rfl rfl rfl rfl rfl Tryz.call143 (p143 s l m b s[j] h0 hd hgb) ?_
     refine .rn [6,7] [] ?_
     refine .done (.seq (.seq ?_))
     refine .regionL [0,1,2,3,4,5,6,7,8] rfl zz0 ?_
     refine .rn [0,1,2,3,4] [5,6,7,8] ?_
     refine .pc rfl rfl rfl rfl rfl Tryz.call143 (p143 s l m a s[i] h0 hd hga) ?_
     refine .rn [6,7,8] [] ?_
     refine .done (.block ?_)
     refine .loopS (fun k : Nat => ([(12, ints (b :: froI s l b)),(50, ints (a :: froI s l a)),(51, .int .i64 (a :: froI s l a).length),(52, .int .i64 k)], ⟨6,[]⟩)) (fun k => k ≤ (a :: froI s l a).length ∧ (a :: froI s l a).find? (fun x => decide (x ∈ (b :: froI s l b))) = ((a :: froI s l a).drop k).find? (fun x => decide (x ∈ (b :: froI s l b)))) (fun k => (a :: froI s l a).length - k) 0 (by simp) (.mk [3,5] [] zz14 zz15 rfl rfl rfl) ?_
     rintro k ⟨hk, hf⟩
     simp only at hk hf ⊢
     have hmi : meetI s l a b = ((a :: froI s l a).find? (fun x => decide (x ∈ (b :: froI s l b)))).getD 0 := by unfold meetI; rw [hsa, hsb]
     generalize hA : a :: froI s l a = A at hk hf hmi ⊢
     generalize hB : b :: froI s l b = B at hf hmi ⊢
     have hAl : A.length ≤ 24 := by rw [← hA, ← hsa]; omega
     have hBl : B.length ≤ 24 := by rw [← hB, ← hsb]; omega
     clear hA hB
     refine .seq (.rn ?_)
     refine .seq ?_
     refine .condS rfl (fun c53 => ?_) (fun c53 => ?_)
     ·try simp at c53
      have hw2 := wr1 k
      rw [List.drop_eq_getElem_cons c53, List.find?_cons] at hf
      refine .skip (.seq (.block (.seq (.rn ?_))))
      refine .seq ?_
      refine .regionL [0,1,2] rfl zz0 ?_
      refine .rn [0,1] [2] ?_
      refine .pc rfl rfl rfl rfl rfl Tryz.call144 (p144d B A[k] (by omega)) ?_
      refine .done ?_
      refine .condS rfl (fun c58 => ?_) (fun c58 => ?_)
      ·try simp at c58
       rw [decide_eq_true c58] at hf
       refine .seq (.rn ?_)
       refine .ret ⟨_, _, zz4,zz4, ?_⟩
       rw [hR, hE0, hmi, hf]; rfl
      ·try simp at c58
       rw [decide_eq_false c58] at hf
       refine .skip (.rn ?_)
       refine ⟨k + 1, ⟨c53, hf⟩, zz5,(.mk [] [] zz14 zz15 rfl rfl rfl)⟩
     ·try simp at c53
      have hk2 : k = A.length := by omega
      rw [hk2, List.drop_length] at hf
      refine .exit (.seq (.rn ?_))
      refine .ret ⟨_, _, zz4,zz4, ?_⟩
      rw [hR, hE0, hmi, hf]; rfl
attribute [local simp] zW tup2
end Go.Am.Ds
end
section
namespace Go.Am
open Go Go.Proofs
theorem VPure.takeKK {P : Program} {vh : VHeap} {f : FuncId} {args args2 : List PV} {R : PV → Prop} (hp : VPure P f args2 R) (ha2 : frzL vh args = some args2) : VCallK P f args vh fun v vh' => vh' = dropL (PV.idsL args) vh ∧ R v := fun lo g σ h args' ha s => by
 have hA := frzDL_alt vh (fun i => (PV.idsL args).contains i) args args2 (fun i hi => by simpa using hi) ha2
 have ha0 := AltL.ok s hA ha
 have hF : PV.allF args2 = true := frzL_isF vh args args2 ha2
 have hle := more_le (D := fun i => (PV.idsL args).contains i) s
 have hS : VS lo (g.more σ vh h fun i => (PV.idsL args).contains i) σ (dropL (PV.idsL args) vh) h := by
  refine ⟨fun j y hy => ?_, fun j k y z hy hz => s.inj j k y z (dropL_get _ _ _ _ hy).2 (dropL_get _ _ _ _ hz).2, fun j y hy => s.low j y (dropL_get _ _ _ _ hy).2, more_fz s, fun j y hy hl => ?_, s.lole⟩
  ·obtain ⟨k1, k2⟩ := s.obj j y (dropL_get _ _ _ _ hy).2
   rw [dropL_next]
   exact ⟨k1, k2.mono hle (Nat.le_refl _) (fun _ _ => rfl) k1 fun _ => rfl⟩
  ·obtain ⟨h1, h2⟩ := dropL_get _ _ _ _ hy
   unfold Fz.more
   rw [if_neg]
   ·exact s.dis j y h2 hl
   ·rintro ⟨i, z, k1, k2, k3, k4⟩
    have := s.inj i j z y k2 h2 k3 hl k4
    subst this
    exact h1 (by simpa using k1)
 have hVF : VF σ vh h σ (dropL (PV.idsL args) vh) h := ⟨Nat.le_refl _, fun _ _ _ => rfl, fun j y hy hl _ => ⟨j, y, (dropL_get _ _ _ _ hy).2, hl, rfl⟩⟩
 refine ((hp.callK (vh := dropL (PV.idsL args) vh) hF) lo _ σ h args' (ha0.isF hF).vr hS).mono fun r h' ⟨h0, g', σ', v, vh', h1, h2, h3, h4, h5, h6, h7, h8⟩ => ?_
 rw [dropL_next] at h4 h6
 exact ⟨h0, g', σ', v, vh', h1, h2, Fz.le_trans hle h3, h4, hVF.trans h5, h6, more_own.trans hVF h7, h8⟩
theorem VWStep.takeK {P : Program} {N b : Nat} {vts : VTs} {vh : VHeap} {ops : Array Oper} {todo : List Nat} {o : Oper} {next : List Nat → VTs → VHeap → Prop} {fo : Operand} {args : Array Operand} {aT : Array TypeId} {f : FuncId} {xs ys l args2 : List PV} {R : PV → Prop} (ho : o.op = .call ⟨.value fo, args, aT⟩)
  (hf : veval vts fo = some (.func f xs ys)) (hl : vevals vts args.toList = some l) (hcf : ∀ cs w, (callFunc f cs).run P w = .ok (.enter f cs) w) (hd : dstOK N o.dst = true)
  (hz : frzL vh (xs ++ l ++ ys) = some args2) (hp : VPure P f args2 R) (hn : ∀ r, R r → next (todoF ops todo o.dst) (tput vts o.dst r) (dropL (PV.idsL (xs ++ l ++ ys)) vh)) : VWStep P N b ops o todo next vts vh :=
 .callK ho hf hl hcf hd ((hp.takeKK hz).mono fun r vh' ⟨h1, h2⟩ => h1 ▸ hn r h2)
end Go.Am
end
section
namespace Go.Am.Ds
open Go Go.Am Go.Proofs
def hdB (s : List Wit) (p : Wit → Bool) (id : Int) : Bool := match getW s id with
 | some w => p w
 | none => false
def hdS (s : List Wit) (p : Wit → Bool) : List Int := (idsS s).filter (hdB s p)
def hasP (n : Int) (w : Wit) : Bool := decide (n ∈ w.slips)
end Go.Am.Ds
end
section
namespace Go.Am.Ds
open Go Go.Am Go.Proofs
attribute [local simp] vrun vwanted vyielded vop vopA vputAll VHeap.back hidI hidF backL bm Nat.testBit_eq_decide_div_mod_eq veval vevals vparts vO vbuiltin vlen vappend velems vcopy vmakeSlice vbuildSlice valloc vbox vmakeMap vload vpartT vpart vstore vfieldAddr vfield vindexAddr vindex vextract vslice vsliceZ vbounds vbnd zeroO vidx vlookup vmget vmapUpdate vdelete vclear vnilq vnilp vnils vbin vsc vsc1 vscs vscl abinOp aint ashift aunOp aconvert amaxs amax2 pvcV pvc pvcs tput tget vargs VHeap.get VHeap.alloc VHeap.put VHeap.drop VHeap.empty vlook vput vdrop psplice pfill preps chunk List.range List.range.loop vresults vresult vresultV frz frzL PV.isF PV.allF PV.scal PV.allS retP subT allFT PV.one PV.ids PV.idsL dropL beq_eq ble_dec blt_dec
attribute [local simp] zW tup2
def hlL (s : List Wit) (n : Int) : List Int := if checkS s = 0 then hdS s (hasP n) else []
def gM (l : List (Int × Int)) (n : Int) : Int := (getM l n).getD 0
@[local simp ↓ high] theorem vlk (vh : VHeap) (l : List (Int × Int)) (n : Int) : vlookup Tryz.prog vh 139 (.vmap (kvs (kvM l))) (.int .i64 n) false = some (.int .u32 (gM l n)) := by
 unfold vlookup gM
 rw [ky139]
 simp only [vmget, pfind_kvM]
 cases getM l n with
 | none => simp
 | some v => simp
attribute [local simp] zW tup2
def puF (s : List Wit) (p : Wit → Bool) (k : Nat) : List Int := (s.take k).foldl (fun o w => if p w = true then putS o w.id else o) []
theorem puF_succ (s : List Wit) (p : Wit → Bool) (k : Nat) (h : k < s.length) : puF s p (k + 1) = if p s[k] = true then putS (puF s p k) s[k].id else puF s p k := by
 unfold puF; rw [List.take_succ_eq_append_getElem h, List.foldl_append]; rfl
theorem puF_len (s : List Wit) (p : Wit → Bool) : ∀ k, k ≤ s.length → (puF s p k).length ≤ k
 | 0, _ => by simp [puF]
 | k + 1, h => by
  rw [puF_succ s p k (by omega)]
  have := puF_len s p k (by omega)
  split
  ·have := putS_len (puF s p k) s[k].id; omega
  ·omega
theorem puF_all {s : List Wit} (h : checkS s = 0) (p : Wit → Bool) (q : Int → Bool) (hq : ∀ w ∈ s, q w.id = p w) : puF s p s.length = (idsS s).filter q := by
 unfold puF
 rw [List.take_length]
 have h1 : ∀ (l : List Wit) (o : List Int), o.Pairwise (· < ·) → (l.foldl (fun o w => if p w = true then putS o w.id else o) o).Pairwise (· < ·) := by
  intro l
  induction l with
  | nil => intro o h; exact h
  | cons a r ih =>
   intro o h
   refine ih _ ?_
   show List.Pairwise (· < ·) (if p a = true then putS o a.id else o)
   split
   ·exact putS_sorted h
   ·exact h
 have h2 : ∀ (l : List Wit) (o : List Int) (b : Int), b ∈ l.foldl (fun o w => if p w = true then putS o w.id else o) o ↔ b ∈ o ∨ ∃ w ∈ l, w.id = b ∧ p w = true := by
  intro l
  induction l with
  | nil => intro o b; simp
  | cons a r ih =>
   intro o b
   rw [List.foldl_cons, ih]
   have : b ∈ (if p a = true then putS o a.id else o) ↔ b ∈ o ∨ (a.id = b ∧ p a = true) := by
    split
    ·rename_i h3; rw [putS_mem]; exact ⟨fun h4 => h4.imp_right fun h5 => ⟨h5.symm, h3⟩, fun h4 => h4.imp_right fun h5 => h5.1.symm⟩
    ·rename_i h3; exact ⟨.inl, fun h4 => h4.elim id fun h5 => absurd h5.2 h3⟩
   rw [this]
   constructor
   ·rintro ((h3 | h3) | ⟨w, h3, h4⟩)
    ·exact .inl h3
    ·exact .inr ⟨a, List.mem_cons_self, h3⟩
    ·exact .inr ⟨w, List.mem_cons_of_mem _ h3, h4⟩
   ·rintro (h3 | ⟨w, h3, h4⟩)
    ·exact .inl (.inl h3)
    ·rcases List.mem_cons.1 h3 with rfl | h3
     ·exact .inl (.inr h4)
     ·exact .inr ⟨w, h3, h4⟩
 refine strict_eq (h1 s [] .nil) ((idsS_sorted (checkS_nodup h)).sublist List.filter_sublist) fun b => ?_
 rw [h2, List.mem_filter, idsS_mem]
 constructor
 ·rintro (h3 | ⟨w, hw, rfl, h3⟩)
  ·cases h3
  ·exact ⟨⟨w, hw, rfl⟩, by rw [hq w hw]; exact h3⟩
 ·rintro ⟨⟨w, hw, rfl⟩, h3⟩
  exact .inr ⟨w, hw, rfl, by rw [← hq w hw]; exact h3⟩
theorem p146 (s : List Wit) (l : List Int) (id : Int) (c : Wit) (h : checkS s = 0) (hd : (desR s l).2 = true) (hg : getW s id = some c) : VPure Tryz.prog 146 [encS s, ints l, .int .i64 id] fun r => r = ints (froI s l id) := by
 have hl24 := (checkS_ok h).1
 have hel := (des_len hd).1
 refine .of_body Tryz.func146 rfl rfl ?_
 refine .seq (.rn ?_)
 refine .seq (.rn ?_)
 refine .seq (.seq (.rn ?_))
 refine .block ?_
 refine .loopS (fun st : Nat × List Int × Int => ([(1, ints l),(2, .int .i64 st.2.2),(3, .ptr 0 0),(7, .grow 1 st.2.1.length true),(8, .int .i64 st.1)], ⟨2,[(1, .grow 1 (st.2.1.map (.int .i64))),(0, .box [.vec (s.map encW)])]⟩)) (fun st => st.1 = st.2.1.length ∧ (∃ c2, getW s st.2.2 = some c2) ∧ froI s l id = st.2.1 ++ froI s l st.2.2) (fun st => s.length + 1 - st.1) (0,[], id) ⟨rfl, ⟨c, hg⟩, rfl⟩ (.mk [] [] zz14 zz15 rfl rfl rfl) ?_
 rintro ⟨n, o, x⟩ ⟨hn, ⟨c2, hg2⟩, ho⟩
 simp only at hn hg2 ho ⊢
 subst hn
 have hol : o.length + (froI s l x).length ≤ s.length := by
  have h1 : (froI s l id).length ≤ s.length := chI_len h hd _
  rw [ho, List.length_append] at h1; exact h1
 obtain ⟨i, hi, hi2, hie, hci, hup⟩ := up_at hd hg2
 have hmx : (if 0 < i then (i : Int) else 0) = (i : Int) := by split <;> omega
 refine .seq (.seq (.rn ?_))
 refine .condS rfl (fun c13 => ?_) (fun c13 => ?_)
 ·try simp at c13
  have hw2 : IntKind.i64.wrap ((o.length : Int) + 1) = (o.length : Int) + 1 := wrap64 (by omega) (by omega)
  refine .skip (.seq (.block (.seq ?_)))
  refine .regionL [0,1,2,3] rfl zz0 ?_
  refine .rn [0,1] [2,3] ?_
  refine .pc rfl rfl rfl rfl rfl Tryz.call104 ((by have h := p104 s x (by omega); rw [hie] at h; exact h)) ?_
  refine .rn [3] [] ?_
  refine .done (.seq (.seq ?_))
  refine .regionL [0,1,2,3,4,5,6,7,8,9] rfl zz0 ?_
  refine .rn [0,1,2] [3,4,5,6,7,8,9] ?_
  refine .split (t := 21) rfl (fun c21 => ?_) (fun c21 => ?_)
  ·try rw [c21]
   try simp at c21
   exfalso; omega
  ·try rw [c21]
   try simp at c21
   refine .rn [3,4,5,6,7,8,9] [] ?_
   refine .done ?_
   refine .condS rfl (fun c28 => ?_) (fun c28 => ?_)
   ·try simp at c28
    have hfx : froI s l x = [] := by unfold froI; rw [c28, chI_zero]
    have hfr : froI s l id = o := by rw [ho, hfx, List.append_nil]
    refine .exit (.seq (.rn ?_))
    refine .ret ⟨_, _, zz4,zz4, ?_⟩
    first | rfl | (simp [*]; done) | (simp_all; done)
   ·try simp at c28
    obtain ⟨c3, hg3⟩ := (up_ok hd hg2).resolve_left c28
    have hst : froI s l x = upI s l x :: froI s l (upI s l x) := by unfold froI; rw [chI_step h hd hg3]; rfl
    have hone : allOne [PV.int IntKind.i64 (upI s l x)] = true := rfl
    have hb : o.length ≤ 4294967295 := by omega
    have hl1 : (froI s l x).length = (froI s l (upI s l x)).length + 1 := by rw [hst]; rfl
    refine .skip (.seq (.rn ?_))
    refine .rn ?_
    refine .rn ?_
    refine ⟨(o.length + 1, o ++ [upI s l x], upI s l x), ⟨by simp, ⟨c3, hg3⟩, by rw [ho, hst]; simp⟩, by simp only; omega, (.mk [] [(1,3)] zz14 zz15 rfl rfl rfl)⟩
 ·try simp at c13
  exfalso; omega
attribute [local simp] zW tup2
theorem few_40c {s : List Wit} (h : fewS s = true) : s.length ≤ 40 := by
 unfold fewS at h
 simp only [Bool.and_eq_true, Bool.not_eq_true', Bool.or_eq_true, decide_eq_true_eq] at h
 omega
theorem bestP_len (s : List Wit) : (bestP s).length ≤ s.length := by
 unfold bestP
 by_cases h : chE s = 0
 ·simp [chL_len h]
 ·simp [chL_no h]
attribute [local simp] zW tup2
theorem p194 (l : List (Int × Int)) (v : Int × Int) (hl : l.length < 4294967296) : VPure Tryz.prog 194 [.vec (l.map encK), .agg [.int .i64 v.1, .int .i64 v.2]] fun r => r = .bool (decide (v ∈ l)) := by
 refine .of_body Tryz.func194 rfl rfl ?_
 refine .seq (.rn ?_)
 refine .seq (.seq (.rn ?_))
 refine .block ?_
 refine .loopS (fun s : Nat => ([(0, .vec (l.map encK)),(3, .ptr 0 0),(5, .int .i64 s)], ⟨1,[(0, .box [.int .i64 v.1, .int .i64 v.2])]⟩)) (fun s => s ≤ l.length ∧ decide (v ∈ l) = decide (v ∈ l.drop s)) (fun s => l.length - s) 0 ⟨by simp, by simp⟩ (.mk [] [] zz14 zz15 rfl rfl rfl) ?_
 rintro i ⟨hi, hr⟩
 simp only at hi hr ⊢
 refine .seq (.seq (.rn ?_))
 refine .condS rfl (fun c9 => ?_) (fun c9 => ?_)
 ·try simp at c9
  have hw2 := wr1 i
  have hE : encK l[i] = .agg [.int .i64 l[i].1, .int .i64 l[i].2] := rfl
  have hq := eq38d l[i] v
  rw [List.drop_eq_getElem_cons c9] at hr
  refine .skip (.seq (.block (.seq ?_)))
  refine .drawn (ms := [0,0,3,7,0,31]) (W := []) (items := [.op 0, .op 1, .op 2, .op 3, .op 4, .op 5]) rfl zz0 zz0 zz0 ?_
  refine .rx ?_
  refine .rx ?_
  refine .rx ?_
  refine .rx ?_
  refine .rx ?_
  refine .rx ?_
  refine .done ?_
  refine .condS rfl (fun c17 => ?_) (fun c17 => ?_)
  ·try simp at c17
   rw [show decide (v ∈ l[i] :: List.drop (i + 1) l) = true from decide_eq_true (by rw [c17]; exact List.mem_cons_self)] at hr
   refine .seq (.rn ?_)
   refine .ret ⟨_, _, zz4,zz4, ?_⟩
   rw [hr]
  ·try simp at c17
   rw [show decide (v ∈ l[i] :: List.drop (i + 1) l) = decide (v ∈ List.drop (i + 1) l) by rw [decide_eq_decide, List.mem_cons]; exact ⟨fun h => h.resolve_left fun h => c17 h.symm, .inr⟩] at hr
   refine .skip (.rn ?_)
   refine ⟨i + 1, ⟨c9, hr⟩, zz5,(.mk [] [] zz14 zz15 rfl rfl rfl)⟩
 ·try simp at c9
  have : i = l.length := by omega
  rw [this, List.drop_length] at hr
  refine .exit (.seq (.rn ?_))
  refine .ret ⟨_, _, zz4,zz4, ?_⟩
  rw [hr]; rfl
theorem p157 (s : List Wit) (k : Int × Int) (hl : s.length ≤ 24) (hli : ∀ w ∈ s, w.slips.length < 4294967296 ∧ w.mended.length < 4294967296 ∧ w.models.length < 4294967296) : VPure Tryz.prog 157 [encS s, .agg [.int .i64 k.1, .int .i64 k.2]] fun r => r = .int .i64 (isK s k) := by
 have hkt := kinT_len (fun _ => true) s
 have hks := kinT_len (fun n => decide (n = 1)) s
 have hm : s.length * (s.length + 1) ≤ 24 * 25 := Nat.mul_le_mul (by omega) (by omega)
 have hI : isK s k = if k ∈ kinT (fun n => decide (n = 1)) s then 2 else if k ∈ kinT (fun _ => true) s then 1 else 0 := rfl
 have q61 := p61 s (by omega) hli
 have q62 := p62 s (by omega) hli
 generalize kinT (fun _ => true) s = K1 at hkt hI q62
 generalize kinT (fun n => decide (n = 1)) s = K2 at hks hI q61
 refine .of_body Tryz.func157 rfl rfl ?_
 refine .seq (.rn ?_)
 refine .seq ?_
 refine .drawn (ms := [0,1,3,0,15,31]) (W := [1,4]) (items := [.op 0, .op 3, .op 1, .ck 3, .op 2, .op 4, .op 5]) rfl zz0 zz0 zz0 ?_
 refine .rx ?_
 refine .rx ?_
 refine .wp rfl rfl rfl rfl rfl Tryz.call61 (q61) ?_
 refine .ck rfl zz0 ?_
 refine .rx ?_
 refine .wp rfl rfl rfl rfl rfl Tryz.call194 (p194 K2 k (by omega)) ?_
 refine .rx ?_
 refine .done (.seq ?_)
 refine .drawn (ms := [0,1,3,0,15,31]) (W := [1,4]) (items := [.op 0, .op 3, .op 1, .ck 3, .op 2, .op 4, .op 5]) rfl zz0 zz0 zz0 ?_
 refine .rx ?_
 refine .rx ?_
 refine .wp rfl rfl rfl rfl rfl Tryz.call62 (q62) ?_
 refine .ck rfl zz0 ?_
 refine .rx ?_
 refine .wp rfl rfl rfl rfl rfl Tryz.call194 (p194 K1 k (by omega)) ?_
 refine .rx ?_
 refine .done (.seq (.seq (.rn ?_)))
 refine .condS rfl (fun c17 => ?_) (fun c17 => ?_)
 ·try simp at c17
  refine .seq (.rn ?_)
  refine .ret ⟨_, _, zz4,zz4, ?_⟩
  rw [hI, if_pos c17]
 ·try simp at c17
  refine .skip (.seq (.seq (.rn ?_)))
  refine .condS rfl (fun c18 => ?_) (fun c18 => ?_)
  ·try simp at c18
   refine .seq (.rn ?_)
   refine .ret ⟨_, _, zz4,zz4, ?_⟩
   rw [hI, if_neg c17, if_pos c18]
  ·try simp at c18
   refine .skip (.seq (.rn ?_))
   refine .ret ⟨_, _, zz4,zz4, ?_⟩
   rw [hI, if_neg c17, if_neg c18]
theorem p89a (s : List Wit) (hl : s.length < 4294967296) (hli : ∀ w ∈ s, w.slips.length < 4294967296 ∧ w.mended.length < 4294967296 ∧ w.models.length < 4294967296) : VPure Tryz.prog 89 [encS s] fun r => Soft r (.agg [ints (orpL s), .int .i64 (checkS s)]) := by
 refine .of_body Tryz.func89 rfl rfl ?_
 refine .seq (.rn ?_)
 refine .seq ?_
 refine .regionL [0,1,2] rfl zz0 ?_
 refine .rn [0] [1,2] ?_
 refine .pc rfl rfl rfl rfl rfl Tryz.call52 (p52 s hl hli) ?_
 refine .rn [2] [] ?_
 refine .done (.seq (.seq (.rn ?_)))
 refine .condS rfl (fun c9 => ?_) (fun c9 => ?_)
 ·try simp at c9
  refine .seq (.rn ?_)
  refine .ret ⟨_, _, zz4,zz4, ?_⟩
  rw [show orpL s = [] by unfold orpL; rw [if_neg c9]]
  exact .agg' (AltL.cons .sl0v (AltL.cons (.same _ rfl) AltL.nil))
 ·try simp at c9
  have hl24 := (checkS_ok c9).1
  refine .skip (.seq (.rn ?_))
  refine .seq (.seq (.rn ?_))
  refine .block ?_
  refine .loopS (fun k : Nat => ([(1, .ptr 0 0),(2, .ptr 1 0),(4, ints (puF s (orpW s) k)),(5, .int .i64 k)], ⟨2,[(1, .box [.sl0, .int .i64 0]),(0, .box [.vec (s.map encW)])]⟩)) (fun k => k ≤ s.length) (fun k => s.length - k) 0 (by simp) (.mk [] [] zz14 zz15 rfl rfl rfl) ?_
  rintro k hk
  simp only at hk ⊢
  have hfl := puF_len s (orpW s) k hk
  refine .seq (.seq (.rn ?_))
  refine .condS rfl (fun c16 => ?_) (fun c16 => ?_)
  ·try simp at c16
   have hw2 := wr1 k
   have hE := encW_e s[k]
   have hS := puF_succ s (orpW s) k c16
   have hO : orpW s s[k] = decide (modR s s[k] = []) := by
    unfold orpW; rw [← models_eq c9, Bool.eq_iff_iff]; simp
   refine .skip (.seq (.block (.seq ?_)))
   refine .regionL [0,1,2,3,4] rfl zz0 ?_
   refine .rn [0,1] [2,3,4] ?_
   refine .pc rfl rfl rfl rfl rfl Tryz.call107 (p107 s k c16 (okS_of c9)) ?_
   refine .rn [3,4] [] ?_
   refine .done ?_
   refine .condS rfl (fun c23 => ?_) (fun c23 => ?_)
   ·try simp at c23
    rw [if_pos (by rw [hO]; simp [c23])] at hS
    refine .regionL [0,1,2,3,4,5,6,7,8] rfl zz0 ?_
    refine .rn [0,1,2,3,4,5,6] [7,8] ?_
    refine .pc rfl rfl rfl rfl rfl Tryz.call147 (p147 (puF s (orpW s) k) s[k].id (by omega)) ?_
    refine .rn [8] [] ?_
    refine .done (.rn ?_)
    refine ⟨k + 1, c16,zz5,(.mk [] [] zz14 zz15 rfl rfl rfl)⟩
   ·try simp at c23
    rw [if_neg (by rw [hO]; simp [c23])] at hS
    refine .skip (.rn ?_)
    refine ⟨k + 1, c16,zz5,(.mk [] [] zz14 zz15 rfl rfl rfl)⟩
  ·try simp at c16
   have hk2 : k = s.length := by omega
   have hall : puF s (orpW s) s.length = (idsS s).filter (orpI s) := puF_all c9 _ _ fun w hw => orpI_own c9 hw
   refine .exit (.seq (.rn ?_))
   refine .ret ⟨_, _, zz4,zz4, ?_⟩
   rw [show orpL s = (idsS s).filter (orpI s) by unfold orpL; rw [if_pos c9], c9]
   exact soft_rfl rfl
theorem p40r (s : List Wit) (h : checkS s = 0) (hw : ∀ w ∈ s, w.slips.length < 4294967296 ∧ w.mended.length < 4294967296 ∧ w.models.length < 4294967296) (o : Int) : VPure Tryz.prog 40 [encS s, ints [o]] fun r => r = .agg [.vec ((lessI s o).map encW), .int .i64 0] := by
 have := p40 s [o] (by have := (checkS_ok h).1; omega) (by simp) hw
 rw [if_pos h, h] at this
 rw [show lessI s o = s.filter fun w => !decide (w.id ∈ [o]) from by unfold lessI; congr 1; funext w; simp]
 exact this
theorem kin_chk {s : List Wit} {x y : Int} (h : kinE (kinR s x y) = 0) : checkS s = 0 := Decidable.by_contra fun h0 => h0 (by rw [kinE_err h0] at h; exact h)
theorem p90a (s : List Wit) (k : Int × Int) (hl : s.length < 4294967296) (hli : ∀ w ∈ s, w.slips.length < 4294967296 ∧ w.mended.length < 4294967296 ∧ w.models.length < 4294967296) : VPure Tryz.prog 90 [encS s, .agg [.int .i64 k.1, .int .i64 k.2]] fun r => Soft r (.agg [ints (if kinE (kinR s k.1 k.2) = 0 then resL s k else []), .int .i64 (kinE (kinR s k.1 k.2))]) := by
 refine .of_body Tryz.func90 rfl rfl ?_
 refine .seq (.rn ?_)
 refine .seq ?_
 refine .regionL [0,1,2,3] rfl zz0 ?_
 refine .rn [0,1] [2,3] ?_
 refine .pc rfl rfl rfl rfl rfl Tryz.call102 (p102 s k.1 k.2 hl hli) ?_
 refine .rn [3] [] ?_
 refine .done (.seq (.seq (.rn ?_)))
 refine .condS rfl (fun c14 => ?_) (fun c14 => ?_)
 ·try simp at c14
  refine .seq (.rn ?_)
  refine .ret ⟨_, _, zz4,zz4, ?_⟩
  rw [if_neg c14]
  exact .agg' (AltL.cons .sl0v (AltL.cons (.same _ rfl) AltL.nil))
 ·try simp at c14
  have h0 := kin_chk c14
  have hl24 := (checkS_ok h0).1
  have q157 := p157 s k hl24 hli
  obtain ⟨now, hnow⟩ : ∃ x, isK s k = x := ⟨_, rfl⟩
  rw [hnow] at q157
  refine .skip (.seq ?_)
  refine .regionL [0,1,2,3] rfl zz0 ?_
  refine .rn [0,1] [2,3] ?_
  refine .pc rfl rfl rfl rfl rfl Tryz.call157 (q157) ?_
  refine .rn [3] [] ?_
  refine .done (.seq (.rn ?_))
  refine .seq (.seq (.rn ?_))
  refine .block ?_
  refine .loopS (fun i : Nat => ([(2, .ptr 0 0),(3, .ptr 1 0),(4, .ptr 2 0),(6, .int .i64 now),(7, ints (puF s (fun w => !delB s k now w.id) i)),(8, .int .i64 i)], ⟨3,[(2, .box [.sl0, .int .i64 0]),(1, .box [.int .i64 k.1, .int .i64 k.2]),(0, .box [.vec (s.map encW)])]⟩)) (fun i => i ≤ s.length) (fun i => s.length - i) 0 (by simp) (.mk [] [] zz14 zz15 rfl rfl rfl) ?_
  rintro i hi
  simp only at hi ⊢
  have hfl := puF_len s (fun w => !delB s k now w.id) i hi
  refine .seq (.seq (.rn ?_))
  refine .condS rfl (fun c24 => ?_) (fun c24 => ?_)
  ·try simp at c24
   have hw2 := wr1 i
   have hE := encW_e s[i]
   have hS := puF_succ s (fun w => !delB s k now w.id) i c24
   have hD : delB s k now s[i].id = (decide (s[i].id = k.1) || (decide (s[i].id = k.2) || decide (isK (lessI s s[i].id) k = now))) := rfl
   have hlw : ∀ w ∈ lessI s s[i].id, w.slips.length < 4294967296 ∧ w.mended.length < 4294967296 ∧ w.models.length < 4294967296 := fun w hw => hli w (List.mem_filter.1 hw).1
   have hll : (lessI s s[i].id).length ≤ 24 := Nat.le_trans (List.length_filter_le _ _) hl24
   have q40 := p40r s h0 hli s[i].id
   have q57 := p157 (lessI s s[i].id) k hll hlw
   rw [show encS (lessI s s[i].id) = .agg [.vec ((lessI s s[i].id).map encW)] from rfl] at q57
   refine .skip (.seq (.block (.seq (.rn ?_))))
   refine .seq ?_
   refine .drawn (ms := [0,0,2,7,15,31,31,95,255,511,1023,2047,2047,6143,16383,32767,2047,131071,2047,524287,1048575]) (W := [13,14,17]) (items := [.op 0, .op 1, .op 2, .op 3, .op 4, .op 5, .op 6, .op 7, .op 8, .op 9, .op 10, .op 11, .op 12, .op 16, .op 18, .op 13, .ck 16, .ck 11, .op 14, .ck 16, .op 15, .op 17, .op 19, .op 20]) rfl zz0 zz0 zz0 ?_
   refine .rx ?_
   refine .rx ?_
   refine .rx ?_
   refine .rx ?_
   refine .rx ?_
   refine .split (t := 37) rfl (fun c37 => ?_) (fun c37 => ?_)
   ·try rw [c37]
    try simp at c37
    refine .rx ?_
    refine .rx ?_
    refine .rx ?_
    refine .rx ?_
    refine .rx ?_
    refine .rx ?_
    refine .split (t := 43) rfl (fun c43 => ?_) (fun c43 => ?_)
    ·try rw [c43]
     try simp at c43
     refine .rx ?_
     refine .rx ?_
     refine .rx ?_
     refine .rx ?_
     refine .wv ?_
     refine .ck rfl zz0 ?_
     refine .ck rfl zz0 ?_
     refine .wr rfl rfl (by decide) (.takeK rfl rfl rfl Tryz.call40 (by decide) (by first | (simp <;> rfl) | (simp [*] <;> rfl) | (simp [*]; done)) (q40) ?_)
     rintro _ rfl
     refine .ck rfl zz0 ?_
     refine .rx ?_
     refine .wp rfl rfl rfl rfl rfl Tryz.call157 (q57) ?_
     refine .rx ?_
     refine .rx ?_
     refine .done ?_
     refine .condS rfl (fun c53 => ?_) (fun c53 => ?_)
     ·try simp at c53
      rw [if_pos (by rw [hD]; simp [*])] at hS
      refine .regionL [0,1,2,3] rfl zz0 ?_
      refine .rn [0,1] [2,3] ?_
      refine .pc rfl rfl rfl rfl rfl Tryz.call147 (p147 (puF s (fun w => !delB s k now w.id) i) s[i].id (by omega)) ?_
      refine .rn [3] [] ?_
      refine .done (.rn ?_)
      refine ⟨i + 1, c24,zz5,(.mk [] [] zz14 zz15 rfl rfl rfl)⟩
     ·try simp at c53
      rw [if_neg (by rw [hD]; simp [*])] at hS
      refine .skip (.rn ?_)
      refine ⟨i + 1, c24,zz5,(.mk [] [] zz14 zz15 rfl rfl rfl)⟩
    ·try rw [c43]
     try simp at c43
     rw [if_neg (by rw [hD]; simp [*])] at hS
     refine .ux ?_
     refine .ux ?_
     refine .ux ?_
     refine .ux ?_
     refine .ux ?_
     refine .ckU rfl rfl rfl ?_
     refine .ckU rfl rfl rfl ?_
     refine .ux ?_
     refine .ckU rfl rfl rfl ?_
     refine .ux ?_
     refine .ux ?_
     refine .ux ?_
     refine .rx ?_
     refine .done (.condF rfl (.skip (.rn ?_)))
     refine ⟨i + 1, c24,zz5,(.mk [] [] zz14 zz15 rfl rfl rfl)⟩
   ·try rw [c37]
    try simp at c37
    rw [if_neg (by rw [hD]; simp [*])] at hS
    refine .ux ?_
    refine .ux ?_
    refine .ux ?_
    refine .ux ?_
    refine .rx ?_
    refine .rx ?_
    refine .ux ?_
    refine .ux ?_
    refine .ux ?_
    refine .ux ?_
    refine .ux ?_
    refine .ckU rfl rfl rfl ?_
    refine .ckU rfl rfl rfl ?_
    refine .ux ?_
    refine .ckU rfl rfl rfl ?_
    refine .ux ?_
    refine .ux ?_
    refine .ux ?_
    refine .rx ?_
    refine .done (.condF rfl (.skip (.rn ?_)))
    refine ⟨i + 1, c24,zz5,(.mk [] [] zz14 zz15 rfl rfl rfl)⟩
  ·try simp at c24
   have hi2 : i = s.length := by omega
   have hall : puF s (fun w => !delB s k now w.id) s.length = resL s k := by unfold resL; rw [hnow]; exact puF_all h0 _ _ fun _ _ => rfl
   refine .exit (.seq (.rn ?_))
   refine .ret ⟨_, _, zz4,zz4, ?_⟩
   rw [if_pos c14, c14]
   exact soft_rfl rfl
theorem p91 (s : List Wit) (l : List Int) (m a b : Int) (hl : s.length < 4294967296) (hlL : l.length < 4611686018427387904) (hli : ∀ w ∈ s, w.slips.length < 4294967296 ∧ w.mended.length < 4294967296 ∧ w.models.length < 4294967296) : VPure Tryz.prog 91 [encS s, .agg [ints l, .int .i64 m], .int .i64 a, .int .i64 b] fun r => r = .agg [.int .i64 (meetR s l a b), .int .i64 (meetE s l a b)] := by
 refine .of_body Tryz.func91 rfl rfl ?_
 refine .seq (.rn ?_)
 refine .seq ?_
 refine .regionL [0,1,2] rfl zz0 ?_
 refine .rn [0] [1,2] ?_
 refine .pc rfl rfl rfl rfl rfl Tryz.call52 (p52 s hl hli) ?_
 refine .rn [2] [] ?_
 refine .done (.seq (.seq (.rn ?_)))
 refine .condS rfl (fun c18 => ?_) (fun c18 => ?_)
 ·try simp at c18
  refine .seq (.rn ?_)
  refine .ret ⟨_, _, zz4,zz4, ?_⟩
  have e1 : meetE s l a b = checkS s := by unfold meetE; rw [if_neg c18]
  rw [meetR, e1, if_neg c18]
 ·try simp at c18
  refine .skip (.seq (.seq ?_))
  refine .regionL [0,1,2,3,4,5,6,7,8,9] rfl zz0 ?_
  refine .rn [0,1] [2,3,4,5,6,7,8,9] ?_
  refine .pc rfl rfl rfl rfl rfl Tryz.call104 (p104 s a hl) ?_
  refine .rn [3,4] [5,6,7,8,9] ?_
  refine .split (t := 25) rfl (fun c25 => ?_) (fun c25 => ?_)
  ·try rw [c25]
   try simp at c25
   have hn := getW_none c25
   refine .rn [5,6,7,8,9] [] ?_
   refine .done (.condT rfl (.seq (.rn ?_)))
   refine .ret ⟨_, _, zz4,zz4, ?_⟩
   have e1 : meetE s l a b = 5 := by unfold meetE; rw [if_pos c18, if_pos (.inl hn)]
   rw [meetR, e1]; rfl
  ·try rw [c25]
   try simp at c25
   obtain ⟨i, hi, hie, hga⟩ := getW_some (show 0 ≤ findI s a by omega)
   refine .rn [5,6] [7,8,9] ?_
   refine .pc rfl rfl rfl rfl rfl Tryz.call104 (p104 s b hl) ?_
   refine .rn [8,9] [] ?_
   refine .done ?_
   refine .condS rfl (fun c30 => ?_) (fun c30 => ?_)
   ·try simp at c30
    have hn := getW_none c30
    refine .seq (.rn ?_)
    refine .ret ⟨_, _, zz4,zz4, ?_⟩
    have e1 : meetE s l a b = 5 := by unfold meetE; rw [if_pos c18, if_pos (.inr hn)]
    rw [meetR, e1]; rfl
   ·try simp at c30
    obtain ⟨j, hj, hje, hgb⟩ := getW_some (show 0 ≤ findI s b by omega)
    have hE : meetE s l a b = if (desR s l).2 = true then 0 else 1 := by
     unfold meetE; rw [if_pos c18, if_neg]
     ·unfold askE; rw [if_pos c18, if_neg (by rw [hga]; simp)]
     ·rintro (h3 | h3)
      ·rw [hga] at h3; cases h3
      ·rw [hgb] at h3; cases h3
    refine .skip (.seq ?_)
    refine .regionL [0,1,2,3,4] rfl zz0 ?_
    refine .rn [0,1,2] [3,4] ?_
    refine .pc rfl rfl rfl rfl rfl Tryz.call139 (p139 s l c18 hlL) ?_
    refine .rn [4] [] ?_
    refine .done (.seq (.seq (.rn ?_)))
    refine .condS rfl (fun c37 => ?_) (fun c37 => ?_)
    ·try simp at c37
     rw [if_neg (by simp [c37])] at hE
     refine .seq (.rn ?_)
     refine .ret ⟨_, _, zz4,zz4, ?_⟩
     rw [meetR, hE]; rfl
    ·try simp at c37
     rw [if_pos c37] at hE
     have hR : meetR s l a b = meetI s l a b := by unfold meetR; rw [if_pos hE]
     have hsa := chI_step c18 c37 hga
     have hsb := chI_step c18 c37 hgb
     have hla := chI_len c18 c37 a
     have hlb := chI_len c18 c37 b
     have hl24 := (checkS_ok c18).1
     have hfa : (froI s l a).length ≤ 24 := by rw [hsa, List.length_cons] at hla; omega
     have hfb : (froI s l b).length ≤ 24 := by rw [hsb, List.length_cons] at hlb; omega
     have hb1 : (froI s l a).length ≤ 4294967295 := by omega
     have hb2 : (froI s l b).length ≤ 4294967295 := by omega
     have hc1 : 1 + (froI s l a).length = (froI s l a).length + 1 := Nat.add_comm _ _
     have hc2 : 1 + (froI s l b).length = (froI s l b).length + 1 := Nat.add_comm _ _
     refine .skip (.seq ?_)
     refine .regionL [0,1,2,3,4,5,6,7,8] rfl zz0 ?_
     refine .rn [0,1,2,3,4,5] [6,7,8] ?_
     refine .pc rfl rfl rfl rfl rfl Tryz.call146 (p146 s l a s[i] c18 c37 hga) ?_
     refine .rn [7,8] [] ?_
     refine .done (.seq ?_)
     refine .regionL [0,1,2,3,4,5,6,7,8] rfl zz0 ?_
     refine .rn [0,1,2,3,4,5] [6,7,8] ?_
     refine .pc rfl rfl rfl rfl rfl Tryz.call146 (p146 s l b s[j] c18 c37 hgb) ?_
     refine .rn [7,8] [] ?_
     refine .done (.seq (.seq (.rn ?_)))
     refine .block ?_
     refine .loopS (fun k : Nat => ([(8, .ptr 2 0),(11, ints (a :: froI s l a)),(12, ints (b :: froI s l b)),(13, .int .i64 k)], ⟨7,[(2, .box [.int .i64 0, .int .i64 0])]⟩)) (fun k => k ≤ (a :: froI s l a).length ∧ (a :: froI s l a).find? (fun x => decide (x ∈ (b :: froI s l b))) = ((a :: froI s l a).drop k).find? (fun x => decide (x ∈ (b :: froI s l b)))) (fun k => (a :: froI s l a).length - k) 0 (by simp) (.mk [4,6] [] zz14 zz15 rfl rfl rfl) ?_
     rintro k ⟨hk, hf⟩
     simp only at hk hf ⊢
     have hmi : meetI s l a b = ((a :: froI s l a).find? (fun x => decide (x ∈ (b :: froI s l b)))).getD 0 := by unfold meetI; rw [hsa, hsb]
     generalize hA : a :: froI s l a = A at hk hf hmi ⊢
     generalize hB : b :: froI s l b = B at hf hmi ⊢
     have hAl : A.length ≤ 24 := by rw [← hA, ← hsa]; omega
     have hBl : B.length ≤ 24 := by rw [← hB, ← hsb]; omega
     clear hA hB
     refine .seq (.seq (.rn ?_))
     refine .condS rfl (fun c58 => ?_) (fun c58 => ?_)
     ·try simp at c58
      have hw2 := wr1 k
      rw [List.drop_eq_getElem_cons c58, List.find?_cons] at hf
      refine .skip (.seq (.block (.seq ?_)))
      refine .regionL [0,1,2,3,4,5,6] rfl zz0 ?_
      refine .rn [0,1,2,3,4] [5,6] ?_
      refine .pc rfl rfl rfl rfl rfl Tryz.call121 (p121 B A[k] (by omega)) ?_
      refine .rn [6] [] ?_
      refine .done (.seq (.rn ?_))
      refine .condS rfl (fun c67 => ?_) (fun c67 => ?_)
      ·try simp at c67
       rw [decide_eq_true c67] at hf
       refine .seq (.rn ?_)
       refine .ret ⟨_, _, zz4,zz4, ?_⟩
       rw [hR, hE, hmi, hf]; rfl
      ·try simp at c67
       rw [decide_eq_false c67] at hf
       refine .skip (.rn ?_)
       refine ⟨k + 1, ⟨c58, hf⟩, zz5,(.mk [] [] zz14 zz15 rfl rfl rfl)⟩
     ·try simp at c58
      have hk2 : k = A.length := by omega
      rw [hk2, List.drop_length] at hf
      refine .exit (.seq (.rn ?_))
      refine .ret ⟨_, _, zz4,zz4, ?_⟩
      rw [hR, hE, hmi, hf]; rfl
theorem p89 (s : List Wit) (hl : s.length < 4294967296) (hli : ∀ w ∈ s, w.slips.length < 4294967296 ∧ w.mended.length < 4294967296 ∧ w.models.length < 4294967296) : VPure Tryz.prog 89 [encS s] fun r => r = .agg [ints (orpL s), .int .i64 (checkS s)] := VPure.soft (p89a s hl hli) rfl
theorem p90 (s : List Wit) (x y : Int) (hl : s.length < 4294967296) (hli : ∀ w ∈ s, w.slips.length < 4294967296 ∧ w.mended.length < 4294967296 ∧ w.models.length < 4294967296) : VPure Tryz.prog 90 [encS s, .agg [.int .i64 x, .int .i64 y]] fun r => r = .agg [ints (if kinE (kinR s x y) = 0 then resL s (x, y) else []), .int .i64 (kinE (kinR s x y))] := VPure.soft (p90a s (x, y) hl hli) rfl
attribute [local simp] zW tup2
theorem p20 (s : List Wit) (x y a b : Int) (l : List Int) (m : Int) (hl : s.length < 4611686018427387904) (hlL : l.length < 4611686018427387904) (sanB : Bool) (hsan : VPure Tryz.prog 22 [] fun r => r = .bool sanB) (hsb : sanB = true) : VPure Tryz.prog 20 [encS s, .agg [.int .i64 x, .int .i64 y], .int .i64 a, .int .i64 b, .agg [ints l, .int .i64 m]] fun r => r = .bool true := by
 refine .of_body Tryz.func20 rfl rfl ?_
 refine .seq (.rn ?_)
 refine .seq (.seq ?_)
 refine .regionL [0,1,2,3,4,5,6,7,8] rfl zz0 ?_
 refine .rn [0] [1,2,3,4,5,6,7,8] ?_
 refine .pc rfl rfl rfl rfl rfl Tryz.call26 (p26 s hl) ?_
 refine .rn [2,3] [4,5,6,7,8] ?_
 refine .split (t := 28) rfl (fun c28 => ?_) (fun c28 => ?_)
 ·first | cases c28 | try rw [c28]
  try simp at c28
  refine .rn [4,5,6,7,8] [] ?_
  refine .done (.condT rfl (.seq ?_))
  refine .regionL [0,1] rfl zz0 ?_
  refine .pc rfl rfl rfl rfl rfl Tryz.call22 (hsan) ?_
  refine .rn [1] [] ?_
  refine .done (.ret ⟨_, _, zz4,zz4, ?_⟩)
  first | rfl | (simp [*]; done) | (simp_all; done)
 ·first | cases c28 | try rw [c28]
  try simp at c28
  obtain ⟨hl2, hw⟩ := fewS_len c28
  have h40 := few_40c c28
  have hO := orpL_len s
  have hB := bestP_len s
  have hS : (if kinE (kinR s x y) = 0 then resL s (x, y) else []).length ≤ s.length := by split; exact resL_len _ _; simp
  have q69 := p69 s hl2
  have q89 := p89 s hl2 hw
  have q57 := p57 s x y hl2
  have q90 := p90 s x y hl2 hw
  have q63 := p63' s (by omega)
  have q77a := p77 s l m a b (by omega) hlL
  have q91a := p91 s l m a b hl2 hlL hw
  have q77b := p77 s (bestP s) (bestS s (chL s).length) a b (by omega) (by omega)
  have q91b := p91 s (bestP s) (bestS s (chL s).length) a b hl2 (by omega) hw
  generalize orpL s = O at q69 q89 hO
  generalize checkS s = ck at q69 q89
  generalize (if kinE (kinR s x y) = 0 then resL s (x, y) else []) = R at q57 q90 hS
  generalize kinE (kinR s x y) = ke at q57 q90
  generalize meetR s l a b = n1 at q77a q91a
  generalize meetE s l a b = e1 at q77a q91a
  generalize meetR s (bestP s) a b = n2 at q77b q91b
  generalize meetE s (bestP s) a b = e2 at q77b q91b
  generalize bestP s = bp at q63 q77b q91b hB
  generalize bestS s (chL s).length = bn at q63 q77b q91b
  generalize chE s = ce at q63
  refine .rn [4,5] [6,7,8] ?_
  refine .pc rfl rfl rfl rfl rfl Tryz.call38 (p38 l) ?_
  refine .rn [7,8] [] ?_
  refine .done ?_
  refine .condS rfl (fun c33 => ?_) (fun c33 => ?_)
  ·try simp at c33
   refine .seq ?_
   refine .regionL [0,1] rfl zz0 ?_
   refine .pc rfl rfl rfl rfl rfl Tryz.call22 (hsan) ?_
   refine .rn [1] [] ?_
   refine .done (.ret ⟨_, _, zz4,zz4, ?_⟩)
   first | rfl | (simp [*]; done) | (simp_all; done)
  ·try simp at c33
   refine .skip (.seq ?_)
   refine .regionL [0,1,2,3,4,5,6] rfl zz0 ?_
   refine .rn [0] [1,2,3,4,5,6] ?_
   refine .pc rfl rfl rfl rfl rfl Tryz.call69 (q69) ?_
   refine .rn [2,3,4,5,6] [] ?_
   refine .done (.seq ?_)
   refine .regionL [0,1,2,3] rfl zz0 ?_
   refine .rn [0] [1,2,3] ?_
   refine .pc rfl rfl rfl rfl rfl Tryz.call89 (q89) ?_
   refine .rn [2,3] [] ?_
   refine .done (.seq ?_)
   refine .regionL [0,1,2,3,4,5,6,7] rfl zz0 ?_
   refine .rn [0,1] [2,3,4,5,6,7] ?_
   refine .pc rfl rfl rfl rfl rfl Tryz.call57 (q57) ?_
   refine .rn [3,4,5,6,7] [] ?_
   refine .done (.seq ?_)
   refine .regionL [0,1,2,3,4] rfl zz0 ?_
   refine .rn [0,1] [2,3,4] ?_
   refine .pc rfl rfl rfl rfl rfl Tryz.call90 (q90) ?_
   refine .rn [3,4] [] ?_
   refine .done (.seq ?_)
   refine .regionL [0,1,2,3,4,5,6,7] rfl zz0 ?_
   refine .rn [0] [1,2,3,4,5,6,7] ?_
   refine .pc rfl rfl rfl rfl rfl Tryz.call63 (q63) ?_
   refine .rn [2,3,4,5,6,7] [] ?_
   refine .done (.seq ?_)
   refine .regionL [0,1,2,3,4,5,6,7,8,9] rfl zz0 ?_
   refine .rn [0,1,2,3] [4,5,6,7,8,9] ?_
   refine .pc rfl rfl rfl rfl rfl Tryz.call77 (q77a) ?_
   refine .rn [5,6,7,8,9] [] ?_
   refine .done (.seq ?_)
   refine .regionL [0,1,2,3,4,5,6] rfl zz0 ?_
   refine .rn [0,1,2,3] [4,5,6] ?_
   refine .pc rfl rfl rfl rfl rfl Tryz.call91 (q91a) ?_
   refine .rn [5,6] [] ?_
   refine .done (.seq ?_)
   refine .regionL [0,1,2,3,4,5,6,7,8,9] rfl zz0 ?_
   refine .rn [0,1,2,3] [4,5,6,7,8,9] ?_
   refine .pc rfl rfl rfl rfl rfl Tryz.call77 (q77b) ?_
   refine .rn [5,6,7,8,9] [] ?_
   refine .done (.seq ?_)
   refine .regionL [0,1,2,3,4,5,6] rfl zz0 ?_
   refine .rn [0,1,2,3] [4,5,6] ?_
   refine .pc rfl rfl rfl rfl rfl Tryz.call91 (q91b) ?_
   refine .rn [5,6] [] ?_
   refine .done (.seq ?_)
   refine .regionL [0,1,2,3,4,5,6,7,8,9,10,11,12,13,14,15,16,17,18,19,20,21,22,23,24,25,26,27,28,29,30,31,32,33,34,35,36,37,38,39,40,41,42,43,44,45,46,47,48,49] rfl zz0 ?_
   refine .pc rfl rfl rfl rfl rfl Tryz.call22 (hsan) ?_
   refine .rn [1] [2,3,4,5,6,7,8,9,10,11,12,13,14,15,16,17,18,19,20,21,22,23,24,25,26,27,28,29,30,31,32,33,34,35,36,37,38,39,40,41,42,43,44,45,46,47,48,49] ?_
   refine .split (t := 83) rfl (fun c83 => ?_) (fun c83 => ?_)
   ·first | cases c83 | try rw [c83]
    try simp at c83
    refine .rn [2,3,4] [5,6,7,8,9,10,11,12,13,14,15,16,17,18,19,20,21,22,23,24,25,26,27,28,29,30,31,32,33,34,35,36,37,38,39,40,41,42,43,44,45,46,47,48,49] ?_
    refine .pc rfl rfl rfl rfl rfl Tryz.call34 (p34 O O (by omega) (by omega)) ?_
    refine .rn [6,7] [8,9,10,11,12,13,14,15,16,17,18,19,20,21,22,23,24,25,26,27,28,29,30,31,32,33,34,35,36,37,38,39,40,41,42,43,44,45,46,47,48,49] ?_
    refine .split (t := 89) rfl (fun c89 => ?_) (fun c89 => ?_)
    ·first | cases c89 | try rw [c89]
     try simp at c89
     refine .rn [8,9,10,11,12,13] [14,15,16,17,18,19,20,21,22,23,24,25,26,27,28,29,30,31,32,33,34,35,36,37,38,39,40,41,42,43,44,45,46,47,48,49] ?_
     refine .split (t := 95) rfl (fun c95 => ?_) (fun c95 => ?_)
     ·first | cases c95 | try rw [c95]
      try simp at c95
      refine .rn [14,15,16] [17,18,19,20,21,22,23,24,25,26,27,28,29,30,31,32,33,34,35,36,37,38,39,40,41,42,43,44,45,46,47,48,49] ?_
      refine .pc rfl rfl rfl rfl rfl Tryz.call34 (p34 R R (by omega) (by omega)) ?_
      refine .rn [18,19] [20,21,22,23,24,25,26,27,28,29,30,31,32,33,34,35,36,37,38,39,40,41,42,43,44,45,46,47,48,49] ?_
      refine .split (t := 101) rfl (fun c101 => ?_) (fun c101 => ?_)
      ·first | cases c101 | try rw [c101]
       try simp at c101
       refine .rn [20,21,22,23,24,25] [26,27,28,29,30,31,32,33,34,35,36,37,38,39,40,41,42,43,44,45,46,47,48,49] ?_
       refine .split (t := 107) rfl (fun c107 => ?_) (fun c107 => ?_)
       ·first | cases c107 | try rw [c107]
        try simp at c107
        refine .rn [26,27,28,29,30,31] [32,33,34,35,36,37,38,39,40,41,42,43,44,45,46,47,48,49] ?_
        refine .split (t := 113) rfl (fun c113 => ?_) (fun c113 => ?_)
        ·first | cases c113 | try rw [c113]
         try simp at c113
         refine .rn [32,33,34,35,36,37] [38,39,40,41,42,43,44,45,46,47,48,49] ?_
         refine .split (t := 119) rfl (fun c119 => ?_) (fun c119 => ?_)
         ·first | cases c119 | try rw [c119]
          try simp at c119
          refine .rn [38,39,40,41,42,43] [44,45,46,47,48,49] ?_
          refine .split (t := 125) rfl (fun c125 => ?_) (fun c125 => ?_)
          ·first | cases c125 | try rw [c125]
           try simp at c125
           refine .rn [44,45,46,47,48,49] [] ?_
           refine .done (.ret ⟨_, _, zz4,zz4, ?_⟩)
           first | rfl | (simp [*]; done) | (simp_all; done)
          ·first | cases c125 | try rw [c125]
           try simp at c125
         ·first | cases c119 | try rw [c119]
          try simp at c119
        ·first | cases c113 | try rw [c113]
         try simp at c113
       ·first | cases c107 | try rw [c107]
        try simp at c107
      ·first | cases c101 | try rw [c101]
       try simp at c101
     ·first | cases c95 | try rw [c95]
      try simp at c95
    ·first | cases c89 | try rw [c89]
     try simp at c89
   ·first | cases c83 | try rw [c83]
    try simp at c83
end Go.Am.Ds
end
