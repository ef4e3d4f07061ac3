/-
 What is used in the proof of a statement (part DsX); no condition.
-/
import Derived.Test.YtnablaecbohhmaaGreatDsT
import Derived.Test.YtnablaecbohhmaaGreatVm2
import Derived.Test.YtnablaecbohhmaaGreatDsC
import Derived.Test.YtnablaecbohhmaaGreatDsG
import Derived.Test.YtnablaecbohhmaaGreatDsF
import Derived.Test.YtnablaecbohhmaaGreatDsS
set_option linter.all false
namespace Go.Am
open Go Go.Proofs
section
variable {P : Program} {N b : Nat} {vts : VTs} {vh : VHeap}
theorem VScr.rx {ops : Array Oper} {W todo : List Nat} {K : VTs → VHeap → Prop} {m : Nat} {r : List SItem} {o : Oper} {v : PV} (k : VScr P N b ops W K r (bif selfFree o then m :: todoF ops todo o.dst else todoF ops todo o.dst) (tput vts o.dst v) vh) (ho : ops[m]? = some o := by rfl) (hw : vwanted ops o vts = some true := by rfl) (hW : W.contains m = false := by decide) (hr : isR o.op = true := by rfl) (hd : dstOK N o.dst = true := by decide) (hv : vop P vts vh o.op = some (v, vh) := by simp [*] <;> first | exact ⟨rfl, rfl⟩ | exact rfl) : VScr P N b ops W K (.op m :: r) todo vts vh := .rd ho hw hW hr hd hv k
end
end Go.Am
section
namespace Go.Am
open Go Go.Proofs
theorem wrapu32 {x : Int} (h1 : 0 ≤ x) (h2 : x < 4294967296) : IntKind.u32.wrap x = x := by
 simp [IntKind.wrap, IntKind.bits, IntKind.signed]; omega

end Go.Am
end
section
namespace Go.Am.Ds
open Go Go.Am Go.Proofs
set_option maxHeartbeats 4000000
set_option linter.unusedSimpArgs false
set_option linter.unusedVariables false
attribute [local simp] vrun vwanted vyielded vop veval vevals vparts vO vbuiltin vlen vappend velems vcopy vmakeSlice vbuildSlice valloc vbox vmakeMap vload vpartT vpart vstore vfieldAddr vfield vindexAddr vindex vextract vslice vsliceZ vbounds vbnd zeroO vidx vlookup vmget vmapUpdate vdelete vnilq vnilp vnils vbin vsc vsc1 vscs vscl abinOp aint ashift aunOp aconvert amaxs amax2 pvcV pvc pvcs tput tget vargs VHeap.get VHeap.alloc VHeap.put VHeap.drop VHeap.empty vlook vput vdrop psplice pfill preps chunk List.range List.range.loop vresults vresult vresultV frz frzL PV.isF PV.allF PV.scal PV.allS retP subT allFT PV.one PV.ids PV.idsL dropL beq_eq ble_dec blt_dec
theorem preps1 (z : PV) (n : Nat) : preps [z] n = List.replicate n z := by
 unfold preps
 induction n with
 | zero => rfl
 | succ n ih => simp only [List.replicate_succ, List.flatten_cons, ih]; rfl
theorem flat_int (k : IntKind) : ∀ l : List Int, (l.map (PV.int k)).flatMap PV.cells = l.map (PV.int k)
 | [] => rfl
 | a :: r => by simp only [List.map_cons, List.flatMap_cons, flat_int k r]; rfl
theorem frz_own_int (vh : VHeap) (i k : Nat) (l : List Int) (hg : vh.get i = some (.arr false 1 (l.map (PV.int .i64)))) : frz vh (.own i 0 l.length k) = some (ints l) := by
 by_cases h : l.length = 0
 ·have := List.eq_nil_of_length_eq_zero h
  subst this; rfl
 ·have h1 : Nat.beq l.length 0 = false := by rw [beq_eq]; simpa using h
  have h2 : (l.map (PV.int .i64)).take l.length = l.map (PV.int .i64) := by
   have := List.take_length (l := l.map (PV.int .i64)); simpa using this
  simp only [frz, h1, cond_false, hg, velems]
  simp only [all_one_int, beq_eq, ble_dec, List.drop_zero, chunk, cond_false, h2, List.length_map]
  simp
theorem vcopy_ints (P : Program) (t e : TypeId) (vh : VHeap) (i : Nat) (l : List Int) (ht : telem P t = some (e, 1)) (hg : vh.get i = some (.arr false 1 (preps [.int .i64 0] l.length))) :
  vcopy P vh t (.own i 0 l.length l.length) (ints l) = some (.int .i64 l.length, vh.put i (.arr false 1 (l.map (PV.int .i64)))) := by
 have h1 : velems vh 1 (ints l) = some (l.map (PV.int .i64)) := by simp [velems]
 simp only [vcopy, ht, h1, hg, preps1]
 have h2 : (l.map (PV.int .i64)).take l.length = l.map (PV.int .i64) := by
  have := List.take_length (l := l.map (PV.int .i64)); simpa using this
 rw [h2, flat_int]
 have h3 : psplice (List.replicate l.length (PV.int .i64 0)) 0 (l.map (PV.int .i64)) = l.map (PV.int .i64) := by simp [psplice]
 rw [h3]
 simp [blt_dec, ble_dec]
theorem p170 (l : List Int) (hl : l.length < 4294967296) : VPure Tryz.prog 170 [ints l] fun r => r = ints l := by
 have hl2 : ((l.length : Nat) : Int) ≤ 4294967296 := by omega
 refine .of_body Tryz.func170 rfl rfl ?_
 refine .seq ?_
 refine .run zz0 (by simp [*, -vcopy, -preps, vcopy_ints] <;> first | exact ⟨rfl, rfl⟩ | exact rfl) ?_
 refine .seq ?_
 refine .run zz0 (by simp [*, -vcopy, -preps, vcopy_ints] <;> first | exact ⟨rfl, rfl⟩ | exact rfl) ?_
 refine .seq ?_
 refine .run zz0 (by simp [*, -vcopy, -preps, vcopy_ints] <;> first | exact ⟨rfl, rfl⟩ | exact rfl) ?_
 refine .seq ?_
 refine .run zz0 (by simp [*, -vcopy, -preps, vcopy_ints] <;> first | exact ⟨rfl, rfl⟩ | exact rfl) ?_
 refine .ret ?_
 refine ⟨_, _, zz4,(by exact frz_own_int _ _ _ _ rfl), ?_⟩
 first | rfl | (simp [*]; done) | (simp_all; done)
end Go.Am.Ds
end
section
namespace Go.Am.Ds
open Go Go.Am Go.Proofs
set_option maxHeartbeats 4000000
set_option linter.unusedSimpArgs false
set_option linter.unusedVariables false
attribute [local simp] vrun vwanted vyielded vop veval vevals vparts vO vbuiltin vlen vappend velems vcopy vmakeSlice vbuildSlice valloc vbox vmakeMap vload vpartT vpart vstore vfieldAddr vfield vindexAddr vindex vextract vslice vsliceZ vbounds vbnd zeroO vidx vlookup vmget vmapUpdate vdelete vnilq vnilp vnils vbin vsc vsc1 vscs vscl abinOp aint ashift aunOp aconvert amaxs amax2 pvcV pvc pvcs tput tget vargs VHeap.get VHeap.alloc VHeap.put VHeap.drop VHeap.empty vlook vput vdrop psplice pfill preps chunk List.range List.range.loop vresults vresult vresultV frz frzL PV.isF PV.allF PV.scal PV.allS retP subT allFT PV.one PV.ids PV.idsL dropL beq_eq ble_dec blt_dec
theorem p117 (s : List Wit) (p : Wit → Bool) (f : FuncId) (xs ys : List PV) (hl : s.length < 4294967296) (hw : ∀ w ∈ s, w.slips.length < 4294967296 ∧ w.mended.length < 4294967296 ∧ w.models.length < 4294967296) (hx : PV.allF xs = true) (hy : PV.allF ys = true) (hcf : ∀ cs w, (callFunc f cs).run Tryz.prog w = .ok (.enter f cs) w) (hp : ∀ a ∈ s, VPure Tryz.prog f (xs ++ [encW a] ++ ys) fun r => r = .bool (p a)) : VPure Tryz.prog 117 [encS s, .func f xs ys] fun r => r = encS (s.filter p) := by
 refine .of_body Tryz.func117 rfl rfl ?_
 refine .seq ?_
 refine .rn ?_
 refine .seq ?_
 refine .rn ?_
 refine .seq ?_
 refine .seq ?_
 refine .rn ?_
 refine .block ?_
 refine .loopS (fun i : Nat => ([(1, .func f xs ys),(4, .ptr 1 0),(5, .ptr 2 0),(9, .vec (s.map encW)),(10, .int .i64 s.length),(11, .int .i64 i)], ⟨4,[(3, .grow 7 (((s.take i).filter p).map encW)),(2, .box [.grow 3 ((s.take i).filter p).length true]),(1, .box [.sl0])]⟩)) (fun i => i ≤ s.length) (fun i => s.length - i) 0 (by simp) (.mk [] [] zz2 zz3 rfl rfl rfl) ?_
 rintro i hi
 simp only at hi ⊢
 have hlen : ((s.take i).filter p).length ≤ i := Nat.le_trans (List.length_filter_le _ _) (by simp; omega)
 refine .seq ?_
 refine .rn ?_
 refine .seq ?_
 refine .condS rfl (fun c12 => ?_) (fun c12 => ?_)
 ·try simp at c12
  have hw2 : IntKind.i64.wrap ((i : Int) + 1) = (i : Int) + 1 := wrap64 (by omega) (by omega)
  have hp := hp s[i] (List.getElem_mem c12)
  obtain ⟨hw3, hw4, hw5⟩ := hw s[i] (List.getElem_mem c12)
  have hT := take_succ_filter p s i c12
  have hb : ((s.take i).filter p).length + 1 ≤ 4294967296 := by omega
  have hE : encW s[i] = .agg [.int .i64 s[i].id, .int .i64 s[i].known, ints s[i].slips, ints s[i].mended, ints s[i].models, .int .i64 s[i].lo, .int .i64 s[i].hi] := rfl
  refine .skip ?_
  refine .seq ?_
  refine .block ?_
  refine .seq ?_
  refine .rn ?_
  refine .seq ?_
  refine .regionL [0,1,2] rfl zz0 ?_
  refine .rn [0,1] [2] ?_
  refine .step rfl rfl (.pure rfl rfl rfl hcf (by decide) (hp) (by first | rfl | simp [*]) ?_)
  rintro _ rfl
  refine .done ?_
  refine .condS rfl (fun c17 => ?_) (fun c17 => ?_)
  ·try simp at c17
   rw [if_pos c17] at hT
   refine .seq ?_
   refine .drawn (ms := [0,1,3,0,8,31,0,64,255,223,1023,2047,4095,8191,16383]) (W := [2,5,8,10,12,14]) (items := [.op 0, .op 1, .op 3, .op 4, .op 6, .op 7, .op 2, .ck 7, .ck 4, .op 9, .op 5, .ck 7, .op 8, .op 10, .op 11, .op 12, .op 13, .op 14]) rfl zz0 zz0 zz0 ?_
   refine .rx ?_
   refine .rx ?_
   refine .rx ?_
   refine .rx ?_
   refine .rx ?_
   refine .rx ?_
   refine .wr rfl rfl (by decide) (.pure rfl rfl rfl Tryz.call170 (by decide) (p170 s[i].slips hw3) (by first | rfl | simp [*]) ?_)
   rintro _ rfl
   refine .ck rfl zz0 ?_
   refine .ck rfl zz0 ?_
   refine .rx ?_
   refine .wr rfl rfl (by decide) (.pure rfl rfl rfl Tryz.call170 (by decide) (p170 s[i].mended hw4) (by first | rfl | simp [*]) ?_)
   rintro _ rfl
   refine .ck rfl zz0 ?_
   refine .wr rfl rfl (by decide) (.pure rfl rfl rfl Tryz.call170 (by decide) (p170 s[i].models hw5) (by first | rfl | simp [*]) ?_)
   rintro _ rfl
   refine .wr rfl rfl (by decide) (.vop zz1 (by decide) ?_)
   refine .rx ?_
   refine .wr rfl rfl (by decide) (.vop zz1 (by decide) ?_)
   refine .rx ?_
   refine .wr rfl rfl (by decide) (.vop zz1 (by decide) ?_)
   refine .done ?_
   refine .rn ?_
   refine .rn ?_
   refine ⟨i + 1,zz5,zz5,(.mk [] [(3,6)] zz2 zz3 rfl rfl rfl)⟩
  ·try simp at c17
   rw [if_neg (by simp [c17])] at hT
   refine .skip ?_
   refine .rn ?_
   refine ⟨i + 1,zz5,zz5,(.mk [] [] zz2 zz3 rfl rfl rfl)⟩
 ·try simp at c12
  have : i = s.length := by omega
  subst this
  refine .exit ?_
  refine .seq ?_
  refine .rn ?_
  refine .ret ?_
  refine ⟨_, _, zz4,zz4, ?_⟩
  simp [encS]
theorem p118 (w : Wit) (ks : List Int) : VPure Tryz.prog 118 [encW w, .vp [.vmap (mp ks)]] fun r => r = .bool (!decide (w.id ∈ ks)) := by
 refine .of_body Tryz.func118 rfl rfl ?_
 refine .seq ?_
 refine .rn ?_
 refine .seq ?_
 refine .regionL [0,1,2,3,4,5] rfl zz0 ?_
 refine .rn [0,1,2] [3,4,5] ?_
 refine .step rfl rfl (.pure rfl rfl rfl Tryz.call115 (by decide) (p115 ks w.id) (by first | rfl | simp [*]) ?_)
 rintro _ rfl
 refine .rn [4,5] [] ?_
 refine .done ?_
 refine .ret ?_
 refine ⟨_, _, zz4,zz4, ?_⟩
 first | rfl | (simp [*]; done) | (simp_all; done)
theorem p119 (w : Wit) (day : Int) : VPure Tryz.prog 119 [encW w, .vp [.int .i64 day]] fun r => r = .bool (decide (w.known ≤ day)) := by
 refine .of_body Tryz.func119 rfl rfl ?_
 refine .seq ?_
 refine .rn ?_
 refine .seq ?_
 refine .rn ?_
 refine .ret ?_
 refine ⟨_, _, zz4,zz4, ?_⟩
 first | rfl | (simp [*]; done) | (simp_all; done)
end Go.Am.Ds
end
section
namespace Go.Am.Ds
open Go Go.Am Go.Proofs
set_option maxHeartbeats 4000000
set_option linter.unusedSimpArgs false
set_option linter.unusedVariables false
attribute [local simp] vrun vwanted vyielded vop veval vevals vparts vO vbuiltin vlen vappend velems vcopy vmakeSlice vbuildSlice valloc vbox vmakeMap vload vpartT vpart vstore vfieldAddr vfield vindexAddr vindex vextract vslice vsliceZ vbounds vbnd zeroO vidx vlookup vmget vmapUpdate vdelete vnilq vnilp vnils vbin vsc vsc1 vscs vscl abinOp aint ashift aunOp aconvert amaxs amax2 pvcV pvc pvcs tput tget vargs VHeap.get VHeap.alloc VHeap.put VHeap.drop VHeap.empty vlook vput vdrop psplice pfill preps chunk List.range List.range.loop vresults vresult vresultV frz frzL PV.isF PV.allF PV.scal PV.allS retP subT allFT PV.one PV.ids PV.idsL dropL beq_eq ble_dec blt_dec
theorem p36a (s : List Wit) (ids : List Int) (hl : s.length < 4294967296) (hi : ids.length < 4294967296) : VPure Tryz.prog 36 [encS s, ints ids] fun r => r = .tup [if checkS s = 0 then encS (s.filter fun w => !decide (w.id ∈ setK [ids])) else .agg [.sl0], .int .i64 (checkS s)] := by
 refine .of_body Tryz.func36 rfl rfl ?_
 refine .seq ?_
 refine .rn ?_
 refine .seq ?_
 refine .seq ?_
 refine .regionL [0,1,2] rfl zz0 ?_
 refine .rn [0] [1,2] ?_
 refine .step rfl rfl (.pure rfl rfl rfl Tryz.call35 (by decide) (p35 s hl) (by first | rfl | simp [*]) ?_)
 rintro _ rfl
 refine .rn [2] [] ?_
 refine .done ?_
 refine .seq ?_
 refine .rn ?_
 refine .condS rfl (fun c11 => ?_) (fun c11 => ?_)
 ·try simp at c11
  refine .seq ?_
  refine .rn ?_
  refine .ret ?_
  refine ⟨_, _, zz4,zz4, ?_⟩
  simp [c11]
 ·try simp at c11
  refine .skip ?_
  refine .seq ?_
  refine .regionL [0,1,2,3,4] rfl zz0 ?_
  refine .rn [0,1] [2,3,4] ?_
  refine .step rfl rfl (.take rfl rfl rfl Tryz.call116 (by decide) zz4 (p116 [ids] (by simp) (by simpa using hi)) ?_)
  rintro _ rfl
  refine .rn [3,4] [] ?_
  refine .done ?_
  refine .seq ?_
  refine .regionL [0,1,2,3,4] rfl zz0 ?_
  refine .rn [0,1] [2,3,4] ?_
  refine .step rfl rfl (.take rfl rfl rfl Tryz.call117 (by decide) zz4 (p117 s (fun w => !decide (w.id ∈ setK [ids])) 118 [] [.vp [.vmap (mp (setK [ids]))]] hl (checkS_lens c11) rfl rfl Tryz.call118 (fun w _ => p118 w _)) ?_)
  rintro _ rfl
  refine .rn [3,4] [] ?_
  refine .done ?_
  refine .ret ?_
  refine ⟨_, _, zz4,zz4, ?_⟩
  simp [c11, encS]
theorem p37a (s : List Wit) (day : Int) (hl : s.length < 4294967296) : VPure Tryz.prog 37 [encS s, .int .i64 day] fun r => r = .tup [if checkS s = 0 ∧ 0 ≤ day ∧ day ≤ 730 then encS (s.filter fun w => decide (w.known ≤ day)) else .agg [.sl0], .int .i64 (if checkS s = 0 then (if 0 ≤ day ∧ day ≤ 730 then 0 else 1) else checkS s)] := by
 refine .of_body Tryz.func37 rfl rfl ?_
 refine .seq ?_
 refine .rn ?_
 refine .seq ?_
 refine .seq ?_
 refine .regionL [0,1,2] rfl zz0 ?_
 refine .rn [0] [1,2] ?_
 refine .step rfl rfl (.pure rfl rfl rfl Tryz.call35 (by decide) (p35 s hl) (by first | rfl | simp [*]) ?_)
 rintro _ rfl
 refine .rn [2] [] ?_
 refine .done ?_
 refine .seq ?_
 refine .rn ?_
 refine .condS rfl (fun c10 => ?_) (fun c10 => ?_)
 ·try simp at c10
  refine .seq ?_
  refine .rn ?_
  refine .ret ?_
  refine ⟨_, _, zz4,zz4, ?_⟩
  simp [c10]
 ·try simp at c10
  refine .skip ?_
  refine .seq ?_
  refine .seq ?_
  refine .regionL [0,1,2] rfl zz0 ?_
  refine .rn [0] [1,2] ?_
  refine .step rfl rfl (.pure rfl rfl rfl Tryz.call113 (by decide) (p113 day 0 730) (by first | rfl | simp [*]) ?_)
  rintro _ rfl
  refine .rn [2] [] ?_
  refine .done ?_
  refine .condS rfl (fun c15 => ?_) (fun c15 => ?_)
  ·try simp at c15
   refine .seq ?_
   refine .rn ?_
   refine .ret ?_
   refine ⟨_, _, zz4,zz4, ?_⟩
   have h2 : ¬ (0 ≤ day ∧ day ≤ 730) := by omega
   simp [c10, h2]
  ·try simp at c15
   refine .skip ?_
   refine .seq ?_
   refine .regionL [0,1,2,3,4] rfl zz0 ?_
   refine .rn [0,1] [2,3,4] ?_
   refine .step rfl rfl (.take rfl rfl rfl Tryz.call117 (by decide) zz4 (p117 s (fun w => decide (w.known ≤ day)) 119 [] [.vp [.int .i64 day]] hl (checkS_lens c10) rfl rfl Tryz.call119 (fun w _ => p119 w day)) ?_)
   rintro _ rfl
   refine .rn [3,4] [] ?_
   refine .done ?_
   refine .ret ?_
   refine ⟨_, _, zz4,zz4, ?_⟩
   have h2 : 0 ≤ day ∧ day ≤ 730 := by omega
   simp [c10, h2, encS]
theorem p36 (s : List Wit) (ids : List Int) (hl : s.length < 4294967296) (hi : ids.length < 4294967296) : VPure Tryz.prog 36 [encS s, ints ids] fun r => r = .tup [encS (if checkS s = 0 then s.filter fun w => !decide (w.id ∈ setK [ids]) else []), .int .i64 (checkS s)] := by
 refine (p36a s ids hl hi).alt ?_
 rintro _ rfl
 refine ⟨_, ?_, ?_, rfl⟩
 ·refine .tup' (.cons ?_ (.cons (.same _ rfl) .nil))
  split
  ·exact .same _ (by simp)
  ·exact .agg' (.cons .sl0v .nil)
 ·simp
theorem p37 (s : List Wit) (day : Int) (hl : s.length < 4294967296) : VPure Tryz.prog 37 [encS s, .int .i64 day] fun r => r = .tup [encS (if checkS s = 0 ∧ 0 ≤ day ∧ day ≤ 730 then s.filter fun w => decide (w.known ≤ day) else []), .int .i64 (if checkS s = 0 then (if 0 ≤ day ∧ day ≤ 730 then 0 else 1) else checkS s)] := by
 refine (p37a s day hl).alt ?_
 rintro _ rfl
 refine ⟨_, ?_, ?_, rfl⟩
 ·refine .tup' (.cons ?_ (.cons (.same _ rfl) .nil))
  split
  ·exact .same _ (by simp)
  ·exact .agg' (.cons .sl0v .nil)
 ·simp
end Go.Am.Ds
end
section
namespace Go.Am.Ds
open Go Go.Am Go.Proofs
set_option maxHeartbeats 4000000
set_option linter.unusedSimpArgs false
set_option linter.unusedVariables false
attribute [local simp] vrun vwanted vyielded vop veval vevals vparts vO vbuiltin vlen vappend velems vcopy vmakeSlice vbuildSlice valloc vbox vmakeMap vload vpartT vpart vstore vfieldAddr vfield vindexAddr vindex vextract vslice vsliceZ vbounds vbnd zeroO vidx vlookup vmget vmapUpdate vdelete vnilq vnilp vnils vbin vsc vsc1 vscs vscl abinOp aint ashift aunOp aconvert amaxs amax2 pvcV pvc pvcs tput tget vargs VHeap.get VHeap.alloc VHeap.put VHeap.drop VHeap.empty vlook vput vdrop psplice pfill preps chunk List.range List.range.loop vresults vresult vresultV frz frzL PV.isF PV.allF PV.scal PV.allS retP subT allFT PV.one PV.ids PV.idsL dropL beq_eq ble_dec blt_dec
theorem checkL_nodup : ∀ {l : List Wit} {seen : List Int}, checkL l seen = 0 → (l.map Wit.id).Nodup ∧ ∀ w ∈ l, w.id ∉ seen
 | [], _, _ => ⟨.nil, fun w hw => by cases hw⟩
 | a :: r, seen, h => by
  simp only [checkL] at h
  split at h
  ·split at h
   ·simp at h
   ·rename_i hn
    obtain ⟨h1, h2⟩ := checkL_nodup h
    refine ⟨?_, fun w hw => ?_⟩
    ·rw [List.map_cons, List.nodup_cons]
     refine ⟨fun hm => ?_, h1⟩
     obtain ⟨w, hw, he⟩ := List.mem_map.1 hm
     exact h2 w hw ((mem_insU _ _ _).2 (.inr he))
    ·rcases List.mem_cons.1 hw with rfl | hw
     ·exact hn
     ·exact fun hs => h2 w hw ((mem_insU _ _ _).2 (.inl hs))
  ·rename_i h0; exact absurd h h0
theorem checkS_nodup {s : List Wit} (h : checkS s = 0) : (s.map Wit.id).Nodup := by
 unfold checkS at h
 split at h
 ·simp at h
 ·exact (checkL_nodup h).1
theorem idsS_sorted {s : List Wit} (h : (s.map Wit.id).Nodup) : (idsS s).Pairwise (· < ·) := by
 unfold idsS
 have h1 := List.pairwise_mergeSort (le := fun x y : Int => decide (x ≤ y)) (fun a b c h1 h2 => by simp only [decide_eq_true_eq] at *; omega) (fun a b => by simp only [Bool.or_eq_true, decide_eq_true_eq]; omega) (s.map Wit.id)
 have h2 : ((s.map Wit.id).mergeSort fun x y => decide (x ≤ y)).Nodup := (List.mergeSort_perm _ _).nodup_iff.2 h
 have h3 := h1.and h2
 exact h3.imp fun ⟨h4, h5⟩ => by
  simp only [decide_eq_true_eq] at h4
  rcases Int.lt_or_eq_of_le h4 with h6 | h6
  ·exact h6
  ·exact absurd h6 h5
end Go.Am.Ds
end
section
namespace Go.Am.Ds
open Go Go.Am Go.Proofs
set_option maxRecDepth 100000
set_option maxHeartbeats 4000000
set_option linter.unusedSimpArgs false
set_option linter.unusedVariables false
attribute [local simp] vrun vwanted vyielded vop vopA vputAll VHeap.back hidI hidF backL bm Nat.testBit_eq_decide_div_mod_eq veval vevals vparts vO vbuiltin vlen vappend velems vcopy vmakeSlice vbuildSlice valloc vbox vmakeMap vload vpartT vpart vstore vfieldAddr vfield vindexAddr vindex vextract vslice vsliceZ vbounds vbnd zeroO vidx vlookup vmget vmapUpdate vdelete vclear vnilq vnilp vnils vbin vsc vsc1 vscs vscl abinOp aint ashift aunOp aconvert amaxs amax2 pvcV pvc pvcs tput tget vargs VHeap.get VHeap.alloc VHeap.put VHeap.drop VHeap.empty vlook vput vdrop psplice pfill preps chunk List.range List.range.loop vresults vresult vresultV frz frzL PV.isF PV.allF PV.scal PV.allS retP subT allFT PV.one PV.ids PV.idsL dropL beq_eq ble_dec blt_dec
def longT (w : Wit) : Bool := decide (8 < w.slips.length) || decide (30 < w.mended.length) || decide (24 < w.models.length)
def smallS (s : List Wit) : Bool := !(s.any longT) && decide (s.length ≤ 12)
theorem p21 (s : List Wit) (hl : s.length < 4611686018427387904) : VPure Tryz.prog 21 [encS s] fun r => r = .bool (smallS s) := by
 refine .of_body Tryz.func21 rfl rfl ?_
 refine .seq ?_
 refine .rn ?_
 refine .seq ?_
 refine .seq ?_
 refine .rn ?_
 refine .block ?_
 refine .loopS (fun i : Nat => ([(1, .ptr 0 0),(3, .int .i64 i)], ⟨1,[(0, .box [.vec (s.map encW)])]⟩)) (fun i => i ≤ s.length ∧ (s.take i).any longT = false) (fun i => s.length - i) 0 (by simp) (.mk [] [] zz14 zz15 rfl rfl rfl) ?_
 rintro i ⟨hi, hr⟩
 simp only at hi hr ⊢
 refine .seq ?_
 refine .seq ?_
 refine .rn ?_
 refine .condS rfl (fun c8 => ?_) (fun c8 => ?_)
 ·try simp at c8
  have hw2 : IntKind.i64.wrap ((i : Int) + 1) = (i : Int) + 1 := wrap64 (by omega) (by omega)
  have hA := take_succ_any longT s i c8
  rw [hr] at hA
  refine .skip ?_
  refine .seq ?_
  refine .block ?_
  refine .seq ?_
  refine .regionL [0,1,2,3,4,5,6,7,8,9,10,11,12,13,14,15,16,17,18,19,20,21,22,23,24,25,26,27] rfl zz0 ?_
  refine .rn [0,1,2,3,4,5,6,7,8] [9,10,11,12,13,14,15,16,17,18,19,20,21,22,23,24,25,26,27] ?_
  refine .split (t := 19) rfl (fun c19 => ?_) (fun c19 => ?_)
  ·try rw [c19]
   try simp at c19
   refine .rn [9,10,11,12,13,14,15,16,17,18,19,20,21,22,23,24,25,26,27] [] ?_
   refine .done ?_
   refine .condT rfl ?_
   refine .seq ?_
   refine .rn ?_
   refine .ret ?_
   refine ⟨_, _, zz4,zz4, ?_⟩
   have h : longT s[i] = true := by unfold longT; simp; omega
   unfold smallS; rw [any_get longT s i c8 h]; rfl
  ·try rw [c19]
   try simp at c19
   refine .rn [9,10,11,12,13,14,15,16,17,18] [19,20,21,22,23,24,25,26,27] ?_
   refine .split (t := 29) rfl (fun c29 => ?_) (fun c29 => ?_)
   ·try rw [c29]
    try simp at c29
    refine .rn [19,20,21,22,23,24,25,26,27] [] ?_
    refine .done ?_
    refine .condT rfl ?_
    refine .seq ?_
    refine .rn ?_
    refine .ret ?_
    refine ⟨_, _, zz4,zz4, ?_⟩
    have h : longT s[i] = true := by unfold longT; simp; omega
    unfold smallS; rw [any_get longT s i c8 h]; rfl
   ·try rw [c29]
    try simp at c29
    refine .rn [19,20,21,22,23,24,25,26,27] [] ?_
    refine .done ?_
    refine .condS rfl (fun c38 => ?_) (fun c38 => ?_)
    ·try simp at c38
     refine .seq ?_
     refine .rn ?_
     refine .ret ?_
     refine ⟨_, _, zz4,zz4, ?_⟩
     have h : longT s[i] = true := by unfold longT; simp; omega
     unfold smallS; rw [any_get longT s i c8 h]; rfl
    ·try simp at c38
     refine .skip ?_
     refine .rn ?_
     have h : longT s[i] = false := by unfold longT; simp; omega
     rw [h] at hA
     refine ⟨i + 1, ⟨zz5, by simpa using hA⟩, zz5,(.mk [] [] zz14 zz15 rfl rfl rfl)⟩
 ·try simp at c8
  have hi2 : i = s.length := by omega
  subst hi2
  rw [List.take_length] at hr
  refine .exit ?_
  refine .seq ?_
  refine .rn ?_
  refine .ret ?_
  refine ⟨_, _, zz4,zz4, ?_⟩
  unfold smallS; rw [hr]; simp; omega
end Go.Am.Ds
end
section
namespace Go.Am.Ds
open Go Go.Am Go.Proofs
theorem checkL_sub : ∀ {l' l : List Wit}, l'.Sublist l → ∀ {seen seen' : List Int},(∀ x ∈ seen', x ∈ seen) → checkL l seen = 0 → checkL l' seen' = 0
 | _, _, .slnil, _, _, _, _ => rfl
 | _, _, .cons (l₂ := r) w hs, seen, seen', hm, h => by
  simp only [checkL] at h
  split at h
  ·split at h
   ·cases h
   ·exact checkL_sub hs (fun x hx => (mem_insU _ _ _).2 (.inl (hm x hx))) h
  ·rename_i h0; exact absurd h h0
 | _, _, .cons_cons (l₁ := r') (l₂ := r) w hs, seen, seen', hm, h => by
  simp only [checkL] at h ⊢
  split at h
  ·rename_i h0
   rw [if_pos h0]
   split at h
   ·cases h
   ·rename_i hn
    rw [if_neg (fun h1 => hn (hm _ h1))]
    refine checkL_sub hs (fun x hx => ?_) h
    rcases (mem_insU _ _ _).1 hx with h1 | h1
    ·exact (mem_insU _ _ _).2 (.inl (hm x h1))
    ·exact (mem_insU _ _ _).2 (.inr h1)
  ·rename_i h0; exact absurd h h0
theorem checkS_filter {s : List Wit} (h : checkS s = 0) (p : Wit → Bool) : checkS (s.filter p) = 0 := by
 unfold checkS at h ⊢
 split at h
 ·cases h
 ·have := List.length_filter_le p s
  rw [if_neg (by omega)]
  exact checkL_sub List.filter_sublist (fun x hx => hx) h
theorem getW_own : ∀ {s : List Wit},(s.map Wit.id).Nodup → ∀ {w : Wit}, w ∈ s → getW s w.id = some w
 | a :: r, hn, w, hw => by
  rw [List.map_cons, List.nodup_cons] at hn
  unfold getW
  rw [List.find?_cons]
  rcases List.mem_cons.1 hw with rfl | hw
  ·simp
  ·have : a.id ≠ w.id := fun h => hn.1 (h ▸ List.mem_map_of_mem hw)
   rw [show decide (a.id = w.id) = false from decide_eq_false this]
   exact getW_own hn.2 hw
end Go.Am.Ds
end
section
namespace Go.Am.Ds
open Go Go.Am Go.Proofs
set_option maxRecDepth 100000
set_option maxHeartbeats 4000000
set_option linter.unusedSimpArgs false
set_option linter.unusedVariables false
attribute [local simp] vrun vwanted vyielded vop vopA vputAll VHeap.back hidI hidF backL bm Nat.testBit_eq_decide_div_mod_eq veval vevals vparts vO vbuiltin vlen vappend velems vcopy vmakeSlice vbuildSlice valloc vbox vmakeMap vload vpartT vpart vstore vfieldAddr vfield vindexAddr vindex vextract vslice vsliceZ vbounds vbnd zeroO vidx vlookup vmget vmapUpdate vdelete vclear vnilq vnilp vnils vbin vsc vsc1 vscs vscl abinOp aint ashift aunOp aconvert amaxs amax2 pvcV pvc pvcs tput tget vargs VHeap.get VHeap.alloc VHeap.put VHeap.drop VHeap.empty vlook vput vdrop psplice pfill preps chunk List.range List.range.loop vresults vresult vresultV frz frzL PV.isF PV.allF PV.scal PV.allS retP subT allFT PV.one PV.ids PV.idsL dropL beq_eq ble_dec blt_dec
theorem smallS_len {s : List Wit} (h : smallS s = true) : s.length ≤ 12 := by
 unfold smallS at h
 simp only [Bool.and_eq_true, decide_eq_true_eq] at h
 exact h.2
end Go.Am.Ds
end
section
namespace Go.Am.Ds
open Go Go.Am Go.Proofs
end Go.Am.Ds
end
section
namespace Go.Am.Ds
open Go Go.Am Go.Proofs
set_option maxRecDepth 100000
set_option maxHeartbeats 4000000
set_option linter.unusedSimpArgs false
set_option linter.unusedVariables false
attribute [local simp] vrun vwanted vyielded vop vopA vputAll VHeap.back hidI hidF backL bm Nat.testBit_eq_decide_div_mod_eq veval vevals vparts vO vbuiltin vlen vappend velems vcopy vmakeSlice vbuildSlice valloc vbox vmakeMap vload vpartT vpart vstore vfieldAddr vfield vindexAddr vindex vextract vslice vsliceZ vbounds vbnd zeroO vidx vlookup vmget vmapUpdate vdelete vclear vnilq vnilp vnils vbin vsc vsc1 vscs vscl abinOp aint ashift aunOp aconvert amaxs amax2 pvcV pvc pvcs tput tget vargs VHeap.get VHeap.alloc VHeap.put VHeap.drop VHeap.empty vlook vput vdrop psplice pfill preps chunk List.range List.range.loop vresults vresult vresultV frz frzL PV.isF PV.allF PV.scal PV.allS retP subT allFT PV.one PV.ids PV.idsL dropL beq_eq ble_dec blt_dec
attribute [local simp] zW tup2
theorem wrapU64 {n : Int} (h1 : 0 ≤ n) (h2 : n < 9223372036854775808) : IntKind.u64.wrap n = n := by
 simp [IntKind.wrap, IntKind.bits, IntKind.signed]; omega
theorem p217 (n : Int) : VPure Tryz.prog 217 [.int .i64 n] fun r => r = .bool false := by
 refine .of_body Tryz.func217 rfl rfl ?_
 refine .seq ?_
 refine .rn ?_
 refine .seq ?_
 refine .rn ?_
 refine .ret ?_
 refine ⟨_, _, zz4,zz4, ?_⟩
 first | rfl | (simp [*]; done) | (simp_all; done)
theorem p198 (a b : Int) : VPure Tryz.prog 198 [.int .i64 a, .int .i64 b] fun r => r = .bool (decide (a < b)) := by
 refine .of_body Tryz.func198 rfl rfl ?_
 refine .seq ?_
 refine .rn ?_
 refine .seq ?_
 refine .regionL [0,1,2,3,4,5,6,7,8,9,10,11,12] rfl zz0 ?_
 refine .rn [0] [1,2,3,4,5,6,7,8,9,10,11,12] ?_
 refine .step rfl rfl (.pure rfl rfl rfl Tryz.call217 (by decide) (p217 _) (by first | rfl | simp [*]) ?_)
 rintro _ rfl
 refine .rn [2] [3,4,5,6,7,8,9,10,11,12] ?_
 refine .split (t := 7) rfl (fun c7 => ?_) (fun c7 => ?_)
 ·try rw [c7]
  try simp at c7
 ·try rw [c7]
  try simp at c7
  refine .rn [3,4,5,6,7,8,9,10,11,12] [] ?_
  refine .done ?_
  refine .ret ?_
  refine ⟨_, _, zz4,zz4, ?_⟩
  first | rfl | (simp [*]; done) | (simp_all; done)
theorem p161 (l : List Int) (t : Int) (p : Nat) (hp : p < l.length) (ht : l[p] = t) (hs : l.Pairwise (· < ·)) (hl : l.length < 4294967296) : VPure Tryz.prog 161 [ints l, .int .i64 t] fun r => r = .tup [.int .i64 p, .bool true] := by
 have hlt : ∀ h : Nat, ∀ hh : h < l.length, (l[h] < t ↔ h < p) := fun h hh => by
  rw [List.pairwise_iff_getElem] at hs
  rcases Nat.lt_trichotomy h p with h1 | h1 | h1
  ·have := hs h p hh hp h1; exact ⟨fun _ => h1, fun _ => by omega⟩
  ·subst h1; omega
  ·have := hs p h hp hh h1; omega
 refine .of_body Tryz.func161 rfl rfl ?_
 refine .seq ?_
 refine .rn ?_
 refine .seq ?_
 refine .rn ?_
 refine .seq ?_
 refine .rn ?_
 refine .seq ?_
 refine .block ?_
 refine .loopS (fun st : Nat × Nat => ([(0, ints l),(1, .int .i64 t),(6, .int .i64 l.length),(7, .int .i64 st.1),(8, .int .i64 st.2)], VHeap.empty)) (fun st => st.1 ≤ p ∧ p ≤ st.2 ∧ st.2 ≤ l.length) (fun st => st.2 - st.1) (0, l.length) ⟨by simp, by simp; omega, by simp⟩ (.mk [] [] zz14 zz15 rfl rfl rfl) ?_
 rintro ⟨i, j⟩ ⟨h1, h2, h3⟩
 simp only at h1 h2 h3 ⊢
 refine .seq ?_
 refine .seq ?_
 refine .rn ?_
 refine .condS rfl (fun c15 => ?_) (fun c15 => ?_)
 ·try simp at c15
  have hij : i < j := by omega
  have hw1 : IntKind.i64.wrap ((i : Int) + (j : Int)) = (i : Int) + (j : Int) := wrap64 (by omega) (by omega)
  have hw2 : IntKind.u64.wrap ((i : Int) + (j : Int)) = (i : Int) + (j : Int) := wrapU64 (by omega) (by omega)
  have hbits : IntKind.u64.bits = 64 := rfl
  obtain ⟨m, hm, hm1, hm2⟩ : ∃ m : Nat, ((i : Int) + (j : Int)).fdiv 2 = (m : Int) ∧ i ≤ m ∧ m < j := ⟨(i + j) / 2, by rw [Int.fdiv_eq_ediv_of_nonneg _ (by omega)]; omega, by omega, by omega⟩
  have hh : m < l.length := by omega
  have hw3 : IntKind.i64.wrap (m : Int) = (m : Int) := wrap64 (by omega) (by omega)
  have hw4 : IntKind.i64.wrap ((m : Int) + 1) = (m : Int) + 1 := wrap64 (by omega) (by omega)
  have hcmp := hlt m hh
  refine .skip ?_
  refine .block ?_
  refine .seq ?_
  refine .rn ?_
  refine .seq ?_
  refine .regionL [0,1,2,3,4,5] rfl zz0 ?_
  refine .rn [0,1,2,3,4] [5] ?_
  refine .step rfl rfl (.pure rfl rfl rfl Tryz.call198 (by decide) (p198 _ _) (by first | rfl | simp [*]) ?_)
  rintro _ rfl
  refine .done ?_
  refine .condS rfl (fun c27 => ?_) (fun c27 => ?_)
  ·try simp at c27
   refine .rn ?_
   refine ⟨(m + 1, j), ⟨by simp only; omega, h2, h3⟩, by simp only; omega, (.mk [] [] zz14 zz15 rfl rfl rfl)⟩
  ·try simp at c27
   refine .rn ?_
   refine ⟨(i, m), ⟨h1, by simp only; omega, by simp only; omega⟩, by simp only; omega, (.mk [] [] zz14 zz15 rfl rfl rfl)⟩
 ·try simp at c15
  have hip : i = p := by omega
  subst hip
  refine .exit ?_
  refine .seq ?_
  refine .regionL [0,1,2,3,4,5,6,7,8,9,10,11,12,13,14,15,16,17,18,19,20,21,22,23,24] rfl zz0 ?_
  refine .rn [0,1,2,3,4] [5,6,7,8,9,10,11,12,13,14,15,16,17,18,19,20,21,22,23,24] ?_
  refine .split (t := 35) rfl (fun c35 => ?_) (fun c35 => ?_)
  ·try rw [c35]
   try simp at c35
   refine .rn [5,6,7,8,9,10,11] [12,13,14,15,16,17,18,19,20,21,22,23,24] ?_
   refine .split (t := 42) rfl (fun c42 => ?_) (fun c42 => ?_)
   ·try rw [c42]
    try simp at c42
    refine .rn [12,13,14,15,16,17,18,19,20,21,22,23,24] [] ?_
    refine .done ?_
    refine .ret ?_
    refine ⟨_, _, zz4,zz4, ?_⟩
    first | rfl | (simp [*]; done) | (simp_all; done)
   ·try rw [c42]
    try simp at c42
  ·try rw [c35]
   try simp at c35
end Go.Am.Ds
end
section
namespace Go.Am.Ds
open Go Go.Am Go.Proofs
set_option maxRecDepth 100000
set_option maxHeartbeats 4000000
set_option linter.unusedSimpArgs false
set_option linter.unusedVariables false
attribute [local simp] vrun vwanted vyielded vop vopA vputAll VHeap.back hidI hidF backL bm Nat.testBit_eq_decide_div_mod_eq veval vevals vparts vO vbuiltin vlen vappend velems vcopy vmakeSlice vbuildSlice valloc vbox vmakeMap vload vpartT vpart vstore vfieldAddr vfield vindexAddr vindex vextract vslice vsliceZ vbounds vbnd zeroO vidx vlookup vmget vmapUpdate vdelete vclear vnilq vnilp vnils vbin vsc vsc1 vscs vscl abinOp aint ashift aunOp aconvert amaxs amax2 pvcV pvc pvcs tput tget vargs VHeap.get VHeap.alloc VHeap.put VHeap.drop VHeap.empty vlook vput vdrop psplice pfill preps chunk List.range List.range.loop vresults vresult vresultV frz frzL PV.isF PV.allF PV.scal PV.allS retP subT allFT PV.one PV.ids PV.idsL dropL beq_eq ble_dec blt_dec
attribute [local simp] zW tup2
def kvM (l : List (Int × Int)) : List (Int × PV) := l.map fun x => (x.1, .int .u32 x.2)
def getM (l : List (Int × Int)) (n : Int) : Option Int := (l.find? fun x => decide (x.1 = n)).map (·.2)
def setM (l : List (Int × Int)) (n v : Int) : List (Int × Int) := match getM l n with
 | some _ => l.map fun x => if x.1 = n then (x.1, v) else x
 | none => l ++ [(n, v)]
theorem pfind_kvM (n : Int) : ∀ l : List (Int × Int), pfind .i64 n (kvs (kvM l)) = some ((getM l n).map (PV.int .u32))
 | [] => rfl
 | x :: r => by
  have ih := pfind_kvM n r
  unfold getM kvM kvs at ih ⊢
  simp only [List.map_cons, pfind, decide_true, cond_true]
  rw [ih, List.find?_cons]
  cases h : decide (x.1 = n) <;> simp
theorem map_qput_kvM (n v : Int) : ∀ l : List (Int × Int),(kvs (kvM l)).map (qput n (.int .u32 v)) = kvs (kvM (l.map fun x => if x.1 = n then (x.1, v) else x))
 | [] => rfl
 | x :: r => by
  have ih := map_qput_kvM n v r
  unfold kvM kvs at ih ⊢
  simp only [List.map_cons, qput] at ih ⊢
  rw [ih]
  by_cases h : x.1 = n <;> simp [h]
theorem pmset_kvM (n v : Int) (l : List (Int × Int)) : pmset .i64 n (.int .u32 v) (kvs (kvM l)) = some (kvs (kvM (setM l n v))) := by
 unfold pmset setM
 rw [pfind_kvM]
 cases h : getM l n with
 | none => simp [kvs, kvM]
 | some y => simp [map_qput_kvM]
theorem getM_none {l : List (Int × Int)} {n : Int} (h : getM l n = none) : n ∉ l.map (·.1) := by
 unfold getM at h
 rw [Option.map_eq_none_iff, List.find?_eq_none] at h
 intro h1
 obtain ⟨x, hx, rfl⟩ := List.mem_map.1 h1
 exact h x hx (by simp)
theorem setM_keys (l : List (Int × Int)) (n v : Int) : (setM l n v).map (·.1) = if (getM l n).isSome = true then l.map (·.1) else l.map (·.1) ++ [n] := by
 unfold setM
 cases h : getM l n with
 | none => simp
 | some y =>
  simp only [Option.isSome_some, if_true, List.map_map]
  apply List.map_congr_left
  intro x _
  simp only [Function.comp]
  split <;> rfl
theorem setM_nodup {l : List (Int × Int)} (h : (l.map (·.1)).Nodup) (n v : Int) : ((setM l n v).map (·.1)).Nodup := by
 rw [setM_keys]
 cases h1 : getM l n with
 | some y => simpa using h
 | none =>
  simp only [Option.isSome_none, Bool.false_eq_true, if_false]
  exact List.nodup_append.2 ⟨h, by simp, fun a ha b hb hab => by rw [List.mem_singleton] at hb; subst hab; subst hb; exact getM_none h1 ha⟩
theorem getM_mem {l : List (Int × Int)} {n : Int} : (getM l n).isSome = true ↔ n ∈ l.map (·.1) := by
 unfold getM
 rw [Option.isSome_map, List.find?_isSome]
 simp
theorem setM_mem {l : List (Int × Int)} {n v m : Int} : m ∈ (setM l n v).map (·.1) ↔ m ∈ l.map (·.1) ∨ m = n := by
 rw [setM_keys]
 split
 ·rename_i h
  rw [getM_mem] at h
  exact ⟨.inl, fun h2 => h2.elim id fun h3 => h3 ▸ h⟩
 ·simp
def posI (s : List Wit) (id : Int) : Nat := (idsS s).idxOf id
def orV (a b : Int) : Int := IntKind.u32.wrap ((BitVec.ofInt 32 a ||| BitVec.ofInt 32 b).toNat : Int)
def bitV (k : Nat) : Int := IntKind.u32.wrap (2 ^ min k 32)
def orU (a : Int) (k : Nat) : Int := orV a (bitV k)
@[local simp ↓ high] theorem aint_or32 (a b : Int) : aint .or .u32 a b = some (.int .u32 (orV a b)) := rfl
@[local simp ↓ high] theorem ashl32 (k : Nat) : ashift .shl .u32 1 (k : Int) = some (.int .u32 (bitV k)) := by
 unfold ashift bitV
 have h : ¬ ((k : Int) < 0) := by omega
 rw [decide_eq_false h, cond_false, Int.toNat_natCast, Int.one_mul]; rfl
def putM (k : Nat) (es : List (Int × Int)) (n : Int) : List (Int × Int) := setM es n (orU ((getM es n).getD 0) k)
def heldF (s : List Wit) (es : List (Int × Int)) (w : Wit) : List (Int × Int) := w.slips.foldl (putM (posI s w.id)) es
def heldM (s : List Wit) : List (Int × Int) := s.foldl (heldF s) []
theorem pos_get {s : List Wit} {w : Wit} (hw : w ∈ s) : ∃ h : posI s w.id < (idsS s).length, (idsS s)[posI s w.id] = w.id := by
 have h1 : posI s w.id < (idsS s).length := List.idxOf_lt_length_iff.2 (idsS_mem.2 ⟨w, hw, rfl⟩)
 exact ⟨h1, List.getElem_idxOf h1⟩
theorem p94 (s : List Wit) (h : checkS s = 0) : VPure Tryz.prog 94 [encS s] fun r => r = .vmap (kvs (kvM (heldM s))) := by
 have hl24 := (checkS_ok h).1
 have hidl := idsS_len s
 have hso := idsS_sorted (checkS_nodup h)
 refine .of_body Tryz.func94 rfl rfl ?_
 refine .seq ?_
 refine .rn ?_
 refine .seq ?_
 refine .regionL [0,1,2,3,4] rfl zz0 ?_
 refine .rn [0,1] [2,3,4] ?_
 refine .step rfl rfl (.pure rfl rfl rfl Tryz.call99 (by decide) (p99' s (by omega)) (by first | rfl | simp [*]) ?_)
 rintro _ rfl
 refine .rn [3,4] [] ?_
 refine .done ?_
 refine .seq ?_
 refine .seq ?_
 refine .rn ?_
 refine .block ?_
 refine .loopS (fun st : Nat × List (Int × Int) => ([(3, .mapv 1),(4, ints (idsS s)),(15, .vec (s.map encW)),(16, .int .i64 s.length),(17, .int .i64 st.1)], ⟨2,[(1, .map (kvs (kvM st.2))),(0, .box [.vec (s.map encW)])]⟩)) (fun st => st.1 ≤ s.length ∧ (s.drop st.1).foldl (heldF s) st.2 = heldM s) (fun st => s.length - st.1) (0,[]) ⟨by simp, by simp [heldM]⟩ (.mk [] [] zz14 zz15 rfl rfl rfl) ?_
 rintro ⟨i, es⟩ ⟨hi, hr⟩
 simp only at hi hr ⊢
 refine .seq ?_
 refine .rn ?_
 refine .seq ?_
 refine .condS rfl (fun c18 => ?_) (fun c18 => ?_)
 ·try simp at c18
  have hw2 : IntKind.i64.wrap ((i : Int) + 1) = (i : Int) + 1 := wrap64 (by omega) (by omega)
  have hE : encW s[i] = .agg [.int .i64 s[i].id, .int .i64 s[i].known, ints s[i].slips, ints s[i].mended, ints s[i].models, .int .i64 s[i].lo, .int .i64 s[i].hi] := rfl
  rw [foldl_drop (heldF s) s i c18] at hr
  obtain ⟨hp1, hp2⟩ := pos_get (List.getElem_mem c18)
  have hsl := ((checkS_lens h) s[i] (List.getElem_mem c18)).1
  obtain ⟨p, hp⟩ : ∃ p, posI s s[i].id = p := ⟨_, rfl⟩
  have hp24 : p < 24 := by omega
  refine .skip ?_
  refine .seq ?_
  refine .block ?_
  refine .seq ?_
  refine .rn ?_
  refine .seq ?_
  refine .regionL [0,1,2,3,4,5,6,7,8] rfl zz0 ?_
  refine .rn [0,1,2] [3,4,5,6,7,8] ?_
  refine .step rfl rfl (.pure rfl rfl rfl Tryz.call161 (by decide) ((by have h := p161 (idsS s) s[i].id (posI s s[i].id) hp1 hp2 hso (by omega); rw [hp] at h; exact h)) (by first | rfl | simp [*]) ?_)
  rintro _ rfl
  refine .rn [4,5,6,7,8] [] ?_
  refine .done ?_
  refine .seq ?_
  refine .rn ?_
  refine .block ?_
  refine .loopS (fun st : Nat × List (Int × Int) => ([(3, .mapv 1),(4, ints (idsS s)),(7, .int .i64 p),(15, .vec (s.map encW)),(16, .int .i64 s.length),(17, .int .i64 i),(29, ints s[i].slips),(30, .int .i64 s[i].slips.length),(31, .int .i64 st.1)], ⟨2,[(1, .map (kvs (kvM st.2))),(0, .box [.vec (s.map encW)])]⟩)) (fun st => st.1 ≤ s[i].slips.length ∧ (s[i].slips.drop st.1).foldl (putM p) st.2 = s[i].slips.foldl (putM p) es) (fun st => s[i].slips.length - st.1) (0, es) ⟨by simp, by simp⟩ (.mk [] [] zz14 zz15 rfl rfl rfl) ?_
  rintro ⟨j, es2⟩ ⟨hj, hs⟩
  simp only at hj hs ⊢
  refine .seq ?_
  refine .rn ?_
  refine .seq ?_
  refine .condS rfl (fun c32 => ?_) (fun c32 => ?_)
  ·try simp at c32
   have hw3 : IntKind.i64.wrap ((j : Int) + 1) = (j : Int) + 1 := wrap64 (by omega) (by omega)
   rw [foldl_drop (putM p) s[i].slips j c32] at hs
   have hpf := pfind_kvM s[i].slips[j] es2
   have hpm := fun v => pmset_kvM s[i].slips[j] v es2
   rcases hgm : getM es2 s[i].slips[j] with _ | v0 <;> rw [hgm] at hpf <;> simp only [Option.map] at hpf
   ·skip
    refine .skip ?_
    refine .seq ?_
    refine .block ?_
    refine .seq ?_
    refine .rn ?_
    refine .drawn (ms := [0,0,3,0,8,31,63]) (W := [6]) (items := [.op 0, .op 1, .op 2, .op 3, .op 4, .op 5, .op 6]) rfl zz0 zz0 zz0 ?_
    refine .rx ?_
    refine .rx ?_
    refine .rx ?_
    refine .rx ?_
    refine .rx ?_
    refine .rx ?_
    refine .wr rfl rfl (by decide) (.vop zz1 (by decide) ?_)
    refine .done ?_
    refine .rn ?_
    have hpu : putM p es2 s[i].slips[j] = setM es2 s[i].slips[j] (orV 0 (bitV p)) := by unfold putM; rw [hgm]; rfl
    refine ⟨(j + 1, putM p es2 s[i].slips[j]), ⟨zz5, hs⟩, zz5,(.mk [] [] zz14 zz15 rfl rfl rfl)⟩
   ·skip
    refine .skip ?_
    refine .seq ?_
    refine .block ?_
    refine .seq ?_
    refine .rn ?_
    refine .drawn (ms := [0,0,3,0,8,31,63]) (W := [6]) (items := [.op 0, .op 1, .op 2, .op 3, .op 4, .op 5, .op 6]) rfl zz0 zz0 zz0 ?_
    refine .rx ?_
    refine .rx ?_
    refine .rx ?_
    refine .rx ?_
    refine .rx ?_
    refine .rx ?_
    refine .wr rfl rfl (by decide) (.vop zz1 (by decide) ?_)
    refine .done ?_
    refine .rn ?_
    have hpu : putM p es2 s[i].slips[j] = setM es2 s[i].slips[j] (orV v0 (bitV p)) := by unfold putM; rw [hgm]; rfl
    refine ⟨(j + 1, putM p es2 s[i].slips[j]), ⟨zz5, hs⟩, zz5,(.mk [] [] zz14 zz15 rfl rfl rfl)⟩
  ·try simp at c32
   have hj2 : j = s[i].slips.length := by omega
   refine .exit ?_
   refine .rn ?_
   refine ⟨(i + 1, es2), ⟨zz5, ?_⟩, zz5,(.mk [] [] zz14 zz15 rfl rfl rfl)⟩
   rw [← hr, heldF, hp, ← hs, hj2, List.drop_length]; rfl
 ·try simp at c18
  have hi2 : i = s.length := by omega
  refine .exit ?_
  refine .seq ?_
  refine .rn ?_
  refine .ret ?_
  refine ⟨_, _, zz4,zz4, ?_⟩
  rw [← hr, hi2, List.drop_length]; rfl
end Go.Am.Ds
end
section
namespace Go.Am.Ds
open Go Go.Am Go.Proofs
theorem nodup_sub : ∀ {l m : List Int}, l.Nodup → (∀ x ∈ l, x ∈ m) → l.length ≤ m.length
 | [], _, _, _ => Nat.zero_le _
 | a :: r, m, hn, h => by
  rw [List.nodup_cons] at hn
  have ha := h a List.mem_cons_self
  have ih := nodup_sub (l := r) (m := m.erase a) hn.2 fun x hx => (List.mem_erase_of_ne (by rintro rfl; exact hn.1 hx)).2 (h x (List.mem_cons_of_mem _ hx))
  rw [List.length_erase_of_mem ha] at ih
  have := List.length_pos_iff.2 (List.ne_nil_of_mem ha)
  rw [List.length_cons]; omega
theorem foldM_mem (k : Nat) : ∀ (l : List Int) (es : List (Int × Int)) (n : Int), n ∈ (l.foldl (putM k) es).map (·.1) ↔ n ∈ es.map (·.1) ∨ n ∈ l
 | [], es, n => by simp
 | a :: r, es, n => by
  rw [List.foldl_cons, foldM_mem k r, putM, setM_mem, List.mem_cons]
  constructor
  ·rintro ((h | h) | h)
   ·exact .inl h
   ·exact .inr (.inl h)
   ·exact .inr (.inr h)
  ·rintro (h | h | h)
   ·exact .inl (.inl h)
   ·exact .inl (.inr h)
   ·exact .inr h
theorem foldM_nodup (k : Nat) : ∀ (l : List Int) (es : List (Int × Int)),(es.map (·.1)).Nodup → ((l.foldl (putM k) es).map (·.1)).Nodup
 | [], _, h => h
 | a :: r, es, h => by rw [List.foldl_cons]; exact foldM_nodup k r _ (setM_nodup h _ _)
theorem heldM_mem {s : List Wit} {n : Int} : n ∈ (heldM s).map (·.1) ↔ ∃ w ∈ s, n ∈ w.slips := by
 have : ∀ (l : List Wit) (es : List (Int × Int)), n ∈ (l.foldl (heldF s) es).map (·.1) ↔ n ∈ es.map (·.1) ∨ ∃ w ∈ l, n ∈ w.slips := by
  intro l
  induction l with
  | nil => intro es; simp
  | cons a r ih =>
   intro es
   rw [List.foldl_cons, ih, heldF, foldM_mem]
   constructor
   ·rintro ((h | h) | ⟨w, h1, h2⟩)
    ·exact .inl h
    ·exact .inr ⟨a, List.mem_cons_self, h⟩
    ·exact .inr ⟨w, List.mem_cons_of_mem _ h1, h2⟩
   ·rintro (h | ⟨w, h1, h2⟩)
    ·exact .inl (.inl h)
    ·rcases List.mem_cons.1 h1 with rfl | h1
     ·exact .inl (.inr h2)
     ·exact .inr ⟨w, h1, h2⟩
 unfold heldM
 rw [this]; simp
theorem heldM_nodup (s : List Wit) : ((heldM s).map (·.1)).Nodup := by
 have : ∀ (l : List Wit) (es : List (Int × Int)),(es.map (·.1)).Nodup → ((l.foldl (heldF s) es).map (·.1)).Nodup := by
  intro l
  induction l with
  | nil => intro es h; exact h
  | cons a r ih => intro es h; exact ih _ (foldM_nodup _ _ _ h)
 exact this s [] (by simp)
theorem heldM_len {s : List Wit} (h : checkS s = 0) : (heldM s).length ≤ 24 * 30 := by
 obtain ⟨h1, h2⟩ := checkS_ok h
 have e1 : ((heldM s).map (·.1)).length ≤ (s.flatMap Wit.slips).length := nodup_sub (heldM_nodup s) fun x hx => by
  obtain ⟨w, hw, hx⟩ := heldM_mem.1 hx
  exact List.mem_flatMap.2 ⟨w, hw, hx⟩
 have e2 : ∀ l : List Wit, (∀ w ∈ l, w.slips.length ≤ 30) → (l.flatMap Wit.slips).length ≤ l.length * 30 := by
  intro l
  induction l with
  | nil => intro _; simp
  | cons a r ih =>
   intro h3
   have := ih fun w hw => h3 w (List.mem_cons_of_mem _ hw)
   have := h3 a List.mem_cons_self
   rw [List.flatMap_cons, List.length_append, List.length_cons]; omega
 have e3 := e2 s fun w hw => (witE_len (h2 w hw)).1
 have e4 : s.length * 30 ≤ 24 * 30 := Nat.mul_le_mul_right 30 h1
 rw [List.length_map] at e1; omega
def slipsL (s : List Wit) : List Int := ((heldM s).map (·.1)).mergeSort fun x y => decide (x ≤ y)
theorem slipsL_len (s : List Wit) : (slipsL s).length = (heldM s).length := by simp [slipsL]
theorem slipsL_mem {s : List Wit} {n : Int} : n ∈ slipsL s ↔ ∃ w ∈ s, n ∈ w.slips := by
 unfold slipsL; rw [List.mem_mergeSort, heldM_mem]
theorem kvM_keys (l : List (Int × Int)) : (kvM l).map (·.1) = l.map (·.1) := by unfold kvM; rw [List.map_map]; rfl
end Go.Am.Ds
end
section
namespace Go.Am.Ds
open Go Go.Am Go.Proofs
set_option maxRecDepth 100000
set_option maxHeartbeats 4000000
set_option linter.unusedSimpArgs false
set_option linter.unusedVariables false
attribute [local simp] vrun vwanted vyielded vop vopA vputAll VHeap.back hidI hidF backL bm Nat.testBit_eq_decide_div_mod_eq veval vevals vparts vO vbuiltin vlen vappend velems vcopy vmakeSlice vbuildSlice valloc vbox vmakeMap vload vpartT vpart vstore vfieldAddr vfield vindexAddr vindex vextract vslice vsliceZ vbounds vbnd zeroO vidx vlookup vmget vmapUpdate vdelete vclear vnilq vnilp vnils vbin vsc vsc1 vscs vscl abinOp aint ashift aunOp aconvert amaxs amax2 pvcV pvc pvcs tput tget vargs VHeap.get VHeap.alloc VHeap.put VHeap.drop VHeap.empty vlook vput vdrop psplice pfill preps chunk List.range List.range.loop vresults vresult vresultV frz frzL PV.isF PV.allF PV.scal PV.allS retP subT allFT PV.one PV.ids PV.idsL dropL beq_eq ble_dec blt_dec
attribute [local simp] zW tup2
end Go.Am.Ds
end
section
namespace Go.Am.Ds
open Go Go.Am Go.Proofs
def andV (a b : Int) : Int := IntKind.u32.wrap ((BitVec.ofInt 32 a &&& BitVec.ofInt 32 b).toNat : Int)
def anV (a b : Int) : Int := IntKind.u32.wrap ((BitVec.ofInt 32 a &&& ~~~ BitVec.ofInt 32 b).toNat : Int)
def shrV (a : Int) (k : Nat) : Int := a.fdiv (2 ^ min k 32)
def crossV (x y : Int) : Bool := (andV x y != 0) && ((anV x y != 0) && (anV y x != 0))
def bitB (m : Int) (k : Nat) : Bool := andV (shrV m k) 1 == 1
def amP (m : Int) (l : List Int) (k : Nat) : List Int := (List.range k).filterMap fun i => if bitB m i then l[i]? else none
def amL (m : Int) (l : List Int) : List Int := amP m l l.length
theorem amP_succ (m : Int) (l : List Int) (k : Nat) (h : k < l.length) : amP m l (k + 1) = if bitB m k = true then amP m l k ++ [l[k]] else amP m l k := by
 unfold amP
 rw [List.range_succ, List.filterMap_append]
 by_cases hb : bitB m k = true
 ·rw [if_pos hb]; simp [hb, h]
 ·rw [if_neg hb]; simp [hb]
theorem amP_le (m : Int) (l : List Int) (k : Nat) : (amP m l k).length ≤ k := by
 unfold amP
 exact Nat.le_trans (List.length_filterMap_le _ _) (by simp)
theorem u32_small {n : Nat} (h : n < 4294967296) : IntKind.u32.wrap (n : Int) = (n : Int) := wrapu32 (by omega) (by omega)
theorem bv_nat (n : Nat) : (BitVec.ofInt 32 (n : Int)).toNat = n % 4294967296 := by
 rw [BitVec.ofInt_natCast, BitVec.toNat_ofNat]
theorem andV_nat {a b : Nat} (ha : a < 4294967296) (hb : b < 4294967296) : andV (a : Int) (b : Int) = ((a &&& b : Nat) : Int) := by
 unfold andV
 rw [BitVec.toNat_and, bv_nat, bv_nat, Nat.mod_eq_of_lt ha, Nat.mod_eq_of_lt hb]
 exact u32_small (Nat.lt_of_le_of_lt Nat.and_le_left ha)
theorem orV_nat {a b : Nat} (ha : a < 4294967296) (hb : b < 4294967296) : orV (a : Int) (b : Int) = ((a ||| b : Nat) : Int) := by
 unfold orV
 rw [BitVec.toNat_or, bv_nat, bv_nat, Nat.mod_eq_of_lt ha, Nat.mod_eq_of_lt hb]
 exact u32_small (Nat.or_lt_two_pow (n := 32) ha hb)
def anN (a b : Nat) : Nat := (BitVec.ofInt 32 (a : Int) &&& ~~~ BitVec.ofInt 32 (b : Int)).toNat
theorem anV_nat {a b : Nat} : anV (a : Int) (b : Int) = ((anN a b : Nat) : Int) := by
 unfold anV anN
 exact u32_small (BitVec.isLt _)
theorem anN_bit {a b : Nat} (ha : a < 4294967296) (hb : b < 4294967296) (k : Nat) : (anN a b).testBit k = (a.testBit k && !b.testBit k) := by
 unfold anN
 rw [BitVec.testBit_toNat, BitVec.getLsbD_and, BitVec.getLsbD_not, ← BitVec.testBit_toNat, ← BitVec.testBit_toNat, bv_nat, bv_nat, Nat.mod_eq_of_lt ha, Nat.mod_eq_of_lt hb]
 by_cases hk : k < 32
 ·simp [hk]
 ·have : a.testBit k = false := Nat.testBit_lt_two_pow (Nat.lt_of_lt_of_le ha (show (2 : Nat) ^ 32 ≤ 2 ^ k from Nat.pow_le_pow_right (by omega) (by omega)))
  simp [this, hk]
theorem anN_lt (a b : Nat) : anN a b < 4294967296 := BitVec.isLt _
theorem bitV_nat {k : Nat} (h : k < 32) : bitV k = ((2 ^ k : Nat) : Int) := by
 unfold bitV
 rw [Nat.min_eq_left (by omega)]
 have h1 : (2 : Nat) ^ k < 4294967296 := Nat.pow_lt_pow_right (by omega) (show k < 32 from h)
 have := u32_small h1
 rw [← this]; congr 1
theorem shrV_nat {a k : Nat} (h : k < 32) : shrV (a : Int) k = ((a >>> k : Nat) : Int) := by
 unfold shrV
 rw [Nat.min_eq_left (by omega), Nat.shiftRight_eq_div_pow, Int.fdiv_eq_ediv_of_nonneg _ (by exact Int.le_of_lt (Int.pow_pos (by omega)))]
 push_cast; rfl
theorem bitB_nat {a k : Nat} (ha : a < 4294967296) (h : k < 32) : bitB (a : Int) k = a.testBit k := by
 unfold bitB
 rw [shrV_nat h, show (1 : Int) = ((1 : Nat) : Int) from rfl, andV_nat (Nat.lt_of_le_of_lt (Nat.shiftRight_le _ _) ha) (by omega), Nat.testBit]
 rw [Bool.eq_iff_iff, Nat.and_comm]
 have h2 : 1 &&& (a >>> k) < 2 := by
  rw [Nat.one_and_eq_mod_two]; exact Nat.mod_lt _ (by omega)
 generalize 1 &&& (a >>> k) = x at h2 ⊢
 simp only [beq_iff_eq, bne_iff_ne, ne_eq]
 constructor
 ·intro h3 h4; omega
 ·intro h3; omega
theorem ne_zero_bit {n : Nat} : n ≠ 0 ↔ ∃ k, n.testBit k = true := by
 constructor
 ·intro h; obtain ⟨k, hk⟩ := Nat.exists_testBit_of_ne_zero h; exact ⟨k, hk⟩
 ·rintro ⟨k, hk⟩ h; rw [h, Nat.zero_testBit] at hk; cases hk
def okM (es : List (Int × Int)) (B : Int → Nat → Prop) : Prop := ∀ n, ∃ v : Nat, (getM es n).getD 0 = (v : Int) ∧ v < 4294967296 ∧ ∀ k, v.testBit k = true ↔ B n k
theorem getM_set (es : List (Int × Int)) (n v m : Int) : getM (setM es n v) m = if m = n then some v else getM es m := by
 unfold setM
 cases h : getM es n with
 | none =>
  simp only
  have h0 : es.find? (fun x => decide (x.1 = n)) = none := by unfold getM at h; simpa using h
  unfold getM
  rw [List.find?_append]
  by_cases hm : m = n
  ·subst hm; rw [if_pos rfl, h0]; simp
  ·rw [if_neg hm]
   cases hf : es.find? fun x => decide (x.1 = m) with
   | some x => simp
   | none => simp [Ne.symm hm]
 | some y =>
  simp only
  unfold getM at h ⊢
  induction es with
  | nil => simp at h
  | cons a r ih =>
   rw [List.map_cons, List.find?_cons, List.find?_cons]
   rw [List.find?_cons] at h
   by_cases ha : a.1 = n
   ·by_cases hm : m = n
    ·subst hm; simp [ha]
    ·have h1 : ¬ a.1 = m := fun h1 => hm (h1.symm.trans ha)
     have h2 : ¬ n = m := fun h2 => hm h2.symm
     rw [if_neg hm]
     simp only [ha, if_true, h2, decide_false]
     have : ∀ l : List (Int × Int),((l.map fun x => if x.1 = n then (x.1, v) else x).find? fun x => decide (x.1 = m)).map (·.2) = (l.find? fun x => decide (x.1 = m)).map (·.2) := by
      intro l
      induction l with
      | nil => rfl
      | cons b l ihl =>
       rw [List.map_cons, List.find?_cons, List.find?_cons]
       by_cases hb : b.1 = n
       ·have : ¬ b.1 = m := fun h3 => hm (h3.symm.trans hb)
        simp only [hb, if_true, h2, decide_false]; exact ihl
       ·rw [if_neg hb]
        cases decide (b.1 = m) with
        | true => rfl
        | false => exact ihl
     exact this r
   ·rw [decide_eq_false ha] at h
    rw [if_neg ha]
    by_cases hm : a.1 = m
    ·have h1 : ¬ m = n := fun h1 => ha (hm.trans h1)
     rw [if_neg h1, decide_eq_true hm]
    ·rw [decide_eq_false hm]
     exact ih h
theorem okM_put {es : List (Int × Int)} {B : Int → Nat → Prop} (h : okM es B) {p : Nat} (hp : p < 32) (n : Int) : okM (putM p es n) fun m k => B m k ∨ (m = n ∧ k = p) := by
 intro m
 unfold putM
 rw [getM_set]
 by_cases hm : m = n
 ·subst hm
  rw [if_pos rfl]
  obtain ⟨v, h1, h2, h3⟩ := h m
  refine ⟨v ||| 2 ^ p, ?_, Nat.or_lt_two_pow (n := 32) h2 (Nat.pow_lt_pow_right (by omega) hp), fun k => ?_⟩
  ·rw [Option.getD_some, h1]
   unfold orU
   rw [bitV_nat hp, orV_nat h2 (Nat.pow_lt_pow_right (by omega) hp)]
  ·rw [Nat.testBit_or, Bool.or_eq_true, h3, Nat.testBit_two_pow]
   simp only [decide_eq_true_eq]
   constructor
   ·rintro (h4 | h4)
    ·exact .inl h4
    ·exact .inr ⟨trivial, h4.symm⟩
   ·rintro (h4 | ⟨_, h4⟩)
    ·exact .inl h4
    ·exact .inr h4.symm
 ·rw [if_neg hm]
  obtain ⟨v, h1, h2, h3⟩ := h m
  refine ⟨v, h1, h2, fun k => ?_⟩
  rw [h3]
  exact ⟨.inl, fun h4 => h4.elim id fun h5 => absurd h5.1 hm⟩
theorem okM_fold {p : Nat} (hp : p < 32) : ∀ (l : List Int) {es : List (Int × Int)} {B : Int → Nat → Prop}, okM es B → okM (l.foldl (putM p) es) fun m k => B m k ∨ (m ∈ l ∧ k = p)
 | [], es, B, h => by
  intro n
  obtain ⟨v, h1, h2, h3⟩ := h n
  exact ⟨v, h1, h2, fun k => by rw [h3]; simp⟩
 | a :: r, es, B, h => by
  have ih := okM_fold hp r (okM_put h hp a)
  intro n
  obtain ⟨v, h1, h2, h3⟩ := ih n
  refine ⟨v, h1, h2, fun k => ?_⟩
  rw [h3]
  show ((B n k ∨ n = a ∧ k = p) ∨ n ∈ r ∧ k = p) ↔ (B n k ∨ n ∈ a :: r ∧ k = p)
  rw [List.mem_cons]
  constructor
  ·rintro ((h4 | ⟨h4, h5⟩) | ⟨h4, h5⟩)
   ·exact .inl h4
   ·exact .inr ⟨.inl h4, h5⟩
   ·exact .inr ⟨.inr h4, h5⟩
  ·rintro (h4 | ⟨h4 | h4, h5⟩)
   ·exact .inl (.inl h4)
   ·exact .inl (.inr ⟨h4, h5⟩)
   ·exact .inr ⟨h4, h5⟩
theorem held_bits {s : List Wit} (h : checkS s = 0) : okM (heldM s) fun n k => ∃ w ∈ s, posI s w.id = k ∧ n ∈ w.slips := by
 have hl := (checkS_ok h).1
 have : ∀ (l : List Wit),(∀ w ∈ l, w ∈ s) → ∀ {es : List (Int × Int)} {B : Int → Nat → Prop}, okM es B → okM (l.foldl (heldF s) es) fun n k => B n k ∨ ∃ w ∈ l, posI s w.id = k ∧ n ∈ w.slips := by
  intro l
  induction l with
  | nil =>
   intro _ es B h1 n
   obtain ⟨v, h2, h3, h4⟩ := h1 n
   exact ⟨v, h2, h3, fun k => by rw [h4]; simp⟩
  | cons a r ih =>
   intro hs es B h1 n
   obtain ⟨hp, _⟩ := pos_get (hs a List.mem_cons_self)
   have hp32 : posI s a.id < 32 := by have := idsS_len s; omega
   obtain ⟨v, h2, h3, h4⟩ := ih (fun w hw => hs w (List.mem_cons_of_mem _ hw)) (okM_fold hp32 a.slips h1) n
   refine ⟨v, h2, h3, fun k => ?_⟩
   rw [h4]
   constructor
   ·rintro ((h5 | ⟨h5, h6⟩) | ⟨w, h5, h6⟩)
    ·exact .inl h5
    ·exact .inr ⟨a, List.mem_cons_self, h6.symm, h5⟩
    ·exact .inr ⟨w, List.mem_cons_of_mem _ h5, h6⟩
   ·rintro (h5 | ⟨w, h5, h6, h7⟩)
    ·exact .inl (.inl h5)
    ·rcases List.mem_cons.1 h5 with rfl | h5
     ·exact .inl (.inr ⟨h7, h6.symm⟩)
     ·exact .inr ⟨w, h5, h6, h7⟩
 have h0 : okM [] fun _ _ => False := fun n => ⟨0, rfl, by omega, fun k => by simp⟩
 intro n
 obtain ⟨v, h1, h2, h3⟩ := this s (fun w hw => hw) h0 n
 exact ⟨v, h1, h2, fun k => by rw [h3]; simp⟩
def vM (s : List Wit) (n : Int) : Int := (getM (heldM s) n).getD 0
def crB (s : List Wit) (a b : Int) : Bool := crossV (vM s a) (vM s b)
def crO (s : List Wit) : List Int → Option (Int × Int)
 | [] => none
 | a :: r => match r.find? (crB s a) with
  | some b => some (a, b)
  | none => crO s r
def crR (s : List Wit) : Option (Int × Int) := crO s (slipsL s)
theorem crO_some {s : List Wit} {a b : Int} : ∀ {l : List Int}, crO s l = some (a, b) → a ∈ l ∧ b ∈ l ∧ crB s a b = true
 | [], h => by unfold crO at h; cases h
 | x :: r, h => by
  unfold crO at h
  split at h
  ·rename_i y hy
   injection h with h
   injection h with h1 h2
   subst h1; subst h2
   exact ⟨List.mem_cons_self, List.mem_cons_of_mem _ (List.mem_of_find?_eq_some hy), by simpa using List.find?_some hy⟩
  ·obtain ⟨h1, h2, h3⟩ := crO_some h
   exact ⟨List.mem_cons_of_mem _ h1, List.mem_cons_of_mem _ h2, h3⟩
theorem crO_none {s : List Wit} (hsym : ∀ a b, crB s a b = crB s b a) (hirr : ∀ a, crB s a a = false) : ∀ {l : List Int}, crO s l = none → ∀ a ∈ l, ∀ b ∈ l, crB s a b = false
 | [], _ => fun a ha => by cases ha
 | x :: r, h => by
  unfold crO at h
  split at h
  ·cases h
  ·rename_i hn
   have h1 : ∀ b ∈ r, crB s x b = false := fun b hb => by
    have := List.find?_eq_none.1 hn b hb
    simpa using this
   have h2 := crO_none hsym hirr h
   intro a ha b hb
   rcases List.mem_cons.1 ha with ea | ha2
   ·rcases List.mem_cons.1 hb with eb | hb2
    ·rw [ea, eb]; exact hirr _
    ·rw [ea]; exact h1 b hb2
   ·rcases List.mem_cons.1 hb with eb | hb2
    ·rw [eb, hsym]; exact h1 a ha2
    ·exact h2 a ha2 b hb2
def crP (s : List Wit) (a b : Int) : Prop := (∃ w ∈ s, a ∈ w.slips ∧ b ∈ w.slips) ∧ (∃ w ∈ s, a ∈ w.slips ∧ b ∉ w.slips) ∧ ∃ w ∈ s, b ∈ w.slips ∧ a ∉ w.slips
theorem pos_inj {s : List Wit} (h : checkS s = 0) {w u : Wit} (hw : w ∈ s) (hu : u ∈ s) (e : posI s w.id = posI s u.id) : w = u := by
 obtain ⟨h1, h2⟩ := pos_get hw
 obtain ⟨h3, h4⟩ := pos_get hu
 have h5 : w.id = u.id := by rw [← h2, ← h4]; congr 1
 have e1 := getW_own (checkS_nodup h) hw
 rw [h5, getW_own (checkS_nodup h) hu] at e1
 injection e1 with e1; exact e1.symm
theorem crB_iff {s : List Wit} (h : checkS s = 0) (a b : Int) : crB s a b = true ↔ crP s a b := by
 obtain ⟨x, hx1, hx2, hx3⟩ := held_bits h a
 obtain ⟨y, hy1, hy2, hy3⟩ := held_bits h b
 unfold crB crossV
 rw [show vM s a = (x : Int) from hx1, show vM s b = (y : Int) from hy1, andV_nat hx2 hy2, anV_nat, anV_nat]
 have hz : ∀ n : Nat, (((n : Int) != 0) = true) ↔ ∃ k, n.testBit k = true := fun n => by
  rw [← ne_zero_bit]; simp
 rw [Bool.and_eq_true, Bool.and_eq_true, hz, hz, hz]
 unfold crP
 have e1 : (∃ k, (x &&& y).testBit k = true) ↔ ∃ w ∈ s, a ∈ w.slips ∧ b ∈ w.slips := by
  constructor
  ·rintro ⟨k, hk⟩
   rw [Nat.testBit_and, Bool.and_eq_true, hx3, hy3] at hk
   obtain ⟨⟨w, hw, hwk, hwa⟩, ⟨u, hu, huk, hub⟩⟩ := hk
   have := pos_inj h hw hu (hwk.trans huk.symm)
   subst this
   exact ⟨w, hw, hwa, hub⟩
  ·rintro ⟨w, hw, h1, h2⟩
   refine ⟨posI s w.id, ?_⟩
   rw [Nat.testBit_and, Bool.and_eq_true, hx3, hy3]
   exact ⟨⟨w, hw, rfl, h1⟩, ⟨w, hw, rfl, h2⟩⟩
 have e2 : ∀ {p q : Int} {X Y : Nat}, X < 4294967296 → Y < 4294967296 → (∀ k, X.testBit k = true ↔ ∃ w ∈ s, posI s w.id = k ∧ p ∈ w.slips) → (∀ k, Y.testBit k = true ↔ ∃ w ∈ s, posI s w.id = k ∧ q ∈ w.slips) → ((∃ k, (anN X Y).testBit k = true) ↔ ∃ w ∈ s, p ∈ w.slips ∧ q ∉ w.slips) := by
  intro p q X Y hX hY h1 h2
  constructor
  ·rintro ⟨k, hk⟩
   rw [anN_bit hX hY, Bool.and_eq_true, h1, Bool.not_eq_true'] at hk
   obtain ⟨⟨w, hw, hwk, hwa⟩, hn⟩ := hk
   refine ⟨w, hw, hwa, fun h3 => ?_⟩
   have := (h2 k).2 ⟨w, hw, hwk, h3⟩
   rw [hn] at this; cases this
  ·rintro ⟨w, hw, h3, h4⟩
   refine ⟨posI s w.id, ?_⟩
   rw [anN_bit hX hY, Bool.and_eq_true, h1, Bool.not_eq_true']
   refine ⟨⟨w, hw, rfl, h3⟩, ?_⟩
   cases hb : Y.testBit (posI s w.id) with
   | false => rfl
   | true =>
    obtain ⟨u, hu, huk, hub⟩ := (h2 _).1 hb
    have := pos_inj h hu hw huk
    subst this
    exact absurd hub h4
 rw [e1, e2 hx2 hy2 hx3 hy3, e2 hy2 hx2 hy3 hx3]
theorem crR_iff {s : List Wit} (h : checkS s = 0) : (crR s).isSome = true ↔ ∃ a b, crP s a b := by
 constructor
 ·intro h1
  cases hc : crR s with
  | none => rw [hc] at h1; cases h1
  | some p => exact ⟨p.1, p.2,(crB_iff h _ _).1 (crO_some (by exact hc)).2.2⟩
 ·rintro ⟨a, b, hab⟩
  cases hc : crR s with
  | some p => rfl
  | none =>
   exfalso
   have hsym : ∀ a b, crB s a b = crB s b a := fun a b => by
    rw [Bool.eq_iff_iff, crB_iff h, crB_iff h]
    unfold crP
    constructor
    ·rintro ⟨⟨w, h1, h2, h3⟩, h4, h5⟩; exact ⟨⟨w, h1, h3, h2⟩, h5, h4⟩
    ·rintro ⟨⟨w, h1, h2, h3⟩, h4, h5⟩; exact ⟨⟨w, h1, h3, h2⟩, h5, h4⟩
   have hirr : ∀ a, crB s a a = false := fun a => by
    cases hb : crB s a a with
    | false => rfl
    | true =>
     obtain ⟨_, ⟨w, _, h2, h3⟩, _⟩ := (crB_iff h _ _).1 hb
     exact absurd h2 h3
   have h1 := hab
   obtain ⟨⟨w, hw, h2, h3⟩, _, _⟩ := h1
   have := crO_none hsym hirr hc a (slipsL_mem.2 ⟨w, hw, h2⟩) b (slipsL_mem.2 ⟨w, hw, h3⟩)
   rw [(crB_iff h a b).2 hab] at this; cases this
theorem amL_ne {s : List Wit} (h : checkS s = 0) {v : Nat} (hv : v < 4294967296) (hne : v ≠ 0) (hb : ∀ k, v.testBit k = true → k < (idsS s).length) : amL (v : Int) (idsS s) ≠ [] := by
 obtain ⟨k, hk⟩ := ne_zero_bit.1 hne
 have hl := hb k hk
 have h24 := (checkS_ok h).1
 have hil := idsS_len s
 intro h0
 unfold amL amP at h0
 rw [List.filterMap_eq_nil_iff] at h0
 have := h0 k (List.mem_range.2 hl)
 rw [bitB_nat hv (by omega), hk] at this
 simp at this; omega
theorem cross_ne {s : List Wit} (h : checkS s = 0) {a b : Int} (hc : crB s a b = true) : amL (andV (vM s a) (vM s b)) (idsS s) ≠ [] ∧ amL (anV (vM s a) (vM s b)) (idsS s) ≠ [] ∧ amL (anV (vM s b) (vM s a)) (idsS s) ≠ [] := by
 obtain ⟨x, hx1, hx2, hx3⟩ := held_bits h a
 obtain ⟨y, hy1, hy2, hy3⟩ := held_bits h b
 unfold crB crossV at hc
 rw [show vM s a = (x : Int) from hx1, show vM s b = (y : Int) from hy1] at hc ⊢
 rw [andV_nat hx2 hy2, anV_nat, anV_nat] at hc ⊢
 simp only [Bool.and_eq_true, bne_iff_ne, ne_eq] at hc
 obtain ⟨h1, h2, h3⟩ := hc
 have bx : ∀ k, x.testBit k = true → k < (idsS s).length := fun k hk => by
  obtain ⟨w, hw, rfl, _⟩ := (hx3 k).1 hk; exact (pos_get hw).1
 have by' : ∀ k, y.testBit k = true → k < (idsS s).length := fun k hk => by
  obtain ⟨w, hw, rfl, _⟩ := (hy3 k).1 hk; exact (pos_get hw).1
 refine ⟨amL_ne h (Nat.lt_of_le_of_lt Nat.and_le_left hx2) (by omega) fun k hk => ?_, amL_ne h (anN_lt _ _) (by omega) fun k hk => ?_, amL_ne h (anN_lt _ _) (by omega) fun k hk => ?_⟩
 ·rw [Nat.testBit_and, Bool.and_eq_true] at hk; exact bx k hk.1
 ·rw [anN_bit hx2 hy2, Bool.and_eq_true] at hk; exact bx k hk.1
 ·rw [anN_bit hy2 hx2, Bool.and_eq_true] at hk; exact by' k hk.1
end Go.Am.Ds
end
section
namespace Go.Am.Ds
open Go Go.Am Go.Proofs
set_option maxRecDepth 100000
set_option maxHeartbeats 4000000
set_option linter.unusedSimpArgs false
set_option linter.unusedVariables false
attribute [local simp] vrun vwanted vyielded vop vopA vputAll VHeap.back hidI hidF backL bm Nat.testBit_eq_decide_div_mod_eq veval vevals vparts vO vbuiltin vlen vappend velems vcopy vmakeSlice vbuildSlice valloc vbox vmakeMap vload vpartT vpart vstore vfieldAddr vfield vindexAddr vindex vextract vslice vsliceZ vbounds vbnd zeroO vidx vlookup vmget vmapUpdate vdelete vclear vnilq vnilp vnils vbin vsc vsc1 vscs vscl abinOp aint ashift aunOp aconvert amaxs amax2 pvcV pvc pvcs tput tget vargs VHeap.get VHeap.alloc VHeap.put VHeap.drop VHeap.empty vlook vput vdrop psplice pfill preps chunk List.range List.range.loop vresults vresult vresultV frz frzL PV.isF PV.allF PV.scal PV.allS retP subT allFT PV.one PV.ids PV.idsL dropL beq_eq ble_dec blt_dec
attribute [local simp] zW tup2
@[local simp ↓ high] theorem aint_and32 (a b : Int) : aint .and .u32 a b = some (.int .u32 (andV a b)) := rfl
@[local simp ↓ high] theorem aint_an32 (a b : Int) : aint .andNot .u32 a b = some (.int .u32 (anV a b)) := rfl
@[local simp ↓ high] theorem ashr32 (a : Int) (k : Nat) : ashift .shr .u32 a (k : Int) = some (.int .u32 (shrV a k)) := by
 unfold ashift shrV
 have h : ¬ ((k : Int) < 0) := by omega
 rw [decide_eq_false h, cond_false, Int.toNat_natCast]; rfl
theorem p96 (x y : Int) : VPure Tryz.prog 96 [.int .u32 x, .int .u32 y] fun r => r = .tup [.agg [.int .u32 (andV x y), .int .u32 (anV x y), .int .u32 (anV y x)], .bool (crossV x y)] := by
 have hcx : crossV x y = (andV x y != 0 && (anV x y != 0 && anV y x != 0)) := rfl
 refine .of_body Tryz.func96 rfl rfl ?_
 refine .seq ?_
 refine .rn ?_
 refine .seq ?_
 refine .rn ?_
 refine .seq ?_
 refine .drawn (ms := [0,0,2,6,14,30,62,126,254,510,1022,2046,4094,8190,1023,32767]) (W := [14]) (items := [.op 0, .op 1, .op 2, .op 3, .op 4, .op 5, .op 6, .op 7, .op 8, .op 9, .op 10, .op 11, .op 12, .op 13, .op 14, .ck 11, .op 15]) rfl zz0 zz0 zz0 ?_
 refine .rx ?_
 refine .rx ?_
 refine .rx ?_
 refine .rx ?_
 refine .rx ?_
 refine .split (t := 21) rfl (fun c21 => ?_) (fun c21 => ?_)
 ·try rw [c21]
  try simp at c21
  have e1 : (andV x y != 0) = true := by simpa using c21
  refine .rx ?_
  refine .rx ?_
  refine .rx ?_
  refine .rx ?_
  refine .rx ?_
  refine .split (t := 26) rfl (fun c26 => ?_) (fun c26 => ?_)
  ·try rw [c26]
   try simp at c26
   have e2 : (anV x y != 0) = true := by simpa using c26
   refine .rx ?_
   refine .rx ?_
   refine .rx ?_
   refine .rx ?_
   refine .wr rfl rfl (by decide) (.stor (todo' := [11]) rfl rfl rfl rfl zz1 rfl (⟨⟨by decide +kernel, _, _, rfl, zz1⟩, trivial⟩) ?_)
   refine .ck rfl zz0 ?_
   refine .rx ?_
   refine .done ?_
   refine .ret ?_
   refine ⟨_, _, zz4,zz4, ?_⟩
   simp only [hcx, e1, e2, Bool.true_and]
  ·try rw [c26]
   try simp at c26
   have e2 : (anV x y != 0) = false := by simp [c26]
   refine .un rfl rfl (by decide) ?_
   refine .un rfl rfl (by decide) ?_
   refine .un rfl rfl (by decide) ?_
   refine .rx ?_
   refine .wr rfl rfl (by decide) (.stor (todo' := []) rfl rfl rfl rfl zz1 rfl trivial ?_)
   refine .ckU rfl rfl rfl ?_
   refine .rx ?_
   refine .done ?_
   refine .ret ?_
   refine ⟨_, _, zz4,zz4, ?_⟩
   simp only [hcx, e1, e2, Bool.false_and, Bool.and_false]
   simp [c26]
 ·try rw [c21]
  try simp at c21
  have e1 : (andV x y != 0) = false := by simp [c21]
  refine .un rfl rfl (by decide) ?_
  refine .un rfl rfl (by decide) ?_
  refine .un rfl rfl (by decide) ?_
  refine .rx ?_
  refine .rx ?_
  refine .un rfl rfl (by decide) ?_
  refine .un rfl rfl (by decide) ?_
  refine .un rfl rfl (by decide) ?_
  refine .rx ?_
  refine .wr rfl rfl (by decide) (.stor (todo' := []) rfl rfl rfl rfl zz1 rfl trivial ?_)
  refine .ckU rfl rfl rfl ?_
  refine .rx ?_
  refine .done ?_
  refine .ret ?_
  refine ⟨_, _, zz4,zz4, ?_⟩
  simp only [hcx, e1, Bool.false_and]
  simp [c21]
theorem p98 (m : Int) (l : List Int) (hl : l.length ≤ 24) : VPure Tryz.prog 98 [.int .u32 m, ints l] fun r => Soft r (ints (amL m l)) := by
 refine .of_body Tryz.func98 rfl rfl ?_
 refine .seq ?_
 refine .rn ?_
 refine .seq ?_
 refine .rn ?_
 refine .seq ?_
 refine .seq ?_
 refine .rn ?_
 refine .block ?_
 refine .loopS (fun k : Nat => ([(0, .int .u32 m),(5, .grow 0 (amP m l k).length true),(8, ints l),(9, .int .i64 l.length),(10, .int .i64 k)], ⟨1,[(0, .grow 1 ((amP m l k).map (.int .i64)))]⟩)) (fun k => k ≤ l.length) (fun k => l.length - k) 0 (by simp [amP]) (.mk [] [] zz14 zz15 rfl rfl rfl) ?_
 rintro k hk
 simp only at hk ⊢
 have hle := amP_le m l k
 refine .seq ?_
 refine .rn ?_
 refine .seq ?_
 refine .condS rfl (fun c11 => ?_) (fun c11 => ?_)
 ·try simp at c11
  have hw2 : IntKind.i64.wrap ((k : Int) + 1) = (k : Int) + 1 := wrap64 (by omega) (by omega)
  have hS := amP_succ m l k c11
  have hb : (amP m l k).length ≤ 4294967295 := by omega
  have hone : allOne [PV.int IntKind.i64 l[k]] = true := rfl
  refine .skip ?_
  refine .seq ?_
  refine .block ?_
  refine .seq ?_
  refine .rn ?_
  refine .seq ?_
  refine .rn ?_
  refine .condS rfl (fun c19 => ?_) (fun c19 => ?_)
  ·try simp at c19
   rw [if_pos (show bitB m k = true by unfold bitB; simp [c19])] at hS
   refine .rn ?_
   refine .rn ?_
   refine ⟨k + 1, c11,zz5,(.mk [] [(0,2)] zz14 zz15 rfl rfl rfl)⟩
  ·try simp at c19
   rw [if_neg (show ¬ bitB m k = true by unfold bitB; simp [c19])] at hS
   refine .skip ?_
   refine .rn ?_
   refine ⟨k + 1, c11,zz5,(.mk [] [] zz14 zz15 rfl rfl rfl)⟩
 ·try simp at c11
  have hk2 : k = l.length := by omega
  subst hk2
  refine .exit ?_
  refine .seq ?_
  refine .rn ?_
  refine .ret ?_
  refine ⟨_, _, zz4,zz4, ?_⟩
  exact soft_rfl rfl
theorem p98' (m : Int) (l : List Int) (hl : l.length ≤ 24) : VPure Tryz.prog 98 [.int .u32 m, ints l] fun r => r = ints (amL m l) := VPure.soft (p98 m l hl) rfl
theorem p97 (m : Int) (s : List Wit) (h : checkS s = 0) (hne : amL m (idsS s) ≠ []) : VPure Tryz.prog 97 [.int .u32 m, .vp (encS s).cells] fun r => r = .int .i64 ((amL m (idsS s)).headD 0) := by
 have hl24 := (checkS_ok h).1
 have hil := idsS_len s
 obtain ⟨b, r, hbr⟩ : ∃ b r, amL m (idsS s) = b :: r := by
  cases hc : amL m (idsS s) with
  | nil => exact absurd hc hne
  | cons b r => exact ⟨b, r, rfl⟩
 refine .of_body Tryz.func97 rfl rfl ?_
 refine .seq ?_
 refine .rn ?_
 refine .seq ?_
 refine .regionL [0,1,2,3,4,5,6] rfl zz0 ?_
 refine .rn [0,1] [2,3,4,5,6] ?_
 refine .step rfl rfl (.pure rfl rfl rfl Tryz.call99 (by decide) (p99' s (by omega)) (by first | rfl | simp [*]) ?_)
 rintro _ rfl
 refine .step rfl rfl (.pure rfl rfl rfl Tryz.call98 (by decide) ((by have h := p98' m (idsS s) (by omega); rw [hbr] at h; exact h)) (by first | rfl | simp [*]) ?_)
 rintro _ rfl
 refine .rn [4,5,6] [] ?_
 refine .done ?_
 refine .ret ?_
 refine ⟨_, _, zz4,zz4, ?_⟩
 first | rfl | (simp [*]; done) | (simp_all; done)
theorem p95 (s : List Wit) (h : checkS s = 0) : VPure Tryz.prog 95 [.vmap (kvs (kvM (heldM s)))] fun r => r = .tup [.int .i64 ((crR s).getD (0,0)).1, .int .i64 ((crR s).getD (0,0)).2, .bool (crR s).isSome] := by
 have hlen := heldM_len h
 have hsl := slipsL_len s
 have h125 : VPure Tryz.prog 125 [.vmap (kvs (kvM (heldM s)))] fun r => r = ints (slipsL s) := by
  have h := p125 (kvM (heldM s)) (by rw [kvM_keys]; exact heldM_nodup s) (by simp only [kvM, List.length_map]; omega)
  rw [kvM_keys] at h; exact h
 have hpf : ∀ n ∈ slipsL s, pfind .i64 n (kvs (kvM (heldM s))) = some (some (.int .u32 (vM s n))) := fun n hn => by
  have h1 : n ∈ (heldM s).map (·.1) := heldM_mem.2 (slipsL_mem.1 hn)
  have h2 := getM_mem.2 h1
  rw [pfind_kvM]
  unfold vM
  cases hg : getM (heldM s) n with
  | none => rw [hg] at h2; cases h2
  | some v => rfl
 have hL : (slipsL s).length ≤ 720 := by omega
 clear hsl hlen
 have hcr : crR s = crO s (slipsL s) := rfl
 generalize hM : kvs (kvM (heldM s)) = M at hpf h125
 generalize hLL : slipsL s = L at hpf hL h125 hcr
 refine .of_body Tryz.func95 rfl rfl ?_
 refine .seq ?_
 refine .rn ?_
 refine .scope ?_
 refine .seq ?_
 refine .regionL [0,1,2] rfl zz0 ?_
 refine .rn [0] [1,2] ?_
 refine .step rfl rfl (.pure rfl rfl rfl Tryz.call125 (by decide) (h125) (by first | rfl | simp [*]) ?_)
 rintro _ rfl
 refine .rn [2] [] ?_
 refine .done ?_
 refine .seq ?_
 refine .rn ?_
 refine .seq ?_
 refine .label ?_
 refine .seq ?_
 refine .seq ?_
 refine .rn ?_
 refine .block ?_
 refine .loopS (fun k : Nat => ([(0, .vmap M),(5, ints L),(6, .int .i64 0),(7, .int .i64 0),(8, .bool false),(15, ints L),(16, .int .i64 L.length),(17, .int .i64 k)], VHeap.empty)) (fun k => k ≤ L.length ∧ crR s = crO s (L.drop k)) (fun k => L.length - k) 0 ⟨by simp, by simpa using hcr⟩ (.pure (by simp [*]) (by simp)) ?_
 rintro k ⟨hk, hr⟩
 simp only at hk hr ⊢
 refine .seq ?_
 refine .rn ?_
 refine .seq ?_
 refine .condS rfl (fun c18 => ?_) (fun c18 => ?_)
 ·try simp at c18
  have hw2 : IntKind.i64.wrap ((k : Int) + 1) = (k : Int) + 1 := wrap64 (by omega) (by omega)
  rw [List.drop_eq_getElem_cons c18] at hr
  obtain ⟨D, hD⟩ : ∃ D, L.drop (k + 1) = D := ⟨_, rfl⟩
  have hDl : D.length = L.length - (k + 1) := by rw [← hD, List.length_drop]
  have hDm : ∀ x ∈ D, x ∈ L := fun x hx => List.mem_of_mem_drop (hD ▸ hx)
  have hDt : (L.map (PV.int .i64)).drop (k + 1) = D.map (.int .i64) := by rw [← List.map_drop, hD]
  have hDt2 : ((L.map (PV.int .i64)).drop (k + 1)).take (L.length - (k + 1)) = D.map (.int .i64) := by rw [hDt]; exact List.take_of_length_le (by rw [List.length_map]; omega)
  have hDt3 : List.take (L.length - (k + 1)) (D.map (PV.int .i64)) = D.map (.int .i64) := List.take_of_length_le (by rw [List.length_map]; omega)
  have hk1' : 0 ≤ (k : Int) + 1 ∧ (k : Int) + 1 ≤ (L.length : Int) := by omega
  have hDn : D.length ≤ 720 := by omega
  clear hDl
  have hpa := hpf L[k] (List.getElem_mem c18)
  have hk1 : k + 1 ≤ L.length := c18
  refine .skip ?_
  refine .seq ?_
  refine .block ?_
  refine .seq ?_
  refine .rn ?_
  refine .seq ?_
  refine .rn ?_
  refine .block ?_
  refine .loopS (fun j : Nat => ([(0, .vmap M),(5, ints L),(6, .int .i64 0),(7, .int .i64 0),(8, .bool false),(10, .int .i64 L[k]),(15, ints L),(16, .int .i64 L.length),(17, .int .i64 k),(25, ints D),(26, .int .i64 D.length),(27, .int .i64 j)], VHeap.empty)) (fun j => j ≤ D.length ∧ D.find? (crB s L[k]) = (D.drop j).find? (crB s L[k])) (fun j => D.length - j) 0 (by simp) (.pure (by simp [*]) (by simp)) ?_
  rintro j ⟨hj, hf⟩
  simp only at hj hf ⊢
  refine .seq ?_
  refine .rn ?_
  refine .seq ?_
  refine .condS rfl (fun c28 => ?_) (fun c28 => ?_)
  ·try simp at c28
   have hw3 : IntKind.i64.wrap ((j : Int) + 1) = (j : Int) + 1 := wrap64 (by omega) (by omega)
   rw [List.drop_eq_getElem_cons c28, List.find?_cons] at hf
   have hpb := hpf D[j] (hDm _ (List.getElem_mem c28))
   obtain ⟨cb, hcb⟩ : ∃ x, crB s L[k] D[j] = x := ⟨_, rfl⟩
   have h96 := p96 (vM s L[k]) (vM s D[j])
   rw [show crossV (vM s L[k]) (vM s D[j]) = cb from hcb] at h96
   rw [hcb] at hf
   refine .skip ?_
   refine .seq ?_
   refine .block ?_
   refine .seq ?_
   refine .rn ?_
   refine .seq ?_
   refine .regionL [0,1,2,3,4,5,6,7,8,9,10] rfl zz0 ?_
   refine .rn [0,1,2,3,4,5] [6,7,8,9,10] ?_
   refine .step rfl rfl (.pure rfl rfl rfl Tryz.call96 (by decide) (h96) (by first | rfl | simp [*]) ?_)
   rintro _ rfl
   refine .rn [7,8,9,10] [] ?_
   refine .done ?_
   refine .seq ?_
   refine .rn ?_
   refine .condS rfl (fun c41 => ?_) (fun c41 => ?_)
   ·try simp at c41
    rw [c41] at hf
    refine .seq ?_
    refine .rn ?_
    refine .exit ?_
    refine .seq ?_
    refine .rn ?_
    refine .ret ?_
    refine ⟨_, _, zz4,zz4, ?_⟩
    have hx : crR s = some (L[k], D[j]) := by rw [hr]; unfold crO; rw [hD, hf]
    rw [hx]; simp [c41]
   ·try simp at c41
    rw [c41] at hf
    refine .skip ?_
    refine .rn ?_
    refine ⟨j + 1, ⟨c28, hf⟩, zz5, .pure (by simp [*]) (by simp)⟩
  ·try simp at c28
   have hj2 : j = D.length := by omega
   rw [hj2, List.drop_length] at hf
   refine .exit ?_
   refine .rn ?_
   refine ⟨k + 1, ⟨c18, by
    rw [hr, hD]
    show (match D.find? (crB s L[k]) with | some b => some (L[k], b) | none => crO s D) = crO s D
    rw [hf]; rfl⟩, zz5, .pure (by simp [*]) (by simp)⟩
 ·try simp at c18
  have hk2 : k = L.length := by omega
  rw [hk2, List.drop_length] at hr
  refine .exit ?_
  refine .seq ?_
  refine .rn ?_
  refine .ret ?_
  refine ⟨_, _, zz4,zz4, ?_⟩
  rw [hr]; rfl
def zX : PV := .agg [.int .i64 0, .int .i64 0, .int .i64 0, .int .i64 0, .int .i64 0]
def crX (s : List Wit) (a b : Int) : PV := .agg [.int .i64 a, .int .i64 b, .int .i64 ((amL (andV (vM s a) (vM s b)) (idsS s)).headD 0), .int .i64 ((amL (anV (vM s a) (vM s b)) (idsS s)).headD 0), .int .i64 ((amL (anV (vM s b) (vM s a)) (idsS s)).headD 0)]
def crT (s : List Wit) : PV := if checkS s = 0 then (match crR s with
 | some p => .tup [crX s p.1 p.2, .bool true, .int .i64 0]
 | none => .tup [zX, .bool false, .int .i64 0]) else .tup [zX, .bool false, .int .i64 (checkS s)]
theorem p24 (s : List Wit) (hl : s.length < 4294967296) : VPure Tryz.prog 24 [encS s] fun r => r = crT s := by
 refine .of_body Tryz.func24 rfl rfl ?_
 refine .seq ?_
 refine .rn ?_
 refine .seq ?_
 refine .seq ?_
 refine .regionL [0,1,2] rfl zz0 ?_
 refine .rn [0] [1,2] ?_
 refine .step rfl rfl (.pure rfl rfl rfl Tryz.call35 (by decide) (p35 s hl) (by first | rfl | simp [*]) ?_)
 rintro _ rfl
 refine .rn [2] [] ?_
 refine .done ?_
 refine .seq ?_
 refine .rn ?_
 refine .condS rfl (fun c16 => ?_) (fun c16 => ?_)
 ·try simp at c16
  refine .seq ?_
  refine .rn ?_
  refine .ret ?_
  refine ⟨_, _, zz4,zz4, ?_⟩
  unfold crT zX; rw [if_neg c16]
 ·try simp at c16
  have hpf : ∀ n ∈ slipsL s, pfind .i64 n (kvs (kvM (heldM s))) = some (some (.int .u32 (vM s n))) := fun n hn => by
   have h1 : n ∈ (heldM s).map (·.1) := heldM_mem.2 (slipsL_mem.1 hn)
   have h2 := getM_mem.2 h1
   rw [pfind_kvM]
   unfold vM
   cases hg : getM (heldM s) n with
   | none => rw [hg] at h2; cases h2
   | some v => rfl
  have hT : crT s = match crR s with
   | some p => .tup [crX s p.1 p.2, .bool true, .int .i64 0]
   | none => .tup [zX, .bool false, .int .i64 0] := by unfold crT; rw [if_pos c16]
  have q95 := p95 s c16
  rcases hcr : crR s with _ | ⟨a, b⟩ <;> rw [hcr] at hT q95
  ·skip
   refine .skip ?_
   refine .seq ?_
   refine .regionL [0,1,2] rfl zz0 ?_
   refine .rn [0] [1,2] ?_
   refine .step rfl rfl (.pure rfl rfl rfl Tryz.call94 (by decide) (p94 s c16) (by first | rfl | simp [*]) ?_)
   rintro _ rfl
   refine .rn [2] [] ?_
   refine .done ?_
   refine .seq ?_
   refine .regionL [0,1,2,3,4,5,6,7,8] rfl zz0 ?_
   refine .rn [0] [1,2,3,4,5,6,7,8] ?_
   refine .step rfl rfl (.pure rfl rfl rfl Tryz.call95 (by decide) (q95) (by first | rfl | simp [*]) ?_)
   rintro _ rfl
   refine .rn [2,3,4,5,6,7,8] [] ?_
   refine .done ?_
   refine .seq ?_
   refine .seq ?_
   refine .rn ?_
   refine .condS rfl (fun c28 => ?_) (fun c28 => ?_)
   ·try simp at c28
    refine .seq ?_
    refine .rn ?_
    refine .ret ?_
    refine ⟨_, _, zz4,zz4, ?_⟩
    rw [hT]; rfl
   ·try simp at c28
  ·skip
   refine .skip ?_
   refine .seq ?_
   refine .regionL [0,1,2] rfl zz0 ?_
   refine .rn [0] [1,2] ?_
   refine .step rfl rfl (.pure rfl rfl rfl Tryz.call94 (by decide) (p94 s c16) (by first | rfl | simp [*]) ?_)
   rintro _ rfl
   refine .rn [2] [] ?_
   refine .done ?_
   refine .seq ?_
   refine .regionL [0,1,2,3,4,5,6,7,8] rfl zz0 ?_
   refine .rn [0] [1,2,3,4,5,6,7,8] ?_
   refine .step rfl rfl (.pure rfl rfl rfl Tryz.call95 (by decide) (q95) (by first | rfl | simp [*]) ?_)
   rintro _ rfl
   refine .rn [2,3,4,5,6,7,8] [] ?_
   refine .done ?_
   refine .seq ?_
   refine .seq ?_
   refine .rn ?_
   refine .condS rfl (fun c28 => ?_) (fun c28 => ?_)
   ·try simp at c28
   ·try simp at c28
    obtain ⟨hma, hmb, hab⟩ := crO_some (show crO s (slipsL s) = some (a, b) from hcr)
    have hpa := hpf a hma
    have hpb := hpf b hmb
    obtain ⟨n1, n2, n3⟩ := cross_ne c16 hab
    have h96 := p96 (vM s a) (vM s b)
    rw [show crossV (vM s a) (vM s b) = true from hab] at h96
    refine .skip ?_
    refine .seq ?_
    refine .regionL [0,1,2,3,4,5,6,7,8,9,10,11,12] rfl zz0 ?_
    refine .rn [0,1,2,3,4,5] [6,7,8,9,10,11,12] ?_
    refine .step rfl rfl (.pure rfl rfl rfl Tryz.call96 (by decide) (h96) (by first | rfl | simp [*]) ?_)
    rintro _ rfl
    refine .rn [7,8,9,10,11,12] [] ?_
    refine .done ?_
    refine .seq ?_
    refine .rec (vts2 := [(1, .vp (encS s).cells),(2, .ptr 1 0),(7, .int .i64 a),(8, .int .i64 b),(10, .ptr 2 0)]) (vh2 := ⟨3,[(2, .box [.int .u32 (andV (vM s a) (vM s b)), .int .u32 (anV (vM s a) (vM s b)), .int .u32 (anV (vM s b) (vM s a))]),(1, .box [.int .i64 0, .int .i64 0, .int .i64 0, .int .i64 0, .int .i64 0])]⟩) (.mk [0] [] (by repeat' (first | exact trivial | refine And.intro (Exists.intro _ (And.intro rfl ?_)) ?_ | exact Alt.fptr 0 0 _ rfl rfl rfl (Nat.zero_le _) | exact Alt.ptr _ _ _ (Nat.le_of_ble_eq_true rfl) rfl | (refine Alt.same _ ?_; first | rfl | (simp [*]; done)))) zz15 rfl rfl rfl) ?_
    refine .rn ?_
    refine .seq ?_
    refine .drawn (ms := [0,0,0,0,8,28,0,0,128,508,0,0,2048,8188,16383,32767,65535,131071]) (W := [5,9,13,15]) (items := [.op 0, .op 1, .op 2, .op 3, .op 4, .op 6, .op 7, .op 8, .op 10, .op 11, .op 12, .op 5, .ck 12, .ck 8, .op 9, .ck 12, .op 13, .op 14, .op 15, .op 16, .op 17]) rfl zz0 zz0 zz0 ?_
    refine .rx ?_
    refine .rx ?_
    refine .rx ?_
    refine .rx ?_
    refine .rx ?_
    refine .rx ?_
    refine .rx ?_
    refine .rx ?_
    refine .rx ?_
    refine .rx ?_
    refine .rx ?_
    refine .wr rfl rfl (by decide) (.pure rfl rfl rfl Tryz.call97 (by decide) (p97 (andV (vM s a) (vM s b)) s c16 n1) (by first | rfl | simp [*]) ?_)
    rintro _ rfl
    refine .ck rfl zz0 ?_
    refine .ck rfl zz0 ?_
    refine .wr rfl rfl (by decide) (.pure rfl rfl rfl Tryz.call97 (by decide) (p97 (anV (vM s a) (vM s b)) s c16 n2) (by first | rfl | simp [*]) ?_)
    rintro _ rfl
    refine .ck rfl zz0 ?_
    refine .wr rfl rfl (by decide) (.pure rfl rfl rfl Tryz.call97 (by decide) (p97 (anV (vM s b) (vM s a)) s c16 n3) (by first | rfl | simp [*]) ?_)
    rintro _ rfl
    refine .rx ?_
    refine .wr rfl rfl (by decide) (.vop zz1 (by decide) ?_)
    refine .rx ?_
    refine .rx ?_
    refine .done ?_
    refine .ret ?_
    refine ⟨_, _, zz4,zz4, ?_⟩
    rw [hT]; simp [crX]
end Go.Am.Ds
end
section
namespace Go.Am.Ds
open Go Go.Am Go.Proofs
set_option maxRecDepth 100000
set_option maxHeartbeats 4000000
set_option linter.unusedSimpArgs false
set_option linter.unusedVariables false
attribute [local simp] vrun vwanted vyielded vop vopA vputAll VHeap.back hidI hidF backL bm Nat.testBit_eq_decide_div_mod_eq veval vevals vparts vO vbuiltin vlen vappend velems vcopy vmakeSlice vbuildSlice valloc vbox vmakeMap vload vpartT vpart vstore vfieldAddr vfield vindexAddr vindex vextract vslice vsliceZ vbounds vbnd zeroO vidx vlookup vmget vmapUpdate vdelete vclear vnilq vnilp vnils vbin vsc vsc1 vscs vscl abinOp aint ashift aunOp aconvert amaxs amax2 pvcV pvc pvcs tput tget vargs VHeap.get VHeap.alloc VHeap.put VHeap.drop VHeap.empty vlook vput vdrop psplice pfill preps chunk List.range List.range.loop vresults vresult vresultV frz frzL PV.isF PV.allF PV.scal PV.allS retP subT allFT PV.one PV.ids PV.idsL dropL beq_eq ble_dec blt_dec
attribute [local simp] zW tup2
def and16 (a b : Int) : Int := IntKind.u16.wrap ((BitVec.ofInt 16 a &&& BitVec.ofInt 16 b).toNat : Int)
def shr16 (a : Int) (k : Nat) : Int := a.fdiv (2 ^ min k 16)
@[local simp ↓ high] theorem aint_and16 (a b : Int) : aint .and .u16 a b = some (.int .u16 (and16 a b)) := rfl
@[local simp ↓ high] theorem ashr16 (a : Int) (k : Nat) : ashift .shr .u16 a (k : Int) = some (.int .u16 (shr16 a k)) := by
 unfold ashift shr16
 have h : ¬ ((k : Int) < 0) := by omega
 rw [decide_eq_false h, cond_false, Int.toNat_natCast]; rfl
def bit16 (m : Int) (k : Nat) : Bool := and16 (shr16 m k) 1 == 1
def pkP (m : Int) (s : List Wit) (k : Nat) : List Int := (List.range k).filterMap fun i => if bit16 m i then (s[i]?).map Wit.id else none
theorem pkP_succ (m : Int) (s : List Wit) (k : Nat) (h : k < s.length) : pkP m s (k + 1) = if bit16 m k = true then pkP m s k ++ [s[k].id] else pkP m s k := by
 unfold pkP
 rw [List.range_succ, List.filterMap_append]
 by_cases hb : bit16 m k = true
 ·rw [if_pos hb]; simp [hb, h]
 ·rw [if_neg hb]; simp [hb]
theorem pkP_le (m : Int) (s : List Wit) (k : Nat) : (pkP m s k).length ≤ k := by
 unfold pkP
 exact Nat.le_trans (List.length_filterMap_le _ _) (by rw [List.length_range]; exact Nat.le_refl _)
theorem pkP_sub (m : Int) (s : List Wit) : ∀ k, k ≤ s.length → (pkP m s k).Sublist ((s.take k).map Wit.id)
 | 0, _ => by simp [pkP]
 | k + 1, h => by
  have ih := pkP_sub m s k (by omega)
  rw [pkP_succ m s k (by omega), List.take_succ_eq_append_getElem (by omega), List.map_append]
  split
  ·exact ih.append (List.Sublist.refl _)
  ·exact ih.trans (List.sublist_append_left _ _)
def butS (s : List Wit) (l : List Int) : List Wit := s.filter fun w => !decide (w.id ∈ l)
theorem but_len {s : List Wit} (h : checkS s = 0) {l : List Int} (hs : l.Sublist (s.map Wit.id)) : (butS s l).length + l.length = s.length := by
 have hn := checkS_nodup h
 have h1 : ((s.filter fun w => decide (w.id ∈ l)).map Wit.id).Nodup := (List.filter_sublist.map _).nodup hn
 have h2 : l.length ≤ ((s.filter fun w => decide (w.id ∈ l)).map Wit.id).length := nodup_sub (hs.nodup hn) fun x hx => by
  obtain ⟨w, hw, rfl⟩ := List.mem_map.1 (hs.subset hx)
  exact List.mem_map_of_mem (List.mem_filter.2 ⟨hw, by simpa using hx⟩)
 have h3 : ((s.filter fun w => decide (w.id ∈ l)).map Wit.id).length ≤ l.length := nodup_sub h1 fun x hx => by
  obtain ⟨w, hw, rfl⟩ := List.mem_map.1 hx
  simpa using (List.mem_filter.1 hw).2
 rw [List.length_map] at h2 h3
 have h4 : ∀ t : List Wit, (t.filter fun w => !decide (w.id ∈ l)).length + (t.filter fun w => decide (w.id ∈ l)).length = t.length := by
  intro t
  induction t with
  | nil => rfl
  | cons a r ih =>
   by_cases ha : a.id ∈ l
   ·simp [ha]; omega
   ·simp [ha]; omega
 have := h4 s
 unfold butS; omega
theorem but_cross {s : List Wit} (h : checkS s = 0) (l : List Int) (hc : (crR (butS s l)).isSome = true) : (crR s).isSome = true := by
 have h1 : checkS (butS s l) = 0 := checkS_filter h _
 rw [crR_iff h1] at hc
 rw [crR_iff h]
 obtain ⟨a, b, ⟨w, hw, h2⟩, ⟨u, hu, h3⟩, ⟨v, hv, h4⟩⟩ := hc
 exact ⟨a, b, ⟨w, (List.mem_filter.1 hw).1, h2⟩, ⟨u, (List.mem_filter.1 hu).1, h3⟩, ⟨v, (List.mem_filter.1 hv).1, h4⟩⟩
theorem p24x (s : List Wit) (h : checkS s = 0) : VPure Tryz.prog 24 [encS s] fun r => ∃ x1 x2 x3 x4 x5 : Int, r = .tup [.agg [.int .i64 x1, .int .i64 x2, .int .i64 x3, .int .i64 x4, .int .i64 x5], .bool (crR s).isSome, .int .i64 0] := by
 have hp := p24 s (by have := (checkS_ok h).1; omega)
 have hx : ∃ x1 x2 x3 x4 x5 : Int, crT s = .tup [.agg [.int .i64 x1, .int .i64 x2, .int .i64 x3, .int .i64 x4, .int .i64 x5], .bool (crR s).isSome, .int .i64 0] := by
  unfold crT
  rw [if_pos h]
  cases hc : crR s with
  | none => exact ⟨_, _, _, _, _, rfl⟩
  | some p => exact ⟨_, _, _, _, _, rfl⟩
 obtain ⟨x1, x2, x3, x4, x5, hx⟩ := hx
 rw [hx] at hp
 exact hp.mono fun r _ hr => ⟨hr.1, x1, x2, x3, x4, x5, hr.2⟩
def atS (s : List Wit) (d : Int) : List Wit := s.filter fun w => decide (w.known ≤ d)
theorem p37r (s : List Wit) (h : checkS s = 0) (d : Int) (h1 : 0 ≤ d) (h2 : d ≤ 730) : VPure Tryz.prog 37 [encS s, .int .i64 d] fun r => r = .tup [encS (atS s d), .int .i64 0] := by
 have := p37 s d (by have := (checkS_ok h).1; omega)
 rw [if_pos ⟨h, h1, h2⟩, if_pos h, if_pos ⟨h1, h2⟩] at this
 exact this
theorem at_at (s : List Wit) {e l : Int} (h : e ≤ l) : atS (atS s l) e = atS s e := by
 unfold atS
 rw [List.filter_filter]
 apply List.filter_congr
 intro w _
 rw [Bool.eq_iff_iff]
 simp only [Bool.and_eq_true, decide_eq_true_eq]
 omega
theorem p36b (s : List Wit) (h : checkS s = 0) (l : List Int) (hl : l.length < 4294967296) : VPure Tryz.prog 36 [encS s, ints l] fun r => r = .tup [encS (butS s l), .int .i64 0] := by
 have := p36 s l (by have := (checkS_ok h).1; omega) hl
 rw [if_pos h, h] at this
 rw [show butS s l = s.filter fun w => !decide (w.id ∈ setK [l]) from by unfold butS; congr 1; funext w; congr 1; rw [decide_eq_decide, mem_setK1]]
 exact this
theorem p5 (s : List Wit) (wh one two : Int) (hw : 0 ≤ wh ∧ wh ≤ 65535) (h1 : 0 ≤ one ∧ one ≤ 65535) (h2 : 0 ≤ two ∧ two ≤ 65535) (hl : s.length < 4611686018427387904) (sanB : Bool) (hsan : VPure Tryz.prog 22 [] fun r => r = .bool sanB) (hsb : sanB = true) : VPure Tryz.prog 5 [encS s, .int .u16 wh, .int .u16 one, .int .u16 two] fun r => r = .bool true := by
 refine .of_body Tryz.func5 rfl rfl ?_
 refine .seq ?_
 refine .rn ?_
 refine .seq ?_
 refine .seq ?_
 refine .regionL [0,1,2,3,4,5,6,7] rfl zz0 ?_
 refine .rn [0] [1,2,3,4,5,6,7] ?_
 refine .step rfl rfl (.pure rfl rfl rfl Tryz.call21 (by decide) (p21 s hl) (by first | rfl | simp [*]) ?_)
 rintro _ rfl
 refine .rn [2,3] [4,5,6,7] ?_
 refine .split (t := 31) rfl (fun c31 => ?_) (fun c31 => ?_)
 ·first | cases c31 | try rw [c31]
  try simp at c31
  refine .rn [4,5,6,7] [] ?_
  refine .done ?_
  refine .condT rfl ?_
  refine .seq ?_
  refine .regionL [0,1] rfl zz0 ?_
  refine .step rfl rfl (.pure rfl rfl rfl Tryz.call22 (by decide) (hsan) (by first | rfl | simp [*]) ?_)
  rintro _ rfl
  refine .rn [1] [] ?_
  refine .done ?_
  refine .ret ?_
  refine ⟨_, _, zz4,zz4, ?_⟩
  first | rfl | (simp [*]; done) | (simp_all; done)
 ·first | cases c31 | try rw [c31]
  try simp at c31
  have hl2 := smallS_len c31
  refine .rn [4] [5,6,7] ?_
  refine .step rfl rfl (.pure rfl rfl rfl Tryz.call35 (by decide) (p35 s (by omega)) (by first | rfl | simp [*]) ?_)
  rintro _ rfl
  refine .rn [6,7] [] ?_
  refine .done ?_
  refine .condS rfl (fun c35 => ?_) (fun c35 => ?_)
  ·try simp at c35
   refine .seq ?_
   refine .regionL [0,1] rfl zz0 ?_
   refine .step rfl rfl (.pure rfl rfl rfl Tryz.call22 (by decide) (hsan) (by first | rfl | simp [*]) ?_)
   rintro _ rfl
   refine .rn [1] [] ?_
   refine .done ?_
   refine .ret ?_
   refine ⟨_, _, zz4,zz4, ?_⟩
   first | rfl | (simp [*]; done) | (simp_all; done)
  ·try simp at c35
   refine .skip ?_
   refine .seq ?_
   refine .rn ?_
   refine .seq ?_
   refine .seq ?_
   refine .rn ?_
   refine .block ?_
   refine .loopS (fun k : Nat => ([(1, .int .u16 wh),(2, .int .u16 one),(3, .int .u16 two),(4, .ptr 0 0),(9, .grow 1 (pkP wh s k).length true),(10, .int .i64 k)], ⟨2,[(1, .grow 1 ((pkP wh s k).map (.int .i64))),(0, .box [.vec (s.map encW)])]⟩)) (fun k => k ≤ s.length) (fun k => s.length - k) 0 (by simp [pkP]) (.mk [] [] zz14 zz15 rfl rfl rfl) ?_
   rintro k hk
   simp only at hk ⊢
   have hle := pkP_le wh s k
   refine .seq ?_
   refine .seq ?_
   refine .rn ?_
   refine .condS rfl (fun c41 => ?_) (fun c41 => ?_)
   ·try simp at c41
    have hw2 : IntKind.i64.wrap ((k : Int) + 1) = (k : Int) + 1 := wrap64 (by omega) (by omega)
    have hS := pkP_succ wh s k c41
    have hb : (pkP wh s k).length ≤ 4294967295 := by omega
    have hone : allOne [PV.int IntKind.i64 s[k].id] = true := rfl
    have hE : encW s[k] = .agg [.int .i64 s[k].id, .int .i64 s[k].known, ints s[k].slips, ints s[k].mended, ints s[k].models, .int .i64 s[k].lo, .int .i64 s[k].hi] := rfl
    refine .skip ?_
    refine .seq ?_
    refine .block ?_
    refine .seq ?_
    refine .rn ?_
    refine .condS rfl (fun c48 => ?_) (fun c48 => ?_)
    ·try simp at c48
     rw [if_pos (show bit16 wh k = true by unfold bit16; simp [c48])] at hS
     refine .rn ?_
     refine .rn ?_
     refine ⟨k + 1, c41,zz5,(.mk [] [(1,3)] zz14 zz15 rfl rfl rfl)⟩
    ·try simp at c48
     rw [if_neg (show ¬ bit16 wh k = true by unfold bit16; simp [c48])] at hS
     refine .skip ?_
     refine .rn ?_
     refine ⟨k + 1, c41,zz5,(.mk [] [] zz14 zz15 rfl rfl rfl)⟩
   ·try simp at c41
    have hk2 : k = s.length := by omega
    subst hk2
    have hsub : (pkP wh s s.length).Sublist (s.map Wit.id) := by have := pkP_sub wh s s.length (Nat.le_refl _); rw [List.take_length] at this; exact this
    obtain ⟨l, hpl⟩ : ∃ x, pkP wh s s.length = x := ⟨_, rfl⟩
    rw [hpl] at hsub hle ⊢
    clear hpl
    have hbl := but_len c35 hsub
    have hck : checkS (butS s l) = 0 := checkS_filter c35 _
    have hmo : (crR (butS s l)).isSome = true → (crR s).isSome = true := but_cross c35 l
    have q36 := p36b s c35 l (by omega)
    have qc1 := p24x s c35
    have qc2 := p24x (butS s l) hck
    obtain ⟨b1, hb1⟩ : ∃ x, (crR s).isSome = x := ⟨_, rfl⟩
    obtain ⟨b2, hb2⟩ : ∃ x, (crR (butS s l)).isSome = x := ⟨_, rfl⟩
    rw [hb1] at qc1 hmo
    rw [hb2] at qc2 hmo
    obtain ⟨m1, hm1, hm1l⟩ : ∃ m : Nat, one.tmod 731 = (m : Int) ∧ m ≤ 730 := by
     have a1 := Int.tmod_nonneg 731 h1.1
     have a2 := Int.tmod_lt_of_pos one (show (0 : Int) < 731 by omega)
     exact ⟨(one.tmod 731).toNat, by omega, by omega⟩
    obtain ⟨m2, hm2, hm2l⟩ : ∃ m : Nat, two.tmod 731 = (m : Int) ∧ m ≤ 730 := by
     have a1 := Int.tmod_nonneg 731 h2.1
     have a2 := Int.tmod_lt_of_pos two (show (0 : Int) < 731 by omega)
     exact ⟨(two.tmod 731).toNat, by omega, by omega⟩
    have hwo : IntKind.i64.wrap one = one := wrap64 (by omega) (by omega)
    have hwt : IntKind.i64.wrap two = two := wrap64 (by omega) (by omega)
    have hsubl : IntKind.i64.wrap ((s.length : Int) - (l.length : Int)) = ((butS s l).length : Int) := by rw [wrap64 (by omega) (by omega)]; omega
    refine .rec (vts2 := [(1, .int .u16 wh),(2, .int .u16 one),(3, .int .u16 two),(4, .ptr 0 0),(9, ints l)]) (vh2 := ⟨2,[(0, .box [.vec (s.map encW)])]⟩) (.mk [1] [] zz14 zz15 rfl rfl rfl) ?_
    refine .exit ?_
    refine .seq ?_
    refine .regionL [0,1,2,3,4,5,6,7,8] rfl zz0 ?_
    refine .rn [0,1] [2,3,4,5,6,7,8] ?_
    refine .step rfl rfl (.pure rfl rfl rfl Tryz.call36 (by decide) (q36) (by first | rfl | simp [*]) ?_)
    rintro _ rfl
    refine .rn [3,4,5,6,7,8] [] ?_
    refine .done ?_
    refine .seq ?_
    refine .regionL [0,1,2,3,4,5,6,7,8,9] rfl zz0 ?_
    refine .rn [0] [1,2,3,4,5,6,7,8,9] ?_
    refine .step rfl rfl (.pure rfl rfl rfl Tryz.call24 (by decide) (qc1) (by first | rfl | simp [*]) ?_)
    rintro _ ⟨x1, x2, x3, x4, x5, rfl⟩
    refine .rn [2,3,4,5,6,7,8,9] [] ?_
    refine .done ?_
    refine .seq ?_
    refine .regionL [0,1,2,3,4,5,6,7,8,9] rfl zz0 ?_
    refine .rn [0] [1,2,3,4,5,6,7,8,9] ?_
    refine .step rfl rfl (.pure rfl rfl rfl Tryz.call24 (by decide) (qc2) (by first | rfl | simp [*]) ?_)
    rintro _ ⟨y1, y2, y3, y4, y5, rfl⟩
    refine .rn [2,3,4,5,6,7,8,9] [] ?_
    refine .done ?_
    refine .seq ?_
    refine .seq ?_
    refine .regionL [0,1,2,3,4,5,6,7,8,9,10,11,12,13,14,15,16,17,18,19,20,21,22,23,24,25,26,27,28] rfl zz0 ?_
    refine .rn [0,1,2] [3,4,5,6,7,8,9,10,11,12,13,14,15,16,17,18,19,20,21,22,23,24,25,26,27,28] ?_
    refine .split (t := 78) rfl (fun c78 => ?_) (fun c78 => ?_)
    ·first | cases c78 | try rw [c78]
     try simp at c78
    ·first | cases c78 | try rw [c78]
     try simp at c78
     refine .rn [3,4,5,6] [7,8,9,10,11,12,13,14,15,16,17,18,19,20,21,22,23,24,25,26,27,28] ?_
     refine .split (t := 82) rfl (fun c82 => ?_) (fun c82 => ?_)
     ·first | cases c82 | try rw [c82]
      try simp at c82
     ·first | cases c82 | try rw [c82]
      try simp at c82
      refine .rn [7,8,9,10] [11,12,13,14,15,16,17,18,19,20,21,22,23,24,25,26,27,28] ?_
      refine .split (t := 86) rfl (fun c86 => ?_) (fun c86 => ?_)
      ·first | cases c86 | try rw [c86]
       try simp at c86
      ·first | cases c86 | try rw [c86]
       try simp at c86
       refine .rn [11,12,13] [14,15,16,17,18,19,20,21,22,23,24,25,26,27,28] ?_
       refine .split (t := 89) rfl (fun c89 => ?_) (fun c89 => ?_)
       ·first | cases c89 | try rw [c89]
        try simp at c89
        refine .rn [14,15,16,17] [18,19,20,21,22,23,24,25,26,27,28] ?_
        refine .split (t := 93) rfl (fun c93 => ?_) (fun c93 => ?_)
        ·first | cases c93 | try rw [c93]
         try simp at c93
         exfalso; have := hmo rfl; simp_all
        ·first | cases c93 | try rw [c93]
         try simp at c93
         refine .rn [18,19,20,21,22,23,24,25,26,27,28] [] ?_
         refine .done ?_
         refine .condS rfl (fun c104 => ?_) (fun c104 => ?_)
         ·try simp at c104
         ·try simp at c104
          obtain ⟨e, he⟩ : ∃ e : Nat, min m1 m2 = e := ⟨_, rfl⟩
          obtain ⟨x, hx⟩ : ∃ x : Nat, max m1 m2 = x := ⟨_, rfl⟩
          have hex : e ≤ x ∧ x ≤ 730 := by omega
          have hmin : (if m2 < m1 then (m2 : Int) else (m1 : Int)) = (e : Int) := by split <;> omega
          have hmax : (if m1 < m2 then (m2 : Int) else (m1 : Int)) = (x : Int) := by split <;> omega
          have q37a := p37r s c35 e (by omega) (by omega)
          have q37b := p37r s c35 x (by omega) (by omega)
          have q37c := p37r (atS s x) (checkS_filter c35 _) e (by omega) (by omega)
          rw [at_at s (show (e : Int) ≤ x by omega)] at q37c
          obtain ⟨A, hA, hAk, hAl⟩ : ∃ A : List Wit, atS s e = A ∧ (∀ w ∈ A, w.known ≤ e) ∧ A.length ≤ s.length := ⟨_, rfl, fun w hw => by simpa using (List.mem_filter.1 hw).2, List.length_filter_le _ _⟩
          rw [hA] at q37a q37c
          clear hA
          refine .skip ?_
          refine .seq ?_
          refine .rn ?_
          refine .seq ?_
          refine .rn ?_
          refine .seq ?_
          refine .regionL [0,1,2,3,4,5,6,7,8] rfl zz0 ?_
          refine .rn [0,1] [2,3,4,5,6,7,8] ?_
          refine .step rfl rfl (.pure rfl rfl rfl Tryz.call37 (by decide) (q37a) (by first | rfl | simp [*]) ?_)
          rintro _ rfl
          refine .rn [3,4,5,6,7,8] [] ?_
          refine .done ?_
          refine .seq ?_
          refine .regionL [0,1,2,3,4,5,6,7,8] rfl zz0 ?_
          refine .rn [0,1] [2,3,4,5,6,7,8] ?_
          refine .step rfl rfl (.pure rfl rfl rfl Tryz.call37 (by decide) (q37b) (by first | rfl | simp [*]) ?_)
          rintro _ rfl
          refine .rn [3,4,5,6,7,8] [] ?_
          refine .done ?_
          refine .seq ?_
          refine .regionL [0,1,2,3,4,5,6,7,8] rfl zz0 ?_
          refine .rn [0,1] [2,3,4,5,6,7,8] ?_
          refine .step rfl rfl (.pure rfl rfl rfl Tryz.call37 (by decide) (q37c) (by first | rfl | simp [*]) ?_)
          rintro _ rfl
          refine .rn [3,4,5,6,7,8] [] ?_
          refine .done ?_
          refine .seq ?_
          refine .seq ?_
          refine .regionL [0,1,2,3,4,5,6,7,8,9,10,11,12,13,14,15,16,17,18] rfl zz0 ?_
          refine .rn [0,1,2] [3,4,5,6,7,8,9,10,11,12,13,14,15,16,17,18] ?_
          refine .split (t := 139) rfl (fun c139 => ?_) (fun c139 => ?_)
          ·first | cases c139 | try rw [c139]
           try simp at c139
          ·first | cases c139 | try rw [c139]
           try simp at c139
           refine .rn [3,4,5,6] [7,8,9,10,11,12,13,14,15,16,17,18] ?_
           refine .split (t := 143) rfl (fun c143 => ?_) (fun c143 => ?_)
           ·first | cases c143 | try rw [c143]
            try simp at c143
           ·first | cases c143 | try rw [c143]
            try simp at c143
            refine .rn [7,8,9,10] [11,12,13,14,15,16,17,18] ?_
            refine .split (t := 147) rfl (fun c147 => ?_) (fun c147 => ?_)
            ·first | cases c147 | try rw [c147]
             try simp at c147
            ·first | cases c147 | try rw [c147]
             try simp at c147
             refine .rn [11,12,13,14,15,16,17,18] [] ?_
             refine .done ?_
             refine .condS rfl (fun c155 => ?_) (fun c155 => ?_)
             ·try simp at c155
             ·try simp at c155
              refine .skip ?_
              refine .seq ?_
              refine .seq ?_
              refine .rn ?_
              refine .block ?_
              refine .loopS (fun k : Nat => ([(19, .int .i64 e),(21, .ptr 5 0),(25, .ptr 7 0),(27, .int .i64 k)], ⟨8,[(7, .box [.vec (A.map encW)]),(5, .box [.vec (A.map encW)])]⟩)) (fun k => k ≤ A.length) (fun k => A.length - k) 0 (by simp) (.mk [] [] zz14 zz15 rfl rfl rfl) ?_
              rintro k hk
              simp only at hk ⊢
              refine .seq ?_
              refine .seq ?_
              refine .rn ?_
              refine .condS rfl (fun c160 => ?_) (fun c160 => ?_)
              ·try simp at c160
               have hw2 : IntKind.i64.wrap ((k : Int) + 1) = (k : Int) + 1 := wrap64 (by omega) (by omega)
               have hE : encW A[k] = .agg [.int .i64 A[k].id, .int .i64 A[k].known, ints A[k].slips, ints A[k].mended, ints A[k].models, .int .i64 A[k].lo, .int .i64 A[k].hi] := rfl
               have hkn : ¬ ((e : Int) < A[k].known) := by
                have := hAk _ (List.getElem_mem c160)
                omega
               refine .skip ?_
               refine .seq ?_
               refine .block ?_
               refine .seq ?_
               refine .drawn (ms := [0,1,0,7,15,31,0,64,0,448,960,1984,4095,8191,16383,32767,16383,131071,262143,524287,16383,2097151,4194303]) (W := []) (items := [.op 0, .op 1, .op 2, .op 3, .op 4, .op 5, .op 6, .op 7, .op 8, .op 9, .op 10, .op 11, .op 12, .op 13, .op 14, .op 15, .op 16, .op 17, .op 18, .op 19, .op 20, .op 21, .op 22]) rfl zz0 zz0 zz0 ?_
               refine .rx ?_
               refine .rx ?_
               refine .rx ?_
               refine .rx ?_
               refine .rx ?_
               refine .rx ?_
               refine .rx ?_
               refine .rx ?_
               refine .rx ?_
               refine .rx ?_
               refine .rx ?_
               refine .rx ?_
               refine .rx ?_
               refine .rx ?_
               refine .split (t := 176) rfl (fun c176 => ?_) (fun c176 => ?_)
               ·first | cases c176 | try rw [c176]
                try simp at c176
               ·first | cases c176 | try rw [c176]
                try simp at c176
                refine .rx ?_
                refine .rx ?_
                refine .rx ?_
                refine .rx ?_
                refine .rx ?_
                refine .rx ?_
                refine .rx ?_
                refine .rx ?_
                refine .rx ?_
                refine .done ?_
                refine .condS rfl (fun c185 => ?_) (fun c185 => ?_)
                ·try simp at c185
                ·try simp at c185
                 refine .skip ?_
                 refine .rn ?_
                 refine ⟨k + 1, c160,zz5,(.mk [] [] zz14 zz15 rfl rfl rfl)⟩
              ·try simp at c160
               refine .exit ?_
               refine .seq ?_
               refine .regionL [0,1] rfl zz0 ?_
               refine .step rfl rfl (.pure rfl rfl rfl Tryz.call22 (by decide) (hsan) (by first | rfl | simp [*]) ?_)
               rintro _ rfl
               refine .rn [1] [] ?_
               refine .done ?_
               refine .ret ?_
               refine ⟨_, _, zz4,zz4, ?_⟩
               first | rfl | (simp [*]; done) | (simp_all; done)
       ·first | cases c89 | try rw [c89]
        try simp at c89
        refine .rn [14,15,16,17,18,19,20,21,22,23,24,25,26,27,28] [] ?_
        refine .done ?_
        refine .condS rfl (fun c104 => ?_) (fun c104 => ?_)
        ·try simp at c104
        ·try simp at c104
         obtain ⟨e, he⟩ : ∃ e : Nat, min m1 m2 = e := ⟨_, rfl⟩
         obtain ⟨x, hx⟩ : ∃ x : Nat, max m1 m2 = x := ⟨_, rfl⟩
         have hex : e ≤ x ∧ x ≤ 730 := by omega
         have hmin : (if m2 < m1 then (m2 : Int) else (m1 : Int)) = (e : Int) := by split <;> omega
         have hmax : (if m1 < m2 then (m2 : Int) else (m1 : Int)) = (x : Int) := by split <;> omega
         have q37a := p37r s c35 e (by omega) (by omega)
         have q37b := p37r s c35 x (by omega) (by omega)
         have q37c := p37r (atS s x) (checkS_filter c35 _) e (by omega) (by omega)
         rw [at_at s (show (e : Int) ≤ x by omega)] at q37c
         obtain ⟨A, hA, hAk, hAl⟩ : ∃ A : List Wit, atS s e = A ∧ (∀ w ∈ A, w.known ≤ e) ∧ A.length ≤ s.length := ⟨_, rfl, fun w hw => by simpa using (List.mem_filter.1 hw).2, List.length_filter_le _ _⟩
         rw [hA] at q37a q37c
         clear hA
         refine .skip ?_
         refine .seq ?_
         refine .rn ?_
         refine .seq ?_
         refine .rn ?_
         refine .seq ?_
         refine .regionL [0,1,2,3,4,5,6,7,8] rfl zz0 ?_
         refine .rn [0,1] [2,3,4,5,6,7,8] ?_
         refine .step rfl rfl (.pure rfl rfl rfl Tryz.call37 (by decide) (q37a) (by first | rfl | simp [*]) ?_)
         rintro _ rfl
         refine .rn [3,4,5,6,7,8] [] ?_
         refine .done ?_
         refine .seq ?_
         refine .regionL [0,1,2,3,4,5,6,7,8] rfl zz0 ?_
         refine .rn [0,1] [2,3,4,5,6,7,8] ?_
         refine .step rfl rfl (.pure rfl rfl rfl Tryz.call37 (by decide) (q37b) (by first | rfl | simp [*]) ?_)
         rintro _ rfl
         refine .rn [3,4,5,6,7,8] [] ?_
         refine .done ?_
         refine .seq ?_
         refine .regionL [0,1,2,3,4,5,6,7,8] rfl zz0 ?_
         refine .rn [0,1] [2,3,4,5,6,7,8] ?_
         refine .step rfl rfl (.pure rfl rfl rfl Tryz.call37 (by decide) (q37c) (by first | rfl | simp [*]) ?_)
         rintro _ rfl
         refine .rn [3,4,5,6,7,8] [] ?_
         refine .done ?_
         refine .seq ?_
         refine .seq ?_
         refine .regionL [0,1,2,3,4,5,6,7,8,9,10,11,12,13,14,15,16,17,18] rfl zz0 ?_
         refine .rn [0,1,2] [3,4,5,6,7,8,9,10,11,12,13,14,15,16,17,18] ?_
         refine .split (t := 139) rfl (fun c139 => ?_) (fun c139 => ?_)
         ·first | cases c139 | try rw [c139]
          try simp at c139
         ·first | cases c139 | try rw [c139]
          try simp at c139
          refine .rn [3,4,5,6] [7,8,9,10,11,12,13,14,15,16,17,18] ?_
          refine .split (t := 143) rfl (fun c143 => ?_) (fun c143 => ?_)
          ·first | cases c143 | try rw [c143]
           try simp at c143
          ·first | cases c143 | try rw [c143]
           try simp at c143
           refine .rn [7,8,9,10] [11,12,13,14,15,16,17,18] ?_
           refine .split (t := 147) rfl (fun c147 => ?_) (fun c147 => ?_)
           ·first | cases c147 | try rw [c147]
            try simp at c147
           ·first | cases c147 | try rw [c147]
            try simp at c147
            refine .rn [11,12,13,14,15,16,17,18] [] ?_
            refine .done ?_
            refine .condS rfl (fun c155 => ?_) (fun c155 => ?_)
            ·try simp at c155
            ·try simp at c155
             refine .skip ?_
             refine .seq ?_
             refine .seq ?_
             refine .rn ?_
             refine .block ?_
             refine .loopS (fun k : Nat => ([(19, .int .i64 e),(21, .ptr 5 0),(25, .ptr 7 0),(27, .int .i64 k)], ⟨8,[(7, .box [.vec (A.map encW)]),(5, .box [.vec (A.map encW)])]⟩)) (fun k => k ≤ A.length) (fun k => A.length - k) 0 (by simp) (.mk [] [] zz14 zz15 rfl rfl rfl) ?_
             rintro k hk
             simp only at hk ⊢
             refine .seq ?_
             refine .seq ?_
             refine .rn ?_
             refine .condS rfl (fun c160 => ?_) (fun c160 => ?_)
             ·try simp at c160
              have hw2 : IntKind.i64.wrap ((k : Int) + 1) = (k : Int) + 1 := wrap64 (by omega) (by omega)
              have hE : encW A[k] = .agg [.int .i64 A[k].id, .int .i64 A[k].known, ints A[k].slips, ints A[k].mended, ints A[k].models, .int .i64 A[k].lo, .int .i64 A[k].hi] := rfl
              have hkn : ¬ ((e : Int) < A[k].known) := by
               have := hAk _ (List.getElem_mem c160)
               omega
              refine .skip ?_
              refine .seq ?_
              refine .block ?_
              refine .seq ?_
              refine .drawn (ms := [0,1,0,7,15,31,0,64,0,448,960,1984,4095,8191,16383,32767,16383,131071,262143,524287,16383,2097151,4194303]) (W := []) (items := [.op 0, .op 1, .op 2, .op 3, .op 4, .op 5, .op 6, .op 7, .op 8, .op 9, .op 10, .op 11, .op 12, .op 13, .op 14, .op 15, .op 16, .op 17, .op 18, .op 19, .op 20, .op 21, .op 22]) rfl zz0 zz0 zz0 ?_
              refine .rx ?_
              refine .rx ?_
              refine .rx ?_
              refine .rx ?_
              refine .rx ?_
              refine .rx ?_
              refine .rx ?_
              refine .rx ?_
              refine .rx ?_
              refine .rx ?_
              refine .rx ?_
              refine .rx ?_
              refine .rx ?_
              refine .rx ?_
              refine .split (t := 176) rfl (fun c176 => ?_) (fun c176 => ?_)
              ·first | cases c176 | try rw [c176]
               try simp at c176
              ·first | cases c176 | try rw [c176]
               try simp at c176
               refine .rx ?_
               refine .rx ?_
               refine .rx ?_
               refine .rx ?_
               refine .rx ?_
               refine .rx ?_
               refine .rx ?_
               refine .rx ?_
               refine .rx ?_
               refine .done ?_
               refine .condS rfl (fun c185 => ?_) (fun c185 => ?_)
               ·try simp at c185
               ·try simp at c185
                refine .skip ?_
                refine .rn ?_
                refine ⟨k + 1, c160,zz5,(.mk [] [] zz14 zz15 rfl rfl rfl)⟩
             ·try simp at c160
              refine .exit ?_
              refine .seq ?_
              refine .regionL [0,1] rfl zz0 ?_
              refine .step rfl rfl (.pure rfl rfl rfl Tryz.call22 (by decide) (hsan) (by first | rfl | simp [*]) ?_)
              rintro _ rfl
              refine .rn [1] [] ?_
              refine .done ?_
              refine .ret ?_
              refine ⟨_, _, zz4,zz4, ?_⟩
              first | rfl | (simp [*]; done) | (simp_all; done)
end Go.Am.Ds
end
