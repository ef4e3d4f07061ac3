/-
 What is used in the proof of a statement (part HiA); no condition.
-/
import Derived.Test.YtmgglkdilpglgaaGreatHiZ
import Derived.Test.YtmgglkdilpglgaaGreatVm2
import Derived.Test.YtmgglkdilpglgaaGreatHiT
set_option linter.all false
set_option maxHeartbeats 40000000
set_option maxRecDepth 100000
section
namespace Go.Am.Hi
open Go Go.Am Go.Proofs
attribute [local simp] vrun vwanted vyielded vop vopA vputAll VHeap.back hidI hidF backL bm Nat.testBit_eq_decide_div_mod_eq veval vevals vparts vO vbuiltin vlen vappend velems vcopy vmakeSlice vbuildSlice valloc vbox vmakeMap vload vpartT vpart vstore vfieldAddr vfield vindexAddr vindex vextract vslice vsliceZ vbounds vbnd zeroO vidx vlookup vmget vmapUpdate vdelete vclear vnilq vnilp vnils vbin vsc vsc1 vscs vscl abinOp aint ashift aunOp aconvert amaxs amax2 pvcV pvc pvcs tput tget vargs VHeap.get VHeap.alloc VHeap.put VHeap.drop VHeap.empty vlook vput vdrop psplice pfill preps chunk List.range List.range.loop vresults vresult vresultV frz frzL PV.isF PV.allF PV.scal PV.allS retP subT allFT PV.one PV.ids PV.idsL dropL beq_eq ble_dec blt_dec
theorem p70 (n a b:Int):VPure Tryz.prog 70 [.int .i64 n,.int .i64 a,.int .i64 b] fun r=>r=.bool (decide (a≤n)&&decide (n≤b)):=by
 refine .of_body Tryz.func70 rfl rfl ?_
 refine .seq (.rn ?_)
 refine .seq ?_
 refine .regionL [0,1,2,3,4,5,6,7,8] rfl zz0 ?_
 refine .rn [0,1,2,3] [4,5,6,7,8] ?_
 refine .split (t:=10) rfl (fun c10=>?_) (fun c10=>?_)
 ·try rw[c10]
  try simp at c10
  refine .rn [4,5,6,7,8] [] ?_
  refine .done (.ret ?_)
  refine⟨_,_,zz2,zz2,?_⟩
  simp<;>omega
 ·try rw[c10]
  try simp at c10
  refine .rn [4,5,6,7,8] [] ?_
  refine .done (.ret ?_)
  refine⟨_,_,zz2,zz2,?_⟩
  simp<;>omega
theorem p80 (n a b:Int):VPure Tryz.prog 80 [.int .i64 n,.int .i64 a,.int .i64 b] fun r=>r=.bool (decide (a≤n)&&decide (n≤b)):=by
 refine .of_body Tryz.func80 rfl rfl ?_
 refine .seq (.rn ?_)
 refine .seq ?_
 refine .regionL [0,1,2,3,4,5,6,7,8] rfl zz0 ?_
 refine .rn [0,1,2,3] [4,5,6,7,8] ?_
 refine .split (t:=10) rfl (fun c10=>?_) (fun c10=>?_)
 ·try rw[c10]
  try simp at c10
  refine .rn [4,5,6,7,8] [] ?_
  refine .done (.ret ?_)
  refine⟨_,_,zz2,zz2,?_⟩
  simp<;>omega
 ·try rw[c10]
  try simp at c10
  refine .rn [4,5,6,7,8] [] ?_
  refine .done (.ret ?_)
  refine⟨_,_,zz2,zz2,?_⟩
  simp<;>omega
def idxF {α:Type} (p:α→Bool):Nat→List α→Int
 |_,[] => -1
 |i,a::r=>if p a then i else idxF p (i+1) r
theorem idxF_drop {α:Type} (p:α→Bool) (l:List α) (i:Nat) (h:i<l.length):idxF p i (l.drop i)=if p l[i] then (i:Int) else idxF p (i+1) (l.drop (i+1)):=by
 rw[List.drop_eq_getElem_cons h];rfl
theorem idxF_ge {α:Type} (p:α→Bool):∀(l:List α) (i:Nat),(idxF p i l = -1∧l.any p=false)∨((i:Int)≤idxF p i l∧idxF p i l<i+l.length∧l.any p=true)
 |[],i=>.inl ⟨rfl,rfl⟩
 |a::r,i=>by
  simp only[idxF,List.any_cons,List.length_cons]
  cases h:p a with
  |true=>exact .inr ⟨by simp,by simp;omega,rfl⟩
  |false=>
   rcases idxF_ge p r (i+1) with⟨h1,h2⟩|⟨h1,h2,h3⟩
   ·exact .inl ⟨by simpa using h1,by simpa using h2⟩
   ·exact .inr ⟨by simp;omega,by simp;omega,by simpa using h3⟩
theorem idxF_any {α:Type} (p:α→Bool) (l:List α) (i:Nat):decide (idxF p i l≥0)=l.any p:=by
 rcases idxF_ge p l i with⟨h1,h2⟩|⟨h1,h2,h3⟩
 ·rw[h1,h2];decide
 ·rw[h3];simp;omega
theorem any_mem (l:List Int) (v:Int):(l.any fun a=>decide (v=a))=decide (v∈l):=by
 induction l with
 |nil=>rfl
 |cons a r ih=>simp only[List.any_cons,ih,List.mem_cons];by_cases h1:v=a<;>by_cases h2:v∈r<;>simp[h1,h2]
theorem same_step {a b:List Int} {i:Nat} (ha:i<a.length) (hb:i<b.length):decide (a.drop i=b.drop i)=(decide (a[i]=b[i])&&decide (a.drop (i+1)=b.drop (i+1))):=by
 rw[List.drop_eq_getElem_cons ha,List.drop_eq_getElem_cons hb,Bool.eq_iff_iff]
 simp only[decide_eq_true_eq,Bool.and_eq_true,List.cons.injEq]
theorem p151 (l:List Int) (v:Int) (hl:l.length<4294967296):VPure Tryz.prog 151 [ints l,.int .i64 v] fun r=>r=.int .i64 (idxF (fun a=>decide (v=a)) 0 l):=by
 refine .of_body Tryz.func151 rfl rfl ?_
 refine .seq (.rn ?_)
 refine .seq (.seq (.rn ?_))
 refine .block ?_
 refine .loopS (fun s:Nat=>([(0,ints l),(1,.int .i64 v),(7,.int .i64 l.length),(8,.int .i64 s)],VHeap.empty)) (fun s=>s≤l.length∧idxF (fun a=>decide (v=a)) s (l.drop s)=idxF (fun a=>decide (v=a)) 0 l) (fun s=>l.length - s) 0 ⟨by simp,by simp⟩ (.pure (by simp[*]) (by simp)) ?_
 rintro i ⟨hi,hr⟩
 simp only at hi hr ⊢
 refine .seq (.rn ?_)
 refine .seq ?_
 refine .condS rfl (fun c9=>?_) (fun c9=>?_)
 ·try simp at c9
  have hw2:=wr1 i
  rw[idxF_drop _ l i c9] at hr
  refine .skip (.seq (.block (.seq (.rn ?_))))
  refine .seq (.rn ?_)
  refine .condS rfl (fun c16=>?_) (fun c16=>?_)
  ·try simp at c16
   refine .seq (.rn ?_)
   refine .ret ?_
   refine⟨_,_,zz2,zz2,?_⟩
   rw[← hr,if_pos (by simp[c16])]
  ·try simp at c16
   refine .skip (.rn ?_)
   refine⟨i+1,⟨zz3,?_⟩,zz3,.pure (by simp[*]) (by simp)⟩
   rw[← hr,if_neg (by simp[c16])]
 ·try simp at c9
  have:i=l.length:=by omega
  refine .exit (.seq (.rn ?_))
  refine .ret ?_
  refine⟨_,_,zz2,zz2,?_⟩
  rw[← hr,this,List.drop_length];rfl
theorem p99 (l:List Int) (v:Int) (hl:l.length<4294967296):VPure Tryz.prog 99 [ints l,.int .i64 v] fun r=>r=.bool (decide (v∈l)):=by
 refine .of_body Tryz.func99 rfl rfl ?_
 refine .seq (.rn ?_)
 refine .seq ?_
 refine .regionL [0,1,2,3,4] rfl zz0 ?_
 refine .rn [0,1] [2,3,4] ?_
 refine .pc rfl rfl rfl rfl rfl Tryz.call151 (p151 l v hl) ?_
 refine .rn [3,4] [] ?_
 refine .done (.ret ?_)
 refine⟨_,_,zz2,zz2,?_⟩
 rw[← any_mem,← idxF_any _ l 0]
theorem p107 (l:List Int) (v:Int) (hl:l.length<4294967296):VPure Tryz.prog 107 [ints l,.int .i64 v] fun r=>r=.bool (decide (v∈l)):=by
 refine .of_body Tryz.func107 rfl rfl ?_
 refine .seq (.rn ?_)
 refine .seq (.seq (.rn ?_))
 refine .block ?_
 refine .loopS (fun s:Nat=>([(0,ints l),(1,.int .i64 v),(5,.int .i64 s)],VHeap.empty)) (fun s=>s≤l.length∧decide (v∈l.drop s)=decide (v∈l)) (fun s=>l.length - s) 0 ⟨by simp,by simp⟩ (.pure (by simp[*]) (by simp)) ?_
 rintro i ⟨hi,hr⟩
 simp only at hi hr ⊢
 refine .seq (.seq (.rn ?_))
 refine .condS rfl (fun c9=>?_) (fun c9=>?_)
 ·try simp at c9
  have hw2:=wr1 i
  rw[List.drop_eq_getElem_cons c9] at hr
  refine .skip (.seq (.block (.seq (.rn ?_))))
  refine .condS rfl (fun c17=>?_) (fun c17=>?_)
  ·try simp at c17
   refine .seq (.rn ?_)
   refine .ret ?_
   refine⟨_,_,zz2,zz2,?_⟩
   rw[← hr,c17];simp
  ·try simp at c17
   refine .skip (.rn ?_)
   refine⟨i+1,⟨zz3,?_⟩,zz3,.pure (by simp[*]) (by simp)⟩
   rw[← hr,decide_eq_decide,List.mem_cons]
   exact⟨.inr,fun h=>h.resolve_left (Ne.symm c17)⟩
 ·try simp at c9
  have:i=l.length:=by omega
  refine .exit (.seq (.rn ?_))
  refine .ret ?_
  refine⟨_,_,zz2,zz2,?_⟩
  rw[← hr,this,List.drop_length];rfl
theorem p27 (a b:List Int) (hl:a.length<4294967296) (hb:b.length<4294967296):VPure Tryz.prog 27 [ints a,ints b] fun r=>r=.bool (decide (a=b)):=by
 refine .of_body Tryz.func27 rfl rfl ?_
 refine .seq (.rn ?_)
 refine .seq (.seq (.rn ?_))
 refine .condS rfl (fun c10=>?_) (fun c10=>?_)
 ·try simp at c10
  refine .seq (.rn ?_)
  refine .ret ?_
  refine⟨_,_,zz2,zz2,?_⟩
  rw[decide_eq_false fun h=>c10 (by rw[h])]
 ·try simp at c10
  refine .skip (.seq (.seq (.rn ?_)))
  refine .block ?_
  refine .loopS (fun s:Nat=>([(0,ints a),(1,ints b),(5,.int .i64 s)],VHeap.empty)) (fun s=>s≤a.length∧decide (a.drop s=b.drop s)=decide (a=b)) (fun s=>a.length - s) 0 ⟨by simp,by simp⟩ (.pure (by simp[*]) (by simp)) ?_
  rintro i ⟨hi,hr⟩
  simp only at hi hr ⊢
  refine .seq (.seq (.rn ?_))
  refine .condS rfl (fun c14=>?_) (fun c14=>?_)
  ·try simp at c14
   have hw2:=wr1 i
   have hib:i<b.length:=by omega
   have hia:i<a.length:=by omega
   rw[same_step hia hib] at hr
   refine .skip (.seq (.block (.seq ?_)))
   refine .drawn (ms:=[0,0,3,7,0,0,48,112,255]) (W:=[]) (items:=[.op 0,.op 1,.op 2,.op 3,.op 4,.op 5,.op 6,.op 7,.op 8]) rfl zz0 zz0 zz0 ?_
   iterate 9 refine .rx ?_
   refine .done ?_
   refine .condS rfl (fun c25=>?_) (fun c25=>?_)
   ·try simp at c25
    refine .seq (.rn ?_)
    refine .ret ?_
    refine⟨_,_,zz2,zz2,?_⟩
    rw[← hr];simp[c25]
   ·try simp at c25
    refine .skip (.rn ?_)
    refine⟨i+1,⟨zz3,?_⟩,zz3,.pure (by simp[*]) (by simp)⟩
    rw[← hr,c25];simp
  ·try simp at c14
   have:i=a.length:=by omega
   refine .exit (.seq (.rn ?_))
   refine .ret ?_
   refine⟨_,_,zz2,zz2,?_⟩
   rw[← hr,this,List.drop_length,List.drop_eq_nil_of_le (by omega)];rfl
def nx (row:List Int) (c:Int):Int:=row.getD c.toNat 0
def seenV (n:Nat) (S:List Int):List PV:=(List.range n).map fun (i:Nat)=>PV.bool (decide ((i:Int)∈S))
@[simp] theorem seenV_len (n:Nat) (S:List Int):(seenV n S).length=n:=by simp[seenV,-List.range,-List.range.loop]
@[simp] theorem seenV_one (n:Nat) (S:List Int):(seenV n S).all PV.one=true:=by simp[seenV,PV.one]
@[simp] theorem seenV_allF (n:Nat) (S:List Int):PV.allF (seenV n S)=true:=by
 unfold seenV
 exact allF_map (fun _=>rfl) _
@[simp] theorem allSz_ints (l:List (List Int)):allSz 1 (l.map ints)=true:=allSz_map (f:=ints) (n:=1) (fun _=>rfl) l
@[simp] theorem allOne_ints (l:List (List Int)):allOne (l.map ints)=true:=allOne_map (f:=ints) (fun _=>rfl) l
def Soft (r v:PV):Prop:=Alt VHeap.empty 0 (fun _=>true) id r v
theorem VPure.soft {P:Program} {f:FuncId} {args:List PV} {v:PV} (hp:VPure P f args fun r=>Soft r v) (hv:v.isF=true):VPure P f args fun r=>r=v:=hp.alt fun r h=>⟨v,h,hv,rfl⟩
theorem soft_rfl {v:PV} (h:v.isF=true):Soft v v:=.same v h
@[simp] theorem all_one_int (k:IntKind) (l:List Int):(l.map (PV.int k)).all PV.one=true:=by simp[PV.one]
def encX (x:Int×Int):PV:=.agg [.int .i64 x.1,.int .i64 x.2]
@[simp] theorem encX_cells (x:Int×Int):(encX x).cells=[.int .i64 x.1,.int .i64 x.2]:=rfl
@[simp] theorem encX_isF (x:Int×Int):(encX x).isF=true:=rfl
def swp (r:List Int) (x:Int×Int):List Int:=(r.set x.1.toNat (r.getD x.2.toNat 0)).set x.2.toNat (r.getD x.1.toNat 0)
@[simp] theorem swp_len (r:List Int) (x:Int×Int):(swp r x).length=r.length:=by simp[swp]
end Go.Am.Hi
end
