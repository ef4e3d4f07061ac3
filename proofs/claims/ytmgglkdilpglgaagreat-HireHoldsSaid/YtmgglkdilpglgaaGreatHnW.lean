/-
 What is used in the proof of a statement (part HnW); no condition.
-/
import Derived.Test.YtmgglkdilpglgaaGreatHiZ
import Derived.Test.YtmgglkdilpglgaaGreatVm2
import Derived.Test.YtmgglkdilpglgaaGreatHiT
import Derived.Test.YtmgglkdilpglgaaGreatHmC
set_option linter.all false
set_option maxHeartbeats 40000000
set_option maxRecDepth 100000
section
namespace Go.Am.Hi
open Go Go.Am Go.Proofs
attribute [local simp] vrun vwanted vyielded vop vopA vputAll VHeap.back hidI hidF backL bm Nat.testBit_eq_decide_div_mod_eq veval vevals vparts vO vbuiltin vlen vappend velems vcopy vmakeSlice vbuildSlice valloc vbox vmakeMap vload vpartT vpart vstore vfieldAddr vfield vindexAddr vindex vextract vslice vsliceZ vbounds vbnd zeroO vidx vlookup vmget vmapUpdate vdelete vclear vnilq vnilp vnils vbin vsc vsc1 vscs vscl abinOp aint ashift aunOp aconvert amaxs amax2 pvcV pvc pvcs tput tget vargs VHeap.get VHeap.alloc VHeap.put VHeap.drop VHeap.empty vlook vput vdrop psplice pfill preps chunk List.range List.range.loop vresults vresult vresultV frz frzL PV.isF PV.allF PV.scal PV.allS retP subT allFT PV.one PV.ids PV.idsL dropL beq_eq ble_dec blt_dec
attribute [local simp] pfind_mpG pmset_mpG pkeep_mpG
end Go.Am.Hi
end
section
namespace Go.Am.Hi
open Go Go.Am Go.Proofs
theorem sortK_lt {D:Dk} {n:Nat} (hN:NdX D n):(sortK D.x).Pairwise (·<·):=by
 have h1:(sortK D.x).Pairwise fun x y=>decide (x≤y)=true:=List.pairwise_mergeSort (fun a b c h1 h2=>by simp at h1 h2 ⊢;omega) (fun a b=>by simp;omega) _
 have h2:=sortK_nodup hN
 refine List.pairwise_iff_getElem.2 fun i j hi hj hlt=>?_
 have a:=List.pairwise_iff_getElem.1 h1 i j hi hj hlt
 have b:=List.pairwise_iff_getElem.1 h2 i j hi hj hlt
 simp at a
 omega
end Go.Am.Hi
end
section
namespace Go.Am.Hi
open Go Go.Am Go.Proofs
attribute [local simp] vrun vwanted vyielded vop vopA vputAll VHeap.back hidI hidF backL bm Nat.testBit_eq_decide_div_mod_eq veval vevals vparts vO vbuiltin vlen vappend velems vcopy vmakeSlice vbuildSlice valloc vbox vmakeMap vload vpartT vpart vstore vfieldAddr vfield vindexAddr vindex vextract vslice vsliceZ vbounds vbnd zeroO vidx vlookup vmget vmapUpdate vdelete vclear vnilq vnilp vnils vbin vsc vsc1 vscs vscl abinOp aint ashift aunOp aconvert amaxs amax2 pvcV pvc pvcs tput tget vargs VHeap.get VHeap.alloc VHeap.put VHeap.drop VHeap.empty vlook vput vdrop psplice pfill preps chunk List.range List.range.loop vresults vresult vresultV frz frzL PV.isF PV.allF PV.scal PV.allS retP subT allFT PV.one PV.ids PV.idsL dropL beq_eq ble_dec blt_dec
attribute [local simp] pfind_mpG pmset_mpG pkeep_mpG
structure Rst where
  hs:List He
  ws:List (List Int)
  dy:Int
def wQ (l:List Int):PV:=if l=[] then .sl0 else ints l
def encS (S:Rst):PV:=.agg [.vec (S.hs.map encHe),.vec (S.ws.map wQ),.int .i64 S.dy]
@[simp] theorem wQ_nil:wQ []=.sl0:=rfl
@[simp] theorem wQ_isF (l:List Int):(wQ l).isF=true:=by unfold wQ;split<;>simp[ints,PV.isF]
@[simp] theorem wQ_frz (vh:VHeap) (l:List Int):frz vh (wQ l)=some (wQ l):=frz_id vh (wQ_isF l)
@[simp ↓ high] theorem wQ_cells (l:List Int):(wQ l).cells=[wQ l]:=by unfold wQ;split<;>rfl
@[simp ↓ high] theorem wQ_one (l:List Int):(wQ l).one=true:=by unfold wQ;split<;>rfl
@[simp] theorem allF_wQ (l:List (List Int)):PV.allF (l.map wQ)=true:=by
 induction l with
 |nil=>rfl
 |cons a r ih=>simp[PV.allF,ih]
@[simp] theorem allF_encHeS (l:List He):PV.allF (l.map encHe)=true:=by
 induction l with
 |nil=>rfl
 |cons a r ih=>simp[PV.allF,ih]
@[simp] theorem encS_isF (S:Rst):(encS S).isF=true:=by simp[encS,PV.isF,PV.allF]
@[simp] theorem encS_cells (S:Rst):(encS S).cells=[.vec (S.hs.map encHe),.vec (S.ws.map wQ),.int .i64 S.dy]:=rfl
def plc (R:Reg) (id:Int):Int:=idxF (fun x=>decide (x=id)) 0 R.ps
def hld (S:Rst) (id:Int):Int:=idxF (fun u=>decide (u.p=id)) 0 S.hs
theorem p81 (R:Reg) (id:Int) (hl:R.ps.length<4294967296):VPure Tryz.prog 81 [encR R,.int .i64 id] fun r=>r=.int .i64 (plc R id):=by
 unfold encR plc
 refine .of_body Tryz.func81 rfl rfl ?_
 refine .seq (.rn ?_)
 refine .seq (.seq (.rn ?_))
 refine .block ?_
 refine .loopS (fun k:Nat=>([(1,.int .i64 id),(2,.vp [ints R.ps,.int .i64 R.sc,turns R.ts]),(5,.int .i64 k)],VHeap.empty)) (fun k=>k≤R.ps.length∧idxF (fun x=>decide (x=id)) k (R.ps.drop k)=idxF (fun x=>decide (x=id)) 0 R.ps) (fun k=>R.ps.length - k) 0 ⟨by simp,by simp⟩ (.mk [0] [] zz10 zz11 rfl rfl rfl) ?_
 rintro k ⟨hk,hr⟩
 simp only at hk hr ⊢
 refine .seq (.seq (.rn ?_))
 refine .condS rfl (fun c10=>?_) (fun c10=>?_)
 ·try simp at c10
  have hw2:=wr1 k
  rw[idxF_drop _ R.ps k c10] at hr
  refine .skip (.seq (.block (.seq (.rn ?_))))
  refine .condS rfl (fun c19=>?_) (fun c19=>?_)
  ·try simp at c19
   refine .seq (.rn ?_)
   refine .ret ?_
   refine⟨_,_,zz2,zz2,?_⟩
   rw[← hr,if_pos (by simpa using c19)]
  ·try simp at c19
   refine .skip (.rn ?_)
   refine⟨k+1,⟨zz3,by rw[← hr,if_neg (by simpa using c19)]⟩,zz3,(.mk [] [] zz8 zz9 rfl rfl rfl)⟩
 ·try simp at c10
  have hk2:k=R.ps.length:=by omega
  rw[hk2,List.drop_length] at hr
  refine .exit (.seq (.rn ?_))
  refine .ret ?_
  refine⟨_,_,zz2,zz2,?_⟩
  rw[← hr];rfl
theorem p92 (S:Rst) (id:Int) (hl:S.hs.length<4294967296):VPure Tryz.prog 92 [encS S,.int .i64 id] fun r=>r=.int .i64 (hld S id):=by
 unfold encS hld
 refine .of_body Tryz.func92 rfl rfl ?_
 refine .seq (.rn ?_)
 refine .seq (.seq (.rn ?_))
 refine .block ?_
 refine .loopS (fun k:Nat=>([(1,.int .i64 id),(2,.vp [.vec (S.hs.map encHe),.vec (S.ws.map wQ),.int .i64 S.dy]),(5,.int .i64 k)],VHeap.empty)) (fun k=>k≤S.hs.length∧idxF (fun u=>decide (u.p=id)) k (S.hs.drop k)=idxF (fun u=>decide (u.p=id)) 0 S.hs) (fun k=>S.hs.length - k) 0 ⟨by simp,by simp⟩ (.mk [0] [] zz10 zz11 rfl rfl rfl) ?_
 rintro k ⟨hk,hr⟩
 simp only at hk hr ⊢
 refine .seq (.seq (.rn ?_))
 refine .condS rfl (fun c10=>?_) (fun c10=>?_)
 ·try simp at c10
  have hw2:=wr1 k
  rw[idxF_drop _ S.hs k c10] at hr
  refine .skip (.seq (.block (.seq (.rn ?_))))
  refine .condS rfl (fun c20=>?_) (fun c20=>?_)
  ·try simp at c20
   refine .seq (.rn ?_)
   refine .ret ?_
   refine⟨_,_,zz2,zz2,?_⟩
   rw[← hr,if_pos (by simpa using c20)]
  ·try simp at c20
   refine .skip (.rn ?_)
   refine⟨k+1,⟨zz3,by rw[← hr,if_neg (by simpa using c20)]⟩,zz3,(.mk [] [] zz8 zz9 rfl rfl rfl)⟩
 ·try simp at c10
  have hk2:k=S.hs.length:=by omega
  rw[hk2,List.drop_length] at hr
  refine .exit (.seq (.rn ?_))
  refine .ret ?_
  refine⟨_,_,zz2,zz2,?_⟩
  rw[← hr];rfl
attribute [local simp] eq137
theorem p83 (R:Reg) (t:Tu) (hs:1≤R.sc∧R.sc≤16) (hl:R.ps.length<4294967296):VPure Tryz.prog 83 [encR R,encT t] fun r=>r=.bool (formB R t):=by
 unfold encR encT
 have hw:IntKind.i64.wrap (R.sc - 1)=R.sc - 1:=wrap64 (by omega) (by omega)
 refine .of_body Tryz.func83 rfl rfl ?_
 refine .seq (.rn ?_)
 refine .seq (.seq ?_)
 refine .regionL [0,1,2,3,4,5,6,7,8,9,10,11,12] rfl zz0 ?_
 refine .rn [0,1] [2,3,4,5,6,7,8,9,10,11,12] ?_
 refine .pc rfl rfl rfl rfl rfl Tryz.call80 (p80 _ _ _) ?_
 refine .rn [3,4] [5,6,7,8,9,10,11,12] ?_
 refine .split (t:=12) rfl (fun c12=>?_) (fun c12=>?_)
 ·first|cases c12|cases bnt c12|cases bnf c12|try rw[c12]
  try simp at c12
  refine .rn [5,6,7,8,9,10,11,12] [] ?_
  refine .done (.condT rfl (.seq (.rn ?_)))
  refine .ret ?_
  refine⟨_,_,zz2,zz2,?_⟩
  exact congrArg PV.bool (decide_eq_false (fun h=>by have h1:=h.1;have h2:=h.2.1;omega)).symm
 ·first|cases c12|cases bnt c12|cases bnf c12|try rw[c12]
  try simp at c12
  refine .rn [5,6,7,8,9] [10,11,12] ?_
  refine .pc rfl rfl rfl rfl rfl Tryz.call80 (p80 _ _ _) ?_
  refine .rn [11,12] [] ?_
  refine .done ?_
  refine .condS rfl (fun c20=>?_) (fun c20=>?_)
  ·try simp at c20
   refine .seq (.rn ?_)
   refine .ret ?_
   refine⟨_,_,zz2,zz2,?_⟩
   refine congrArg PV.bool ?_
   rw[Bool.eq_iff_iff]
   unfold formB FormP
   simp_all<;>omega
  ·try simp at c20
   refine .skip (.seq (.rn ?_))
   refine .seq (.seq (.rn ?_))
   refine .condS rfl (fun c30=>?_) (fun c30=>?_)
   ·try simp at c30
    refine .seq (.rn ?_)
    refine .seq ?_
    refine .regionL [0,1,2,3,4,5,6,7,8,9,10,11,12,13,14,15,16,17,18] rfl zz0 ?_
    refine .rn [0,1,2,3] [4,5,6,7,8,9,10,11,12,13,14,15,16,17,18] ?_
    refine .split (t:=37) rfl (fun c37=>?_) (fun c37=>?_)
    ·first|cases c37|cases bnt c37|cases bnf c37|try rw[c37]
     try simp at c37
     refine .rn [4,5,6,7,8] [9,10,11,12,13,14,15,16,17,18] ?_
     refine .pc rfl rfl rfl rfl rfl Tryz.call80 (p80 _ _ _) ?_
     refine .rn [10,11] [12,13,14,15,16,17,18] ?_
     refine .split (t:=45) rfl (fun c45=>?_) (fun c45=>?_)
     ·first|cases c45|cases bnt c45|cases bnf c45|try rw[c45]
      try simp at c45
      refine .rn [12,13,14,15,16,17,18] [] ?_
      refine .done (.ret ?_)
      refine⟨_,_,zz2,zz2,?_⟩
      refine congrArg PV.bool ?_
      rw[Bool.eq_iff_iff]
      unfold formB FormP
      simp_all<;>omega
     ·first|cases c45|cases bnt c45|cases bnf c45|try rw[c45]
      try simp at c45
      refine .rn [12,13,14,15,16,17,18] [] ?_
      refine .done (.ret ?_)
      refine⟨_,_,zz2,zz2,?_⟩
      refine congrArg PV.bool ?_
      rw[Bool.eq_iff_iff]
      unfold formB FormP
      simp_all<;>omega
    ·first|cases c37|cases bnt c37|cases bnf c37|try rw[c37]
     try simp at c37
     refine .rn [4,5,6,7,8,9,10,11,12,13,14,15,16,17,18] [] ?_
     refine .done (.ret ?_)
     refine⟨_,_,zz2,zz2,?_⟩
     refine congrArg PV.bool ?_
     rw[Bool.eq_iff_iff]
     unfold formB FormP
     simp_all<;>omega
   ·try simp at c30
    refine .skip (.seq (.rn ?_))
    refine .seq ?_
    refine .regionL [0,1,2,3,4,5] rfl zz0 ?_
    refine .rn [0,1,2,3] [4,5] ?_
    refine .pc rfl rfl rfl rfl rfl Tryz.call107 (p107 R.ps t.p hl) ?_
    refine .rn [5] [] ?_
    refine .done (.seq (.seq (.rn ?_)))
    refine .condS rfl (fun c62=>?_) (fun c62=>?_)
    ·try simp at c62
     refine .seq (.rn ?_)
     refine .seq ?_
     refine .regionL [0,1,2,3,4,5,6,7,8,9,10,11] rfl zz0 ?_
     refine .rn [0,1,2,3] [4,5,6,7,8,9,10,11] ?_
     refine .split (t:=69) rfl (fun c69=>?_) (fun c69=>?_)
     ·first|cases c69|cases bnt c69|cases bnf c69|try rw[c69]
      try simp at c69
      refine .rn [4,5,6] [7,8,9,10,11] ?_
      refine .split (t:=72) rfl (fun c72=>?_) (fun c72=>?_)
      ·first|cases c72|cases bnt c72|cases bnf c72|try rw[c72]
       try simp at c72
       refine .rn [7,8] [9,10,11] ?_
       refine .pc rfl rfl rfl rfl rfl Tryz.call80 (p80 _ _ _) ?_
       refine .rn [10,11] [] ?_
       refine .done (.ret ?_)
       refine⟨_,_,zz2,zz2,?_⟩
       refine congrArg PV.bool ?_
       rw[Bool.eq_iff_iff]
       unfold formB FormP
       simp_all<;>omega
      ·first|cases c72|cases bnt c72|cases bnf c72|try rw[c72]
       try simp at c72
       refine .rn [7,8,9,10,11] [] ?_
       refine .done (.ret ?_)
       refine⟨_,_,zz2,zz2,?_⟩
       refine congrArg PV.bool ?_
       rw[Bool.eq_iff_iff]
       unfold formB FormP
       simp_all<;>omega
     ·first|cases c69|cases bnt c69|cases bnf c69|try rw[c69]
      try simp at c69
      refine .rn [4,5,6,7,8,9,10,11] [] ?_
      refine .done (.ret ?_)
      refine⟨_,_,zz2,zz2,?_⟩
      refine congrArg PV.bool ?_
      rw[Bool.eq_iff_iff]
      unfold formB FormP
      simp_all<;>omega
    ·try simp at c62
     refine .skip (.seq ?_)
     refine .regionL [0,1,2,3,4,5,6,7,8,9,10,11,12,13] rfl zz0 ?_
     refine .rn [0,1,2,3] [4,5,6,7,8,9,10,11,12,13] ?_
     refine .split (t:=80) rfl (fun c80=>?_) (fun c80=>?_)
     ·first|cases c80|cases bnt c80|cases bnf c80|try rw[c80]
      try simp at c80
      refine .rn [4,5,6,7,8,9,10,11,12,13] [] ?_
      refine .done (.seq ?_)
      refine .regionL [0,1,2,3,4,5,6,7,8,9] rfl zz0 ?_
      refine .rn [0,1,2,3] [4,5,6,7,8,9] ?_
      refine .split (t:=93) rfl (fun c93=>?_) (fun c93=>?_)
      ·first|cases c93|cases bnt c93|cases bnf c93|try rw[c93]
       try simp at c93
       refine .rn [4,5,6] [7,8,9] ?_
       refine .split (t:=96) rfl (fun c96=>?_) (fun c96=>?_)
       ·first|cases c96|cases bnt c96|cases bnf c96|try rw[c96]
        try simp at c96
        refine .rn [7,8,9] [] ?_
        refine .done (.ret ?_)
        refine⟨_,_,zz2,zz2,?_⟩
        refine congrArg PV.bool ?_
        rw[Bool.eq_iff_iff]
        unfold formB FormP
        simp_all<;>omega
       ·first|cases c96|cases bnt c96|cases bnf c96|try rw[c96]
        try simp at c96
        refine .rn [7,8,9] [] ?_
        refine .done (.ret ?_)
        refine⟨_,_,zz2,zz2,?_⟩
        refine congrArg PV.bool ?_
        rw[Bool.eq_iff_iff]
        unfold formB FormP
        simp_all<;>omega
      ·first|cases c93|cases bnt c93|cases bnf c93|try rw[c93]
       try simp at c93
       refine .rn [4,5,6,7,8,9] [] ?_
       refine .done (.ret ?_)
       refine⟨_,_,zz2,zz2,?_⟩
       refine congrArg PV.bool ?_
       rw[Bool.eq_iff_iff]
       unfold formB FormP
       simp_all<;>omega
     ·first|cases c80|cases bnt c80|cases bnf c80|try rw[c80]
      try simp at c80
      refine .rn [4,5,6,7,8] [9,10,11,12,13] ?_
      refine .split (t:=85) rfl (fun c85=>?_) (fun c85=>?_)
      ·first|cases c85|cases bnt c85|cases bnf c85|try rw[c85]
       try simp at c85
       refine .rn [9,10,11,12,13] [] ?_
       refine .done (.seq ?_)
       refine .regionL [0,1,2,3,4,5,6,7,8,9] rfl zz0 ?_
       refine .rn [0,1,2,3] [4,5,6,7,8,9] ?_
       refine .split (t:=93) rfl (fun c93=>?_) (fun c93=>?_)
       ·first|cases c93|cases bnt c93|cases bnf c93|try rw[c93]
        try simp at c93
        refine .rn [4,5,6] [7,8,9] ?_
        refine .split (t:=96) rfl (fun c96=>?_) (fun c96=>?_)
        ·first|cases c96|cases bnt c96|cases bnf c96|try rw[c96]
         try simp at c96
         refine .rn [7,8,9] [] ?_
         refine .done (.ret ?_)
         refine⟨_,_,zz2,zz2,?_⟩
         refine congrArg PV.bool ?_
         rw[Bool.eq_iff_iff]
         unfold formB FormP
         simp_all<;>omega
        ·first|cases c96|cases bnt c96|cases bnf c96|try rw[c96]
         try simp at c96
         refine .rn [7,8,9] [] ?_
         refine .done (.ret ?_)
         refine⟨_,_,zz2,zz2,?_⟩
         refine congrArg PV.bool ?_
         rw[Bool.eq_iff_iff]
         unfold formB FormP
         simp_all<;>omega
       ·first|cases c93|cases bnt c93|cases bnf c93|try rw[c93]
        try simp at c93
        refine .rn [4,5,6,7,8,9] [] ?_
        refine .done (.ret ?_)
        refine⟨_,_,zz2,zz2,?_⟩
        refine congrArg PV.bool ?_
        rw[Bool.eq_iff_iff]
        unfold formB FormP
        simp_all<;>omega
      ·first|cases c85|cases bnt c85|cases bnf c85|try rw[c85]
       try simp at c85
       refine .rn [9,10,11,12,13] [] ?_
       refine .done (.seq ?_)
       refine .regionL [0,1,2,3,4,5,6,7,8,9] rfl zz0 ?_
       refine .rn [0,1,2,3] [4,5,6,7,8,9] ?_
       refine .split (t:=93) rfl (fun c93=>?_) (fun c93=>?_)
       ·first|cases c93|cases bnt c93|cases bnf c93|try rw[c93]
        try simp at c93
        refine .rn [4,5,6] [7,8,9] ?_
        refine .split (t:=96) rfl (fun c96=>?_) (fun c96=>?_)
        ·first|cases c96|cases bnt c96|cases bnf c96|try rw[c96]
         try simp at c96
         refine .rn [7,8,9] [] ?_
         refine .done (.ret ?_)
         refine⟨_,_,zz2,zz2,?_⟩
         refine congrArg PV.bool ?_
         rw[Bool.eq_iff_iff]
         unfold formB FormP
         simp_all<;>omega
        ·first|cases c96|cases bnt c96|cases bnf c96|try rw[c96]
         try simp at c96
         refine .rn [7,8,9] [] ?_
         refine .done (.ret ?_)
         refine⟨_,_,zz2,zz2,?_⟩
         refine congrArg PV.bool ?_
         rw[Bool.eq_iff_iff]
         unfold formB FormP
         simp_all<;>omega
       ·first|cases c93|cases bnt c93|cases bnf c93|try rw[c93]
        try simp at c93
        refine .rn [4,5,6,7,8,9] [] ?_
        refine .done (.ret ?_)
        refine⟨_,_,zz2,zz2,?_⟩
        refine congrArg PV.bool ?_
        rw[Bool.eq_iff_iff]
        unfold formB FormP
        simp_all<;>omega
def beg (R:Reg):Rst:=⟨List.replicate R.sc.toNat ⟨0,0,0,0⟩,List.replicate R.ps.length [],0⟩
theorem repl_succ {α:Type} (k:Nat) (a:α):List.replicate k a++[a]=List.replicate (k+1) a:=List.replicate_succ'.symm
@[simp] theorem allOne_encHe1 (x:He):allOne [encHe x]=true:=rfl
theorem p82 (R:Reg) (hs:1≤R.sc∧R.sc≤16) (hl:R.ps.length<4294967296):VPure Tryz.prog 82 [encR R] fun r=>r=encS (beg R):=by
 unfold encR encS beg
 obtain⟨n,hn⟩:∃n:Nat,R.sc=n:=⟨R.sc.toNat,by omega⟩
 have hnt:R.sc.toNat=n:=by omega
 rw[hnt,hn]
 rw[hn] at hs
 clear hnt hn
 refine .of_body Tryz.func82 rfl rfl ?_
 refine .seq (.rn ?_)
 refine .seq (.rn ?_)
 refine .seq (.seq (.rn ?_))
 refine .block ?_
 refine .loopS (fun k:Nat=>([(1,.ptr 0 0),(2,.ptr 1 0),(3,.ptr 2 0),(4,.int .i64 k)],⟨4,[(3,.grow 4 (List.replicate k (encHe ⟨0,0,0,0⟩))),(2,.box [.grow 3 k true,.sl0,.int .i64 0]),(1,.box [.sl0,.sl0,.int .i64 0]),(0,.box [ints R.ps,.int .i64 n,turns R.ts])]⟩)) (fun k=>k≤n) (fun k=>n - k) 0 (by simp) (.mk [] [] zz8 zz9 rfl rfl rfl) ?_
 rintro k hk
 simp only at hk ⊢
 refine .seq (.seq (.rn ?_))
 refine .condS rfl (fun c10=>?_) (fun c10=>?_)
 ·try simp at c10
  have c10:k<n:=by simpa using c10
  have hw2:=wr1 k
  have hk3:k≤4294967295:=by omega
  have hrp:=repl_succ k (encHe ⟨0,0,0,0⟩)
  refine .skip (.seq (.block (.rn ?_)))
  refine .rn ?_
  refine⟨k+1,zz3,zz3,(.mk [] [(3,5)] zz8 zz9 rfl rfl rfl)⟩
 ·try simp at c10
  have c10:n≤k:=by simpa using c10
  have hk2:n=k:=by omega
  subst hk2
  refine .exit (.seq (.seq (.rn ?_)))
  refine .block ?_
  refine .loopS (fun k:Nat=>([(1,.ptr 0 0),(2,.ptr 1 0),(3,.ptr 2 0),(5,.int .i64 k)],⟨5,[(4,.grow 1 (List.replicate k .sl0)),(3,.grow 4 (List.replicate n (encHe ⟨0,0,0,0⟩))),(2,.box [.grow 3 n true,.grow 4 k true,.int .i64 0]),(1,.box [.sl0,.sl0,.int .i64 0]),(0,.box [ints R.ps,.int .i64 n,turns R.ts])]⟩)) (fun k=>k≤R.ps.length) (fun k=>R.ps.length - k) 0 (by simp) (.mk [] [] zz8 zz9 rfl rfl rfl) ?_
  rintro k hk
  simp only at hk ⊢
  refine .seq (.seq (.rn ?_))
  refine .condS rfl (fun c23=>?_) (fun c23=>?_)
  ·try simp at c23
   have c23:k<R.ps.length:=by simpa using c23
   have hw2:=wr1 k
   have hk3:k≤4294967295:=by omega
   have hrp:=repl_succ k PV.sl0
   refine .skip (.seq (.block (.rn ?_)))
   refine .rn ?_
   refine⟨k+1,zz3,zz3,(.mk [] [(4,6)] zz8 zz9 rfl rfl rfl)⟩
  ·try simp at c23
   have c23:R.ps.length≤k:=by simpa using c23
   have hk2:k=R.ps.length:=by omega
   subst hk2
   refine .exit (.seq (.rn ?_))
   refine .ret ?_
   refine⟨_,_,zz2,zz2,?_⟩
   first|rfl|(simp[*];done)|(simp_all;done)
attribute [local simp] pfind_mpG pmset_mpG pkeep_mpG
@[simp] theorem allOne_encHeL (l:List He):allOne (l.map encHe)=true:=by unfold allOne;simp[PV.one]
@[simp] theorem allOne_wQL (l:List (List Int)):allOne (l.map wQ)=true:=by unfold allOne;simp
theorem p138z (S:Rst) (hh:S.hs.length<4294967296) (hw:S.ws.length<4294967296) (hl:∀l∈S.ws,l.length<4294967296):VCall Tryz.prog 138 [encS S] ⟨4,[]⟩ fun v vh'=>v=.agg [.grow 7 S.hs.length true,.grow 8 S.ws.length true,.int .i64 S.dy]∧vh'.next=9∧vh'.get 7=some (.grow 4 (S.hs.map encHe))∧vh'.get 8=some (.grow 1 (S.ws.map wQ)):=by
 unfold encS
 have hh2:S.hs.length≤4294967296:=by omega
 refine .of_body Tryz.func138 rfl rfl ?_
 refine .seq (.rn ?_)
 refine .seq (.rn ?_)
 refine .seq (.rn ?_)
 refine .seq (.seq (.rn ?_))
 refine .block ?_
 refine .loopS (fun k:Nat=>([(1,.ptr 4 0),(2,.ptr 5 0),(3,.ptr 6 0),(4,.int .i64 k)],⟨9,[(8,.grow 1 ((S.ws.map wQ).take k)),(7,.grow 4 (S.hs.map encHe)),(6,.box [.grow 7 S.hs.length true,.grow 8 k true,.int .i64 S.dy]),(5,.box [.sl0,.sl0,.int .i64 0]),(4,.box [.vec (S.hs.map encHe),.vec (S.ws.map wQ),.int .i64 S.dy])]⟩)) (fun k=>k≤S.ws.length) (fun k=>S.ws.length - k) 0 (by simp) (.mk [] [] zz8 zz9 rfl rfl rfl) ?_
 rintro k hk
 simp only at hk ⊢
 refine .seq (.seq (.rn ?_))
 refine .condS rfl (fun c19=>?_) (fun c19=>?_)
 ·try simp at c19
  have hw2:=wr1 k
  have hk3:k≤4294967295:=by omega
  obtain⟨l,hle⟩:∃l,S.ws[k]=l:=⟨_,rfl⟩
  have hll:l.length<4294967296:=hl l (hle▸List.getElem_mem c19)
  have htk:(S.ws.map wQ).take k++[wQ l]=(S.ws.map wQ).take (k+1):=by rw[List.take_succ_eq_append_getElem (by simpa using c19)];simp[hle]
  rcases Decidable.em (l=[]) with h0|h0
  ·skip
   refine .skip (.seq (.block (.seq ?_)))
   subst h0
   rw[wQ_nil] at htk
   refine .rn ?_
   refine .seq (.rn ?_)
   refine .rec (vts2:=[(1,.ptr 4 0),(2,.ptr 5 0),(3,.ptr 6 0),(4,.int .i64 k),(5,.sl0)]) (vh2:=⟨9,[(8,.grow 1 ((S.ws.map wQ).take k)),(7,.grow 4 (S.hs.map encHe)),(6,.box [.grow 7 S.hs.length true,.grow 8 k true,.int .i64 S.dy]),(5,.box [.sl0,.sl0,.int .i64 0]),(4,.box [.vec (S.hs.map encHe),.vec (S.ws.map wQ),.int .i64 S.dy])]⟩) (.mk [9] [] zz18 zz19 rfl rfl rfl) ?_
   refine .rn ?_
   refine .rn ?_
   refine⟨k+1,zz3,zz3,(.mk [] [(8,10)] zz8 zz9 rfl rfl rfl)⟩
  ·skip
   refine .skip (.seq (.block (.seq ?_)))
   have hq:wQ l=.vec (l.map (.int .i64)):=if_neg h0
   rw[hq] at htk
   have hll2:l.length≤4294967296:=by omega
   refine .rn ?_
   refine .seq (.rn ?_)
   refine .rec (vts2:=[(1,.ptr 4 0),(2,.ptr 5 0),(3,.ptr 6 0),(4,.int .i64 k),(5,.vec (l.map (.int .i64)))]) (vh2:=⟨9,[(8,.grow 1 ((S.ws.map wQ).take k)),(7,.grow 4 (S.hs.map encHe)),(6,.box [.grow 7 S.hs.length true,.grow 8 k true,.int .i64 S.dy]),(5,.box [.sl0,.sl0,.int .i64 0]),(4,.box [.vec (S.hs.map encHe),.vec (S.ws.map wQ),.int .i64 S.dy])]⟩) (.mk [9] [] zz8 zz9 rfl rfl rfl) ?_
   refine .rn ?_
   refine .rn ?_
   refine⟨k+1,zz3,zz3,(.mk [] [(8,10)] zz8 zz9 rfl rfl rfl)⟩
 ·try simp at c19
  have hk2:k=S.ws.length:=by omega
  subst hk2
  refine .exit (.seq (.rn ?_))
  refine .ret ?_
  exact⟨_,zz2,rfl,rfl,rfl,by simp[VHeap.get,vlook,List.take_of_length_le]⟩
attribute [local simp] pfind_mpG pmset_mpG pkeep_mpG
@[simp ↓ high] theorem velems_wQ (vh:VHeap) (l:List Int):velems vh 1 (wQ l)=some (l.map (.int .i64)):=by
 unfold wQ
 split
 ·rename_i h;subst h;rfl
 ·simp[velems,ints]
theorem growQ {vh:VHeap} {n2:Nat} {D:Nat→Bool} {ρ:Nat→Nat} {i:Nat} {l:List Int} (hD:D i=true) (hg:vh.get i=some (.grow 1 (l.map (.int .i64)))):Alt vh n2 D ρ (.grow i l.length true) (wQ l):=by
 unfold wQ
 split
 ·rename_i h;subst h;exact .grow0s i
 ·exact .fgrow i l.length true 1 _ hD hg (by simp)
@[simp] theorem allOne_wQ1 (l:List Int):allOne [wQ l]=true:=by unfold allOne;simp
def cp1 (S:Rst) (k:Nat):VTs×VHeap:=([(1,.ptr 4 0),(2,.ptr 5 0),(3,.ptr 6 0),(4,.int .i64 k)],⟨9,[(8,.grow 1 ((S.ws.map wQ).take k)),(7,.grow 4 (S.hs.map encHe)),(6,.box [.grow 7 S.hs.length true,.grow 8 k true,.int .i64 S.dy]),(5,.box [.sl0,.sl0,.int .i64 0]),(4,.box [.vec (S.hs.map encHe),.vec (S.ws.map wQ),.int .i64 S.dy])]⟩)
def livW (S:Rst) (p:Nat) (L:List Int):List PV:=(S.ws.map wQ).set p (.grow 9 L.length true)
def cp2 (S:Rst) (p:Nat) (L:List Int) (k:Nat):VTs×VHeap:=([(1,.ptr 4 0),(2,.ptr 5 0),(3,.ptr 6 0),(4,.int .i64 k)],⟨10,[(8,.fgrow ((livW S p L).take k)),(9,.grow 1 (L.map (.int .i64))),(7,.grow 4 (S.hs.map encHe)),(6,.box [.grow 7 S.hs.length true,.grow 8 k true,.int .i64 S.dy]),(5,.box [.sl0,.sl0,.int .i64 0]),(4,.box [.vec (S.hs.map encHe),.vec (S.ws.map wQ),.int .i64 S.dy])]⟩)
def cpS (S:Rst) (p:Nat) (L:List Int) (k:Nat):VTs×VHeap:=if k≤p then cp1 S k else cp2 S p L k
theorem livW_len (S:Rst) (p:Nat) (L:List Int):(livW S p L).length=S.ws.length:=by simp[livW]
theorem livW_el {S:Rst} {p:Nat} {L:List Int} {e:PV} (h:e∈livW S p L):(∃l,e=wQ l)∨e=.grow 9 L.length true:=by
 rcases List.mem_or_eq_of_mem_set h with h|h
 ·obtain⟨l,_,rfl⟩:=List.mem_map.1 h;exact .inl ⟨l,rfl⟩
 ·exact .inr h
theorem fgL {vh:VHeap} {n2:Nat} {D:Nat→Bool} {ρ:Nat→Nat} {es:List PV} {m:Nat} (h9:ρ 9=9) (hn:9<n2) (hes:∀e∈es,(∃l,e=wQ l)∨e=.grow 9 m true):AltL vh n2 D ρ es es:=
 ⟨rfl,fun i v v2 h1 h2=>by
  rw[h1] at h2;injection h2 with h2;subst h2
  rcases hes v (List.mem_of_getElem? h1) with⟨l,rfl⟩|rfl
  ·exact .same _ (wQ_isF l)
  ·exact .grow 9 9 m true hn h9⟩
theorem fgO {vh:VHeap} {n2:Nat} {D:Nat→Bool} {ρ:Nat→Nat} {S:Rst} {p k:Nat} {L:List Int} {es:List PV} (h9:ρ 9=9) (hn:9<n2) (he:es=(livW S p L).take k):AltO vh n2 D ρ (.fgrow es) (.fgrow ((livW S p L).take k)):=by
 subst he
 refine⟨fgL h9 hn fun e h=>livW_el (List.mem_of_mem_take h),fun e h=>?_⟩
 rcases livW_el (List.mem_of_mem_take h) with⟨l,rfl⟩|rfl
 ·exact PV.cells_one (wQ_one l)
 ·rfl
theorem livW_at {S:Rst} {p:Nat} {L:List Int} (h:p<S.ws.length):(S.ws.map wQ).take p++[.grow 9 L.length true]=(livW S p L).take (p+1):=by
 unfold livW
 rw[List.take_succ_eq_append_getElem (by simpa using h)]
 simp[List.take_set_of_le]
theorem livW_gt {S:Rst} {p k:Nat} {L l:List Int} (h:p<k) (hk:k<S.ws.length) (hl:S.ws[k]=l):(livW S p L).take k++[wQ l]=(livW S p L).take (k+1):=by
 rw[List.take_succ_eq_append_getElem (by simpa[livW] using hk)]
 congr 1
 unfold livW
 rw[List.getElem_set_ne (by omega)]
 simp[hl]
theorem grFO {vh:VHeap} {n2:Nat} {D:Nat→Bool} {ρ:Nat→Nat} {S:Rst} {k:Nat} (h:0<k) (hk:k<S.ws.length):AltO vh n2 D ρ (.grow 1 ((S.ws.map wQ).take k)) (.fgrow ((S.ws.map wQ).take k)):=
 ⟨rfl,rfl,fun h0=>by have:=congrArg List.length h0;rw[List.length_take,List.length_map] at this;simp only[List.length_nil] at this;omega,fun e he=>by
  obtain⟨l,_,rfl⟩:=List.mem_map.1 (List.mem_of_mem_take he);exact PV.cells_one (wQ_one l)⟩
theorem cpS1 {S:Rst} {p k:Nat} {L:List Int} (h:k≤p):cpS S p L k=cp1 S k:=if_pos h
theorem cpS2 {S:Rst} {p k:Nat} {L:List Int} (h:p<k):cpS S p L k=cp2 S p L k:=if_neg (by omega)
theorem p138w (S:Rst) (p:Nat) (L:List Int) (hp:S.ws[p]?=some L) (hh:S.hs.length<4294967296) (hw:S.ws.length<4294967296) (hl:∀l∈S.ws,l.length<4294967296):VCall Tryz.prog 138 [encS S] ⟨4,[]⟩ fun v vh'=>v=.agg [.grow 7 S.hs.length true,.grow 8 S.ws.length true,.int .i64 S.dy]∧vh'.next=10∧vh'.get 7=some (.grow 4 (S.hs.map encHe))∧vh'.get 8=some (.fgrow (livW S p L))∧vh'.get 9=some (.grow 1 (L.map (.int .i64))):=by
  unfold encS
  have hh2:S.hs.length≤4294967296:=by omega
  refine .of_body Tryz.func138 rfl rfl ?_
  refine .seq (.rn ?_)
  refine .seq (.rn ?_)
  refine .seq (.rn ?_)
  refine .seq (.seq (.rn ?_))
  refine .block ?_
  refine .loopS (cpS S p L) (fun k=>k≤S.ws.length) (fun k=>S.ws.length - k) 0 (by simp) (by rw[cpS1 (Nat.zero_le _)];unfold cp1;exact(.mk [] [] (by repeat' (first|exact trivial|refine And.intro (Exists.intro _ (And.intro rfl ?_)) ?_|(refine Alt.same _ ?_;first|rfl|(simp[*];done))|exact Alt.mapv _ _ (Nat.le_of_ble_eq_true rfl) rfl|exact Alt.grow _ _ _ _ (Nat.le_of_ble_eq_true rfl) rfl|(refine Alt.growE _ _ _ _ _ ?_ (Nat.le_of_ble_eq_true rfl) rfl;simp[*];done)|exact Alt.ptr _ _ _ (Nat.le_of_ble_eq_true rfl) rfl|exact Alt.own _ _ _ _ _ (Nat.le_of_ble_eq_true rfl) rfl|exact Alt.sub _ _ _ _ (Nat.le_of_ble_eq_true rfl) rfl|exact Alt.yld _ _ (Nat.le_of_ble_eq_true rfl) rfl|exact Alt.sl0 _ _|(refine Alt.sl0E _ _ _ ?_;simp[*];done)|exact Alt.e0 _|exact Alt.func' AltL.nil (AltL.cons (Alt.ptr _ _ _ (Nat.le_of_ble_eq_true rfl) rfl) AltL.nil)|exact Alt.sl0v|exact Alt.own0 _ _ _|(refine Alt.fgrow _ _ _ _ _ rfl rfl ?_;simp[*];done)|exact Alt.fown _ _ _ _ _ _ _ _ rfl rfl rfl|exact Alt.fmap _ _ rfl rfl|(refine Alt.sl0vE ?_;simp[*]<;>rfl)|(refine Alt.ofEq rfl ?_;simp[*];done))) (by repeat' (first|exact trivial|refine And.intro (And.intro (Nat.le_of_ble_eq_true rfl) (Or.inr (And.intro rfl (Exists.intro _ (And.intro rfl ?_))))) ?_|refine And.intro (And.intro (Nat.le_of_ble_eq_true rfl) (Or.inl (Exists.intro _ (And.intro rfl (Nat.le_of_ble_eq_true rfl))))) ?_|refine And.intro (And.intro (Nat.le_of_ble_eq_true rfl) (Or.inl (Exists.intro _ (And.intro (congrArg (VObj.grow _) (by simp[*])) (Nat.le_of_ble_eq_true rfl))))) ?_|rfl|exact AltL.nil|(refine congrArg (VObj.grow _) ?_;simp[*];done)|(refine congrArg VObj.map ?_;simp[*];done)|(refine congrArg (VObj.arr _ _) ?_;simp[*];done)|refine AltLp.mk rfl rfl rfl rfl rfl ?_|refine And.intro (Exists.intro _ (And.intro rfl ?_)) ?_|refine AltL.cons ?_ ?_|(refine Alt.same _ ?_;first|rfl|(simp[*];done))|exact Alt.mapv _ _ (Nat.le_of_ble_eq_true rfl) rfl|exact Alt.grow _ _ _ _ (Nat.le_of_ble_eq_true rfl) rfl|(refine Alt.growE _ _ _ _ _ ?_ (Nat.le_of_ble_eq_true rfl) rfl;simp[*];done)|exact Alt.ptr _ _ _ (Nat.le_of_ble_eq_true rfl) rfl|exact Alt.own _ _ _ _ _ (Nat.le_of_ble_eq_true rfl) rfl|exact Alt.sub _ _ _ _ (Nat.le_of_ble_eq_true rfl) rfl|exact Alt.yld _ _ (Nat.le_of_ble_eq_true rfl) rfl|exact Alt.sl0 _ _|(refine Alt.sl0E _ _ _ ?_;simp[*];done)|exact Alt.e0 _|exact Alt.func' AltL.nil (AltL.cons (Alt.ptr _ _ _ (Nat.le_of_ble_eq_true rfl) rfl) AltL.nil)|exact Alt.sl0v|exact Alt.own0 _ _ _|(refine Alt.fgrow _ _ _ _ _ rfl rfl ?_;simp[*];done)|exact Alt.fown _ _ _ _ _ _ _ _ rfl rfl rfl|exact Alt.fmap _ _ rfl rfl|(refine Alt.sl0vE ?_;simp[*]<;>rfl)|(refine Alt.ofEq rfl ?_;simp[*];done))) rfl rfl rfl)) ?_
  rintro k hk
  simp only at hk ⊢
  rcases (show k<p∨(k=p∧¬0<k)∨(k=p∧0<k)∨p<k by omega) with hkp|⟨rfl,hk0⟩|⟨rfl,hk0⟩|hkp
  · skip
    refine .seq (.seq ?_)
    rw[cpS1 (by omega)];unfold cp1;simp only
    refine .rn ?_
    refine .condS rfl (fun c19=>?_) (fun c19=>?_)
    · try simp at c19
      have hw2:=wr1 k
      have hk3:k≤4294967295:=by omega
      obtain⟨l,hle⟩:∃l,S.ws[k]=l:=⟨_,rfl⟩
      have hll:l.length<4294967296:=hl l (hle▸List.getElem_mem c19)
      have hll2:l.length≤4294967296:=by omega
      have htk:(S.ws.map wQ).take k++[wQ l]=(S.ws.map wQ).take (k+1):=by rw[List.take_succ_eq_append_getElem (by simpa using c19)];simp[hle]
      refine .skip (.seq (.block (.seq (.rn ?_))))
      refine .seq (.rn ?_)
      refine .rec (vts2:=[(1,.ptr 4 0),(2,.ptr 5 0),(3,.ptr 6 0),(4,.int .i64 k),(5,wQ l)]) (vh2:=(cp1 S k).2) (.mk [9] [] zz18 zz19 rfl rfl rfl) ?_
      unfold cp1;simp only
      first
      |refine .rn ?_
      | (refine .regionL [0,1,2,3,4,5,6] rfl zz0 ?_
         refine .rn [0,1,2] [3,4,5,6] ?_
         refine .step rfl rfl (.buildSliceF (e:=22) (z:=.sl0) rfl (by simp) (by simp) rfl (by simp[PV.one]) (by decide) ?_)
         first
         |refine .step rfl rfl (.appendF0 (e:=22) (z:=.sl0) (e2:=22) (n2:=1) (bytes:=24) (nl:=true) rfl (by simp) (by simp) (by simp) (by simp) (by decide) rfl (.inr ⟨_,rfl⟩) rfl rfl rfl (by simp[PV.one]) (by decide) ?_)
         |refine .step rfl rfl (.appendF (e:=22) (z:=.sl0) (e2:=22) (n2:=1) (bytes:=24) rfl (by simp) (by simp) (by simp) (by simp) (by decide) rfl rfl (by simp[livW_len];omega) rfl rfl rfl (by simp[PV.one]) (by omega) (by decide) ?_)
         refine .rn [5,6] [] ?_
         refine .done ?_)
      refine .rn ?_
      refine⟨k+1,zz3,zz3,by rw[cpS1 (by omega)];unfold cp1;exact(.mk [] [(8,10)] zz8 zz9 rfl rfl rfl)⟩
    · try simp at c19
      have:=(List.getElem?_eq_some_iff.1 hp).1;omega
  · skip
    refine .seq (.seq ?_)
    rw[cpS1 (by omega)];unfold cp1;simp only
    refine .rn ?_
    refine .condS rfl (fun c19=>?_) (fun c19=>?_)
    · try simp at c19
      have hw2:=wr1 k
      have hk3:k≤4294967295:=by omega
      obtain⟨l,hle⟩:∃l,S.ws[k]=l:=⟨_,rfl⟩
      have hll:l.length<4294967296:=hl l (hle▸List.getElem_mem c19)
      have hll2:l.length≤4294967296:=by omega
      have htk:(S.ws.map wQ).take k++[wQ l]=(S.ws.map wQ).take (k+1):=by rw[List.take_succ_eq_append_getElem (by simpa using c19)];simp[hle]
      refine .skip (.seq (.block (.seq (.rn ?_))))
      refine .seq (.rn ?_)
      obtain rfl:l=L:=by have:=(List.getElem?_eq_some_iff.1 hp).2;rw[← this];exact hle.symm
      obtain rfl:k=0:=by omega
      first
      |refine .rn ?_
      | (refine .regionL [0,1,2,3,4,5,6] rfl zz0 ?_
         refine .rn [0,1,2] [3,4,5,6] ?_
         refine .step rfl rfl (.buildSliceF (e:=22) (z:=.sl0) rfl (by simp) (by simp) rfl (by simp[PV.one]) (by decide) ?_)
         first
         |refine .step rfl rfl (.appendF0 (e:=22) (z:=.sl0) (e2:=22) (n2:=1) (bytes:=24) (nl:=true) rfl (by simp) (by simp) (by simp) (by simp) (by decide) rfl (.inr ⟨_,rfl⟩) rfl rfl rfl (by simp[PV.one]) (by decide) ?_)
         |refine .step rfl rfl (.appendF (e:=22) (z:=.sl0) (e2:=22) (n2:=1) (bytes:=24) rfl (by simp) (by simp) (by simp) (by simp) (by decide) rfl rfl (by simp[livW_len];omega) rfl rfl rfl (by simp[PV.one]) (by omega) (by decide) ?_)
         refine .rn [5,6] [] ?_
         refine .done ?_)
      refine .rn ?_
      refine⟨0+1,zz3,zz3,by rw[cpS2 (by omega)];unfold cp2;exact(.mk [] [(8,11)] zz18 zz19 rfl rfl rfl)⟩
    · try simp at c19
      have:=(List.getElem?_eq_some_iff.1 hp).1;omega
  · skip
    refine .seq (.seq ?_)
    rw[cpS1 (by omega)];unfold cp1;simp only
    refine .rn ?_
    refine .condS rfl (fun c19=>?_) (fun c19=>?_)
    · try simp at c19
      have hw2:=wr1 k
      have hk3:k≤4294967295:=by omega
      obtain⟨l,hle⟩:∃l,S.ws[k]=l:=⟨_,rfl⟩
      have hll:l.length<4294967296:=hl l (hle▸List.getElem_mem c19)
      have hll2:l.length≤4294967296:=by omega
      have htk:(S.ws.map wQ).take k++[wQ l]=(S.ws.map wQ).take (k+1):=by rw[List.take_succ_eq_append_getElem (by simpa using c19)];simp[hle]
      refine .skip (.seq (.block (.seq (.rn ?_))))
      refine .seq (.rn ?_)
      obtain rfl:l=L:=by have:=(List.getElem?_eq_some_iff.1 hp).2;rw[← this];exact hle.symm
      refine .rec (vts2:=[(1,.ptr 4 0),(2,.ptr 5 0),(3,.ptr 6 0),(4,.int .i64 k),(5,.grow 9 l.length true)]) (vh2:=⟨10,[(9,.grow 1 (l.map (.int .i64))),(8,.fgrow ((S.ws.map wQ).take k)),(7,.grow 4 (S.hs.map encHe)),(6,.box [.grow 7 S.hs.length true,.grow 8 k true,.int .i64 S.dy]),(5,.box [.sl0,.sl0,.int .i64 0]),(4,.box [.vec (S.hs.map encHe),.vec (S.ws.map wQ),.int .i64 S.dy])]⟩) (.mk [] [] zz18 zz19 rfl rfl rfl) ?_
      first
      |refine .rn ?_
      | (refine .regionL [0,1,2,3,4,5,6] rfl zz0 ?_
         refine .rn [0,1,2] [3,4,5,6] ?_
         refine .step rfl rfl (.buildSliceF (e:=22) (z:=.sl0) rfl (by simp) (by simp) rfl (by simp[PV.one]) (by decide) ?_)
         first
         |refine .step rfl rfl (.appendF0 (e:=22) (z:=.sl0) (e2:=22) (n2:=1) (bytes:=24) (nl:=true) rfl (by simp) (by simp) (by simp) (by simp) (by decide) rfl (.inr ⟨_,rfl⟩) rfl rfl rfl (by simp[PV.one]) (by decide) ?_)
         |refine .step rfl rfl (.appendF (e:=22) (z:=.sl0) (e2:=22) (n2:=1) (bytes:=24) rfl (by simp) (by simp) (by simp) (by simp) (by decide) rfl rfl (by simp[livW_len];omega) rfl rfl rfl (by simp[PV.one]) (by omega) (by decide) ?_)
         refine .rn [5,6] [] ?_
         refine .done ?_)
      refine .rn ?_
      refine⟨k+1,zz3,zz3,by rw[cpS2 (by omega)];unfold cp2;exact(.mk [] [(8,11)] zz18 zz19 rfl rfl rfl)⟩
    · try simp at c19
      have:=(List.getElem?_eq_some_iff.1 hp).1;omega
  · skip
    refine .seq (.seq ?_)
    rw[cpS2 hkp];unfold cp2;simp only
    refine .rn ?_
    refine .condS rfl (fun c19=>?_) (fun c19=>?_)
    · try simp at c19
      have hw2:=wr1 k
      have hk3:k≤4294967295:=by omega
      obtain⟨l,hle⟩:∃l,S.ws[k]=l:=⟨_,rfl⟩
      have hll:l.length<4294967296:=hl l (hle▸List.getElem_mem c19)
      have hll2:l.length≤4294967296:=by omega
      have htk:(S.ws.map wQ).take k++[wQ l]=(S.ws.map wQ).take (k+1):=by rw[List.take_succ_eq_append_getElem (by simpa using c19)];simp[hle]
      refine .skip (.seq (.block (.seq (.rn ?_))))
      refine .seq (.rn ?_)
      refine .rec (vts2:=[(1,.ptr 4 0),(2,.ptr 5 0),(3,.ptr 6 0),(4,.int .i64 k),(5,wQ l)]) (vh2:=⟨10,[(9,.grow 1 (L.map (.int .i64))),(8,.fgrow ((livW S p L).take k)),(7,.grow 4 (S.hs.map encHe)),(6,.box [.grow 7 S.hs.length true,.grow 8 k true,.int .i64 S.dy]),(5,.box [.sl0,.sl0,.int .i64 0]),(4,.box [.vec (S.hs.map encHe),.vec (S.ws.map wQ),.int .i64 S.dy])]⟩) (.mk [10] [] zz18 zz19 rfl rfl rfl) ?_
      first
      |refine .rn ?_
      | (refine .regionL [0,1,2,3,4,5,6] rfl zz0 ?_
         refine .rn [0,1,2] [3,4,5,6] ?_
         refine .step rfl rfl (.buildSliceF (e:=22) (z:=.sl0) rfl (by simp) (by simp) rfl (by simp[PV.one]) (by decide) ?_)
         first
         |refine .step rfl rfl (.appendF0 (e:=22) (z:=.sl0) (e2:=22) (n2:=1) (bytes:=24) (nl:=true) rfl (by simp) (by simp) (by simp) (by simp) (by decide) rfl (.inr ⟨_,rfl⟩) rfl rfl rfl (by simp[PV.one]) (by decide) ?_)
         |refine .step rfl rfl (.appendF (e:=22) (z:=.sl0) (e2:=22) (n2:=1) (bytes:=24) rfl (by simp) (by simp) (by simp) (by simp) (by decide) rfl rfl (by simp[livW_len];omega) rfl rfl rfl (by simp[PV.one]) (by omega) (by decide) ?_)
         refine .rn [5,6] [] ?_
         refine .done ?_)
      refine .rn ?_
      refine⟨k+1,zz3,zz3,by rw[cpS2 (by omega)];unfold cp2;exact(.mk [] [(8,11)] zz18 zz19 rfl rfl rfl)⟩
    · try simp at c19
      have hk2:k=S.ws.length:=by omega
      subst hk2
      refine .exit (.seq (.rn ?_))
      refine .ret ?_
      exact⟨_,zz2,rfl,rfl,rfl,by simp[VHeap.get,vlook,List.take_of_length_le,livW_len],rfl⟩
end Go.Am.Hi
end
section
namespace Go.Am.Hi
open Go Go.Am Go.Proofs
def sHe (S:Rst) (s:Int):He:=(S.hs[s.toNat]?).getD ⟨0,0,0,0⟩
def sWt (S:Rst) (i:Int):List Int:=(S.ws[i.toNat]?).getD []
def stepR (R:Reg) (S:Rst) (t:Tu):Rst×Bool:=
 if t.d<S.dy then (S,false)
 else if t.k=4 then
  if (sHe S t.s).p=0∨(sHe S t.o).p=0 then (⟨S.hs,S.ws,t.d⟩,false)
  else if t.s∈sWt S (plc R (sHe S t.o).p)∨t.o∈sWt S (plc R (sHe S t.s).p) then (⟨S.hs,S.ws,t.d⟩,false)
  else (⟨(S.hs.set t.s.toNat { sHe S t.s with p:=(sHe S t.o).p }).set t.o.toNat { sHe S t.o with p:=(sHe S t.s).p },S.ws,t.d⟩,true)
 else
  if t.k=1 then (⟨S.hs,S.ws.set (plc R t.p).toNat (sWt S (plc R t.p)++[t.s]),t.d⟩,!decide ((sHe S t.s).p=t.p)&&!decide (t.s∈sWt S (plc R t.p)))
  else if t.k=5 then (⟨S.hs,S.ws.set (plc R t.p).toNat (outS (sWt S (plc R t.p)) t.s),t.d⟩,decide (t.s∈sWt S (plc R t.p)))
  else if t.k=3 then (⟨S.hs.set t.s.toNat ⟨0,0,0,0⟩,S.ws,t.d⟩,decide ((sHe S t.s).p=t.p))
  else if t.k=2 then (⟨S.hs.set t.s.toNat ⟨t.p,t.s,t.d,t.d+7*t.w⟩,S.ws.set (plc R t.p).toNat (outS (sWt S (plc R t.p)) t.s),t.d⟩,
   decide (hld S t.p<0)&&decide ((sHe S t.s).p=0)&&(decide (sWt S (plc R t.p)=[])||decide ((sWt S (plc R t.p)).head?=some t.s)))
  else (⟨S.hs,S.ws,t.d⟩,false)
structure Agr (R:Reg) (D:Dk) (S:Rst):Prop where
  dy:S.dy=D.d
  hl:(S.hs.length:Int)=R.sc
  wl:S.ws.length=R.ps.length
  hs:∀s:Nat,s<S.hs.length→S.hs[s]?=some ((alk D.x s).getD ⟨0,0,0,0⟩)
  ws:∀(i:Nat) (p:Int),R.ps[i]?=some p→S.ws[i]?=some (D.line p)
theorem Agr.beg {R:Reg} (h:1≤R.sc):Agr R ⟨0,[],[],[]⟩ (beg R) where
  dy:=rfl
  hl:=by simp[Hi.beg];omega
  wl:=by simp[Hi.beg]
  hs:=fun s h=>by
    have h':s<R.sc.toNat:=by simpa[Hi.beg] using h
    simp[Hi.beg,List.getElem?_replicate,alk,h']
  ws:=fun i p h=>by
    have h':=(List.getElem?_eq_some_iff.1 h).1
    simp[Hi.beg,List.getElem?_replicate,h',Dk.line,alk]
theorem Agr.he {R:Reg} {D:Dk} {S:Rst} (a:Agr R D S) {s:Int} (h0:0≤s) (h1:s≤R.sc - 1):sHe S s=(alk D.x s).getD ⟨0,0,0,0⟩:=by
 have hl:=a.hl
 unfold sHe
 rw[a.hs s.toNat (by omega),Option.getD_some,show ((s.toNat:Nat):Int)=s by omega]
theorem idxF_at (v:Int):∀(l:List Int) (k:Nat),v∈l→∃i:Nat,idxF (fun x=>decide (x=v)) k l=((k+i:Nat):Int)∧l[i]?=some v
 |[],k,h=>by cases h
 |a::r,k,h=>by
  by_cases ha:a=v
  ·exact⟨0,by simp[idxF,ha],by simp[ha]⟩
  ·obtain⟨i,h1,h2⟩:=idxF_at v r (k+1) ((List.mem_cons.1 h).resolve_left (Ne.symm ha))
   refine⟨i+1,?_,by simpa using h2⟩
   simp only[idxF]
   rw[if_neg (by simpa using ha),h1]
   congr 1;omega
theorem plc_at {R:Reg} {p:Int} (h:p∈R.ps):∃i:Nat,plc R p=(i:Int)∧R.ps[i]?=some p:=by
 obtain⟨i,h1,h2⟩:=idxF_at p R.ps 0 h
 exact⟨i,by unfold plc;rw[h1];simp,h2⟩
theorem Agr.wt {R:Reg} {D:Dk} {S:Rst} (a:Agr R D S) {p:Int} (h:p∈R.ps):sWt S (plc R p)=D.line p:=by
 obtain⟨i,h1,h2⟩:=plc_at h
 unfold sWt
 rw[h1,Int.toNat_natCast,a.ws i p h2,Option.getD_some]
theorem Agr.set {R:Reg} {D:Dk} {S:Rst} (a:Agr R D S) (hn:R.ps.Nodup) {p:Int} (h:p∈R.ps) (d:Int) (l:List Int):Agr R ⟨d,D.x,D.y,aset D.q p l⟩ ⟨S.hs,S.ws.set (plc R p).toNat l,d⟩ where
  dy:=rfl
  hl:=a.hl
  wl:=by simpa using a.wl
  hs:=a.hs
  ws:=fun j q hq=>by
    obtain⟨i,h1,h2⟩:=plc_at h
    have hi:=(List.getElem?_eq_some_iff.1 h2).1
    have hw:=a.ws j q hq
    have hj:=(List.getElem?_eq_some_iff.1 hq).1
    rw[line_set,h1,Int.toNat_natCast,List.getElem?_set]
    by_cases hij:i=j
    · subst hij
      rw[h2] at hq;injection hq with hq;subst hq
      simp[a.wl,hi]
    · have hqp:¬q=p:=fun e=>hij (by
        subst e
        have e1:=(List.getElem?_eq_some_iff.1 h2).2
        have e2:=(List.getElem?_eq_some_iff.1 hq).2
        rcases Nat.lt_trichotomy i j with h|h|h
        · exact absurd (e1.trans e2.symm) (List.pairwise_iff_getElem.1 hn i j hi hj h)
        · exact h
        · exact absurd (e2.trans e1.symm) (List.pairwise_iff_getElem.1 hn j i hj hi h))
      rw[if_neg hij,if_neg hqp,hw]
theorem Agr.seth {R:Reg} {D:Dk} {S:Rst} (a:Agr R D S) {s:Int} (h0:0≤s) (h1:s≤R.sc - 1) (x':List (Int×He)) (u:He) (y':List (Int×Int)) (hx:∀k,(alk x' k).getD ⟨0,0,0,0⟩=if k=s then u else (alk D.x k).getD ⟨0,0,0,0⟩) :
    Agr R ⟨D.d,x',y',D.q⟩ ⟨S.hs.set s.toNat u,S.ws,S.dy⟩ where
  dy:=a.dy
  hl:=by simpa using a.hl
  wl:=a.wl
  hs:=fun k hk=>by
    have hk':k<S.hs.length:=by simpa using hk
    have hw:=a.hs k hk'
    rw[List.getElem?_set,hx k]
    by_cases hks:s.toNat=k
    · rw[if_pos hks,if_pos (by omega),if_pos (by omega)]
    · rw[if_neg hks,if_neg (by omega),hw]
  ws:=a.ws
theorem Agr.day {R:Reg} {D:Dk} {S:Rst} (a:Agr R D S) (d:Int):Agr R ⟨d,D.x,D.y,D.q⟩ ⟨S.hs,S.ws,d⟩:=⟨rfl,a.hl,a.wl,a.hs,a.ws⟩
def StepAgr (R:Reg) (D:Dk) (S:Rst) (t:Tu):Prop:=match stepD D t with
 |none=>(stepR R S t).2=false
 |some D'=>(stepR R S t).2=true∧Agr R D' (stepR R S t).1
theorem step_ask {R:Reg} {D:Dk} {S:Rst} {t:Tu} (a:Agr R D S) (hn:R.ps.Nodup) (hp1:∀p∈R.ps,1≤p) (hf:FormP R t) (hk:t.k=1):StepAgr R D S t:=by
 obtain⟨h1,h2,h3,h4,h5⟩:=hf
 have hp:t.p∈R.ps:=by rcases h5 with⟨_,h,_⟩|⟨h,_⟩|⟨h,_⟩<;>first|exact h|omega
 have hpp:=hp1 _ hp
 have hs:=a.he h3 h4
 have hw:=a.wt hp
 unfold StepAgr stepD stepR
 rw[a.dy,hw]
 by_cases hd:t.d<D.d
 ·simp[hd]
 ·simp only[hd,if_false,hk,if_true,show ¬((1:Int)=4) by decide]
  cases hx:alk D.x t.s with
  |none=>
   rw[hx] at hs
   by_cases hm:t.s∈D.line t.p
   ·simp[hm]
   ·simp only[hm,if_false]
    refine⟨?_,a.set hn hp _ _⟩
    rw[hs];simp;omega
  |some u=>
   rw[hx] at hs
   by_cases hm:u.p=t.p∨t.s∈D.line t.p
   ·simp only[hm,if_true]
    rw[hs]
    rcases hm with hm|hm<;>simp[hm]
   ·simp only[hm,if_false]
    refine⟨?_,a.set hn hp _ _⟩
    rw[hs]
    simp only[not_or] at hm
    simp[hm.1,hm.2]
theorem step_quit {R:Reg} {D:Dk} {S:Rst} {t:Tu} (a:Agr R D S) (hn:R.ps.Nodup) (hf:FormP R t) (hk:t.k=5):StepAgr R D S t:=by
 obtain⟨h1,h2,h3,h4,h5⟩:=hf
 have hp:t.p∈R.ps:=by rcases h5 with⟨_,h,_⟩|⟨h,_⟩|⟨h,_⟩<;>first|exact h|omega
 have hw:=a.wt hp
 unfold StepAgr stepD stepR
 rw[a.dy,hw]
 by_cases hd:t.d<D.d
 ·simp[hd]
 ·simp only[hd,if_false,hk,if_true,show ¬((5:Int)=1) by decide,show ¬((5:Int)=2) by decide,show ¬((5:Int)=3) by decide,show ¬((5:Int)=4) by decide]
  by_cases hm:t.s∈D.line t.p
  ·simp only[hm,if_true]
   exact⟨by simp,a.set hn hp _ _⟩
  ·simp[hm]
theorem step_back {R:Reg} {D:Dk} {S:Rst} {t:Tu} (a:Agr R D S) (hp1:∀p∈R.ps,1≤p) (hf:FormP R t) (hk:t.k=3):StepAgr R D S t:=by
 obtain⟨h1,h2,h3,h4,h5⟩:=hf
 have hp:t.p∈R.ps:=by rcases h5 with⟨_,h,_⟩|⟨h,_⟩|⟨h,_⟩<;>first|exact h|omega
 have hpp:=hp1 _ hp
 have hs:=a.he h3 h4
 unfold StepAgr stepD stepR
 rw[a.dy]
 by_cases hd:t.d<D.d
 ·simp[hd]
 ·simp only[hd,if_false,hk,if_true,show ¬((3:Int)=1) by decide,show ¬((3:Int)=2) by decide,show ¬((3:Int)=5) by decide,show ¬((3:Int)=4) by decide]
  cases hx:alk D.x t.s with
  |none=>
   rw[hx] at hs
   simp only;rw[hs];simp;omega
  |some u=>
   rw[hx] at hs
   by_cases hm:u.p=t.p
   ·simp only[hm,if_true]
    refine⟨by rw[hs];simp[hm],((a.day t.d).seth h3 h4 (adl D.x t.s) ⟨0,0,0,0⟩ (adl D.y t.p) fun k=>?_)⟩
    rw[alk_del]
    by_cases hks:k=t.s<;>simp[hks]
   ·simp only[hm,if_false]
    rw[hs];simp[hm]
theorem Agr.hld {R:Reg} {D:Dk} {S:Rst} {n:Nat} (a:Agr R D S) (iv:Inv D n) (hsc:∀s u,alk D.x s=some u→0≤s∧s<R.sc) {p:Int} (hp:1≤p):decide (hld S p<0) = !(alk D.y p).isSome:=by
 unfold Hi.hld
 have hge:=idxF_ge (fun u:He=>decide (u.p=p)) S.hs 0
 cases hy:alk D.y p with
 |none=>
  have hany:S.hs.any (fun u=>decide (u.p=p))=false:=by
   rw[List.any_eq_false]
   intro u hu
   obtain⟨s,hs,he⟩:=List.getElem_of_mem hu
   have h:=a.hs s hs
   rw[List.getElem?_eq_getElem hs,he] at h
   injection h with h
   cases hx:alk D.x s with
   |none=>rw[hx] at h;subst h;simp;omega
   |some w=>
    rw[hx] at h
    have h:u=w:=h
    subst h
    have h2:=(iv.xy _ _ hx).1
    simp only[decide_eq_true_eq]
    intro hup
    rw[hup,hy] at h2;cases h2
  rcases hge with⟨h,_⟩|⟨_,_,h⟩
  ·rw[h];rfl
  ·rw[hany] at h;cases h
 |some s=>
  obtain⟨u,hu,hup⟩:=iv.yx p s hy
  obtain⟨h0,h1⟩:=hsc s u hu
  have hl:=a.hl
  have h:=a.hs s.toNat (by omega)
  rw[show ((s.toNat:Nat):Int)=s by omega,hu] at h
  have hany:S.hs.any (fun u=>decide (u.p=p))=true:=by
   rw[List.any_eq_true]
   exact⟨u,List.mem_of_getElem? h,by simpa using hup⟩
  rcases hge with⟨_,h⟩|⟨h,_,_⟩
  ·rw[hany] at h;cases h
  ·simp;simpa using h
theorem step_hire {R:Reg} {D:Dk} {S:Rst} {t:Tu} {n:Nat} (a:Agr R D S) (iv:Inv D n) (hsc:∀s u,alk D.x s=some u→0≤s∧s<R.sc) (hpos:∀s u,alk D.x s=some u→1≤u.p) (hn:R.ps.Nodup) (hp1:∀p∈R.ps,1≤p) (hf:FormP R t) (hk:t.k=2):StepAgr R D S t:=by
 obtain⟨h1,h2,h3,h4,h5⟩:=hf
 have hp:t.p∈R.ps:=by rcases h5 with⟨h|h|h,_⟩|⟨_,h,_⟩|⟨h,_⟩<;>first|exact h|omega
 have hpp:=hp1 _ hp
 have hs:=a.he h3 h4
 have hw:=a.wt hp
 have hh:=a.hld iv hsc hpp
 have key:∀l:List Int,Agr R ⟨t.d,aset D.x t.s ⟨t.p,t.s,t.d,t.d+7*t.w⟩,aset D.y t.p t.s,aset D.q t.p l⟩ ⟨S.hs.set t.s.toNat ⟨t.p,t.s,t.d,t.d+7*t.w⟩,S.ws.set (plc R t.p).toNat l,t.d⟩:=fun l=>
  ((a.set hn hp t.d l).seth h3 h4 (aset D.x t.s ⟨t.p,t.s,t.d,t.d+7*t.w⟩) ⟨t.p,t.s,t.d,t.d+7*t.w⟩ (aset D.y t.p t.s) fun k=>by
   rw[alk_set]
   by_cases hks:k=t.s<;>simp[hks])
 unfold StepAgr stepD stepR
 rw[a.dy,hw,hh]
 by_cases hd:t.d<D.d
 ·simp[hd]
 ·simp only[hd,if_false,hk,if_true,show ¬((2:Int)=1) by decide,show ¬((2:Int)=3) by decide,show ¬((2:Int)=5) by decide,show ¬((2:Int)=4) by decide]
  cases hy:alk D.y t.p with
  |some z=>simp
  |none=>
   cases hx:alk D.x t.s with
   |some u=>
    rw[hx] at hs
    have:=hpos _ _ hx
    simp only;rw[hs];simp;omega
   |none=>
    rw[hx] at hs
    cases hl:D.line t.p with
    |nil=>
     simp only
     refine⟨by rw[hs];simp,?_⟩
     exact key _
    |cons b r=>
     by_cases hb:b=t.s
     ·simp only[hb,if_true]
      refine⟨by rw[hs];simp,?_⟩
      exact key _
     ·simp only[hb,if_false]
      simp[hb]
theorem step_swap {R:Reg} {D:Dk} {S:Rst} {t:Tu} (a:Agr R D S) (hpi:∀s u,alk D.x s=some u→u.p∈R.ps) (hp1:∀p∈R.ps,1≤p) (hf:FormP R t) (hk:t.k=4):StepAgr R D S t:=by
 obtain⟨h1,h2,h3,h4,h5⟩:=hf
 obtain⟨ho1,ho2,hos⟩:0≤t.o∧t.o≤R.sc - 1∧¬t.o=t.s:=by rcases h5 with⟨h|h|h,_⟩|⟨h,_⟩|⟨_,h,h',h'',_⟩<;>first|omega|exact⟨h,h',h''⟩
 have hs:=a.he h3 h4
 have ho:=a.he ho1 ho2
 unfold StepAgr stepD stepR
 rw[a.dy]
 by_cases hd:t.d<D.d
 ·simp[hd]
 ·simp only[hd,if_false,hk,if_true,show ¬((4:Int)=1) by decide,show ¬((4:Int)=2) by decide,show ¬((4:Int)=3) by decide]
  cases hx:alk D.x t.s with
  |none=>rw[hx] at hs;simp only;rw[hs];simp
  |some u=>
   cases hz:alk D.x t.o with
   |none=>rw[hz] at ho;simp only;rw[ho];simp
   |some z=>
    rw[hx] at hs;rw[hz] at ho
    have hs:sHe S t.s=u:=hs
    have ho:sHe S t.o=z:=ho
    have hu:=hpi _ _ hx
    have hzp:=hpi _ _ hz
    have hu1:=hp1 _ hu
    have hz1:=hp1 _ hzp
    simp only
    rw[hs,ho,a.wt hu,a.wt hzp,if_neg (show ¬(u.p=0∨z.p=0) by omega)]
    by_cases hm:t.s∈D.line z.p∨t.o∈D.line u.p
    ·simp[hm]
    ·simp only[hm,if_false]
     refine⟨trivial,?_⟩
     have a1:=(a.day t.d).seth h3 h4 (aset D.x t.s ⟨z.p,u.s,u.a,u.b⟩) ⟨z.p,u.s,u.a,u.b⟩ D.y fun k=>by
      rw[alk_set]
      by_cases hks:k=t.s<;>simp[hks]
     exact a1.seth ho1 ho2 (aset (aset D.x t.s ⟨z.p,u.s,u.a,u.b⟩) t.o ⟨u.p,z.s,z.a,z.b⟩) ⟨u.p,z.s,z.a,z.b⟩ _ fun k=>by
      rw[alk_set]
      by_cases hks:k=t.o<;>simp[hks]
theorem step_agr {R:Reg} {D:Dk} {S:Rst} {t:Tu} {n:Nat} (a:Agr R D S) (iv:Inv D n) (hsc:∀s u,alk D.x s=some u→0≤s∧s<R.sc) (hpi:∀s u,alk D.x s=some u→u.p∈R.ps) (hn:R.ps.Nodup) (hp1:∀p∈R.ps,1≤p) (hf:FormP R t):StepAgr R D S t:=by
 have h:=hf.2.2.2.2
 have hk:t.k=1∨t.k=2∨t.k=3∨t.k=4∨t.k=5:=by rcases h with⟨h|h|h,_⟩|⟨h,_⟩|⟨h,_⟩<;>simp[h]
 rcases hk with hk|hk|hk|hk|hk
 ·exact step_ask a hn hp1 hf hk
 ·exact step_hire a iv hsc (fun s u hx=>hp1 _ (hpi s u hx)) hn hp1 hf hk
 ·exact step_back a hp1 hf hk
 ·exact step_swap a hpi hp1 hf hk
 ·exact step_quit a hn hf hk
structure Both (R:Reg) (D:Dk) (S:Rst) (n:Nat):Prop where
  a:Agr R D S
  i:Inv D n
  i4:Inv4 R D
theorem Both.step {R:Reg} {D:Dk} {S:Rst} {t:Tu} {n:Nat} (b:Both R D S n) (hn:R.ps.Nodup) (hp1:∀p∈R.ps,1≤p) (hf:FormP R t) :
  (stepD D t=none∧(stepR R S t).2=false)∨∃D',stepD D t=some D'∧(stepR R S t).2=true∧Both R D' (stepR R S t).1 (n+1):=by
 have h:=step_agr b.a b.i b.i4.sc (fun s u hx=>b.i4.ps _ _ (b.i.xy s u hx).1) hn hp1 hf
 unfold StepAgr at h
 cases hs:stepD D t with
 |none=>rw[hs] at h;exact .inl ⟨rfl,h⟩
 |some D'=>
  rw[hs] at h
  exact .inr ⟨D',rfl,h.1,h.2,(inv_step b.i hf.form hs).1,inv4_step b.i b.i4 hf hs⟩
def chkF (R:Reg):Rst→List Tu→Nat→Int×Int
 |_,[],_=>(0,-1)
 |S,t::r,i=>if formB R t then (if (stepR R S t).2 then chkF R (stepR R S t).1 r (i+1) else (4,i)) else (7,i)
theorem chkF_eq {R:Reg} (hn:R.ps.Nodup) (hp1:∀p∈R.ps,1≤p):∀(ts:List Tu) (D:Dk) (S:Rst) (n i:Nat),Both R D S n→
  chkF R S ts i=(if 0≤(playD D (ts.takeWhile (formB R)) i).2 then (4,(playD D (ts.takeWhile (formB R)) i).2) else if 0≤idxF (fun t=>!formB R t) i ts then (7,idxF (fun t=>!formB R t) i ts) else (0,-1))
 |[],D,S,n,i,b=>by simp[chkF,playD,idxF]
 |t::r,D,S,n,i,b=>by
  cases hf:formB R t with
  |false=>simp[chkF,hf,playD,idxF]
  |true=>
   have hF:FormP R t:=of_decide_eq_true hf
   rcases b.step hn hp1 hF with⟨h1,h2⟩|⟨D',h1,h2,h3⟩
   ·simp[chkF,hf,playD,h1,h2]
   ·have ih:=chkF_eq hn hp1 r D' _ (n+1) (i+1) h3
    simp only[chkF,hf,if_true,h2,List.takeWhile_cons_of_pos hf,playD,h1,idxF,Bool.not_true,Bool.false_eq_true,if_false]
    exact ih
theorem idxF_while {α:Type} (p:α→Bool):∀(l:List α) (k:Nat),(if 0≤idxF (fun t=>!p t) k l then l.take ((idxF (fun t=>!p t) k l).toNat - k) else l)=l.takeWhile p
 |[],k=>by simp[idxF]
 |t::r,k=>by
  cases hp:p t with
  |false=>simp[idxF,hp]
  |true=>
   have ih:=idxF_while p r (k+1)
   have hge:=idxF_ge (fun t=>!p t) r (k+1)
   simp only[idxF,hp,Bool.not_true,Bool.false_eq_true,if_false,List.takeWhile_cons_of_pos hp]
   rw[← ih]
   rcases hge with⟨h,_⟩|⟨h,_,_⟩
   ·rw[h];simp
   ·rw[if_pos (by omega),if_pos (by omega),show (idxF (fun t=>!p t) (k+1) r).toNat - k=((idxF (fun t=>!p t) (k+1) r).toNat - (k+1))+1 by omega,List.take_succ_cons]
theorem sureL_while (R:Reg):sureL R=R.ts.takeWhile (formB R):=by
 have h:=idxF_while (formB R) R.ts 0
 unfold sureL endI
 simpa using h
def behS (R:Reg) (day:Int):Rst→List Tu→Rst
 |S,[]=>S
 |S,t::r=>if t.d≤day then behS R day (stepR R S t).1 r else behS R day S r
theorem behS_skip {R:Reg} {day:Int}:∀(ts:List Tu) (D:Dk) (S:Rst) (n i:Nat),Inv D n→(∀t∈ts,FormP R t)→(playD D ts i).2<0→day<D.d→behS R day S ts=S
 |[],_,_,_,_,_,_,_,_=>rfl
 |t::r,D,S,n,i,iv,hf,hp,hd=>by
  simp only[playD] at hp
  cases hs:stepD D t with
  |none=>rw[hs] at hp;simp only at hp;omega
  |some D'=>
   rw[hs] at hp
   obtain⟨h1,h2,h3⟩:=inv_step iv (hf t (List.mem_cons_self ..)).form hs
   simp only[behS]
   rw[if_neg (by omega)]
   exact behS_skip r D' S (n+1) (i+1) h1 (fun t ht=>hf t (List.mem_cons_of_mem _ ht)) hp (by omega)
theorem behS_ok {R:Reg} {day:Int} (hn:R.ps.Nodup) (hp1:∀p∈R.ps,1≤p):∀(ts:List Tu) (D:Dk) (S:Rst) (n i:Nat),Both R D S n→(∀t∈ts,FormP R t)→(playD D ts i).2<0→
  ∃m,Both R (playD D (ts.takeWhile fun t=>decide (t.d≤day)) i).1 (behS R day S ts) m
 |[],D,S,n,i,b,_,_=>⟨n,b⟩
 |t::r,D,S,n,i,b,hf,hp=>by
  have hF:=hf t (List.mem_cons_self ..)
  simp only[playD] at hp
  rcases b.step hn hp1 hF with⟨h1,_⟩|⟨D',h1,_,h3⟩
  ·rw[h1] at hp;simp only at hp;omega
  ·rw[h1] at hp
   by_cases hd:t.d≤day
   ·rw[List.takeWhile_cons_of_pos (by simpa using hd)]
    simp only[playD,h1,behS]
    rw[if_pos hd]
    exact behS_ok hn hp1 r D' _ (n+1) (i+1) h3 (fun t ht=>hf t (List.mem_cons_of_mem _ ht)) hp
   ·rw[List.takeWhile_cons_of_neg (by simpa using hd)]
    obtain⟨k1,k2,_⟩:=inv_step b.i hF.form h1
    simp only[playD,behS]
    rw[if_neg hd,behS_skip r D' S (n+1) (i+1) k1 (fun t ht=>hf t (List.mem_cons_of_mem _ ht)) hp (by omega)]
    exact⟨n,b⟩
theorem cutL_while (R:Reg) (day:Int):cutL R day=R.ts.takeWhile fun t=>decide (t.d≤day):=by
 have h:=idxF_while (fun t:Tu=>decide (t.d≤day)) R.ts 0
 have he:(fun t:Tu=>!decide (t.d≤day))=fun t:Tu=>decide (day<t.d):=funext fun t=>by rw[Bool.eq_iff_iff];simp
 rw[he] at h
 unfold cutL cutI
 simpa using h
theorem regE_ok {R:Reg} (h:regE R=0):R.ps.Nodup∧(∀p∈R.ps,1≤p)∧1≤R.sc∧R.sc≤16∧R.ps.length≤24∧R.ts.length≤120∧R.ps≠[]:=by
 unfold regE at h
 split at h
 ·cases h
 ·rename_i h1
  split at h
  ·cases h
  ·rename_i h2
   split at h
   ·rename_i h3
    simp only[not_or] at h1 h2
    refine⟨h3,fun p hp=>?_,?_⟩
    ·have:=h2.2.1
     rw[Bool.not_eq_true,List.any_eq_false] at this
     have:=this p hp
     simp[badId] at this
     exact this.1
    ·have h4:=h2.2.2
     simp only[Decidable.not_not] at h4
     exact⟨h4.1,h4.2,by omega,by omega,h2.1⟩
   ·cases h
theorem Both.start {R:Reg} (h:1≤R.sc):Both R D0 (beg R) 0:=⟨Agr.beg h,Inv.start,Inv4.start R⟩
theorem chk_ref {R:Reg} (h:regE R=0):chkR R=chkF R (beg R) R.ts 0:=by
 obtain⟨h1,h2,h3,_⟩:=regE_ok h
 rw[chkF_eq h1 h2 R.ts D0 (beg R) 0 0 (Both.start h3)]
 unfold chkR
 rw[if_pos h,sureL_while]
 rfl
theorem beh_ref {R:Reg} (h:(chkR R).1=0) (day:Int):∃m,Both R (behD R day) (behS R day (beg R) R.ts) m:=by
 obtain⟨k1,k2,k3⟩:=chk_ok h
 obtain⟨h1,h2,h3,_⟩:=regE_ok k1
 unfold behD
 rw[cutL_while]
 exact behS_ok h1 h2 R.ts D0 (beg R) 0 0 (Both.start h3) (fun t ht=>of_decide_eq_true (k2 t ht)) k3
theorem sorted_ext:∀ {l1 l2:List He},l1.Pairwise (fun a b=>a.s<b.s)→l2.Pairwise (fun a b=>a.s<b.s)→(∀u,u∈l1↔u∈l2)→l1=l2
 |[],[],_,_,_=>rfl
 |[],b::_,_,_,h=>by have:=(h b).2 (List.mem_cons_self ..);cases this
 |a::_,[],_,_,h=>by have:=(h a).1 (List.mem_cons_self ..);cases this
 |a::r1,b::r2,h1,h2,h=>by
  rw[List.pairwise_cons] at h1 h2
  have e:a=b:=by
   rcases List.mem_cons.1 ((h a).1 (List.mem_cons_self ..)) with e|e
   ·exact e
   ·rcases List.mem_cons.1 ((h b).2 (List.mem_cons_self ..)) with e2|e2
    ·exact e2.symm
    ·have:=h1.1 b e2;have:=h2.1 a e;omega
  subst e
  congr 1
  refine sorted_ext h1.2 h2.2 fun u=>⟨fun hu=>?_,fun hu=>?_⟩
  ·rcases List.mem_cons.1 ((h u).1 (List.mem_cons_of_mem _ hu)) with e|e
   ·subst e;have:=h1.1 u hu;omega
   ·exact e
  ·rcases List.mem_cons.1 ((h u).2 (List.mem_cons_of_mem _ hu)) with e|e
   ·subst e;have:=h2.1 u hu;omega
   ·exact e
theorem held_ref {R:Reg} {D:Dk} {S:Rst} {n m:Nat} (b:Both R D S n) (hN:NdX D m) (hp1:∀p∈R.ps,1≤p):S.hs.filter (fun u=>!decide (u.p=0))=heldL D:=by
 have key:∀(k:Nat) (u:He),S.hs[k]?=some u→¬u.p=0→alk D.x k=some u∧u.s=k:=fun k u hk hu=>by
  have h:=b.a.hs k (List.getElem?_eq_some_iff.1 hk).1
  rw[hk] at h;injection h with h
  cases hx:alk D.x k with
  |none=>rw[hx] at h;subst h;exact absurd rfl hu
  |some w=>
   rw[hx] at h
   have h:u=w:=h
   subst h
   exact⟨rfl,(b.i.xy _ _ hx).2⟩
 refine sorted_ext ?_ ?_ fun u=>?_
 ·rw[List.pairwise_filter]
  rw[List.pairwise_iff_getElem]
  intro i j hi hj hij h1 h2
  have k1:=(key i S.hs[i] (List.getElem?_eq_getElem hi) (by simpa using h1)).2
  have k2:=(key j S.hs[j] (List.getElem?_eq_getElem hj) (by simpa using h2)).2
  omega
 ·have h:=sortK_lt hN
  rw[← heldL_s b.i,List.pairwise_map] at h
  exact h
 ·rw[heldL_in b.i,List.mem_filter]
  constructor
  ·rintro⟨hu,hp⟩
   obtain⟨k,hk⟩:=List.getElem?_of_mem hu
   obtain⟨h1,h2⟩:=key k u hk (by simpa using hp)
   rw[h2];exact h1
  ·intro hx
   obtain⟨h0,h1⟩:=b.i4.sc _ _ hx
   have hp:=hp1 _ (b.i4.ps _ _ (b.i.xy _ _ hx).1)
   have hl:=b.a.hl
   have h:=b.a.hs u.s.toNat (by omega)
   rw[show ((u.s.toNat:Nat):Int)=u.s by omega,hx] at h
   exact⟨List.mem_of_getElem? h,by simp;omega⟩
end Go.Am.Hi
end
section
namespace Go.Am.Hi
open Go Go.Am Go.Proofs
attribute [local simp] vrun vwanted vyielded vop vopA vputAll VHeap.back hidI hidF backL bm Nat.testBit_eq_decide_div_mod_eq veval vevals vparts vO vbuiltin vlen vappend velems vcopy vmakeSlice vbuildSlice valloc vbox vmakeMap vload vpartT vpart vstore vfieldAddr vfield vindexAddr vindex vextract vslice vsliceZ vbounds vbnd zeroO vidx vlookup vmget vmapUpdate vdelete vclear vnilq vnilp vnils vbin vsc vsc1 vscs vscl abinOp aint ashift aunOp aconvert amaxs amax2 pvcV pvc pvcs tput tget vargs VHeap.get VHeap.alloc VHeap.put VHeap.drop VHeap.empty vlook vput vdrop psplice pfill preps chunk List.range List.range.loop vresults vresult vresultV frz frzL PV.isF PV.allF PV.scal PV.allS retP subT allFT PV.one PV.ids PV.idsL dropL beq_eq ble_dec blt_dec
attribute [local simp] pfind_mpG pmset_mpG pkeep_mpG
theorem VCall.only {P:Program} {f:FuncId} {args:List PV} {vh:VHeap} {R R2:PV→VHeap→Prop} (hc:VCall P f args vh R) (hw:∀v vh',R v vh'→∃vh2:VHeap,(∀j y,vh2.get j=some y→vh'.get j=some y)∧vh2.next=vh'.next∧R2 v vh2):VCall P f args vh R2:=fun lo g σ h args' ha s=>by
 refine(hc lo g σ h args' ha s).mono fun r h' ⟨g',σ',v,vh1,h1,h2,h3,h4,h5,h6,h7,h8⟩=>?_
 obtain⟨vh2,k1,k2,k3⟩:=hw v vh1 h8
 exact⟨g',σ',v,vh2,by rw[k2];exact h1,⟨fun j y hy=>by rw[k2];exact h2.obj j y (k1 j y hy),fun j k y z hy hz=>h2.inj j k y z (k1 j y hy) (k1 k z hz),fun j y hy=>h2.low j y (k1 j y hy),h2.fz,fun j y hy=>h2.dis j y (k1 j y hy),h2.lole⟩,
  h3,h4,⟨h5.next,h5.pres,fun j z hz=>h5.own j z (k1 j z hz)⟩,by rw[k2];exact h6,h7,k3⟩
theorem sub5 {vh1:VHeap} {n:Nat} {l:List (Nat×VObj)} {a b c d:VObj} (hn:vh1.next=n) (hl:∀j z,(⟨n,l⟩:VHeap).get j=some z→3<j∧vh1.get j=some z) :
  ∃vh2:VHeap,(∀j y,vh2.get j=some y→((((vh1.back 3 a).back 2 b).back 1 c).back 0 d).get j=some y)∧vh2.next=((((vh1.back 3 a).back 2 b).back 1 c).back 0 d).next∧vh2=⟨n,l++[(3,a),(2,b),(1,c),(0,d)]⟩:=by
 refine⟨_,fun j y hy=>?_,hn.symm,rfl⟩
 have key:∀l:List (Nat×VObj),(∀z,(⟨n,l⟩:VHeap).get j=some z→3<j∧vh1.get j=some z)→(⟨n,l++[(3,a),(2,b),(1,c),(0,d)]⟩:VHeap).get j=some y→((((vh1.back 3 a).back 2 b).back 1 c).back 0 d).get j=some y:=by
  intro l
  induction l with
  |nil=>
   intro _ hy
   simp only[VHeap.get_back]
   simp only[VHeap.get,vlook,beq_eq,List.nil_append] at hy
   by_cases h3:j=3
   ·subst h3;simpa using hy
   ·by_cases h2:j=2
    ·subst h2;simpa using hy
    ·by_cases h1:j=1
     ·subst h1;simpa using hy
     ·by_cases h0:j=0
      ·subst h0;simpa using hy
      ·simp[h3,h2,h1,h0] at hy
  |cons e r ih=>
   intro hl hy
   obtain⟨i,w⟩:=e
   simp only[VHeap.get,vlook,beq_eq,List.cons_append] at hy hl
   by_cases hji:j=i
   ·simp only[hji] at hy hl
    have:=hl y (by simpa using hy)
    simp only[VHeap.get_back]
    rw[if_neg (by omega),if_neg (by omega),if_neg (by omega),if_neg (by omega),hji]
    exact this.2
   ·refine ih (fun z hz=>hl z ?_) ?_
    ·simpa[hji] using hz
    ·simpa[hji] using hy
 exact key l (hl j) hy
theorem p138Z (S:Rst) (hh:S.hs.length<4294967296) (hw:S.ws.length<4294967296) (hl:∀l∈S.ws,l.length<4294967296) (a b c d:List PV):VCall Tryz.prog 138 [encS S] ⟨4,[(3,.box a),(2,.box b),(1,.box c),(0,.box d)]⟩ fun v vh'=>v=.agg [.grow 7 S.hs.length true,.grow 8 S.ws.length true,.int .i64 S.dy]∧
  vh'=⟨9,[(8,.grow 1 (S.ws.map wQ)),(7,.grow 4 (S.hs.map encHe)),(3,.box a),(2,.box b),(1,.box c),(0,.box d)]⟩:=by
 refine VCall.only (VCall.frame (i:=0) rfl rfl (VCall.frame (i:=1) rfl rfl (VCall.frame (i:=2) rfl rfl (VCall.frame (i:=3) rfl rfl (p138z S hh hw hl))))) ?_
 rintro v _ ⟨_,⟨_,⟨_,⟨vh1,⟨rfl,hn,h7,h8⟩,rfl⟩,rfl⟩,rfl⟩,rfl⟩
 obtain⟨vh2,k1,k2,k3⟩:=sub5 (a:=.box a) (b:=.box b) (c:=.box c) (d:=.box d) hn (l:=[(8,.grow 1 (S.ws.map wQ)),(7,.grow 4 (S.hs.map encHe))]) (fun j z hz=>by
  simp only[VHeap.get,vlook,beq_eq] at hz
  by_cases e8:j=8
  ·subst e8;simp at hz;subst hz;exact⟨by omega,h8⟩
  ·by_cases e7:j=7
   ·subst e7;simp at hz;subst hz;exact⟨by omega,h7⟩
   ·simp[e8,e7] at hz)
 exact⟨vh2,k1,k2,rfl,k3⟩
theorem p138W (S:Rst) (p:Nat) (L:List Int) (hp:S.ws[p]?=some L) (hh:S.hs.length<4294967296) (hw:S.ws.length<4294967296) (hl:∀l∈S.ws,l.length<4294967296) (a b c d:List PV):VCall Tryz.prog 138 [encS S] ⟨4,[(3,.box a),(2,.box b),(1,.box c),(0,.box d)]⟩ fun v vh'=>v=.agg [.grow 7 S.hs.length true,.grow 8 S.ws.length true,.int .i64 S.dy]∧
  vh'=⟨10,[(9,.grow 1 (L.map (.int .i64))),(8,.fgrow (livW S p L)),(7,.grow 4 (S.hs.map encHe)),(3,.box a),(2,.box b),(1,.box c),(0,.box d)]⟩:=by
 refine VCall.only (VCall.frame (i:=0) rfl rfl (VCall.frame (i:=1) rfl rfl (VCall.frame (i:=2) rfl rfl (VCall.frame (i:=3) rfl rfl (p138w S p L hp hh hw hl))))) ?_
 rintro v _ ⟨_,⟨_,⟨_,⟨vh1,⟨rfl,hn,h7,h8,h9⟩,rfl⟩,rfl⟩,rfl⟩,rfl⟩
 obtain⟨vh2,k1,k2,k3⟩:=sub5 (a:=.box a) (b:=.box b) (c:=.box c) (d:=.box d) hn (l:=[(9,.grow 1 (L.map (.int .i64))),(8,.fgrow (livW S p L)),(7,.grow 4 (S.hs.map encHe))]) (fun j z hz=>by
  simp only[VHeap.get,vlook,beq_eq] at hz
  by_cases e9:j=9
  ·subst e9;simp at hz;subst hz;exact⟨by omega,h9⟩
  ·by_cases e8:j=8
   ·subst e8;simp at hz;subst hz;exact⟨by omega,h8⟩
   ·by_cases e7:j=7
    ·subst e7;simp at hz;subst hz;exact⟨by omega,h7⟩
    ·simp[e9,e8,e7] at hz)
 exact⟨vh2,k1,k2,rfl,k3⟩
def heC (l:List He):List PV:=l.flatMap fun u=>[.int .i64 u.p,.int .i64 u.s,.int .i64 u.a,.int .i64 u.b]
theorem heC_eq (l:List He):(l.map encHe).flatMap PV.cells=heC l:=by
 unfold heC
 rw[List.flatMap_map];rfl
@[simp] theorem heC_len (l:List He):(heC l).length=l.length*4:=by
 unfold heC
 induction l with
 |nil=>rfl
 |cons a r ih=>rw[List.flatMap_cons,List.length_append,ih];simp;omega
theorem heC_cons (a:He) (r:List He):heC (a::r)=.int .i64 a.p::.int .i64 a.s::.int .i64 a.a::.int .i64 a.b::heC r:=rfl
theorem heC_part:∀ {l:List He} {k:Nat} (h:k<l.length),((heC l).drop (k*4)).take 4=[.int .i64 l[k].p,.int .i64 l[k].s,.int .i64 l[k].a,.int .i64 l[k].b]
 |a::r,0,_=>rfl
 |a::r,k+1,h=>by
  rw[heC_cons,show (k+1)*4=k*4+1+1+1+1 by omega]
  simp only[List.drop_succ_cons]
  exact heC_part (l:=r) (k:=k) (by simpa using h)
theorem heC_at:∀ {l:List He} {k:Nat} (h:k<l.length),(heC l)[k*4]?=some (.int .i64 l[k].p)
 |a::r,0,_=>rfl
 |a::r,k+1,h=>by
  rw[heC_cons,show (k+1)*4=k*4+1+1+1+1 by omega]
  simp only[List.getElem?_cons_succ]
  exact heC_at (l:=r) (k:=k) (by simpa using h)
theorem heC_set:∀ {l:List He} {k:Nat} (h:k<l.length) (u:He),psplice (heC l) (k*4) [.int .i64 u.p,.int .i64 u.s,.int .i64 u.a,.int .i64 u.b]=heC (l.set k u)
 |a::r,0,_,u=>rfl
 |a::r,k+1,h,u=>by
  have ih:=heC_set (l:=r) (k:=k) (by simpa using h) u
  unfold psplice at ih ⊢
  rw[heC_cons,show (k+1)*4=k*4+1+1+1+1 by omega,List.set_cons_succ,heC_cons,← ih]
  simp only[List.take_succ_cons,List.cons_append,List.cons.injEq,true_and]
  congr 1
theorem heC_setp:∀ {l:List He} {k:Nat} (h:k<l.length) (v:Int),psplice (heC l) (k*4) [.int .i64 v]=heC (l.set k { l[k] with p:=v })
 |a::r,0,_,v=>rfl
 |a::r,k+1,h,v=>by
  have ih:=heC_setp (l:=r) (k:=k) (by simpa using h) v
  unfold psplice at ih ⊢
  rw[heC_cons,show (k+1)*4=k*4+1+1+1+1 by omega,List.set_cons_succ,heC_cons]
  simp only[List.getElem_cons_succ]
  rw[← ih]
  simp only[List.take_succ_cons,List.cons_append,List.cons.injEq,true_and]
  congr 1
theorem heC_chunk (l:List He):chunk true 4 l.length (heC l)=l.map encHe:=by
 unfold chunk
 rw[cond_true]
 refine List.ext_getElem (by rw[List.length_map,List.length_range,List.length_map]) fun k h1 h2=>?_
 rw[List.getElem_map,List.getElem_map,List.getElem_range]
 have hk:k<l.length:=by rwa [List.length_map] at h2
 rw[heC_part hk]
 rfl
theorem filter_tk {p:Int→Bool} {l:List Int} {k:Nat} (h:k<l.length):(l.take (k+1)).filter p=(l.take k).filter p++(if p l[k] then [l[k]] else []):=by
 rw[List.take_succ_eq_append_getElem h,List.filter_append]
 cases hp:p l[k]<;>simp[hp]
theorem p103q (l:List Int) (n:Int) (hl:l.length<4294967296):VPure Tryz.prog 103 [ints l,.int .i64 n] fun r=>r=wQ (outS l n):=by
 unfold outS
 refine .of_body Tryz.func103 rfl rfl ?_
 refine .seq (.rn ?_)
 refine .seq (.rn ?_)
 refine .seq (.seq (.rn ?_))
 refine .block ?_
 refine .loopS (fun k:Nat=>([(0,ints l),(1,.int .i64 n),(5,.grow 0 ((l.take k).filter fun x=>!decide (x=n)).length true),(6,.int .i64 k)],⟨1,[(0,.grow 1 (((l.take k).filter fun x=>!decide (x=n)).map (.int .i64)))]⟩)) (fun k=>k≤l.length) (fun k=>l.length - k) 0 (by simp) (.mk [] [] zz8 zz9 rfl rfl rfl) ?_
 rintro k hk
 simp only at hk ⊢
 obtain⟨L,hL⟩:∃L,((l.take k).filter fun x=>!decide (x=n))=L:=⟨_,rfl⟩
 have hLl:L.length≤k:=by rw[← hL];exact Nat.le_trans (List.length_filter_le _ _) (by rw[List.length_take];omega)
 have hL2:L.length+1≤4294967296:=by omega
 rw[hL]
 refine .seq (.seq (.rn ?_))
 refine .condS rfl (fun c10=>?_) (fun c10=>?_)
 ·try simp at c10
  have hw2:=wr1 k
  have hF:=filter_tk (p:=fun x=>!decide (x=n)) c10
  rw[hL] at hF
  refine .skip (.seq (.block (.seq (.rn ?_))))
  refine .condS rfl (fun c18=>?_) (fun c18=>?_)
  ·try simp at c18
   have hF2:((l.take (k+1)).filter fun x=>!decide (x=n))=L++[l[k]]:=by rw[hF];simp[c18]
   clear hF
   refine .rn ?_
   refine .rn ?_
   refine⟨k+1,c10,zz3,(.mk [] [(0,2)] zz8 zz9 rfl rfl rfl)⟩
  ·try simp at c18
   have hF2:((l.take (k+1)).filter fun x=>!decide (x=n))=L:=by rw[hF];simp[c18]
   clear hF
   refine .skip (.rn ?_)
   refine⟨k+1,c10,zz3,(.mk [] [] zz8 zz9 rfl rfl rfl)⟩
 ·try simp at c10
  refine .exit (.seq ?_)
  have hkn:k=l.length:=by omega
  rw[hkn,List.take_length] at hL
  rw[hL]
  refine .rec (vts2:=[(5,wQ L)]) (vh2:=⟨1,[]⟩) (.mk [0] [] zz18 zz19 rfl rfl rfl) ?_
  refine .rn ?_
  refine .ret ?_
  refine⟨_,_,zz2,zz2,?_⟩
  first|rfl|(simp[*];done)|(simp_all;done)
theorem p103n (n:Int):VPure Tryz.prog 103 [.sl0,.int .i64 n] fun r=>r=.sl0:=by
 refine .of_body Tryz.func103 rfl rfl ?_
 refine .seq (.rn ?_)
 refine .seq (.rn ?_)
 refine .seq (.seq (.rn ?_))
 refine .block ?_
 refine .loopS (fun k:Nat=>([(0,.sl0),(1,.int .i64 n),(5,.sl0),(6,.int .i64 0)],VHeap.empty)) (fun k=>True) (fun k=>0) 0 trivial (.mk [] [] zz8 zz9 rfl rfl rfl) ?_
 rintro k _
 refine .seq (.seq (.rn ?_))
 refine .condS rfl (fun c10=>?_) (fun c10=>?_)
 ·try simp at c10
 ·try simp at c10
  refine .exit (.seq (.rn ?_))
  refine .ret ?_
  refine⟨_,_,zz2,zz2,?_⟩
  first|rfl|(simp[*];done)|(simp_all;done)
theorem p107n (v:Int):VPure Tryz.prog 107 [.sl0,.int .i64 v] fun r=>r=.bool false:=by
 refine .of_body Tryz.func107 rfl rfl ?_
 refine .seq (.rn ?_)
 refine .seq (.seq (.rn ?_))
 refine .block ?_
 refine .loopS (fun s:Nat=>([(0,.sl0),(1,.int .i64 v),(5,.int .i64 0)],VHeap.empty)) (fun s=>True) (fun s=>0) 0 trivial (.mk [] [] zz8 zz9 rfl rfl rfl) ?_
 rintro k _
 refine .seq (.seq (.rn ?_))
 refine .condS rfl (fun c9=>?_) (fun c9=>?_)
 ·try simp at c9
 ·try simp at c9
  refine .exit (.seq (.rn ?_))
  refine .ret ?_
  refine⟨_,_,zz2,zz2,?_⟩
  first|rfl|(simp[*];done)|(simp_all;done)
theorem p103w (l:List Int) (n:Int) (hl:l.length<4294967296):VPure Tryz.prog 103 [wQ l,.int .i64 n] fun r=>r=wQ (outS l n):=by
 by_cases h:l=[]
 ·subst h;exact p103n n
 ·have:wQ l=ints l:=if_neg h
  rw[this];exact p103q l n hl
theorem p107w (l:List Int) (v:Int) (hl:l.length<4294967296):VPure Tryz.prog 107 [wQ l,.int .i64 v] fun r=>r=.bool (decide (v∈l)):=by
 by_cases h:l=[]
 ·subst h;exact p107n v
 ·have:wQ l=ints l:=if_neg h
  rw[this];exact p107 l v hl
attribute [local simp] pfind_mpG pmset_mpG pkeep_mpG
structure RO (R:Reg):Prop where
  p1:∀p∈R.ps,1≤p
  s1:1≤R.sc
  s2:R.sc≤16
  pl:R.ps.length≤24
structure SIv (R:Reg) (S:Rst) (n:Nat):Prop where
  hl:(S.hs.length:Int)=R.sc
  wl:S.ws.length=R.ps.length
  ln:∀l∈S.ws,l.length≤n
  hp:∀u∈S.hs,u.p=0∨u.p∈R.ps
theorem at_s {R:Reg} {S:Rst} {n:Nat} (hS:SIv R S n) {x:Int} (h1:0≤x) (h2:x≤R.sc - 1):∃s:Nat,x=s∧s<S.hs.length∧S.hs[s]?=some (sHe S x):=by
 have:=hS.hl
 have hlt:x.toNat<S.hs.length:=by omega
 refine⟨x.toNat,by omega,hlt,?_⟩
 unfold sHe
 rw[List.getElem?_eq_getElem hlt];rfl
theorem at_p {R:Reg} {S:Rst} {n:Nat} (hS:SIv R S n) {x:Int} (h:x∈R.ps):∃(i:Nat) (L:List Int),plc R x=i∧i<S.ws.length∧S.ws[i]?=some L∧sWt S (i:Int)=L∧L.length≤n:=by
 obtain⟨i,h1,h2⟩:=plc_at h
 have hi:i<S.ws.length:=by rw[hS.wl];exact(List.getElem?_eq_some_iff.1 h2).1
 refine⟨i,S.ws[i],h1,hi,List.getElem?_eq_getElem hi,?_,hS.ln _ (List.getElem_mem hi)⟩
 unfold sWt
 rw[Int.toNat_natCast,List.getElem?_eq_getElem hi];rfl
theorem wQ_arr {ws:List (List Int)} (h:0<ws.length) (vh:VHeap) (n2:Nat) (D:Nat→Bool) (ρ:Nat→Nat):AltO vh n2 D ρ (.grow 1 (ws.map wQ)) (.arr false 1 (ws.map wQ)):=by
 refine⟨rfl,?_,flat_one fun e he=>?_⟩
 ·match ws,h with
  |a::r,_=>exact⟨_,_,rfl⟩
 ·obtain⟨l,_,rfl⟩:=List.mem_map.1 he
  exact wQ_cells l
theorem heC_arr {hs:List He} (h:0<hs.length) (vh:VHeap) (n2:Nat) (D:Nat→Bool) (ρ:Nat→Nat):AltO vh n2 D ρ (.grow 4 (hs.map encHe)) (.arr true 4 (heC hs)):=by
 refine⟨rfl,?_,heC_eq hs⟩
 match hs,h with
 |a::r,_=>exact⟨_,_,rfl⟩
theorem wQ_spl {ws:List (List Int)} {i:Nat} (h:i<ws.length) (l:List Int):(ws.map wQ).take i++wQ l::(ws.map wQ).drop (i+1)=(ws.set i l).map wQ:=by
 rw[List.map_set,List.set_eq_take_append_cons_drop]
 simp[h]
@[local simp ↓ high] theorem all_wQ (ws:List (List Int)):(ws.map wQ).all PV.one=true:=by
 rw[List.all_eq_true]
 intro e he
 obtain⟨l,_,rfl⟩:=List.mem_map.1 he
 exact wQ_one l
theorem stepR5 {R:Reg} {S:Rst} {t:Tu} (hk:t.k=5) {i:Nat} {L:List Int} (hi:plc R t.p=i) (hL:sWt S (i:Int)=L):stepR R S t=if t.d<S.dy then (S,false) else (⟨S.hs,S.ws.set i (outS L t.s),t.d⟩,decide (t.s∈L)):=by
 unfold stepR
 simp[hk,hi,hL]
theorem stepR3 {R:Reg} {S:Rst} {t:Tu} (hk:t.k=3) {s:Nat} {u:He} (hs:t.s=s) (hu:sHe S t.s=u):stepR R S t=if t.d<S.dy then (S,false) else (⟨S.hs.set s ⟨0,0,0,0⟩,S.ws,t.d⟩,decide (u.p=t.p)):=by
 unfold stepR
 rw[hu]
 simp[hk,hs]
theorem heC_spl {hs:List He} {k:Nat} (h:k<hs.length) (u:He):(heC hs).take (k*4)++.int .i64 u.p::.int .i64 u.s::.int .i64 u.a::.int .i64 u.b::(heC hs).drop (k*4+4)=heC (hs.set k u):=by
 have:=heC_set h u
 unfold psplice at this
 simpa using this
theorem stepR2 {R:Reg} {S:Rst} {t:Tu} (hk:t.k=2) {i s:Nat} {u:He} {L:List Int} (hi:plc R t.p=i) (hL:sWt S (i:Int)=L) (hs:t.s=s) (hu:sHe S t.s=u):stepR R S t=if t.d<S.dy then (S,false) else (⟨S.hs.set s ⟨t.p,s,t.d,t.d+7*t.w⟩,S.ws.set i (outS L s),t.d⟩,
   decide (hld S t.p<0)&&decide (u.p=0)&&(decide (L=[])||decide (L.head?=some (s:Int)))):=by
 unfold stepR
 rw[hu]
 simp[hk,hs,hi,hL]
theorem vlen_wQ (vh:VHeap) (L:List Int):vlen Tryz.prog vh 22 (wQ L)=some (.int .i64 L.length):=by
 unfold wQ
 split
 ·rename_i h;subst h;simp
 ·simp[ints]
theorem p84q (R:Reg) (S:Rst) (t:Tu) (n:Nat) (hR:RO R) (hS:SIv R S n) (hn:n<1000) (hf:FormP R t) (hk:t.k=5):VPure Tryz.prog 84 [encR R,encS S,encT t] fun r=>r=.tup [encS (stepR R S t).1,.bool (stepR R S t).2]:=by
 have hp:t.p∈R.ps:=by rcases hf.2.2.2.2 with⟨_,h,_⟩|⟨_,h,_⟩|⟨h,_⟩<;>first|exact h|omega
 obtain⟨i,L,hi,hiw,hL,hsL,hLn⟩:=at_p hS hp
 have hL2:S.ws[i]=L:=(List.getElem?_eq_some_iff.1 hL).2
 obtain⟨s,hs,hsl,hsE⟩:=at_s hS hf.2.2.1 hf.2.2.2.1
 obtain⟨u,hu⟩:∃u,sHe S t.s=u:=⟨_,rfl⟩
 rw[hu] at hsE
 have hsE2:S.hs[s]=u:=(List.getElem?_eq_some_iff.1 hsE).2
 have hpl:=hR.pl
 have h24:R.ps.length<4294967296:=by omega
 have hwl:=hS.wl
 have hhl:=hS.hl
 have hsc:=hR.s2
 have hsc1:=hR.s1
 have hh:S.hs.length<4294967296:=by omega
 have hw:S.ws.length<4294967296:=by omega
 have hh0:0<S.hs.length:=by omega
 have hl:∀l∈S.ws,l.length<4294967296:=fun l h=>by have:=hS.ln l h;omega
 have hw0:0<S.ws.length:=by omega
 have hLl:L.length<4294967296:=by omega
 have hi1:i+1≤S.ws.length:=hiw
 have hspl:=wQ_spl hiw (outS L s)
 obtain⟨ws2,hws2⟩:∃ws2,S.ws.set i (outS L s)=ws2:=⟨_,rfl⟩
 have htk:List.take S.ws.length (List.map wQ ws2)=List.map wQ ws2:=by rw[List.take_of_length_le];rw[← hws2];simp
 have hle2:S.ws.length≤ws2.length:=by rw[← hws2];simp
 have hne:¬S.ws=[]:=fun h=>by rw[h] at hw0;exact absurd hw0 (by decide)
 rw[hws2] at hspl
 rw[stepR5 hk hi hsL,hs,hws2]
 have hcop:=p138Z S hh hw hl
 clear hwl hhl
 unfold encR encT
 refine .of_body Tryz.func84 rfl rfl ?_
 refine .seq (.rn ?_)
 refine .seq ?_
 refine .regionL [0,1,2,3] rfl zz0 ?_
 refine .rn [0] [1,2,3] ?_
 refine .step rfl rfl (.call rfl rfl rfl Tryz.call138 (by decide) (((hcop _ _ _ _)).mono ?_))
 rintro _ _ ⟨rfl,rfl⟩
 refine .rn [2,3] [] ?_
 refine .done (.seq (.seq ?_))
 refine .rec (vts2:=[(3,.ptr 0 0),(4,.ptr 1 0),(5,.ptr 2 0),(6,.ptr 3 0),(7,.bool false),(8,.ptr 9 0)]) (vh2:=⟨10,[(9,.box [.vec (S.hs.map encHe),.sub 8 0 S.ws.length,.int .i64 S.dy]),(8,.arr false 1 (S.ws.map wQ)),(3,.box [.sl0,.sl0,.int .i64 0]),(2,.box [.int .i64 5,.int .i64 t.d,.int .i64 s,.int .i64 t.p,.int .i64 t.w,.int .i64 t.o]),(1,.box [.vec (S.hs.map encHe),.vec (S.ws.map wQ),.int .i64 S.dy]),(0,.box [ints R.ps,.int .i64 R.sc,turns R.ts])]⟩) (.mk [7] [] zz18 zz19 rfl rfl rfl) ?_
 refine .rn ?_
 refine .condS rfl (fun c19=>?_) (fun c19=>?_)
 ·try simp at c19
  refine .seq (.rn ?_)
  refine .ret ?_
  refine⟨_,_,zz2,zz2,?_⟩
  rw[if_pos c19];rfl
 ·try simp at c19
  refine .skip (.seq (.rn ?_))
  refine .seq (.seq (.rn ?_))
  refine .condS rfl (fun c26=>?_) (fun c26=>?_)
  ·try simp at c26
  ·try simp at c26
   refine .skip (.seq ?_)
   refine .regionL [0,1,2,3,4] rfl zz0 ?_
   refine .rn [0,1,2] [3,4] ?_
   refine .pc rfl rfl rfl rfl rfl Tryz.call81 (p81 R t.p h24) ?_
   refine .rn [4] [] ?_
   refine .done (.seq ?_)
   refine .drawn (ms:=[0,1,0,7,15,0,32,127,255]) (W:=[7]) (items:=[.op 0,.op 1,.op 2,.op 3,.op 4,.op 5,.op 6,.op 7,.op 8]) rfl zz0 zz0 zz0 ?_
   iterate 7 refine .rx ?_
   refine .wp rfl rfl rfl rfl rfl Tryz.call107 (p107w L s hLl) ?_
   refine .rx ?_
   refine .done (.seq ?_)
   refine .drawn (ms:=[0,1,0,4,15,31,63,0,128,511,1023]) (W:=[]) (items:=[.op 0,.op 1,.op 2,.op 3,.op 4,.op 5,.op 6,.op 7,.op 8,.op 9,.op 10]) rfl zz0 zz0 zz0 ?_
   iterate 11 refine .rx ?_
   refine .done (.seq (.rn ?_))
   refine .seq (.seq (.rn ?_))
   refine .block (.seq (.rn ?_))
   refine .condS rfl (fun c57=>?_) (fun c57=>?_)
   ·try simp at c57
   ·try simp at c57
    refine .seq (.rn ?_)
    refine .condS rfl (fun c78=>?_) (fun c78=>?_)
    ·try simp at c78
     refine .seq (.rn ?_)
     refine .drawn (ms:=[0,1,0,0,8,0,56,120,0,256,1016,2047,4095]) (W:=[10,12]) (items:=[.op 0,.op 1,.op 2,.op 3,.op 4,.op 5,.op 6,.op 7,.op 8,.op 9,.op 10,.ck 1,.op 11,.op 12]) rfl zz0 zz0 zz0 ?_
     iterate 10 refine .rx ?_
     refine .wp rfl rfl rfl rfl rfl Tryz.call103 (p103w L s hLl) ?_
     refine .ck rfl zz0 ?_
     refine .rx ?_
     refine .wv ?_
     refine .done (.seq (.rn ?_))
     refine .ret ?_
     refine⟨_,_,zz2,(by simp[*]<;>rfl),?_⟩
     rw[if_neg (by omega)];rfl
    ·try simp at c78
theorem p84b (R:Reg) (S:Rst) (t:Tu) (n:Nat) (hR:RO R) (hS:SIv R S n) (hn:n<1000) (hf:FormP R t) (hk:t.k=3):VPure Tryz.prog 84 [encR R,encS S,encT t] fun r=>r=.tup [encS (stepR R S t).1,.bool (stepR R S t).2]:=by
 have hp:t.p∈R.ps:=by rcases hf.2.2.2.2 with⟨_,h,_⟩|⟨_,h,_⟩|⟨h,_⟩<;>first|exact h|omega
 obtain⟨i,L,hi,hiw,hL,hsL,hLn⟩:=at_p hS hp
 have hL2:S.ws[i]=L:=(List.getElem?_eq_some_iff.1 hL).2
 obtain⟨s,hs,hsl,hsE⟩:=at_s hS hf.2.2.1 hf.2.2.2.1
 obtain⟨u,hu⟩:∃u,sHe S t.s=u:=⟨_,rfl⟩
 rw[hu] at hsE
 have hsE2:S.hs[s]=u:=(List.getElem?_eq_some_iff.1 hsE).2
 have hpl:=hR.pl
 have h24:R.ps.length<4294967296:=by omega
 have hwl:=hS.wl
 have hhl:=hS.hl
 have hsc:=hR.s2
 have hsc1:=hR.s1
 have hh:S.hs.length<4294967296:=by omega
 have hw:S.ws.length<4294967296:=by omega
 have hh0:0<S.hs.length:=by omega
 have hl:∀l∈S.ws,l.length<4294967296:=fun l h=>by have:=hS.ln l h;omega
 have hw0:0<S.ws.length:=by omega
 have hLl:L.length<4294967296:=by omega
 have hs4:s*4+4≤S.hs.length*4:=by omega
 have hs5:s*4+1≤S.hs.length*4:=by omega
 have hs6:s*4≤S.hs.length*4:=by omega
 have hat:=heC_at hsl
 rw[hsE2] at hat
 have hat2:=(List.getElem?_eq_some_iff.1 hat).2
 have hpart:=heC_part hsl
 rw[hsE2] at hpart
 have hset:=heC_spl hsl (⟨0,0,0,0⟩)
 obtain⟨hs2,hhs2⟩:∃hs2,S.hs.set s (⟨0,0,0,0⟩)=hs2:=⟨_,rfl⟩
 rw[hhs2] at hset
 have hl2:hs2.length=S.hs.length:=by rw[← hhs2];simp
 have hch:=heC_chunk hs2
 rw[hl2] at hch
 unfold chunk at hch
 rw[cond_true] at hch
 unfold List.range at hch
 have hle3:S.hs.length*4≤hs2.length*4:=by omega
 have hhne:¬S.hs=[]:=fun h=>by rw[h] at hh0;exact absurd hh0 (by decide)
 rw[stepR3 hk hs hu,hhs2]
 have hcop:=p138Z S hh hw hl
 clear hwl hhl hl2
 unfold encR encT
 refine .of_body Tryz.func84 rfl rfl ?_
 refine .seq (.rn ?_)
 refine .seq ?_
 refine .regionL [0,1,2,3] rfl zz0 ?_
 refine .rn [0] [1,2,3] ?_
 refine .step rfl rfl (.call rfl rfl rfl Tryz.call138 (by decide) (((hcop _ _ _ _)).mono ?_))
 rintro _ _ ⟨rfl,rfl⟩
 refine .rn [2,3] [] ?_
 refine .done (.seq (.seq ?_))
 refine .rec (vts2:=[(3,.ptr 0 0),(4,.ptr 1 0),(5,.ptr 2 0),(6,.ptr 3 0),(7,.bool false),(8,.ptr 9 0)]) (vh2:=⟨10,[(9,.box [.sub 7 0 S.hs.length,.vec (S.ws.map wQ),.int .i64 S.dy]),(7,.arr true 4 (heC S.hs)),(3,.box [.sl0,.sl0,.int .i64 0]),(2,.box [.int .i64 3,.int .i64 t.d,.int .i64 s,.int .i64 t.p,.int .i64 t.w,.int .i64 t.o]),(1,.box [.vec (S.hs.map encHe),.vec (S.ws.map wQ),.int .i64 S.dy]),(0,.box [ints R.ps,.int .i64 R.sc,turns R.ts])]⟩) (.mk [8] [] zz18 zz19 rfl rfl rfl) ?_
 refine .rn ?_
 refine .condS rfl (fun c19=>?_) (fun c19=>?_)
 ·try simp at c19
  refine .seq (.rn ?_)
  refine .ret ?_
  refine⟨_,_,zz2,zz2,?_⟩
  rw[if_pos c19];rfl
 ·try simp at c19
  refine .skip (.seq (.rn ?_))
  refine .seq (.seq (.rn ?_))
  refine .condS rfl (fun c26=>?_) (fun c26=>?_)
  ·try simp at c26
  ·try simp at c26
   refine .skip (.seq ?_)
   refine .regionL [0,1,2,3,4] rfl zz0 ?_
   refine .rn [0,1,2] [3,4] ?_
   refine .pc rfl rfl rfl rfl rfl Tryz.call81 (p81 R t.p h24) ?_
   refine .rn [4] [] ?_
   refine .done (.seq ?_)
   refine .drawn (ms:=[0,1,0,7,15,0,32,127,255]) (W:=[7]) (items:=[.op 0,.op 1,.op 2,.op 3,.op 4,.op 5,.op 6,.op 7,.op 8]) rfl zz0 zz0 zz0 ?_
   iterate 7 refine .rx ?_
   refine .wp rfl rfl rfl rfl rfl Tryz.call107 (p107w L s hLl) ?_
   refine .rx ?_
   refine .done (.seq ?_)
   refine .drawn (ms:=[0,1,0,4,15,31,63,0,128,511,1023]) (W:=[]) (items:=[.op 0,.op 1,.op 2,.op 3,.op 4,.op 5,.op 6,.op 7,.op 8,.op 9,.op 10]) rfl zz0 zz0 zz0 ?_
   iterate 11 refine .rx ?_
   refine .done (.seq (.rn ?_))
   refine .seq (.seq (.rn ?_))
   refine .block (.seq (.rn ?_))
   refine .condS rfl (fun c57=>?_) (fun c57=>?_)
   ·try simp at c57
   ·try simp at c57
    refine .seq (.rn ?_)
    refine .condS rfl (fun c78=>?_) (fun c78=>?_)
    ·try simp at c78
    ·try simp at c78
     refine .seq (.rn ?_)
     refine .condS rfl (fun c93=>?_) (fun c93=>?_)
     ·try simp at c93
      refine .seq (.rn ?_)
      refine .rn ?_
      refine .seq (.rn ?_)
      refine .ret ?_
      refine⟨_,_,zz2,(by simp[*]<;>rfl),?_⟩
      rw[if_neg (by omega)];rfl
     ·try simp at c93
end Go.Am.Hi
end
