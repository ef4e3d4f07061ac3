/-
 What is used in the proof of a statement (part HiA); no condition.
-/
import Derived.Test.YtmgglkdilpglgaaGreatHiZ
import Derived.Test.YtmgglkdilpglgaaGreatVm2
import Derived.Test.YtmgglkdilpglgaaGreatHiT
set_option linter.all false
set_option maxHeartbeats 40000000
set_option maxRecDepth 100000
section
namespace Go.Am.Hi
open Go Go.Am Go.Proofs Tryz
attribute [local simp] vrun zbg zc6 vop vopA zc7 zab.back hidI hidF zgd bm Nat.testBit_eq_decide_div_mod_eq za1 zca zeg vO zcv vlen zdw zcz zjh zbo zbb zfu vbox zcw ziq zet zh4 zfr zbz zfs zb0 zft zcu zfx zdx zc8 vbnd zfa vidx zd1 zh1 zbt zd0 zfv zhu zjr zj2 vbin vsc vsc1 vscs vscl zdh aint zfj zhf zcd zew zjf pvcV pvc pvcs tput tget zc5 zab.get zab.alloc zab.put zab.drop zab.empty zbl vput zhp zbj zc4 zgg chunk List.range List.range.loop zbd zef zbn frz frzL PV.isF PV.allF PV.scal PV.allS retP subT zil PV.one PV.ids PV.idsL ze8 beq_eq zdn zed
theorem p70 (n a b:Int):zao prog 70 [.int .i64 n,.int .i64 a,.int .i64 b] fun r=>r=.bool (decide (a≤n)&&decide (n≤b)):=by
 refine .zag func70 rfl rfl ?_
 refine .sr ?_
 refine .seq ?_
 refine .zac [0,1,2,3,4,5,6,7,8] rfl zz0 ?_
 refine .rn [0,1,2,3] _ ?_
 refine .split (t:=10) rfl (fun c10=>?_) (fun c10=>?_)
 ·try rw[c10]
  try simp at c10
  refine .rn [4,5,6,7,8] [] ?_
  refine .done (.ret ?_)
  refine⟨_,_,zz2,zz2,?_⟩
  simp<;>omega
 try rw[c10]
 try simp at c10
 refine .rn [4,5,6,7,8] [] ?_
 refine .done (.ret ?_)
 refine⟨_,_,zz2,zz2,?_⟩
 simp<;>omega
theorem p80 (n a b:Int):zao prog 80 [.int .i64 n,.int .i64 a,.int .i64 b] fun r=>r=.bool (decide (a≤n)&&decide (n≤b)):=by
 refine .zag func80 rfl rfl ?_
 refine .sr ?_
 refine .seq ?_
 refine .zac [0,1,2,3,4,5,6,7,8] rfl zz0 ?_
 refine .rn [0,1,2,3] _ ?_
 refine .split (t:=10) rfl (fun c10=>?_) (fun c10=>?_)
 ·try rw[c10]
  try simp at c10
  refine .rn [4,5,6,7,8] [] ?_
  refine .done (.ret ?_)
  refine⟨_,_,zz2,zz2,?_⟩
  simp<;>omega
 try rw[c10]
 try simp at c10
 refine .rn [4,5,6,7,8] [] ?_
 refine .done (.ret ?_)
 refine⟨_,_,zz2,zz2,?_⟩
 simp<;>omega
def idxF {α:Type}(p:α→Bool):Nat→List α→Int
 |_,[] => -1
 |i,a::r=>if p a then i else idxF p (i+1) r
theorem zg7 {α:Type}(p:α→Bool)(l:List α)(i:Nat)(h:i<l.length):idxF p i (l.drop i)=if p l[i] then (i:Int) else idxF p (i+1) (l.drop (i+1)):=by
 rw[List.drop_eq_getElem_cons h];rfl
theorem zo7 {α:Type}(p:α→Bool):∀(l:List α) (i:Nat),(idxF p i l = -1∧l.any p=false)∨((i:Int)≤idxF p i l∧idxF p i l<i+l.length∧l.any p=true)
 |[],i=>.inl ⟨rfl,rfl⟩
 |a::r,i=>by
  simp only[idxF,List.any_cons,List.length_cons]
  cases h:p a with
  |true=>exact .inr ⟨by simp,by simp;omega,rfl⟩
  |false=>
   rcases zo7 p r (i+1) with⟨h1,h2⟩|⟨h1,h2,h3⟩
   ·exact .inl ⟨by simpa using h1,by simpa using h2⟩
   exact .inr ⟨by simp;omega,by simp;omega,by simpa using h3⟩
theorem zuz {α:Type}(p:α→Bool)(l:List α)(i:Nat):decide (idxF p i l≥0)=l.any p:=by
 rcases zo7 p l i with⟨h1,h2⟩|⟨h1,h2,h3⟩
 ·rw[h1,h2];decide
 rw[h3];simp;omega
theorem z3z (l:List Int)(v:Int):(l.any fun a=>decide (v=a))=decide (v∈l):=by
 induction l with
 |nil=>rfl
 |cons a r ih=>simp only[List.any_cons,ih,List.mem_cons];by_cases h1:v=a<;>by_cases h2:v∈r<;>simp[h1,h2]
theorem zxx {a b:List Int}{i:Nat}(ha:i<a.length)(hb:i<b.length):decide (a.drop i=b.drop i)=(decide (a[i]=b[i])&&decide (a.drop (i+1)=b.drop (i+1))):=by
 rw[List.drop_eq_getElem_cons ha,List.drop_eq_getElem_cons hb,Bool.eq_iff_iff]
 simp only[decide_eq_true_eq,xf3,List.cons.injEq]
theorem p151 (l:List Int)(v:Int)(hl:l.length<4294967296):zao prog 151 [ints l,.int .i64 v] fun r=>r=.int .i64 (idxF (fun a=>decide (v=a)) 0 l):=by
 refine .zag func151 rfl rfl ?_
 refine .sr ?_
 refine .seq (.sr ?_)
 refine .block ?_
 refine .zb5 (fun s:Nat=>([(0,ints l),(1,.int .i64 v),(7,.int .i64 l.length),(8,.int .i64 s)],zab.empty)) (fun s=>s≤l.length∧idxF (fun a=>decide (v=a)) s (l.drop s)=idxF (fun a=>decide (v=a)) 0 l) (fun s=>l.length - s) 0 ⟨by simp,by simp⟩ (.pure (by simp[*]) (by simp)) ?_
 rintro i ⟨hi,hr⟩
 simp only at hi hr ⊢
 refine .sr ?_
 refine .seq ?_
 refine .cs ?_ ?_<;>intro c9
 ·try simp at c9
  have hw2:=wr1 i
  rw[zg7 _ l i c9] at hr
  refine .skip (.seq (.block (.sr ?_)))
  refine .sr ?_
  refine .cs ?_ ?_<;>intro c16
  ·try simp at c16
   refine .sr ?_
   refine .ret ?_
   refine⟨_,_,zz2,zz2,?_⟩
   rw[← hr,if_pos (by simp[c16])]
  try simp at c16
  refine .skip (.rn ?_)
  refine⟨i+1,⟨zz3,?_⟩,zz3,.pure (by simp[*]) (by simp)⟩
  rw[← hr,if_neg (by simp[c16])]
 try simp at c9
 have:i=l.length:=by omega
 refine .exit (.sr ?_)
 refine .ret ?_
 refine⟨_,_,zz2,zz2,?_⟩
 rw[← hr,this,List.drop_length];rfl
theorem p99 (l:List Int)(v:Int)(hl:l.length<4294967296):zao prog 99 [ints l,.int .i64 v] fun r=>r=.bool (decide (v∈l)):=by
 refine .zag func99 rfl rfl ?_
 refine .sr ?_
 refine .seq ?_
 refine .zac [0,1,2,3,4] rfl zz0 ?_
 refine .rn [0,1] _ ?_
 refine .pc rfl rfl rfl rfl rfl call151 (p151 l v hl) ?_
 refine .rn [3,4] [] ?_
 refine .done (.ret ?_)
 refine⟨_,_,zz2,zz2,?_⟩
 rw[← z3z,← zuz _ l 0]
theorem p107 (l:List Int)(v:Int)(hl:l.length<4294967296):zao prog 107 [ints l,.int .i64 v] fun r=>r=.bool (decide (v∈l)):=by
 refine .zag func107 rfl rfl ?_
 refine .sr ?_
 refine .seq (.sr ?_)
 refine .block ?_
 refine .zb5 (fun s:Nat=>([(0,ints l),(1,.int .i64 v),(5,.int .i64 s)],zab.empty)) (fun s=>s≤l.length∧decide (v∈l.drop s)=decide (v∈l)) (fun s=>l.length - s) 0 ⟨by simp,by simp⟩ (.pure (by simp[*]) (by simp)) ?_
 rintro i ⟨hi,hr⟩
 simp only at hi hr ⊢
 refine .seq (.sr ?_)
 refine .cs ?_ ?_<;>intro c9
 ·try simp at c9
  have hw2:=wr1 i
  rw[List.drop_eq_getElem_cons c9] at hr
  refine .skip (.seq (.block (.sr ?_)))
  refine .cs ?_ ?_<;>intro c17
  ·try simp at c17
   refine .sr ?_
   refine .ret ?_
   refine⟨_,_,zz2,zz2,?_⟩
   rw[← hr,c17];simp
  try simp at c17
  refine .skip (.rn ?_)
  refine⟨i+1,⟨zz3,?_⟩,zz3,.pure (by simp[*]) (by simp)⟩
  rw[← hr,decide_eq_decide,List.mem_cons]
  exact⟨.inr,fun h=>h.resolve_left (Ne.symm c17)⟩
 try simp at c9
 have:i=l.length:=by omega
 refine .exit (.sr ?_)
 refine .ret ?_
 refine⟨_,_,zz2,zz2,?_⟩
 rw[← hr,this,List.drop_length];rfl
theorem p27 (a b:List Int)(hl:a.length<4294967296)(hb:b.length<4294967296):zao prog 27 [ints a,ints b] fun r=>r=.bool (decide (a=b)):=by
 refine .zag func27 rfl rfl ?_
 refine .sr ?_
 refine .seq (.sr ?_)
 refine .cs ?_ ?_<;>intro c10
 ·try simp at c10
  refine .sr ?_
  refine .ret ?_
  refine⟨_,_,zz2,zz2,?_⟩
  rw[decide_eq_false fun h=>c10 (by rw[h])]
 try simp at c10
 refine .skip (.seq (.sr ?_))
 refine .block ?_
 refine .zb5 (fun s:Nat=>([(0,ints a),(1,ints b),(5,.int .i64 s)],zab.empty)) (fun s=>s≤a.length∧decide (a.drop s=b.drop s)=decide (a=b)) (fun s=>a.length - s) 0 ⟨by simp,by simp⟩ (.pure (by simp[*]) (by simp)) ?_
 rintro i ⟨hi,hr⟩
 simp only at hi hr ⊢
 refine .seq (.sr ?_)
 refine .cs ?_ ?_<;>intro c14
 ·try simp at c14
  have hw2:=wr1 i
  have hib:i<b.length:=by omega
  have hia:i<a.length:=by omega
  rw[zxx hia hib] at hr
  refine .skip (.seq (.block (.seq ?_)))
  refine .drawn (ms:=[0,0,3,7,0,0,48,112,255]) (W:=[]) (items:=[.op 0,.op 1,.op 2,.op 3,.op 4,.op 5,.op 6,.op 7,.op 8]) rfl zz0 zz0 zz0 ?_
  iterate 9 refine .rx ?_
  refine .done ?_
  refine .cs ?_ ?_<;>intro c25
  ·try simp at c25
   refine .sr ?_
   refine .ret ?_
   refine⟨_,_,zz2,zz2,?_⟩
   rw[← hr];simp[c25]
  try simp at c25
  refine .skip (.rn ?_)
  refine⟨i+1,⟨zz3,?_⟩,zz3,.pure (by simp[*]) (by simp)⟩
  rw[← hr,c25];simp
 try simp at c14
 have:i=a.length:=by omega
 refine .exit (.sr ?_)
 refine .ret ?_
 refine⟨_,_,zz2,zz2,?_⟩
 rw[← hr,this,List.drop_length,List.drop_eq_nil_of_le (by omega)];rfl
def nx (row:List Int)(c:Int):Int:=row.getD c.toNat 0
def zvk (n:Nat)(S:List Int):List PV:=(List.range n).map fun (i:Nat)=>PV.bool (decide ((i:Int)∈S))
@[simp] theorem z7u (n:Nat)(S:List Int):(zvk n S).length=n:=by simp[zvk,-List.range,-List.range.loop]
@[simp] theorem z9b (n:Nat)(S:List Int):(zvk n S).all PV.one=true:=by simp[zvk,PV.one]
@[simp] theorem z5h (n:Nat)(S:List Int):PV.allF (zvk n S)=true:=by
 unfold zvk
 exact zti (fun _=>rfl) _
@[simp] theorem z4x (l:List (List Int)):zf0 1 (l.map ints)=true:=znj (f:=ints) (n:=1) (fun _=>rfl) l
@[simp] theorem z3a (l:List (List Int)):zdj (l.map ints)=true:=zk7 (f:=ints) (fun _=>rfl) l
def Soft (r v:PV):Prop:=Alt zab.empty 0 (fun _=>true) id r v
theorem zao.soft {P:Program}{f:FuncId}{args:List PV}{v:PV}(hp:zao P f args fun r=>Soft r v)(hv:v.isF=true):zao P f args fun r=>r=v:=hp.alt fun r h=>⟨v,h,hv,rfl⟩
theorem ztr {v:PV}(h:v.isF=true):Soft v v:=.same v h
@[simp] theorem z2c (k:IntKind)(l:List Int):(l.map (PV.int k)).all PV.one=true:=by simp[PV.one]
def encX (x:Int×Int):PV:=.agg [.int .i64 x.1,.int .i64 x.2]
@[simp] theorem z5f (x:Int×Int):(encX x).cells=[.int .i64 x.1,.int .i64 x.2]:=rfl
@[simp] theorem xbd (x:Int×Int):(encX x).isF=true:=rfl
def swp (r:List Int)(x:Int×Int):List Int:=(r.set x.1.toNat (r.getD x.2.toNat 0)).set x.2.toNat (r.getD x.1.toNat 0)
@[simp] theorem xdi (r:List Int)(x:Int×Int):(swp r x).length=r.length:=by simp[swp]
end Go.Am.Hi
end
