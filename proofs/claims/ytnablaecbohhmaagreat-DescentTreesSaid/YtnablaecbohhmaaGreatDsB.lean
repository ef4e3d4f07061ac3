/-
 What is used in the proof of a statement (part DsB); no condition.
-/
import Derived.Test.YtnablaecbohhmaaGreatDsZ
import Derived.Test.YtnablaecbohhmaaGreatVm2
import Derived.Test.YtnablaecbohhmaaGreatDsT
import Derived.Test.YtnablaecbohhmaaGreatDsA
set_option linter.all false
set_option maxHeartbeats 40000000
set_option maxRecDepth 100000
section
namespace Go.Am.Ds
open Go Go.Am Go.Proofs Tryz
attribute [local simp] vrun zay zbm vop za2 zbp zck vO zbj vlen zbv zb6 zev zau zap zcx vbox zbh zeq zcb zer zcw zaw zcy zax zc0 zbi zcz zbu zbq vbnd zdh vidx zbr zee zav zbx zeh zfd zfa vbin vsc vsc1 vscs vscl zb8 aint zca zef zbb zdb zex pvcV pvc pvcs tput tget zdx zab.get zab.alloc zab.put zab.drop zab.empty zce vput zei zbd zcf zdu chunk List.range List.range.loop za7 zb2 za8 frz frzL PV.isF PV.allF PV.scal PV.allS retP subT zem PV.one PV.ids PV.idsL zcj beq_eq zb9 zcc
theorem p34 (a b:List Int)(ha:a.length<4294967296)(hb:b.length<4294967296):zaj prog 34 [ints a,ints b] fun r=>r=.bool (decide (a=b)):=by
 refine .zag func34 rfl rfl ?_
 refine .sr ?_
 refine .seq (.sr ?_)
 refine .cs ?_ ?_<;>intro c10
 ·try simp at c10
  refine .sr ?_
  refine .ret ?_
  refine⟨_,_,zz4,zz4,?_⟩
  have h:¬a=b:=by intro h;subst h;omega
  simp[h]
 try simp at c10
 refine .skip (.seq (.sr ?_))
 refine .block ?_
 refine .zbl (fun i:Nat=>([(0,ints a),(1,ints b),(5,.int .i64 i)],zab.empty)) (fun i=>i≤a.length∧a.take i=b.take i) (fun i=>a.length - i) 0 (by simp) (.pure (by simp[*]) (by simp)) ?_
 rintro i ⟨hi,hr⟩
 simp only at hi hr ⊢
 refine .seq (.sr ?_)
 refine .cs ?_ ?_<;>intro c14
 ·try simp at c14
  have hw2:=wr1 i
  have hia:i<a.length:=by omega
  have hib:i<b.length:=by omega
  refine .skip (.seq (.block (.seq ?_)))
  refine .drawn (ms:=[0,0,3,7,0,0,48,112,255]) (W:=[]) (items:=[.op 0,.op 1,.op 2,.op 3,.op 4,.op 5,.op 6,.op 7,.op 8]) rfl zz0 zz0 zz0 ?_
  iterate 9 refine .rx ?_
  refine .done ?_
  refine .cs ?_ ?_<;>intro c25
  ·try simp at c25
   refine .sr ?_
   refine .ret ?_
   refine⟨_,_,zz4,zz4,?_⟩
   have h:¬a=b:=by intro h;subst h;simp at c25
   simp[h]
  try simp at c25
  refine .skip (.rn ?_)
  refine⟨i+1,⟨zz5,?_⟩,zz5,.pure (by simp[*]) (by simp)⟩
  rw[List.take_succ_eq_append_getElem hia,List.take_succ_eq_append_getElem hib,hr,c25]
 try simp at c14
 have:i=a.length:=by omega
 have hab:a=b:=by
  rw[this,List.take_length] at hr
  rw[hr];exact List.take_of_length_le (by omega)
 refine .exit (.sr ?_)
 refine .ret ?_
 refine⟨_,_,zz4,zz4,?_⟩
 simp[hab]
theorem p38 (l:List Int):zaj prog 38 [ints l] fun r=>r=.bool (decide (l.length≤60)):=by
 refine .zag func38 rfl rfl ?_
 refine .sr ?_
 refine .sr ?_
 refine .ret ?_
 refine⟨_,_,zz4,zz4,?_⟩
 simp;omega
def zgz (w:Wit):Bool:=decide (40<w.slips.length)||decide (40<w.mended.length)||decide (30<w.models.length)
def fewS (s:List Wit):Bool:=!(s.any zgz)&&((decide (s.length≤8)&&s.all fun w=>decide (w.slips.length≤6))||(decide (s.length≤40)&&decide (zai s≠0)))
theorem zqj {α:Type}(p:α→Bool)(l:List α)(i:Nat)(h:i<l.length):(l.take (i+1)).all p=((l.take i).all p&&p l[i]):=by
 rw[List.take_succ_eq_append_getElem h,List.all_append];simp
theorem zqk {α:Type}(p:α→Bool)(l:List α)(i:Nat)(h:i<l.length):(l.take (i+1)).any p=((l.take i).any p||p l[i]):=by
 rw[List.take_succ_eq_append_getElem h,List.any_append];simp
theorem zt6 {α:Type}(p:α→Bool)(l:List α)(i:Nat)(h:i<l.length)(hp:p l[i]=true):l.any p=true:=List.any_eq_true.2 ⟨l[i],List.getElem_mem h,hp⟩
theorem p26 (s:List Wit)(hl:s.length<4611686018427387904):zaj prog 26 [encS s] fun r=>r=.bool (fewS s):=by
 refine .zag func26 rfl rfl ?_
 refine .sr ?_
 refine .sr ?_
 refine .seq (.sr ?_)
 refine .block ?_
 refine .zbl (fun st:Nat×Bool=>([(1,.ptr 0 0),(3,.bool st.2),(4,.int .i64 st.1)],⟨1,[(0,.box [.vec (s.map encW)])]⟩)) (fun st=>st.1≤s.length∧(s.take st.1).any zgz=false∧((s.take st.1).all fun w=>decide (w.slips.length≤6))=st.2) (fun st=>s.length - st.1) (0,true) (by simp) (.mk [] [] zz2 zz3 rfl rfl rfl) ?_
 rintro⟨i,light⟩ ⟨hi,hr,hr2⟩
 simp only at hi hr hr2 ⊢
 refine .seq (.sr ?_)
 refine .cs ?_ ?_<;>intro c10
 ·try simp at c10
  have hw2:=wr1 i
  have hA:=zqk zgz s i c10
  have hB:=zqj (fun w:Wit=>decide (w.slips.length≤6)) s i c10
  rw[hr] at hA
  rw[hr2] at hB
  refine .skip (.seq (.block (.sr ?_)))
  refine .seq (.seq ?_)
  refine .zac [0,1,2,3,4,5,6,7,8,9,10,11,12,13,14,15] rfl zz0 ?_
  refine .rn [0,1,2,3,4] _ ?_
  refine .split (t:=22) rfl (fun c22=>?_) (fun c22=>?_)
  ·rw[c22]
   try simp at c22
   refine .rn [5,6,7,8,9,10,11,12,13,14,15] [] ?_
   refine .done (.zdm rfl (.sr ?_))
   refine .ret ?_
   refine⟨_,_,zz4,zz4,?_⟩
   have h:zgz s[i]=true:=by unfold zgz;simp;omega
   unfold fewS;rw[zt6 zgz s i c10 h];rfl
  rw[c22]
  try simp at c22
  refine .rn [5,6,7,8,9,10] _ ?_
  refine .split (t:=28) rfl (fun c28=>?_) (fun c28=>?_)
  ·rw[c28]
   try simp at c28
   refine .rn [11,12,13,14,15] [] ?_
   refine .done (.zdm rfl (.sr ?_))
   refine .ret ?_
   refine⟨_,_,zz4,zz4,?_⟩
   have h:zgz s[i]=true:=by unfold zgz;simp;omega
   unfold fewS;rw[zt6 zgz s i c10 h];rfl
  rw[c28]
  try simp at c28
  refine .rn [11,12,13,14,15] [] ?_
  refine .done ?_
  refine .cs ?_ ?_<;>intro c33
  ·try simp at c33
   refine .sr ?_
   refine .ret ?_
   refine⟨_,_,zz4,zz4,?_⟩
   have h:zgz s[i]=true:=by unfold zgz;simp;omega
   unfold fewS;rw[zt6 zgz s i c10 h];rfl
  try simp at c33
  refine .skip ?_
  refine .zac [0,1,2,3,4,5,6,7] rfl zz0 ?_
  refine .rn [0,1] _ ?_
  refine .split (t:=35) rfl (fun c35=>?_) (fun c35=>?_)
  ·rw[c35]
   try simp at c35
   refine .rn [2,3,4,5,6,7] [] ?_
   refine .done (.rn ?_)
   have h:zgz s[i]=false:=by unfold zgz;simp;omega
   rw[h] at hA
   rw[c35] at hB
   refine⟨(i+1,decide ((s[i].slips.length:Int)≤6)),⟨zz5,by simpa using hA,by rw[hB];simp;omega⟩,zz5,(.mk [] [] zz2 zz3 rfl rfl rfl)⟩
  rw[c35]
  try simp at c35
  refine .rn [2,3,4,5,6,7] [] ?_
  refine .done (.rn ?_)
  have h:zgz s[i]=false:=by unfold zgz;simp;omega
  rw[h] at hA
  rw[c35] at hB
  refine⟨(i+1,false),⟨zz5,by simpa using hA,by simpa using hB⟩,zz5,(.mk [] [] zz2 zz3 rfl rfl rfl)⟩
 try simp at c10
 have hi2:i=s.length:=by omega
 subst hi2
 rw[List.take_length] at hr hr2
 have hlen:∀w∈s,w.slips.length<4294967296∧w.mended.length<4294967296∧w.models.length<4294967296:=fun w hw=>by
  rw[List.any_eq_false] at hr
  have:=hr w hw
  unfold zgz at this
  simp at this
  omega
 refine .exit (.seq ?_)
 refine .zac [0,1,2,3,4,5,6,7,8,9,10,11,12,13,14,15,16,17,18] rfl zz0 ?_
 refine .rn [0,1,2,3,4] _ ?_
 refine .split (t:=45) rfl (fun c45=>?_) (fun c45=>?_)
 ·rw[c45]
  try simp at c45
  refine .rn [5,6,7] _ ?_
  refine .split (t:=48) rfl (fun c48=>?_) (fun c48=>?_)
  ·rw[c48]
   try simp at c48
   refine .rn [8,9,10,11,12,13,14,15,16,17,18] [] ?_
   refine .done (.ret ?_)
   refine⟨_,_,zz4,zz4,?_⟩
   have k:s.length≤8:=by omega
   unfold fewS;rw[hr,hr2,c48];simp[k]
  rw[c48]
  try simp at c48
  refine .rn [8,9,10,11,12] _ ?_
  refine .split (t:=53) rfl (fun c53=>?_) (fun c53=>?_)
  ·rw[c53]
   try simp at c53
   refine .rn [13] _ ?_
   refine .pc rfl rfl rfl rfl rfl call52 (p52 s (by omega) hlen) ?_
   refine .rn [15,16,17,18] [] ?_
   refine .done (.ret ?_)
   refine⟨_,_,zz4,zz4,?_⟩
   have k:s.length≤8:=by omega
   have k2:s.length≤40:=by omega
   unfold fewS;rw[hr,hr2,c48];by_cases h:zai s=0<;>simp[k,k2,h]
  rw[c53]
  try simp at c53
  refine .rn [13,14,15,16,17,18] [] ?_
  refine .done (.ret ?_)
  refine⟨_,_,zz4,zz4,?_⟩
  exfalso;omega
 rw[c45]
 try simp at c45
 refine .rn [5,6,7,8,9,10,11,12] _ ?_
 refine .split (t:=53) rfl (fun c53=>?_) (fun c53=>?_)
 ·rw[c53]
  try simp at c53
  refine .rn [13] _ ?_
  refine .pc rfl rfl rfl rfl rfl call52 (p52 s (by omega) hlen) ?_
  refine .rn [15,16,17,18] [] ?_
  refine .done (.ret ?_)
  refine⟨_,_,zz4,zz4,?_⟩
  have k:¬s.length≤8:=by omega
  have k2:s.length≤40:=by omega
  unfold fewS;rw[hr];by_cases h:zai s=0<;>simp[k,k2,h]
 rw[c53]
 try simp at c53
 refine .rn [13,14,15,16,17,18] [] ?_
 refine .done (.ret ?_)
 refine⟨_,_,zz4,zz4,?_⟩
 have k:¬s.length≤8:=by omega
 have k2:¬s.length≤40:=by omega
 unfold fewS;rw[hr];simp[k,k2]
end Go.Am.Ds
end
section
namespace Go.Am.Ds
open Go Go.Am Go.Proofs Tryz
attribute [local simp] vrun zay zbm vop vopA zcn zab.back hidI hidF zd4 bm za2 zbp zck vO zbj vlen zbv zb6 zev zau zap zcx vbox zbh zeq zcb zer zcw zaw zcy zax zc0 zbi zcz zbu zbq vbnd zdh vidx zbr zee zav zbx zde zeh zfd zfa vbin vsc vsc1 vscs vscl zb8 aint zca zef zbb zdb zex pvcV pvc pvcs tput tget zdx zab.get zab.alloc zab.put zab.drop zab.empty zce vput zei zbd zcf zdu chunk List.range List.range.loop za7 zb2 za8 frz frzL PV.isF PV.allF PV.scal PV.allS retP subT zem PV.one PV.ids PV.idsL zcj beq_eq zb9 zcc
theorem zwq {α:Type}(p:α→Bool):∀(l:List α) (k:Nat),idxF p k l = -1→l.filter (fun a=>!p a)=l
 |[],_,_=>rfl
 |a::r,k,h=>by
  simp only[idxF] at h
  by_cases hp:p a=true
  ·rw[if_pos hp] at h;omega
  rw[if_neg hp] at h
  simp only[List.filter_cons]
  rw[if_pos (by simp[hp]),zwq p r (k+1) h]
theorem zwv {α:Type}(p:α→Bool):∀(l:List α) (k:Nat),idxF p k l ≠ -1→∃i,∃h:i<l.length,idxF p k l=((k+i:Nat):Int)∧p l[i]=true∧(l.take i).filter (fun a=>!p a)=l.take i
 |[],_,h=>absurd rfl h
 |a::r,k,h=>by
  simp only[idxF] at h ⊢
  by_cases hp:p a=true
  ·exact⟨0,by simp,by rw[if_pos hp];simp,by simpa using hp,by simp⟩
  rw[if_neg hp] at h ⊢
  obtain⟨i,h1,h2,h3,h4⟩:=zwv p r (k+1) h
  refine⟨i+1,by simp;omega,by rw[h2];congr 1;omega,by simpa using h3,?_⟩
  simp only[List.take_succ_cons,List.filter_cons]
  rw[if_pos (by simp[hp]),h4]
mutual
theorem z1h (vh:zab):∀ {v:PV},v.isF=true→frz vh v=some v
 |.func f xs ys,h=>by
  simp only[PV.isF,xji] at h
  simp only[frz,zjt vh h.1,zjt vh h.2]
 |.agg cs,h=>by simp only[PV.isF] at h;simp only[frz,zjt vh h,Option.map_some]
 |.tup cs,h=>by simp only[PV.isF] at h;simp only[frz,zjt vh h,Option.map_some]
 |.iface t v,h=>by simp only[PV.isF] at h;simp only[frz,h,xjg]
 |.ptr ..,h=>by simp[PV.isF] at h
 |.own ..,h=>by simp[PV.isF] at h
 |.sub ..,h=>by simp[PV.isF] at h
 |.grow ..,h=>by simp[PV.isF] at h
 |.mapv ..,h=>by simp[PV.isF] at h
 |.yld ..,h=>by simp[PV.isF] at h
 |.bool _,_=>by simp only[frz]
 |.int _ _,_=>by simp only[frz]
 |.str _,_=>by simp only[frz]
 |.nilFunc,_=>by simp only[frz]
 |.nilIface,_=>by simp only[frz]
 |.ptr0,_=>by simp only[frz]
 |.sl0,_=>by simp only[frz]
 |.map0,_=>by simp only[frz]
 |.e0,_=>by simp only[frz]
 |.vec _,_=>by simp only[frz]
 |.vp _,_=>by simp only[frz]
 |.vmap _,_=>by simp only[frz]
theorem zjt (vh:zab):∀ {l:List PV},PV.allF l=true→frzL vh l=some l
 |[],_=>by simp only[frzL]
 |v::r,h=>by
  simp only[PV.allF,xji] at h
  simp only[frzL,z1h vh h.1,zjt vh h.2]
end
@[simp] theorem z6v (l:List Int):List.take l.length (l.map (PV.int .i64))=l.map (PV.int .i64):=List.take_of_length_le (by rw[List.length_map];exact Nat.le_refl _)
@[simp] theorem z6t (l:List Int):l.all (PV.one∘PV.int .i64)=true:=by simp[PV.one]
theorem zt1 {α:Type}{a b:List α}{j:Nat}(h:a.drop j=b.drop j):a[j]?=b[j]?:=by
 have:=congrArg (·[0]?) h
 simpa using this
theorem zml {α:Type}{a b:List α}{j:Nat}(h:a.drop j=b.drop j):a.drop (j+1)=b.drop (j+1):=by
 rw[← List.drop_drop,← List.drop_drop,h]
theorem p134 (l:List Int)(p:Int→Bool)(f:FuncId)(xs ys:List PV)(hl:l.length<4294967296)(hne:0<l.length)(hx:PV.allF xs=true)(hy:PV.allF ys=true)(hcf:∀cs w,(callFunc f cs).run prog w=.ok (.enter f cs) w)(hp:∀a∈l,zaj prog f (xs++[.int .i64 a]++ys) fun r=>r=.bool (p a)):zbo prog 134 [.sub 0 0 l.length,.func f xs ys] ⟨1,[(0,.arr false 1 (l.map (.int .i64)))]⟩ fun r _=>r.isF=true∧r=ints (l.filter fun a=>!p a):=by
 have hl0:¬l=[]:=by rintro rfl;simp at hne
 have hxz:∀vh,frzL vh xs=some xs:=fun vh=>zjt vh hx
 have hyz:∀vh,frzL vh ys=some ys:=fun vh=>zjt vh hy
 refine .z4r func134 rfl rfl ?_
 refine .sr ?_
 refine .seq ?_
 refine .zac [0,1,2,3] rfl zz0 ?_
 refine .rn [0,1] _ ?_
 refine .step rfl rfl (.borrow rfl rfl rfl call175 (by decide) (by first|(simp<;>rfl)|(simp[*]<;>rfl)|(simp[*];done)) (p175 l (PV.int .i64) p f xs ys hl (fun _=>rfl) hx hy (fun _=>rfl) hcf hp) (by rintro _ rfl<;>simp) ?_)
 rintro _ rfl
 refine .rn [3] [] ?_
 refine .done (.seq (.sr ?_))
 refine .cs ?_ ?_<;>intro c12
 ·try simp at c12
  refine .sr ?_
  refine .ret ?_
  refine⟨_,_,zz4,(by simp[*]<;>rfl),?_⟩
  rw[zwq p l 0 c12]
 try simp at c12
 obtain⟨i0,hi0,hie,hp0,hbef⟩:=zwv p l 0 c12
 rw[Nat.zero_add] at hie
 have hw1:=wr1 i0
 refine .skip (.seq (.sr ?_))
 refine .block ?_
 refine .zbl (fun st:Nat×Nat×List Int=>([(0,.sub 0 0 l.length),(1,.func f xs ys),(5,.int .i64 st.1),(6,.int .i64 st.2.1)],⟨1,[(0,.arr false 1 (st.2.2.map (.int .i64)))]⟩)) (fun st=>st.2.2.length=l.length∧st.1<st.2.1∧st.2.1≤l.length∧st.2.2.take st.1=(l.take st.2.1).filter (fun a=>!p a)∧st.2.2.drop st.2.1=l.drop st.2.1) (fun st=>l.length - st.2.1) (i0,i0+1,l) ⟨rfl,by simp,hi0,by rw[List.take_succ_eq_append_getElem hi0,List.filter_append,hbef];simp[hp0],rfl⟩ (.mk [] [] zz6 zz7 rfl rfl rfl) ?_
 rintro⟨i,j,cs⟩ ⟨hcl,hij,hjl,htk,hdr⟩
 simp only at hcl hij hjl htk hdr ⊢
 refine .seq (.sr ?_)
 refine .cs ?_ ?_<;>intro c19
 ·try simp at c19
  have hw2:=wr1 j
  have hw3:=wr1 i
  have hj:cs[j]?=some l[j]:=by rw[zt1 hdr];simp[c19]
  have hjc:j<cs.length:=by omega
  have hcj:cs[j]=l[j]:=by rw[List.getElem?_eq_getElem hjc] at hj;injection hj
  have hil:i<l.length:=by omega
  have hi1:i+1≤l.length:=by omega
  have hp:=hp l[j] (List.getElem_mem c19)
  refine .skip (.seq (.block (.sr ?_)))
  refine .seq ?_
  refine .zac [0,1,2,3] rfl zz0 ?_
  refine .rn [0,1] _ ?_
  refine .step rfl rfl (.pure rfl rfl rfl hcf (by decide) (hp) (by first|rfl|simp[*]) ?_)
  rintro _ rfl
  refine .rn [3] [] ?_
  refine .done ?_
  refine .cs ?_ ?_<;>intro c29
  ·try simp at c29
   refine .sr ?_
   refine .rn ?_
   refine .rn ?_
   refine⟨(i+1,j+1,cs.set i l[j]),⟨by simp[hcl],by simp;omega,c19,?_,?_⟩,zz5,.mk [] [] zz6 ⟨⟨xjf rfl,Or.inr ⟨rfl,_,rfl,?_⟩⟩,trivial⟩ rfl rfl rfl⟩
   ·simp only
    rw[List.take_succ_eq_append_getElem (by simp;omega),List.take_set_of_le (Nat.le_refl i),htk,List.take_succ_eq_append_getElem c19,List.filter_append]
    simp[c29]
   ·simp only
    rw[List.drop_set_of_lt (by omega)]
    exact zml hdr
   refine congrArg (VObj.arr _ _) ?_
   rw[List.set_eq_take_append_cons_drop,if_pos (by omega)]
   simp
  try simp at c29
  refine .skip (.rn ?_)
  refine⟨(i,j+1,cs),⟨hcl,by simp;omega,c19,?_,zml hdr⟩,zz5,(.mk [] [] zz6 zz7 rfl rfl rfl)⟩
  simp only
  rw[htk,List.take_succ_eq_append_getElem c19,List.filter_append]
  simp[c29]
 try simp at c19
 have hjn:j=l.length:=by omega
 obtain⟨m,hm⟩:∃m,l.length - i=m+1:=⟨l.length - i - 1,by omega⟩
 have hin:¬l.length=i:=by omega
 have hil:i≤l.length:=by omega
 have him:i+(m+1)≤l.length:=by omega
 refine .exit (.sr ?_)
 refine .sr ?_
 refine .ret ?_
 refine⟨_,ints (l.filter fun a=>!p a),zz4,?_,rfl⟩
 rw[hjn,List.take_length] at htk
 by_cases hi:i=0
 ·subst hi
  simp at htk
  simp[ints]
  intro a ha
  cases hpa:p a with
  |true=>rfl
  |false=>exact absurd (hpa▸htk a ha) (by simp)
 have e1:(List.map (PV.int .i64) cs).take i=(l.filter fun a=>!p a).map (.int .i64):=by rw[← List.map_take,htk]
 have e2:((l.filter fun a=>!p a).map (PV.int .i64)).all PV.one=true:=by simp[PV.one]
 have e3:((List.map (PV.int .i64) cs).drop (i+(m+1))).all PV.one=true:=by
  rw[List.all_eq_true]
  intro x hx
  obtain⟨y,_,rfl⟩:=List.mem_map.1 (List.mem_of_mem_drop hx)
  rfl
 have e0:(l.filter fun a=>!p a).length=i:=by rw[← htk,List.length_take];omega
 have e4:∀X:List PV,List.take i (List.map (PV.int .i64) (l.filter fun a=>!p a)++X)=List.map (PV.int .i64) (l.filter fun a=>!p a):=fun X=>List.take_left' (by rw[List.length_map,e0])
 simp only[hm,e1] at *
 simp[*]
theorem xe8:zaj prog 167 [.vec []] fun r=>r=.vec []∨r=.sl0:=by
 refine .zag func167 rfl rfl ?_
 refine .sr ?_
 refine .seq (.seq ?_)
 refine .zac [0,1] rfl zz0 ?_
 refine .rn [0] _ ?_
 refine .step rfl rfl (.nilQ ⟨_,rfl⟩ u25 rfl rfl (by decide) fun q=>?_)
 refine .done ?_
 cases q with
 |true=>
  refine .zdm rfl (.sr ?_)
  refine .ret ?_
  exact⟨_,.sl0,zz4,(by simp),.inr rfl⟩
 |false=>
  refine .zjp rfl (.skip (.sr ?_))
  refine .ret ?_
  exact⟨_,.vec [],zz4,(by simp),.inl rfl⟩
theorem xec:zaj prog 167 [.vec []] fun r=>r=.vec []:=xe8.alt fun r h=>by
 rcases h with rfl|rfl
 ·exact⟨.vec [],.same _ rfl,rfl,rfl⟩
 exact⟨.vec [],.sl0v,rfl,rfl⟩
theorem p167 (l:List Int)(hne:0<l.length)(hl:l.length<4294967296):zbo prog 167 [ints l] zab.empty fun v vh'=>∃i nl,v=.grow i l.length nl∧vh'.get i=some (.grow 1 (l.map (.int .i64))):=by
 obtain⟨a,r,rfl⟩:∃a r,l=a::r:=by
  cases l with
  |nil=>simp at hne
  |cons a r=>exact⟨a,r,rfl⟩
 have h1:r.length+1≤4294967296:=by simp at hl;omega
 have h2:r.length≤4294967295:=by omega
 have hS:zdt 1 (PV.int .i64 a::r.map (PV.int .i64))=true:=zkx .i64 (a::r)
 have hO:zcm (PV.int .i64 a::r.map (PV.int .i64))=true:=zim .i64 (a::r)
 refine .zag func167 rfl rfl ?_
 refine .sr ?_
 refine .seq (.seq ?_)
 refine .run zz0 (by simp[ints, *]<;>first|exact⟨rfl,rfl⟩|exact rfl) ?_
 refine .zjp rfl (.skip (.seq ?_))
 refine .run zz0 (by simp[ints, *]<;>first|exact⟨rfl,rfl⟩|exact rfl) ?_
 refine .ret ?_
 exact⟨_,zz4,_,_,rfl,by simp⟩
def fstF (p:Int→Bool)(l:List Int):Int:=(l.find? p).getD 0
def xbu (c:Wit)(id:Int):Int:=if 0<c.models.length∧id∉c.models then 4 else 0
def xek (c:Wit)(n:Int):Bool:=!decide (n∈setK [c.slips,c.mended])
def whyP (c p:Wit):Int×Int:=if p.id=c.id then (1,0) else if c.lo≤p.hi then (2,0) else if 0≤idxF (xek c) 0 p.slips then (3,fstF (xek c) p.slips) else (xbu c p.id,0)
def tup2 (x:Int×Int):PV:=.tup [.int .i64 x.1,.int .i64 x.2]
theorem p99 (s:List Wit)(hl:s.length<4294967296):zaj prog 99 [encS s] fun r=>r=ints ((s.map Wit.id).mergeSort fun x y=>decide (x≤y)):=by
 refine .zag func99 rfl rfl ?_
 refine .sr ?_
 refine .sr ?_
 refine .seq (.sr ?_)
 refine .block ?_
 refine .zbl (fun i:Nat=>([(3,.grow 1 i true),(7,.vec (s.map encW)),(8,.int .i64 s.length),(9,.int .i64 i)],⟨2,[(1,.grow 1 (((s.take i).map Wit.id).map (.int .i64)))]⟩)) (fun i=>i≤s.length) (fun i=>s.length - i) 0 (by simp) (.mk [] [] zz6 zz7 rfl rfl rfl) ?_
 rintro i hi
 simp only at hi ⊢
 refine .sr ?_
 refine .seq ?_
 refine .cs ?_ ?_<;>intro c10
 ·try simp at c10
  have hw2:=wr1 i
  have hT:=zhe Wit.id s i c10
  have hb:i+1≤4294967296:=by omega
  have hE:encW s[i]=.agg [.int .i64 s[i].id,.int .i64 s[i].known,ints s[i].slips,ints s[i].mended,ints s[i].models,.int .i64 s[i].lo,.int .i64 s[i].hi]:=rfl
  refine .skip (.seq (.block (.sr ?_)))
  refine .rn ?_
  refine .rn ?_
  refine⟨i+1,zz5,zz5,(.mk [] [(1,4)] zz6 zz7 rfl rfl rfl)⟩
 try simp at c10
 have:i=s.length:=by omega
 subst this
 refine .exit (.seq ?_)
 refine .zac [0,1] rfl zz0 ?_
 refine .rn [0] _ ?_
 refine .step rfl rfl (.call rfl rfl rfl call159 (by decide) (((zbo.zm4 (zs:=s.map Wit.id) z5n (by simp[List.take_of_length_le]) (by simp))).mono ?_))
 rintro _ _ ⟨rfl,rfl⟩
 refine .done (.sr ?_)
 refine .ret ?_
 refine⟨_,_,zz4,zz4,?_⟩
 first|rfl|(simp[*];done)|(simp_all;done)
theorem xg0 (f:FuncId)(xs ys:List PV)(hx:PV.allF xs=true)(hy:PV.allF ys=true)(hcf:∀cs w,(callFunc f cs).run prog w=.ok (.enter f cs) w):zaj prog 134 [.vec [],.func f xs ys] fun r=>r=.vec []:=by
 refine .zag func134 rfl rfl ?_
 refine .sr ?_
 refine .seq ?_
 refine .zac [0,1,2,3] rfl zz0 ?_
 refine .rn [0,1] _ ?_
 refine .step rfl rfl (.pure rfl rfl rfl call175 (by decide) (p175 ([]:List Int) (PV.int .i64) (fun _=>true) f xs ys (by simp) (fun _=>rfl) hx hy (fun _=>rfl) hcf (fun a ha=>by cases ha)) (by simp[*]) ?_)
 rintro _ rfl
 refine .rn [3] [] ?_
 refine .done (.seq (.seq ?_))
 refine .run zz0 (by simp[idxF, *]<;>first|exact⟨rfl,rfl⟩|exact rfl) ?_
 refine .zdm rfl (.sr ?_)
 refine .ret ?_
 exact⟨_,.vec [],zz4,(by simp),rfl⟩
theorem z8g {vh:zab}(l:List Int)(p:Int→Bool)(f:FuncId)(xs ys:List PV)(hl:l.length<4294967296)(hne:0<l.length)(hx:PV.allF xs=true)(hy:PV.allF ys=true)(hcf:∀cs w,(callFunc f cs).run prog w=.ok (.enter f cs) w)
  (hp:∀a∈l,zaj prog f (xs++[.int .i64 a]++ys) fun r=>r=.bool (p a)) (i:Nat) (nl:Bool) (hg:vh.get i=some (.grow 1 (l.map (.int .i64)))):zbo prog 134 [.grow i l.length nl,.func f xs ys] vh fun v vh'=>vh'=vh.drop i∧v=ints (l.filter fun a=>!p a):=by
 obtain⟨a,r,hc⟩:∃a r,l=a::r:=by
  cases l with
  |nil=>simp at hne
  |cons a r=>exact⟨a,r,rfl⟩
 refine zbo.give (x0:=.arr false 1 (l.map (.int .i64))) hg (by rw[hc];rfl) ⟨rfl,⟨.int .i64 a,r.map (.int .i64),by rw[hc];rfl⟩,zh0 l⟩ (AltL.cons (.growS i 0 l.length nl 1 _ (by decide) rfl hg (by simp) hne) (AltL.cons (.same _ ?_) AltL.nil)) (p134 l p f xs ys hl hne hx hy hcf hp)
 simp only[PV.isF,hx,hy,Bool.and_self]
def Soft (r v:PV):Prop:=Alt zab.empty 0 (fun _=>true) id r v
theorem zaj.soft {P:Program}{f:FuncId}{args:List PV}{v:PV}(hp:zaj P f args fun r=>Soft r v)(hv:v.isF=true):zaj P f args fun r=>r=v:=hp.alt fun r h=>⟨v,h,hv,rfl⟩
theorem zwx {v:PV}(h:v.isF=true):Soft v v:=.same v h
theorem zwl {l l2:List PV}(h:AltL zab.empty 0 (fun _=>true) id l l2):Soft (.tup l) (.tup l2):=.tup' h
theorem zra {α:Type}(p:α→Bool):∀(l:List α) (k:Nat),(idxF p k l = -1∧l.find? p=none)∨∃i,∃h:i<l.length,idxF p k l=((k+i:Nat):Int)∧l.find? p=some l[i]
 |[],k=>.inl ⟨rfl,rfl⟩
 |a::r,k=>by
  simp only[idxF,List.find?_cons]
  cases hp:p a with
  |true=>exact .inr ⟨0,by simp,by simp,by simp⟩
  |false=>
   rcases zra p r (k+1) with⟨h1,h2⟩|⟨i,h1,h2,h3⟩
   ·exact .inl ⟨by simpa using h1,by simpa using h2⟩
   exact .inr ⟨i+1,by simp;omega,by simp;rw[h2];omega,by simpa using h3⟩
def zsq (s:List Wit)(id:Int):Int:=idxF (fun w=>decide (w.id=id)) 0 s
def getW (s:List Wit)(id:Int):Option Wit:=s.find? fun w=>decide (w.id=id)
theorem z0i {s:List Wit}{id:Int}(h:0≤zsq s id):∃i,∃h:i<s.length,zsq s id=(i:Int)∧getW s id=some s[i]:=by
 rcases zra (fun w:Wit=>decide (w.id=id)) s 0 with⟨h1,_⟩|⟨i,h1,h2,h3⟩
 ·unfold zsq at h;rw[h1] at h;omega
 exact⟨i,h1,by unfold zsq;rw[h2];simp,h3⟩
def zW:PV:=.agg [.int .i64 0,.int .i64 0,.sl0,.sl0,.sl0,.int .i64 0,.int .i64 0]
attribute [local simp] zW tup2
theorem zxd {s:List Wit}{id:Int}{c:Wit}(h:getW s id=some c):c∈s∧c.id=id:=by
 unfold getW at h
 exact⟨List.mem_of_find?_eq_some h,by simpa using List.find?_some h⟩
end Go.Am.Ds
end
section
namespace Go.Am.Ds
open Go Go.Am Go.Proofs Tryz
attribute [local simp] vrun zay zbm vop vopA zcn zab.back hidI hidF zd4 bm Nat.testBit_eq_decide_div_mod_eq za2 zbp zck vO zbj vlen zbv zb6 zev zau zap zcx vbox zbh zeq zcb zer zcw zaw zcy zax zc0 zbi zcz zbu zbq vbnd zdh vidx zbr zee zav zbx zde zeh zfd zfa vbin vsc vsc1 vscs vscl zb8 aint zca zef zbb zdb zex pvcV pvc pvcs tput tget zdx zab.get zab.alloc zab.put zab.drop zab.empty zce vput zei zbd zcf zdu chunk List.range List.range.loop za7 zb2 za8 frz frzL PV.isF PV.allF PV.scal PV.allS retP subT zem PV.one PV.ids PV.idsL zcj beq_eq zb9 zcc
attribute [local simp] zW tup2
def idsS (s:List Wit):List Int:=(s.map Wit.id).mergeSort fun x y=>decide (x≤y)
def ariS (c p:Wit):List Int:=c.slips.filter fun n=>!decide (n∈setK [p.slips])
theorem zkh {s:List Wit}{id:Int}:id∈idsS s↔∃w∈s,w.id=id:=by
 unfold idsS
 rw[(List.mergeSort_perm _ _).mem_iff,List.mem_map]
theorem zkd (s:List Wit):(idsS s).length=s.length:=by unfold idsS;simp
theorem z3t {s:List Wit}{id:Int}(h:id∈idsS s):0≤zsq s id:=by
 obtain⟨w,h1,h2⟩:=zkh.1 h
 rcases zra (fun w:Wit=>decide (w.id=id)) s 0 with⟨_,h3⟩|⟨i,_,h3,_⟩
 ·have:=List.find?_eq_none.1 h3 w h1
  simp[h2] at this
 unfold zsq;rw[h3];omega
theorem p99' (s:List Wit)(hl:s.length<4294967296):zaj prog 99 [encS s] fun r=>r=ints (idsS s):=p99 s hl
end Go.Am.Ds
end
