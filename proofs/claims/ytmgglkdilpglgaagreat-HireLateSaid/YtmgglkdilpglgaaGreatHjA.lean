/-
 What is used in the proof of a statement (part HjA); no condition.
-/
import Derived.Test.YtmgglkdilpglgaaGreatHiZ
import Derived.Test.YtmgglkdilpglgaaGreatVm2
import Derived.Test.YtmgglkdilpglgaaGreatHiT
import Derived.Test.YtmgglkdilpglgaaGreatHiA
set_option linter.all false
set_option maxHeartbeats 40000000
set_option maxRecDepth 100000
section
namespace Go.Am.Hi
open Go Go.Am Go.Proofs Tryz
attribute [local simp] vrun zbg zc6 vop vopA zc7 zab.back hidI hidF zgd bm Nat.testBit_eq_decide_div_mod_eq za1 zca zeg vO zcv vlen zdw zcz zjh zbo zbb zfu vbox zcw ziq zet zh4 zfr zbz zfs zb0 zft zcu zfx zdx zc8 vbnd zfa vidx zd1 zh1 zbt zd0 zfv zhu zjr zj2 vbin vsc vsc1 vscs vscl zdh aint zfj zhf zcd zew zjf pvcV pvc pvcs tput tget zc5 zab.get zab.alloc zab.put zab.drop zab.empty zbl vput zhp zbj zc4 zgg chunk List.range List.range.loop zbd zef zbn frz frzL PV.isF PV.allF PV.scal PV.allS retP subT zil PV.one PV.ids PV.idsL ze8 beq_eq zdn zed
def encM (ws:List (List Int)):PV:=.agg [.vec (ws.map ints)]
@[simp] theorem z4r (ws:List (List Int)):(encM ws).cells=[.vec (ws.map ints)]:=rfl
@[simp] theorem xbc (ws:List (List Int)):(encM ws).isF=true:=rfl
theorem p133 (l:List Int)(p:Int→Bool)(f:FuncId)(xs ys:List PV)(hl:l.length<17592186043905)(hx:PV.allF xs=true)(hy:PV.allF ys=true)(hcf:∀cs w,(callFunc f cs).run prog w=.ok (.enter f cs) w)(hp:∀a∈l,zao prog f (xs++[.int .i64 a]++ys) fun r=>r=.bool (p a)):zao prog 133 [ints l,.func f xs ys] fun r=>r=.int .i64 (idxF p 0 l):=by
 refine .zag func133 rfl rfl ?_
 refine .sr ?_
 refine .seq (.sr ?_)
 refine .block ?_
 refine .zb5 (fun s:Nat=>([(0,ints l),(1,.func f xs ys),(7,.int .i64 l.length),(8,.int .i64 s)],zab.empty)) (fun s=>s≤l.length∧idxF p s (l.drop s)=idxF p 0 l) (fun s=>l.length - s) 0 ⟨by simp,by simp⟩ (.pure (by simp[*]) (by simp)) ?_
 rintro i ⟨hi,hr⟩
 simp only at hi hr ⊢
 refine .sr ?_
 refine .seq ?_
 refine .cs ?_ ?_<;>intro c9
 ·try simp at c9
  have hw2:=wr1 i
  rw[zg7 p l i c9] at hr
  have hp:=hp l[i] (List.getElem_mem c9)
  refine .skip (.seq (.block (.sr ?_)))
  refine .seq ?_
  refine .zac [0,1,2,3,4,5] rfl zz0 ?_
  refine .rn [0,1,2,3,4] _ ?_
  refine .step rfl rfl (.pure rfl rfl rfl hcf (by decide) (hp) (by first|rfl|simp[*]) ?_)
  rintro _ rfl
  refine .done ?_
  refine .cs ?_ ?_<;>intro c16
  ·try simp at c16
   refine .sr ?_
   refine .ret ?_
   refine⟨_,_,zz2,zz2,?_⟩
   rw[← hr,if_pos c16]
  try simp at c16
  refine .skip (.rn ?_)
  refine⟨i+1,⟨zz3,?_⟩,zz3,.pure (by simp[*]) (by simp)⟩
  rw[← hr,if_neg (by simp[c16])]
 try simp at c9
 have:i=l.length:=by omega
 refine .exit (.sr ?_)
 refine .ret ?_
 refine⟨_,_,zz2,zz2,?_⟩
 rw[← hr,this,List.drop_length];rfl
theorem p71 (l:List Int)(p:Int→Bool)(f:FuncId)(xs ys:List PV)(hl:l.length<17592186043905)(hx:PV.allF xs=true)(hy:PV.allF ys=true)(hcf:∀cs w,(callFunc f cs).run prog w=.ok (.enter f cs) w)(hp:∀a∈l,zao prog f (xs++[.int .i64 a]++ys) fun r=>r=.bool (p a)):zao prog 71 [ints l,.func f xs ys] fun r=>r=.bool (l.any p):=by
 refine .zag func71 rfl rfl ?_
 refine .sr ?_
 refine .seq ?_
 refine .zac [0,1,2,3,4] rfl zz0 ?_
 refine .rn [0,1] _ ?_
 refine .pc rfl rfl rfl rfl rfl call133 (p133 l p f xs ys hl hx hy hcf hp) ?_
 refine .rn [3,4] [] ?_
 refine .done (.ret ?_)
 refine⟨_,_,zz2,zz2,?_⟩
 rw[← zuz _ l 0]
def AdjF (l:List Int)(k:Nat):Prop:=∀i,i+1<k→l[i]?≠l[i+1]?
theorem AdjF.mono {l:List Int}{k n:Nat}(h:AdjF l k)(hn:n≤k):AdjF l n:=fun i hi=>h i (by omega)
def AdjE (l:List Int):Prop:=∃i,i+1<l.length∧l[i]?=l[i+1]?
theorem zvf {l:List Int}(h:AdjF (l.mergeSort fun x y=>decide (x≤y)) (l.mergeSort fun x y=>decide (x≤y)).length):l.Nodup:=by
 have hs:(l.mergeSort fun x y=>decide (x≤y)).Pairwise fun x y=>decide (x≤y)=true:=List.pairwise_mergeSort (fun a b c h1 h2=>by simp at h1 h2 ⊢;omega) (fun a b=>by simp;omega) l
 obtain⟨z,hz⟩:∃z,(l.mergeSort fun x y=>decide (x≤y))=z:=⟨_,rfl⟩
 rw[hz] at h hs
 have hp:z.Perm l:=by rw[← hz];exact List.mergeSort_perm l _
 refine hp.nodup_iff.1 (List.pairwise_iff_getElem.2 fun i j hi hj hlt he=>?_)
 have hs':=List.pairwise_iff_getElem.1 hs
 have h1:=h i (by omega)
 rw[List.getElem?_eq_getElem hi,List.getElem?_eq_getElem (show i+1<z.length by omega)] at h1
 have h2:=hs' i (i+1) hi (by omega) (by omega)
 have h1:z[i]≠z[i+1]:=fun h=>h1 (by rw[h])
 simp at h2
 rcases Nat.lt_or_ge (i+1) j with h3|h3
 ·have h4:=hs' (i+1) j (by omega) hj h3
  simp at h4
  omega
 have:i+1=j:=by omega
 subst this
 exact h1 he
theorem zv7 {l:List Int}(h:AdjE (l.mergeSort fun x y=>decide (x≤y))):¬l.Nodup:=fun hn=>by
 have hp:(l.mergeSort fun x y=>decide (x≤y)).Perm l:=List.mergeSort_perm l _
 have hz:=hp.nodup_iff.2 hn
 obtain⟨i,h1,h2⟩:=h
 rw[List.getElem?_eq_getElem (by omega),List.getElem?_eq_getElem h1] at h2
 injection h2 with h2
 exact(List.pairwise_iff_getElem.1 hz) i (i+1) (by omega) h1 (by omega) h2
theorem zny (l:List Int)(k:Nat)(h:k<l.length):(l.take (k+1)).map (PV.int .i64)=(l.take k).map (PV.int .i64)++[.int .i64 l[k]]:=by
 rw[List.take_succ_eq_append_getElem h,List.map_append];rfl
@[simp] theorem z0b (l:List Int):List.take l.length (l.map (PV.int .i64))=l.map (PV.int .i64):=List.take_of_length_le (by rw[List.length_map];exact Nat.le_refl _)
@[simp] theorem z1f (l:List Int):l.all (PV.one∘PV.int .i64)=true:=by simp[PV.one]
theorem zmo {cs:List Int}{l:List PV}(h:∀x∈l,x∈cs.map (PV.int .i64)):l.all PV.one=true:=by
 rw[List.all_eq_true]
 intro x hx
 obtain⟨y,_,rfl⟩:=List.mem_map.1 (h x hx)
 rfl
def CmpR (l:List Int)(v:PV):Prop:=∃xs:List Int,v=ints xs∧((xs.length=l.length∧AdjF l l.length)∨(xs.length<l.length∧AdjE l))
theorem p161 (l:List Int)(hl:l.length<17592186043905):zar prog 161 [.sl0,.func 135 [] [.vp [ints l]]] zab.empty fun v vh'=>∃i nl,v=.grow i l.length nl∧vh'.get i=some (.grow 1 (l.map (.int .i64))):=by
 refine .zag func161 rfl rfl ?_
 refine .sr ?_
 refine .seq (.sr ?_)
 refine .block ?_
 refine .rangeFunc rfl call135 func135 rfl rfl rfl ?_
 refine .sr ?_
 refine .block ?_
 refine .zb5 (fun k:Nat=>([(0,.yld 1),(5,ints l),(6,.int .i64 l.length),(7,.int .i64 k)],⟨3,[(2,.grow 1 ((l.take k).map (.int .i64))),(1,.loop 13 #[7] _ _ [(2,.ptr 0 0)] none),(0,.box [.grow 2 k true])]⟩)) (fun k=>k≤l.length) (fun k=>l.length - k) 0 (by simp) (.mk [] [] zz8 zz9 rfl rfl rfl) ?_
 rintro k hk
 simp only at hk ⊢
 refine .sr ?_
 refine .seq ?_
 refine .cs ?_ ?_<;>intro c8
 ·try simp at c8
  have hw2:=wr1 k
  have hT:=zny l k c8
  have hb:k+1≤17592186044320:=by omega
  refine .skip (.seq (.block (.sr ?_)))
  refine .seq ?_
  refine .zac [0,1,2,3] rfl zz0 ?_
  refine .rn [0,1] _ ?_
  refine .step rfl rfl (.yield rfl rfl rfl rfl rfl (by decide) rfl ?_)
  refine .rn ?_
  refine .block (.rn ?_)
  change VOps _ _ _ _ _ _ _ _
  refine .rn [3] [] ?_
  refine .done (.zjd rfl (.skip (.rn ?_)))
  refine⟨k+1,zz3,zz3,(.mk [] [(2,4)] zz8 zz9 rfl rfl rfl)⟩
 try simp at c8
 have hkn:k=l.length:=by omega
 subst hkn
 refine .exit ?_
 change zo3 _ _ _ _
 refine zsl rfl ?_
 refine .sr ?_
 refine .ret ?_
 exact⟨_,zz2,2,true,rfl,by simp⟩
theorem p134 (l:List Int)(hl:l.length<17592186043905)(hne:0<l.length):zar prog 134 [.func 135 [] [.vp [ints l]]] zab.empty fun v vh'=>∃i nl,v=.grow i l.length nl∧vh'.get i=some (.grow 1 (l.map (.int .i64))):=by
 refine .zag func134 rfl rfl ?_
 refine .sr ?_
 refine .seq ?_
 refine .zac [0,1,2] rfl zz0 ?_
 refine .rn [0] _ ?_
 refine .step rfl rfl (.call rfl rfl rfl call161 (by decide) (((zar.fresh' (by simp) (p161 l hl) rfl hne)).mono ?_))
 rintro _ _ ⟨rfl,rfl⟩
 refine .rn [2] [] ?_
 refine .done (.ret ?_)
 exact⟨_,zz2,0,false,rfl,by simp⟩
theorem p73 (l:List Int)(hl:l.length<17592186043905)(hne:0<l.length):zar prog 73 [.func 135 [] [.vp [ints l]]] zab.empty fun v vh'=>∃i nl,v=.grow i l.length nl∧vh'.get i=some (.grow 1 ((l.mergeSort fun x y=>decide (x≤y)).map (.int .i64))):=by
 refine .zag func73 rfl rfl ?_
 refine .sr ?_
 refine .seq ?_
 refine .zac [0,1,2] rfl zz0 ?_
 refine .rn [0] _ ?_
 refine .step rfl rfl (.call rfl rfl rfl call134 (by decide) (((zar.fresh' (by simp) (p134 l hl hne) rfl hne)).mono ?_))
 rintro _ _ ⟨rfl,rfl⟩
 refine .rn [2] [] ?_
 refine .done (.seq ?_)
 refine .zac [0,1] rfl zz0 ?_
 refine .rn [0] _ ?_
 refine .step rfl rfl (.call rfl rfl rfl call98 (by decide) (((zar.ztv (zs:=l) z2t (by simp) (by simp))).mono ?_))
 rintro _ _ ⟨rfl,rfl⟩
 refine .done (.sr ?_)
 refine .ret ?_
 exact⟨_,zz2,0,false,rfl,by simp⟩
theorem p74 (l:List Int):zao prog 74 [ints l] fun r=>r=.func 135 [] [.vp [ints l]]:=by
 refine .zag func74 rfl rfl ?_
 refine .sr ?_
 refine .sr ?_
 refine .ret ?_
 refine⟨_,_,zz2,zz2,?_⟩
 first|rfl|(simp[*];done)|(simp_all;done)
theorem p72 (l:List Int)(hl:l.length<17592186043905)(hne:0<l.length):zar prog 72 [.sub 0 0 l.length] ⟨1,[(0,.arr false 1 (l.map (.int .i64)))]⟩ fun r _=>r.isF=true∧CmpR l r:=by
 have hne0:¬l=[]:=by rintro rfl;simp at hne
 refine .ztu func72 rfl rfl ?_
 refine .sr ?_
 refine .seq (.sr ?_)
 refine .cs ?_ ?_<;>intro c8
 ·try simp at c8
  refine .sr ?_
  refine .ret ?_
  refine⟨_,ints l,zz2,(by simp[ints,hne0]),?_⟩
  exact⟨l,rfl,.inl ⟨rfl,fun i hi=>by omega⟩⟩
 try simp at c8
 refine .skip (.seq (.sr ?_))
 refine .block ?_
 refine .zb5 (fun k:Nat=>([(0,.sub 0 0 l.length),(3,.int .i64 k)],⟨1,[(0,.arr false 1 (l.map (.int .i64)))]⟩)) (fun k=>1≤k∧k≤l.length∧AdjF l k) (fun k=>l.length - k) 1 ⟨Nat.le_refl _,hne,fun i hi=>by omega⟩ (.mk [] [] zz8 zz9 rfl rfl rfl) ?_
 rintro k ⟨h1,hk,hA⟩
 simp only at h1 hk hA ⊢
 refine .seq (.sr ?_)
 refine .cs ?_ ?_<;>intro c13
 ·try simp at c13
  have hw2:=wr1 k
  have hw3:IntKind.i64.wrap ((k:Int) - 1)=((k - 1:Nat):Int):=by rw[wrap64 (by omega) (by omega)];omega
  have hk1:k - 1<l.length:=by omega
  have g1:l[k]?=some l[k]:=List.getElem?_eq_getElem c13
  have g2:l[k - 1]?=some l[k - 1]:=List.getElem?_eq_getElem hk1
  refine .skip (.seq (.block (.seq ?_)))
  refine .drawn (ms:=[0,0,3,7,0,0,32,112,240,511]) (W:=[]) (items:=[.op 0,.op 1,.op 2,.op 3,.op 4,.op 5,.op 6,.op 7,.op 8,.op 9]) rfl zz0 zz0 zz0 ?_
  iterate 10 refine .rx ?_
  refine .done ?_
  refine .cs ?_ ?_<;>intro c25
  ·try simp at c25
   have hkn:¬l.length=k:=by omega
   refine .sr ?_
   refine .seq (.sr ?_)
   refine .block ?_
   refine .zb5 (fun st:Nat×Nat×List Int=>([(0,.sub 0 0 l.length),(3,.int .i64 st.1),(4,.sub 0 k (l.length - k)),(5,.int .i64 st.2.1)],⟨1,[(0,.arr false 1 (st.2.2.map (.int .i64)))]⟩)) (fun st=>k≤st.1∧1≤st.2.1∧st.1+1≤k+st.2.1∧k+st.2.1≤l.length∧st.2.2.length=l.length) (fun st=>l.length - st.2.1) (k,1,l) ⟨Nat.le_refl _,Nat.le_refl _,Nat.le_refl _,c13,rfl⟩ (.mk [] [] zz8 zz9 rfl rfl rfl) ?_
   rintro⟨a,b,cs⟩ ⟨i0,i1,i2,i3,i4⟩
   simp only at i0 i1 i2 i3 i4 ⊢
   refine .seq (.sr ?_)
   refine .cs ?_ ?_<;>intro c32
   ·try simp at c32
    have hb1:k+b<cs.length:=by omega
    have hb2:k+b - 1<cs.length:=by omega
    have ha1:a<cs.length:=by omega
    have hal:a<l.length:=by omega
    have hbl:b<l.length - k:=by omega
    have gb1:cs[k+b]?=some cs[k+b]:=List.getElem?_eq_getElem hb1
    have gb2:cs[k+(b - 1)]?=some cs[k+b - 1]:=by rw[show k+(b - 1)=k+b - 1 by omega];exact List.getElem?_eq_getElem hb2
    have hw4:=wr1 b
    have hw5:IntKind.i64.wrap ((b:Int) - 1)=((b - 1:Nat):Int):=by rw[wrap64 (by omega) (by omega)];omega
    have hw6:=wr1 a
    have ha2:a+1≤l.length:=hal
    have hb3:b - 1<l.length - k:=by omega
    refine .skip (.seq (.block (.seq ?_)))
    refine .drawn (ms:=[0,0,3,7,0,0,32,112,240,511]) (W:=[]) (items:=[.op 0,.op 1,.op 2,.op 3,.op 4,.op 5,.op 6,.op 7,.op 8,.op 9]) rfl zz0 zz0 zz0 ?_
    iterate 10 refine .rx ?_
    refine .done ?_
    refine .cs ?_ ?_<;>intro c44
    ·try simp at c44
     refine .sr ?_
     refine .rn ?_
     refine .rn ?_
     refine⟨(a+1,b+1,cs.set a cs[k+b]),⟨by simp;omega,by simp,by simp;omega,by simp;omega,by simp[i4]⟩,by simp;omega,.mk [] [] zz8 ⟨⟨xf0 rfl,Or.inr ⟨rfl,_,rfl,?_⟩⟩,trivial⟩ rfl rfl rfl⟩
     refine congrArg (VObj.arr _ _) ?_
     rw[List.set_eq_take_append_cons_drop,if_pos ha1]
     simp
    try simp at c44
    refine .skip (.rn ?_)
    refine⟨(a,b+1,cs),⟨i0,by simp,by simp;omega,by simp;omega,i4⟩,by simp;omega,(.mk [] [] zz8 zz9 rfl rfl rfl)⟩
   try simp at c32
   obtain⟨m,hm⟩:∃m,l.length - a=m+1:=⟨l.length - a - 1,by omega⟩
   have hal:a≤l.length:=by omega
   have hin:¬l.length=a:=by omega
   have him:a+(m+1)≤l.length:=by omega
   have e2:((cs.map (PV.int .i64)).take a).all PV.one=true:=zmo fun x hx=>List.mem_of_mem_take hx
   have e3:((cs.map (PV.int .i64)).drop (a+(m+1))).all PV.one=true:=zmo fun x hx=>List.mem_of_mem_drop hx
   refine .exit (.sr ?_)
   refine .sr ?_
   refine .ret ?_
   refine⟨_,ints (cs.take a),zz2,?_,?_⟩
   ·have hi:¬a=0:=by omega
    have e4:∀X:List PV,List.take a (List.take a (cs.map (PV.int .i64))++X)=List.take a (cs.map (PV.int .i64)):=fun X=>List.take_left' (by rw[List.length_take,List.length_map];omega)
    simp[ints,List.map_take, *]
   refine⟨cs.take a,rfl,.inr ⟨by rw[List.length_take];omega,k - 1,by omega,by rw[show k - 1+1=k by omega,g1,g2,c25]⟩⟩
  try simp at c25
  refine .skip (.rn ?_)
  refine⟨k+1,⟨by omega,by omega,fun i hi=>?_⟩,zz3,(.mk [] [] zz8 zz9 rfl rfl rfl)⟩
  by_cases h:i+1=k
  ·have:i=k - 1:=by omega
   subst this
   rw[show k - 1+1=k by omega,g1,g2]
   intro he
   injection he with he
   exact c25 he.symm
  exact hA i (by omega)
 try simp at c13
 refine .exit (.sr ?_)
 refine .ret ?_
 refine⟨_,ints l,zz2,(by simp[ints,hne0]),?_⟩
 exact⟨l,rfl,.inl ⟨rfl,hA.mono (by omega)⟩⟩
theorem z7d {vh:zab}(l:List Int)(hl:l.length<17592186043905)(hne:0<l.length)(i:Nat)(nl:Bool)(hg:vh.get i=some (.grow 1 ((l.mergeSort fun x y=>decide (x≤y)).map (.int .i64)))) :
  zar prog 72 [.grow i l.length nl] vh fun v vh'=>vh'=vh.drop i∧CmpR (l.mergeSort fun x y=>decide (x≤y)) v:=by
 obtain⟨z,hz⟩:∃z,(l.mergeSort fun x y=>decide (x≤y))=z:=⟨_,rfl⟩
 have hzl:z.length=l.length:=by rw[← hz,List.length_mergeSort]
 rw[hz] at hg ⊢
 rw[← hzl] at hl hne ⊢
 obtain⟨a,r,hc⟩:∃a r,z=a::r:=by
  cases z with
  |nil=>simp at hne
  |cons a r=>exact⟨a,r,rfl⟩
 refine zar.give (x0:=.arr false 1 (z.map (.int .i64))) hg (by rw[hc];rfl) ⟨rfl,⟨.int .i64 a,r.map (.int .i64),by rw[hc];rfl⟩,zeh z⟩ (AltL.cons (.growS i 0 z.length nl 1 _ (by decide) rfl hg (by simp) hne) AltL.nil) (p72 z hl hne)
end Go.Am.Hi
end
