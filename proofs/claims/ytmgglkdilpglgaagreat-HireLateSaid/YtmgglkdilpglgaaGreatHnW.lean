/-
 What is used in the proof of a statement (part HnW); no condition.
-/
import Derived.Test.YtmgglkdilpglgaaGreatHiZ
import Derived.Test.YtmgglkdilpglgaaGreatVm2
import Derived.Test.YtmgglkdilpglgaaGreatHiT
import Derived.Test.YtmgglkdilpglgaaGreatHmC
import Derived.Test.YtmgglkdilpglgaaGreatHmA
set_option linter.all false
set_option maxHeartbeats 40000000
set_option maxRecDepth 100000
section
namespace Go.Am.Hi
open Go Go.Am Go.Proofs Tryz
attribute [local simp] vrun zbg zc6 vop vopA zc7 zab.back hidI hidF zgd bm Nat.testBit_eq_decide_div_mod_eq za1 zca zeg vO zcv vlen zdw zcz zjh zbo zbb zfu vbox zcw ziq zet zh4 zfr zbz zfs zb0 zft zcu zfx zdx zc8 vbnd zfa vidx zd1 zh1 zbt zd0 zfv zhu zjr zj2 vbin vsc vsc1 vscs vscl zdh aint zfj zhf zcd zew zjf pvcV pvc pvcs tput tget zc5 zab.get zab.alloc zab.put zab.drop zab.empty zbl vput zhp zbj zc4 zgg chunk List.range List.range.loop zbd zef zbn frz frzL PV.isF PV.allF PV.scal PV.allS retP subT zil PV.one PV.ids PV.idsL ze8 beq_eq zdn zed
attribute [local simp] zax zat zaz
def zdc (D:Dk)(ps:List Int)(s:Int)(is:Int→Bool):Bool:=(ps.all fun p=>!decide (s∈D.line p)||(match alk D.y p with|some b=>is b|none=>false))&&((ps.any fun p=>decide (s∈D.line p))&&(alk D.x s).isSome)
theorem zg0 {D:Dk}{ps:List Int}{s:Int}{is:Int→Bool}:zdc D ps s is=true↔(∀p∈ps,s∈D.line p→∃b,alk D.y p=some b∧is b=true)∧(∃p∈ps,s∈D.line p)∧∃u,alk D.x s=some u:=by
 unfold zdc
 rw[xf3,xf3,List.all_eq_true,List.any_eq_true,Option.isSome_iff_exists]
 refine and_congr ⟨fun h p hp hm=>?_,fun h p hp=>?_⟩ (and_congr ⟨fun⟨p,hp,hm⟩=>⟨p,hp,by simpa using hm⟩,fun⟨p,hp,hm⟩=>⟨p,hp,by simpa using hm⟩⟩ Iff.rfl)
 ·have:=h p hp
  simp only[hm,decide_true,Bool.not_true,Bool.false_or] at this
  cases hb:alk D.y p with
  |none=>rw[hb] at this;cases this
  |some b=>rw[hb] at this;exact⟨b,rfl,this⟩
 by_cases hm:s∈D.line p
 ·obtain⟨b,hb,hi⟩:=h p hp hm
  simp[hb,hi]
 simp[hm]
theorem zuy {D:Dk}{ps:List Int}{s:Int}{is:Int→Bool}{p:Int}(hp:p∈ps)(hm:s∈D.line p)(hn:∀b,alk D.y p=some b→is b=false):zdc D ps s is=false:=by
 cases h:zdc D ps s is with
 |false=>rfl
 |true=>
  obtain⟨b,hb,hi⟩:=(zg0.1 h).1 p hp hm
  rw[hn b hb] at hi;cases hi
theorem zxi {D:Dk}{ps:List Int}{s:Int}{is:Int→Bool}(h:∀p∈ps,s∈D.line p→∃b,alk D.y p=some b∧is b=true):zdc D ps s is=((ps.any fun p=>decide (s∈D.line p))&&(alk D.x s).isSome):=by
 unfold zdc
 rw[show (ps.all fun p=>!decide (s∈D.line p)||(match alk D.y p with|some b=>is b|none=>false))=true from ?_,Bool.true_and]
 rw[List.all_eq_true]
 intro p hp
 by_cases hm:s∈D.line p
 ·obtain⟨b,hb,hi⟩:=h p hp hm
  simp[hb,hi]
 simp[hm]
theorem p123 (D:Dk)(s:Int):zao prog 123 [dkD D,.int .i64 s] fun r=>r=.bool (alk D.x s).isSome:=by
 refine .zag func123 rfl rfl ?_
 refine .sr ?_
 refine .seq ?_
 refine .zac [0,1,2,3,4,5,6,7,8] rfl zz0 ?_
 refine .rn [0,1] _ ?_
 refine .pc rfl rfl rfl rfl rfl call158 (p158 D.d s D.x D.y D.q) ?_
 refine .rn [3,4,5,6,7,8] [] ?_
 refine .done (.sr ?_)
 refine .ret ?_
 refine⟨_,_,zz2,zz2,?_⟩
 first|rfl|(simp[*];done)|(simp_all;done)
theorem p127 (D:Dk)(R:Reg)(s:Int)(is:Int→Bool)(f:FuncId)(xs ys:List PV)(hl:R.ps.length<4294967296)(hq:∀p l,alk D.q p=some l→l.length<4294967296)(hx:PV.allF xs=true)(hy:PV.allF ys=true)(hcf:∀cs w,(callFunc f cs).run prog w=.ok (.enter f cs) w)(hp:∀n,zao prog f (xs++[.int .i64 n]++ys) fun r=>r=.bool (is n)):zao prog 127 [dkD D,encR R,.int .i64 s,.func f xs ys] fun r=>r=.bool (zdc D R.ps s is):=by
 unfold encR
 have hdk:dkD D=.vp [.int .i64 D.d,.vmap (mpG zah D.x),.vmap (mpG (PV.int .i64) D.y),.vmap (mpG ints D.q)]:=rfl
 refine .zag func127 rfl rfl ?_
 refine .sr ?_
 refine .sr ?_
 refine .seq (.sr ?_)
 refine .block ?_
 refine .zb5 (fun k:Nat=>([(0,dkD D),(2,.int .i64 s),(3,.func f xs ys),(9,.bool ((R.ps.take k).any fun p=>decide (s∈D.line p))),(15,ints R.ps),(16,.int .i64 R.ps.length),(17,.int .i64 k)],⟨0,[]⟩)) (fun k=>k≤R.ps.length∧∀p∈R.ps.take k,s∈D.line p→∃b,alk D.y p=some b∧is b=true) (fun k=>R.ps.length - k) 0 ⟨by simp,by simp⟩ (.mk [] [] zz8 zz9 rfl rfl rfl) ?_
 rintro k ⟨hk,hr⟩
 simp only at hk hr ⊢
 refine .sr ?_
 refine .seq ?_
 refine .cs ?_ ?_<;>intro c18
 ·try simp at c18
  have hw2:=wr1 k
  obtain⟨p,hpe⟩:∃p,R.ps[k]=p:=⟨_,rfl⟩
  have hpm:p∈R.ps:=hpe▸List.getElem_mem c18
  have htk:R.ps.take (k+1)=R.ps.take k++[p]:=by rw[List.take_succ_eq_append_getElem c18,hpe]
  obtain⟨o,ho⟩:∃o,alk D.y p=o:=⟨_,rfl⟩
  refine .skip (.seq (.block (.sr ?_)))
  refine .seq (.seq ?_)
  refine .zac [0,1,2,3,4] rfl zz0 ?_
  refine .rn [0,1,2] _ ?_
  refine .pc rfl rfl rfl rfl rfl call160 (p160 D.d s p D.x D.y D.q (hq p)) ?_
  have hln:(alk D.q p).getD []=D.line p:=rfl
  rw[hln]
  refine .rn [4] [] ?_
  refine .done ?_
  refine .cs ?_ ?_<;>intro c25
  ·try simp at c25
   refine .exit (.rn ?_)
   refine⟨k+1,⟨zz3,fun p' hp'=>?_⟩,zz3,(.mk [] [] zz8 zz9 rfl rfl rfl)⟩
   rw[htk] at hp'
   rcases List.mem_append.1 hp' with h|h
   ·exact hr p' h
   have:p'=p:=by simpa using h
   subst this;exact fun hm=>absurd hm c25
  try simp at c25
  rcases o with _|b
  ·skip
   refine .skip (.sr ?_)
   refine .sr ?_
   refine .seq ?_
   refine .zac [0,1,2,3,4,5,6,7] rfl zz0 ?_
   refine .rn [0,1,2] _ ?_
   refine .split (t:=37) rfl (fun c37=>?_) (fun c37=>?_)
   ·try rw[c37]
    try simp at c37
    refine .rn [3,4,5,6,7] [] ?_
    refine .done (.zgb rfl (.sr ?_))
    refine .ret ?_
    refine⟨_,_,zz2,zz2,?_⟩
    exact congrArg PV.bool (zuy hpm c25 fun b hb=>by rw[ho] at hb;cases hb).symm
   try rw[c37]
   try simp at c37
  skip
  refine .skip (.sr ?_)
  refine .sr ?_
  refine .seq ?_
  refine .zac [0,1,2,3,4,5,6,7] rfl zz0 ?_
  refine .rn [0,1,2] _ ?_
  refine .split (t:=37) rfl (fun c37=>?_) (fun c37=>?_)
  ·try rw[c37]
   try simp at c37
  try rw[c37]
  try simp at c37
  refine .rn [3,4] _ ?_
  refine .step rfl rfl (.pure rfl rfl rfl hcf (by decide) (hp b) (by first|rfl|simp[*]) ?_)
  rintro _ rfl
  refine .rn [6,7] [] ?_
  refine .done ?_
  refine .cs ?_ ?_<;>intro c42
  ·try simp at c42
   refine .sr ?_
   refine .ret ?_
   refine⟨_,_,zz2,zz2,?_⟩
   exact congrArg PV.bool (zuy hpm c25 fun b' hb=>by rw[ho] at hb;injection hb with hb;subst hb;simpa using c42).symm
  try simp at c42
  refine .skip (.rn ?_)
  refine⟨k+1,⟨zz3,fun p' hp'=>?_⟩,zz3,(.mk [] [] zz8 zz9 rfl rfl rfl)⟩
  rw[htk] at hp'
  rcases List.mem_append.1 hp' with h|h
  ·exact hr p' h
  have:p'=p:=by simpa using h
  subst this;exact fun _=>⟨b,ho,by simpa using c42⟩
 try simp at c18
 have hkn:k=R.ps.length:=by omega
 rw[hkn,List.take_length] at hr
 have hE:=zxi hr
 refine .exit (.seq ?_)
 refine .zac [0,1,2,3,4,5,6] rfl zz0 ?_
 refine .rn [0,1] _ ?_
 refine .split (t:=45) rfl (fun c45=>?_) (fun c45=>?_)
 ·try rw[c45]
  try simp at c45
  refine .rn [2,3] _ ?_
  refine .pc rfl rfl rfl rfl rfl call123 (p123 D s) ?_
  refine .rn [5,6] [] ?_
  refine .done (.ret ?_)
  refine⟨_,_,zz2,zz2,?_⟩
  rw[hE];simp_all
 try rw[c45]
 try simp at c45
 refine .rn [2,3,4,5,6] [] ?_
 refine .done (.ret ?_)
 refine⟨_,_,zz2,zz2,?_⟩
 rw[hE];simp_all
theorem p93l (l:List Int)(p:Int→Bool)(f:FuncId)(xs ys:List PV)(hl:l.length<4294967296)(hne:0<l.length)(hx:PV.allF xs=true)(hy:PV.allF ys=true)(hcf:∀cs w,(callFunc f cs).run prog w=.ok (.enter f cs) w)(hp:∀a∈l,zao prog f (xs++[.int .i64 a]++ys) fun r=>r=.bool (p a)):zar prog 93 [.sub 0 0 l.length,.func f xs ys] ⟨1,[(0,.arr false 1 (l.map (.int .i64)))]⟩ fun v vh'=>∃m,∃cs:List Int,(v=.sub 0 0 m∨v=.vec []∧m=0)∧vh'.get 0=some (.arr false 1 (cs.map (.int .i64)))∧(cs.take m=(l.filter fun a=>!p a)∧m=(l.filter fun a=>!p a).length∧m≤cs.length):=by
 have hl0:¬l=[]:=by rintro rfl;simp at hne
 have hxz:∀vh,frzL vh xs=some xs:=fun vh=>zf9 vh hx
 have hyz:∀vh,frzL vh ys=some ys:=fun vh=>zf9 vh hy
 refine .zag func93 rfl rfl ?_
 refine .sr ?_
 refine .seq ?_
 refine .zac [0,1,2,3] rfl zz0 ?_
 refine .rn [0,1] _ ?_
 refine .step rfl rfl (.borrow rfl rfl rfl call133 (by decide) (by first|(simp<;>rfl)|(simp[*]<;>rfl)|(simp[*];done)) (p133 l p f xs ys (by omega) hx hy hcf hp) (by rintro _ rfl<;>first|(simp;done)|rfl) ?_)
 rintro _ rfl
 refine .rn [3] [] ?_
 refine .done (.seq (.sr ?_))
 refine .cs ?_ ?_<;>intro c12
 ·try simp at c12
  refine .sr ?_
  refine .ret ?_
  refine⟨_,zz2,l.length,l,.inl rfl,rfl,?_⟩
  rw[zl2 p l 0 c12,List.take_length]
  exact⟨rfl,rfl,Nat.le_refl _⟩
 try simp at c12
 obtain⟨i0,hi0,hie,hp0,hbef⟩:=zi2 p l 0 c12
 rw[Nat.zero_add] at hie
 have hw1:=wr1 i0
 refine .skip (.seq (.sr ?_))
 refine .block ?_
 refine .zb5 (fun st:Nat×Nat×List Int=>([(0,.sub 0 0 l.length),(1,.func f xs ys),(5,.int .i64 st.1),(6,.int .i64 st.2.1)],⟨1,[(0,.arr false 1 (st.2.2.map (.int .i64)))]⟩)) (fun st=>st.2.2.length=l.length∧st.1<st.2.1∧st.2.1≤l.length∧st.2.2.take st.1=(l.take st.2.1).filter (fun a=>!p a)∧st.2.2.drop st.2.1=l.drop st.2.1) (fun st=>l.length - st.2.1) (i0,i0+1,l) ⟨rfl,by simp,hi0,by rw[List.take_succ_eq_append_getElem hi0,List.filter_append,hbef];simp[hp0],rfl⟩ (.mk [] [] zz8 zz9 rfl rfl rfl) ?_
 rintro⟨i,j,cs⟩ ⟨hcl,hij,hjl,htk,hdr⟩
 simp only at hcl hij hjl htk hdr ⊢
 refine .seq (.sr ?_)
 refine .cs ?_ ?_<;>intro c19
 ·try simp at c19
  have hw2:=wr1 j
  have hw3:=wr1 i
  have hj:cs[j]?=some l[j]:=by rw[zjw hdr];simp[c19]
  have hjc:j<cs.length:=by omega
  have hcj:cs[j]=l[j]:=by rw[List.getElem?_eq_getElem hjc] at hj;injection hj
  have hil:i<l.length:=by omega
  have hi1:i+1≤l.length:=by omega
  have hp:=hp l[j] (List.getElem_mem c19)
  refine .skip (.seq (.block (.sr ?_)))
  refine .seq ?_
  refine .zac [0,1,2,3] rfl zz0 ?_
  refine .rn [0,1] _ ?_
  refine .step rfl rfl (.pure rfl rfl rfl hcf (by decide) (hp) (by first|rfl|simp[*]) ?_)
  rintro _ rfl
  refine .rn [3] [] ?_
  refine .done ?_
  refine .cs ?_ ?_<;>intro c29
  ·try simp at c29
   refine .sr ?_
   refine .rn ?_
   refine .rn ?_
   refine⟨(i+1,j+1,cs.set i l[j]),⟨by simp[hcl],by simp;omega,c19,?_,?_⟩,zz3,.mk [] [] zz8 ⟨⟨xf0 rfl,Or.inr ⟨rfl,_,rfl,?_⟩⟩,trivial⟩ rfl rfl rfl⟩
   ·simp only
    rw[List.take_succ_eq_append_getElem (by simp;omega),List.take_set_of_le (Nat.le_refl i),htk,List.take_succ_eq_append_getElem c19,List.filter_append]
    simp[c29]
   ·simp only
    rw[List.drop_set_of_lt (by omega)]
    exact zej hdr
   refine congrArg (VObj.arr _ _) ?_
   rw[List.set_eq_take_append_cons_drop,if_pos (by omega)]
   simp
  try simp at c29
  refine .skip (.rn ?_)
  refine⟨(i,j+1,cs),⟨hcl,by simp;omega,c19,?_,zej hdr⟩,zz3,(.mk [] [] zz8 zz9 rfl rfl rfl)⟩
  simp only
  rw[htk,List.take_succ_eq_append_getElem c19,List.filter_append]
  simp[c29]
 try simp at c19
 have hjn:j=l.length:=by omega
 obtain⟨m,hm⟩:∃m,l.length - i=m+1:=⟨l.length - i - 1,by omega⟩
 have hin:¬l.length=i:=by omega
 have hil:i≤l.length:=by omega
 have him:i+(m+1)≤l.length:=by omega
 refine .exit (.sr ?_)
 refine .sr ?_
 refine .ret ?_
 rw[hjn,List.take_length] at htk
 have e0:(l.filter fun a=>!p a).length=i:=by rw[← htk,List.length_take];omega
 have e1:(List.map (PV.int .i64) cs).take i=(cs.take i).map (.int .i64):=by rw[List.map_take]
 have hz:List.replicate (m+1) (PV.int .i64 0)=(List.replicate (m+1) (0:Int)).map (.int .i64):=by simp
 refine⟨_,zz2,i,cs.take i++List.replicate (m+1) 0++cs.drop (i+(m+1)),?_,?_,?_⟩
 ·by_cases hi0:i=0
  ·exact .inr ⟨by simp[hi0],hi0⟩
  exact .inl (by simp[hi0])
 ·simp
 refine⟨?_,e0.symm,by simp;omega⟩
 rw[List.append_assoc,List.take_left' (by rw[List.length_take];omega),htk]
end Go.Am.Hi
end
section
namespace Go.Am.Hi
open Go Go.Am Go.Proofs
structure zta (D:Dk) (ps:List Int) (L:List Int):Prop where
  sub:L.Sublist (zeo D.x)
  self:∀s∈L,zdc D ps s (fun n=>decide (n∈L))=true
  max:∀M:List Int,(∀s∈M,zdc D ps s (fun n=>decide (n∈M))=true)→∀s∈M,s∈L
structure zik (D:Dk) (ps:List Int) (L:List Int):Prop where
  sub:L.Sublist (zeo D.x)
  max:∀M:List Int,(∀s∈M,zdc D ps s (fun n=>decide (n∈M))=true)→∀s∈M,s∈L
theorem zox {D:Dk}{ps:List Int}{s:Int}{is is':Int→Bool}(h:∀n,is n=true→is' n=true)(hw:zdc D ps s is=true):zdc D ps s is'=true:=by
 rw[zg0] at hw ⊢
 exact⟨fun p hp hm=>let ⟨b,h1,h2⟩:=hw.1 p hp hm;⟨b,h1,h b h2⟩,hw.2⟩
theorem zik.start (D:Dk)(ps:List Int):zik D ps (zeo D.x):=by
 refine⟨List.Sublist.refl _,fun M hM s hs=>?_⟩
 obtain⟨u,hu⟩:=(zg0.1 (hM s hs)).2.2
 have:s∈D.x.map (·.1):=by
  rcases Classical.em (s∈D.x.map (·.1)) with h|h
  ·exact h
  rw[zho.2 h] at hu;cases hu
 exact(List.mergeSort_perm (D.x.map (·.1)) (fun x y=>decide (x≤y))).mem_iff.2 this
theorem zik.next {D:Dk}{ps L:List Int}(h:zik D ps L):zik D ps (L.filter fun s=>zdc D ps s (fun n=>decide (n∈L))):=by
 refine⟨List.filter_sublist.trans h.sub,fun M hM s hs=>List.mem_filter.2 ⟨h.max M hM s hs,?_⟩⟩
 refine zox (fun n hn=>?_) (hM s hs)
 have:n∈M:=by simpa using hn
 simpa using h.max M hM n this
theorem zik.fin {D:Dk}{ps L:List Int}(h:zik D ps L)(he:(L.filter fun s=>zdc D ps s (fun n=>decide (n∈L))).length=L.length):zta D ps L:=by
 refine⟨h.sub,fun s hs=>?_,h.max⟩
 have:(L.filter fun s=>zdc D ps s (fun n=>decide (n∈L)))=L:=List.filter_sublist.eq_of_length he
 rw[← this] at hs
 exact(List.mem_filter.1 hs).2
def stkB (D:Dk)(ps:List Int)(M:List Int):Prop:=M≠[]∧(∀i (h:i+1<M.length),M[i]'(by omega)<M[i+1])∧∀s∈M,zdc D ps s (fun n=>decide (n∈M))=true
theorem zuh {D:Dk}{n:Nat}(hN:NdX D n):(zeo D.x).Pairwise (·<·):=by
 have h1:(zeo D.x).Pairwise fun x y=>decide (x≤y)=true:=List.pairwise_mergeSort (fun a b c h1 h2=>by simp at h1 h2 ⊢;omega) (fun a b=>by simp;omega) _
 have h2:=zso hN
 refine List.pairwise_iff_getElem.2 fun i j hi hj hlt=>?_
 have a:=List.pairwise_iff_getElem.1 h1 i j hi hj hlt
 have b:=List.pairwise_iff_getElem.1 h2 i j hi hj hlt
 simp at a
 omega
end Go.Am.Hi
end
section
namespace Go.Am.Hi
open Go Go.Am Go.Proofs Tryz
attribute [local simp] vrun zbg zc6 vop vopA zc7 zab.back hidI hidF zgd bm Nat.testBit_eq_decide_div_mod_eq za1 zca zeg vO zcv vlen zdw zcz zjh zbo zbb zfu vbox zcw ziq zet zh4 zfr zbz zfs zb0 zft zcu zfx zdx zc8 vbnd zfa vidx zd1 zh1 zbt zd0 zfv zhu zjr zj2 vbin vsc vsc1 vscs vscl zdh aint zfj zhf zcd zew zjf pvcV pvc pvcs tput tget zc5 zab.get zab.alloc zab.put zab.drop zab.empty zbl vput zhp zbj zc4 zgg chunk List.range List.range.loop zbd zef zbn frz frzL PV.isF PV.allF PV.scal PV.allS retP subT zil PV.one PV.ids PV.idsL ze8 beq_eq zdn zed
attribute [local simp] zax zat zaz
theorem zzz (vh:zab)(i:Nat)(cs:List Int)(m:Nat)(hm:m≤cs.length)(hg:vh.get i=some (.arr false 1 (cs.map (.int .i64)))):zcz vh 1 (.sub i 0 m)=some ((cs.take m).map (.int .i64)):=by
 have h1:((cs.map (PV.int .i64)).take m).all PV.one=true:=by
  rw[List.all_eq_true];intro x hx
  obtain⟨y,_,rfl⟩:=List.mem_map.1 (List.mem_of_mem_take hx);rfl
 simp only[hg,zcz,beq_eq,zdn,List.drop_zero,chunk,xf2,List.length_map]
 simp[hm,h1,List.map_take]
theorem z1m (L:List Int)(x y:PV)(hx:x.isF=true)(hy:y.isF=true):AltS 0 (fun i=>[0].contains i) (rho []) (zc5 0 [.grow 2 L.length false,.func 126 [] [x,y,.ptr 1 0]]) ⟨3,[(2,.grow 1 (L.map (.int .i64))),(1,.box [.func 125 [] [.ptr 0 0]]),(0,.box [ints L])]⟩
  (zc5 0 [.grow 2 L.length false,.func 126 [] [x,y,.ptr 1 0]]) ⟨3,[(2,.grow 1 (L.map (.int .i64))),(1,.box [.func 125 [] [.vp [ints L]]])]⟩:=by
 refine zpj [0] [] ?_ ?_ rfl rfl rfl
 ·repeat' (first|exact trivial|refine And.intro (Exists.intro _ (And.intro rfl ?_)) ?_|exact Alt.grow _ _ _ _ (xf0 rfl) rfl|exact Alt.func' AltL.nil (AltL.cons (.same x hx) (AltL.cons (.same y hy) (AltL.cons (Alt.ptr _ _ _ (xf0 rfl) rfl) AltL.nil))))
 repeat' (first|exact trivial|refine And.intro (And.intro (xf0 rfl) (Or.inr (And.intro rfl (Exists.intro _ (And.intro rfl ?_))))) ?_|rfl|exact AltL.cons (Alt.func' AltL.nil (AltL.cons (Alt.fptr 0 0 _ rfl rfl rfl (Nat.zero_le _)) AltL.nil)) AltL.nil)
theorem z1x (L:List Int)(h0:0<L.length)(x y c:PV)(hx:x.isF=true)(hy:y.isF=true)(hc:c.isF=true):AltS 0 (fun i=>[1].contains i) (rho [(0,2)]) (zc5 0 [.grow 2 L.length false,.func 126 [] [x,y,.ptr 1 0]]) ⟨3,[(2,.grow 1 (L.map (.int .i64))),(1,.box [c])]⟩
  (zc5 0 [.sub 0 0 L.length,.func 126 [] [x,y,.vp [c]]]) ⟨1,[(0,.arr false 1 (L.map (.int .i64)))]⟩:=by
 obtain⟨a,r,hcr⟩:∃a r,L=a::r:=by
  cases L with
  |nil=>simp at h0
  |cons a r=>exact⟨a,r,rfl⟩
 refine zpj [1] [(0,2)] ?_ ?_ rfl rfl rfl
 ·repeat' (first|exact trivial|refine And.intro (Exists.intro _ (And.intro rfl ?_)) ?_|exact Alt.growS 2 0 L.length false 1 _ Nat.zero_lt_one rfl rfl (by simp) h0|exact Alt.func' AltL.nil (AltL.cons (.same x hx) (AltL.cons (.same y hy) (AltL.cons (Alt.fptr 1 0 [c] rfl rfl (by simp[PV.allF,hc]) (Nat.zero_le _)) AltL.nil))))
 exact⟨⟨xf0 rfl,Or.inr ⟨rfl,_,rfl,⟨rfl,⟨.int .i64 a,r.map (.int .i64),by rw[hcr];rfl⟩,zeh L⟩⟩⟩,trivial⟩
theorem zrh (L:List Int)(h0:0<L.length):(VObj.grow 1 (L.map (.int .i64))).live=true:=by
 cases L with
 |nil=>simp at h0
 |cons a r=>rfl
theorem ztb {vh:zab}{n2:Nat}{D:Nat→Bool}{ρ:Nat→Nat}(i:Nat)(cs:List Int)(m:Nat)(hm:m≤cs.length)(hD:D i=true)(hg:vh.get i=some (.arr false 1 (cs.map (.int .i64)))):Alt vh n2 D ρ (.sub i 0 m) (ints (cs.take m)):=
 .fsub i 0 m false 1 _ _ hD hg (zzz vh i cs m hm hg)
theorem p125 (L:List Int)(n:Int)(hl:L.length<4294967296):zao prog 125 [.int .i64 n,.vp [ints L]] fun r=>r=.bool (decide (n∈L)):=by
 refine .zag func125 rfl rfl ?_
 refine .sr ?_
 refine .seq ?_
 refine .zac [0,1,2,3] rfl zz0 ?_
 refine .rn [0,1] _ ?_
 refine .pc rfl rfl rfl rfl rfl call99 (p99 L n hl) ?_
 refine .rn [3] [] ?_
 refine .done (.ret ?_)
 refine⟨_,_,zz2,zz2,?_⟩
 first|rfl|(simp[*];done)|(simp_all;done)
theorem p129 (L:List Int)(n:Int)(hl:L.length<4294967296):zao prog 129 [.int .i64 n,.vp [ints L]] fun r=>r=.bool (decide (n∈L)):=by
 refine .zag func129 rfl rfl ?_
 refine .sr ?_
 refine .seq ?_
 refine .zac [0,1,2,3] rfl zz0 ?_
 refine .rn [0,1] _ ?_
 refine .pc rfl rfl rfl rfl rfl call99 (p99 L n hl) ?_
 refine .rn [3] [] ?_
 refine .done (.ret ?_)
 refine⟨_,_,zz2,zz2,?_⟩
 first|rfl|(simp[*];done)|(simp_all;done)
theorem p126 (D:Dk)(R:Reg)(L:List Int)(s:Int)(hl:R.ps.length<4294967296)(hq:∀p l,alk D.q p=some l→l.length<4294967296)(hL:L.length<4294967296):zao prog 126 [.int .i64 s,.vp [dkD D],.vp [ints R.ps,.int .i64 R.sc,turns R.ts],.vp [.func 125 [] [.vp [ints L]]]] fun r=>r=.bool (!zdc D R.ps s fun n=>decide (n∈L)):=by
 refine .zag func126 rfl rfl ?_
 refine .sr ?_
 refine .seq ?_
 refine .zac [0,1,2,3,4,5,6] rfl zz0 ?_
 refine .rn [0,1,2,3] _ ?_
 refine .pc rfl rfl rfl rfl rfl call127 (p127 D R s (fun n=>decide (n∈L)) 125 [] [.vp [ints L]] hl hq rfl rfl call125 (fun n=>p125 L n hL)) ?_
 refine .rn [5,6] [] ?_
 refine .done (.ret ?_)
 refine⟨_,_,zz2,zz2,?_⟩
 first|rfl|(simp[*];done)|(simp_all;done)
theorem p56x (R:Reg)(day:Int)(hl1:R.ps.length<4294967296)(hl2:R.ts.length<4294967296)(h:¬onE R day=0):zao prog 56 [encR R,.int .i64 day] fun r=>r=.tup [.sl0,.int .i64 (onE R day)]:=by
 refine .zag func56 rfl rfl ?_
 refine .sr ?_
 refine .scope ?_
 refine .seq ?_
 refine .zac [0,1,2,3,4,5,6,7,8] rfl zz0 ?_
 refine .rn [0,1] _ ?_
 refine .pc rfl rfl rfl rfl rfl call85 (p85 R day hl1 hl2) ?_
 refine .rn [3,4,5,6,7,8] [] ?_
 refine .done (.seq (.sr ?_))
 refine .cs ?_ ?_<;>intro c18
 ·try simp at c18
  refine .sr ?_
  refine .ret ?_
  refine⟨_,_,zz2,zz2,?_⟩
  first|rfl|(simp[*];done)|(simp_all;done)
 try simp at c18
 exact absurd c18 h
theorem p56 (R:Reg)(day:Int)(hl1:R.ps.length<4294967296)(hl2:R.ts.length<4294967296)(h:onE R day=0):zao prog 56 [encR R,.int .i64 day] fun r=>∃L:List Int,zta (behD R day) R.ps L∧r=.tup [ints L,.int .i64 0]:=by
 unfold encR
 have hV:onV R day=.vp [.int .i64 (behD R day).d,.vmap (mpG zah (behD R day).x),.vmap (mpG (PV.int .i64) (behD R day).y),.vmap (mpG ints (behD R day).q)]:=by unfold onV;rw[if_pos h];rfl
 have hb:=zoh (zgu h) day
 obtain⟨D,hD⟩:∃D,behD R day=D:=⟨_,rfl⟩
 have hp:=p85 R day hl1 hl2
 rw[hV,h,hD] at hp
 rw[hD] at hb ⊢
 unfold encR at hp
 have hq:∀p l,alk D.q p=some l→l.length<4294967296:=fun p l hl=>by have:=hb.1.len p l hl;omega
 have hdl:D.x.length<1000:=by have:=hb.2.ln;omega
 have hsk:=zge D.x
 have hsl:(zeo D.x).length<1000:=by rw[zge];have:=hb.2.ln;omega
 refine .zag func56 rfl rfl ?_
 rcases Nat.eq_zero_or_pos D.x.length with hz|hz
 ·
  refine .sr ?_
  refine .scope ?_
  refine .seq ?_
  refine .zac [0,1,2,3,4,5,6,7,8] rfl zz0 ?_
  refine .rn [0,1] _ ?_
  refine .pc rfl rfl rfl rfl rfl call85 (hp) ?_
  refine .rn [3,4,5,6,7,8] [] ?_
  refine .done (.seq (.sr ?_))
  refine .cs ?_ ?_<;>intro c18
  ·try simp at c18
  try simp at c18
  refine .skip (.seq ?_)
  refine .rec (vts2:=[(2,.vp [ints R.ps,.int .i64 R.sc,turns R.ts]),(6,.vp [.vp [.int .i64 D.d,.vmap (mpG zah D.x),.vmap (mpG (PV.int .i64) D.y),.vmap (mpG ints D.q)]])]) (vh2:=⟨0,[]⟩) (.mk [0,1] [] zz10 zz11 rfl rfl rfl) ?_
  refine .zac [0,1,2,3,4,5,6,7] rfl zz0 ?_
  refine .rn [0,1,2,3] _ ?_
  refine .pc rfl rfl rfl rfl rfl call124 (p124 (mpG zah D.x)) ?_
  have hx0:D.x=[]:=List.eq_nil_of_length_eq_zero hz
  rw[hx0]
  refine .pc rfl rfl rfl rfl rfl call73 (zao.soft z9k rfl) ?_
  refine .rn [6,7] [] ?_
  refine .done (.seq ?_)
  refine .label ?_
  refine .seq (.block ?_)
  refine .zb5 (fun L:List Int=>([(2,.vp [ints R.ps,.int .i64 R.sc,turns R.ts]),(6,.vp [.vp [.int .i64 D.d,.vmap (mpG zah D.x),.vmap (mpG (PV.int .i64) D.y),.vmap (mpG ints D.q)]]),(8,.ptr 0 0)],⟨1,[(0,.box [ints L])]⟩)) (fun L=>zik D R.ps L) (fun L=>L.length) (zeo D.x) (zik.start D R.ps) (.mk [] [] zz8 ⟨⟨xf0 rfl,Or.inr ⟨rfl,_,rfl,AltL.cons (Alt.ofEq rfl (by simp[zeo,hx0,ints])) AltL.nil⟩⟩,trivial⟩ rfl rfl rfl) ?_
  intro L hI
  simp only at hI ⊢
  first|clear hx0|skip
  have hLl:L.length<1000:=Nat.lt_of_le_of_lt hI.sub.length_le hsl
  rcases Nat.eq_zero_or_pos L.length with hL0|hL0
  ·skip
   refine .block (.sr ?_)
   refine .seq ?_
   obtain⟨zv,zm,hv⟩:∃(zv:PV) (zm:Nat),zv=.sl0∨zv=.vec []∧zm=0:=⟨.sl0,0,.inl rfl⟩
   have hLe:L=[]:=List.eq_nil_of_length_eq_zero hL0
   subst hLe
   refine .rec (vts2:=[(2,.vp [ints R.ps,.int .i64 R.sc,turns R.ts]),(6,.vp [.vp [.int .i64 D.d,.vmap (mpG zah D.x),.vmap (mpG (PV.int .i64) D.y),.vmap (mpG ints D.q)]]),(8,.vp [ints []]),(9,.ptr 1 0)]) (vh2:=⟨2,[(1,.box [.func 125 [] [.vp [ints []]]])]⟩) (.mk [0] [] zz10 ⟨⟨xf0 rfl,Or.inr ⟨rfl,_,rfl,AltL.cons (Alt.func' AltL.nil (AltL.cons (Alt.fptr 0 0 _ rfl rfl rfl (Nat.zero_le _)) AltL.nil)) AltL.nil⟩⟩,trivial⟩ rfl rfl rfl) ?_
   refine .rec (vts2:=[(2,.vp [ints R.ps,.int .i64 R.sc,turns R.ts]),(6,.vp [.vp [.int .i64 D.d,.vmap (mpG zah D.x),.vmap (mpG (PV.int .i64) D.y),.vmap (mpG ints D.q)]]),(8,.vp [ints []]),(9,.vp [.func 125 [] [.vp [ints []]]])]) (vh2:=⟨0,[]⟩) (.mk [1] [] zz10 zz11 rfl rfl rfl) ?_
   refine .zac [0,1,2,3,4] rfl zz0 ?_
   refine .rn [0] _ ?_
   refine .pc rfl rfl rfl rfl rfl call94 (p94a [] (by simp)) ?_
   refine .rn [2] _ ?_
   refine .pc rfl rfl rfl rfl rfl call93 (p93e 126 [] [.vp [.vp [.int .i64 D.d,.vmap (mpG zah D.x),.vmap (mpG (PV.int .i64) D.y),.vmap (mpG ints D.q)]],.vp [ints R.ps,.int .i64 R.sc,turns R.ts],.vp [.func 125 [] [.vp [ints []]]]] rfl (by simp[PV.allF,PV.isF,ints]) call126) ?_
   rcases hv with rfl|⟨rfl,rfl⟩
   ·skip
    refine .rn [4] [] ?_
    refine .done (.seq (.sr ?_))
    refine .cs ?_ ?_<;>intro c35
    ·try simp at c35
     refine .exit (.sr ?_)
     refine .ret ?_
     refine⟨_,_,zz2,zz2,?_⟩
     exact⟨[],hI.fin rfl,rfl⟩
    try simp at c35
   skip
   refine .rn [4] [] ?_
   refine .done (.seq (.sr ?_))
   refine .cs ?_ ?_<;>intro c35
   ·try simp at c35
    refine .exit (.sr ?_)
    refine .ret ?_
    refine⟨_,_,zz2,zz2,?_⟩
    exact⟨[],hI.fin rfl,rfl⟩
   try simp at c35
  skip
  refine .block (.sr ?_)
  refine .seq ?_
  refine .zac [0,1,2,3,4] rfl zz0 ?_
  refine .rn [0] _ ?_
  refine .step rfl rfl (.call rfl rfl rfl call94 (by decide) (((zar.fresh' (by simp) (p94g L hL0 (by omega)) rfl hL0)).mono ?_))
  rintro _ _ ⟨rfl,rfl⟩
  refine .rn [2] _ ?_
  refine .step rfl rfl (.call rfl rfl rfl call93 (by decide) (((zar.z9s (i:=2) rfl (zrh L hL0) (z1m L _ _ (by simp[PV.isF]) (by simp[PV.isF,ints])) (z1x L hL0 _ _ _ (by simp[PV.isF]) (by simp[PV.isF,ints]) (by simp[PV.isF,PV.allF,ints])) rfl (p93l L (fun s=>!zdc D R.ps s fun n=>decide (n∈L)) 126 [] [.vp [dkD D],.vp [ints R.ps,.int .i64 R.sc,turns R.ts],.vp [.func 125 [] [.vp [ints L]]]] (by omega) hL0 rfl (by simp[PV.allF,PV.isF,ints]) call126 (fun s _=>p126 D R L s hl1 hq (by omega))))).mono ?_))
  rintro _ _ ⟨m,cs,hv,rfl,hcs,hm,hml⟩
  simp only[Bool.not_not] at hcs hm
  replace hm:=hm.symm
  rcases hv with rfl|⟨rfl,rfl⟩
  ·skip
   refine .rn [4] [] ?_
   refine .done (.seq (.sr ?_))
   refine .cs ?_ ?_<;>intro c35
   ·try simp at c35
    refine .exit (.sr ?_)
    refine .ret ?_
    refine⟨_,_,zz2,zz2,?_⟩
    exact⟨L,hI.fin (by omega),rfl⟩
   try simp at c35
   have hfl:(L.filter fun s=>zdc D R.ps s fun n=>decide (n∈L)).length≤L.length:=List.length_filter_le _ _
   refine .skip (.rn ?_)
   refine⟨L.filter fun s=>zdc D R.ps s fun n=>decide (n∈L),hI.next,(by omega),(.mk [2] [] zz8 ⟨⟨xf0 rfl,Or.inr ⟨rfl,_,rfl,AltL.cons (hcs▸ztb 2 cs m hml rfl rfl) AltL.nil⟩⟩,trivial⟩ rfl rfl rfl)⟩
  skip
  refine .rn [4] [] ?_
  refine .done (.seq (.sr ?_))
  refine .cs ?_ ?_<;>intro c35
  ·try simp at c35
   exfalso;omega
  try simp at c35
  have hfl:(L.filter fun s=>zdc D R.ps s fun n=>decide (n∈L)).length≤L.length:=List.length_filter_le _ _
  have hnil:(L.filter fun s=>zdc D R.ps s fun n=>decide (n∈L))=[]:=List.eq_nil_of_length_eq_zero hm
  refine .skip (.rn ?_)
  refine⟨L.filter fun s=>zdc D R.ps s fun n=>decide (n∈L),hI.next,(by omega),(.mk [2] [] zz8 ⟨⟨xf0 rfl,Or.inr ⟨rfl,_,rfl,AltL.cons (Alt.ofEq rfl (by rw[hnil];rfl)) AltL.nil⟩⟩,trivial⟩ rfl rfl rfl)⟩
 ·
  refine .sr ?_
  refine .scope ?_
  refine .seq ?_
  refine .zac [0,1,2,3,4,5,6,7,8] rfl zz0 ?_
  refine .rn [0,1] _ ?_
  refine .pc rfl rfl rfl rfl rfl call85 (hp) ?_
  refine .rn [3,4,5,6,7,8] [] ?_
  refine .done (.seq (.sr ?_))
  refine .cs ?_ ?_<;>intro c18
  ·try simp at c18
  try simp at c18
  refine .skip (.seq ?_)
  refine .rec (vts2:=[(2,.vp [ints R.ps,.int .i64 R.sc,turns R.ts]),(6,.vp [.vp [.int .i64 D.d,.vmap (mpG zah D.x),.vmap (mpG (PV.int .i64) D.y),.vmap (mpG ints D.q)]])]) (vh2:=⟨0,[]⟩) (.mk [0,1] [] zz10 zz11 rfl rfl rfl) ?_
  refine .zac [0,1,2,3,4,5,6,7] rfl zz0 ?_
  refine .rn [0,1,2,3] _ ?_
  refine .pc rfl rfl rfl rfl rfl call124 (p124 (mpG zah D.x)) ?_
  refine .step rfl rfl (.call rfl rfl rfl call73 (by decide) (((zar.fresh' (by simp[zge]) (p73m D.x (by omega) hb.2.nd hz) (by simp[PV.allF,PV.isF]) hz)).mono ?_))
  rintro _ _ ⟨rfl,rfl⟩
  refine .rn [6,7] [] ?_
  refine .done (.seq ?_)
  refine .label ?_
  refine .seq (.block ?_)
  refine .zb5 (fun L:List Int=>([(2,.vp [ints R.ps,.int .i64 R.sc,turns R.ts]),(6,.vp [.vp [.int .i64 D.d,.vmap (mpG zah D.x),.vmap (mpG (PV.int .i64) D.y),.vmap (mpG ints D.q)]]),(8,.ptr 0 0)],⟨1,[(0,.box [ints L])]⟩)) (fun L=>zik D R.ps L) (fun L=>L.length) (zeo D.x) (zik.start D R.ps) (.mk [0] [(0,1)] zz8 zz9 rfl rfl rfl) ?_
  intro L hI
  simp only at hI ⊢
  first|clear hx0|skip
  have hLl:L.length<1000:=Nat.lt_of_le_of_lt hI.sub.length_le hsl
  rcases Nat.eq_zero_or_pos L.length with hL0|hL0
  ·skip
   refine .block (.sr ?_)
   refine .seq ?_
   obtain⟨zv,zm,hv⟩:∃(zv:PV) (zm:Nat),zv=.sl0∨zv=.vec []∧zm=0:=⟨.sl0,0,.inl rfl⟩
   have hLe:L=[]:=List.eq_nil_of_length_eq_zero hL0
   subst hLe
   refine .rec (vts2:=[(2,.vp [ints R.ps,.int .i64 R.sc,turns R.ts]),(6,.vp [.vp [.int .i64 D.d,.vmap (mpG zah D.x),.vmap (mpG (PV.int .i64) D.y),.vmap (mpG ints D.q)]]),(8,.vp [ints []]),(9,.ptr 1 0)]) (vh2:=⟨2,[(1,.box [.func 125 [] [.vp [ints []]]])]⟩) (.mk [0] [] zz10 ⟨⟨xf0 rfl,Or.inr ⟨rfl,_,rfl,AltL.cons (Alt.func' AltL.nil (AltL.cons (Alt.fptr 0 0 _ rfl rfl rfl (Nat.zero_le _)) AltL.nil)) AltL.nil⟩⟩,trivial⟩ rfl rfl rfl) ?_
   refine .rec (vts2:=[(2,.vp [ints R.ps,.int .i64 R.sc,turns R.ts]),(6,.vp [.vp [.int .i64 D.d,.vmap (mpG zah D.x),.vmap (mpG (PV.int .i64) D.y),.vmap (mpG ints D.q)]]),(8,.vp [ints []]),(9,.vp [.func 125 [] [.vp [ints []]]])]) (vh2:=⟨0,[]⟩) (.mk [1] [] zz10 zz11 rfl rfl rfl) ?_
   refine .zac [0,1,2,3,4] rfl zz0 ?_
   refine .rn [0] _ ?_
   refine .pc rfl rfl rfl rfl rfl call94 (p94a [] (by simp)) ?_
   refine .rn [2] _ ?_
   refine .pc rfl rfl rfl rfl rfl call93 (p93e 126 [] [.vp [.vp [.int .i64 D.d,.vmap (mpG zah D.x),.vmap (mpG (PV.int .i64) D.y),.vmap (mpG ints D.q)]],.vp [ints R.ps,.int .i64 R.sc,turns R.ts],.vp [.func 125 [] [.vp [ints []]]]] rfl (by simp[PV.allF,PV.isF,ints]) call126) ?_
   rcases hv with rfl|⟨rfl,rfl⟩
   ·skip
    refine .rn [4] [] ?_
    refine .done (.seq (.sr ?_))
    refine .cs ?_ ?_<;>intro c35
    ·try simp at c35
     refine .exit (.sr ?_)
     refine .ret ?_
     refine⟨_,_,zz2,zz2,?_⟩
     exact⟨[],hI.fin rfl,rfl⟩
    try simp at c35
   skip
   refine .rn [4] [] ?_
   refine .done (.seq (.sr ?_))
   refine .cs ?_ ?_<;>intro c35
   ·try simp at c35
    refine .exit (.sr ?_)
    refine .ret ?_
    refine⟨_,_,zz2,zz2,?_⟩
    exact⟨[],hI.fin rfl,rfl⟩
   try simp at c35
  skip
  refine .block (.sr ?_)
  refine .seq ?_
  refine .zac [0,1,2,3,4] rfl zz0 ?_
  refine .rn [0] _ ?_
  refine .step rfl rfl (.call rfl rfl rfl call94 (by decide) (((zar.fresh' (by simp) (p94g L hL0 (by omega)) rfl hL0)).mono ?_))
  rintro _ _ ⟨rfl,rfl⟩
  refine .rn [2] _ ?_
  refine .step rfl rfl (.call rfl rfl rfl call93 (by decide) (((zar.z9s (i:=2) rfl (zrh L hL0) (z1m L _ _ (by simp[PV.isF]) (by simp[PV.isF,ints])) (z1x L hL0 _ _ _ (by simp[PV.isF]) (by simp[PV.isF,ints]) (by simp[PV.isF,PV.allF,ints])) rfl (p93l L (fun s=>!zdc D R.ps s fun n=>decide (n∈L)) 126 [] [.vp [dkD D],.vp [ints R.ps,.int .i64 R.sc,turns R.ts],.vp [.func 125 [] [.vp [ints L]]]] (by omega) hL0 rfl (by simp[PV.allF,PV.isF,ints]) call126 (fun s _=>p126 D R L s hl1 hq (by omega))))).mono ?_))
  rintro _ _ ⟨m,cs,hv,rfl,hcs,hm,hml⟩
  simp only[Bool.not_not] at hcs hm
  replace hm:=hm.symm
  rcases hv with rfl|⟨rfl,rfl⟩
  ·skip
   refine .rn [4] [] ?_
   refine .done (.seq (.sr ?_))
   refine .cs ?_ ?_<;>intro c35
   ·try simp at c35
    refine .exit (.sr ?_)
    refine .ret ?_
    refine⟨_,_,zz2,zz2,?_⟩
    exact⟨L,hI.fin (by omega),rfl⟩
   try simp at c35
   have hfl:(L.filter fun s=>zdc D R.ps s fun n=>decide (n∈L)).length≤L.length:=List.length_filter_le _ _
   refine .skip (.rn ?_)
   refine⟨L.filter fun s=>zdc D R.ps s fun n=>decide (n∈L),hI.next,(by omega),(.mk [2] [] zz8 ⟨⟨xf0 rfl,Or.inr ⟨rfl,_,rfl,AltL.cons (hcs▸ztb 2 cs m hml rfl rfl) AltL.nil⟩⟩,trivial⟩ rfl rfl rfl)⟩
  skip
  refine .rn [4] [] ?_
  refine .done (.seq (.sr ?_))
  refine .cs ?_ ?_<;>intro c35
  ·try simp at c35
   exfalso;omega
  try simp at c35
  have hfl:(L.filter fun s=>zdc D R.ps s fun n=>decide (n∈L)).length≤L.length:=List.length_filter_le _ _
  have hnil:(L.filter fun s=>zdc D R.ps s fun n=>decide (n∈L))=[]:=List.eq_nil_of_length_eq_zero hm
  refine .skip (.rn ?_)
  refine⟨L.filter fun s=>zdc D R.ps s fun n=>decide (n∈L),hI.next,(by omega),(.mk [2] [] zz8 ⟨⟨xf0 rfl,Or.inr ⟨rfl,_,rfl,AltL.cons (Alt.ofEq rfl (by rw[hnil];rfl)) AltL.nil⟩⟩,trivial⟩ rfl rfl rfl)⟩
open Classical in
noncomputable def stkE (R:Reg)(day:Int)(L:List Int):Int:=if onE R day=0 then (if stkB (behD R day) R.ps L then 0 else 8) else onE R day
def z4h (D:Dk)(ps:List Int)(L:List Int)(j:Nat):Prop:=∀h:j<L.length,(0<j→L[j - 1]'(by omega)<L[j])∧zdc D ps L[j] (fun n=>decide (n∈L))=true
theorem zw9 {D:Dk}{ps L:List Int}{k:Nat}(hk:k<L.length)(h:¬z4h D ps L k):¬stkB D ps L:=fun hb=>h fun hk'=>by
 refine⟨fun h0=>?_,hb.2.2 _ (List.getElem_mem hk')⟩
 have:=hb.2.1 (k - 1) (by omega)
 have e:k - 1+1=k:=by omega
 simp only[e] at this
 exact this
theorem z4d {D:Dk}{ps L:List Int}(h0:0<L.length)(h:∀j,j<L.length→z4h D ps L j):stkB D ps L:=by
 refine⟨fun he=>by simp[he] at h0,fun i hi=>?_,fun s hs=>?_⟩
 ·have:=(h (i+1) hi hi).1 (by omega)
  simpa using this
 obtain⟨j,hj,rfl⟩:=List.mem_iff_getElem.1 hs
 exact(h j hj hj).2
theorem z1d {R:Reg}{day:Int}{L:List Int}(h:onE R day=0)(hb:stkB (behD R day) R.ps L):stkE R day L=0:=by unfold stkE;rw[if_pos h,if_pos hb]
theorem z1u {R:Reg}{day:Int}{L:List Int}(h:onE R day=0)(hb:¬stkB (behD R day) R.ps L):stkE R day L=8:=by unfold stkE;rw[if_pos h,if_neg hb]
theorem p59 (R:Reg)(day:Int)(L:List Int)(hl1:R.ps.length<4294967296)(hl2:R.ts.length<4294967296)(hL:L.length<4294967296):zao prog 59 [encR R,.int .i64 day,ints L] fun r=>r=.int .i64 (stkE R day L):=by
 unfold encR
 have hp:=p85 R day hl1 hl2
 unfold encR at hp
 refine .zag func59 rfl rfl ?_
 refine .sr ?_
 refine .seq ?_
 refine .zac [0,1,2,3,4,5,6,7] rfl zz0 ?_
 refine .rn [0,1] _ ?_
 refine .pc rfl rfl rfl rfl rfl call85 (hp) ?_
 refine .rn [3,4,5,6,7] [] ?_
 refine .done (.seq (.sr ?_))
 refine .cs ?_ ?_<;>intro c19
 ·try simp at c19
  refine .sr ?_
  refine .ret ?_
  refine⟨_,_,zz2,zz2,?_⟩
  unfold stkE;rw[if_neg c19]
 try simp at c19
 have hV:onV R day=.vp [.int .i64 (behD R day).d,.vmap (mpG zah (behD R day).x),.vmap (mpG (PV.int .i64) (behD R day).y),.vmap (mpG ints (behD R day).q)]:=by unfold onV;rw[if_pos c19];rfl
 have hb:=zoh (zgu c19) day
 rw[hV]
 have h8:=fun hn=>z1u (R:=R) (day:=day) (L:=L) c19 hn
 have h0:=fun hn=>z1d (R:=R) (day:=day) (L:=L) c19 hn
 obtain⟨D,hD⟩:∃D,behD R day=D:=⟨_,rfl⟩
 rw[hD] at hb h8 h0
 rw[hD]
 have hq:∀p l,alk D.q p=some l→l.length<4294967296:=fun p l hl=>by have:=hb.1.len p l hl;omega
 refine .skip (.seq ?_)
 refine .rec (vts2:=[(3,.vp [ints R.ps,.int .i64 R.sc,turns R.ts]),(5,.vp [ints L]),(7,.vp [.int .i64 D.d,.vmap (mpG zah D.x),.vmap (mpG (PV.int .i64) D.y),.vmap (mpG ints D.q)])]) (vh2:=⟨0,[]⟩) (.mk [0,1] [] zz10 zz11 rfl rfl rfl) ?_
 refine .rn ?_
 refine .seq (.sr ?_)
 refine .block ?_
 refine .zb5 (fun k:Nat=>([(3,.vp [ints R.ps,.int .i64 R.sc,turns R.ts]),(5,.vp [ints L]),(7,.vp [.int .i64 D.d,.vmap (mpG zah D.x),.vmap (mpG (PV.int .i64) D.y),.vmap (mpG ints D.q)]),(9,.func 129 [] [.vp [ints L]]),(22,ints L),(23,.int .i64 L.length),(24,.int .i64 k)],⟨0,[]⟩)) (fun k=>k≤L.length∧∀j,j<k→z4h D R.ps L j) (fun k=>L.length - k) 0 ⟨by simp,fun j hj=>absurd hj (Nat.not_lt_zero j)⟩ (.mk [] [] zz8 zz9 rfl rfl rfl) ?_
 rintro k ⟨hk,hr⟩
 simp only at hk hr ⊢
 refine .sr ?_
 refine .seq ?_
 refine .cs ?_ ?_<;>intro c25
 ·try simp at c25
  have hw2:=wr1 k
  obtain⟨w,hw⟩:∃w,zdc D R.ps L[k] (fun n=>decide (n∈L))=w:=⟨_,rfl⟩
  have hk1:k - 1<L.length:=by omega
  refine .skip (.seq (.block (.sr ?_)))
  refine .seq ?_
  refine .zac [0,1,2,3,4,5,6,7,8,9,10,11,12,13,14,15,16,17,18] rfl zz0 ?_
  refine .rn [0,1,2] _ ?_
  refine .split (t:=31) rfl (fun c31=>?_) (fun c31=>?_)
  ·first|cases c31|cases bnt c31|cases bnf c31|try rw[c31]
   try simp at c31
   have hw3:IntKind.i64.wrap ((k:Int) - 1)=((k - 1:Nat):Int):=by rw[wrap64 (by omega) (by omega)];omega
   refine .rn [3,4,5,6,7,8,9,10,11] _ ?_
   refine .split (t:=40) rfl (fun c40=>?_) (fun c40=>?_)
   ·first|cases c40|cases bnt c40|cases bnf c40|try rw[c40]
    try simp at c40
    refine .rn [12,13,14,15,16,17,18] [] ?_
    refine .done (.zgb rfl (.sr ?_))
    refine .ret ?_
    refine⟨_,_,zz2,zz2,?_⟩
    exact congrArg _ (h8 (zw9 c25 fun hh=>by have:=(hh c25).1 c31;omega)).symm
   first|cases c40|cases bnt c40|cases bnf c40|try rw[c40]
   try simp at c40
   refine .rn [12,13,14,15] _ ?_
   refine .pc rfl rfl rfl rfl rfl call127 (p127 D R L[k] (fun n=>decide (n∈L)) 129 [] [.vp [ints L]] hl1 hq rfl (by simp[PV.allF,PV.isF,ints]) call129 (fun n=>p129 L n hL)) ?_
   rw[hw]
   refine .rn [17,18] [] ?_
   refine .done ?_
   refine .cs ?_ ?_<;>intro c47
   ·try simp at c47
    refine .sr ?_
    refine .ret ?_
    refine⟨_,_,zz2,zz2,?_⟩
    exact congrArg _ (h8 (zw9 c25 fun hh=>by have:=(hh c25).2;rw[hw] at this;simp_all)).symm
   try simp at c47
   refine .skip (.rn ?_)
   refine⟨k+1,⟨c25,fun j hj=>?_⟩,zz3,(.mk [] [] zz8 zz9 rfl rfl rfl)⟩
   rcases Nat.lt_or_ge j k with h|h
   ·exact hr j h
   have:j=k:=by omega
   subst this;exact fun _=>⟨fun _=>by omega,by rw[hw];simp_all⟩
  first|cases c31|cases bnt c31|cases bnf c31|try rw[c31]
  try simp at c31
  have hk0:¬0<k:=by omega
  clear c31
  refine .rn [3,4,5,6,7,8,9,10,11,12,13,14,15] _ ?_
  refine .pc rfl rfl rfl rfl rfl call127 (p127 D R L[k] (fun n=>decide (n∈L)) 129 [] [.vp [ints L]] hl1 hq rfl (by simp[PV.allF,PV.isF,ints]) call129 (fun n=>p129 L n hL)) ?_
  rw[hw]
  refine .rn [17,18] [] ?_
  refine .done ?_
  refine .cs ?_ ?_<;>intro c47
  ·try simp at c47
   refine .sr ?_
   refine .ret ?_
   refine⟨_,_,zz2,zz2,?_⟩
   exact congrArg _ (h8 (zw9 c25 fun hh=>by have:=(hh c25).2;rw[hw] at this;simp_all)).symm
  try simp at c47
  refine .skip (.rn ?_)
  refine⟨k+1,⟨c25,fun j hj=>?_⟩,zz3,(.mk [] [] zz8 zz9 rfl rfl rfl)⟩
  rcases Nat.lt_or_ge j k with h|h
  ·exact hr j h
  have:j=k:=by omega
  subst this;exact fun _=>⟨fun _=>by omega,by rw[hw];simp_all⟩
 try simp at c25
 have hkn:k=L.length:=by omega
 subst hkn
 refine .exit (.seq (.sr ?_))
 refine .cs ?_ ?_<;>intro c51
 ·try simp at c51
  refine .sr ?_
  refine .ret ?_
  refine⟨_,_,zz2,zz2,?_⟩
  exact congrArg _ (h8 fun hh=>hh.1 (by simp_all)).symm
 try simp at c51
 refine .skip (.sr ?_)
 refine .ret ?_
 refine⟨_,_,zz2,zz2,?_⟩
 exact congrArg _ (h0 (z4d (List.length_pos_iff.2 (by simp_all)) hr)).symm
def encA (x:Int×Int):PV:=.agg [.int .i64 x.1,.int .i64 x.2]
@[simp] theorem xdz (a p:Int):encA (a,p)=.agg [.int .i64 a,.int .i64 p]:=rfl
@[simp] theorem z4w (x:Int×Int):(encA x).cells=[.int .i64 x.1,.int .i64 x.2]:=rfl
@[simp] theorem z4v (l:List (Int×Int)):zf0 2 (l.map encA)=true:=by
 induction l with
 |nil=>rfl
 |cons a r ih=>simp[zf0]
def zjj (D:Dk)(p:Int):Option (Int×Int):=match alk D.y p with
 |some _=>none
 |none=>match D.line p with
  |[]=>none
  |a::_=>if (alk D.x a).isSome then none else some (a,p)
def zdd (D:Dk)(ps:List Int):List (Int×Int):=ps.filterMap (zjj D)
theorem zo1 (D:Dk)(ps:List Int)(k:Nat)(h:k<ps.length):zdd D (ps.take (k+1))=zdd D (ps.take k)++(match zjj D ps[k] with|none=>[]|some x=>[x]):=by
 unfold zdd
 rw[List.take_succ_eq_append_getElem h,List.filterMap_append]
 simp only[List.filterMap_cons,List.filterMap_nil]
 cases zjj D ps[k]<;>rfl
theorem zk2 (D:Dk)(ps:List Int):(zdd D ps).length≤ps.length:=List.length_filterMap_le _ _
theorem p54 (R:Reg)(day:Int)(hl1:R.ps.length<4294967296)(hl2:R.ts.length<4294967296)(h:onE R day=0):zao prog 54 [encR R,.int .i64 day] fun r=>r=.tup [.vec ((zdd (behD R day) R.ps).map encA),.int .i64 0]:=by
 unfold encR
 have hV:onV R day=.vp [.int .i64 (behD R day).d,.vmap (mpG zah (behD R day).x),.vmap (mpG (PV.int .i64) (behD R day).y),.vmap (mpG ints (behD R day).q)]:=by unfold onV;rw[if_pos h];rfl
 obtain⟨D,hD⟩:∃D,behD R day=D:=⟨_,rfl⟩
 have hp:=p85 R day hl1 hl2
 rw[hV,h,hD] at hp
 rw[hD]
 unfold encR at hp
 refine .zag func54 rfl rfl ?_
 refine .sr ?_
 refine .seq ?_
 refine .zac [0,1,2,3,4,5,6,7] rfl zz0 ?_
 refine .rn [0,1] _ ?_
 refine .pc rfl rfl rfl rfl rfl call85 (hp) ?_
 refine .rn [3,4,5,6,7] [] ?_
 refine .done (.seq (.sr ?_))
 refine .cs ?_ ?_<;>intro c21
 ·try simp at c21
 try simp at c21
 refine .skip (.seq ?_)
 refine .rec (vts2:=[(2,.vp [ints R.ps,.int .i64 R.sc,turns R.ts]),(6,.vp [.int .i64 D.d,.vmap (mpG zah D.x),.vmap (mpG (PV.int .i64) D.y),.vmap (mpG ints D.q)])]) (vh2:=⟨0,[]⟩) (.mk [0] [] zz10 zz11 rfl rfl rfl) ?_
 refine .rn ?_
 refine .seq (.sr ?_)
 refine .block ?_
 refine .zb5 (fun k:Nat=>([(6,.vp [.int .i64 D.d,.vmap (mpG zah D.x),.vmap (mpG (PV.int .i64) D.y),.vmap (mpG ints D.q)]),(8,.grow 0 (zdd D (R.ps.take k)).length true),(24,ints R.ps),(25,.int .i64 R.ps.length),(26,.int .i64 k)],⟨1,[(0,.grow 2 ((zdd D (R.ps.take k)).map encA))]⟩)) (fun k=>k≤R.ps.length) (fun k=>R.ps.length - k) 0 (by simp) (.mk [] [] zz8 zz9 rfl rfl rfl) ?_
 intro k hk
 simp only at hk ⊢
 refine .sr ?_
 refine .seq ?_
 refine .cs ?_ ?_<;>intro c27
 ·try simp at c27
  have hw2:=wr1 k
  have hT:=zo1 D R.ps k c27
  obtain⟨p,hpe⟩:∃p,R.ps[k]=p:=⟨_,rfl⟩
  rw[hpe] at hT
  have hlen:=zk2 D (R.ps.take k)
  rw[List.length_take] at hlen
  obtain⟨Z,hZ⟩:∃Z,zdd D (R.ps.take k)=Z:=⟨_,rfl⟩
  rw[hZ] at hT hlen
  rw[hZ]
  have hb:Z.length+1≤4294967296:=by omega
  obtain⟨o,ho⟩:∃o,alk D.y p=o:=⟨_,rfl⟩
  obtain⟨w,hw⟩:∃w,alk D.q p=w:=⟨_,rfl⟩
  rcases o with _|s
  rcases w with _|_|⟨a,r⟩
  ·skip
   refine .skip (.seq (.block (.sr ?_)))
   refine .seq (.sr ?_)
   refine .seq ?_
   have hT1:zdd D (R.ps.take (k+1))=Z:=by rw[hT];simp[zjj,ho,Dk.line,hw]
   clear hT
   refine .zac [0,1,2,3,4,5,6,7,8,9,10] rfl zz0 ?_
   refine .rn [0,1] _ ?_
   refine .split (t:=40) rfl (fun c40=>?_) (fun c40=>?_)
   ·first|cases c40|cases bnt c40|cases bnf c40|try rw[c40]
    try simp at c40
   first|cases c40|cases bnt c40|cases bnf c40|try rw[c40]
   try simp at c40
   refine .rn [2,3,4,5,6,7,8,9,10] [] ?_
   refine .done ?_
   refine .cs ?_ ?_<;>intro c49
   ·try simp at c49
    refine .exit (.rn ?_)
    refine⟨k+1,c27,zz3,(.mk [] [] zz8 zz9 rfl rfl rfl)⟩
   try simp at c49
  ·skip
   refine .skip (.seq (.block (.sr ?_)))
   refine .seq (.sr ?_)
   refine .seq ?_
   have hT1:zdd D (R.ps.take (k+1))=Z:=by rw[hT];simp[zjj,ho,Dk.line,hw]
   clear hT
   refine .zac [0,1,2,3,4,5,6,7,8,9,10] rfl zz0 ?_
   refine .rn [0,1] _ ?_
   refine .split (t:=40) rfl (fun c40=>?_) (fun c40=>?_)
   ·first|cases c40|cases bnt c40|cases bnf c40|try rw[c40]
    try simp at c40
   first|cases c40|cases bnt c40|cases bnf c40|try rw[c40]
   try simp at c40
   refine .rn [2,3,4,5,6,7,8,9,10] [] ?_
   refine .done ?_
   refine .cs ?_ ?_<;>intro c49
   ·try simp at c49
    refine .exit (.rn ?_)
    refine⟨k+1,c27,zz3,(.mk [] [] zz8 zz9 rfl rfl rfl)⟩
   try simp at c49
  ·skip
   refine .skip (.seq (.block (.sr ?_)))
   refine .seq (.sr ?_)
   refine .seq ?_
   refine .zac [0,1,2,3,4,5,6,7,8,9,10] rfl zz0 ?_
   refine .rn [0,1] _ ?_
   refine .split (t:=40) rfl (fun c40=>?_) (fun c40=>?_)
   ·first|cases c40|cases bnt c40|cases bnf c40|try rw[c40]
    try simp at c40
   first|cases c40|cases bnt c40|cases bnf c40|try rw[c40]
   try simp at c40
   refine .rn [2,3,4,5,6,7,8,9,10] [] ?_
   refine .done ?_
   refine .cs ?_ ?_<;>intro c49
   ·try simp at c49
    exfalso;omega
   try simp at c49
   refine .skip (.sr ?_)
   refine .seq ?_
   refine .zac [0,1,2,3] rfl zz0 ?_
   refine .rn [0,1] _ ?_
   refine .pc rfl rfl rfl rfl rfl call123 (p123 D a) ?_
   obtain⟨z,hz⟩:∃z,(alk D.x a).isSome=z:=⟨_,rfl⟩
   rw[hz]
   refine .rn [3] [] ?_
   refine .done ?_
   refine .cs ?_ ?_<;>intro c61
   ·try simp at c61
    have hT1:zdd D (R.ps.take (k+1))=Z++[(a,p)]:=by rw[hT];simp[zjj,ho,Dk.line,hw,hz,c61]
    clear hT
    refine .rn ?_
    refine .rn ?_
    refine⟨k+1,c27,zz3,(.mk [] [(0,2)] zz8 zz9 rfl rfl rfl)⟩
   try simp at c61
   have hT1:zdd D (R.ps.take (k+1))=Z:=by rw[hT];simp[zjj,ho,Dk.line,hw,hz,c61]
   clear hT
   refine .skip (.rn ?_)
   refine⟨k+1,c27,zz3,(.mk [] [] zz8 zz9 rfl rfl rfl)⟩
  skip
  refine .skip (.seq (.block (.sr ?_)))
  refine .seq (.sr ?_)
  refine .seq ?_
  have hT1:zdd D (R.ps.take (k+1))=Z:=by rw[hT];simp[zjj,ho]
  clear hT
  refine .zac [0,1,2,3,4,5,6,7,8,9,10] rfl zz0 ?_
  refine .rn [0,1] _ ?_
  refine .split (t:=40) rfl (fun c40=>?_) (fun c40=>?_)
  ·first|cases c40|cases bnt c40|cases bnf c40|try rw[c40]
   try simp at c40
   refine .rn [2,3,4,5,6,7,8,9,10] [] ?_
   refine .done (.zgb rfl (.exit (.rn ?_)))
   refine⟨k+1,c27,zz3,(.mk [] [] zz8 zz9 rfl rfl rfl)⟩
  first|cases c40|cases bnt c40|cases bnf c40|try rw[c40]
  try simp at c40
 try simp at c27
 have hkn:k=R.ps.length:=by omega
 subst hkn
 refine .exit (.sr ?_)
 refine .ret ?_
 refine⟨_,_,zz2,zz2,?_⟩
 first|rfl|(simp[*];done)|(simp_all;done)
structure Rst where
  hs:List He
  ws:List (List Int)
  dy:Int
def wQ (l:List Int):PV:=if l=[] then .sl0 else ints l
def encS (S:Rst):PV:=.agg [.vec (S.hs.map zah),.vec (S.ws.map wQ),.int .i64 S.dy]
@[simp] theorem z7o:wQ []=.sl0:=rfl
@[simp] theorem zw7 (l:List Int):(wQ l).isF=true:=by unfold wQ;split<;>simp[ints,PV.isF]
@[simp] theorem wQ_frz (vh:zab)(l:List Int):frz vh (wQ l)=some (wQ l):=zx9 vh (zw7 l)
@[simp ↓ high] theorem z1b (l:List Int):(wQ l).cells=[wQ l]:=by unfold wQ;split<;>rfl
@[simp ↓ high] theorem zwd (l:List Int):(wQ l).one=true:=by unfold wQ;split<;>rfl
@[simp] theorem xet (l:List (List Int)):PV.allF (l.map wQ)=true:=by
 induction l with
 |nil=>rfl
 |cons a r ih=>simp[PV.allF,ih]
@[simp] theorem z2e (l:List He):PV.allF (l.map zah)=true:=by
 induction l with
 |nil=>rfl
 |cons a r ih=>simp[PV.allF,ih]
@[simp] theorem xbb (S:Rst):(encS S).isF=true:=by simp[encS,PV.isF,PV.allF]
@[simp] theorem z5j (S:Rst):(encS S).cells=[.vec (S.hs.map zah),.vec (S.ws.map wQ),.int .i64 S.dy]:=rfl
def plc (R:Reg)(id:Int):Int:=idxF (fun x=>decide (x=id)) 0 R.ps
def hld (S:Rst)(id:Int):Int:=idxF (fun u=>decide (u.p=id)) 0 S.hs
theorem p81 (R:Reg)(id:Int)(hl:R.ps.length<4294967296):zao prog 81 [encR R,.int .i64 id] fun r=>r=.int .i64 (plc R id):=by
 unfold encR plc
 refine .zag func81 rfl rfl ?_
 refine .sr ?_
 refine .seq (.sr ?_)
 refine .block ?_
 refine .zb5 (fun k:Nat=>([(1,.int .i64 id),(2,.vp [ints R.ps,.int .i64 R.sc,turns R.ts]),(5,.int .i64 k)],zab.empty)) (fun k=>k≤R.ps.length∧idxF (fun x=>decide (x=id)) k (R.ps.drop k)=idxF (fun x=>decide (x=id)) 0 R.ps) (fun k=>R.ps.length - k) 0 ⟨by simp,by simp⟩ (.mk [0] [] zz10 zz11 rfl rfl rfl) ?_
 rintro k ⟨hk,hr⟩
 simp only at hk hr ⊢
 refine .seq (.sr ?_)
 refine .cs ?_ ?_<;>intro c10
 ·try simp at c10
  have hw2:=wr1 k
  rw[zg7 _ R.ps k c10] at hr
  refine .skip (.seq (.block (.sr ?_)))
  refine .cs ?_ ?_<;>intro c19
  ·try simp at c19
   refine .sr ?_
   refine .ret ?_
   refine⟨_,_,zz2,zz2,?_⟩
   rw[← hr,if_pos (by simpa using c19)]
  try simp at c19
  refine .skip (.rn ?_)
  refine⟨k+1,⟨zz3,by rw[← hr,if_neg (by simpa using c19)]⟩,zz3,(.mk [] [] zz8 zz9 rfl rfl rfl)⟩
 try simp at c10
 have hk2:k=R.ps.length:=by omega
 rw[hk2,List.drop_length] at hr
 refine .exit (.sr ?_)
 refine .ret ?_
 refine⟨_,_,zz2,zz2,?_⟩
 rw[← hr];rfl
theorem p92 (S:Rst)(id:Int)(hl:S.hs.length<4294967296):zao prog 92 [encS S,.int .i64 id] fun r=>r=.int .i64 (hld S id):=by
 unfold encS hld
 refine .zag func92 rfl rfl ?_
 refine .sr ?_
 refine .seq (.sr ?_)
 refine .block ?_
 refine .zb5 (fun k:Nat=>([(1,.int .i64 id),(2,.vp [.vec (S.hs.map zah),.vec (S.ws.map wQ),.int .i64 S.dy]),(5,.int .i64 k)],zab.empty)) (fun k=>k≤S.hs.length∧idxF (fun u=>decide (u.p=id)) k (S.hs.drop k)=idxF (fun u=>decide (u.p=id)) 0 S.hs) (fun k=>S.hs.length - k) 0 ⟨by simp,by simp⟩ (.mk [0] [] zz10 zz11 rfl rfl rfl) ?_
 rintro k ⟨hk,hr⟩
 simp only at hk hr ⊢
 refine .seq (.sr ?_)
 refine .cs ?_ ?_<;>intro c10
 ·try simp at c10
  have hw2:=wr1 k
  rw[zg7 _ S.hs k c10] at hr
  refine .skip (.seq (.block (.sr ?_)))
  refine .cs ?_ ?_<;>intro c20
  ·try simp at c20
   refine .sr ?_
   refine .ret ?_
   refine⟨_,_,zz2,zz2,?_⟩
   rw[← hr,if_pos (by simpa using c20)]
  try simp at c20
  refine .skip (.rn ?_)
  refine⟨k+1,⟨zz3,by rw[← hr,if_neg (by simpa using c20)]⟩,zz3,(.mk [] [] zz8 zz9 rfl rfl rfl)⟩
 try simp at c10
 have hk2:k=S.hs.length:=by omega
 rw[hk2,List.drop_length] at hr
 refine .exit (.sr ?_)
 refine .ret ?_
 refine⟨_,_,zz2,zz2,?_⟩
 rw[← hr];rfl
attribute [local simp] xay
theorem p83 (R:Reg)(t:Tu)(hs:1≤R.sc∧R.sc≤16)(hl:R.ps.length<4294967296):zao prog 83 [encR R,encT t] fun r=>r=.bool (zbk R t):=by
 unfold encR encT
 have hw:IntKind.i64.wrap (R.sc - 1)=R.sc - 1:=wrap64 (by omega) (by omega)
 refine .zag func83 rfl rfl ?_
 refine .sr ?_
 refine .seq (.seq ?_)
 refine .zac [0,1,2,3,4,5,6,7,8,9,10,11,12] rfl zz0 ?_
 refine .rn [0,1] _ ?_
 refine .pc rfl rfl rfl rfl rfl call80 (p80 _ _ _) ?_
 refine .rn [3,4] _ ?_
 refine .split (t:=12) rfl (fun c12=>?_) (fun c12=>?_)
 ·first|cases c12|cases bnt c12|cases bnf c12|try rw[c12]
  try simp at c12
  refine .rn [5,6,7,8,9,10,11,12] [] ?_
  refine .done (.zgb rfl (.sr ?_))
  refine .ret ?_
  refine⟨_,_,zz2,zz2,?_⟩
  exact congrArg PV.bool (decide_eq_false (fun h=>by have h1:=h.1;have h2:=h.2.1;omega)).symm
 first|cases c12|cases bnt c12|cases bnf c12|try rw[c12]
 try simp at c12
 refine .rn [5,6,7,8,9] _ ?_
 refine .pc rfl rfl rfl rfl rfl call80 (p80 _ _ _) ?_
 refine .rn [11,12] [] ?_
 refine .done ?_
 refine .cs ?_ ?_<;>intro c20
 ·try simp at c20
  refine .sr ?_
  refine .ret ?_
  refine⟨_,_,zz2,zz2,?_⟩
  refine congrArg PV.bool ?_
  rw[Bool.eq_iff_iff]
  unfold zbk zbc
  simp_all<;>omega
 try simp at c20
 refine .skip (.sr ?_)
 refine .seq (.sr ?_)
 refine .cs ?_ ?_<;>intro c30
 ·try simp at c30
  refine .sr ?_
  refine .seq ?_
  refine .zac [0,1,2,3,4,5,6,7,8,9,10,11,12,13,14,15,16,17,18] rfl zz0 ?_
  refine .rn [0,1,2,3] _ ?_
  refine .split (t:=37) rfl (fun c37=>?_) (fun c37=>?_)
  ·first|cases c37|cases bnt c37|cases bnf c37|try rw[c37]
   try simp at c37
   refine .rn [4,5,6,7,8] _ ?_
   refine .pc rfl rfl rfl rfl rfl call80 (p80 _ _ _) ?_
   refine .rn [10,11] _ ?_
   refine .split (t:=45) rfl (fun c45=>?_) (fun c45=>?_)
   ·first|cases c45|cases bnt c45|cases bnf c45|try rw[c45]
    try simp at c45
    refine .rn [12,13,14,15,16,17,18] [] ?_
    refine .done (.ret ?_)
    refine⟨_,_,zz2,zz2,?_⟩
    refine congrArg PV.bool ?_
    rw[Bool.eq_iff_iff]
    unfold zbk zbc
    simp_all<;>omega
   first|cases c45|cases bnt c45|cases bnf c45|try rw[c45]
   try simp at c45
   refine .rn [12,13,14,15,16,17,18] [] ?_
   refine .done (.ret ?_)
   refine⟨_,_,zz2,zz2,?_⟩
   refine congrArg PV.bool ?_
   rw[Bool.eq_iff_iff]
   unfold zbk zbc
   simp_all<;>omega
  first|cases c37|cases bnt c37|cases bnf c37|try rw[c37]
  try simp at c37
  refine .rn [4,5,6,7,8,9,10,11,12,13,14,15,16,17,18] [] ?_
  refine .done (.ret ?_)
  refine⟨_,_,zz2,zz2,?_⟩
  refine congrArg PV.bool ?_
  rw[Bool.eq_iff_iff]
  unfold zbk zbc
  simp_all<;>omega
 try simp at c30
 refine .skip (.sr ?_)
 refine .seq ?_
 refine .zac [0,1,2,3,4,5] rfl zz0 ?_
 refine .rn [0,1,2,3] _ ?_
 refine .pc rfl rfl rfl rfl rfl call107 (p107 R.ps t.p hl) ?_
 refine .rn [5] [] ?_
 refine .done (.seq (.sr ?_))
 refine .cs ?_ ?_<;>intro c62
 ·try simp at c62
  refine .sr ?_
  refine .seq ?_
  refine .zac [0,1,2,3,4,5,6,7,8,9,10,11] rfl zz0 ?_
  refine .rn [0,1,2,3] _ ?_
  refine .split (t:=69) rfl (fun c69=>?_) (fun c69=>?_)
  ·first|cases c69|cases bnt c69|cases bnf c69|try rw[c69]
   try simp at c69
   refine .rn [4,5,6] _ ?_
   refine .split (t:=72) rfl (fun c72=>?_) (fun c72=>?_)
   ·first|cases c72|cases bnt c72|cases bnf c72|try rw[c72]
    try simp at c72
    refine .rn [7,8] _ ?_
    refine .pc rfl rfl rfl rfl rfl call80 (p80 _ _ _) ?_
    refine .rn [10,11] [] ?_
    refine .done (.ret ?_)
    refine⟨_,_,zz2,zz2,?_⟩
    refine congrArg PV.bool ?_
    rw[Bool.eq_iff_iff]
    unfold zbk zbc
    simp_all<;>omega
   first|cases c72|cases bnt c72|cases bnf c72|try rw[c72]
   try simp at c72
   refine .rn [7,8,9,10,11] [] ?_
   refine .done (.ret ?_)
   refine⟨_,_,zz2,zz2,?_⟩
   refine congrArg PV.bool ?_
   rw[Bool.eq_iff_iff]
   unfold zbk zbc
   simp_all<;>omega
  first|cases c69|cases bnt c69|cases bnf c69|try rw[c69]
  try simp at c69
  refine .rn [4,5,6,7,8,9,10,11] [] ?_
  refine .done (.ret ?_)
  refine⟨_,_,zz2,zz2,?_⟩
  refine congrArg PV.bool ?_
  rw[Bool.eq_iff_iff]
  unfold zbk zbc
  simp_all<;>omega
 try simp at c62
 refine .skip (.seq ?_)
 refine .zac [0,1,2,3,4,5,6,7,8,9,10,11,12,13] rfl zz0 ?_
 refine .rn [0,1,2,3] _ ?_
 refine .split (t:=80) rfl (fun c80=>?_) (fun c80=>?_)
 ·first|cases c80|cases bnt c80|cases bnf c80|try rw[c80]
  try simp at c80
  refine .rn [4,5,6,7,8,9,10,11,12,13] [] ?_
  refine .done (.seq ?_)
  refine .zac [0,1,2,3,4,5,6,7,8,9] rfl zz0 ?_
  refine .rn [0,1,2,3] _ ?_
  refine .split (t:=93) rfl (fun c93=>?_) (fun c93=>?_)
  ·first|cases c93|cases bnt c93|cases bnf c93|try rw[c93]
   try simp at c93
   refine .rn [4,5,6] _ ?_
   refine .split (t:=96) rfl (fun c96=>?_) (fun c96=>?_)
   ·first|cases c96|cases bnt c96|cases bnf c96|try rw[c96]
    try simp at c96
    refine .rn [7,8,9] [] ?_
    refine .done (.ret ?_)
    refine⟨_,_,zz2,zz2,?_⟩
    refine congrArg PV.bool ?_
    rw[Bool.eq_iff_iff]
    unfold zbk zbc
    simp_all<;>omega
   first|cases c96|cases bnt c96|cases bnf c96|try rw[c96]
   try simp at c96
   refine .rn [7,8,9] [] ?_
   refine .done (.ret ?_)
   refine⟨_,_,zz2,zz2,?_⟩
   refine congrArg PV.bool ?_
   rw[Bool.eq_iff_iff]
   unfold zbk zbc
   simp_all<;>omega
  first|cases c93|cases bnt c93|cases bnf c93|try rw[c93]
  try simp at c93
  refine .rn [4,5,6,7,8,9] [] ?_
  refine .done (.ret ?_)
  refine⟨_,_,zz2,zz2,?_⟩
  refine congrArg PV.bool ?_
  rw[Bool.eq_iff_iff]
  unfold zbk zbc
  simp_all<;>omega
 first|cases c80|cases bnt c80|cases bnf c80|try rw[c80]
 try simp at c80
 refine .rn [4,5,6,7,8] _ ?_
 refine .split (t:=85) rfl (fun c85=>?_) (fun c85=>?_)
 ·first|cases c85|cases bnt c85|cases bnf c85|try rw[c85]
  try simp at c85
  refine .rn [9,10,11,12,13] [] ?_
  refine .done (.seq ?_)
  refine .zac [0,1,2,3,4,5,6,7,8,9] rfl zz0 ?_
  refine .rn [0,1,2,3] _ ?_
  refine .split (t:=93) rfl (fun c93=>?_) (fun c93=>?_)
  ·first|cases c93|cases bnt c93|cases bnf c93|try rw[c93]
   try simp at c93
   refine .rn [4,5,6] _ ?_
   refine .split (t:=96) rfl (fun c96=>?_) (fun c96=>?_)
   ·first|cases c96|cases bnt c96|cases bnf c96|try rw[c96]
    try simp at c96
    refine .rn [7,8,9] [] ?_
    refine .done (.ret ?_)
    refine⟨_,_,zz2,zz2,?_⟩
    refine congrArg PV.bool ?_
    rw[Bool.eq_iff_iff]
    unfold zbk zbc
    simp_all<;>omega
   first|cases c96|cases bnt c96|cases bnf c96|try rw[c96]
   try simp at c96
   refine .rn [7,8,9] [] ?_
   refine .done (.ret ?_)
   refine⟨_,_,zz2,zz2,?_⟩
   refine congrArg PV.bool ?_
   rw[Bool.eq_iff_iff]
   unfold zbk zbc
   simp_all<;>omega
  first|cases c93|cases bnt c93|cases bnf c93|try rw[c93]
  try simp at c93
  refine .rn [4,5,6,7,8,9] [] ?_
  refine .done (.ret ?_)
  refine⟨_,_,zz2,zz2,?_⟩
  refine congrArg PV.bool ?_
  rw[Bool.eq_iff_iff]
  unfold zbk zbc
  simp_all<;>omega
 first|cases c85|cases bnt c85|cases bnf c85|try rw[c85]
 try simp at c85
 refine .rn [9,10,11,12,13] [] ?_
 refine .done (.seq ?_)
 refine .zac [0,1,2,3,4,5,6,7,8,9] rfl zz0 ?_
 refine .rn [0,1,2,3] _ ?_
 refine .split (t:=93) rfl (fun c93=>?_) (fun c93=>?_)
 ·first|cases c93|cases bnt c93|cases bnf c93|try rw[c93]
  try simp at c93
  refine .rn [4,5,6] _ ?_
  refine .split (t:=96) rfl (fun c96=>?_) (fun c96=>?_)
  ·first|cases c96|cases bnt c96|cases bnf c96|try rw[c96]
   try simp at c96
   refine .rn [7,8,9] [] ?_
   refine .done (.ret ?_)
   refine⟨_,_,zz2,zz2,?_⟩
   refine congrArg PV.bool ?_
   rw[Bool.eq_iff_iff]
   unfold zbk zbc
   simp_all<;>omega
  first|cases c96|cases bnt c96|cases bnf c96|try rw[c96]
  try simp at c96
  refine .rn [7,8,9] [] ?_
  refine .done (.ret ?_)
  refine⟨_,_,zz2,zz2,?_⟩
  refine congrArg PV.bool ?_
  rw[Bool.eq_iff_iff]
  unfold zbk zbc
  simp_all<;>omega
 first|cases c93|cases bnt c93|cases bnf c93|try rw[c93]
 try simp at c93
 refine .rn [4,5,6,7,8,9] [] ?_
 refine .done (.ret ?_)
 refine⟨_,_,zz2,zz2,?_⟩
 refine congrArg PV.bool ?_
 rw[Bool.eq_iff_iff]
 unfold zbk zbc
 simp_all<;>omega
def beg (R:Reg):Rst:=⟨List.replicate R.sc.toNat ⟨0,0,0,0⟩,List.replicate R.ps.length [],0⟩
theorem zrj {α:Type}(k:Nat)(a:α):List.replicate k a++[a]=List.replicate (k+1) a:=List.replicate_succ'.symm
@[simp] theorem z0t (x:He):zdj [zah x]=true:=rfl
theorem p82 (R:Reg)(hs:1≤R.sc∧R.sc≤16)(hl:R.ps.length<4294967296):zao prog 82 [encR R] fun r=>r=encS (beg R):=by
 unfold encR encS beg
 obtain⟨n,hn⟩:∃n:Nat,R.sc=n:=⟨R.sc.toNat,by omega⟩
 have hnt:R.sc.toNat=n:=by omega
 rw[hnt,hn]
 rw[hn] at hs
 clear hnt hn
 refine .zag func82 rfl rfl ?_
 refine .sr ?_
 refine .sr ?_
 refine .seq (.sr ?_)
 refine .block ?_
 refine .zb5 (fun k:Nat=>([(1,.ptr 0 0),(2,.ptr 1 0),(3,.ptr 2 0),(4,.int .i64 k)],⟨4,[(3,.grow 4 (List.replicate k (zah ⟨0,0,0,0⟩))),(2,.box [.grow 3 k true,.sl0,.int .i64 0]),(1,.box [.sl0,.sl0,.int .i64 0]),(0,.box [ints R.ps,.int .i64 n,turns R.ts])]⟩)) (fun k=>k≤n) (fun k=>n - k) 0 (by simp) (.mk [] [] zz8 zz9 rfl rfl rfl) ?_
 rintro k hk
 simp only at hk ⊢
 refine .seq (.sr ?_)
 refine .cs ?_ ?_<;>intro c10
 ·try simp at c10
  have c10:k<n:=by simpa using c10
  have hw2:=wr1 k
  have hk3:k≤4294967295:=by omega
  have hrp:=zrj k (zah ⟨0,0,0,0⟩)
  refine .skip (.seq (.block (.rn ?_)))
  refine .rn ?_
  refine⟨k+1,zz3,zz3,(.mk [] [(3,5)] zz8 zz9 rfl rfl rfl)⟩
 try simp at c10
 have c10:n≤k:=by simpa using c10
 have hk2:n=k:=by omega
 subst hk2
 refine .exit (.seq (.sr ?_))
 refine .block ?_
 refine .zb5 (fun k:Nat=>([(1,.ptr 0 0),(2,.ptr 1 0),(3,.ptr 2 0),(5,.int .i64 k)],⟨5,[(4,.grow 1 (List.replicate k .sl0)),(3,.grow 4 (List.replicate n (zah ⟨0,0,0,0⟩))),(2,.box [.grow 3 n true,.grow 4 k true,.int .i64 0]),(1,.box [.sl0,.sl0,.int .i64 0]),(0,.box [ints R.ps,.int .i64 n,turns R.ts])]⟩)) (fun k=>k≤R.ps.length) (fun k=>R.ps.length - k) 0 (by simp) (.mk [] [] zz8 zz9 rfl rfl rfl) ?_
 rintro k hk
 simp only at hk ⊢
 refine .seq (.sr ?_)
 refine .cs ?_ ?_<;>intro c23
 ·try simp at c23
  have c23:k<R.ps.length:=by simpa using c23
  have hw2:=wr1 k
  have hk3:k≤4294967295:=by omega
  have hrp:=zrj k PV.sl0
  refine .skip (.seq (.block (.rn ?_)))
  refine .rn ?_
  refine⟨k+1,zz3,zz3,(.mk [] [(4,6)] zz8 zz9 rfl rfl rfl)⟩
 try simp at c23
 have c23:R.ps.length≤k:=by simpa using c23
 have hk2:k=R.ps.length:=by omega
 subst hk2
 refine .exit (.sr ?_)
 refine .ret ?_
 refine⟨_,_,zz2,zz2,?_⟩
 first|rfl|(simp[*];done)|(simp_all;done)
@[simp] theorem z0c (l:List He):zdj (l.map zah)=true:=by unfold zdj;simp[PV.one]
@[simp] theorem z4t (l:List (List Int)):zdj (l.map wQ)=true:=by unfold zdj;simp
theorem xe6 (S:Rst)(hh:S.hs.length<4294967296)(hw:S.ws.length<4294967296)(hl:∀l∈S.ws,l.length<4294967296):zar prog 138 [encS S] ⟨4,[]⟩ fun v vh'=>v=.agg [.grow 7 S.hs.length true,.grow 8 S.ws.length true,.int .i64 S.dy]∧vh'.next=9∧vh'.get 7=some (.grow 4 (S.hs.map zah))∧vh'.get 8=some (.grow 1 (S.ws.map wQ)):=by
 unfold encS
 have hh2:S.hs.length≤4294967296:=by omega
 refine .zag func138 rfl rfl ?_
 refine .sr ?_
 refine .sr ?_
 refine .sr ?_
 refine .seq (.sr ?_)
 refine .block ?_
 refine .zb5 (fun k:Nat=>([(1,.ptr 4 0),(2,.ptr 5 0),(3,.ptr 6 0),(4,.int .i64 k)],⟨9,[(8,.grow 1 ((S.ws.map wQ).take k)),(7,.grow 4 (S.hs.map zah)),(6,.box [.grow 7 S.hs.length true,.grow 8 k true,.int .i64 S.dy]),(5,.box [.sl0,.sl0,.int .i64 0]),(4,.box [.vec (S.hs.map zah),.vec (S.ws.map wQ),.int .i64 S.dy])]⟩)) (fun k=>k≤S.ws.length) (fun k=>S.ws.length - k) 0 (by simp) (.mk [] [] zz8 zz9 rfl rfl rfl) ?_
 rintro k hk
 simp only at hk ⊢
 refine .seq (.sr ?_)
 refine .cs ?_ ?_<;>intro c19
 ·try simp at c19
  have hw2:=wr1 k
  have hk3:k≤4294967295:=by omega
  obtain⟨l,hle⟩:∃l,S.ws[k]=l:=⟨_,rfl⟩
  have hll:l.length<4294967296:=hl l (hle▸List.getElem_mem c19)
  have htk:(S.ws.map wQ).take k++[wQ l]=(S.ws.map wQ).take (k+1):=by rw[List.take_succ_eq_append_getElem (by simpa using c19)];simp[hle]
  rcases Decidable.em (l=[]) with h0|h0
  ·skip
   refine .skip (.seq (.block (.seq ?_)))
   subst h0
   rw[z7o] at htk
   refine .rn ?_
   refine .sr ?_
   refine .rec (vts2:=[(1,.ptr 4 0),(2,.ptr 5 0),(3,.ptr 6 0),(4,.int .i64 k),(5,.sl0)]) (vh2:=⟨9,[(8,.grow 1 ((S.ws.map wQ).take k)),(7,.grow 4 (S.hs.map zah)),(6,.box [.grow 7 S.hs.length true,.grow 8 k true,.int .i64 S.dy]),(5,.box [.sl0,.sl0,.int .i64 0]),(4,.box [.vec (S.hs.map zah),.vec (S.ws.map wQ),.int .i64 S.dy])]⟩) (.mk [9] [] zz20 zz21 rfl rfl rfl) ?_
   refine .rn ?_
   refine .rn ?_
   refine⟨k+1,zz3,zz3,(.mk [] [(8,10)] zz8 zz9 rfl rfl rfl)⟩
  skip
  refine .skip (.seq (.block (.seq ?_)))
  have hq:wQ l=.vec (l.map (.int .i64)):=if_neg h0
  rw[hq] at htk
  have hll2:l.length≤4294967296:=by omega
  refine .rn ?_
  refine .sr ?_
  refine .rec (vts2:=[(1,.ptr 4 0),(2,.ptr 5 0),(3,.ptr 6 0),(4,.int .i64 k),(5,.vec (l.map (.int .i64)))]) (vh2:=⟨9,[(8,.grow 1 ((S.ws.map wQ).take k)),(7,.grow 4 (S.hs.map zah)),(6,.box [.grow 7 S.hs.length true,.grow 8 k true,.int .i64 S.dy]),(5,.box [.sl0,.sl0,.int .i64 0]),(4,.box [.vec (S.hs.map zah),.vec (S.ws.map wQ),.int .i64 S.dy])]⟩) (.mk [9] [] zz8 zz9 rfl rfl rfl) ?_
  refine .rn ?_
  refine .rn ?_
  refine⟨k+1,zz3,zz3,(.mk [] [(8,10)] zz8 zz9 rfl rfl rfl)⟩
 try simp at c19
 have hk2:k=S.ws.length:=by omega
 subst hk2
 refine .exit (.sr ?_)
 refine .ret ?_
 exact⟨_,zz2,rfl,rfl,rfl,by simp[zab.get,zbl,List.take_of_length_le]⟩
@[simp ↓ high] theorem xaa (vh:zab)(l:List Int):zcz vh 1 (wQ l)=some (l.map (.int .i64)):=by
 unfold wQ
 split
 ·rename_i h;subst h;rfl
 simp[zcz,ints]
theorem z2r {vh:zab}{n2:Nat}{D:Nat→Bool}{ρ:Nat→Nat}{i:Nat}{l:List Int}(hD:D i=true)(hg:vh.get i=some (.grow 1 (l.map (.int .i64)))):Alt vh n2 D ρ (.grow i l.length true) (wQ l):=by
 unfold wQ
 split
 ·rename_i h;subst h;exact .grow0s i
 exact .fgrow i l.length true 1 _ hD hg (by simp)
@[simp] theorem z4z (l:List Int):zdj [wQ l]=true:=by unfold zdj;simp
def cp1 (S:Rst)(k:Nat):VTs×zab:=([(1,.ptr 4 0),(2,.ptr 5 0),(3,.ptr 6 0),(4,.int .i64 k)],⟨9,[(8,.grow 1 ((S.ws.map wQ).take k)),(7,.grow 4 (S.hs.map zah)),(6,.box [.grow 7 S.hs.length true,.grow 8 k true,.int .i64 S.dy]),(5,.box [.sl0,.sl0,.int .i64 0]),(4,.box [.vec (S.hs.map zah),.vec (S.ws.map wQ),.int .i64 S.dy])]⟩)
def livW (S:Rst)(p:Nat)(L:List Int):List PV:=(S.ws.map wQ).set p (.grow 9 L.length true)
def cp2 (S:Rst)(p:Nat)(L:List Int)(k:Nat):VTs×zab:=([(1,.ptr 4 0),(2,.ptr 5 0),(3,.ptr 6 0),(4,.int .i64 k)],⟨10,[(8,.fgrow ((livW S p L).take k)),(9,.grow 1 (L.map (.int .i64))),(7,.grow 4 (S.hs.map zah)),(6,.box [.grow 7 S.hs.length true,.grow 8 k true,.int .i64 S.dy]),(5,.box [.sl0,.sl0,.int .i64 0]),(4,.box [.vec (S.hs.map zah),.vec (S.ws.map wQ),.int .i64 S.dy])]⟩)
def cpS (S:Rst)(p:Nat)(L:List Int)(k:Nat):VTs×zab:=if k≤p then cp1 S k else cp2 S p L k
theorem zi1 (S:Rst)(p:Nat)(L:List Int):(livW S p L).length=S.ws.length:=by simp[livW]
theorem zo6 {S:Rst}{p:Nat}{L:List Int}{e:PV}(h:e∈livW S p L):(∃l,e=wQ l)∨e=.grow 9 L.length true:=by
 rcases List.mem_or_eq_of_mem_set h with h|h
 ·obtain⟨l,_,rfl⟩:=List.mem_map.1 h;exact .inl ⟨l,rfl⟩
 exact .inr h
theorem fgL {vh:zab}{n2:Nat}{D:Nat→Bool}{ρ:Nat→Nat}{es:List PV}{m:Nat}(h9:ρ 9=9)(hn:9<n2)(hes:∀e∈es,(∃l,e=wQ l)∨e=.grow 9 m true):AltL vh n2 D ρ es es:=
 ⟨rfl,fun i v v2 h1 h2=>by
  rw[h1] at h2;injection h2 with h2;subst h2
  rcases hes v (List.mem_of_getElem? h1) with⟨l,rfl⟩|rfl
  ·exact .same _ (zw7 l)
  exact .grow 9 9 m true hn h9⟩
theorem fgO {vh:zab}{n2:Nat}{D:Nat→Bool}{ρ:Nat→Nat}{S:Rst}{p k:Nat}{L:List Int}{es:List PV}(h9:ρ 9=9)(hn:9<n2)(he:es=(livW S p L).take k):AltO vh n2 D ρ (.fgrow es) (.fgrow ((livW S p L).take k)):=by
 subst he
 refine⟨fgL h9 hn fun e h=>zo6 (List.mem_of_mem_take h),fun e h=>?_⟩
 rcases zo6 (List.mem_of_mem_take h) with⟨l,rfl⟩|rfl
 ·exact PV.zii (zwd l)
 rfl
theorem zyk {S:Rst}{p:Nat}{L:List Int}(h:p<S.ws.length):(S.ws.map wQ).take p++[.grow 9 L.length true]=(livW S p L).take (p+1):=by
 unfold livW
 rw[List.take_succ_eq_append_getElem (by simpa using h)]
 simp[List.take_set_of_le]
theorem zwa {S:Rst}{p k:Nat}{L l:List Int}(h:p<k)(hk:k<S.ws.length)(hl:S.ws[k]=l):(livW S p L).take k++[wQ l]=(livW S p L).take (k+1):=by
 rw[List.take_succ_eq_append_getElem (by simpa[livW] using hk)]
 congr 1
 unfold livW
 rw[List.getElem_set_ne (by omega)]
 simp[hl]
theorem grFO {vh:zab}{n2:Nat}{D:Nat→Bool}{ρ:Nat→Nat}{S:Rst}{k:Nat}(h:0<k)(hk:k<S.ws.length):AltO vh n2 D ρ (.grow 1 ((S.ws.map wQ).take k)) (.fgrow ((S.ws.map wQ).take k)):=
 ⟨rfl,rfl,fun h0=>by have:=congrArg List.length h0;rw[List.length_take,List.length_map] at this;simp only[List.length_nil] at this;omega,fun e he=>by
  obtain⟨l,_,rfl⟩:=List.mem_map.1 (List.mem_of_mem_take he);exact PV.zii (zwd l)⟩
theorem cpS1 {S:Rst}{p k:Nat}{L:List Int}(h:k≤p):cpS S p L k=cp1 S k:=if_pos h
theorem cpS2 {S:Rst}{p k:Nat}{L:List Int}(h:p<k):cpS S p L k=cp2 S p L k:=if_neg (by omega)
theorem xd0 (S:Rst)(p:Nat)(L:List Int)(hp:S.ws[p]?=some L)(hh:S.hs.length<4294967296)(hw:S.ws.length<4294967296)(hl:∀l∈S.ws,l.length<4294967296):zar prog 138 [encS S] ⟨4,[]⟩ fun v vh'=>v=.agg [.grow 7 S.hs.length true,.grow 8 S.ws.length true,.int .i64 S.dy]∧vh'.next=10∧vh'.get 7=some (.grow 4 (S.hs.map zah))∧vh'.get 8=some (.fgrow (livW S p L))∧vh'.get 9=some (.grow 1 (L.map (.int .i64))):=by
  unfold encS
  have hh2:S.hs.length≤4294967296:=by omega
  refine .zag func138 rfl rfl ?_
  refine .sr ?_
  refine .sr ?_
  refine .sr ?_
  refine .seq (.sr ?_)
  refine .block ?_
  refine .zb5 (cpS S p L) (fun k=>k≤S.ws.length) (fun k=>S.ws.length - k) 0 (by simp) (by rw[cpS1 (Nat.zero_le _)];unfold cp1;exact(.mk [] [] (by repeat' (first|exact trivial|refine And.intro (Exists.intro _ (And.intro rfl ?_)) ?_|(refine Alt.same _ ?_;first|rfl|(simp[*];done))|exact Alt.mapv _ _ (xf0 rfl) rfl|exact Alt.grow _ _ _ _ (xf0 rfl) rfl|(refine Alt.zn4 _ _ _ _ _ ?_ (xf0 rfl) rfl;simp[*];done)|exact Alt.ptr _ _ _ (xf0 rfl) rfl|exact Alt.own _ _ _ _ _ (xf0 rfl) rfl|exact Alt.sub _ _ _ _ (xf0 rfl) rfl|exact Alt.yld _ _ (xf0 rfl) rfl|exact Alt.sl0 _ _|(refine Alt.sl0E _ _ _ ?_;simp[*];done)|exact Alt.e0 _|exact Alt.func' AltL.nil (AltL.cons (Alt.ptr _ _ _ (xf0 rfl) rfl) AltL.nil)|exact Alt.sl0v|exact Alt.own0 _ _ _|(refine Alt.fgrow _ _ _ _ _ rfl rfl ?_;simp[*];done)|exact Alt.fown _ _ _ _ _ _ _ _ rfl rfl rfl|exact Alt.fmap _ _ rfl rfl|(refine Alt.zn9 ?_;simp[*]<;>rfl)|(refine Alt.ofEq rfl ?_;simp[*];done))) (by repeat' (first|exact trivial|refine And.intro (And.intro (xf0 rfl) (Or.inr (And.intro rfl (Exists.intro _ (And.intro rfl ?_))))) ?_|refine And.intro (And.intro (xf0 rfl) (Or.inl (Exists.intro _ (And.intro rfl (xf0 rfl))))) ?_|refine And.intro (And.intro (xf0 rfl) (Or.inl (Exists.intro _ (And.intro (congrArg (VObj.grow _) (by simp[*])) (xf0 rfl))))) ?_|rfl|exact AltL.nil|(refine congrArg (VObj.grow _) ?_;simp[*];done)|(refine congrArg VObj.map ?_;simp[*];done)|(refine congrArg (VObj.arr _ _) ?_;simp[*];done)|refine zr1.mk rfl rfl rfl rfl rfl ?_|refine And.intro (Exists.intro _ (And.intro rfl ?_)) ?_|refine AltL.cons ?_ ?_|(refine Alt.same _ ?_;first|rfl|(simp[*];done))|exact Alt.mapv _ _ (xf0 rfl) rfl|exact Alt.grow _ _ _ _ (xf0 rfl) rfl|(refine Alt.zn4 _ _ _ _ _ ?_ (xf0 rfl) rfl;simp[*];done)|exact Alt.ptr _ _ _ (xf0 rfl) rfl|exact Alt.own _ _ _ _ _ (xf0 rfl) rfl|exact Alt.sub _ _ _ _ (xf0 rfl) rfl|exact Alt.yld _ _ (xf0 rfl) rfl|exact Alt.sl0 _ _|(refine Alt.sl0E _ _ _ ?_;simp[*];done)|exact Alt.e0 _|exact Alt.func' AltL.nil (AltL.cons (Alt.ptr _ _ _ (xf0 rfl) rfl) AltL.nil)|exact Alt.sl0v|exact Alt.own0 _ _ _|(refine Alt.fgrow _ _ _ _ _ rfl rfl ?_;simp[*];done)|exact Alt.fown _ _ _ _ _ _ _ _ rfl rfl rfl|exact Alt.fmap _ _ rfl rfl|(refine Alt.zn9 ?_;simp[*]<;>rfl)|(refine Alt.ofEq rfl ?_;simp[*];done))) rfl rfl rfl)) ?_
  rintro k hk
  simp only at hk ⊢
  rcases (show k<p∨(k=p∧¬0<k)∨(k=p∧0<k)∨p<k by omega) with hkp|⟨rfl,hk0⟩|⟨rfl,hk0⟩|hkp
  · skip
    refine .seq (.seq ?_)
    rw[cpS1 (by omega)];unfold cp1;simp only
    refine .rn ?_
    refine .cs ?_ ?_<;>intro c19
    · try simp at c19
      have hw2:=wr1 k
      have hk3:k≤4294967295:=by omega
      obtain⟨l,hle⟩:∃l,S.ws[k]=l:=⟨_,rfl⟩
      have hll:l.length<4294967296:=hl l (hle▸List.getElem_mem c19)
      have hll2:l.length≤4294967296:=by omega
      have htk:(S.ws.map wQ).take k++[wQ l]=(S.ws.map wQ).take (k+1):=by rw[List.take_succ_eq_append_getElem (by simpa using c19)];simp[hle]
      refine .skip (.seq (.block (.sr ?_)))
      refine .sr ?_
      refine .rec (vts2:=[(1,.ptr 4 0),(2,.ptr 5 0),(3,.ptr 6 0),(4,.int .i64 k),(5,wQ l)]) (vh2:=(cp1 S k).2) (.mk [9] [] zz20 zz21 rfl rfl rfl) ?_
      unfold cp1;simp only
      first
      |refine .rn ?_
      | (refine .zac [0,1,2,3,4,5,6] rfl zz0 ?_
         refine .rn [0,1,2] _ ?_
         refine .step rfl rfl (.zhw (e:=22) (z:=.sl0) rfl (by simp) (by simp) rfl (by simp[PV.one]) (by decide) ?_)
         first
         |refine .step rfl rfl (.zl1 (e:=22) (z:=.sl0) (e2:=22) (n2:=1) (bytes:=24) (nl:=true) rfl (by simp) (by simp) (by simp) (by simp) (by decide) rfl (.inr ⟨_,rfl⟩) rfl rfl rfl (by simp[PV.one]) (by decide) ?_)
         |refine .step rfl rfl (.zpy (e:=22) (z:=.sl0) (e2:=22) (n2:=1) (bytes:=24) rfl (by simp) (by simp) (by simp) (by simp) (by decide) rfl rfl (by simp[zi1];omega) rfl rfl rfl (by simp[PV.one]) (by omega) (by decide) ?_)
         refine .rn [5,6] [] ?_
         refine .done ?_)
      refine .rn ?_
      refine⟨k+1,zz3,zz3,by rw[cpS1 (by omega)];unfold cp1;exact(.mk [] [(8,10)] zz8 zz9 rfl rfl rfl)⟩
    try simp at c19
    have:=(List.getElem?_eq_some_iff.1 hp).1;omega
  · skip
    refine .seq (.seq ?_)
    rw[cpS1 (by omega)];unfold cp1;simp only
    refine .rn ?_
    refine .cs ?_ ?_<;>intro c19
    · try simp at c19
      have hw2:=wr1 k
      have hk3:k≤4294967295:=by omega
      obtain⟨l,hle⟩:∃l,S.ws[k]=l:=⟨_,rfl⟩
      have hll:l.length<4294967296:=hl l (hle▸List.getElem_mem c19)
      have hll2:l.length≤4294967296:=by omega
      have htk:(S.ws.map wQ).take k++[wQ l]=(S.ws.map wQ).take (k+1):=by rw[List.take_succ_eq_append_getElem (by simpa using c19)];simp[hle]
      refine .skip (.seq (.block (.sr ?_)))
      refine .sr ?_
      obtain rfl:l=L:=by have:=(List.getElem?_eq_some_iff.1 hp).2;rw[← this];exact hle.symm
      obtain rfl:k=0:=by omega
      first
      |refine .rn ?_
      | (refine .zac [0,1,2,3,4,5,6] rfl zz0 ?_
         refine .rn [0,1,2] _ ?_
         refine .step rfl rfl (.zhw (e:=22) (z:=.sl0) rfl (by simp) (by simp) rfl (by simp[PV.one]) (by decide) ?_)
         first
         |refine .step rfl rfl (.zl1 (e:=22) (z:=.sl0) (e2:=22) (n2:=1) (bytes:=24) (nl:=true) rfl (by simp) (by simp) (by simp) (by simp) (by decide) rfl (.inr ⟨_,rfl⟩) rfl rfl rfl (by simp[PV.one]) (by decide) ?_)
         |refine .step rfl rfl (.zpy (e:=22) (z:=.sl0) (e2:=22) (n2:=1) (bytes:=24) rfl (by simp) (by simp) (by simp) (by simp) (by decide) rfl rfl (by simp[zi1];omega) rfl rfl rfl (by simp[PV.one]) (by omega) (by decide) ?_)
         refine .rn [5,6] [] ?_
         refine .done ?_)
      refine .rn ?_
      refine⟨0+1,zz3,zz3,by rw[cpS2 (by omega)];unfold cp2;exact(.mk [] [(8,11)] zz20 zz21 rfl rfl rfl)⟩
    try simp at c19
    have:=(List.getElem?_eq_some_iff.1 hp).1;omega
  · skip
    refine .seq (.seq ?_)
    rw[cpS1 (by omega)];unfold cp1;simp only
    refine .rn ?_
    refine .cs ?_ ?_<;>intro c19
    · try simp at c19
      have hw2:=wr1 k
      have hk3:k≤4294967295:=by omega
      obtain⟨l,hle⟩:∃l,S.ws[k]=l:=⟨_,rfl⟩
      have hll:l.length<4294967296:=hl l (hle▸List.getElem_mem c19)
      have hll2:l.length≤4294967296:=by omega
      have htk:(S.ws.map wQ).take k++[wQ l]=(S.ws.map wQ).take (k+1):=by rw[List.take_succ_eq_append_getElem (by simpa using c19)];simp[hle]
      refine .skip (.seq (.block (.sr ?_)))
      refine .sr ?_
      obtain rfl:l=L:=by have:=(List.getElem?_eq_some_iff.1 hp).2;rw[← this];exact hle.symm
      refine .rec (vts2:=[(1,.ptr 4 0),(2,.ptr 5 0),(3,.ptr 6 0),(4,.int .i64 k),(5,.grow 9 l.length true)]) (vh2:=⟨10,[(9,.grow 1 (l.map (.int .i64))),(8,.fgrow ((S.ws.map wQ).take k)),(7,.grow 4 (S.hs.map zah)),(6,.box [.grow 7 S.hs.length true,.grow 8 k true,.int .i64 S.dy]),(5,.box [.sl0,.sl0,.int .i64 0]),(4,.box [.vec (S.hs.map zah),.vec (S.ws.map wQ),.int .i64 S.dy])]⟩) (.mk [] [] zz20 zz21 rfl rfl rfl) ?_
      first
      |refine .rn ?_
      | (refine .zac [0,1,2,3,4,5,6] rfl zz0 ?_
         refine .rn [0,1,2] _ ?_
         refine .step rfl rfl (.zhw (e:=22) (z:=.sl0) rfl (by simp) (by simp) rfl (by simp[PV.one]) (by decide) ?_)
         first
         |refine .step rfl rfl (.zl1 (e:=22) (z:=.sl0) (e2:=22) (n2:=1) (bytes:=24) (nl:=true) rfl (by simp) (by simp) (by simp) (by simp) (by decide) rfl (.inr ⟨_,rfl⟩) rfl rfl rfl (by simp[PV.one]) (by decide) ?_)
         |refine .step rfl rfl (.zpy (e:=22) (z:=.sl0) (e2:=22) (n2:=1) (bytes:=24) rfl (by simp) (by simp) (by simp) (by simp) (by decide) rfl rfl (by simp[zi1];omega) rfl rfl rfl (by simp[PV.one]) (by omega) (by decide) ?_)
         refine .rn [5,6] [] ?_
         refine .done ?_)
      refine .rn ?_
      refine⟨k+1,zz3,zz3,by rw[cpS2 (by omega)];unfold cp2;exact(.mk [] [(8,11)] zz20 zz21 rfl rfl rfl)⟩
    try simp at c19
    have:=(List.getElem?_eq_some_iff.1 hp).1;omega
  skip
  refine .seq (.seq ?_)
  rw[cpS2 hkp];unfold cp2;simp only
  refine .rn ?_
  refine .cs ?_ ?_<;>intro c19
  · try simp at c19
    have hw2:=wr1 k
    have hk3:k≤4294967295:=by omega
    obtain⟨l,hle⟩:∃l,S.ws[k]=l:=⟨_,rfl⟩
    have hll:l.length<4294967296:=hl l (hle▸List.getElem_mem c19)
    have hll2:l.length≤4294967296:=by omega
    have htk:(S.ws.map wQ).take k++[wQ l]=(S.ws.map wQ).take (k+1):=by rw[List.take_succ_eq_append_getElem (by simpa using c19)];simp[hle]
    refine .skip (.seq (.block (.sr ?_)))
    refine .sr ?_
    refine .rec (vts2:=[(1,.ptr 4 0),(2,.ptr 5 0),(3,.ptr 6 0),(4,.int .i64 k),(5,wQ l)]) (vh2:=⟨10,[(9,.grow 1 (L.map (.int .i64))),(8,.fgrow ((livW S p L).take k)),(7,.grow 4 (S.hs.map zah)),(6,.box [.grow 7 S.hs.length true,.grow 8 k true,.int .i64 S.dy]),(5,.box [.sl0,.sl0,.int .i64 0]),(4,.box [.vec (S.hs.map zah),.vec (S.ws.map wQ),.int .i64 S.dy])]⟩) (.mk [10] [] zz20 zz21 rfl rfl rfl) ?_
    first
    |refine .rn ?_
    | (refine .zac [0,1,2,3,4,5,6] rfl zz0 ?_
       refine .rn [0,1,2] _ ?_
       refine .step rfl rfl (.zhw (e:=22) (z:=.sl0) rfl (by simp) (by simp) rfl (by simp[PV.one]) (by decide) ?_)
       first
       |refine .step rfl rfl (.zl1 (e:=22) (z:=.sl0) (e2:=22) (n2:=1) (bytes:=24) (nl:=true) rfl (by simp) (by simp) (by simp) (by simp) (by decide) rfl (.inr ⟨_,rfl⟩) rfl rfl rfl (by simp[PV.one]) (by decide) ?_)
       |refine .step rfl rfl (.zpy (e:=22) (z:=.sl0) (e2:=22) (n2:=1) (bytes:=24) rfl (by simp) (by simp) (by simp) (by simp) (by decide) rfl rfl (by simp[zi1];omega) rfl rfl rfl (by simp[PV.one]) (by omega) (by decide) ?_)
       refine .rn [5,6] [] ?_
       refine .done ?_)
    refine .rn ?_
    refine⟨k+1,zz3,zz3,by rw[cpS2 (by omega)];unfold cp2;exact(.mk [] [(8,11)] zz20 zz21 rfl rfl rfl)⟩
  try simp at c19
  have hk2:k=S.ws.length:=by omega
  subst hk2
  refine .exit (.sr ?_)
  refine .ret ?_
  exact⟨_,zz2,rfl,rfl,rfl,by simp[zab.get,zbl,List.take_of_length_le,zi1],rfl⟩
end Go.Am.Hi
end
section
namespace Go.Am.Hi
open Go Go.Am Go.Proofs
def sHe (S:Rst)(s:Int):He:=(S.hs[s.toNat]?).getD ⟨0,0,0,0⟩
def sWt (S:Rst)(i:Int):List Int:=(S.ws[i.toNat]?).getD []
def zcj (R:Reg)(S:Rst)(t:Tu):Rst×Bool:=
 if t.d<S.dy then (S,false)
 else if t.k=4 then
  if (sHe S t.s).p=0∨(sHe S t.o).p=0 then (⟨S.hs,S.ws,t.d⟩,false)
  else if t.s∈sWt S (plc R (sHe S t.o).p)∨t.o∈sWt S (plc R (sHe S t.s).p) then (⟨S.hs,S.ws,t.d⟩,false)
  else (⟨(S.hs.set t.s.toNat { sHe S t.s with p:=(sHe S t.o).p }).set t.o.toNat { sHe S t.o with p:=(sHe S t.s).p },S.ws,t.d⟩,true)
 else
  if t.k=1 then (⟨S.hs,S.ws.set (plc R t.p).toNat (sWt S (plc R t.p)++[t.s]),t.d⟩,!decide ((sHe S t.s).p=t.p)&&!decide (t.s∈sWt S (plc R t.p)))
  else if t.k=5 then (⟨S.hs,S.ws.set (plc R t.p).toNat (outS (sWt S (plc R t.p)) t.s),t.d⟩,decide (t.s∈sWt S (plc R t.p)))
  else if t.k=3 then (⟨S.hs.set t.s.toNat ⟨0,0,0,0⟩,S.ws,t.d⟩,decide ((sHe S t.s).p=t.p))
  else if t.k=2 then (⟨S.hs.set t.s.toNat ⟨t.p,t.s,t.d,t.d+7*t.w⟩,S.ws.set (plc R t.p).toNat (outS (sWt S (plc R t.p)) t.s),t.d⟩,
   decide (hld S t.p<0)&&decide ((sHe S t.s).p=0)&&(decide (sWt S (plc R t.p)=[])||decide ((sWt S (plc R t.p)).head?=some t.s)))
  else (⟨S.hs,S.ws,t.d⟩,false)
structure Agr (R:Reg) (D:Dk) (S:Rst):Prop where
  dy:S.dy=D.d
  hl:(S.hs.length:Int)=R.sc
  wl:S.ws.length=R.ps.length
  hs:∀s:Nat,s<S.hs.length→S.hs[s]?=some ((alk D.x s).getD ⟨0,0,0,0⟩)
  ws:∀(i:Nat) (p:Int),R.ps[i]?=some p→S.ws[i]?=some (D.line p)
theorem Agr.beg {R:Reg}(h:1≤R.sc):Agr R ⟨0,[],[],[]⟩ (beg R) where
  dy:=rfl
  hl:=by simp[Hi.beg];omega
  wl:=by simp[Hi.beg]
  hs:=fun s h=>by
    have h':s<R.sc.toNat:=by simpa[Hi.beg] using h
    simp[Hi.beg,List.getElem?_replicate,alk,h']
  ws:=fun i p h=>by
    have h':=(List.getElem?_eq_some_iff.1 h).1
    simp[Hi.beg,List.getElem?_replicate,h',Dk.line,alk]
theorem Agr.he {R:Reg}{D:Dk}{S:Rst}(a:Agr R D S){s:Int}(h0:0≤s)(h1:s≤R.sc - 1):sHe S s=(alk D.x s).getD ⟨0,0,0,0⟩:=by
 have hl:=a.hl
 unfold sHe
 rw[a.hs s.toNat (by omega),Option.getD_some,show ((s.toNat:Nat):Int)=s by omega]
theorem zw0 (v:Int):∀(l:List Int) (k:Nat),v∈l→∃i:Nat,idxF (fun x=>decide (x=v)) k l=((k+i:Nat):Int)∧l[i]?=some v
 |[],k,h=>by cases h
 |a::r,k,h=>by
  by_cases ha:a=v
  ·exact⟨0,by simp[idxF,ha],by simp[ha]⟩
  obtain⟨i,h1,h2⟩:=zw0 v r (k+1) ((List.mem_cons.1 h).resolve_left (Ne.symm ha))
  refine⟨i+1,?_,by simpa using h2⟩
  simp only[idxF]
  rw[if_neg (by simpa using ha),h1]
  congr 1;omega
theorem ztj {R:Reg}{p:Int}(h:p∈R.ps):∃i:Nat,plc R p=(i:Int)∧R.ps[i]?=some p:=by
 obtain⟨i,h1,h2⟩:=zw0 p R.ps 0 h
 exact⟨i,by unfold plc;rw[h1];simp,h2⟩
theorem Agr.wt {R:Reg}{D:Dk}{S:Rst}(a:Agr R D S){p:Int}(h:p∈R.ps):sWt S (plc R p)=D.line p:=by
 obtain⟨i,h1,h2⟩:=ztj h
 unfold sWt
 rw[h1,Int.toNat_natCast,a.ws i p h2,Option.getD_some]
theorem Agr.set {R:Reg}{D:Dk}{S:Rst}(a:Agr R D S)(hn:R.ps.Nodup){p:Int}(h:p∈R.ps)(d:Int)(l:List Int):Agr R ⟨d,D.x,D.y,aset D.q p l⟩ ⟨S.hs,S.ws.set (plc R p).toNat l,d⟩ where
  dy:=rfl
  hl:=a.hl
  wl:=by simpa using a.wl
  hs:=a.hs
  ws:=fun j q hq=>by
    obtain⟨i,h1,h2⟩:=ztj h
    have hi:=(List.getElem?_eq_some_iff.1 h2).1
    have hw:=a.ws j q hq
    have hj:=(List.getElem?_eq_some_iff.1 hq).1
    rw[zfc,h1,Int.toNat_natCast,List.getElem?_set]
    by_cases hij:i=j
    · subst hij
      rw[h2] at hq;injection hq with hq;subst hq
      simp[a.wl,hi]
    have hqp:¬q=p:=fun e=>hij (by
      subst e
      have e1:=(List.getElem?_eq_some_iff.1 h2).2
      have e2:=(List.getElem?_eq_some_iff.1 hq).2
      rcases Nat.lt_trichotomy i j with h|h|h
      · exact absurd (e1.trans e2.symm) (List.pairwise_iff_getElem.1 hn i j hi hj h)
      · exact h
      exact absurd (e2.trans e1.symm) (List.pairwise_iff_getElem.1 hn j i hj hi h))
    rw[if_neg hij,if_neg hqp,hw]
theorem Agr.seth {R:Reg}{D:Dk}{S:Rst}(a:Agr R D S){s:Int}(h0:0≤s)(h1:s≤R.sc - 1)(x':List (Int×He))(u:He)(y':List (Int×Int))(hx:∀k,(alk x' k).getD ⟨0,0,0,0⟩=if k=s then u else (alk D.x k).getD ⟨0,0,0,0⟩) :
    Agr R ⟨D.d,x',y',D.q⟩ ⟨S.hs.set s.toNat u,S.ws,S.dy⟩ where
  dy:=a.dy
  hl:=by simpa using a.hl
  wl:=a.wl
  hs:=fun k hk=>by
    have hk':k<S.hs.length:=by simpa using hk
    have hw:=a.hs k hk'
    rw[List.getElem?_set,hx k]
    by_cases hks:s.toNat=k
    · rw[if_pos hks,if_pos (by omega),if_pos (by omega)]
    rw[if_neg hks,if_neg (by omega),hw]
  ws:=a.ws
theorem Agr.day {R:Reg}{D:Dk}{S:Rst}(a:Agr R D S)(d:Int):Agr R ⟨d,D.x,D.y,D.q⟩ ⟨S.hs,S.ws,d⟩:=⟨rfl,a.hl,a.wl,a.hs,a.ws⟩
def zfn (R:Reg)(D:Dk)(S:Rst)(t:Tu):Prop:=match zf3 D t with
 |none=>(zcj R S t).2=false
 |some D'=>(zcj R S t).2=true∧Agr R D' (zcj R S t).1
theorem zzd {R:Reg}{D:Dk}{S:Rst}{t:Tu}(a:Agr R D S)(hn:R.ps.Nodup)(hp1:∀p∈R.ps,1≤p)(hf:zbc R t)(hk:t.k=1):zfn R D S t:=by
 obtain⟨h1,h2,h3,h4,h5⟩:=hf
 have hp:t.p∈R.ps:=by rcases h5 with⟨_,h,_⟩|⟨h,_⟩|⟨h,_⟩<;>first|exact h|omega
 have hpp:=hp1 _ hp
 have hs:=a.he h3 h4
 have hw:=a.wt hp
 unfold zfn zf3 zcj
 rw[a.dy,hw]
 by_cases hd:t.d<D.d
 ·simp[hd]
 simp only[hd,if_false,hk,if_true,show ¬((1:Int)=4) by decide]
 cases hx:alk D.x t.s with
 |none=>
  rw[hx] at hs
  by_cases hm:t.s∈D.line t.p
  ·simp[hm]
  simp only[hm,if_false]
  refine⟨?_,a.set hn hp _ _⟩
  rw[hs];simp;omega
 |some u=>
  rw[hx] at hs
  by_cases hm:u.p=t.p∨t.s∈D.line t.p
  ·simp only[hm,if_true]
   rw[hs]
   rcases hm with hm|hm<;>simp[hm]
  simp only[hm,if_false]
  refine⟨?_,a.set hn hp _ _⟩
  rw[hs]
  simp only[not_or] at hm
  simp[hm.1,hm.2]
theorem zv8 {R:Reg}{D:Dk}{S:Rst}{t:Tu}(a:Agr R D S)(hn:R.ps.Nodup)(hf:zbc R t)(hk:t.k=5):zfn R D S t:=by
 obtain⟨h1,h2,h3,h4,h5⟩:=hf
 have hp:t.p∈R.ps:=by rcases h5 with⟨_,h,_⟩|⟨h,_⟩|⟨h,_⟩<;>first|exact h|omega
 have hw:=a.wt hp
 unfold zfn zf3 zcj
 rw[a.dy,hw]
 by_cases hd:t.d<D.d
 ·simp[hd]
 simp only[hd,if_false,hk,if_true,show ¬((5:Int)=1) by decide,show ¬((5:Int)=2) by decide,show ¬((5:Int)=3) by decide,show ¬((5:Int)=4) by decide]
 by_cases hm:t.s∈D.line t.p
 ·simp only[hm,if_true]
  exact⟨by simp,a.set hn hp _ _⟩
 simp[hm]
theorem zy6 {R:Reg}{D:Dk}{S:Rst}{t:Tu}(a:Agr R D S)(hp1:∀p∈R.ps,1≤p)(hf:zbc R t)(hk:t.k=3):zfn R D S t:=by
 obtain⟨h1,h2,h3,h4,h5⟩:=hf
 have hp:t.p∈R.ps:=by rcases h5 with⟨_,h,_⟩|⟨h,_⟩|⟨h,_⟩<;>first|exact h|omega
 have hpp:=hp1 _ hp
 have hs:=a.he h3 h4
 unfold zfn zf3 zcj
 rw[a.dy]
 by_cases hd:t.d<D.d
 ·simp[hd]
 simp only[hd,if_false,hk,if_true,show ¬((3:Int)=1) by decide,show ¬((3:Int)=2) by decide,show ¬((3:Int)=5) by decide,show ¬((3:Int)=4) by decide]
 cases hx:alk D.x t.s with
 |none=>
  rw[hx] at hs
  simp only;rw[hs];simp;omega
 |some u=>
  rw[hx] at hs
  by_cases hm:u.p=t.p
  ·simp only[hm,if_true]
   refine⟨by rw[hs];simp[hm],((a.day t.d).seth h3 h4 (adl D.x t.s) ⟨0,0,0,0⟩ (adl D.y t.p) fun k=>?_)⟩
   rw[zih]
   by_cases hks:k=t.s<;>simp[hks]
  simp only[hm,if_false]
  rw[hs];simp[hm]
theorem Agr.hld {R:Reg}{D:Dk}{S:Rst}{n:Nat}(a:Agr R D S)(iv:Inv D n)(hsc:∀s u,alk D.x s=some u→0≤s∧s<R.sc){p:Int}(hp:1≤p):decide (hld S p<0) = !(alk D.y p).isSome:=by
 unfold Hi.hld
 have hge:=zo7 (fun u:He=>decide (u.p=p)) S.hs 0
 cases hy:alk D.y p with
 |none=>
  have hany:S.hs.any (fun u=>decide (u.p=p))=false:=by
   rw[List.any_eq_false]
   intro u hu
   obtain⟨s,hs,he⟩:=List.getElem_of_mem hu
   have h:=a.hs s hs
   rw[List.getElem?_eq_getElem hs,he] at h
   injection h with h
   cases hx:alk D.x s with
   |none=>rw[hx] at h;subst h;simp;omega
   |some w=>
    rw[hx] at h
    have h:u=w:=h
    subst h
    have h2:=(iv.xy _ _ hx).1
    simp only[decide_eq_true_eq]
    intro hup
    rw[hup,hy] at h2;cases h2
  rcases hge with⟨h,_⟩|⟨_,_,h⟩
  ·rw[h];rfl
  rw[hany] at h;cases h
 |some s=>
  obtain⟨u,hu,hup⟩:=iv.yx p s hy
  obtain⟨h0,h1⟩:=hsc s u hu
  have hl:=a.hl
  have h:=a.hs s.toNat (by omega)
  rw[show ((s.toNat:Nat):Int)=s by omega,hu] at h
  have hany:S.hs.any (fun u=>decide (u.p=p))=true:=by
   rw[List.any_eq_true]
   exact⟨u,List.mem_of_getElem? h,by simpa using hup⟩
  rcases hge with⟨_,h⟩|⟨h,_,_⟩
  ·rw[hany] at h;cases h
  simp;simpa using h
theorem zwf {R:Reg}{D:Dk}{S:Rst}{t:Tu}{n:Nat}(a:Agr R D S)(iv:Inv D n)(hsc:∀s u,alk D.x s=some u→0≤s∧s<R.sc)(hpos:∀s u,alk D.x s=some u→1≤u.p)(hn:R.ps.Nodup)(hp1:∀p∈R.ps,1≤p)(hf:zbc R t)(hk:t.k=2):zfn R D S t:=by
 obtain⟨h1,h2,h3,h4,h5⟩:=hf
 have hp:t.p∈R.ps:=by rcases h5 with⟨h|h|h,_⟩|⟨_,h,_⟩|⟨h,_⟩<;>first|exact h|omega
 have hpp:=hp1 _ hp
 have hs:=a.he h3 h4
 have hw:=a.wt hp
 have hh:=a.hld iv hsc hpp
 have key:∀l:List Int,Agr R ⟨t.d,aset D.x t.s ⟨t.p,t.s,t.d,t.d+7*t.w⟩,aset D.y t.p t.s,aset D.q t.p l⟩ ⟨S.hs.set t.s.toNat ⟨t.p,t.s,t.d,t.d+7*t.w⟩,S.ws.set (plc R t.p).toNat l,t.d⟩:=fun l=>
  ((a.set hn hp t.d l).seth h3 h4 (aset D.x t.s ⟨t.p,t.s,t.d,t.d+7*t.w⟩) ⟨t.p,t.s,t.d,t.d+7*t.w⟩ (aset D.y t.p t.s) fun k=>by
   rw[zcp]
   by_cases hks:k=t.s<;>simp[hks])
 unfold zfn zf3 zcj
 rw[a.dy,hw,hh]
 by_cases hd:t.d<D.d
 ·simp[hd]
 simp only[hd,if_false,hk,if_true,show ¬((2:Int)=1) by decide,show ¬((2:Int)=3) by decide,show ¬((2:Int)=5) by decide,show ¬((2:Int)=4) by decide]
 cases hy:alk D.y t.p with
 |some z=>simp
 |none=>
  cases hx:alk D.x t.s with
  |some u=>
   rw[hx] at hs
   have:=hpos _ _ hx
   simp only;rw[hs];simp;omega
  |none=>
   rw[hx] at hs
   cases hl:D.line t.p with
   |nil=>
    simp only
    refine⟨by rw[hs];simp,?_⟩
    exact key _
   |cons b r=>
    by_cases hb:b=t.s
    ·simp only[hb,if_true]
     refine⟨by rw[hs];simp,?_⟩
     exact key _
    simp only[hb,if_false]
    simp[hb]
theorem zxh {R:Reg}{D:Dk}{S:Rst}{t:Tu}(a:Agr R D S)(hpi:∀s u,alk D.x s=some u→u.p∈R.ps)(hp1:∀p∈R.ps,1≤p)(hf:zbc R t)(hk:t.k=4):zfn R D S t:=by
 obtain⟨h1,h2,h3,h4,h5⟩:=hf
 obtain⟨ho1,ho2,hos⟩:0≤t.o∧t.o≤R.sc - 1∧¬t.o=t.s:=by rcases h5 with⟨h|h|h,_⟩|⟨h,_⟩|⟨_,h,h',h'',_⟩<;>first|omega|exact⟨h,h',h''⟩
 have hs:=a.he h3 h4
 have ho:=a.he ho1 ho2
 unfold zfn zf3 zcj
 rw[a.dy]
 by_cases hd:t.d<D.d
 ·simp[hd]
 simp only[hd,if_false,hk,if_true,show ¬((4:Int)=1) by decide,show ¬((4:Int)=2) by decide,show ¬((4:Int)=3) by decide]
 cases hx:alk D.x t.s with
 |none=>rw[hx] at hs;simp only;rw[hs];simp
 |some u=>
  cases hz:alk D.x t.o with
  |none=>rw[hz] at ho;simp only;rw[ho];simp
  |some z=>
   rw[hx] at hs;rw[hz] at ho
   have hs:sHe S t.s=u:=hs
   have ho:sHe S t.o=z:=ho
   have hu:=hpi _ _ hx
   have hzp:=hpi _ _ hz
   have hu1:=hp1 _ hu
   have hz1:=hp1 _ hzp
   simp only
   rw[hs,ho,a.wt hu,a.wt hzp,if_neg (show ¬(u.p=0∨z.p=0) by omega)]
   by_cases hm:t.s∈D.line z.p∨t.o∈D.line u.p
   ·simp[hm]
   simp only[hm,if_false]
   refine⟨trivial,?_⟩
   have a1:=(a.day t.d).seth h3 h4 (aset D.x t.s ⟨z.p,u.s,u.a,u.b⟩) ⟨z.p,u.s,u.a,u.b⟩ D.y fun k=>by
    rw[zcp]
    by_cases hks:k=t.s<;>simp[hks]
   exact a1.seth ho1 ho2 (aset (aset D.x t.s ⟨z.p,u.s,u.a,u.b⟩) t.o ⟨u.p,z.s,z.a,z.b⟩) ⟨u.p,z.s,z.a,z.b⟩ _ fun k=>by
    rw[zcp]
    by_cases hks:k=t.o<;>simp[hks]
theorem zzh {R:Reg}{D:Dk}{S:Rst}{t:Tu}{n:Nat}(a:Agr R D S)(iv:Inv D n)(hsc:∀s u,alk D.x s=some u→0≤s∧s<R.sc)(hpi:∀s u,alk D.x s=some u→u.p∈R.ps)(hn:R.ps.Nodup)(hp1:∀p∈R.ps,1≤p)(hf:zbc R t):zfn R D S t:=by
 have h:=hf.2.2.2.2
 have hk:t.k=1∨t.k=2∨t.k=3∨t.k=4∨t.k=5:=by rcases h with⟨h|h|h,_⟩|⟨h,_⟩|⟨h,_⟩<;>simp[h]
 rcases hk with hk|hk|hk|hk|hk
 ·exact zzd a hn hp1 hf hk
 ·exact zwf a iv hsc (fun s u hx=>hp1 _ (hpi s u hx)) hn hp1 hf hk
 ·exact zy6 a hp1 hf hk
 ·exact zxh a hpi hp1 hf hk
 exact zv8 a hn hf hk
structure Both (R:Reg) (D:Dk) (S:Rst) (n:Nat):Prop where
  a:Agr R D S
  i:Inv D n
  i4:Inv4 R D
theorem Both.step {R:Reg}{D:Dk}{S:Rst}{t:Tu}{n:Nat}(b:Both R D S n)(hn:R.ps.Nodup)(hp1:∀p∈R.ps,1≤p)(hf:zbc R t) :
  (zf3 D t=none∧(zcj R S t).2=false)∨∃D',zf3 D t=some D'∧(zcj R S t).2=true∧Both R D' (zcj R S t).1 (n+1):=by
 have h:=zzh b.a b.i b.i4.sc (fun s u hx=>b.i4.ps _ _ (b.i.xy s u hx).1) hn hp1 hf
 unfold zfn at h
 cases hs:zf3 D t with
 |none=>rw[hs] at h;exact .inl ⟨rfl,h⟩
 |some D'=>
  rw[hs] at h
  exact .inr ⟨D',rfl,h.1,h.2,(zkb b.i hf.form hs).1,zyo b.i b.i4 hf hs⟩
def chkF (R:Reg):Rst→List Tu→Nat→Int×Int
 |_,[],_=>(0,-1)
 |S,t::r,i=>if zbk R t then (if (zcj R S t).2 then chkF R (zcj R S t).1 r (i+1) else (4,i)) else (7,i)
theorem zxf {R:Reg}(hn:R.ps.Nodup)(hp1:∀p∈R.ps,1≤p):∀(ts:List Tu) (D:Dk) (S:Rst) (n i:Nat),Both R D S n→
  chkF R S ts i=(if 0≤(zc9 D (ts.takeWhile (zbk R)) i).2 then (4,(zc9 D (ts.takeWhile (zbk R)) i).2) else if 0≤idxF (fun t=>!zbk R t) i ts then (7,idxF (fun t=>!zbk R t) i ts) else (0,-1))
 |[],D,S,n,i,b=>by simp[chkF,zc9,idxF]
 |t::r,D,S,n,i,b=>by
  cases hf:zbk R t with
  |false=>simp[chkF,hf,zc9,idxF]
  |true=>
   have hF:zbc R t:=of_decide_eq_true hf
   rcases b.step hn hp1 hF with⟨h1,h2⟩|⟨D',h1,h2,h3⟩
   ·simp[chkF,hf,zc9,h1,h2]
   have ih:=zxf hn hp1 r D' _ (n+1) (i+1) h3
   simp only[chkF,hf,if_true,h2,List.takeWhile_cons_of_pos hf,zc9,h1,idxF,Bool.not_true,Bool.false_eq_true,if_false]
   exact ih
theorem zkz {α:Type}(p:α→Bool):∀(l:List α) (k:Nat),(if 0≤idxF (fun t=>!p t) k l then l.take ((idxF (fun t=>!p t) k l).toNat - k) else l)=l.takeWhile p
 |[],k=>by simp[idxF]
 |t::r,k=>by
  cases hp:p t with
  |false=>simp[idxF,hp]
  |true=>
   have ih:=zkz p r (k+1)
   have hge:=zo7 (fun t=>!p t) r (k+1)
   simp only[idxF,hp,Bool.not_true,Bool.false_eq_true,if_false,List.takeWhile_cons_of_pos hp]
   rw[← ih]
   rcases hge with⟨h,_⟩|⟨h,_,_⟩
   ·rw[h];simp
   rw[if_pos (by omega),if_pos (by omega),show (idxF (fun t=>!p t) (k+1) r).toNat - k=((idxF (fun t=>!p t) (k+1) r).toNat - (k+1))+1 by omega,List.take_succ_cons]
theorem zsx (R:Reg):zk5 R=R.ts.takeWhile (zbk R):=by
 have h:=zkz (zbk R) R.ts 0
 unfold zk5 endI
 simpa using h
def behS (R:Reg)(day:Int):Rst→List Tu→Rst
 |S,[]=>S
 |S,t::r=>if t.d≤day then behS R day (zcj R S t).1 r else behS R day S r
theorem zqs {R:Reg}{day:Int}:∀(ts:List Tu) (D:Dk) (S:Rst) (n i:Nat),Inv D n→(∀t∈ts,zbc R t)→(zc9 D ts i).2<0→day<D.d→behS R day S ts=S
 |[],_,_,_,_,_,_,_,_=>rfl
 |t::r,D,S,n,i,iv,hf,hp,hd=>by
  simp only[zc9] at hp
  cases hs:zf3 D t with
  |none=>rw[hs] at hp;simp only at hp;omega
  |some D'=>
   rw[hs] at hp
   obtain⟨h1,h2,h3⟩:=zkb iv (hf t (List.mem_cons_self ..)).form hs
   simp only[behS]
   rw[if_neg (by omega)]
   exact zqs r D' S (n+1) (i+1) h1 (fun t ht=>hf t (List.mem_cons_of_mem _ ht)) hp (by omega)
theorem zy1 {R:Reg}{day:Int}(hn:R.ps.Nodup)(hp1:∀p∈R.ps,1≤p):∀(ts:List Tu) (D:Dk) (S:Rst) (n i:Nat),Both R D S n→(∀t∈ts,zbc R t)→(zc9 D ts i).2<0→
  ∃m,Both R (zc9 D (ts.takeWhile fun t=>decide (t.d≤day)) i).1 (behS R day S ts) m
 |[],D,S,n,i,b,_,_=>⟨n,b⟩
 |t::r,D,S,n,i,b,hf,hp=>by
  have hF:=hf t (List.mem_cons_self ..)
  simp only[zc9] at hp
  rcases b.step hn hp1 hF with⟨h1,_⟩|⟨D',h1,_,h3⟩
  ·rw[h1] at hp;simp only at hp;omega
  rw[h1] at hp
  by_cases hd:t.d≤day
  ·rw[List.takeWhile_cons_of_pos (by simpa using hd)]
   simp only[zc9,h1,behS]
   rw[if_pos hd]
   exact zy1 hn hp1 r D' _ (n+1) (i+1) h3 (fun t ht=>hf t (List.mem_cons_of_mem _ ht)) hp
  rw[List.takeWhile_cons_of_neg (by simpa using hd)]
  obtain⟨k1,k2,_⟩:=zkb b.i hF.form h1
  simp only[zc9,behS]
  rw[if_neg hd,zqs r D' S (n+1) (i+1) k1 (fun t ht=>hf t (List.mem_cons_of_mem _ ht)) hp (by omega)]
  exact⟨n,b⟩
theorem zvb (R:Reg)(day:Int):cutL R day=R.ts.takeWhile fun t=>decide (t.d≤day):=by
 have h:=zkz (fun t:Tu=>decide (t.d≤day)) R.ts 0
 have he:(fun t:Tu=>!decide (t.d≤day))=fun t:Tu=>decide (day<t.d):=funext fun t=>by rw[Bool.eq_iff_iff];simp
 rw[he] at h
 unfold cutL cutI
 simpa using h
theorem zlk {R:Reg}(h:regE R=0):R.ps.Nodup∧(∀p∈R.ps,1≤p)∧1≤R.sc∧R.sc≤16∧R.ps.length≤24∧R.ts.length≤120∧R.ps≠[]:=by
 unfold regE at h
 split at h
 ·cases h
 rename_i h1
 split at h
 ·cases h
 rename_i h2
 split at h
 ·rename_i h3
  simp only[not_or] at h1 h2
  refine⟨h3,fun p hp=>?_,?_⟩
  ·have:=h2.2.1
   rw[Bool.not_eq_true,List.any_eq_false] at this
   have:=this p hp
   simp[zjv] at this
   exact this.1
  have h4:=h2.2.2
  simp only[Decidable.not_not] at h4
  exact⟨h4.1,h4.2,by omega,by omega,h2.1⟩
 cases h
theorem Both.start {R:Reg}(h:1≤R.sc):Both R D0 (beg R) 0:=⟨Agr.beg h,Inv.start,Inv4.start R⟩
theorem z2x {R:Reg}(h:regE R=0):chkR R=chkF R (beg R) R.ts 0:=by
 obtain⟨h1,h2,h3,_⟩:=zlk h
 rw[zxf h1 h2 R.ts D0 (beg R) 0 0 (Both.start h3)]
 unfold chkR
 rw[if_pos h,zsx]
 rfl
theorem z4k {R:Reg}(h:(chkR R).1=0)(day:Int):∃m,Both R (behD R day) (behS R day (beg R) R.ts) m:=by
 obtain⟨k1,k2,k3⟩:=zmv h
 obtain⟨h1,h2,h3,_⟩:=zlk k1
 unfold behD
 rw[zvb]
 exact zy1 h1 h2 R.ts D0 (beg R) 0 0 (Both.start h3) (fun t ht=>of_decide_eq_true (k2 t ht)) k3
theorem zoj:∀ {l1 l2:List He},l1.Pairwise (fun a b=>a.s<b.s)→l2.Pairwise (fun a b=>a.s<b.s)→(∀u,u∈l1↔u∈l2)→l1=l2
 |[],[],_,_,_=>rfl
 |[],b::_,_,_,h=>by have:=(h b).2 (List.mem_cons_self ..);cases this
 |a::_,[],_,_,h=>by have:=(h a).1 (List.mem_cons_self ..);cases this
 |a::r1,b::r2,h1,h2,h=>by
  rw[List.pairwise_cons] at h1 h2
  have e:a=b:=by
   rcases List.mem_cons.1 ((h a).1 (List.mem_cons_self ..)) with e|e
   ·exact e
   rcases List.mem_cons.1 ((h b).2 (List.mem_cons_self ..)) with e2|e2
   ·exact e2.symm
   have:=h1.1 b e2;have:=h2.1 a e;omega
  subst e
  congr 1
  refine zoj h1.2 h2.2 fun u=>⟨fun hu=>?_,fun hu=>?_⟩
  ·rcases List.mem_cons.1 ((h u).1 (List.mem_cons_of_mem _ hu)) with e|e
   ·subst e;have:=h1.1 u hu;omega
   exact e
  rcases List.mem_cons.1 ((h u).2 (List.mem_cons_of_mem _ hu)) with e|e
  ·subst e;have:=h2.1 u hu;omega
  exact e
theorem zz4 {R:Reg}{D:Dk}{S:Rst}{n m:Nat}(b:Both R D S n)(hN:NdX D m)(hp1:∀p∈R.ps,1≤p):S.hs.filter (fun u=>!decide (u.p=0))=zfm D:=by
 have key:∀(k:Nat) (u:He),S.hs[k]?=some u→¬u.p=0→alk D.x k=some u∧u.s=k:=fun k u hk hu=>by
  have h:=b.a.hs k (List.getElem?_eq_some_iff.1 hk).1
  rw[hk] at h;injection h with h
  cases hx:alk D.x k with
  |none=>rw[hx] at h;subst h;exact absurd rfl hu
  |some w=>
   rw[hx] at h
   have h:u=w:=h
   subst h
   exact⟨rfl,(b.i.xy _ _ hx).2⟩
 refine zoj ?_ ?_ fun u=>?_
 ·rw[List.pairwise_filter]
  rw[List.pairwise_iff_getElem]
  intro i j hi hj hij h1 h2
  have k1:=(key i S.hs[i] (List.getElem?_eq_getElem hi) (by simpa using h1)).2
  have k2:=(key j S.hs[j] (List.getElem?_eq_getElem hj) (by simpa using h2)).2
  omega
 ·have h:=zuh hN
  rw[← z2z b.i,List.pairwise_map] at h
  exact h
 rw[z0o b.i,List.mem_filter]
 constructor
 ·rintro⟨hu,hp⟩
  obtain⟨k,hk⟩:=List.getElem?_of_mem hu
  obtain⟨h1,h2⟩:=key k u hk (by simpa using hp)
  rw[h2];exact h1
 intro hx
 obtain⟨h0,h1⟩:=b.i4.sc _ _ hx
 have hp:=hp1 _ (b.i4.ps _ _ (b.i.xy _ _ hx).1)
 have hl:=b.a.hl
 have h:=b.a.hs u.s.toNat (by omega)
 rw[show ((u.s.toNat:Nat):Int)=u.s by omega,hx] at h
 exact⟨List.mem_of_getElem? h,by simp;omega⟩
end Go.Am.Hi
end
section
namespace Go.Am.Hi
open Go Go.Am Go.Proofs Tryz
attribute [local simp] vrun zbg zc6 vop vopA zc7 zab.back hidI hidF zgd bm Nat.testBit_eq_decide_div_mod_eq za1 zca zeg vO zcv vlen zdw zcz zjh zbo zbb zfu vbox zcw ziq zet zh4 zfr zbz zfs zb0 zft zcu zfx zdx zc8 vbnd zfa vidx zd1 zh1 zbt zd0 zfv zhu zjr zj2 vbin vsc vsc1 vscs vscl zdh aint zfj zhf zcd zew zjf pvcV pvc pvcs tput tget zc5 zab.get zab.alloc zab.put zab.drop zab.empty zbl vput zhp zbj zc4 zgg chunk List.range List.range.loop zbd zef zbn frz frzL PV.isF PV.allF PV.scal PV.allS retP subT zil PV.one PV.ids PV.idsL ze8 beq_eq zdn zed
attribute [local simp] zax zat zaz
theorem zar.only {P:Program}{f:FuncId}{args:List PV}{vh:zab}{R R2:PV→zab→Prop}(hc:zar P f args vh R)(hw:∀v vh',R v vh'→∃vh2:zab,(∀j y,vh2.get j=some y→vh'.get j=some y)∧vh2.next=vh'.next∧R2 v vh2):zar P f args vh R2:=fun lo g σ h args' ha s=>by
 refine(hc lo g σ h args' ha s).mono fun r h' ⟨g',σ',v,vh1,h1,h2,h3,h4,h5,h6,h7,h8⟩=>?_
 obtain⟨vh2,k1,k2,k3⟩:=hw v vh1 h8
 exact⟨g',σ',v,vh2,by rw[k2];exact h1,⟨fun j y hy=>by rw[k2];exact h2.obj j y (k1 j y hy),fun j k y z hy hz=>h2.inj j k y z (k1 j y hy) (k1 k z hz),fun j y hy=>h2.low j y (k1 j y hy),h2.fz,fun j y hy=>h2.dis j y (k1 j y hy),h2.lole⟩,
  h3,h4,⟨h5.next,h5.pres,fun j z hz=>h5.own j z (k1 j z hz)⟩,by rw[k2];exact h6,h7,k3⟩
theorem sub5 {vh1:zab}{n:Nat}{l:List (Nat×VObj)}{a b c d:VObj}(hn:vh1.next=n)(hl:∀j z,(⟨n,l⟩:zab).get j=some z→3<j∧vh1.get j=some z) :
  ∃vh2:zab,(∀j y,vh2.get j=some y→((((vh1.back 3 a).back 2 b).back 1 c).back 0 d).get j=some y)∧vh2.next=((((vh1.back 3 a).back 2 b).back 1 c).back 0 d).next∧vh2=⟨n,l++[(3,a),(2,b),(1,c),(0,d)]⟩:=by
 refine⟨_,fun j y hy=>?_,hn.symm,rfl⟩
 have key:∀l:List (Nat×VObj),(∀z,(⟨n,l⟩:zab).get j=some z→3<j∧vh1.get j=some z)→(⟨n,l++[(3,a),(2,b),(1,c),(0,d)]⟩:zab).get j=some y→((((vh1.back 3 a).back 2 b).back 1 c).back 0 d).get j=some y:=by
  intro l
  induction l with
  |nil=>
   intro _ hy
   simp only[zab.zbw]
   simp only[zab.get,zbl,beq_eq,List.nil_append] at hy
   by_cases h3:j=3
   ·subst h3;simpa using hy
   by_cases h2:j=2
   ·subst h2;simpa using hy
   by_cases h1:j=1
   ·subst h1;simpa using hy
   by_cases h0:j=0
   ·subst h0;simpa using hy
   simp[h3,h2,h1,h0] at hy
  |cons e r ih=>
   intro hl hy
   obtain⟨i,w⟩:=e
   simp only[zab.get,zbl,beq_eq,List.cons_append] at hy hl
   by_cases hji:j=i
   ·simp only[hji] at hy hl
    have:=hl y (by simpa using hy)
    simp only[zab.zbw]
    rw[if_neg (by omega),if_neg (by omega),if_neg (by omega),if_neg (by omega),hji]
    exact this.2
   refine ih (fun z hz=>hl z ?_) ?_
   ·simpa[hji] using hz
   simpa[hji] using hy
 exact key l (hl j) hy
theorem zzv (S:Rst)(hh:S.hs.length<4294967296)(hw:S.ws.length<4294967296)(hl:∀l∈S.ws,l.length<4294967296)(a b c d:List PV):zar prog 138 [encS S] ⟨4,[(3,.box a),(2,.box b),(1,.box c),(0,.box d)]⟩ fun v vh'=>v=.agg [.grow 7 S.hs.length true,.grow 8 S.ws.length true,.int .i64 S.dy]∧
  vh'=⟨9,[(8,.grow 1 (S.ws.map wQ)),(7,.grow 4 (S.hs.map zah)),(3,.box a),(2,.box b),(1,.box c),(0,.box d)]⟩:=by
 refine zar.only (zar.frame (i:=0) rfl rfl (zar.frame (i:=1) rfl rfl (zar.frame (i:=2) rfl rfl (zar.frame (i:=3) rfl rfl (xe6 S hh hw hl))))) ?_
 rintro v _ ⟨_,⟨_,⟨_,⟨vh1,⟨rfl,hn,h7,h8⟩,rfl⟩,rfl⟩,rfl⟩,rfl⟩
 obtain⟨vh2,k1,k2,k3⟩:=sub5 (a:=.box a) (b:=.box b) (c:=.box c) (d:=.box d) hn (l:=[(8,.grow 1 (S.ws.map wQ)),(7,.grow 4 (S.hs.map zah))]) (fun j z hz=>by
  simp only[zab.get,zbl,beq_eq] at hz
  by_cases e8:j=8
  ·subst e8;simp at hz;subst hz;exact⟨by omega,h8⟩
  by_cases e7:j=7
  ·subst e7;simp at hz;subst hz;exact⟨by omega,h7⟩
  simp[e8,e7] at hz)
 exact⟨vh2,k1,k2,rfl,k3⟩
theorem xfq (S:Rst)(p:Nat)(L:List Int)(hp:S.ws[p]?=some L)(hh:S.hs.length<4294967296)(hw:S.ws.length<4294967296)(hl:∀l∈S.ws,l.length<4294967296)(a b c d:List PV):zar prog 138 [encS S] ⟨4,[(3,.box a),(2,.box b),(1,.box c),(0,.box d)]⟩ fun v vh'=>v=.agg [.grow 7 S.hs.length true,.grow 8 S.ws.length true,.int .i64 S.dy]∧
  vh'=⟨10,[(9,.grow 1 (L.map (.int .i64))),(8,.fgrow (livW S p L)),(7,.grow 4 (S.hs.map zah)),(3,.box a),(2,.box b),(1,.box c),(0,.box d)]⟩:=by
 refine zar.only (zar.frame (i:=0) rfl rfl (zar.frame (i:=1) rfl rfl (zar.frame (i:=2) rfl rfl (zar.frame (i:=3) rfl rfl (xd0 S p L hp hh hw hl))))) ?_
 rintro v _ ⟨_,⟨_,⟨_,⟨vh1,⟨rfl,hn,h7,h8,h9⟩,rfl⟩,rfl⟩,rfl⟩,rfl⟩
 obtain⟨vh2,k1,k2,k3⟩:=sub5 (a:=.box a) (b:=.box b) (c:=.box c) (d:=.box d) hn (l:=[(9,.grow 1 (L.map (.int .i64))),(8,.fgrow (livW S p L)),(7,.grow 4 (S.hs.map zah))]) (fun j z hz=>by
  simp only[zab.get,zbl,beq_eq] at hz
  by_cases e9:j=9
  ·subst e9;simp at hz;subst hz;exact⟨by omega,h9⟩
  by_cases e8:j=8
  ·subst e8;simp at hz;subst hz;exact⟨by omega,h8⟩
  by_cases e7:j=7
  ·subst e7;simp at hz;subst hz;exact⟨by omega,h7⟩
  simp[e9,e8,e7] at hz)
 exact⟨vh2,k1,k2,rfl,k3⟩
def heC (l:List He):List PV:=l.flatMap fun u=>[.int .i64 u.p,.int .i64 u.s,.int .i64 u.a,.int .i64 u.b]
theorem z6f (l:List He):(l.map zah).flatMap PV.cells=heC l:=by
 unfold heC
 rw[List.flatMap_map];rfl
@[simp] theorem z2y (l:List He):(heC l).length=l.length*4:=by
 unfold heC
 induction l with
 |nil=>rfl
 |cons a r ih=>rw[List.flatMap_cons,List.length_append,ih];simp;omega
theorem zfh (a:He)(r:List He):heC (a::r)=.int .i64 a.p::.int .i64 a.s::.int .i64 a.a::.int .i64 a.b::heC r:=rfl
theorem zf2:∀ {l:List He} {k:Nat} (h:k<l.length),((heC l).drop (k*4)).take 4=[.int .i64 l[k].p,.int .i64 l[k].s,.int .i64 l[k].a,.int .i64 l[k].b]
 |a::r,0,_=>rfl
 |a::r,k+1,h=>by
  rw[zfh,show (k+1)*4=k*4+1+1+1+1 by omega]
  simp only[List.drop_succ_cons]
  exact zf2 (l:=r) (k:=k) (by simpa using h)
theorem zq3:∀ {l:List He} {k:Nat} (h:k<l.length),(heC l)[k*4]?=some (.int .i64 l[k].p)
 |a::r,0,_=>rfl
 |a::r,k+1,h=>by
  rw[zfh,show (k+1)*4=k*4+1+1+1+1 by omega]
  simp only[List.getElem?_cons_succ]
  exact zq3 (l:=r) (k:=k) (by simpa using h)
theorem zyr:∀ {l:List He} {k:Nat} (h:k<l.length) (u:He),zbj (heC l) (k*4) [.int .i64 u.p,.int .i64 u.s,.int .i64 u.a,.int .i64 u.b]=heC (l.set k u)
 |a::r,0,_,u=>rfl
 |a::r,k+1,h,u=>by
  have ih:=zyr (l:=r) (k:=k) (by simpa using h) u
  unfold zbj at ih ⊢
  rw[zfh,show (k+1)*4=k*4+1+1+1+1 by omega,List.set_cons_succ,zfh,← ih]
  simp only[List.take_succ_cons,List.cons_append,List.cons.injEq,true_and]
  congr 1
theorem zs9:∀ {l:List He} {k:Nat} (h:k<l.length) (v:Int),zbj (heC l) (k*4) [.int .i64 v]=heC (l.set k { l[k] with p:=v })
 |a::r,0,_,v=>rfl
 |a::r,k+1,h,v=>by
  have ih:=zs9 (l:=r) (k:=k) (by simpa using h) v
  unfold zbj at ih ⊢
  rw[zfh,show (k+1)*4=k*4+1+1+1+1 by omega,List.set_cons_succ,zfh]
  simp only[List.getElem_cons_succ]
  rw[← ih]
  simp only[List.take_succ_cons,List.cons_append,List.cons.injEq,true_and]
  congr 1
theorem zhi (l:List He):chunk true 4 l.length (heC l)=l.map zah:=by
 unfold chunk
 rw[xf1]
 refine List.ext_getElem (by rw[List.length_map,List.length_range,List.length_map]) fun k h1 h2=>?_
 rw[List.getElem_map,List.getElem_map,List.getElem_range]
 have hk:k<l.length:=by rwa [List.length_map] at h2
 rw[zf2 hk]
 rfl
theorem zye {p:Int→Bool}{l:List Int}{k:Nat}(h:k<l.length):(l.take (k+1)).filter p=(l.take k).filter p++(if p l[k] then [l[k]] else []):=by
 rw[List.take_succ_eq_append_getElem h,List.filter_append]
 cases hp:p l[k]<;>simp[hp]
theorem xfv (l:List Int)(n:Int)(hl:l.length<4294967296):zao prog 103 [ints l,.int .i64 n] fun r=>r=wQ (outS l n):=by
 unfold outS
 refine .zag func103 rfl rfl ?_
 refine .sr ?_
 refine .sr ?_
 refine .seq (.sr ?_)
 refine .block ?_
 refine .zb5 (fun k:Nat=>([(0,ints l),(1,.int .i64 n),(5,.grow 0 ((l.take k).filter fun x=>!decide (x=n)).length true),(6,.int .i64 k)],⟨1,[(0,.grow 1 (((l.take k).filter fun x=>!decide (x=n)).map (.int .i64)))]⟩)) (fun k=>k≤l.length) (fun k=>l.length - k) 0 (by simp) (.mk [] [] zz8 zz9 rfl rfl rfl) ?_
 rintro k hk
 simp only at hk ⊢
 obtain⟨L,hL⟩:∃L,((l.take k).filter fun x=>!decide (x=n))=L:=⟨_,rfl⟩
 have hLl:L.length≤k:=by rw[← hL];exact Nat.le_trans (List.length_filter_le _ _) (by rw[List.length_take];omega)
 have hL2:L.length+1≤4294967296:=by omega
 rw[hL]
 refine .seq (.sr ?_)
 refine .cs ?_ ?_<;>intro c10
 ·try simp at c10
  have hw2:=wr1 k
  have hF:=zye (p:=fun x=>!decide (x=n)) c10
  rw[hL] at hF
  refine .skip (.seq (.block (.sr ?_)))
  refine .cs ?_ ?_<;>intro c18
  ·try simp at c18
   have hF2:((l.take (k+1)).filter fun x=>!decide (x=n))=L++[l[k]]:=by rw[hF];simp[c18]
   clear hF
   refine .rn ?_
   refine .rn ?_
   refine⟨k+1,c10,zz3,(.mk [] [(0,2)] zz8 zz9 rfl rfl rfl)⟩
  try simp at c18
  have hF2:((l.take (k+1)).filter fun x=>!decide (x=n))=L:=by rw[hF];simp[c18]
  clear hF
  refine .skip (.rn ?_)
  refine⟨k+1,c10,zz3,(.mk [] [] zz8 zz9 rfl rfl rfl)⟩
 try simp at c10
 refine .exit (.seq ?_)
 have hkn:k=l.length:=by omega
 rw[hkn,List.take_length] at hL
 rw[hL]
 refine .rec (vts2:=[(5,wQ L)]) (vh2:=⟨1,[]⟩) (.mk [0] [] zz20 zz21 rfl rfl rfl) ?_
 refine .rn ?_
 refine .ret ?_
 refine⟨_,_,zz2,zz2,?_⟩
 first|rfl|(simp[*];done)|(simp_all;done)
theorem xed (n:Int):zao prog 103 [.sl0,.int .i64 n] fun r=>r=.sl0:=by
 refine .zag func103 rfl rfl ?_
 refine .sr ?_
 refine .sr ?_
 refine .seq (.sr ?_)
 refine .block ?_
 refine .zb5 (fun k:Nat=>([(0,.sl0),(1,.int .i64 n),(5,.sl0),(6,.int .i64 0)],zab.empty)) (fun k=>True) (fun k=>0) 0 trivial (.mk [] [] zz8 zz9 rfl rfl rfl) ?_
 rintro k _
 refine .seq (.sr ?_)
 refine .cs ?_ ?_<;>intro c10
 ·try simp at c10
 try simp at c10
 refine .exit (.sr ?_)
 refine .ret ?_
 refine⟨_,_,zz2,zz2,?_⟩
 first|rfl|(simp[*];done)|(simp_all;done)
theorem xcw (v:Int):zao prog 107 [.sl0,.int .i64 v] fun r=>r=.bool false:=by
 refine .zag func107 rfl rfl ?_
 refine .sr ?_
 refine .seq (.sr ?_)
 refine .block ?_
 refine .zb5 (fun s:Nat=>([(0,.sl0),(1,.int .i64 v),(5,.int .i64 0)],zab.empty)) (fun s=>True) (fun s=>0) 0 trivial (.mk [] [] zz8 zz9 rfl rfl rfl) ?_
 rintro k _
 refine .seq (.sr ?_)
 refine .cs ?_ ?_<;>intro c9
 ·try simp at c9
 try simp at c9
 refine .exit (.sr ?_)
 refine .ret ?_
 refine⟨_,_,zz2,zz2,?_⟩
 first|rfl|(simp[*];done)|(simp_all;done)
theorem zq1 (l:List Int)(n:Int)(hl:l.length<4294967296):zao prog 103 [wQ l,.int .i64 n] fun r=>r=wQ (outS l n):=by
 by_cases h:l=[]
 ·subst h;exact xed n
 have:wQ l=ints l:=if_neg h
 rw[this];exact xfv l n hl
theorem zn5 (l:List Int)(v:Int)(hl:l.length<4294967296):zao prog 107 [wQ l,.int .i64 v] fun r=>r=.bool (decide (v∈l)):=by
 by_cases h:l=[]
 ·subst h;exact xcw v
 have:wQ l=ints l:=if_neg h
 rw[this];exact p107 l v hl
structure RO (R:Reg):Prop where
  p1:∀p∈R.ps,1≤p
  s1:1≤R.sc
  s2:R.sc≤16
  pl:R.ps.length≤24
structure SIv (R:Reg) (S:Rst) (n:Nat):Prop where
  hl:(S.hs.length:Int)=R.sc
  wl:S.ws.length=R.ps.length
  ln:∀l∈S.ws,l.length≤n
  hp:∀u∈S.hs,u.p=0∨u.p∈R.ps
theorem at_s {R:Reg}{S:Rst}{n:Nat}(hS:SIv R S n){x:Int}(h1:0≤x)(h2:x≤R.sc - 1):∃s:Nat,x=s∧s<S.hs.length∧S.hs[s]?=some (sHe S x):=by
 have:=hS.hl
 have hlt:x.toNat<S.hs.length:=by omega
 refine⟨x.toNat,by omega,hlt,?_⟩
 unfold sHe
 rw[List.getElem?_eq_getElem hlt];rfl
theorem at_p {R:Reg}{S:Rst}{n:Nat}(hS:SIv R S n){x:Int}(h:x∈R.ps):∃(i:Nat) (L:List Int),plc R x=i∧i<S.ws.length∧S.ws[i]?=some L∧sWt S (i:Int)=L∧L.length≤n:=by
 obtain⟨i,h1,h2⟩:=ztj h
 have hi:i<S.ws.length:=by rw[hS.wl];exact(List.getElem?_eq_some_iff.1 h2).1
 refine⟨i,S.ws[i],h1,hi,List.getElem?_eq_getElem hi,?_,hS.ln _ (List.getElem_mem hi)⟩
 unfold sWt
 rw[Int.toNat_natCast,List.getElem?_eq_getElem hi];rfl
theorem z1l {ws:List (List Int)}(h:0<ws.length)(vh:zab)(n2:Nat)(D:Nat→Bool)(ρ:Nat→Nat):AltO vh n2 D ρ (.grow 1 (ws.map wQ)) (.arr false 1 (ws.map wQ)):=by
 refine⟨rfl,?_,zt0 fun e he=>?_⟩
 ·match ws,h with
  |a::r,_=>exact⟨_,_,rfl⟩
 obtain⟨l,_,rfl⟩:=List.mem_map.1 he
 exact z1b l
theorem zr5 {hs:List He}(h:0<hs.length)(vh:zab)(n2:Nat)(D:Nat→Bool)(ρ:Nat→Nat):AltO vh n2 D ρ (.grow 4 (hs.map zah)) (.arr true 4 (heC hs)):=by
 refine⟨rfl,?_,z6f hs⟩
 match hs,h with
 |a::r,_=>exact⟨_,_,rfl⟩
theorem z1i {ws:List (List Int)}{i:Nat}(h:i<ws.length)(l:List Int):(ws.map wQ).take i++wQ l::(ws.map wQ).drop (i+1)=(ws.set i l).map wQ:=by
 rw[List.map_set,List.set_eq_take_append_cons_drop]
 simp[h]
@[local simp ↓ high] theorem zyz (ws:List (List Int)):(ws.map wQ).all PV.one=true:=by
 rw[List.all_eq_true]
 intro e he
 obtain⟨l,_,rfl⟩:=List.mem_map.1 he
 exact zwd l
theorem z9y {R:Reg}{S:Rst}{t:Tu}(hk:t.k=5){i:Nat}{L:List Int}(hi:plc R t.p=i)(hL:sWt S (i:Int)=L):zcj R S t=if t.d<S.dy then (S,false) else (⟨S.hs,S.ws.set i (outS L t.s),t.d⟩,decide (t.s∈L)):=by
 unfold zcj
 simp[hk,hi,hL]
theorem z6c {R:Reg}{S:Rst}{t:Tu}(hk:t.k=3){s:Nat}{u:He}(hs:t.s=s)(hu:sHe S t.s=u):zcj R S t=if t.d<S.dy then (S,false) else (⟨S.hs.set s ⟨0,0,0,0⟩,S.ws,t.d⟩,decide (u.p=t.p)):=by
 unfold zcj
 rw[hu]
 simp[hk,hs]
theorem zm7 {hs:List He}{k:Nat}(h:k<hs.length)(u:He):(heC hs).take (k*4)++.int .i64 u.p::.int .i64 u.s::.int .i64 u.a::.int .i64 u.b::(heC hs).drop (k*4+4)=heC (hs.set k u):=by
 have:=zyr h u
 unfold zbj at this
 simpa using this
theorem xag {R:Reg}{S:Rst}{t:Tu}(hk:t.k=2){i s:Nat}{u:He}{L:List Int}(hi:plc R t.p=i)(hL:sWt S (i:Int)=L)(hs:t.s=s)(hu:sHe S t.s=u):zcj R S t=if t.d<S.dy then (S,false) else (⟨S.hs.set s ⟨t.p,s,t.d,t.d+7*t.w⟩,S.ws.set i (outS L s),t.d⟩,
  decide (hld S t.p<0)&&decide (u.p=0)&&(decide (L=[])||decide (L.head?=some (s:Int)))):=by
 unfold zcj
 rw[hu]
 simp[hk,hs,hi,hL]
theorem zph (vh:zab)(L:List Int):vlen prog vh 22 (wQ L)=some (.int .i64 L.length):=by
 unfold wQ
 split
 ·rename_i h;subst h;simp
 simp[ints]
theorem p84q (R:Reg)(S:Rst)(t:Tu)(n:Nat)(hR:RO R)(hS:SIv R S n)(hn:n<1000)(hf:zbc R t)(hk:t.k=5):zao prog 84 [encR R,encS S,encT t] fun r=>r=.tup [encS (zcj R S t).1,.bool (zcj R S t).2]:=by
 have hp:t.p∈R.ps:=by rcases hf.2.2.2.2 with⟨_,h,_⟩|⟨_,h,_⟩|⟨h,_⟩<;>first|exact h|omega
 obtain⟨i,L,hi,hiw,hL,hsL,hLn⟩:=at_p hS hp
 have hL2:S.ws[i]=L:=(List.getElem?_eq_some_iff.1 hL).2
 obtain⟨s,hs,hsl,hsE⟩:=at_s hS hf.2.2.1 hf.2.2.2.1
 obtain⟨u,hu⟩:∃u,sHe S t.s=u:=⟨_,rfl⟩
 rw[hu] at hsE
 have hsE2:S.hs[s]=u:=(List.getElem?_eq_some_iff.1 hsE).2
 have hpl:=hR.pl
 have h24:R.ps.length<4294967296:=by omega
 have hwl:=hS.wl
 have hhl:=hS.hl
 have hsc:=hR.s2
 have hsc1:=hR.s1
 have hh:S.hs.length<4294967296:=by omega
 have hw:S.ws.length<4294967296:=by omega
 have hh0:0<S.hs.length:=by omega
 have hl:∀l∈S.ws,l.length<4294967296:=fun l h=>by have:=hS.ln l h;omega
 have hw0:0<S.ws.length:=by omega
 have hLl:L.length<4294967296:=by omega
 have hi1:i+1≤S.ws.length:=hiw
 have hspl:=z1i hiw (outS L s)
 obtain⟨ws2,hws2⟩:∃ws2,S.ws.set i (outS L s)=ws2:=⟨_,rfl⟩
 have htk:List.take S.ws.length (List.map wQ ws2)=List.map wQ ws2:=by rw[List.take_of_length_le];rw[← hws2];simp
 have hle2:S.ws.length≤ws2.length:=by rw[← hws2];simp
 have hne:¬S.ws=[]:=fun h=>by rw[h] at hw0;exact absurd hw0 (by decide)
 rw[hws2] at hspl
 rw[z9y hk hi hsL,hs,hws2]
 have hcop:=zzv S hh hw hl
 clear hwl hhl
 unfold encR encT
 refine .zag func84 rfl rfl ?_
 refine .sr ?_
 refine .seq ?_
 refine .zac [0,1,2,3] rfl zz0 ?_
 refine .rn [0] _ ?_
 refine .step rfl rfl (.call rfl rfl rfl call138 (by decide) (((hcop _ _ _ _)).mono ?_))
 rintro _ _ ⟨rfl,rfl⟩
 refine .rn [2,3] [] ?_
 refine .done (.seq (.seq ?_))
 refine .rec (vts2:=[(3,.ptr 0 0),(4,.ptr 1 0),(5,.ptr 2 0),(6,.ptr 3 0),(7,.bool false),(8,.ptr 9 0)]) (vh2:=⟨10,[(9,.box [.vec (S.hs.map zah),.sub 8 0 S.ws.length,.int .i64 S.dy]),(8,.arr false 1 (S.ws.map wQ)),(3,.box [.sl0,.sl0,.int .i64 0]),(2,.box [.int .i64 5,.int .i64 t.d,.int .i64 s,.int .i64 t.p,.int .i64 t.w,.int .i64 t.o]),(1,.box [.vec (S.hs.map zah),.vec (S.ws.map wQ),.int .i64 S.dy]),(0,.box [ints R.ps,.int .i64 R.sc,turns R.ts])]⟩) (.mk [7] [] zz20 zz21 rfl rfl rfl) ?_
 refine .rn ?_
 refine .cs ?_ ?_<;>intro c19
 ·try simp at c19
  refine .sr ?_
  refine .ret ?_
  refine⟨_,_,zz2,zz2,?_⟩
  rw[if_pos c19];rfl
 try simp at c19
 refine .skip (.sr ?_)
 refine .seq (.sr ?_)
 refine .cs ?_ ?_<;>intro c26
 ·try simp at c26
 try simp at c26
 refine .skip (.seq ?_)
 refine .zac [0,1,2,3,4] rfl zz0 ?_
 refine .rn [0,1,2] _ ?_
 refine .pc rfl rfl rfl rfl rfl call81 (p81 R t.p h24) ?_
 refine .rn [4] [] ?_
 refine .done (.seq ?_)
 refine .drawn (ms:=[0,1,0,7,15,0,32,127,255]) (W:=[7]) (items:=[.op 0,.op 1,.op 2,.op 3,.op 4,.op 5,.op 6,.op 7,.op 8]) rfl zz0 zz0 zz0 ?_
 iterate 7 refine .rx ?_
 refine .wp rfl rfl rfl rfl rfl call107 (zn5 L s hLl) ?_
 refine .rx ?_
 refine .done (.seq ?_)
 refine .drawn (ms:=[0,1,0,4,15,31,63,0,128,511,1023]) (W:=[]) (items:=[.op 0,.op 1,.op 2,.op 3,.op 4,.op 5,.op 6,.op 7,.op 8,.op 9,.op 10]) rfl zz0 zz0 zz0 ?_
 iterate 11 refine .rx ?_
 refine .done (.sr ?_)
 refine .seq (.sr ?_)
 refine .block (.sr ?_)
 refine .cs ?_ ?_<;>intro c57
 ·try simp at c57
 try simp at c57
 refine .sr ?_
 refine .cs ?_ ?_<;>intro c78
 ·try simp at c78
  refine .sr ?_
  refine .drawn (ms:=[0,1,0,0,8,0,56,120,0,256,1016,2047,4095]) (W:=[10,12]) (items:=[.op 0,.op 1,.op 2,.op 3,.op 4,.op 5,.op 6,.op 7,.op 8,.op 9,.op 10,.ck 1,.op 11,.op 12]) rfl zz0 zz0 zz0 ?_
  iterate 10 refine .rx ?_
  refine .wp rfl rfl rfl rfl rfl call103 (zq1 L s hLl) ?_
  refine .ck rfl zz0 ?_
  refine .rx ?_
  refine .wv ?_
  refine .done (.sr ?_)
  refine .ret ?_
  refine⟨_,_,zz2,(by simp[*]<;>rfl),?_⟩
  rw[if_neg (by omega)];rfl
 try simp at c78
theorem p84b (R:Reg)(S:Rst)(t:Tu)(n:Nat)(hR:RO R)(hS:SIv R S n)(hn:n<1000)(hf:zbc R t)(hk:t.k=3):zao prog 84 [encR R,encS S,encT t] fun r=>r=.tup [encS (zcj R S t).1,.bool (zcj R S t).2]:=by
 have hp:t.p∈R.ps:=by rcases hf.2.2.2.2 with⟨_,h,_⟩|⟨_,h,_⟩|⟨h,_⟩<;>first|exact h|omega
 obtain⟨i,L,hi,hiw,hL,hsL,hLn⟩:=at_p hS hp
 have hL2:S.ws[i]=L:=(List.getElem?_eq_some_iff.1 hL).2
 obtain⟨s,hs,hsl,hsE⟩:=at_s hS hf.2.2.1 hf.2.2.2.1
 obtain⟨u,hu⟩:∃u,sHe S t.s=u:=⟨_,rfl⟩
 rw[hu] at hsE
 have hsE2:S.hs[s]=u:=(List.getElem?_eq_some_iff.1 hsE).2
 have hpl:=hR.pl
 have h24:R.ps.length<4294967296:=by omega
 have hwl:=hS.wl
 have hhl:=hS.hl
 have hsc:=hR.s2
 have hsc1:=hR.s1
 have hh:S.hs.length<4294967296:=by omega
 have hw:S.ws.length<4294967296:=by omega
 have hh0:0<S.hs.length:=by omega
 have hl:∀l∈S.ws,l.length<4294967296:=fun l h=>by have:=hS.ln l h;omega
 have hw0:0<S.ws.length:=by omega
 have hLl:L.length<4294967296:=by omega
 have hs4:s*4+4≤S.hs.length*4:=by omega
 have hs5:s*4+1≤S.hs.length*4:=by omega
 have hs6:s*4≤S.hs.length*4:=by omega
 have hat:=zq3 hsl
 rw[hsE2] at hat
 have hat2:=(List.getElem?_eq_some_iff.1 hat).2
 have hpart:=zf2 hsl
 rw[hsE2] at hpart
 have hset:=zm7 hsl (⟨0,0,0,0⟩)
 obtain⟨hs2,hhs2⟩:∃hs2,S.hs.set s (⟨0,0,0,0⟩)=hs2:=⟨_,rfl⟩
 rw[hhs2] at hset
 have hl2:hs2.length=S.hs.length:=by rw[← hhs2];simp
 have hch:=zhi hs2
 rw[hl2] at hch
 unfold chunk at hch
 rw[xf1] at hch
 unfold List.range at hch
 have hle3:S.hs.length*4≤hs2.length*4:=by omega
 have hhne:¬S.hs=[]:=fun h=>by rw[h] at hh0;exact absurd hh0 (by decide)
 rw[z6c hk hs hu,hhs2]
 have hcop:=zzv S hh hw hl
 clear hwl hhl hl2
 unfold encR encT
 refine .zag func84 rfl rfl ?_
 refine .sr ?_
 refine .seq ?_
 refine .zac [0,1,2,3] rfl zz0 ?_
 refine .rn [0] _ ?_
 refine .step rfl rfl (.call rfl rfl rfl call138 (by decide) (((hcop _ _ _ _)).mono ?_))
 rintro _ _ ⟨rfl,rfl⟩
 refine .rn [2,3] [] ?_
 refine .done (.seq (.seq ?_))
 refine .rec (vts2:=[(3,.ptr 0 0),(4,.ptr 1 0),(5,.ptr 2 0),(6,.ptr 3 0),(7,.bool false),(8,.ptr 9 0)]) (vh2:=⟨10,[(9,.box [.sub 7 0 S.hs.length,.vec (S.ws.map wQ),.int .i64 S.dy]),(7,.arr true 4 (heC S.hs)),(3,.box [.sl0,.sl0,.int .i64 0]),(2,.box [.int .i64 3,.int .i64 t.d,.int .i64 s,.int .i64 t.p,.int .i64 t.w,.int .i64 t.o]),(1,.box [.vec (S.hs.map zah),.vec (S.ws.map wQ),.int .i64 S.dy]),(0,.box [ints R.ps,.int .i64 R.sc,turns R.ts])]⟩) (.mk [8] [] zz20 zz21 rfl rfl rfl) ?_
 refine .rn ?_
 refine .cs ?_ ?_<;>intro c19
 ·try simp at c19
  refine .sr ?_
  refine .ret ?_
  refine⟨_,_,zz2,zz2,?_⟩
  rw[if_pos c19];rfl
 try simp at c19
 refine .skip (.sr ?_)
 refine .seq (.sr ?_)
 refine .cs ?_ ?_<;>intro c26
 ·try simp at c26
 try simp at c26
 refine .skip (.seq ?_)
 refine .zac [0,1,2,3,4] rfl zz0 ?_
 refine .rn [0,1,2] _ ?_
 refine .pc rfl rfl rfl rfl rfl call81 (p81 R t.p h24) ?_
 refine .rn [4] [] ?_
 refine .done (.seq ?_)
 refine .drawn (ms:=[0,1,0,7,15,0,32,127,255]) (W:=[7]) (items:=[.op 0,.op 1,.op 2,.op 3,.op 4,.op 5,.op 6,.op 7,.op 8]) rfl zz0 zz0 zz0 ?_
 iterate 7 refine .rx ?_
 refine .wp rfl rfl rfl rfl rfl call107 (zn5 L s hLl) ?_
 refine .rx ?_
 refine .done (.seq ?_)
 refine .drawn (ms:=[0,1,0,4,15,31,63,0,128,511,1023]) (W:=[]) (items:=[.op 0,.op 1,.op 2,.op 3,.op 4,.op 5,.op 6,.op 7,.op 8,.op 9,.op 10]) rfl zz0 zz0 zz0 ?_
 iterate 11 refine .rx ?_
 refine .done (.sr ?_)
 refine .seq (.sr ?_)
 refine .block (.sr ?_)
 refine .cs ?_ ?_<;>intro c57
 ·try simp at c57
 try simp at c57
 refine .sr ?_
 refine .cs ?_ ?_<;>intro c78
 ·try simp at c78
 try simp at c78
 refine .sr ?_
 refine .cs ?_ ?_<;>intro c93
 ·try simp at c93
  refine .sr ?_
  refine .rn ?_
  refine .sr ?_
  refine .ret ?_
  refine⟨_,_,zz2,(by simp[*]<;>rfl),?_⟩
  rw[if_neg (by omega)];rfl
 try simp at c93
end Go.Am.Hi
end
