/-
 What is used in the proof of a statement (part HmA); no condition.
-/
import Derived.Test.YtmgglkdilpglgaaGreatHiZ
import Derived.Test.YtmgglkdilpglgaaGreatVm2
import Derived.Test.YtmgglkdilpglgaaGreatHiT
import Derived.Test.YtmgglkdilpglgaaGreatHiA
import Derived.Test.YtmgglkdilpglgaaGreatHjA
import Derived.Test.YtmgglkdilpglgaaGreatHiB
set_option linter.all false
set_option maxHeartbeats 40000000
set_option maxRecDepth 100000
section
namespace Go.Am.Hi
open Go Go.Am Go.Proofs Tryz
attribute [local simp] vrun zbg zc6 vop vopA zc7 zab.back hidI hidF zgd bm Nat.testBit_eq_decide_div_mod_eq za1 zca zeg vO zcv vlen zdw zcz zjh zbo zbb zfu vbox zcw ziq zet zh4 zfr zbz zfs zb0 zft zcu zfx zdx zc8 vbnd zfa vidx zd1 zh1 zbt zd0 zfv zhu zjr zj2 vbin vsc vsc1 vscs vscl zdh aint zfj zhf zcd zew zjf pvcV pvc pvcs tput tget zc5 zab.get zab.alloc zab.put zab.drop zab.empty zbl vput zhp zbj zc4 zgg chunk List.range List.range.loop zbd zef zbn frz frzL PV.isF PV.allF PV.scal PV.allS retP subT zil PV.one PV.ids PV.idsL ze8 beq_eq zdn zed
def zb4:Value:=.iface 193 (.agg #[])
def z2j:PV:=.iface 193 (.agg [])
theorem z2p (g:Fz):FR g z2j zb4:=.iface _ _ _ (.agg _ _ rfl fun i v v' h=>by simp at h)
theorem z0d (g:Fz)(v':Value)(h:FR g (.iface 193 (.agg [])) v'):v'=zb4:=by
 cases h with
 |iface _ _ u hu=>
  cases hu with
  |agg _ cs hs r=>
   have:cs=#[]:=Array.eq_empty_of_size_eq_zero (by simpa using hs.symm)
   subst this;rfl
theorem z0u (μ:Mu):RelV μ zb4 zb4:=.iface _ _ _ (.agg _ _ rfl fun i h=>by simp at h)
theorem zw8 (μ:Mu)(v':Value)(h:RelV μ zb4 v'):v'=zb4:=by
 unfold zb4 at h
 cases h with
 |iface _ _ u hu=>
  cases hu with
  |agg _ cs hs r=>
   have:cs=#[]:=Array.eq_empty_of_size_eq_zero (by simpa using hs.symm)
   subst this;rfl
theorem U193:prog.underlying 193=some (.struct #[]):=by rfl
theorem x167 (vh:zab):zbh prog 167 [.bool false] vh zb4 fun vh'=>vh'=vh:=by
 refine .zag func167 rfl rfl ?_
 refine .sr ?_
 refine .zgb rfl ?_
 refine VW.zfk (pv:=zb4) (l:=[0,1]) (k:=2) zz0 rfl rfl rfl ?_
 refine .rn [0] _ ?_
 refine .step rfl rfl (.z3m rfl U193 rfl rfl (by decide) ?_)
 refine .done ?_
 refine zc0.panic rfl rfl z0d zw8 ?_
 exact⟨rfl,rfl⟩
theorem p167:zao prog 167 [.bool true] fun r=>r=.tup []:=by
 refine .zag func167 rfl rfl ?_
 refine .sr ?_
 refine .zjd rfl (.skip ?_)
 refine⟨_,_,zz2,zz2,?_⟩
 rfl
def dH (n:Nat)(d:Int)(x y q:List (PV×PV)):zab:=⟨n,[(3,.box [.int .i64 d,.mapv 0,.mapv 1,.mapv 2]),(2,.map q),(1,.map y),(0,.map x)]⟩
theorem U20:∃ms,prog.underlying 20=some (.interface ms):=⟨_,rfl⟩
attribute [local simp] zax zat zaz
structure He where
  p:Int
  s:Int
  a:Int
  b:Int
def zah (x:He):PV:=.agg [.int .i64 x.p,.int .i64 x.s,.int .i64 x.a,.int .i64 x.b]
@[simp] theorem z4f (x:He):(zah x).cells=[.int .i64 x.p,.int .i64 x.s,.int .i64 x.a,.int .i64 x.b]:=rfl
@[simp] theorem z6r (x:He):(zah x).isF=true:=rfl
@[simp] theorem z4s (x:He):(zah x).scal=true:=rfl
@[simp] theorem z9q (vh:zab)(x:He):frz vh (zah x)=some (zah x):=by simp[zah,frz,frzL]
@[simp] theorem encHe0:PV.agg [.int .i64 0,.int .i64 0,.int .i64 0,.int .i64 0]=zah ⟨0,0,0,0⟩:=rfl
def dk (d:Int)(x:List (Int×He))(y:List (Int×Int))(q:List (Int×List Int)):PV:=.vp [.int .i64 d,.vmap (mpG zah x),.vmap (mpG (PV.int .i64) y),.vmap (mpG ints q)]
theorem p158 (d s:Int)(x:List (Int×He))(y:List (Int×Int))(q:List (Int×List Int)):zao prog 158 [dk d x y q,.int .i64 s] fun r=>r=.tup [zah ((alk x s).getD ⟨0,0,0,0⟩),.bool (alk x s).isSome]:=by
 unfold dk
 refine .zag func158 rfl rfl ?_
 rcases hx:alk x s with _|u
 ·
  refine .sr ?_
  refine .sr ?_
  refine .sr ?_
  refine .ret ?_
  refine⟨_,_,zz2,zz2,?_⟩
  first|rfl|(simp[*];done)|(simp_all;done)
 ·
  refine .sr ?_
  refine .sr ?_
  refine .sr ?_
  refine .ret ?_
  refine⟨_,_,zz2,zz2,?_⟩
  first|rfl|(simp[*];done)|(simp_all;done)
theorem p160 (d s p:Int)(x:List (Int×He))(y:List (Int×Int))(q:List (Int×List Int))(hl:∀l,alk q p=some l→l.length<4294967296):zao prog 160 [dk d x y q,.int .i64 s,.int .i64 p] fun r=>r=.bool (decide (s∈(alk q p).getD [])):=by
 unfold dk
 refine .zag func160 rfl rfl ?_
 rcases hx:alk q p with _|u
 ·
  refine .sr ?_
  refine .seq ?_
  refine .zac [0,1,2,3,4,5,6,7,8] rfl zz0 ?_
  refine .rn [0,1,2,3,4,5,6] _ ?_
  refine .pc rfl rfl rfl rfl rfl call99 (zao.sl0h (p99 [] s (by simp))) ?_
  refine .rn [8] [] ?_
  refine .done (.ret ?_)
  refine⟨_,_,zz2,zz2,?_⟩
  first|rfl|(simp[*];done)|(simp_all;done)
 ·
  refine .sr ?_
  refine .seq ?_
  refine .zac [0,1,2,3,4,5,6,7,8] rfl zz0 ?_
  refine .rn [0,1,2,3,4,5,6] _ ?_
  refine .pc rfl rfl rfl rfl rfl call99 (p99 u s (hl u hx)) ?_
  refine .rn [8] [] ?_
  refine .done (.ret ?_)
  refine⟨_,_,zz2,zz2,?_⟩
  first|rfl|(simp[*];done)|(simp_all;done)
theorem zl2 {α:Type}(p:α→Bool):∀(l:List α) (k:Nat),idxF p k l = -1→l.filter (fun a=>!p a)=l
 |[],_,_=>rfl
 |a::r,k,h=>by
  simp only[idxF] at h
  by_cases hp:p a=true
  ·rw[if_pos hp] at h;omega
  rw[if_neg hp] at h
  simp only[List.filter_cons]
  rw[if_pos (by simp[hp]),zl2 p r (k+1) h]
theorem zi2 {α:Type}(p:α→Bool):∀(l:List α) (k:Nat),idxF p k l ≠ -1→∃i,∃h:i<l.length,idxF p k l=((k+i:Nat):Int)∧p l[i]=true∧(l.take i).filter (fun a=>!p a)=l.take i
 |[],_,h=>absurd rfl h
 |a::r,k,h=>by
  simp only[idxF] at h ⊢
  by_cases hp:p a=true
  ·exact⟨0,by simp,by rw[if_pos hp];simp,by simpa using hp,by simp⟩
  rw[if_neg hp] at h ⊢
  obtain⟨i,h1,h2,h3,h4⟩:=zi2 p r (k+1) h
  refine⟨i+1,by simp;omega,by rw[h2];congr 1;omega,by simpa using h3,?_⟩
  simp only[List.take_succ_cons,List.filter_cons]
  rw[if_pos (by simp[hp]),h4]
mutual
theorem zx9 (vh:zab):∀ {v:PV},v.isF=true→frz vh v=some v
 |.func f xs ys,h=>by
  simp only[PV.isF,xf3] at h
  simp only[frz,zf9 vh h.1,zf9 vh h.2]
 |.agg cs,h=>by simp only[PV.isF] at h;simp only[frz,zf9 vh h,Option.map_some]
 |.tup cs,h=>by simp only[PV.isF] at h;simp only[frz,zf9 vh h,Option.map_some]
 |.iface t v,h=>by simp only[PV.isF] at h;simp only[frz,h,xf1]
 |.ptr ..,h=>by simp[PV.isF] at h
 |.own ..,h=>by simp[PV.isF] at h
 |.sub ..,h=>by simp[PV.isF] at h
 |.grow ..,h=>by simp[PV.isF] at h
 |.mapv ..,h=>by simp[PV.isF] at h
 |.yld ..,h=>by simp[PV.isF] at h
 |.bool _,_=>by simp only[frz]
 |.int _ _,_=>by simp only[frz]
 |.str _,_=>by simp only[frz]
 |.nilFunc,_=>by simp only[frz]
 |.nilIface,_=>by simp only[frz]
 |.ptr0,_=>by simp only[frz]
 |.sl0,_=>by simp only[frz]
 |.map0,_=>by simp only[frz]
 |.e0,_=>by simp only[frz]
 |.vec _,_=>by simp only[frz]
 |.vp _,_=>by simp only[frz]
 |.vmap _,_=>by simp only[frz]
theorem zf9 (vh:zab):∀ {l:List PV},PV.allF l=true→frzL vh l=some l
 |[],_=>by simp only[frzL]
 |v::r,h=>by
  simp only[PV.allF,xf3] at h
  simp only[frzL,zx9 vh h.1,zf9 vh h.2]
end
@[simp] theorem z1q (l:List Int):List.take l.length (l.map (PV.int .i64))=l.map (PV.int .i64):=List.take_of_length_le (by rw[List.length_map];exact Nat.le_refl _)
@[simp] theorem z1j (l:List Int):l.all (PV.one∘PV.int .i64)=true:=by simp[PV.one]
theorem zjw {α:Type}{a b:List α}{j:Nat}(h:a.drop j=b.drop j):a[j]?=b[j]?:=by
 have:=congrArg (·[0]?) h
 simpa using this
theorem zej {α:Type}{a b:List α}{j:Nat}(h:a.drop j=b.drop j):a.drop (j+1)=b.drop (j+1):=by
 rw[← List.drop_drop,← List.drop_drop,h]
theorem p93 (l:List Int)(p:Int→Bool)(f:FuncId)(xs ys:List PV)(hl:l.length<4294967296)(hne:0<l.length)(hx:PV.allF xs=true)(hy:PV.allF ys=true)(hcf:∀cs w,(callFunc f cs).run prog w=.ok (.enter f cs) w)(hp:∀a∈l,zao prog f (xs++[.int .i64 a]++ys) fun r=>r=.bool (p a)):zar prog 93 [.sub 0 0 l.length,.func f xs ys] ⟨1,[(0,.arr false 1 (l.map (.int .i64)))]⟩ fun r _=>r.isF=true∧r=ints (l.filter fun a=>!p a):=by
 have hl0:¬l=[]:=by rintro rfl;simp at hne
 have hxz:∀vh,frzL vh xs=some xs:=fun vh=>zf9 vh hx
 have hyz:∀vh,frzL vh ys=some ys:=fun vh=>zf9 vh hy
 refine .ztu func93 rfl rfl ?_
 refine .sr ?_
 refine .seq ?_
 refine .zac [0,1,2,3] rfl zz0 ?_
 refine .rn [0,1] _ ?_
 refine .step rfl rfl (.borrow rfl rfl rfl call133 (by decide) (by first|(simp<;>rfl)|(simp[*]<;>rfl)|(simp[*];done)) (p133 l p f xs ys (by omega) hx hy hcf hp) (by rintro _ rfl<;>first|(simp;done)|rfl) ?_)
 rintro _ rfl
 refine .rn [3] [] ?_
 refine .done (.seq (.sr ?_))
 refine .cs ?_ ?_<;>intro c12
 ·try simp at c12
  refine .sr ?_
  refine .ret ?_
  refine⟨_,_,zz2,(by simp[*]<;>rfl),?_⟩
  rw[zl2 p l 0 c12]
 try simp at c12
 obtain⟨i0,hi0,hie,hp0,hbef⟩:=zi2 p l 0 c12
 rw[Nat.zero_add] at hie
 have hw1:=wr1 i0
 refine .skip (.seq (.sr ?_))
 refine .block ?_
 refine .zb5 (fun st:Nat×Nat×List Int=>([(0,.sub 0 0 l.length),(1,.func f xs ys),(5,.int .i64 st.1),(6,.int .i64 st.2.1)],⟨1,[(0,.arr false 1 (st.2.2.map (.int .i64)))]⟩)) (fun st=>st.2.2.length=l.length∧st.1<st.2.1∧st.2.1≤l.length∧st.2.2.take st.1=(l.take st.2.1).filter (fun a=>!p a)∧st.2.2.drop st.2.1=l.drop st.2.1) (fun st=>l.length - st.2.1) (i0,i0+1,l) ⟨rfl,by simp,hi0,by rw[List.take_succ_eq_append_getElem hi0,List.filter_append,hbef];simp[hp0],rfl⟩ (.mk [] [] zz8 zz9 rfl rfl rfl) ?_
 rintro⟨i,j,cs⟩ ⟨hcl,hij,hjl,htk,hdr⟩
 simp only at hcl hij hjl htk hdr ⊢
 refine .seq (.sr ?_)
 refine .cs ?_ ?_<;>intro c19
 ·try simp at c19
  have hw2:=wr1 j
  have hw3:=wr1 i
  have hj:cs[j]?=some l[j]:=by rw[zjw hdr];simp[c19]
  have hjc:j<cs.length:=by omega
  have hcj:cs[j]=l[j]:=by rw[List.getElem?_eq_getElem hjc] at hj;injection hj
  have hil:i<l.length:=by omega
  have hi1:i+1≤l.length:=by omega
  have hp:=hp l[j] (List.getElem_mem c19)
  refine .skip (.seq (.block (.sr ?_)))
  refine .seq ?_
  refine .zac [0,1,2,3] rfl zz0 ?_
  refine .rn [0,1] _ ?_
  refine .step rfl rfl (.pure rfl rfl rfl hcf (by decide) (hp) (by first|rfl|simp[*]) ?_)
  rintro _ rfl
  refine .rn [3] [] ?_
  refine .done ?_
  refine .cs ?_ ?_<;>intro c29
  ·try simp at c29
   refine .sr ?_
   refine .rn ?_
   refine .rn ?_
   refine⟨(i+1,j+1,cs.set i l[j]),⟨by simp[hcl],by simp;omega,c19,?_,?_⟩,zz3,.mk [] [] zz8 ⟨⟨xf0 rfl,Or.inr ⟨rfl,_,rfl,?_⟩⟩,trivial⟩ rfl rfl rfl⟩
   ·simp only
    rw[List.take_succ_eq_append_getElem (by simp;omega),List.take_set_of_le (Nat.le_refl i),htk,List.take_succ_eq_append_getElem c19,List.filter_append]
    simp[c29]
   ·simp only
    rw[List.drop_set_of_lt (by omega)]
    exact zej hdr
   refine congrArg (VObj.arr _ _) ?_
   rw[List.set_eq_take_append_cons_drop,if_pos (by omega)]
   simp
  try simp at c29
  refine .skip (.rn ?_)
  refine⟨(i,j+1,cs),⟨hcl,by simp;omega,c19,?_,zej hdr⟩,zz3,(.mk [] [] zz8 zz9 rfl rfl rfl)⟩
  simp only
  rw[htk,List.take_succ_eq_append_getElem c19,List.filter_append]
  simp[c29]
 try simp at c19
 have hjn:j=l.length:=by omega
 obtain⟨m,hm⟩:∃m,l.length - i=m+1:=⟨l.length - i - 1,by omega⟩
 have hin:¬l.length=i:=by omega
 have hil:i≤l.length:=by omega
 have him:i+(m+1)≤l.length:=by omega
 refine .exit (.sr ?_)
 refine .sr ?_
 refine .ret ?_
 refine⟨_,ints (l.filter fun a=>!p a),zz2,?_,rfl⟩
 rw[hjn,List.take_length] at htk
 by_cases hi:i=0
 ·subst hi
  simp at htk
  simp[ints]
  intro a ha
  cases hpa:p a with
  |true=>rfl
  |false=>exact absurd (hpa▸htk a ha) (by simp)
 have e1:(List.map (PV.int .i64) cs).take i=(l.filter fun a=>!p a).map (.int .i64):=by rw[← List.map_take,htk]
 have e2:((l.filter fun a=>!p a).map (PV.int .i64)).all PV.one=true:=by simp[PV.one]
 have e3:((List.map (PV.int .i64) cs).drop (i+(m+1))).all PV.one=true:=by
  rw[List.all_eq_true]
  intro x hx
  obtain⟨y,_,rfl⟩:=List.mem_map.1 (List.mem_of_mem_drop hx)
  rfl
 have e0:(l.filter fun a=>!p a).length=i:=by rw[← htk,List.length_take];omega
 have e4:∀X:List PV,List.take i (List.map (PV.int .i64) (l.filter fun a=>!p a)++X)=List.map (PV.int .i64) (l.filter fun a=>!p a):=fun X=>List.take_left' (by rw[List.length_map,e0])
 simp only[hm,e1] at *
 simp[*]
theorem p93e (f:FuncId)(xs ys:List PV)(hx:PV.allF xs=true)(hy:PV.allF ys=true)(hcf:∀cs w,(callFunc f cs).run prog w=.ok (.enter f cs) w):zao prog 93 [.vec [],.func f xs ys] fun r=>r=.vec []:=by
 refine .zag func93 rfl rfl ?_
 refine .sr ?_
 refine .seq ?_
 refine .zac [0,1,2,3] rfl zz0 ?_
 refine .rn [0,1] _ ?_
 refine .step rfl rfl (.pure rfl rfl rfl call133 (by decide) (p133 ([]:List Int) (fun _=>true) f xs ys (by simp) hx hy hcf (fun a ha=>by cases ha)) (by simp[*]) ?_)
 rintro _ rfl
 refine .rn [3] [] ?_
 refine .done (.seq (.seq ?_))
 refine .run zz0 (by simp[idxF, *]<;>first|exact⟨rfl,rfl⟩|exact rfl) ?_
 refine .zgb rfl (.sr ?_)
 refine .ret ?_
 exact⟨_,.vec [],zz2,(by simp),rfl⟩
theorem z6i {vh:zab}(l:List Int)(p:Int→Bool)(f:FuncId)(xs ys:List PV)(hl:l.length<4294967296)(hne:0<l.length)(hx:PV.allF xs=true)(hy:PV.allF ys=true)(hcf:∀cs w,(callFunc f cs).run prog w=.ok (.enter f cs) w)
  (hp:∀a∈l,zao prog f (xs++[.int .i64 a]++ys) fun r=>r=.bool (p a)) (i:Nat) (nl:Bool) (hg:vh.get i=some (.grow 1 (l.map (.int .i64)))):zar prog 93 [.grow i l.length nl,.func f xs ys] vh fun v vh'=>vh'=vh.drop i∧v=ints (l.filter fun a=>!p a):=by
 obtain⟨a,r,hc⟩:∃a r,l=a::r:=by
  cases l with
  |nil=>simp at hne
  |cons a r=>exact⟨a,r,rfl⟩
 refine zar.give (x0:=.arr false 1 (l.map (.int .i64))) hg (by rw[hc];rfl) ⟨rfl,⟨.int .i64 a,r.map (.int .i64),by rw[hc];rfl⟩,zeh l⟩ (AltL.cons (.growS i 0 l.length nl 1 _ (by decide) rfl hg (by simp) hne) (AltL.cons (.same _ ?_) AltL.nil)) (p93 l p f xs ys hl hne hx hy hcf hp)
 simp only[PV.isF,hx,hy,Bool.and_self]
theorem xbf:zao prog 94 [.vec []] fun r=>r=.vec []∨r=.sl0:=by
 refine .zag func94 rfl rfl ?_
 refine .sr ?_
 refine .seq (.seq ?_)
 refine .zac [0,1] rfl zz0 ?_
 refine .rn [0] _ ?_
 refine .step rfl rfl (.nilQ ⟨_,rfl⟩ u22 rfl rfl (by decide) fun q=>?_)
 refine .done ?_
 cases q with
 |true=>
  refine .zgb rfl (.sr ?_)
  refine .ret ?_
  exact⟨_,.sl0,zz2,(by simp),.inr rfl⟩
 |false=>
  refine .zjd rfl (.skip (.sr ?_))
  refine .ret ?_
  first|exact⟨_,.vec [],zz2,(by simp),.inl rfl⟩|exact⟨_,.sl0,zz2,(by simp),.inr rfl⟩
theorem p94n (l:List Int)(hl:l.length<4294967296)(h0:0<l.length):zao prog 94 [ints l] fun r=>r=ints l:=by
 obtain⟨a,r,rfl⟩:∃a r,l=a::r:=by cases l with|nil=>simp at h0|cons a r=>exact⟨a,r,rfl⟩
 have hl3:r.length+1≤4294967296:=by simp at hl;omega
 have h1:zf0 1 (PV.int .i64 a::r.map (PV.int .i64))=true:=znj (f:=PV.int .i64) (n:=1) (fun _=>rfl) (a::r)
 have h2:zdj (PV.int .i64 a::r.map (PV.int .i64))=true:=zk7 (f:=PV.int .i64) (fun _=>rfl) (a::r)
 refine .zag func94 rfl rfl ?_
 refine .sr ?_
 refine .seq (.sr ?_)
 refine .cs ?_ ?_<;>intro c4
 ·try simp at c4
 try simp at c4
 refine .skip (.sr ?_)
 refine .ret ?_
 refine⟨_,_,zz2,zz2,?_⟩
 first|rfl|(simp[*];done)|(simp_all;done)
theorem p94a (l:List Int)(hl:l.length<4294967296):zao prog 94 [ints l] fun r=>r=ints l:=by
 cases l with
 |nil=>
  exact xbf.alt fun r h=>by
   rcases h with rfl|rfl
   ·exact⟨.vec [],.same _ rfl,rfl,rfl⟩
   exact⟨.vec [],.sl0v,rfl,rfl⟩
 |cons a r=>exact p94n (a::r) hl (by simp)
theorem p192 (s t:Int):zao prog 192 [.int .i64 t,.vp [.int .i64 s]] fun r=>r=.bool (decide (t=s)):=by
 refine .zag func192 rfl rfl ?_
 refine .sr ?_
 refine .sr ?_
 refine .ret ?_
 refine⟨_,_,zz2,zz2,?_⟩
 first|rfl|(simp[*];done)|(simp_all;done)
theorem p94g (l:List Int)(hne:0<l.length)(hl:l.length<4294967296):zar prog 94 [ints l] zab.empty fun v vh'=>∃i nl,v=.grow i l.length nl∧vh'.get i=some (.grow 1 (l.map (.int .i64))):=by
 obtain⟨a,r,rfl⟩:∃a r,l=a::r:=by
  cases l with
  |nil=>simp at hne
  |cons a r=>exact⟨a,r,rfl⟩
 have h1:r.length+1≤4294967296:=by simp at hl;omega
 have h2:r.length≤4294967295:=by omega
 have hS:zf0 1 (PV.int .i64 a::r.map (PV.int .i64))=true:=zwm .i64 (a::r)
 have hO:zdj (PV.int .i64 a::r.map (PV.int .i64))=true:=zv1 .i64 (a::r)
 refine .zag func94 rfl rfl ?_
 refine .sr ?_
 refine .seq (.seq ?_)
 refine .run zz0 (by simp[ints, *]<;>first|exact⟨rfl,rfl⟩|exact rfl) ?_
 refine .zjd rfl (.skip (.seq ?_))
 refine .run zz0 (by simp[ints, *]<;>first|exact⟨rfl,rfl⟩|exact rfl) ?_
 refine .ret ?_
 exact⟨_,zz2,_,_,rfl,by simp⟩
attribute [local simp] zax zat zaz
def outS (l:List Int)(s:Int):List Int:=l.filter fun a=>!decide (a=s)
theorem p185 (d s p:Int)(x:List (Int×He))(y:List (Int×Int))(q:List (Int×List Int))(hl:∀l,alk q p=some l→l.length<4294967296):zar prog 185 [.ptr 3 0,.int .i64 s,.int .i64 p] (dH 9 d (mpG zah x) (mpG (PV.int .i64) y) (mpG ints q)) fun v vh'=>v=.tup []∧∃n,vh'=dH n d (mpG zah x) (mpG (PV.int .i64) y) (mpG ints (aset q p (outS ((alk q p).getD []) s))):=by
 unfold dH
 have hA:∀l:List Int,zjx .i64 p (ints l) (mpG ints q)=some (mpG ints (aset q p l)):=fun l=>zat p l q
 have hA0:zjx .i64 p (.vec []) (mpG ints q)=some (mpG ints (aset q p [])):=hA []
 refine .zag func185 rfl rfl ?_
 obtain⟨w,hw⟩:∃w,alk q p=w:=⟨_,rfl⟩
 rcases w with _|_|⟨a,r⟩
 ·
  refine .sr ?_
  refine .rec (vts2:=[(0,.ptr 3 0),(2,.int .i64 p),(4,.vp [.int .i64 s])]) (vh2:=⟨9,[(3,.box [.int .i64 d,.mapv 0,.mapv 1,.mapv 2]),(2,.map (mpG ints q)),(1,.map (mpG (PV.int .i64) y)),(0,.map (mpG zah x))]⟩) (.mk [9] [] zz10 zz11 rfl rfl rfl) ?_
  refine .drawn (ms:=[0,1,3,7,0,0,32,96,224,0,992,2016,0,8160,16383]) (W:=[11,13,14]) (items:=[.op 0,.op 1,.op 2,.op 3,.op 4,.op 5,.op 6,.op 7,.op 8,.op 9,.op 10,.op 12,.op 11,.ck 3,.op 13,.ck 3,.op 14]) rfl zz0 zz0 zz0 ?_
  iterate 12 refine .rx ?_
  refine .wp rfl rfl rfl rfl rfl call94 (zao.sl0h (p94a [] (by simp))) ?_
  refine .ck rfl zz0 ?_
  refine .wp rfl rfl rfl rfl rfl call93 (p93e 192 [] [.vp [.int .i64 s]] rfl rfl call192) ?_
  refine .ck rfl zz0 ?_
  refine .wv ?_
  refine .done ?_
  exact⟨[],rfl,rfl,9,by rw[hw];rfl⟩
 ·
  refine .sr ?_
  refine .rec (vts2:=[(0,.ptr 3 0),(2,.int .i64 p),(4,.vp [.int .i64 s])]) (vh2:=⟨9,[(3,.box [.int .i64 d,.mapv 0,.mapv 1,.mapv 2]),(2,.map (mpG ints q)),(1,.map (mpG (PV.int .i64) y)),(0,.map (mpG zah x))]⟩) (.mk [9] [] zz10 zz11 rfl rfl rfl) ?_
  refine .drawn (ms:=[0,1,3,7,0,0,32,96,224,0,992,2016,0,8160,16383]) (W:=[11,13,14]) (items:=[.op 0,.op 1,.op 2,.op 3,.op 4,.op 5,.op 6,.op 7,.op 8,.op 9,.op 10,.op 12,.op 11,.ck 3,.op 13,.ck 3,.op 14]) rfl zz0 zz0 zz0 ?_
  iterate 12 refine .rx ?_
  refine .wp rfl rfl rfl rfl rfl call94 (p94a [] (by simp)) ?_
  refine .ck rfl zz0 ?_
  refine .wp rfl rfl rfl rfl rfl call93 (p93e 192 [] [.vp [.int .i64 s]] rfl rfl call192) ?_
  refine .ck rfl zz0 ?_
  refine .wv ?_
  refine .done ?_
  exact⟨[],rfl,rfl,9,by rw[hw];rfl⟩
 ·
  refine .sr ?_
  refine .rec (vts2:=[(0,.ptr 3 0),(2,.int .i64 p),(4,.vp [.int .i64 s])]) (vh2:=⟨9,[(3,.box [.int .i64 d,.mapv 0,.mapv 1,.mapv 2]),(2,.map (mpG ints q)),(1,.map (mpG (PV.int .i64) y)),(0,.map (mpG zah x))]⟩) (.mk [9] [] zz10 zz11 rfl rfl rfl) ?_
  refine .drawn (ms:=[0,1,3,7,0,0,32,96,224,0,992,2016,0,8160,16383]) (W:=[11,13,14]) (items:=[.op 0,.op 1,.op 2,.op 3,.op 4,.op 5,.op 6,.op 7,.op 8,.op 9,.op 10,.op 12,.op 11,.ck 3,.op 13,.ck 3,.op 14]) rfl zz0 zz0 zz0 ?_
  iterate 12 refine .rx ?_
  refine .wr rfl rfl (by decide) (.redo (todo':=[3]) (.call rfl rfl rfl call94 (by decide) (((zar.fresh' (by simp) (p94g (a::r) (by simp) (hl _ hw)) rfl (by simp))).mono ?_)))
  rintro _ _ ⟨rfl,rfl⟩
  refine⟨⟨⟨by decide +kernel,_,_,_,rfl,rfl,rfl,rfl,zz1⟩,trivial⟩,?_⟩
  refine .ck rfl zz0 ?_
  refine .wr rfl rfl (by decide) (.redo (todo':=[3]) (.call rfl rfl rfl call93 (by decide) (((z6i (a::r) (fun t=>decide (t=s)) 192 [] [.vp [.int .i64 s]] (hl _ hw) (by simp) rfl rfl call192 (fun t _=>p192 s t) 9 false rfl)).mono ?_)))
  rintro _ _ ⟨rfl,rfl⟩
  refine⟨⟨⟨by decide +kernel,_,_,_,rfl,rfl,rfl,rfl,zz1⟩,trivial⟩,?_⟩
  refine .ck rfl zz0 ?_
  refine .wv ?_
  refine .done ?_
  exact⟨[],rfl,rfl,10,by rw[hw];rfl⟩
structure Tu where
  k:Int
  d:Int
  s:Int
  p:Int
  w:Int
  o:Int
def encT (t:Tu):PV:=.agg [.int .i64 t.k,.int .i64 t.d,.int .i64 t.s,.int .i64 t.p,.int .i64 t.w,.int .i64 t.o]
@[simp] theorem z5d (t:Tu):(encT t).cells=[.int .i64 t.k,.int .i64 t.d,.int .i64 t.s,.int .i64 t.p,.int .i64 t.w,.int .i64 t.o]:=rfl
@[simp] theorem xa7 (t:Tu):(encT t).isF=true:=rfl
structure DAt (vh:zab) (d:Int) (x:List (Int×He)) (y:List (Int×Int)) (q:List (Int×List Int)):Prop where
  h3:vh.get 3=some (.box [.int .i64 d,.mapv 0,.mapv 1,.mapv 2])
  h2:vh.get 2=some (.map (mpG ints q))
  h1:vh.get 1=some (.map (mpG (PV.int .i64) y))
  h0:vh.get 0=some (.map (mpG zah x))
theorem zkd (b:Bool)(h:b=true):zao prog 167 [.bool b] fun r=>r=.tup []:=by subst h;exact p167
theorem zjc (vh:zab)(b:Bool)(h:b=false):zbh prog 167 [.bool b] vh zb4 fun vh'=>vh'=vh:=by subst h;exact x167 vh
theorem zfz {vh:zab}{d v:Int}{x:List (Int×He)}{y:List (Int×Int)}{q:List (Int×List Int)}(h3:vh.get 3=some (.box [.int .i64 d,.mapv 0,.mapv 1,.mapv 2]))(hz:frzL vh [.int .i64 d,.mapv 0,.mapv 1,.mapv 2]=some [.int .i64 d,.vmap (mpG zah x),.vmap (mpG (PV.int .i64) y),.vmap (mpG ints q)]):zoa vh [.ptr 3 0,.int .i64 v] [dk d x y q,.int .i64 v]:=⟨.ptr h3 hz rfl,.frz rfl,trivial⟩
theorem zj4 {vh:zab}{d v v2:Int}{x:List (Int×He)}{y:List (Int×Int)}{q:List (Int×List Int)}(h3:vh.get 3=some (.box [.int .i64 d,.mapv 0,.mapv 1,.mapv 2]))(hz:frzL vh [.int .i64 d,.mapv 0,.mapv 1,.mapv 2]=some [.int .i64 d,.vmap (mpG zah x),.vmap (mpG (PV.int .i64) y),.vmap (mpG ints q)]):zoa vh [.ptr 3 0,.int .i64 v,.int .i64 v2] [dk d x y q,.int .i64 v,.int .i64 v2]:=⟨.ptr h3 hz rfl,.frz rfl,.frz rfl,trivial⟩
theorem p166 (d:Int)(t:Tu)(x:List (Int×He))(y:List (Int×Int))(q:List (Int×List Int))(hl:∀p l,alk q p=some l→l.length<4294967296)(h1:t.s∈(alk q t.p).getD []):zar prog 166 [.ptr 3 0,encT t] (dH 8 d (mpG zah x) (mpG (PV.int .i64) y) (mpG ints q)) fun v vh'=>v=.tup []∧DAt vh' d x y (aset q t.p (outS ((alk q t.p).getD []) t.s)):=by
 unfold dH
 unfold encT
 refine .zag func166 rfl rfl ?_
 refine .sr ?_
 refine .seq ?_
 refine .zac [0,1,2,3,4,5,6] rfl zz0 ?_
 refine .rn [0,1,2,3,4] _ ?_
 refine .step rfl rfl (.za2 rfl rfl rfl call160 (by decide) (zj4 rfl rfl) (p160 d t.s t.p x y q (hl t.p)) (by rintro _ rfl<;>first|(simp;done)|rfl) ?_)
 rintro _ rfl
 refine .pc rfl rfl rfl rfl rfl call167 (zkd _ (by simp[h1])) ?_
 refine .done ?_
 refine .zac [0,1,2,3,4,5] rfl zz0 ?_
 refine .rn [0,1,2,3,4] _ ?_
 refine .step rfl rfl (.call rfl rfl rfl call185 (by decide) (((zar.frame (i:=8) rfl rfl (p185 d t.s t.p x y q (hl t.p)))).mono ?_))
 rintro _ _ ⟨_,⟨rfl,n,rfl⟩,rfl⟩
 refine .done ?_
 exact⟨[],rfl,rfl,rfl,rfl,rfl,rfl⟩
theorem p164 (d:Int)(t:Tu)(x:List (Int×He))(y:List (Int×Int))(q:List (Int×List Int))(u:He)(h1:alk x t.s=some u)(h2:u.p=t.p):zar prog 164 [.ptr 3 0,encT t] (dH 8 d (mpG zah x) (mpG (PV.int .i64) y) (mpG ints q)) fun v vh'=>v=.tup []∧DAt vh' d (adl x t.s) (adl y t.p) q:=by
 unfold dH
 unfold encT
 refine .zag func164 rfl rfl ?_
 refine .sr ?_
 refine .seq ?_
 refine .zac [0,1,2,3,4,5,6,7,8,9] rfl zz0 ?_
 refine .rn [0,1,2] _ ?_
 refine .step rfl rfl (.za2 rfl rfl rfl call158 (by decide) (zfz rfl rfl) (p158 d t.s x y q) (by rintro _ rfl<;>first|(simp;done)|rfl) ?_)
 rintro _ rfl
 rw[h1]
 simp only[Option.getD_some,Option.isSome_some]
 refine .rn [4,5,6,7,8,9] [] ?_
 refine .done (.seq ?_)
 refine .zac [0,1,2,3,4,5,6,7,8] rfl zz0 ?_
 refine .rn [0,1] _ ?_
 refine .split (t:=14) rfl (fun c14=>?_) (fun c14=>?_)
 ·try rw[c14]
  try simp at c14
  refine .rn [2,3,4,5,6,7] _ ?_
  refine .pc rfl rfl rfl rfl rfl call167 (zkd _ (by simp[h2])) ?_
  refine .done (.seq ?_)
  refine .drawn (ms:=[0,1,3,7,0,16,63]) (W:=[6]) (items:=[.op 0,.op 1,.op 2,.op 3,.op 4,.op 5,.op 6]) rfl zz0 zz0 zz0 ?_
  iterate 6 refine .rx ?_
  refine .wv ?_
  refine .done ?_
  refine .drawn (ms:=[0,1,3,7,0,16,63]) (W:=[6]) (items:=[.op 0,.op 1,.op 2,.op 3,.op 4,.op 5,.op 6]) rfl zz0 zz0 zz0 ?_
  iterate 6 refine .rx ?_
  refine .wv ?_
  refine .done ?_
  exact⟨[],rfl,rfl,rfl,rfl,rfl,rfl⟩
 try rw[c14]
 try simp at c14
theorem p94z:zao prog 94 [.vec []] fun r=>r=.e0:=by
 refine zar.toE0 ?_
 refine .zag func94 rfl rfl ?_
 refine .sr ?_
 refine .seq (.seq ?_)
 refine .zac [0,1] rfl zz0 ?_
 refine .rn [0] _ ?_
 refine .step rfl rfl (.nilQ ⟨_,rfl⟩ u22 rfl rfl (by decide) fun q=>?_)
 refine .done ?_
 cases q with
 |true=>
  refine .zgb rfl (.sr ?_)
  refine .ret ?_
  exact⟨_,zz2,.inl rfl⟩
 |false=>
  refine .zjd rfl (.skip (.sr ?_))
  refine .ret ?_
  first|exact⟨_,zz2,.inr (.inl ⟨_,_,rfl⟩)⟩|exact⟨_,zz2,.inr (.inr ⟨_,_,rfl⟩)⟩
theorem p162 (d:Int)(t:Tu)(x:List (Int×He))(y:List (Int×Int))(q:List (Int×List Int))(hl:∀p l,alk q p=some l→l.length<4294967290)(h1:∀u,alk x t.s=some u→¬u.p=t.p)(h2:t.s∉(alk q t.p).getD []):zar prog 162 [.ptr 3 0,encT t] (dH 8 d (mpG zah x) (mpG (PV.int .i64) y) (mpG ints q)) fun v vh'=>v=.tup []∧DAt vh' d x y (aset q t.p ((alk q t.p).getD []++[t.s])):=by
 unfold dH
 unfold encT
 have hA:∀l:List Int,zjx .i64 t.p (ints l) (mpG ints q)=some (mpG ints (aset q t.p l)):=fun l=>zat t.p l q
 have hA1:zjx .i64 t.p (.vec [.int .i64 t.s]) (mpG ints q)=some (mpG ints (aset q t.p [t.s])):=hA [t.s]
 have hO:zdj [PV.int .i64 t.s]=true:=rfl
 obtain⟨u,hu⟩:∃u,(alk x t.s).getD ⟨0,0,0,0⟩=u:=⟨_,rfl⟩
 obtain⟨bb,hb⟩:∃b,(alk x t.s).isSome=b:=⟨_,rfl⟩
 have h1u:bb=true→¬u.p=t.p:=fun h=>by
  cases ha:alk x t.s with
  |none=>rw[ha] at hb;rw[h] at hb;cases hb
  |some u0=>rw[ha] at hu;simp at hu;rw[← hu];exact h1 u0 ha
 have h20:decide (t.s∈(alk q t.p).getD [])=false:=by simpa using h2
 refine .zag func162 rfl rfl ?_
 obtain⟨w,hw⟩:∃w,alk q t.p=w:=⟨_,rfl⟩
 rcases w with _|_|⟨a,r⟩
 ·
  refine .sr ?_
  refine .seq ?_
  refine .zac [0,1,2,3,4,5,6,7,8,9] rfl zz0 ?_
  refine .rn [0,1,2] _ ?_
  refine .step rfl rfl (.za2 rfl rfl rfl call158 (by decide) (zfz rfl rfl) (p158 d t.s x y q) (by rintro _ rfl<;>first|(simp;done)|rfl) ?_)
  rintro _ rfl
  rw[hu,hb]
  refine .rn [4,5,6,7,8,9] [] ?_
  refine .done (.seq ?_)
  refine .zac [0,1,2,3,4,5,6,7,8,9,10,11,12,13,14,15,16,17,18] rfl zz0 ?_
  refine .rn [0,1] _ ?_
  refine .split (t:=14) rfl (fun c14=>?_) (fun c14=>?_)
  ·first|cases c14|cases bnt c14|cases bnf c14|try rw[c14]
   try simp at c14
   refine .rn [2,3,4,5,6,7,8,9] _ ?_
   refine .split (t:=22) rfl (fun c22=>?_) (fun c22=>?_)
   ·first|cases c22|cases bnt c22|cases bnf c22|try rw[c22]
    try simp at c22
    refine .rn [10,11,12,13,14] _ ?_
    refine .step rfl rfl (.za2 rfl rfl rfl call160 (by decide) (zj4 rfl rfl) (p160 d t.s t.p x y q (fun l h=>Nat.lt_trans (hl t.p l h) (by decide))) (by rintro _ rfl<;>first|(simp;done)|rfl) ?_)
    rintro _ rfl
    rw[h20]
    refine .rn [16,17] _ ?_
    refine .pc rfl rfl rfl rfl rfl call167 (zkd _ (by simp)) ?_
    refine .done ?_
    refine .zmd (ms:=[0,1,3,7,0,16,0,64,192,448,0,1024,4032,8128,0,16384,49152,131008,262143]) (W:=[13,17,18]) (As:=[16]) (items:=[.op 0,.op 1,.op 2,.op 3,.op 4,.op 5,.op 6,.op 7,.op 8,.op 9,.op 10,.op 11,.op 12,.op 14,.op 15,.op 16,.op 13,.ck 15,.ck 5,.ck 3,.op 17,.ck 5,.ck 3,.op 18]) rfl zz0 zz0 zz0 zz0 (by decide) ?_
    iterate 15 refine .rf ?_
    refine .al rfl rfl (by decide) (by decide) (by decide) (by decide) zz1 ?_
    refine .wr rfl rfl (by decide) (.pure rfl rfl rfl call94 (by decide) (zao.sl0h p94z) (by first|rfl|simp[*]) ?_)
    rintro _ rfl
    refine .ck rfl zz0 ?_
    refine .ck rfl zz0 ?_
    refine .ck rfl zz0 ?_
    refine .wr rfl rfl (by decide) (.redo (todo':=[5,3]) (.vop zz1 (by decide) ?_))
    refine⟨⟨⟨by decide +kernel,_,_,_,rfl,rfl,rfl,rfl,zz1⟩,⟨⟨by decide +kernel,_,_,_,rfl,rfl,rfl,rfl,zz1⟩,trivial⟩⟩,?_⟩
    refine .ck rfl zz0 ?_
    refine .ck rfl zz0 ?_
    refine .wr rfl rfl (by decide) (.heap (b2:=12) (vh2:=⟨12,[(11,.grow 1 [.int .i64 t.s]),(10,.arr false 1 [.int .i64 t.s]),(9,.box [.int .i64 u.p,.int .i64 u.s,.int .i64 u.a,.int .i64 u.b]),(8,.box [.int .i64 t.k,.int .i64 t.d,.int .i64 t.s,.int .i64 t.p,.int .i64 t.w,.int .i64 t.o]),(3,.box [.int .i64 d,.mapv 0,.mapv 1,.mapv 2]),(2,.map (mpG ints q)),(1,.map (mpG (PV.int .i64) y)),(0,.map (mpG zah x))]⟩) (by simp) (by simp;done) (.rec  (vts2:=[(35,.mapv 2),(37,.int .i64 t.p),(49,.vec [.int .i64 t.s])]) (vh2:=⟨12,[(3,.box [.int .i64 d,.mapv 0,.mapv 1,.mapv 2]),(2,.map (mpG ints q)),(1,.map (mpG (PV.int .i64) y)),(0,.map (mpG zah x))]⟩) (.mk [11] [] zz8 zz9 rfl rfl rfl) (.vop zz1 (by decide) ?_)))
    refine .done ?_
    exact⟨[],rfl,rfl,by simp,by simp[hw],by simp,by simp⟩
   first|cases c22|cases bnt c22|cases bnf c22|try rw[c22]
   try simp at c22
   exact absurd c22 (by simpa using h1u rfl)
  first|cases c14|cases bnt c14|cases bnf c14|try rw[c14]
  try simp at c14
  refine .rn [2,3,4,5,6,7,8,9,10,11,12,13,14] _ ?_
  refine .step rfl rfl (.za2 rfl rfl rfl call160 (by decide) (zj4 rfl rfl) (p160 d t.s t.p x y q (fun l h=>Nat.lt_trans (hl t.p l h) (by decide))) (by rintro _ rfl<;>first|(simp;done)|rfl) ?_)
  rintro _ rfl
  rw[h20]
  refine .rn [16,17] _ ?_
  refine .pc rfl rfl rfl rfl rfl call167 (zkd _ (by simp)) ?_
  refine .done ?_
  refine .zmd (ms:=[0,1,3,7,0,16,0,64,192,448,0,1024,4032,8128,0,16384,49152,131008,262143]) (W:=[13,17,18]) (As:=[16]) (items:=[.op 0,.op 1,.op 2,.op 3,.op 4,.op 5,.op 6,.op 7,.op 8,.op 9,.op 10,.op 11,.op 12,.op 14,.op 15,.op 16,.op 13,.ck 15,.ck 5,.ck 3,.op 17,.ck 5,.ck 3,.op 18]) rfl zz0 zz0 zz0 zz0 (by decide) ?_
  iterate 15 refine .rf ?_
  refine .al rfl rfl (by decide) (by decide) (by decide) (by decide) zz1 ?_
  refine .wr rfl rfl (by decide) (.pure rfl rfl rfl call94 (by decide) (zao.sl0h p94z) (by first|rfl|simp[*]) ?_)
  rintro _ rfl
  refine .ck rfl zz0 ?_
  refine .ck rfl zz0 ?_
  refine .ck rfl zz0 ?_
  refine .wr rfl rfl (by decide) (.redo (todo':=[5,3]) (.vop zz1 (by decide) ?_))
  refine⟨⟨⟨by decide +kernel,_,_,_,rfl,rfl,rfl,rfl,zz1⟩,⟨⟨by decide +kernel,_,_,_,rfl,rfl,rfl,rfl,zz1⟩,trivial⟩⟩,?_⟩
  refine .ck rfl zz0 ?_
  refine .ck rfl zz0 ?_
  refine .wr rfl rfl (by decide) (.heap (b2:=12) (vh2:=⟨12,[(11,.grow 1 [.int .i64 t.s]),(10,.arr false 1 [.int .i64 t.s]),(9,.box [.int .i64 u.p,.int .i64 u.s,.int .i64 u.a,.int .i64 u.b]),(8,.box [.int .i64 t.k,.int .i64 t.d,.int .i64 t.s,.int .i64 t.p,.int .i64 t.w,.int .i64 t.o]),(3,.box [.int .i64 d,.mapv 0,.mapv 1,.mapv 2]),(2,.map (mpG ints q)),(1,.map (mpG (PV.int .i64) y)),(0,.map (mpG zah x))]⟩) (by simp) (by simp;done) (.rec  (vts2:=[(35,.mapv 2),(37,.int .i64 t.p),(49,.vec [.int .i64 t.s])]) (vh2:=⟨12,[(3,.box [.int .i64 d,.mapv 0,.mapv 1,.mapv 2]),(2,.map (mpG ints q)),(1,.map (mpG (PV.int .i64) y)),(0,.map (mpG zah x))]⟩) (.mk [11] [] zz8 zz9 rfl rfl rfl) (.vop zz1 (by decide) ?_)))
  refine .done ?_
  exact⟨[],rfl,rfl,by simp,by simp[hw],by simp,by simp⟩
 ·
  refine .sr ?_
  refine .seq ?_
  refine .zac [0,1,2,3,4,5,6,7,8,9] rfl zz0 ?_
  refine .rn [0,1,2] _ ?_
  refine .step rfl rfl (.za2 rfl rfl rfl call158 (by decide) (zfz rfl rfl) (p158 d t.s x y q) (by rintro _ rfl<;>first|(simp;done)|rfl) ?_)
  rintro _ rfl
  rw[hu,hb]
  refine .rn [4,5,6,7,8,9] [] ?_
  refine .done (.seq ?_)
  refine .zac [0,1,2,3,4,5,6,7,8,9,10,11,12,13,14,15,16,17,18] rfl zz0 ?_
  refine .rn [0,1] _ ?_
  refine .split (t:=14) rfl (fun c14=>?_) (fun c14=>?_)
  ·first|cases c14|cases bnt c14|cases bnf c14|try rw[c14]
   try simp at c14
   refine .rn [2,3,4,5,6,7,8,9] _ ?_
   refine .split (t:=22) rfl (fun c22=>?_) (fun c22=>?_)
   ·first|cases c22|cases bnt c22|cases bnf c22|try rw[c22]
    try simp at c22
    refine .rn [10,11,12,13,14] _ ?_
    refine .step rfl rfl (.za2 rfl rfl rfl call160 (by decide) (zj4 rfl rfl) (p160 d t.s t.p x y q (fun l h=>Nat.lt_trans (hl t.p l h) (by decide))) (by rintro _ rfl<;>first|(simp;done)|rfl) ?_)
    rintro _ rfl
    rw[h20]
    refine .rn [16,17] _ ?_
    refine .pc rfl rfl rfl rfl rfl call167 (zkd _ (by simp)) ?_
    refine .done ?_
    refine .zmd (ms:=[0,1,3,7,0,16,0,64,192,448,0,1024,4032,8128,0,16384,49152,131008,262143]) (W:=[13,17,18]) (As:=[16]) (items:=[.op 0,.op 1,.op 2,.op 3,.op 4,.op 5,.op 6,.op 7,.op 8,.op 9,.op 10,.op 11,.op 12,.op 14,.op 15,.op 16,.op 13,.ck 15,.ck 5,.ck 3,.op 17,.ck 5,.ck 3,.op 18]) rfl zz0 zz0 zz0 zz0 (by decide) ?_
    iterate 15 refine .rf ?_
    refine .al rfl rfl (by decide) (by decide) (by decide) (by decide) zz1 ?_
    refine .wr rfl rfl (by decide) (.pure rfl rfl rfl call94 (by decide) (p94z) (by first|rfl|simp[*]) ?_)
    rintro _ rfl
    refine .ck rfl zz0 ?_
    refine .ck rfl zz0 ?_
    refine .ck rfl zz0 ?_
    refine .wr rfl rfl (by decide) (.redo (todo':=[5,3]) (.vop zz1 (by decide) ?_))
    refine⟨⟨⟨by decide +kernel,_,_,_,rfl,rfl,rfl,rfl,zz1⟩,⟨⟨by decide +kernel,_,_,_,rfl,rfl,rfl,rfl,zz1⟩,trivial⟩⟩,?_⟩
    refine .ck rfl zz0 ?_
    refine .ck rfl zz0 ?_
    refine .wr rfl rfl (by decide) (.heap (b2:=12) (vh2:=⟨12,[(11,.grow 1 [.int .i64 t.s]),(10,.arr false 1 [.int .i64 t.s]),(9,.box [.int .i64 u.p,.int .i64 u.s,.int .i64 u.a,.int .i64 u.b]),(8,.box [.int .i64 t.k,.int .i64 t.d,.int .i64 t.s,.int .i64 t.p,.int .i64 t.w,.int .i64 t.o]),(3,.box [.int .i64 d,.mapv 0,.mapv 1,.mapv 2]),(2,.map (mpG ints q)),(1,.map (mpG (PV.int .i64) y)),(0,.map (mpG zah x))]⟩) (by simp) (by simp;done) (.rec  (vts2:=[(35,.mapv 2),(37,.int .i64 t.p),(49,.vec [.int .i64 t.s])]) (vh2:=⟨12,[(3,.box [.int .i64 d,.mapv 0,.mapv 1,.mapv 2]),(2,.map (mpG ints q)),(1,.map (mpG (PV.int .i64) y)),(0,.map (mpG zah x))]⟩) (.mk [11] [] zz8 zz9 rfl rfl rfl) (.vop zz1 (by decide) ?_)))
    refine .done ?_
    exact⟨[],rfl,rfl,by simp,by simp[hw],by simp,by simp⟩
   first|cases c22|cases bnt c22|cases bnf c22|try rw[c22]
   try simp at c22
   exact absurd c22 (by simpa using h1u rfl)
  first|cases c14|cases bnt c14|cases bnf c14|try rw[c14]
  try simp at c14
  refine .rn [2,3,4,5,6,7,8,9,10,11,12,13,14] _ ?_
  refine .step rfl rfl (.za2 rfl rfl rfl call160 (by decide) (zj4 rfl rfl) (p160 d t.s t.p x y q (fun l h=>Nat.lt_trans (hl t.p l h) (by decide))) (by rintro _ rfl<;>first|(simp;done)|rfl) ?_)
  rintro _ rfl
  rw[h20]
  refine .rn [16,17] _ ?_
  refine .pc rfl rfl rfl rfl rfl call167 (zkd _ (by simp)) ?_
  refine .done ?_
  refine .zmd (ms:=[0,1,3,7,0,16,0,64,192,448,0,1024,4032,8128,0,16384,49152,131008,262143]) (W:=[13,17,18]) (As:=[16]) (items:=[.op 0,.op 1,.op 2,.op 3,.op 4,.op 5,.op 6,.op 7,.op 8,.op 9,.op 10,.op 11,.op 12,.op 14,.op 15,.op 16,.op 13,.ck 15,.ck 5,.ck 3,.op 17,.ck 5,.ck 3,.op 18]) rfl zz0 zz0 zz0 zz0 (by decide) ?_
  iterate 15 refine .rf ?_
  refine .al rfl rfl (by decide) (by decide) (by decide) (by decide) zz1 ?_
  refine .wr rfl rfl (by decide) (.pure rfl rfl rfl call94 (by decide) (p94z) (by first|rfl|simp[*]) ?_)
  rintro _ rfl
  refine .ck rfl zz0 ?_
  refine .ck rfl zz0 ?_
  refine .ck rfl zz0 ?_
  refine .wr rfl rfl (by decide) (.redo (todo':=[5,3]) (.vop zz1 (by decide) ?_))
  refine⟨⟨⟨by decide +kernel,_,_,_,rfl,rfl,rfl,rfl,zz1⟩,⟨⟨by decide +kernel,_,_,_,rfl,rfl,rfl,rfl,zz1⟩,trivial⟩⟩,?_⟩
  refine .ck rfl zz0 ?_
  refine .ck rfl zz0 ?_
  refine .wr rfl rfl (by decide) (.heap (b2:=12) (vh2:=⟨12,[(11,.grow 1 [.int .i64 t.s]),(10,.arr false 1 [.int .i64 t.s]),(9,.box [.int .i64 u.p,.int .i64 u.s,.int .i64 u.a,.int .i64 u.b]),(8,.box [.int .i64 t.k,.int .i64 t.d,.int .i64 t.s,.int .i64 t.p,.int .i64 t.w,.int .i64 t.o]),(3,.box [.int .i64 d,.mapv 0,.mapv 1,.mapv 2]),(2,.map (mpG ints q)),(1,.map (mpG (PV.int .i64) y)),(0,.map (mpG zah x))]⟩) (by simp) (by simp;done) (.rec  (vts2:=[(35,.mapv 2),(37,.int .i64 t.p),(49,.vec [.int .i64 t.s])]) (vh2:=⟨12,[(3,.box [.int .i64 d,.mapv 0,.mapv 1,.mapv 2]),(2,.map (mpG ints q)),(1,.map (mpG (PV.int .i64) y)),(0,.map (mpG zah x))]⟩) (.mk [11] [] zz8 zz9 rfl rfl rfl) (.vop zz1 (by decide) ?_)))
  refine .done ?_
  exact⟨[],rfl,rfl,by simp,by simp[hw],by simp,by simp⟩
 ·
  have hlw:=hl _ _ hw
  have hr:r.length≤4294967294:=by simp at hlw;omega
  have hr2:r.length≤17592186044318:=by omega
  have hA2:zjx .i64 t.p (.vec (PV.int .i64 a::(r.map (PV.int .i64)++[PV.int .i64 t.s]))) (mpG ints q)=some (mpG ints (aset q t.p (a::(r++[t.s])))):=by have:=hA (a::(r++[t.s]));simpa[ints] using this
  refine .sr ?_
  refine .seq ?_
  refine .zac [0,1,2,3,4,5,6,7,8,9] rfl zz0 ?_
  refine .rn [0,1,2] _ ?_
  refine .step rfl rfl (.za2 rfl rfl rfl call158 (by decide) (zfz rfl rfl) (p158 d t.s x y q) (by rintro _ rfl<;>first|(simp;done)|rfl) ?_)
  rintro _ rfl
  rw[hu,hb]
  refine .rn [4,5,6,7,8,9] [] ?_
  refine .done (.seq ?_)
  refine .zac [0,1,2,3,4,5,6,7,8,9,10,11,12,13,14,15,16,17,18] rfl zz0 ?_
  refine .rn [0,1] _ ?_
  refine .split (t:=14) rfl (fun c14=>?_) (fun c14=>?_)
  ·first|cases c14|cases bnt c14|cases bnf c14|try rw[c14]
   try simp at c14
   refine .rn [2,3,4,5,6,7,8,9] _ ?_
   refine .split (t:=22) rfl (fun c22=>?_) (fun c22=>?_)
   ·first|cases c22|cases bnt c22|cases bnf c22|try rw[c22]
    try simp at c22
    refine .rn [10,11,12,13,14] _ ?_
    refine .step rfl rfl (.za2 rfl rfl rfl call160 (by decide) (zj4 rfl rfl) (p160 d t.s t.p x y q (fun l h=>Nat.lt_trans (hl t.p l h) (by decide))) (by rintro _ rfl<;>first|(simp;done)|rfl) ?_)
    rintro _ rfl
    rw[h20]
    refine .rn [16,17] _ ?_
    refine .pc rfl rfl rfl rfl rfl call167 (zkd _ (by simp)) ?_
    refine .done ?_
    refine .zmd (ms:=[0,1,3,7,0,16,0,64,192,448,0,1024,4032,8128,0,16384,49152,131008,262143]) (W:=[13,17,18]) (As:=[16]) (items:=[.op 0,.op 1,.op 2,.op 3,.op 4,.op 5,.op 6,.op 7,.op 8,.op 9,.op 10,.op 11,.op 12,.op 14,.op 15,.op 16,.op 13,.ck 15,.ck 5,.ck 3,.op 17,.ck 5,.ck 3,.op 18]) rfl zz0 zz0 zz0 zz0 (by decide) ?_
    iterate 15 refine .rf ?_
    refine .al rfl rfl (by decide) (by decide) (by decide) (by decide) zz1 ?_
    refine .wr rfl rfl (by decide) (.redo (todo':=[15,5,3]) (.call rfl rfl rfl call94 (by decide) (((zar.fresh' (by simp) (p94g (a::r) (by simp) (Nat.lt_trans (hl _ _ hw) (by decide))) rfl (by simp))).mono ?_)))
    rintro _ _ ⟨rfl,rfl⟩
    refine⟨⟨⟨by decide +kernel,_,_,_,rfl,rfl,rfl,rfl,zz1⟩,⟨⟨by decide +kernel,_,_,_,rfl,rfl,rfl,rfl,zz1⟩,⟨⟨by decide +kernel,_,_,_,rfl,rfl,rfl,rfl,zz1⟩,trivial⟩⟩⟩,?_⟩
    refine .ck rfl zz0 ?_
    refine .ck rfl zz0 ?_
    refine .ck rfl zz0 ?_
    refine .wr rfl rfl (by decide) (.redo (todo':=[5,3]) (.vop zz1 (by decide) ?_))
    refine⟨⟨⟨by decide +kernel,_,_,_,rfl,rfl,rfl,rfl,zz1⟩,⟨⟨by decide +kernel,_,_,_,rfl,rfl,rfl,rfl,zz1⟩,trivial⟩⟩,?_⟩
    refine .ck rfl zz0 ?_
    refine .ck rfl zz0 ?_
    refine .wr rfl rfl (by decide) (.heap (b2:=13) (vh2:=⟨13,[(12,.grow 1 (PV.int .i64 a::(r.map (PV.int .i64)++[PV.int .i64 t.s]))),(10,.arr false 1 [.int .i64 t.s]),(9,.box [.int .i64 u.p,.int .i64 u.s,.int .i64 u.a,.int .i64 u.b]),(8,.box [.int .i64 t.k,.int .i64 t.d,.int .i64 t.s,.int .i64 t.p,.int .i64 t.w,.int .i64 t.o]),(3,.box [.int .i64 d,.mapv 0,.mapv 1,.mapv 2]),(2,.map (mpG ints q)),(1,.map (mpG (PV.int .i64) y)),(0,.map (mpG zah x))]⟩) (by simp) (by simp;done) (.rec  (vts2:=[(35,.mapv 2),(37,.int .i64 t.p),(49,.vec (PV.int .i64 a::(r.map (PV.int .i64)++[PV.int .i64 t.s])))]) (vh2:=⟨13,[(3,.box [.int .i64 d,.mapv 0,.mapv 1,.mapv 2]),(2,.map (mpG ints q)),(1,.map (mpG (PV.int .i64) y)),(0,.map (mpG zah x))]⟩) (.mk [12] [] zz8 zz9 rfl rfl rfl) (.vop zz1 (by decide) ?_)))
    refine .done ?_
    exact⟨[],rfl,rfl,by simp,by simp[hw],by simp,by simp⟩
   first|cases c22|cases bnt c22|cases bnf c22|try rw[c22]
   try simp at c22
   exact absurd c22 (by simpa using h1u rfl)
  first|cases c14|cases bnt c14|cases bnf c14|try rw[c14]
  try simp at c14
  refine .rn [2,3,4,5,6,7,8,9,10,11,12,13,14] _ ?_
  refine .step rfl rfl (.za2 rfl rfl rfl call160 (by decide) (zj4 rfl rfl) (p160 d t.s t.p x y q (fun l h=>Nat.lt_trans (hl t.p l h) (by decide))) (by rintro _ rfl<;>first|(simp;done)|rfl) ?_)
  rintro _ rfl
  rw[h20]
  refine .rn [16,17] _ ?_
  refine .pc rfl rfl rfl rfl rfl call167 (zkd _ (by simp)) ?_
  refine .done ?_
  refine .zmd (ms:=[0,1,3,7,0,16,0,64,192,448,0,1024,4032,8128,0,16384,49152,131008,262143]) (W:=[13,17,18]) (As:=[16]) (items:=[.op 0,.op 1,.op 2,.op 3,.op 4,.op 5,.op 6,.op 7,.op 8,.op 9,.op 10,.op 11,.op 12,.op 14,.op 15,.op 16,.op 13,.ck 15,.ck 5,.ck 3,.op 17,.ck 5,.ck 3,.op 18]) rfl zz0 zz0 zz0 zz0 (by decide) ?_
  iterate 15 refine .rf ?_
  refine .al rfl rfl (by decide) (by decide) (by decide) (by decide) zz1 ?_
  refine .wr rfl rfl (by decide) (.redo (todo':=[15,5,3]) (.call rfl rfl rfl call94 (by decide) (((zar.fresh' (by simp) (p94g (a::r) (by simp) (Nat.lt_trans (hl _ _ hw) (by decide))) rfl (by simp))).mono ?_)))
  rintro _ _ ⟨rfl,rfl⟩
  refine⟨⟨⟨by decide +kernel,_,_,_,rfl,rfl,rfl,rfl,zz1⟩,⟨⟨by decide +kernel,_,_,_,rfl,rfl,rfl,rfl,zz1⟩,⟨⟨by decide +kernel,_,_,_,rfl,rfl,rfl,rfl,zz1⟩,trivial⟩⟩⟩,?_⟩
  refine .ck rfl zz0 ?_
  refine .ck rfl zz0 ?_
  refine .ck rfl zz0 ?_
  refine .wr rfl rfl (by decide) (.redo (todo':=[5,3]) (.vop zz1 (by decide) ?_))
  refine⟨⟨⟨by decide +kernel,_,_,_,rfl,rfl,rfl,rfl,zz1⟩,⟨⟨by decide +kernel,_,_,_,rfl,rfl,rfl,rfl,zz1⟩,trivial⟩⟩,?_⟩
  refine .ck rfl zz0 ?_
  refine .ck rfl zz0 ?_
  refine .wr rfl rfl (by decide) (.heap (b2:=13) (vh2:=⟨13,[(12,.grow 1 (PV.int .i64 a::(r.map (PV.int .i64)++[PV.int .i64 t.s]))),(10,.arr false 1 [.int .i64 t.s]),(9,.box [.int .i64 u.p,.int .i64 u.s,.int .i64 u.a,.int .i64 u.b]),(8,.box [.int .i64 t.k,.int .i64 t.d,.int .i64 t.s,.int .i64 t.p,.int .i64 t.w,.int .i64 t.o]),(3,.box [.int .i64 d,.mapv 0,.mapv 1,.mapv 2]),(2,.map (mpG ints q)),(1,.map (mpG (PV.int .i64) y)),(0,.map (mpG zah x))]⟩) (by simp) (by simp;done) (.rec  (vts2:=[(35,.mapv 2),(37,.int .i64 t.p),(49,.vec (PV.int .i64 a::(r.map (PV.int .i64)++[PV.int .i64 t.s])))]) (vh2:=⟨13,[(3,.box [.int .i64 d,.mapv 0,.mapv 1,.mapv 2]),(2,.map (mpG ints q)),(1,.map (mpG (PV.int .i64) y)),(0,.map (mpG zah x))]⟩) (.mk [12] [] zz8 zz9 rfl rfl rfl) (.vop zz1 (by decide) ?_)))
  refine .done ?_
  exact⟨[],rfl,rfl,by simp,by simp[hw],by simp,by simp⟩
theorem x166 (d:Int)(t:Tu)(x:List (Int×He))(y:List (Int×Int))(q:List (Int×List Int))(hl:∀p l,alk q p=some l→l.length<4294967296)(h1:t.s∉(alk q t.p).getD []):zbh prog 166 [.ptr 3 0,encT t] (dH 8 d (mpG zah x) (mpG (PV.int .i64) y) (mpG ints q)) zb4 fun vh'=>DAt vh' d x y q:=by
 unfold dH encT
 refine .zag func166 rfl rfl ?_
 refine .sr ?_
 refine .seq ?_
 refine VW.zfk (pv:=zb4) (l:=[0,1,2,3,4,5]) (k:=6) zz0 rfl rfl rfl ?_
 refine .rn [0,1,2,3,4] _ ?_
 refine .step rfl rfl (.za2 rfl rfl rfl call160 (by decide) (zj4 rfl rfl) (p160 d t.s t.p x y q (hl t.p)) (by rintro _ rfl<;>first|(simp;done)|rfl) ?_)
 rintro _ rfl
 refine .done ?_
 refine zc0.call rfl rfl rfl call167 ((zjc _ _ (by simpa using h1)).mono ?_)
 rintro _ rfl
 exact⟨rfl,rfl,rfl,rfl,rfl⟩
theorem x164 (d:Int)(t:Tu)(x:List (Int×He))(y:List (Int×Int))(q:List (Int×List Int))(h1:∀u,alk x t.s=some u→¬u.p=t.p):zbh prog 164 [.ptr 3 0,encT t] (dH 8 d (mpG zah x) (mpG (PV.int .i64) y) (mpG ints q)) zb4 fun vh'=>DAt vh' d x y q:=by
 unfold dH encT
 obtain⟨u,hu⟩:∃u,(alk x t.s).getD ⟨0,0,0,0⟩=u:=⟨_,rfl⟩
 obtain⟨bb,hb⟩:∃b,(alk x t.s).isSome=b:=⟨_,rfl⟩
 have h1u:bb=true→¬u.p=t.p:=fun h=>by
  cases ha:alk x t.s with
  |none=>rw[ha] at hb;rw[h] at hb;cases hb
  |some u0=>rw[ha] at hu;simp at hu;rw[← hu];exact h1 u0 ha
 refine .zag func164 rfl rfl ?_
 refine .sr ?_
 refine .seq ?_
 refine .zac [0,1,2,3,4,5,6,7,8,9] rfl zz0 ?_
 refine .rn [0,1,2] _ ?_
 refine .step rfl rfl (.za2 rfl rfl rfl call158 (by decide) (zfz rfl rfl) (p158 d t.s x y q) (by rintro _ rfl<;>first|(simp;done)|rfl) ?_)
 rintro _ rfl
 rw[hu,hb]
 refine .rn [4,5,6,7,8,9] [] ?_
 refine .done (.seq ?_)
 refine VW.zfk (pv:=zb4) (l:=[0,1,2,3,4,5,6,7]) (k:=8) zz0 rfl rfl rfl ?_
 refine .rn [0,1] _ ?_
 refine .split (t:=14) rfl (fun c14=>?_) (fun c14=>?_)
 ·subst c14
  have h1v:=h1u rfl
  refine .rn [2,3,4,5,6,7] [] ?_
  refine .done ?_
  refine zc0.call rfl rfl rfl call167 ((zjc _ _ (by simpa using h1v)).mono ?_)
  rintro _ rfl
  exact⟨rfl,rfl,rfl,rfl,rfl⟩
 subst c14
 refine .rn [2,3,4,5,6,7] [] ?_
 refine .done ?_
 refine zc0.call rfl rfl rfl call167 ((zjc _ _ rfl).mono ?_)
 rintro _ rfl
 exact⟨rfl,rfl,rfl,rfl,rfl⟩
theorem x162 (d:Int)(t:Tu)(x:List (Int×He))(y:List (Int×Int))(q:List (Int×List Int))(hl:∀p l,alk q p=some l→l.length<4294967296)(h1:(∃u,alk x t.s=some u∧u.p=t.p)∨t.s∈(alk q t.p).getD []):zbh prog 162 [.ptr 3 0,encT t] (dH 8 d (mpG zah x) (mpG (PV.int .i64) y) (mpG ints q)) zb4 fun vh'=>DAt vh' d x y q:=by
 unfold dH encT
 obtain⟨u,hu⟩:∃u,(alk x t.s).getD ⟨0,0,0,0⟩=u:=⟨_,rfl⟩
 obtain⟨bb,hb⟩:∃b,(alk x t.s).isSome=b:=⟨_,rfl⟩
 obtain⟨cc,hc⟩:∃c,decide (u.p=t.p)=c:=⟨_,rfl⟩
 obtain⟨ee,he⟩:∃e,decide (t.s∈(alk q t.p).getD [])=e:=⟨_,rfl⟩
 have hor:(bb=true∧cc=true)∨ee=true:=by
  rcases h1 with⟨u0,ha,hp⟩|h
  ·left
   rw[ha] at hb hu
   simp at hb hu
   subst hu
   exact⟨hb,by rw[← hc];simpa using hp⟩
  right;rw[← he];simpa using h
 refine .zag func162 rfl rfl ?_
 refine .sr ?_
 refine .seq ?_
 refine .zac [0,1,2,3,4,5,6,7,8,9] rfl zz0 ?_
 refine .rn [0,1,2] _ ?_
 refine .step rfl rfl (.za2 rfl rfl rfl call158 (by decide) (zfz rfl rfl) (p158 d t.s x y q) (by rintro _ rfl<;>first|(simp;done)|rfl) ?_)
 rintro _ rfl
 rw[hu,hb]
 refine .rn [4,5,6,7,8,9] [] ?_
 refine .done (.seq ?_)
 refine VW.zfk (pv:=zb4) (l:=[0,1,2,3,4,5,6,7,8,9,10,11,12,13,14,15,16,17]) (k:=18) zz0 rfl rfl rfl ?_
 refine .rn [0,1] _ ?_
 refine .split (t:=14) rfl (fun c14=>?_) (fun c14=>?_)
 ·subst c14
  refine .rn [2,3,4,5,6,7,8,9] _ ?_
  refine .split (t:=22) rfl (fun c22=>?_) (fun c22=>?_)
  ·have hcc:cc=false:=by rw[← hc];simpa using c22
   subst hcc
   have hee:ee=true:=hor.resolve_left fun h=>by cases h.2
   subst hee
   refine .rn [10,11,12,13,14] _ ?_
   refine .step rfl rfl (.za2 rfl rfl rfl call160 (by decide) (zj4 rfl rfl) (p160 d t.s t.p x y q (hl t.p)) (by rintro _ rfl<;>first|(simp;done)|rfl) ?_)
   rintro _ rfl
   rw[he]
   refine .rn [16,17] [] ?_
   refine .done ?_
   refine zc0.call rfl rfl rfl call167 ((zjc _ _ (by first|rfl|simp)).mono ?_)
   rintro _ rfl
   exact⟨rfl,rfl,rfl,rfl,rfl⟩
  have hcc:cc=true:=by rw[← hc];simpa using c22
  subst hcc
  refine .rn [10,11,12,13,14,15,16,17] [] ?_
  refine .done ?_
  refine zc0.call rfl rfl rfl call167 ((zjc _ _ (by first|rfl|simp)).mono ?_)
  rintro _ rfl
  exact⟨rfl,rfl,rfl,rfl,rfl⟩
 subst c14
 have hee:ee=true:=hor.resolve_left fun h=>by cases h.1
 subst hee
 refine .rn [2,3,4,5,6,7,8,9,10,11,12,13,14] _ ?_
 refine .step rfl rfl (.za2 rfl rfl rfl call160 (by decide) (zj4 rfl rfl) (p160 d t.s t.p x y q (hl t.p)) (by rintro _ rfl<;>first|(simp;done)|rfl) ?_)
 rintro _ rfl
 rw[he]
 refine .rn [16,17] [] ?_
 refine .done ?_
 refine zc0.call rfl rfl rfl call167 ((zjc _ _ (by first|rfl|simp)).mono ?_)
 rintro _ rfl
 exact⟨rfl,rfl,rfl,rfl,rfl⟩
theorem p163 (d:Int)(t:Tu)(x:List (Int×He))(y:List (Int×Int))(q:List (Int×List Int))(hl:∀p l,alk q p=some l→l.length<4294967296)(hd:0≤t.d∧t.d≤730)(hw7:0≤t.w∧t.w≤40)(h1:alk y t.p=none)(h2:alk x t.s=none)(h3:∀a r,(alk q t.p).getD []=a::r→a=t.s):zar prog 163 [.ptr 3 0,encT t] (dH 8 d (mpG zah x) (mpG (PV.int .i64) y) (mpG ints q)) fun v vh'=>v=.tup []∧DAt vh' d (aset x t.s ⟨t.p,t.s,t.d,t.d+7*t.w⟩) (aset y t.p t.s) (aset q t.p (outS ((alk q t.p).getD []) t.s)):=by
 unfold dH
 unfold encT
 have hm7:IntKind.i64.wrap (7*t.w)=7*t.w:=wrap64 (by omega) (by omega)
 have ha7:IntKind.i64.wrap (t.d+7*t.w)=t.d+7*t.w:=wrap64 (by omega) (by omega)
 have hX:zjx .i64 t.s (.agg [.int .i64 t.p,.int .i64 t.s,.int .i64 t.d,.int .i64 (t.d+7*t.w)]) (mpG zah x)=some (mpG zah (aset x t.s ⟨t.p,t.s,t.d,t.d+7*t.w⟩)):=zat (f:=zah) t.s ⟨t.p,t.s,t.d,t.d+7*t.w⟩ x
 refine .zag func163 rfl rfl ?_
 obtain⟨w,hw⟩:∃w,alk q t.p=w:=⟨_,rfl⟩
 rcases w with _|_|⟨a,r⟩
 ·
  refine .sr ?_
  refine .seq ?_
  refine .drawn (ms:=[0,1,3,7,0,16,63,127,255,255,511,2047]) (W:=[]) (items:=[.op 0,.op 1,.op 2,.op 3,.op 4,.op 5,.op 6,.op 7,.op 8,.op 9,.op 10,.op 11]) rfl zz0 zz0 zz0 ?_
  iterate 12 refine .rx ?_
  refine .done (.seq ?_)
  refine .zac [0,1,2,3,4,5,6,7,8,9] rfl zz0 ?_
  refine .rn [0,1,2] _ ?_
  refine .step rfl rfl (.za2 rfl rfl rfl call158 (by decide) (zfz rfl rfl) (p158 d t.s x y q) (by rintro _ rfl<;>first|(simp;done)|rfl) ?_)
  rintro _ rfl
  rw[h2]
  simp only[Option.getD_none,Option.isSome_none]
  refine .rn [4,5,6,7,8,9] [] ?_
  refine .done (.seq ?_)
  refine .drawn (ms:=[0,1,3,7,0,16,63,127]) (W:=[]) (items:=[.op 0,.op 1,.op 2,.op 3,.op 4,.op 5,.op 6,.op 7]) rfl zz0 zz0 zz0 ?_
  iterate 8 refine .rx ?_
  refine .done (.seq ?_)
  refine .drawn (ms:=[0,1,3,7,15,31,63,127,255,511,1023,2047,4095,8191,2047,18431,65535,131071,262143,524287]) (W:=[19]) (items:=[.op 0,.op 1,.op 2,.op 3,.op 4,.op 5,.op 6,.op 7,.op 8,.op 9,.op 10,.op 11,.op 12,.op 13,.op 14,.op 15,.op 16,.op 17,.op 18,.op 19]) rfl zz0 zz0 zz0 ?_
  iterate 3 refine .rx ?_
  refine .split (t:=35) rfl (fun c35=>?_) (fun c35=>?_)
  ·first|cases c35|cases bnt c35|cases bnf c35|try rw[c35]
   try simp at c35
   iterate 4 refine .rx ?_
   refine .split (t:=39) rfl (fun c39=>?_) (fun c39=>?_)
   ·first|cases c39|cases bnt c39|cases bnf c39|try rw[c39]
    try simp at c39
    iterate 4 refine .rx ?_
    refine .split (t:=43) rfl (fun c43=>?_) (fun c43=>?_)
    ·first|cases c43|cases bnt c43|cases bnf c43|try rw[c43]
     try simp at c43
     iterate 6 refine .ux ?_
     iterate 2 refine .rx ?_
     refine .wp rfl rfl rfl rfl rfl call167 (zkd _ (by simp[*])) ?_
     refine .done (.seq ?_)
     refine .rec (vts2:=[(0,.ptr 3 0),(3,.ptr 8 0)]) (vh2:=⟨9,[(8,.box [.int .i64 t.k,.int .i64 t.d,.int .i64 t.s,.int .i64 t.p,.int .i64 t.w,.int .i64 t.o]),(3,.box [.int .i64 d,.mapv 0,.mapv 1,.mapv 2]),(2,.map (mpG ints q)),(1,.map (mpG (PV.int .i64) y)),(0,.map (mpG zah x))]⟩) (.mk [] [] zz8 zz9 rfl rfl rfl) ?_
     refine .zac [0,1,2,3,4,5] rfl zz0 ?_
     refine .rn [0,1,2,3,4] _ ?_
     refine .step rfl rfl (.call rfl rfl rfl call185 (by decide) (((zar.frame (i:=8) rfl rfl (p185 d t.s t.p x y q (hl t.p)))).mono ?_))
     rintro _ _ ⟨_,⟨rfl,n,rfl⟩,rfl⟩
     refine .done (.seq ?_)
     refine .rec (vts2:=[(0,.ptr 3 0),(3,.ptr 8 0)]) (vh2:=⟨9,[(8,.box [.int .i64 t.k,.int .i64 t.d,.int .i64 t.s,.int .i64 t.p,.int .i64 t.w,.int .i64 t.o]),(3,.box [.int .i64 d,.mapv 0,.mapv 1,.mapv 2]),(2,.map (mpG ints (aset q t.p (outS ((alk q t.p).getD []) t.s)))),(1,.map (mpG (PV.int .i64) y)),(0,.map (mpG zah x))]⟩) (.mk [] [] zz8 zz9 rfl rfl rfl) ?_
     refine .drawn (ms:=[0,1,3,7,0,16,0,64,255]) (W:=[8]) (items:=[.op 0,.op 1,.op 2,.op 3,.op 4,.op 5,.op 6,.op 7,.op 8]) rfl zz0 zz0 zz0 ?_
     iterate 8 refine .rx ?_
     refine .wv ?_
     refine .done ?_
     refine .drawn (ms:=[0,1,3,7,0,16,0,64,0,256,0,1024,0,4096,0,16384,49152,126976,262080,524287]) (W:=[19]) (items:=[.op 0,.op 1,.op 2,.op 3,.op 4,.op 5,.op 6,.op 7,.op 8,.op 9,.op 10,.op 11,.op 12,.op 13,.op 14,.op 15,.op 16,.op 17,.op 18,.op 19]) rfl zz0 zz0 zz0 ?_
     iterate 19 refine .rx ?_
     refine .wv ?_
     refine .done ?_
     exact⟨[],rfl,rfl,by simp,by simp[hw],by simp,by simp⟩
    first|cases c43|cases bnt c43|cases bnf c43|try rw[c43]
    try simp at c43
   first|cases c39|cases bnt c39|cases bnf c39|try rw[c39]
   try simp at c39
  first|cases c35|cases bnt c35|cases bnf c35|try rw[c35]
  try simp at c35
 ·
  refine .sr ?_
  refine .seq ?_
  refine .drawn (ms:=[0,1,3,7,0,16,63,127,255,255,511,2047]) (W:=[]) (items:=[.op 0,.op 1,.op 2,.op 3,.op 4,.op 5,.op 6,.op 7,.op 8,.op 9,.op 10,.op 11]) rfl zz0 zz0 zz0 ?_
  iterate 12 refine .rx ?_
  refine .done (.seq ?_)
  refine .zac [0,1,2,3,4,5,6,7,8,9] rfl zz0 ?_
  refine .rn [0,1,2] _ ?_
  refine .step rfl rfl (.za2 rfl rfl rfl call158 (by decide) (zfz rfl rfl) (p158 d t.s x y q) (by rintro _ rfl<;>first|(simp;done)|rfl) ?_)
  rintro _ rfl
  rw[h2]
  simp only[Option.getD_none,Option.isSome_none]
  refine .rn [4,5,6,7,8,9] [] ?_
  refine .done (.seq ?_)
  refine .drawn (ms:=[0,1,3,7,0,16,63,127]) (W:=[]) (items:=[.op 0,.op 1,.op 2,.op 3,.op 4,.op 5,.op 6,.op 7]) rfl zz0 zz0 zz0 ?_
  iterate 8 refine .rx ?_
  refine .done (.seq ?_)
  refine .drawn (ms:=[0,1,3,7,15,31,63,127,255,511,1023,2047,4095,8191,2047,18431,65535,131071,262143,524287]) (W:=[19]) (items:=[.op 0,.op 1,.op 2,.op 3,.op 4,.op 5,.op 6,.op 7,.op 8,.op 9,.op 10,.op 11,.op 12,.op 13,.op 14,.op 15,.op 16,.op 17,.op 18,.op 19]) rfl zz0 zz0 zz0 ?_
  iterate 3 refine .rx ?_
  refine .split (t:=35) rfl (fun c35=>?_) (fun c35=>?_)
  ·first|cases c35|cases bnt c35|cases bnf c35|try rw[c35]
   try simp at c35
   iterate 4 refine .rx ?_
   refine .split (t:=39) rfl (fun c39=>?_) (fun c39=>?_)
   ·first|cases c39|cases bnt c39|cases bnf c39|try rw[c39]
    try simp at c39
    iterate 4 refine .rx ?_
    refine .split (t:=43) rfl (fun c43=>?_) (fun c43=>?_)
    ·first|cases c43|cases bnt c43|cases bnf c43|try rw[c43]
     try simp at c43
     iterate 6 refine .ux ?_
     iterate 2 refine .rx ?_
     refine .wp rfl rfl rfl rfl rfl call167 (zkd _ (by simp[*])) ?_
     refine .done (.seq ?_)
     refine .rec (vts2:=[(0,.ptr 3 0),(3,.ptr 8 0)]) (vh2:=⟨9,[(8,.box [.int .i64 t.k,.int .i64 t.d,.int .i64 t.s,.int .i64 t.p,.int .i64 t.w,.int .i64 t.o]),(3,.box [.int .i64 d,.mapv 0,.mapv 1,.mapv 2]),(2,.map (mpG ints q)),(1,.map (mpG (PV.int .i64) y)),(0,.map (mpG zah x))]⟩) (.mk [] [] zz8 zz9 rfl rfl rfl) ?_
     refine .zac [0,1,2,3,4,5] rfl zz0 ?_
     refine .rn [0,1,2,3,4] _ ?_
     refine .step rfl rfl (.call rfl rfl rfl call185 (by decide) (((zar.frame (i:=8) rfl rfl (p185 d t.s t.p x y q (hl t.p)))).mono ?_))
     rintro _ _ ⟨_,⟨rfl,n,rfl⟩,rfl⟩
     refine .done (.seq ?_)
     refine .rec (vts2:=[(0,.ptr 3 0),(3,.ptr 8 0)]) (vh2:=⟨9,[(8,.box [.int .i64 t.k,.int .i64 t.d,.int .i64 t.s,.int .i64 t.p,.int .i64 t.w,.int .i64 t.o]),(3,.box [.int .i64 d,.mapv 0,.mapv 1,.mapv 2]),(2,.map (mpG ints (aset q t.p (outS ((alk q t.p).getD []) t.s)))),(1,.map (mpG (PV.int .i64) y)),(0,.map (mpG zah x))]⟩) (.mk [] [] zz8 zz9 rfl rfl rfl) ?_
     refine .drawn (ms:=[0,1,3,7,0,16,0,64,255]) (W:=[8]) (items:=[.op 0,.op 1,.op 2,.op 3,.op 4,.op 5,.op 6,.op 7,.op 8]) rfl zz0 zz0 zz0 ?_
     iterate 8 refine .rx ?_
     refine .wv ?_
     refine .done ?_
     refine .drawn (ms:=[0,1,3,7,0,16,0,64,0,256,0,1024,0,4096,0,16384,49152,126976,262080,524287]) (W:=[19]) (items:=[.op 0,.op 1,.op 2,.op 3,.op 4,.op 5,.op 6,.op 7,.op 8,.op 9,.op 10,.op 11,.op 12,.op 13,.op 14,.op 15,.op 16,.op 17,.op 18,.op 19]) rfl zz0 zz0 zz0 ?_
     iterate 19 refine .rx ?_
     refine .wv ?_
     refine .done ?_
     exact⟨[],rfl,rfl,by simp,by simp[hw],by simp,by simp⟩
    first|cases c43|cases bnt c43|cases bnf c43|try rw[c43]
    try simp at c43
   first|cases c39|cases bnt c39|cases bnf c39|try rw[c39]
   try simp at c39
  first|cases c35|cases bnt c35|cases bnf c35|try rw[c35]
  try simp at c35
 ·
  have hat:a=t.s:=h3 a r (by rw[hw];rfl)
  have hlw:r.length+1<4294967296:=by simpa using hl _ _ hw
  refine .sr ?_
  refine .seq ?_
  refine .drawn (ms:=[0,1,3,7,0,16,63,127,255,255,511,2047]) (W:=[]) (items:=[.op 0,.op 1,.op 2,.op 3,.op 4,.op 5,.op 6,.op 7,.op 8,.op 9,.op 10,.op 11]) rfl zz0 zz0 zz0 ?_
  iterate 12 refine .rx ?_
  refine .done (.seq ?_)
  refine .zac [0,1,2,3,4,5,6,7,8,9] rfl zz0 ?_
  refine .rn [0,1,2] _ ?_
  refine .step rfl rfl (.za2 rfl rfl rfl call158 (by decide) (zfz rfl rfl) (p158 d t.s x y q) (by rintro _ rfl<;>first|(simp;done)|rfl) ?_)
  rintro _ rfl
  rw[h2]
  simp only[Option.getD_none,Option.isSome_none]
  refine .rn [4,5,6,7,8,9] [] ?_
  refine .done (.seq ?_)
  refine .drawn (ms:=[0,1,3,7,0,16,63,127]) (W:=[]) (items:=[.op 0,.op 1,.op 2,.op 3,.op 4,.op 5,.op 6,.op 7]) rfl zz0 zz0 zz0 ?_
  iterate 8 refine .rx ?_
  refine .done (.seq ?_)
  refine .drawn (ms:=[0,1,3,7,15,31,63,127,255,511,1023,2047,4095,8191,2047,18431,65535,131071,262143,524287]) (W:=[19]) (items:=[.op 0,.op 1,.op 2,.op 3,.op 4,.op 5,.op 6,.op 7,.op 8,.op 9,.op 10,.op 11,.op 12,.op 13,.op 14,.op 15,.op 16,.op 17,.op 18,.op 19]) rfl zz0 zz0 zz0 ?_
  iterate 3 refine .rx ?_
  refine .split (t:=35) rfl (fun c35=>?_) (fun c35=>?_)
  ·first|cases c35|cases bnt c35|cases bnf c35|try rw[c35]
   try simp at c35
   iterate 4 refine .rx ?_
   refine .split (t:=39) rfl (fun c39=>?_) (fun c39=>?_)
   ·first|cases c39|cases bnt c39|cases bnf c39|try rw[c39]
    try simp at c39
    iterate 4 refine .rx ?_
    refine .split (t:=43) rfl (fun c43=>?_) (fun c43=>?_)
    ·first|cases c43|cases bnt c43|cases bnf c43|try rw[c43]
     try simp at c43
    first|cases c43|cases bnt c43|cases bnf c43|try rw[c43]
    try simp at c43
    iterate 8 refine .rx ?_
    refine .wp rfl rfl rfl rfl rfl call167 (zkd _ (by simp[*])) ?_
    refine .done (.seq ?_)
    refine .rec (vts2:=[(0,.ptr 3 0),(3,.ptr 8 0)]) (vh2:=⟨9,[(8,.box [.int .i64 t.k,.int .i64 t.d,.int .i64 t.s,.int .i64 t.p,.int .i64 t.w,.int .i64 t.o]),(3,.box [.int .i64 d,.mapv 0,.mapv 1,.mapv 2]),(2,.map (mpG ints q)),(1,.map (mpG (PV.int .i64) y)),(0,.map (mpG zah x))]⟩) (.mk [] [] zz8 zz9 rfl rfl rfl) ?_
    refine .zac [0,1,2,3,4,5] rfl zz0 ?_
    refine .rn [0,1,2,3,4] _ ?_
    refine .step rfl rfl (.call rfl rfl rfl call185 (by decide) (((zar.frame (i:=8) rfl rfl (p185 d t.s t.p x y q (hl t.p)))).mono ?_))
    rintro _ _ ⟨_,⟨rfl,n,rfl⟩,rfl⟩
    refine .done (.seq ?_)
    refine .rec (vts2:=[(0,.ptr 3 0),(3,.ptr 8 0)]) (vh2:=⟨9,[(8,.box [.int .i64 t.k,.int .i64 t.d,.int .i64 t.s,.int .i64 t.p,.int .i64 t.w,.int .i64 t.o]),(3,.box [.int .i64 d,.mapv 0,.mapv 1,.mapv 2]),(2,.map (mpG ints (aset q t.p (outS ((alk q t.p).getD []) t.s)))),(1,.map (mpG (PV.int .i64) y)),(0,.map (mpG zah x))]⟩) (.mk [] [] zz8 zz9 rfl rfl rfl) ?_
    refine .drawn (ms:=[0,1,3,7,0,16,0,64,255]) (W:=[8]) (items:=[.op 0,.op 1,.op 2,.op 3,.op 4,.op 5,.op 6,.op 7,.op 8]) rfl zz0 zz0 zz0 ?_
    iterate 8 refine .rx ?_
    refine .wv ?_
    refine .done ?_
    refine .drawn (ms:=[0,1,3,7,0,16,0,64,0,256,0,1024,0,4096,0,16384,49152,126976,262080,524287]) (W:=[19]) (items:=[.op 0,.op 1,.op 2,.op 3,.op 4,.op 5,.op 6,.op 7,.op 8,.op 9,.op 10,.op 11,.op 12,.op 13,.op 14,.op 15,.op 16,.op 17,.op 18,.op 19]) rfl zz0 zz0 zz0 ?_
    iterate 19 refine .rx ?_
    refine .wv ?_
    refine .done ?_
    exact⟨[],rfl,rfl,by simp,by simp[hw,hat],by simp,by simp⟩
   first|cases c39|cases bnt c39|cases bnf c39|try rw[c39]
   try simp at c39
  first|cases c35|cases bnt c35|cases bnf c35|try rw[c35]
  try simp at c35
end Go.Am.Hi
end
