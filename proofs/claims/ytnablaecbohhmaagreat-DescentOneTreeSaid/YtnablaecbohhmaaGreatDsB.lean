/-
 What is used in the proof of a statement (part DsB); no condition.
-/
import Derived.Test.YtnablaecbohhmaaGreatDsZ
import Derived.Test.YtnablaecbohhmaaGreatVm2
import Derived.Test.YtnablaecbohhmaaGreatDsT
import Derived.Test.YtnablaecbohhmaaGreatDsA
set_option linter.all false
set_option maxHeartbeats 40000000
set_option maxRecDepth 100000
section
namespace Go.Am.Ds
open Go Go.Am Go.Proofs Tryz
attribute [local simp] vrun zaz zbg vop za6 zbo zb4 vO zbc vlen zbs zbz zd2 zaq zak zcj vbox zbe zdu zby zdt zcm zau zcn zav zcl zbf zci zbr zbl vbnd zcz vidx zbp zdk zar zbt zdj zd9 zd6 vbin vsc vsc1 vscs vscl zbv aint zb3 zdl za8 zcx zd0 pvcV pvc pvcs tput tget zdd zab.get zab.alloc zab.put zab.drop zab.empty zce vput zdi zbb zca zda chunk List.range List.range.loop za0 zbu za1 frz frzL PV.isF PV.allF PV.scal PV.allS retP subT zds PV.one PV.ids PV.idsL zcc beq_eq zbw zbx
theorem p38 (l:List Int):zat prog 38 [ints l] fun r=>r=.bool (decide (l.length≤60)):=by
 refine .zah func38 rfl rfl ?_
 refine .sr ?_
 refine .sr ?_
 refine .ret ?_
 refine⟨_,_,zz4,zz4,?_⟩
 simp;omega
theorem zpa {α:Type}(p:α→Bool)(l:List α)(i:Nat)(h:i<l.length):(l.take (i+1)).any p=((l.take i).any p||p l[i]):=by
 rw[List.take_succ_eq_append_getElem h,List.any_append];simp
theorem ztd {α:Type}(p:α→Bool)(l:List α)(i:Nat)(h:i<l.length)(hp:p l[i]=true):l.any p=true:=List.any_eq_true.2 ⟨l[i],List.getElem_mem h,hp⟩
end Go.Am.Ds
end
section
namespace Go.Am.Ds
open Go Go.Am Go.Proofs Tryz
attribute [local simp] vrun zaz zbg vop vopA zb2 zab.back hidI hidF zdh bm za6 zbo zb4 vO zbc vlen zbs zbz zd2 zaq zak zcj vbox zbe zdu zby zdt zcm zau zcn zav zcl zbf zci zbr zbl vbnd zcz vidx zbp zdk zar zbt zct zdj zd9 zd6 vbin vsc vsc1 vscs vscl zbv aint zb3 zdl za8 zcx zd0 pvcV pvc pvcs tput tget zdd zab.get zab.alloc zab.put zab.drop zab.empty zce vput zdi zbb zca zda chunk List.range List.range.loop za0 zbu za1 frz frzL PV.isF PV.allF PV.scal PV.allS retP subT zds PV.one PV.ids PV.idsL zcc beq_eq zbw zbx
theorem zt0 {α:Type}(p:α→Bool):∀(l:List α) (k:Nat),idxF p k l = -1→l.filter (fun a=>!p a)=l
 |[],_,_=>rfl
 |a::r,k,h=>by
  simp only[idxF] at h
  by_cases hp:p a=true
  ·rw[if_pos hp] at h;omega
  rw[if_neg hp] at h
  simp only[List.filter_cons]
  rw[if_pos (by simp[hp]),zt0 p r (k+1) h]
theorem zuh {α:Type}(p:α→Bool):∀(l:List α) (k:Nat),idxF p k l ≠ -1→∃i,∃h:i<l.length,idxF p k l=((k+i:Nat):Int)∧p l[i]=true∧(l.take i).filter (fun a=>!p a)=l.take i
 |[],_,h=>absurd rfl h
 |a::r,k,h=>by
  simp only[idxF] at h ⊢
  by_cases hp:p a=true
  ·exact⟨0,by simp,by rw[if_pos hp];simp,by simpa using hp,by simp⟩
  rw[if_neg hp] at h ⊢
  obtain⟨i,h1,h2,h3,h4⟩:=zuh p r (k+1) h
  refine⟨i+1,by simp;omega,by rw[h2];congr 1;omega,by simpa using h3,?_⟩
  simp only[List.take_succ_cons,List.filter_cons]
  rw[if_pos (by simp[hp]),h4]
mutual
theorem z1r (vh:zab):∀ {v:PV},v.isF=true→frz vh v=some v
 |.func f xs ys,h=>by
  simp only[PV.isF,xfr] at h
  simp only[frz,zjk vh h.1,zjk vh h.2]
 |.agg cs,h=>by simp only[PV.isF] at h;simp only[frz,zjk vh h,Option.map_some]
 |.tup cs,h=>by simp only[PV.isF] at h;simp only[frz,zjk vh h,Option.map_some]
 |.iface t v,h=>by simp only[PV.isF] at h;simp only[frz,h,xfp]
 |.ptr ..,h=>by simp[PV.isF] at h
 |.own ..,h=>by simp[PV.isF] at h
 |.sub ..,h=>by simp[PV.isF] at h
 |.grow ..,h=>by simp[PV.isF] at h
 |.mapv ..,h=>by simp[PV.isF] at h
 |.yld ..,h=>by simp[PV.isF] at h
 |.bool _,_=>by simp only[frz]
 |.int _ _,_=>by simp only[frz]
 |.str _,_=>by simp only[frz]
 |.nilFunc,_=>by simp only[frz]
 |.nilIface,_=>by simp only[frz]
 |.ptr0,_=>by simp only[frz]
 |.sl0,_=>by simp only[frz]
 |.map0,_=>by simp only[frz]
 |.e0,_=>by simp only[frz]
 |.vec _,_=>by simp only[frz]
 |.vp _,_=>by simp only[frz]
 |.vmap _,_=>by simp only[frz]
theorem zjk (vh:zab):∀ {l:List PV},PV.allF l=true→frzL vh l=some l
 |[],_=>by simp only[frzL]
 |v::r,h=>by
  simp only[PV.allF,xfr] at h
  simp only[frzL,z1r vh h.1,zjk vh h.2]
end
@[simp] theorem z1n (l:List Int):List.take l.length (l.map (PV.int .i64))=l.map (PV.int .i64):=List.take_of_length_le (by rw[List.length_map];exact Nat.le_refl _)
@[simp] theorem z2d (l:List Int):l.all (PV.one∘PV.int .i64)=true:=by simp[PV.one]
theorem zs8 {α:Type}{a b:List α}{j:Nat}(h:a.drop j=b.drop j):a[j]?=b[j]?:=by
 have:=congrArg (·[0]?) h
 simpa using this
theorem zlf {α:Type}{a b:List α}{j:Nat}(h:a.drop j=b.drop j):a.drop (j+1)=b.drop (j+1):=by
 rw[← List.drop_drop,← List.drop_drop,h]
theorem p134 (l:List Int)(p:Int→Bool)(f:FuncId)(xs ys:List PV)(hl:l.length<4294967296)(hne:0<l.length)(hx:PV.allF xs=true)(hy:PV.allF ys=true)(hcf:∀cs w,(callFunc f cs).run prog w=.ok (.enter f cs) w)(hp:∀a∈l,zat prog f (xs++[.int .i64 a]++ys) fun r=>r=.bool (p a)):zbj prog 134 [.sub 0 0 l.length,.func f xs ys] ⟨1,[(0,.arr false 1 (l.map (.int .i64)))]⟩ fun r _=>r.isF=true∧r=ints (l.filter fun a=>!p a):=by
 have hl0:¬l=[]:=by rintro rfl;simp at hne
 have hxz:∀vh,frzL vh xs=some xs:=fun vh=>zjk vh hx
 have hyz:∀vh,frzL vh ys=some ys:=fun vh=>zjk vh hy
 refine .z1h func134 rfl rfl ?_
 refine .sr ?_
 refine .seq ?_
 refine .zac [0,1,2,3] rfl zz0 ?_
 refine .rn [0,1] _ ?_
 refine .step rfl rfl (.borrow rfl rfl rfl call175 (by decide) (by first|(simp<;>rfl)|(simp[*]<;>rfl)|(simp[*];done)) (p175 l (PV.int .i64) p f xs ys hl (fun _=>rfl) hx hy (fun _=>rfl) hcf hp) (by rintro _ rfl<;>simp) ?_)
 rintro _ rfl
 refine .rn [3] [] ?_
 refine .done (.seq (.sr ?_))
 refine .cs ?_ ?_<;>intro c12
 ·try simp at c12
  refine .sr ?_
  refine .ret ?_
  refine⟨_,_,zz4,(by simp[*]<;>rfl),?_⟩
  rw[zt0 p l 0 c12]
 try simp at c12
 obtain⟨i0,hi0,hie,hp0,hbef⟩:=zuh p l 0 c12
 rw[Nat.zero_add] at hie
 have hw1:=wr1 i0
 refine .skip (.seq (.sr ?_))
 refine .block ?_
 refine .zco (fun st:Nat×Nat×List Int=>([(0,.sub 0 0 l.length),(1,.func f xs ys),(5,.int .i64 st.1),(6,.int .i64 st.2.1)],⟨1,[(0,.arr false 1 (st.2.2.map (.int .i64)))]⟩)) (fun st=>st.2.2.length=l.length∧st.1<st.2.1∧st.2.1≤l.length∧st.2.2.take st.1=(l.take st.2.1).filter (fun a=>!p a)∧st.2.2.drop st.2.1=l.drop st.2.1) (fun st=>l.length - st.2.1) (i0,i0+1,l) ⟨rfl,by simp,hi0,by rw[List.take_succ_eq_append_getElem hi0,List.filter_append,hbef];simp[hp0],rfl⟩ (.mk [] [] zz6 zz7 rfl rfl rfl) ?_
 rintro⟨i,j,cs⟩ ⟨hcl,hij,hjl,htk,hdr⟩
 simp only at hcl hij hjl htk hdr ⊢
 refine .seq (.sr ?_)
 refine .cs ?_ ?_<;>intro c19
 ·try simp at c19
  have hw2:=wr1 j
  have hw3:=wr1 i
  have hj:cs[j]?=some l[j]:=by rw[zs8 hdr];simp[c19]
  have hjc:j<cs.length:=by omega
  have hcj:cs[j]=l[j]:=by rw[List.getElem?_eq_getElem hjc] at hj;injection hj
  have hil:i<l.length:=by omega
  have hi1:i+1≤l.length:=by omega
  have hp:=hp l[j] (List.getElem_mem c19)
  refine .skip (.seq (.block (.sr ?_)))
  refine .seq ?_
  refine .zac [0,1,2,3] rfl zz0 ?_
  refine .rn [0,1] _ ?_
  refine .step rfl rfl (.pure rfl rfl rfl hcf (by decide) (hp) (by first|rfl|simp[*]) ?_)
  rintro _ rfl
  refine .rn [3] [] ?_
  refine .done ?_
  refine .cs ?_ ?_<;>intro c29
  ·try simp at c29
   refine .sr ?_
   refine .rn ?_
   refine .rn ?_
   refine⟨(i+1,j+1,cs.set i l[j]),⟨by simp[hcl],by simp;omega,c19,?_,?_⟩,zz5,.mk [] [] zz6 ⟨⟨xfo rfl,Or.inr ⟨rfl,_,rfl,?_⟩⟩,trivial⟩ rfl rfl rfl⟩
   ·simp only
    rw[List.take_succ_eq_append_getElem (by simp;omega),List.take_set_of_le (Nat.le_refl i),htk,List.take_succ_eq_append_getElem c19,List.filter_append]
    simp[c29]
   ·simp only
    rw[List.drop_set_of_lt (by omega)]
    exact zlf hdr
   refine congrArg (VObj.arr _ _) ?_
   rw[List.set_eq_take_append_cons_drop,if_pos (by omega)]
   simp
  try simp at c29
  refine .skip (.rn ?_)
  refine⟨(i,j+1,cs),⟨hcl,by simp;omega,c19,?_,zlf hdr⟩,zz5,(.mk [] [] zz6 zz7 rfl rfl rfl)⟩
  simp only
  rw[htk,List.take_succ_eq_append_getElem c19,List.filter_append]
  simp[c29]
 try simp at c19
 have hjn:j=l.length:=by omega
 obtain⟨m,hm⟩:∃m,l.length - i=m+1:=⟨l.length - i - 1,by omega⟩
 have hin:¬l.length=i:=by omega
 have hil:i≤l.length:=by omega
 have him:i+(m+1)≤l.length:=by omega
 refine .exit (.sr ?_)
 refine .sr ?_
 refine .ret ?_
 refine⟨_,ints (l.filter fun a=>!p a),zz4,?_,rfl⟩
 rw[hjn,List.take_length] at htk
 by_cases hi:i=0
 ·subst hi
  simp at htk
  simp[ints]
  intro a ha
  cases hpa:p a with
  |true=>rfl
  |false=>exact absurd (hpa▸htk a ha) (by simp)
 have e1:(List.map (PV.int .i64) cs).take i=(l.filter fun a=>!p a).map (.int .i64):=by rw[← List.map_take,htk]
 have e2:((l.filter fun a=>!p a).map (PV.int .i64)).all PV.one=true:=by simp[PV.one]
 have e3:((List.map (PV.int .i64) cs).drop (i+(m+1))).all PV.one=true:=by
  rw[List.all_eq_true]
  intro x hx
  obtain⟨y,_,rfl⟩:=List.mem_map.1 (List.mem_of_mem_drop hx)
  rfl
 have e0:(l.filter fun a=>!p a).length=i:=by rw[← htk,List.length_take];omega
 have e4:∀X:List PV,List.take i (List.map (PV.int .i64) (l.filter fun a=>!p a)++X)=List.map (PV.int .i64) (l.filter fun a=>!p a):=fun X=>List.take_left' (by rw[List.length_map,e0])
 simp only[hm,e1] at *
 simp[*]
theorem xa7:zat prog 167 [.vec []] fun r=>r=.vec []∨r=.sl0:=by
 refine .zah func167 rfl rfl ?_
 refine .sr ?_
 refine .seq (.seq ?_)
 refine .zac [0,1] rfl zz0 ?_
 refine .rn [0] _ ?_
 refine .step rfl rfl (.nilQ ⟨_,rfl⟩ u25 rfl rfl (by decide) fun q=>?_)
 refine .done ?_
 cases q with
 |true=>
  refine .zey rfl (.sr ?_)
  refine .ret ?_
  exact⟨_,.sl0,zz4,(by simp),.inr rfl⟩
 |false=>
  refine .zd3 rfl (.skip (.sr ?_))
  refine .ret ?_
  exact⟨_,.vec [],zz4,(by simp),.inl rfl⟩
theorem z8o:zat prog 167 [.vec []] fun r=>r=.vec []:=xa7.alt fun r h=>by
 rcases h with rfl|rfl
 ·exact⟨.vec [],.same _ rfl,rfl,rfl⟩
 exact⟨.vec [],.sl0v,rfl,rfl⟩
theorem p167 (l:List Int)(hne:0<l.length)(hl:l.length<4294967296):zbj prog 167 [ints l] zab.empty fun v vh'=>∃i nl,v=.grow i l.length nl∧vh'.get i=some (.grow 1 (l.map (.int .i64))):=by
 obtain⟨a,r,rfl⟩:∃a r,l=a::r:=by
  cases l with
  |nil=>simp at hne
  |cons a r=>exact⟨a,r,rfl⟩
 have h1:r.length+1≤4294967296:=by simp at hl;omega
 have h2:r.length≤4294967295:=by omega
 have hS:zfu 1 (PV.int .i64 a::r.map (PV.int .i64))=true:=zqo .i64 (a::r)
 have hO:zdr (PV.int .i64 a::r.map (PV.int .i64))=true:=zov .i64 (a::r)
 refine .zah func167 rfl rfl ?_
 refine .sr ?_
 refine .seq (.seq ?_)
 refine .run zz0 (by simp[ints, *]<;>first|exact⟨rfl,rfl⟩|exact rfl) ?_
 refine .zd3 rfl (.skip (.seq ?_))
 refine .run zz0 (by simp[ints, *]<;>first|exact⟨rfl,rfl⟩|exact rfl) ?_
 refine .ret ?_
 exact⟨_,zz4,_,_,rfl,by simp⟩
def fstF (p:Int→Bool)(l:List Int):Int:=(l.find? p).getD 0
def z9g (c:Wit)(id:Int):Int:=if 0<c.models.length∧id∉c.models then 4 else 0
def z6s (c:Wit)(n:Int):Bool:=!decide (n∈setK [c.slips,c.mended])
def whyP (c p:Wit):Int×Int:=if p.id=c.id then (1,0) else if c.lo≤p.hi then (2,0) else if 0≤idxF (z6s c) 0 p.slips then (3,fstF (z6s c) p.slips) else (z9g c p.id,0)
def tup2 (x:Int×Int):PV:=.tup [.int .i64 x.1,.int .i64 x.2]
theorem p99 (s:List Wit)(hl:s.length<4294967296):zat prog 99 [encS s] fun r=>r=ints ((s.map Wit.id).mergeSort fun x y=>decide (x≤y)):=by
 refine .zah func99 rfl rfl ?_
 refine .sr ?_
 refine .sr ?_
 refine .seq (.sr ?_)
 refine .block ?_
 refine .zco (fun i:Nat=>([(3,.grow 1 i true),(7,.vec (s.map encW)),(8,.int .i64 s.length),(9,.int .i64 i)],⟨2,[(1,.grow 1 (((s.take i).map Wit.id).map (.int .i64)))]⟩)) (fun i=>i≤s.length) (fun i=>s.length - i) 0 (by simp) (.mk [] [] zz6 zz7 rfl rfl rfl) ?_
 rintro i hi
 simp only at hi ⊢
 refine .sr ?_
 refine .seq ?_
 refine .cs ?_ ?_<;>intro c10
 ·try simp at c10
  have hw2:=wr1 i
  have hT:=zp9 Wit.id s i c10
  have hb:i+1≤4294967296:=by omega
  have hE:encW s[i]=.agg [.int .i64 s[i].id,.int .i64 s[i].known,ints s[i].slips,ints s[i].mended,ints s[i].models,.int .i64 s[i].lo,.int .i64 s[i].hi]:=rfl
  refine .skip (.seq (.block (.sr ?_)))
  refine .rn ?_
  refine .rn ?_
  refine⟨i+1,zz5,zz5,(.mk [] [(1,4)] zz6 zz7 rfl rfl rfl)⟩
 try simp at c10
 have:i=s.length:=by omega
 subst this
 refine .exit (.seq ?_)
 refine .zac [0,1] rfl zz0 ?_
 refine .rn [0] _ ?_
 refine .step rfl rfl (.call rfl rfl rfl call159 (by decide) (((zbj.zp5 (zs:=s.map Wit.id) z3g (by simp[List.take_of_length_le]) (by simp))).mono ?_))
 rintro _ _ ⟨rfl,rfl⟩
 refine .done (.sr ?_)
 refine .ret ?_
 refine⟨_,_,zz4,zz4,?_⟩
 first|rfl|(simp[*];done)|(simp_all;done)
theorem xd1 (f:FuncId)(xs ys:List PV)(hx:PV.allF xs=true)(hy:PV.allF ys=true)(hcf:∀cs w,(callFunc f cs).run prog w=.ok (.enter f cs) w):zat prog 134 [.vec [],.func f xs ys] fun r=>r=.vec []:=by
 refine .zah func134 rfl rfl ?_
 refine .sr ?_
 refine .seq ?_
 refine .zac [0,1,2,3] rfl zz0 ?_
 refine .rn [0,1] _ ?_
 refine .step rfl rfl (.pure rfl rfl rfl call175 (by decide) (p175 ([]:List Int) (PV.int .i64) (fun _=>true) f xs ys (by simp) (fun _=>rfl) hx hy (fun _=>rfl) hcf (fun a ha=>by cases ha)) (by simp[*]) ?_)
 rintro _ rfl
 refine .rn [3] [] ?_
 refine .done (.seq (.seq ?_))
 refine .run zz0 (by simp[idxF, *]<;>first|exact⟨rfl,rfl⟩|exact rfl) ?_
 refine .zey rfl (.sr ?_)
 refine .ret ?_
 exact⟨_,.vec [],zz4,(by simp),rfl⟩
theorem z5g {vh:zab}(l:List Int)(p:Int→Bool)(f:FuncId)(xs ys:List PV)(hl:l.length<4294967296)(hne:0<l.length)(hx:PV.allF xs=true)(hy:PV.allF ys=true)(hcf:∀cs w,(callFunc f cs).run prog w=.ok (.enter f cs) w)
  (hp:∀a∈l,zat prog f (xs++[.int .i64 a]++ys) fun r=>r=.bool (p a)) (i:Nat) (nl:Bool) (hg:vh.get i=some (.grow 1 (l.map (.int .i64)))):zbj prog 134 [.grow i l.length nl,.func f xs ys] vh fun v vh'=>vh'=vh.drop i∧v=ints (l.filter fun a=>!p a):=by
 obtain⟨a,r,hc⟩:∃a r,l=a::r:=by
  cases l with
  |nil=>simp at hne
  |cons a r=>exact⟨a,r,rfl⟩
 refine zbj.give (x0:=.arr false 1 (l.map (.int .i64))) hg (by rw[hc];rfl) ⟨rfl,⟨.int .i64 a,r.map (.int .i64),by rw[hc];rfl⟩,zhy l⟩ (AltL.cons (.growS i 0 l.length nl 1 _ (by decide) rfl hg (by simp) hne) (AltL.cons (.same _ ?_) AltL.nil)) (p134 l p f xs ys hl hne hx hy hcf hp)
 simp only[PV.isF,hx,hy,Bool.and_self]
def Soft (r v:PV):Prop:=Alt zab.empty 0 (fun _=>true) id r v
theorem zat.soft {P:Program}{f:FuncId}{args:List PV}{v:PV}(hp:zat P f args fun r=>Soft r v)(hv:v.isF=true):zat P f args fun r=>r=v:=hp.alt fun r h=>⟨v,h,hv,rfl⟩
theorem z0b {v:PV}(h:v.isF=true):Soft v v:=.same v h
def getW (s:List Wit)(id:Int):Option Wit:=s.find? fun w=>decide (w.id=id)
def zW:PV:=.agg [.int .i64 0,.int .i64 0,.sl0,.sl0,.sl0,.int .i64 0,.int .i64 0]
attribute [local simp] zW tup2
theorem zu4 {s:List Wit}{id:Int}{c:Wit}(h:getW s id=some c):c∈s∧c.id=id:=by
 unfold getW at h
 exact⟨List.mem_of_find?_eq_some h,by simpa using List.find?_some h⟩
end Go.Am.Ds
end
section
namespace Go.Am.Ds
open Go Go.Am Go.Proofs Tryz
attribute [local simp] vrun zaz zbg vop vopA zb2 zab.back hidI hidF zdh bm Nat.testBit_eq_decide_div_mod_eq za6 zbo zb4 vO zbc vlen zbs zbz zd2 zaq zak zcj vbox zbe zdu zby zdt zcm zau zcn zav zcl zbf zci zbr zbl vbnd zcz vidx zbp zdk zar zbt zct zdj zd9 zd6 vbin vsc vsc1 vscs vscl zbv aint zb3 zdl za8 zcx zd0 pvcV pvc pvcs tput tget zdd zab.get zab.alloc zab.put zab.drop zab.empty zce vput zdi zbb zca zda chunk List.range List.range.loop za0 zbu za1 frz frzL PV.isF PV.allF PV.scal PV.allS retP subT zds PV.one PV.ids PV.idsL zcc beq_eq zbw zbx
attribute [local simp] zW tup2
def idsS (s:List Wit):List Int:=(s.map Wit.id).mergeSort fun x y=>decide (x≤y)
def ariS (c p:Wit):List Int:=c.slips.filter fun n=>!decide (n∈setK [p.slips])
theorem zpk {s:List Wit}{id:Int}:id∈idsS s↔∃w∈s,w.id=id:=by
 unfold idsS
 rw[(List.mergeSort_perm _ _).mem_iff,List.mem_map]
theorem zhh (s:List Wit):(idsS s).length=s.length:=by unfold idsS;simp
theorem p99' (s:List Wit)(hl:s.length<4294967296):zat prog 99 [encS s] fun r=>r=ints (idsS s):=p99 s hl
end Go.Am.Ds
end
