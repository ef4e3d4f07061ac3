/-
 What is used in the proof of a statement (part DsK); no condition.
-/
import Derived.Test.YtnablaecbohhmaaGreatDsZ
import Derived.Test.YtnablaecbohhmaaGreatVm2
import Derived.Test.YtnablaecbohhmaaGreatDsT
import Derived.Test.YtnablaecbohhmaaGreatDsG
import Derived.Test.YtnablaecbohhmaaGreatDsD
set_option linter.all false
set_option maxHeartbeats 40000000
set_option maxRecDepth 100000
section
namespace Go.Am.Ds
open Go Go.Am Go.Proofs Tryz
attribute [local simp] vrun zaz zbg vop vopA zb2 zab.back hidI hidF zdh bm Nat.testBit_eq_decide_div_mod_eq za6 zbo zb4 vO zbc vlen zbs zbz zd2 zaq zak zcj vbox zbe zdu zby zge zdt zcm zau zcn zav zcl zbf zci zbr zbl vbnd zcz vidx zbp zdk zar zbt zct zdj zd9 zd6 vbin vsc vsc1 vscs vscl zbv aint zb3 zdl za8 zcx zd0 pvcV pvc pvcs tput tget zdd zab.get zab.alloc zab.put zab.drop zab.empty zce vput zdi zbb zca zda chunk List.range List.range.loop za0 zbu za1 frz frzL PV.isF PV.allF PV.scal PV.allS retP subT zds PV.one PV.ids PV.idsL zcc beq_eq zbw zbx
attribute [local simp ↓ high] zi2
def swp (C:List (List Int))(i j:Nat):List (List Int):=match C[i]?,C[j]? with
 |some x,some y=>(C.set i y).set j x
 |_,_=>C
def swR (C:List (List Int))(a b:Nat):Nat→List (List Int)
 |0=>C
 |n+1=>swp (swR C a b n) (a+n) (b+n)
theorem z5f (C:List (List Int))(i j:Nat):(swp C i j).length=C.length:=by
 unfold swp;split<;>simp
theorem zsm (C:List (List Int))(a b:Nat):∀n,(swR C a b n).length=C.length
 |0=>rfl
 |n+1=>by rw[swR,z5f,zsm C a b n]
theorem z1q {C:List (List Int)}{i j:Nat}(hi:i<C.length)(hj:j<C.length):swp C i j=(C.set i C[j]).set j C[i]:=by
 unfold swp;rw[List.getElem?_eq_getElem hi,List.getElem?_eq_getElem hj]
theorem p228 (C:List (List Int))(m a b n:Nat)(hab:a+n≤b)(hbm:b+n≤m)(hm:m≤C.length)(hl:C.length<4294967296):zbj prog 228 [.sub 0 0 m,.int .i64 a,.int .i64 b,.int .i64 n,.func 184 [] []] ⟨3,[(0,.arr false 1 (C.map eS))]⟩ fun v vh'=>v=.tup []∧vh'.get 0=some (.arr false 1 ((swR C a b n).map eS)):=by
 refine .zah func228 rfl rfl ?_
 refine .sr ?_
 refine .block ?_
 refine .zco (fun i:Nat=>([(0,.sub 0 0 m),(1,.int .i64 a),(2,.int .i64 b),(3,.int .i64 n),(10,.int .i64 i)],⟨3,[(0,.arr false 1 ((swR C a b i).map eS))]⟩)) (fun i=>i≤n) (fun i=>n - i) 0 (by simp) (.mk [] [] zz20 zz21 rfl rfl rfl) ?_
 rintro i hi
 simp only at hi ⊢
 refine .seq (.sr ?_)
 refine .cs ?_ ?_<;>intro c13
 ·try simp at c13
  have hw2:=wr1 i
  have hwa:IntKind.i64.wrap ((a:Int)+(i:Int))=((a+i:Nat):Int):=by rw[wrap64 (by omega) (by omega)];omega
  have hwb:IntKind.i64.wrap ((b:Int)+(i:Int))=((b+i:Nat):Int):=by rw[wrap64 (by omega) (by omega)];omega
  have hDl:=zsm C a b i
  have hnx:swR C a b (i+1)=swp (swR C a b i) (a+i) (b+i):=rfl
  obtain⟨D,hD⟩:∃D,swR C a b i=D:=⟨_,rfl⟩
  rw[hD] at hDl hnx ⊢
  obtain⟨p,hp⟩:∃p,a+i=p:=⟨_,rfl⟩
  obtain⟨q,hq⟩:∃q,b+i=q:=⟨_,rfl⟩
  rw[hp] at hwa hnx
  rw[hq] at hwb hnx
  have hpm:p<m:=by omega
  have hqm:q<m:=by omega
  have hpD:p<D.length:=by omega
  have hqD:q<D.length:=by omega
  rw[z1q hpD hqD] at hnx
  obtain⟨x,hx⟩:∃x,D[p]=x:=⟨_,rfl⟩
  obtain⟨y,hy⟩:∃y,D[q]=y:=⟨_,rfl⟩
  rw[hx,hy] at hnx
  have hset1:=zhp hpD y
  obtain⟨D1,hD1⟩:∃D1,D.set p y=D1:=⟨_,rfl⟩
  have hD1l:D1.length=D.length:=by rw[← hD1];simp
  rw[hD1] at hset1 hnx
  have hq1:q<D1.length:=by omega
  have hset2:=zhp hq1 x
  rw[← hnx] at hset2
  have hb4:p+1≤D.length:=by omega
  have hb7:q+1≤D1.length:=by omega
  clear hDl hD1l hab hbm hp hq hD hnx
  refine .skip (.seq (.block ?_))
  refine .drawn (ms:=[0,0,0,6,0,0,0,96,0,0,0,1536,3840,7936,0,0,0,98304,245760,507904,1048335,2096911,4194303,8388607]) (W:=[21,23]) (items:=[.op 0,.op 1,.op 2,.op 3,.op 4,.op 5,.op 6,.op 7,.op 8,.op 9,.op 10,.op 11,.op 12,.op 13,.op 14,.op 15,.op 16,.op 17,.op 18,.op 19,.op 20,.op 21,.op 22,.op 23]) rfl zz0 zz0 zz0 ?_
  iterate 21 refine .rx ?_
  refine .wv ?_
  refine .rx ?_
  refine .wv ?_
  refine .done (.rn ?_)
  refine⟨i+1,zz5,zz5,(.mk [] [] zz20 zz21 rfl rfl rfl)⟩
 try simp at c13
 have hin:i=n:=by omega
 refine .exit ?_
 refine⟨_,zz4,rfl,?_⟩
 rw[← hin];rfl
end Go.Am.Ds
end
/-
 Descent: exchanged ranges, rotations (plain).
-/
section
namespace Go.Am.Ds
open Go Go.Am
theorem swp_get {C:List (List Int)}{i j:Nat}(hi:i<C.length)(hj:j<C.length)(k:Nat):(swp C i j)[k]?=if k=j then C[i]? else if k=i then C[j]? else C[k]?:=by
 rw[z1q hi hj]
 by_cases h1:k=j
 ·subst h1;rw[if_pos rfl,List.getElem?_set_self (by simpa using hj),List.getElem?_eq_getElem hi]
 rw[if_neg h1,List.getElem?_set_ne (Ne.symm h1)]
 by_cases h2:k=i
 ·subst h2;rw[if_pos rfl,List.getElem?_set_self hi,List.getElem?_eq_getElem hj]
 rw[if_neg h2,List.getElem?_set_ne (Ne.symm h2)]
theorem zyt {C:List (List Int)}{a b:Nat}:∀ {n:Nat},a+n≤b→b+n≤C.length→∀k,(swR C a b n)[k]?=if a≤k∧k<a+n then C[b+(k - a)]? else if b≤k∧k<b+n then C[a+(k - b)]? else C[k]?
 |0,_,_,k=>by
  rw[if_neg (by omega),if_neg (by omega)];rfl
 |n+1,h1,h2,k=>by
  have ih:=zyt (C:=C) (a:=a) (b:=b) (n:=n) (by omega) (by omega)
  have hl:=zsm C a b n
  rw[swR,swp_get (by omega) (by omega),ih,ih,ih]
  rw[if_neg (show ¬(a≤a+n∧a+n<a+n) by omega),if_neg (show ¬(b≤a+n∧a+n<b+n) by omega),if_neg (show ¬(a≤b+n∧b+n<a+n) by omega),if_neg (show ¬(b≤b+n∧b+n<b+n) by omega)]
  by_cases e1:k=b+n
  ·subst e1
   rw[if_pos rfl,if_neg (by omega),if_pos (by omega),show b+n - b=n by omega]
  rw[if_neg e1]
  by_cases e2:k=a+n
  ·subst e2
   rw[if_pos rfl,if_pos (by omega),show a+n - a=n by omega]
  rw[if_neg e2]
  by_cases e3:a≤k∧k<a+n
  ·rw[if_pos e3,if_pos (show a≤k∧k<a+(n+1) by omega)]
  rw[if_neg e3,if_neg (show ¬(a≤k∧k<a+(n+1)) by omega)]
  by_cases e4:b≤k∧k<b+n
  ·rw[if_pos e4,if_pos (show b≤k∧k<b+(n+1) by omega)]
  rw[if_neg e4,if_neg (show ¬(b≤k∧k<b+(n+1)) by omega)]
theorem zyc (P X M Y S:List (List Int))(h:X.length=Y.length):swR (P++(X++(M++(Y++S)))) P.length (P.length+X.length+M.length) X.length=P++(Y++(M++(X++S))):=by
 refine List.ext_getElem? fun k=>?_
 rw[zyt (by omega) (by simp;omega)]
 simp only[List.getElem?_append]
 repeat' split
 all_goals first|(exfalso;omega)|(congr 1<;>omega)
end Go.Am.Ds
end
section
namespace Go.Am.Ds
open Go Go.Am Go.Proofs Tryz
attribute [local simp] vrun zaz zbg vop vopA zb2 zab.back hidI hidF zdh bm Nat.testBit_eq_decide_div_mod_eq za6 zbo zb4 vO zbc vlen zbs zbz zd2 zaq zak zcj vbox zbe zdu zby zge zdt zcm zau zcn zav zcl zbf zci zbr zbl vbnd zcz vidx zbp zdk zar zbt zct zdj zd9 zd6 vbin vsc vsc1 vscs vscl zbv aint zb3 zdl za8 zcx zd0 pvcV pvc pvcs tput tget zdd zab.get zab.alloc zab.put zab.drop zab.empty zce vput zdi zbb zca zda chunk List.range List.range.loop za0 zbu za1 frz frzL PV.isF PV.allF PV.scal PV.allS retP subT zds PV.one PV.ids PV.idsL zcc beq_eq zbw zbx
attribute [local simp ↓ high] zi2
theorem xdd (C:List (List Int))(m a b n:Nat)(hab:a+n≤b)(hbm:b+n≤m)(hm:m≤C.length)(hl:C.length<4294967296):zbj prog 228 [.sub 0 0 m,.int .i64 a,.int .i64 b,.int .i64 n,.func 184 [] []] ⟨3,[(0,.arr false 1 (C.map eS))]⟩ fun v vh'=>v=.tup []∧∃n',vh'=⟨n',[(0,.arr false 1 ((swR C a b n).map eS))]⟩:=
 zbj.only (p228 C m a b n hab hbm hm hl) fun v vh' ⟨h1,h2⟩=>⟨_,zvf h2,rfl,h1,_,rfl⟩
theorem z3f (P X M Y S:List (List Int))(mm a b n:Nat)(ha:P.length=a)(hX:X.length=n)(hY:Y.length=n)(hb:a+n+M.length=b)(hm:b+n≤mm)(hmm:mm≤b+n+S.length)(hl:b+n+S.length<4294967296):zbj prog 228 [.sub 0 0 mm,.int .i64 a,.int .i64 b,.int .i64 n,.func 184 [] []] ⟨3,[(0,.arr false 1 ((P++(X++(M++(Y++S)))).map eS))]⟩ fun v vh'=>v=.tup []∧∃n',vh'=⟨n',[(0,.arr false 1 ((P++(Y++(M++(X++S)))).map eS))]⟩:=by
 have hlen:(P++(X++(M++(Y++S)))).length=b+n+S.length:=by simp only[List.length_append];omega
 have h:=xdd (P++(X++(M++(Y++S)))) mm a b n (by omega) (by omega) (by omega) (by omega)
 have e:=zyc P X M Y S (by omega)
 rw[ha,hX,hb] at e
 rw[e] at h
 exact h
theorem p226 (P L R S:List (List Int))(mm a m b:Nat)(ha:P.length=a)(hLm:a+L.length=m)(hRb:m+R.length=b)(hL0:0<L.length)(hR0:0<R.length)(hbm:b≤mm)(hmm:mm≤b+S.length)(hl:b+S.length<4294967296):zbj prog 226 [.sub 0 0 mm,.int .i64 a,.int .i64 m,.int .i64 b,.func 184 [] []] ⟨3,[(0,.arr false 1 ((P++(L++(R++S))).map eS))]⟩ fun v vh'=>v=.tup []∧vh'.get 0=some (.arr false 1 ((P++(R++(L++S))).map eS)):=by
 have hwi:IntKind.i64.wrap ((m:Int) - (a:Int))=(L.length:Int):=by rw[wrap64 (by omega) (by omega)];omega
 have hwj:IntKind.i64.wrap ((b:Int) - (m:Int))=(R.length:Int):=by rw[wrap64 (by omega) (by omega)];omega
 obtain⟨T,hT⟩:∃T,P++(R++(L++S))=T:=⟨_,rfl⟩
 rw[hT]
 refine .zah func226 rfl rfl ?_
 refine .sr ?_
 refine .sr ?_
 refine .seq (.block ?_)
 refine .zco (fun st:List (List Int)×List (List Int)×List (List Int)×List (List Int)=>([(0,.sub 0 0 mm),(2,.int .i64 m),(4,.func 184 [] []),(10,.int .i64 st.2.1.length),(11,.int .i64 st.2.2.1.length)],⟨3,[(0,.arr false 1 ((st.1++(st.2.1++(st.2.2.1++st.2.2.2))).map eS))]⟩)) (fun st=>st.1.length+st.2.1.length=m∧0<st.2.1.length∧0<st.2.2.1.length∧m+st.2.2.1.length≤mm∧m+st.2.2.1.length+st.2.2.2.length=b+S.length∧st.1++(st.2.2.1++(st.2.1++st.2.2.2))=T) (fun st=>st.2.1.length+st.2.2.1.length) (P,L,R,S) ⟨by simp only;omega,hL0,hR0,by simp only;omega,by simp only;omega,hT⟩ (.mk [] [] zz20 zz21 rfl rfl rfl) ?_
 rintro⟨P',L',R',S'⟩ ⟨h1,h2,h3,h4,h5,h6⟩
 simp only at h1 h2 h3 h4 h5 h6 ⊢
 obtain⟨D,hD⟩:∃D,P'++(L'++(R'++S'))=D:=⟨_,rfl⟩
 rw[hD]
 obtain⟨i,hi⟩:∃i,L'.length=i:=⟨_,rfl⟩
 obtain⟨j,hj⟩:∃j,R'.length=j:=⟨_,rfl⟩
 rw[hi] at h1 h2
 rw[hj] at h3 h4 h5
 rw[hi,hj]
 obtain⟨p,hp⟩:∃p,P'.length=p:=⟨_,rfl⟩
 rw[hp] at h1
 have hw1:IntKind.i64.wrap ((m:Int) - (i:Int))=(p:Int):=by rw[wrap64 (by omega) (by omega)];omega
 refine .seq (.sr ?_)
 refine .cs ?_ ?_<;>intro c20
 ·try simp at c20
  refine .skip (.block (.sr ?_))
  refine .cs ?_ ?_<;>intro c23
  ·try simp at c23
   have hlt:j<i:=by omega
   obtain⟨L1,L2,hLe,hL1⟩:∃L1 L2,L'=L1++L2∧L1.length=j:=⟨L'.take j,L'.drop j,(List.take_append_drop _ _).symm,by rw[List.length_take];omega⟩
   have hL2:L2.length=i - j:=by rw[hLe,List.length_append] at hi;omega
   obtain⟨k,hk⟩:∃k,i - j=k:=⟨_,rfl⟩
   rw[hk] at hL2
   have hw2:IntKind.i64.wrap ((i:Int) - (j:Int))=(k:Int):=by rw[wrap64 (by omega) (by omega)];omega
   have q:=z3f P' L1 L2 R' S' mm p m j hp hL1 hj (by omega) (by omega) (by omega) (by omega)
   have e:P'++(L1++(L2++(R'++S')))=D:=by rw[← hD,hLe,List.append_assoc]
   rw[e] at q
   obtain⟨D2,hD2⟩:∃D2,P'++(R'++(L2++(L1++S')))=D2:=⟨_,rfl⟩
   rw[hD2] at q
   have hD3:(P'++R')++(L2++(L1++S'))=D2:=by rw[← hD2,List.append_assoc]
   have hT2:(P'++R')++(L1++(L2++S'))=T:=by rw[← h6,hLe];simp only[List.append_assoc]
   have hPl:(P'++R').length=p+j:=by rw[List.length_append];omega
   refine .seq ?_
   refine .zac [0,1,2,3,4,5,6,7] rfl zz0 ?_
   refine .rn [0,1,2,3,4,5,6] _ ?_
   refine .step rfl rfl (.call rfl rfl rfl call228 (by decide) (((q)).mono ?_))
   rintro _ _ ⟨rfl,n,rfl⟩
   refine .done (.rn ?_)
   refine⟨(P'++R',L2,L1,S'),⟨by show (P'++R').length+L2.length=m;omega,by show 0<L2.length;omega,by show 0<L1.length;omega,by show m+L1.length≤mm;omega,by show m+L1.length+S'.length=_;omega,hT2⟩,by show L2.length+L1.length<i+j;omega,?_⟩
   simp only
   rw[hD3,hL2,hL1]
   exact(.mk [] [] zz20 zz21 rfl rfl rfl)
  try simp at c23
  have hlt:i<j:=by omega
  obtain⟨R1,R2,hRe,hR2⟩:∃R1 R2,R'=R1++R2∧R2.length=i:=⟨R'.take (j - i),R'.drop (j - i),(List.take_append_drop _ _).symm,by rw[List.length_drop];omega⟩
  have hR1:R1.length=j - i:=by rw[hRe,List.length_append] at hj;omega
  obtain⟨k,hk⟩:∃k,j - i=k:=⟨_,rfl⟩
  rw[hk] at hR1
  obtain⟨b2,hb2⟩:∃b2,m+k=b2:=⟨_,rfl⟩
  have hw2:IntKind.i64.wrap ((j:Int) - (i:Int))=(k:Int):=by rw[wrap64 (by omega) (by omega)];omega
  have hw3:IntKind.i64.wrap ((m:Int)+(j:Int))=(m:Int)+(j:Int):=wrap64 (by omega) (by omega)
  have hw4:IntKind.i64.wrap ((m:Int)+(j:Int) - (i:Int))=(b2:Int):=by rw[wrap64 (by omega) (by omega)];omega
  have q:=z3f P' L' R1 R2 S' mm p b2 i hp hi hR2 (by omega) (by omega) (by omega) (by omega)
  have e:P'++(L'++(R1++(R2++S')))=D:=by rw[← hD,hRe,List.append_assoc]
  rw[e] at q
  obtain⟨D2,hD2⟩:∃D2,P'++(R2++(R1++(L'++S')))=D2:=⟨_,rfl⟩
  rw[hD2] at q
  have hT2:P'++(R1++(R2++(L'++S')))=T:=by rw[← h6,hRe];simp only[List.append_assoc]
  have hSl:(L'++S').length=i+S'.length:=by rw[List.length_append];omega
  refine .seq ?_
  refine .zac [0,1,2,3,4,5,6,7,8,9,10,11] rfl zz0 ?_
  refine .rn [0,1,2,3,4,5,6,7,8,9,10] _ ?_
  refine .step rfl rfl (.call rfl rfl rfl call228 (by decide) (((q)).mono ?_))
  rintro _ _ ⟨rfl,n,rfl⟩
  refine .done (.rn ?_)
  refine⟨(P',R2,R1,L'++S'),⟨by show P'.length+R2.length=m;omega,by show 0<R2.length;omega,by show 0<R1.length;omega,by show m+R1.length≤mm;omega,by show m+R1.length+(L'++S').length=_;omega,hT2⟩,by show R2.length+R1.length<i+j;omega,?_⟩
  simp only
  rw[hD2,hR2,hR1]
  exact(.mk [] [] zz20 zz21 rfl rfl rfl)
 try simp at c20
 have hij:i=j:=by first|exact c20|omega
 subst hij
 have q:=z3f P' L' [] R' S' mm p m i hp hi hj (by simp;omega) (by omega) (by omega) (by omega)
 rw[List.nil_append,List.nil_append,hD,h6] at q
 refine .exit ?_
 refine .zac [0,1,2,3,4,5,6,7] rfl zz0 ?_
 refine .rn [0,1,2,3,4,5,6] _ ?_
 refine .step rfl rfl (.call rfl rfl rfl call228 (by decide) (((q)).mono ?_))
 rintro _ _ ⟨rfl,n,rfl⟩
 refine .done ?_
 exact⟨_,zz4,rfl,rfl⟩
attribute [local simp] zW tup2
def LenS (l:List (List Int)):Prop:=l.Pairwise fun a b=>a.length≤b.length
def shQ (P B R:List (List Int))(x:List Int)(q:Nat):List (List Int):=P++(B.take q++(x::(B.drop q++R)))
theorem zqh (P B R:List (List Int))(x:List Int)(q:Nat):(shQ P B R x q).length=P.length+1+B.length+R.length:=by
 unfold shQ
 have:(B.take q).length+(B.drop q).length=B.length:=by rw[← List.length_append,List.take_append_drop]
 simp only[List.length_append,List.length_cons];omega
theorem z1g {P B R:List (List Int)}{x:List Int}{q:Nat}(h:q≤B.length):(shQ P B R x q)[P.length+q]?=some x:=by
 unfold shQ
 rw[List.getElem?_append_right (by omega),List.getElem?_append_right (by rw[List.length_take];omega),List.length_take,show P.length+q - P.length - min q B.length=0 by omega];rfl
theorem xe0 {P B R:List (List Int)}{x:List Int}{q:Nat}(h:q<B.length):(shQ P B R x q)[P.length+q+1]?=some B[q]:=by
 unfold shQ
 rw[List.getElem?_append_right (by omega),List.getElem?_append_right (by rw[List.length_take];omega),List.length_take,show P.length+q+1 - P.length - min q B.length=1 by omega,List.drop_eq_getElem_cons h];rfl
theorem z2y {P B R:List (List Int)}{x:List Int}{q:Nat}(h:q<B.length):((shQ P B R x q).set (P.length+q) B[q]).set (P.length+q+1) x=shQ P B R x (q+1):=by
 unfold shQ
 have ht:(B.take q).length=q:=by rw[List.length_take];omega
 rw[List.set_append_right _ _ (by omega),List.set_append_right _ _ (by omega),show P.length+q - P.length=q by omega,show P.length+q+1 - P.length=q+1 by omega,
  List.set_append_right _ _ (by omega),List.set_append_right _ _ (by omega),ht,Nat.sub_self,show q+1 - q=1 by omega,List.drop_eq_getElem_cons h]
 rw[List.take_succ_eq_append_getElem h,List.append_assoc]
 rfl
theorem zg6 {B:List (List Int)}{x:List Int}{q:Nat}(hB:LenS B)(h1:q=0∨∃y,B[q - 1]?=some y∧y.length≤x.length)(h2:∀y,B[q]?=some y→x.length≤y.length):LenS (B.take q++(x::B.drop q)):=by
 unfold LenS at hB ⊢
 rw[List.pairwise_append]
 refine⟨hB.sublist (List.take_sublist _ _),List.pairwise_cons.2 ⟨fun y hy=>?_,hB.sublist (List.drop_sublist _ _)⟩,fun a ha b hb=>?_⟩
 ·obtain⟨j,hj,rfl⟩:=List.mem_iff_getElem.1 hy
  rw[List.getElem_drop]
  rw[List.length_drop] at hj
  have h3:=h2 B[q] (List.getElem?_eq_getElem (by omega))
  rcases Nat.eq_zero_or_pos j with rfl|hj0
  ·simpa using h3
  have:=(List.pairwise_iff_getElem.1 hB) q (q+j) (by omega) (by omega) (by omega)
  omega
 obtain⟨i,hi,rfl⟩:=List.mem_iff_getElem.1 ha
 rw[List.getElem_take]
 rw[List.length_take] at hi
 have hax:B[i].length≤x.length:=by
  rcases h1 with h1|⟨y,hy,hyx⟩
  ·omega
  obtain⟨hq,rfl⟩:=List.getElem?_eq_some_iff.1 hy
  rcases (show i=q - 1∨i<q - 1 by omega) with rfl|hlt
  ·exact hyx
  have:=(List.pairwise_iff_getElem.1 hB) i (q - 1) (by omega) (by omega) hlt
  omega
 rcases List.mem_cons.1 hb with rfl|hb
 ·exact hax
 obtain⟨j,hj,rfl⟩:=List.mem_iff_getElem.1 hb
 rw[List.getElem_drop]
 rw[List.length_drop] at hj
 exact(List.pairwise_iff_getElem.1 hB) i (q+j) (by omega) (by omega) (by omega)
theorem xfh (P B S:List (List Int))(x:List Int)(mm a m b:Nat)(ha:P.length=a)(ham:a+1=m)(hmb:m+B.length=b)(hbm:b≤mm)(hmm:mm≤b+S.length)(hl:b+S.length<4294967296)(hB:LenS B)(hx:x.length<4294967296)(hBl:∀y∈B,y.length<4294967296):zbj prog 219 [.sub 0 0 mm,.int .i64 a,.int .i64 m,.int .i64 b,.func 184 [] []] ⟨3,[(0,.arr false 1 ((shQ P B S x 0).map eS))]⟩ fun v vh'=>v=.tup []∧∃O,O.Perm (x::B)∧LenS O∧vh'.get 0=some (.arr false 1 ((P++(O++S)).map eS)):=by
 have hw0:IntKind.i64.wrap ((m:Int) - (a:Int))=1:=by rw[wrap64 (by omega) (by omega)];omega
 have hDl:=zqh P B S x 0
 have hgx:=z1g (P:=P) (B:=B) (R:=S) (x:=x) (q:=0) (Nat.zero_le _)
 rw[ha,Nat.add_zero] at hgx
 have hgB:∀j,j<B.length→(shQ P B S x 0)[m+j]?=B[j]?:=fun j hj=>by
  unfold shQ
  rw[List.getElem?_append_right (by omega),List.take_zero,List.nil_append,show m+j - P.length=j+1 by omega,List.getElem?_cons_succ,List.drop_zero,List.getElem?_append_left hj]
 obtain⟨D,hD⟩:∃D,shQ P B S x 0=D:=⟨_,rfl⟩
 rw[hD] at hDl hgx hgB ⊢
 obtain⟨haD,hgx2⟩:=List.getElem?_eq_some_iff.1 hgx
 have ham2:a<mm:=by omega
 refine .zah func219 rfl rfl ?_
 refine .seq (.sr ?_)
 refine .cs ?_ ?_<;>intro c28
 ·try simp at c28
  refine .sr ?_
  refine .sr ?_
  refine .seq (.block ?_)
  refine .zco (fun st:Nat×Nat=>([(0,.sub 0 0 mm),(1,.int .i64 a),(4,.func 184 [] []),(10,.int .i64 st.1),(11,.int .i64 st.2)],⟨3,[(0,.arr false 1 (D.map eS))]⟩)) (fun st=>m≤st.1∧st.1≤st.2∧st.2≤b∧(st.1=m∨∃y,B[st.1 - m - 1]?=some y∧y.length≤x.length)∧∀y,B[st.2 - m]?=some y→x.length≤y.length) (fun st=>st.2 - st.1) (m,b) ⟨Nat.le_refl _,by simp only;omega,Nat.le_refl _,.inl rfl,fun y hy=>by simp only at hy;rw[List.getElem?_eq_none (by omega)] at hy;cases hy⟩ (.mk [] [] zz20 zz21 rfl rfl rfl) ?_
  rintro⟨i,j⟩ ⟨h1,h2,h3,h4,h5⟩
  simp only at h1 h2 h3 h4 h5 ⊢
  refine .seq (.sr ?_)
  refine .cs ?_ ?_<;>intro c33
  ·try simp at c33
   have hij:i<j:=by omega
   have hw1:IntKind.i64.wrap ((i:Int)+(j:Int))=(i:Int)+(j:Int):=wrap64 (by omega) (by omega)
   have hw2:IntKind.u64.wrap ((i:Int)+(j:Int))=(i:Int)+(j:Int):=zkg (by omega) (by omega)
   have hbits:IntKind.u64.bits=64:=rfl
   obtain⟨h,hm,hm1,hm2⟩:∃h:Nat,((i:Int)+(j:Int)).fdiv 2=(h:Int)∧i≤h∧h<j:=⟨(i+j) / 2,by rw[Int.fdiv_eq_ediv_of_nonneg _ (by omega)];omega,by omega,by omega⟩
   have hw3:IntKind.i64.wrap (h:Int)=(h:Int):=wrap64 (by omega) (by omega)
   have hw4:=wr1 h
   have hhm:h<mm:=by omega
   have hhB:h - m<B.length:=by omega
   have hgy:=hgB (h - m) hhB
   rw[show m+(h - m)=h by omega,List.getElem?_eq_getElem hhB] at hgy
   obtain⟨y,hy⟩:∃y,B[h - m]=y:=⟨_,rfl⟩
   rw[hy] at hgy
   have hyB:B[h - m]?=some y:=by rw[List.getElem?_eq_getElem hhB,hy]
   obtain⟨hhD,hgy2⟩:=List.getElem?_eq_some_iff.1 hgy
   have hyl:y.length<4294967296:=hBl y (List.mem_of_getElem? hyB)
   obtain⟨v,hv⟩:∃v,(y.length:Int) - (x.length:Int)=v:=⟨_,rfl⟩
   have h184:=zym y x hyl hx
   rw[hv] at h184
   clear hy
   refine .skip (.block (.sr ?_))
   refine .seq ?_
   refine .drawn (ms:=[0,0,0,6,14,0,0,96,224,511,1023]) (W:=[9]) (items:=[.op 0,.op 1,.op 2,.op 3,.op 4,.op 5,.op 6,.op 7,.op 8,.op 9,.op 10]) rfl zz0 zz0 zz0 ?_
   iterate 9 refine .rx ?_
   refine .wp rfl rfl rfl rfl rfl call184 (h184) ?_
   refine .rx ?_
   refine .done ?_
   refine .cs ?_ ?_<;>intro c50
   ·try simp at c50
    refine .rn ?_
    refine⟨(h+1,j),⟨by simp only;omega,by simp only;omega,h3,.inr ⟨y,by simp only;rw[show h+1 - m - 1=h - m by omega];exact hyB,by omega⟩,h5⟩,by simp only;omega,(.mk [] [] zz20 zz21 rfl rfl rfl)⟩
   try simp at c50
   refine .rn ?_
   refine⟨(i,h),⟨h1,by simp only;omega,by simp only;omega,h4,fun z hz=>by simp only at hz;rw[hyB] at hz;cases hz;omega⟩,by simp only;omega,(.mk [] [] zz20 zz21 rfl rfl rfl)⟩
  try simp at c33
  obtain rfl:j=i:=by omega
  have hw5:IntKind.i64.wrap ((j:Int) - 1)=((j - 1:Nat):Int):=by rw[wrap64 (by omega) (by omega)];omega
  obtain⟨w,hw⟩:∃w,j - 1=w:=⟨_,rfl⟩
  rw[hw] at hw5
  refine .exit (.seq (.sr ?_))
  refine .block ?_
  refine .zco (fun k:Nat=>([(0,.sub 0 0 mm),(10,.int .i64 j),(13,.int .i64 k)],⟨3,[(0,.arr false 1 ((shQ P B S x (k - a)).map eS))]⟩)) (fun k=>a≤k∧k≤w) (fun k=>w - k) a ⟨Nat.le_refl _,by omega⟩ (by rw[Nat.sub_self,hD];exact(.mk [] [] zz20 zz21 rfl rfl rfl)) ?_
  rintro k ⟨hk1,hk2⟩
  simp only at hk1 hk2 ⊢
  refine .seq (.sr ?_)
  refine .cs ?_ ?_<;>intro c58
  ·try simp at c58
   have hkq:k - a<B.length:=by omega
   have hw6:=wr1 k
   have hEl:=zqh P B S x (k - a)
   have hgE1:=z1g (P:=P) (B:=B) (R:=S) (x:=x) (q:=k - a) (by omega)
   have hgE2:=xe0 (P:=P) (B:=B) (R:=S) (x:=x) hkq
   have hst:=z2y (P:=P) (B:=B) (R:=S) (x:=x) hkq
   rw[show P.length+(k - a)=k by omega] at hgE1 hgE2 hst
   rw[show k - a+1=k+1 - a by omega] at hst
   obtain⟨y,hy⟩:∃y,B[k - a]=y:=⟨_,rfl⟩
   rw[hy] at hgE2 hst
   obtain⟨E,hE⟩:∃E,shQ P B S x (k - a)=E:=⟨_,rfl⟩
   rw[hE] at hEl hgE1 hgE2 hst ⊢
   obtain⟨hk1D,hgE1'⟩:=List.getElem?_eq_some_iff.1 hgE1
   obtain⟨hk2D,hgE2'⟩:=List.getElem?_eq_some_iff.1 hgE2
   have hkm:k<mm:=by omega
   have hkm2:k+1<mm:=by omega
   have hkm3:(0:Int)≤(k:Int)+1:=by omega
   have hkm4:(k:Int)+1<(mm:Int):=by omega
   have hset1:=zhp hk1D y
   obtain⟨E1,hE1⟩:∃E1,E.set k y=E1:=⟨_,rfl⟩
   have hE1l:E1.length=E.length:=by rw[← hE1];simp
   rw[hE1] at hset1 hst
   have hk2E:k+1<E1.length:=by omega
   have hset2:=zhp hk2E x
   rw[hst] at hset2
   have hb4:k+1≤E.length:=by omega
   have hb7:k+1+1≤E1.length:=by omega
   clear hEl hE1l hy hE hE1 hst hD hDl hgB h4 h5
   refine .skip (.seq (.block ?_))
   refine .drawn (ms:=[0,0,0,0,8,0,0,64,224,480,0,0,3072,7168,16355,32739,65535,131071]) (W:=[15,17]) (items:=[.op 0,.op 1,.op 2,.op 3,.op 4,.op 5,.op 6,.op 7,.op 8,.op 9,.op 10,.op 11,.op 12,.op 13,.op 14,.op 15,.op 16,.op 17]) rfl zz0 zz0 zz0 ?_
   iterate 15 refine .rx ?_
   refine .wv ?_
   refine .rx ?_
   refine .wv ?_
   refine .done (.rn ?_)
   refine⟨k+1,⟨by omega,by omega⟩,by omega,(.mk [] [] zz20 zz21 rfl rfl rfl)⟩
  try simp at c58
  have hkw:k=w∨k=a:=by omega
  have hfin:k - a=j - m:=by omega
  refine .exit (.ret ?_)
  refine⟨_,zz4,rfl,B.take (j - m)++(x::B.drop (j - m)),?_,?_,?_⟩
  ·exact List.perm_middle.trans (by rw[List.take_append_drop])
  ·exact zg6 hB (h4.imp (fun h=>by omega) fun h=>h) h5
  rw[hfin];unfold shQ;simp
 try simp at c28
theorem zzk {P B R:List (List Int)}{x:List Int}{q:Nat}(h:q<B.length):((shQ P B R x (q+1)).set (P.length+q+1) B[q]).set (P.length+q) x=shQ P B R x q:=by
 unfold shQ
 have ht:(B.take (q+1)).length=q+1:=by rw[List.length_take];omega
 have ht2:(B.take q).length=q:=by rw[List.length_take];omega
 rw[List.set_append_right _ _ (by omega),List.set_append_right _ _ (by omega),show P.length+q - P.length=q by omega,show P.length+q+1 - P.length=q+1 by omega,
  List.set_append_right _ _ (by omega),ht,Nat.sub_self,List.set_cons_zero,List.take_succ_eq_append_getElem h,List.append_assoc,List.set_append_right _ _ (by omega),ht2,Nat.sub_self]
 rw[List.drop_eq_getElem_cons h]
 rfl
theorem z9d {P B R:List (List Int)}{x:List Int}{q j:Nat}(h:q≤B.length)(hj:j<q):(shQ P B R x q)[P.length+j]?=B[j]?:=by
 unfold shQ
 rw[List.getElem?_append_right (by omega),List.getElem?_append_left (by rw[List.length_take];omega),List.getElem?_take,show P.length+j - P.length=j by omega,if_pos hj]
theorem xd3 (P B S:List (List Int))(x:List Int)(mm a m b:Nat)(ha:P.length=a)(ham:a+B.length=m)(hB2:2≤B.length)(hmb:m+1=b)(hbm:b≤mm)(hmm:mm≤b+S.length)(hl:b+S.length<4294967296)(hB:LenS B)(hx:x.length<4294967296)(hBl:∀y∈B,y.length<4294967296):zbj prog 219 [.sub 0 0 mm,.int .i64 a,.int .i64 m,.int .i64 b,.func 184 [] []] ⟨3,[(0,.arr false 1 ((shQ P B S x B.length).map eS))]⟩ fun v vh'=>v=.tup []∧∃O,O.Perm (x::B)∧LenS O∧vh'.get 0=some (.arr false 1 ((P++(O++S)).map eS)):=by
 obtain⟨la,hla⟩:∃la,B.length=la:=⟨_,rfl⟩
 have hla1:¬(la:Int)=1:=by omega
 have hla2:¬la=1:=by omega
 have hw0:IntKind.i64.wrap ((m:Int) - (a:Int))=(la:Int):=by rw[wrap64 (by omega) (by omega)];omega
 have hwb:IntKind.i64.wrap ((b:Int) - (m:Int))=1:=by rw[wrap64 (by omega) (by omega)];omega
 have hDl:=zqh P B S x B.length
 have hgx:=z1g (P:=P) (B:=B) (R:=S) (x:=x) (q:=B.length) (Nat.le_refl _)
 rw[ha,ham] at hgx
 have hgB:∀j,j<B.length→(shQ P B S x B.length)[a+j]?=B[j]?:=fun j hj=>by rw[← ha];exact z9d (Nat.le_refl _) hj
 rw[hla] at hDl hgx
 rw[hla]
 rw[hla] at hgB
 obtain⟨D,hD⟩:∃D,shQ P B S x la=D:=⟨_,rfl⟩
 rw[hD] at hDl hgx hgB ⊢
 obtain⟨haD,hgx2⟩:=List.getElem?_eq_some_iff.1 hgx
 have ham2:m<mm:=by omega
 refine .zah func219 rfl rfl ?_
 refine .seq (.sr ?_)
 refine .cs ?_ ?_<;>intro c28
 ·try simp at c28
  exact absurd c28 hla1
 try simp at c28
 refine .skip (.seq (.sr ?_))
 refine .cs ?_ ?_<;>intro c80
 ·try simp at c80
  refine .sr ?_
  refine .sr ?_
  refine .seq (.block ?_)
  refine .zco (fun st:Nat×Nat=>([(0,.sub 0 0 mm),(2,.int .i64 m),(4,.func 184 [] []),(14,.int .i64 st.1),(15,.int .i64 st.2)],⟨3,[(0,.arr false 1 (D.map eS))]⟩)) (fun st=>a≤st.1∧st.1≤st.2∧st.2≤m∧(st.1=a∨∃y,B[st.1 - a - 1]?=some y∧y.length≤x.length)∧∀y,B[st.2 - a]?=some y→x.length≤y.length) (fun st=>st.2 - st.1) (a,m) ⟨Nat.le_refl _,by simp only;omega,Nat.le_refl _,.inl rfl,fun y hy=>by simp only at hy;rw[List.getElem?_eq_none (by omega)] at hy;cases hy⟩ (.mk [] [] zz20 zz21 rfl rfl rfl) ?_
  rintro⟨i,j⟩ ⟨h1,h2,h3,h4,h5⟩
  simp only at h1 h2 h3 h4 h5 ⊢
  refine .seq (.sr ?_)
  refine .cs ?_ ?_<;>intro c85
  ·try simp at c85
   have hij:i<j:=by omega
   have hw1:IntKind.i64.wrap ((i:Int)+(j:Int))=(i:Int)+(j:Int):=wrap64 (by omega) (by omega)
   have hw2:IntKind.u64.wrap ((i:Int)+(j:Int))=(i:Int)+(j:Int):=zkg (by omega) (by omega)
   have hbits:IntKind.u64.bits=64:=rfl
   obtain⟨h,hm,hm1,hm2⟩:∃h:Nat,((i:Int)+(j:Int)).fdiv 2=(h:Int)∧i≤h∧h<j:=⟨(i+j) / 2,by rw[Int.fdiv_eq_ediv_of_nonneg _ (by omega)];omega,by omega,by omega⟩
   have hw3:IntKind.i64.wrap (h:Int)=(h:Int):=wrap64 (by omega) (by omega)
   have hw4:=wr1 h
   have hhm:h<mm:=by omega
   have hhB:h - a<B.length:=by omega
   have hgy:=hgB (h - a) (by omega)
   rw[show a+(h - a)=h by omega,List.getElem?_eq_getElem hhB] at hgy
   obtain⟨y,hy⟩:∃y,B[h - a]=y:=⟨_,rfl⟩
   rw[hy] at hgy
   have hyB:B[h - a]?=some y:=by rw[List.getElem?_eq_getElem hhB,hy]
   obtain⟨hhD,hgy2⟩:=List.getElem?_eq_some_iff.1 hgy
   have hyl:y.length<4294967296:=hBl y (List.mem_of_getElem? hyB)
   obtain⟨v,hv⟩:∃v,(x.length:Int) - (y.length:Int)=v:=⟨_,rfl⟩
   have h184:=zym x y hx hyl
   rw[hv] at h184
   clear hy
   refine .skip (.block (.sr ?_))
   refine .seq ?_
   refine .drawn (ms:=[0,0,0,6,14,0,0,96,224,511,1023,2047]) (W:=[9]) (items:=[.op 0,.op 1,.op 2,.op 3,.op 4,.op 5,.op 6,.op 7,.op 8,.op 9,.op 10,.op 11]) rfl zz0 zz0 zz0 ?_
   iterate 9 refine .rx ?_
   refine .wp rfl rfl rfl rfl rfl call184 (h184) ?_
   iterate 2 refine .rx ?_
   refine .done ?_
   refine .cs ?_ ?_<;>intro c103
   ·try simp at c103
    refine .rn ?_
    refine⟨(h+1,j),⟨by simp only;omega,by simp only;omega,h3,.inr ⟨y,by simp only;rw[show h+1 - a - 1=h - a by omega];exact hyB,by omega⟩,h5⟩,by simp only;omega,(.mk [] [] zz20 zz21 rfl rfl rfl)⟩
   try simp at c103
   refine .rn ?_
   refine⟨(i,h),⟨h1,by simp only;omega,by simp only;omega,h4,fun z hz=>by simp only at hz;rw[hyB] at hz;cases hz;omega⟩,by simp only;omega,(.mk [] [] zz20 zz21 rfl rfl rfl)⟩
  try simp at c85
  obtain rfl:j=i:=by omega
  refine .exit (.seq (.sr ?_))
  refine .block ?_
  refine .zco (fun k:Nat=>([(0,.sub 0 0 mm),(14,.int .i64 j),(17,.int .i64 k)],⟨3,[(0,.arr false 1 ((shQ P B S x (k - a)).map eS))]⟩)) (fun k=>j≤k∧k≤m) (fun k=>k) m ⟨h3,Nat.le_refl _⟩ (by rw[show m - a=la by omega,hD];exact(.mk [] [] zz20 zz21 rfl rfl rfl)) ?_
  rintro k ⟨hk1,hk2⟩
  simp only at hk1 hk2 ⊢
  refine .seq (.sr ?_)
  refine .cs ?_ ?_<;>intro c110
  ·try simp at c110
   obtain⟨n,rfl⟩:∃n,k=n+1:=⟨k - 1,by omega⟩
   have hkq:n - a<B.length:=by omega
   have hw6:IntKind.i64.wrap (((n:Int)+1) - 1)=(n:Int):=by rw[wrap64 (by omega) (by omega)];omega
   have hw7:IntKind.i64.wrap (n:Int)=(n:Int):=wrap64 (by omega) (by omega)
   have hEl:=zqh P B S x (n - a+1)
   have hgE1:=z1g (P:=P) (B:=B) (R:=S) (x:=x) (q:=n - a+1) (by omega)
   have hgE2:=z9d (P:=P) (B:=B) (R:=S) (x:=x) (q:=n - a+1) (j:=n - a) (by omega) (by omega)
   have hst:=zzk (P:=P) (B:=B) (R:=S) (x:=x) hkq
   rw[show P.length+(n - a+1)=n+1 by omega] at hgE1
   rw[show P.length+(n - a)=n by omega] at hgE2 hst
   rw[List.getElem?_eq_getElem hkq] at hgE2
   obtain⟨y,hy⟩:∃y,B[n - a]=y:=⟨_,rfl⟩
   rw[hy] at hgE2 hst
   rw[show n+1 - a=n - a+1 by omega]
   obtain⟨E,hE⟩:∃E,shQ P B S x (n - a+1)=E:=⟨_,rfl⟩
   rw[hE] at hEl hgE1 hgE2 hst ⊢
   obtain⟨hk1D,hgE1'⟩:=List.getElem?_eq_some_iff.1 hgE1
   obtain⟨hk2D,hgE2'⟩:=List.getElem?_eq_some_iff.1 hgE2
   have hkm:n<mm:=by omega
   have hkm2:n+1<mm:=by omega
   have hkm3:(0:Int)≤(n:Int)+1:=by omega
   have hkm4:(n:Int)+1<(mm:Int):=by omega
   have hset1:=zhp hk1D y
   obtain⟨E1,hE1⟩:∃E1,E.set (n+1) y=E1:=⟨_,rfl⟩
   have hE1l:E1.length=E.length:=by rw[← hE1];simp
   rw[hE1] at hset1 hst
   have hk2E:n<E1.length:=by omega
   have hset2:=zhp hk2E x
   rw[hst] at hset2
   have hb4:n+1+1≤E.length:=by omega
   have hb7:n+1≤E1.length:=by omega
   clear hEl hE1l hy hE hE1 hst hD hDl hgB h4 h5
   refine .skip (.seq (.block ?_))
   refine .drawn (ms:=[0,0,0,0,8,0,0,64,224,480,0,0,3072,7168,16355,32739,65535,131071]) (W:=[15,17]) (items:=[.op 0,.op 1,.op 2,.op 3,.op 4,.op 5,.op 6,.op 7,.op 8,.op 9,.op 10,.op 11,.op 12,.op 13,.op 14,.op 15,.op 16,.op 17]) rfl zz0 zz0 zz0 ?_
   iterate 15 refine .rx ?_
   refine .wv ?_
   refine .rx ?_
   refine .wv ?_
   refine .done (.rn ?_)
   refine⟨n,⟨by omega,by omega⟩,by omega,(.mk [] [] zz20 zz21 rfl rfl rfl)⟩
  try simp at c110
  obtain rfl:k=j:=by omega
  refine .exit (.ret ?_)
  refine⟨_,zz4,rfl,B.take (k - a)++(x::B.drop (k - a)),?_,?_,?_⟩
  ·exact List.perm_middle.trans (by rw[List.take_append_drop])
  ·exact zg6 hB (h4.imp (fun h=>by omega) fun h=>h) h5
  unfold shQ;simp
 try simp at c80
theorem z9w (D Y P L R S:List (List Int))(hD:P++(L++(R++S))=D)(hY:P++(R++(L++S))=Y)(mm a m b:Nat)(ha:P.length=a)(hLm:a+L.length=m)(hRb:m+R.length=b)(hL0:0<L.length)(hR0:0<R.length)(hbm:b≤mm)(hmm:mm≤b+S.length)(hl:b+S.length<4294967296):zbj prog 226 [.sub 0 0 mm,.int .i64 a,.int .i64 m,.int .i64 b,.func 184 [] []] ⟨3,[(0,.arr false 1 (D.map eS))]⟩ fun v vh'=>v=.tup []∧∃n,vh'=⟨n,[(0,.arr false 1 (Y.map eS))]⟩:=by
 subst hD;subst hY
 exact zbj.only (p226 P L R S mm a m b ha hLm hRb hL0 hR0 hbm hmm hl) fun v vh' ⟨h1,h2⟩=>⟨_,zvf h2,rfl,h1,_,rfl⟩
def z7o (mm N:Nat):Prop:=∀(D P A B S:List (List Int)) (a m b:Nat),P++(A++(B++S))=D→A.length+B.length<N→P.length=a→a+A.length=m→m+B.length=b→b≤mm→mm≤b+S.length→b+S.length<4294967296→0<A.length→0<B.length→LenS A→LenS B→(∀y∈A,y.length<4294967296)→(∀y∈B,y.length<4294967296)→
 zbj prog 219 [.sub 0 0 mm,.int .i64 a,.int .i64 m,.int .i64 b,.func 184 [] []] ⟨3,[(0,.arr false 1 (D.map eS))]⟩ fun v vh'=>v=.tup []∧∃O Y n,O.Perm (A++B)∧LenS O∧P++(O++S)=Y∧vh'=⟨n,[(0,.arr false 1 (Y.map eS))]⟩
theorem zzp {A B:List (List Int)}(hA:LenS A)(hB:LenS B){p q:Nat}(h:p=0∨B.length≤q∨(0<p∧∃x y,A[p - 1]?=some x∧B[q]?=some y∧x.length≤y.length)):∀a∈A.take p,∀b∈B.drop q,a.length≤b.length:=by
 intro a ha b hb
 rcases h with rfl|h|⟨h0,x,y,hx,hy,hxy⟩
 ·simp at ha
 ·rw[List.drop_eq_nil_of_le h] at hb;cases hb
 obtain⟨hp,rfl⟩:=List.getElem?_eq_some_iff.1 hx
 obtain⟨hq,rfl⟩:=List.getElem?_eq_some_iff.1 hy
 obtain⟨i,hi,rfl⟩:=List.mem_iff_getElem.1 ha
 obtain⟨j,hj,rfl⟩:=List.mem_iff_getElem.1 hb
 rw[List.getElem_take,List.getElem_drop]
 rw[List.length_take] at hi
 rw[List.length_drop] at hj
 have h1:A[i].length≤A[p - 1].length:=by
  rcases (show i=p - 1∨i<p - 1 by omega) with rfl|h
  ·exact Nat.le_refl _
  exact(List.pairwise_iff_getElem.1 hA) i (p - 1) (by omega) (by omega) h
 have h2:B[q].length≤B[q+j].length:=by
  rcases Nat.eq_zero_or_pos j with rfl|h
  ·exact Nat.le_refl _
  exact(List.pairwise_iff_getElem.1 hB) q (q+j) (by omega) (by omega) (by omega)
 omega
theorem zap {A1 A2 B1 B2 O1 O2:List (List Int)}(h1:O1.Perm (A1++B1))(h2:O2.Perm (A2++B2)):(O1++O2).Perm ((A1++A2)++(B1++B2)):=by
 rw[List.perm_iff_count]
 intro x
 have e1:=(List.perm_iff_count.1 h1) x
 have e2:=(List.perm_iff_count.1 h2) x
 simp only[List.count_append] at e1 e2 ⊢
 omega
theorem zag {A1 A2 B1 B2 O1 O2:List (List Int)}(h1:O1.Perm (A1++B1))(h2:O2.Perm (A2++B2))(s1:LenS O1)(s2:LenS O2)(hA:LenS (A1++A2))(hB:LenS (B1++B2))(h12:∀a∈A1,∀b∈B2,a.length≤b.length)(h21:∀b∈B1,∀a∈A2,b.length≤a.length):LenS (O1++O2):=by
 unfold LenS at *
 rw[List.pairwise_append] at hA hB ⊢
 refine⟨s1,s2,fun x hx y hy=>?_⟩
 rcases List.mem_append.1 (h1.mem_iff.1 hx) with hx|hx<;>rcases List.mem_append.1 (h2.mem_iff.1 hy) with hy|hy
 ·exact hA.2.2 x hx y hy
 ·exact h12 x hx y hy
 ·exact h21 x hx y hy
 exact hB.2.2 x hx y hy
end Go.Am.Ds
end
section
namespace Go.Am.Ds
open Go Go.Am Go.Proofs Tryz
attribute [local simp] vrun zaz zbg vop vopA zb2 zab.back hidI hidF zdh bm Nat.testBit_eq_decide_div_mod_eq za6 zbo zb4 vO zbc vlen zbs zbz zd2 zaq zak zcj vbox zbe zdu zby zge zdt zcm zau zcn zav zcl zbf zci zbr zbl vbnd zcz vidx zbp zdk zar zbt zct zdj zd9 zd6 vbin vsc vsc1 vscs vscl zbv aint zb3 zdl za8 zcx zd0 pvcV pvc pvcs tput tget zdd zab.get zab.alloc zab.put zab.drop zab.empty zce vput zdi zbb zca zda chunk List.range List.range.loop za0 zbu za1 frz frzL PV.isF PV.allF PV.scal PV.allS retP subT zds PV.one PV.ids PV.idsL zcc beq_eq zbw zbx
attribute [local simp ↓ high] zi2
attribute [local simp] zW tup2
theorem xdj (D P A B S:List (List Int))(mm a m b:Nat)(hD:P++(A++(B++S))=D)(ih:z7o mm (A.length+B.length))(ha:P.length=a)(ham:a+A.length=m)(hmb:m+B.length=b)(hA2:2≤A.length)(hB2:2≤B.length)(hbm:b≤mm)(hmm:mm≤b+S.length)(hl:b+S.length<4294967296)(hA:LenS A)(hB:LenS B)(hAl:∀y∈A,y.length<4294967296)(hBl:∀y∈B,y.length<4294967296):zbj prog 219 [.sub 0 0 mm,.int .i64 a,.int .i64 m,.int .i64 b,.func 184 [] []] ⟨3,[(0,.arr false 1 (D.map eS))]⟩ fun v vh'=>v=.tup []∧∃O,O.Perm (A++B)∧LenS O∧vh'.get 0=some (.arr false 1 ((P++(O++S)).map eS)):=by
 obtain⟨la,hla⟩:∃la,A.length=la:=⟨_,rfl⟩
 obtain⟨lb,hlb⟩:∃lb,B.length=lb:=⟨_,rfl⟩
 have hla1:¬(la:Int)=1:=by omega
 have hlb1:¬(lb:Int)=1:=by omega
 have hla2:¬la=1:=by omega
 have hlb2:¬lb=1:=by omega
 have hw0:IntKind.i64.wrap ((m:Int) - (a:Int))=(la:Int):=by rw[wrap64 (by omega) (by omega)];omega
 have hwb:IntKind.i64.wrap ((b:Int) - (m:Int))=(lb:Int):=by rw[wrap64 (by omega) (by omega)];omega
 have hgA:∀j,j<A.length→D[a+j]?=A[j]?:=fun j hj=>by
  rw[← hD,List.getElem?_append_right (by omega),List.getElem?_append_left (by omega),show a+j - P.length=j by omega]
 have hgB:∀j,j<B.length→D[m+j]?=B[j]?:=fun j hj=>by
  rw[← hD,List.getElem?_append_right (by omega),List.getElem?_append_right (by omega),List.getElem?_append_left (by omega),show m+j - P.length - A.length=j by omega]
 have hw1:IntKind.i64.wrap ((a:Int)+(b:Int))=(a:Int)+(b:Int):=wrap64 (by omega) (by omega)
 have hw2:IntKind.u64.wrap ((a:Int)+(b:Int))=(a:Int)+(b:Int):=zkg (by omega) (by omega)
 have hbits:IntKind.u64.bits=64:=rfl
 obtain⟨mid,hmid,hmid2,hmid3⟩:∃mid:Nat,((a:Int)+(b:Int)).fdiv 2=(mid:Int)∧2*mid≤a+b∧a+b≤2*mid+1:=⟨(a+b) / 2,by rw[Int.fdiv_eq_ediv_of_nonneg _ (by omega)];omega,by omega,by omega⟩
 have hw3:IntKind.i64.wrap (mid:Int)=(mid:Int):=wrap64 (by omega) (by omega)
 obtain⟨nn,hnn⟩:∃nn,mid+m=nn:=⟨_,rfl⟩
 have hw4:IntKind.i64.wrap ((mid:Int)+(m:Int))=(nn:Int):=by rw[wrap64 (by omega) (by omega)];omega
 obtain⟨pp,hpp⟩:∃pp,pp+1=nn:=⟨nn - 1,by omega⟩
 have hw5:IntKind.i64.wrap ((nn:Int) - 1)=(pp:Int):=by rw[wrap64 (by omega) (by omega)];omega
 have hDl:D.length=b+S.length:=by rw[← hD];simp only[List.length_append];omega
 refine .zah func219 rfl rfl ?_
 refine .seq (.sr ?_)
 refine .cs ?_ ?_<;>intro c28
 ·try simp at c28
  exact absurd c28 hla1
 try simp at c28
 refine .skip (.seq (.sr ?_))
 refine .cs ?_ ?_<;>intro c80
 ·try simp at c80
  exact absurd c80 hlb1
 try simp at c80
 refine .skip (.sr ?_)
 refine .sr ?_
 refine .sr ?_
 refine .seq (.sr ?_)
 refine .cs ?_ ?_<;>intro c140
 ·try simp at c140
  obtain⟨s0,hs0⟩:∃s0,nn - b=s0:=⟨_,rfl⟩
  have hw6:IntKind.i64.wrap ((nn:Int) - (b:Int))=(s0:Int):=by rw[wrap64 (by omega) (by omega)];omega
  obtain⟨r0,hr0⟩:∃r0,mid=r0:=⟨_,rfl⟩
  have hF:a≤s0∧s0≤r0∧r0≤m∧r0≤mid∧nn≤s0+b∧(s0=a∨nn=s0+b)∧(r0=m∨r0=mid):=by omega
  refine .sr ?_
  refine .rn ?_
  refine .sr ?_
  refine .seq (.block ?_)
  refine .zco (fun st:Nat×Nat=>([(0,.sub 0 0 mm),(1,.int .i64 a),(2,.int .i64 m),(3,.int .i64 b),(4,.func 184 [] []),(18,.int .i64 mid),(19,.int .i64 nn),(20,.int .i64 st.1),(21,.int .i64 st.2),(22,.int .i64 pp)],⟨3,[(0,.arr false 1 (D.map eS))]⟩)) (fun st=>s0≤st.1∧st.1≤st.2∧st.2≤r0∧(st.1=s0∨∃x y,A[st.1 - a - 1]?=some x∧B[mid - st.1]?=some y∧x.length≤y.length)∧(st.2=r0∨∃x y,B[mid - st.2 - 1]?=some x∧A[st.2 - a]?=some y∧x.length≤y.length)) (fun st=>st.2 - st.1) (s0,r0) ⟨Nat.le_refl _,by simp only;omega,Nat.le_refl _,.inl rfl,.inl rfl⟩ (by rw[← hr0];exact(.mk [] [] zz20 zz21 rfl rfl rfl)) ?_
  rintro⟨s,r⟩ ⟨h1,h2,h3,h4,h5⟩
  simp only at h1 h2 h3 h4 h5 ⊢
  clear hs0 hr0
  refine .seq (.sr ?_)
  refine .cs ?_ ?_<;>intro c151
  ·try simp at c151
   have hsr:s<r:=by omega
   have hv1:IntKind.i64.wrap ((s:Int)+(r:Int))=(s:Int)+(r:Int):=wrap64 (by omega) (by omega)
   have hv2:IntKind.u64.wrap ((s:Int)+(r:Int))=(s:Int)+(r:Int):=zkg (by omega) (by omega)
   obtain⟨c,hc,hc1,hc2⟩:∃c:Nat,((s:Int)+(r:Int)).fdiv 2=(c:Int)∧s≤c∧c<r:=⟨(s+r) / 2,by rw[Int.fdiv_eq_ediv_of_nonneg _ (by omega)];omega,by omega,by omega⟩
   have hv3:IntKind.i64.wrap (c:Int)=(c:Int):=wrap64 (by omega) (by omega)
   have hv4:=wr1 c
   obtain⟨e,he⟩:∃e,pp - c=e:=⟨_,rfl⟩
   have hv5:IntKind.i64.wrap ((pp:Int) - (c:Int))=(e:Int):=by rw[wrap64 (by omega) (by omega)];omega
   have hcA:c - a<A.length:=by omega
   have heB:mid - 1 - c<B.length:=by omega
   have hgx:=hgA (c - a) hcA
   have hgy:=hgB (mid - 1 - c) heB
   rw[show a+(c - a)=c by omega,List.getElem?_eq_getElem hcA] at hgx
   rw[show m+(mid - 1 - c)=e by omega,List.getElem?_eq_getElem heB] at hgy
   obtain⟨x,hx⟩:∃x,A[c - a]=x:=⟨_,rfl⟩
   obtain⟨y,hy⟩:∃y,B[mid - 1 - c]=y:=⟨_,rfl⟩
   rw[hx] at hgx
   rw[hy] at hgy
   have hxA:A[c - a]?=some x:=by rw[List.getElem?_eq_getElem hcA,hx]
   have hyB:B[mid - 1 - c]?=some y:=by rw[List.getElem?_eq_getElem heB,hy]
   obtain⟨hcD,hgx2⟩:=List.getElem?_eq_some_iff.1 hgx
   obtain⟨heD,hgy2⟩:=List.getElem?_eq_some_iff.1 hgy
   have hcm:c<mm:=by omega
   have hem:e<mm:=by omega
   have hxl:x.length<4294967296:=hAl x (List.mem_of_getElem? hxA)
   have hyl:y.length<4294967296:=hBl y (List.mem_of_getElem? hyB)
   obtain⟨v,hv⟩:∃v,(y.length:Int) - (x.length:Int)=v:=⟨_,rfl⟩
   have h184:=zym y x hyl hxl
   rw[hv] at h184
   clear hx hy hgA hgB hD
   refine .skip (.block (.sr ?_))
   refine .seq ?_
   refine .drawn (ms:=[0,0,0,0,12,30,62,0,0,384,896,2047,4095,8191]) (W:=[11]) (items:=[.op 0,.op 1,.op 2,.op 3,.op 4,.op 5,.op 6,.op 7,.op 8,.op 9,.op 10,.op 11,.op 12,.op 13]) rfl zz0 zz0 zz0 ?_
   iterate 11 refine .rx ?_
   refine .wp rfl rfl rfl rfl rfl call184 (h184) ?_
   iterate 2 refine .rx ?_
   refine .done ?_
   refine .cs ?_ ?_<;>intro c171
   ·try simp at c171
    have hk:s0≤c+1∧c+1≤r∧r≤r0∧(c+1=s0∨∃x y,A[c+1 - a - 1]?=some x∧B[mid - (c+1)]?=some y∧x.length≤y.length):=⟨by omega,by omega,h3,.inr ⟨x,y,by rw[show c+1 - a - 1=c - a by omega];exact hxA,by rw[show mid - (c+1)=mid - 1 - c by omega];exact hyB,by omega⟩⟩
    refine .rn ?_
    refine⟨(c+1,r),⟨hk.1,hk.2.1,hk.2.2.1,hk.2.2.2,h5⟩,by simp only;omega,(.mk [] [] zz20 zz21 rfl rfl rfl)⟩
   try simp at c171
   have hk:s0≤s∧s≤c∧c≤r0∧(c=r0∨∃x y,B[mid - c - 1]?=some x∧A[c - a]?=some y∧x.length≤y.length):=⟨h1,hc1,by omega,.inr ⟨y,x,by rw[show mid - c - 1=mid - 1 - c by omega];exact hyB,hxA,by omega⟩⟩
   refine .rn ?_
   refine⟨(s,c),⟨hk.1,hk.2.1,hk.2.2.1,h4,hk.2.2.2⟩,by simp only;omega,(.mk [] [] zz20 zz21 rfl rfl rfl)⟩
  try simp at c151
  obtain rfl:r=s:=by omega
  obtain⟨en,hen⟩:∃en,nn - r=en:=⟨_,rfl⟩
  have hv6:IntKind.i64.wrap ((nn:Int) - (r:Int))=(en:Int):=by rw[wrap64 (by omega) (by omega)];omega
  have hcut1:=zzp (p:=r - a) (q:=mid - r) hA hB (by
   rcases h4 with h4|h4
   ·rcases hF.2.2.2.2.2.1 with h|h
    ·exact .inl (by omega)
    exact .inr (.inl (by omega))
   by_cases h0:r - a=0
   ·exact .inl h0
   exact .inr (.inr ⟨by omega,h4⟩))
  have hcut2:=zzp (p:=mid - r) (q:=r - a) hB hA (by
   rcases h5 with h5|h5
   ·rcases hF.2.2.2.2.2.2 with h|h
    ·exact .inr (.inl (by omega))
    exact .inl (by omega)
   by_cases h0:mid - r=0
   ·exact .inl h0
   exact .inr (.inr ⟨by omega,h5⟩))
  obtain⟨A1,hA1⟩:∃A1,A.take (r - a)=A1:=⟨_,rfl⟩
  obtain⟨A2,hA2e⟩:∃A2,A.drop (r - a)=A2:=⟨_,rfl⟩
  obtain⟨B1,hB1⟩:∃B1,B.take (mid - r)=B1:=⟨_,rfl⟩
  obtain⟨B2,hB2e⟩:∃B2,B.drop (mid - r)=B2:=⟨_,rfl⟩
  have hAe:A=A1++A2:=by rw[← hA1,← hA2e,List.take_append_drop]
  have hBe:B=B1++B2:=by rw[← hB1,← hB2e,List.take_append_drop]
  have hA1l:A1.length=r - a:=by rw[← hA1,List.length_take];omega
  have hA2l:A2.length=m - r:=by rw[← hA2e,List.length_drop];omega
  have hB1l:B1.length=mid - r:=by rw[← hB1,List.length_take];omega
  have hB2l:B2.length=b - en:=by rw[← hB2e,List.length_drop];omega
  rw[hA1,hB2e] at hcut1
  rw[hB1,hA2e] at hcut2
  have hDe:(P++A1)++(A2++(B1++(B2++S)))=D:=by rw[← hD,hAe,hBe];simp only[List.append_assoc]
  obtain⟨X,hX⟩:∃X,(P++A1)++(B1++(A2++(B2++S)))=X:=⟨_,rfl⟩
  have hPA:(P++A1).length=r:=by rw[List.length_append];omega
  have hSS:(B2++S).length=b - en+S.length:=by rw[List.length_append];omega
  have hS3:(A2++(B2++S)).length=m - r+(b - en)+S.length:=by rw[List.length_append];omega
  have hX2:P++(A1++(B1++(A2++(B2++S))))=X:=by rw[← hX];simp only[List.append_assoc]
  have sA:=hA
  have sB:=hB
  rw[hAe] at sA
  rw[hBe] at sB
  have sA1:LenS A1:=hA1▸hA.sublist (List.take_sublist _ _)
  have sA2:LenS A2:=hA2e▸hA.sublist (List.drop_sublist _ _)
  have sB1:LenS B1:=hB1▸hB.sublist (List.take_sublist _ _)
  have sB2:LenS B2:=hB2e▸hB.sublist (List.drop_sublist _ _)
  have lA1:∀y∈A1,y.length<4294967296:=fun y hy=>hAl y (hAe▸List.mem_append_left _ hy)
  have lA2:∀y∈A2,y.length<4294967296:=fun y hy=>hAl y (hAe▸List.mem_append_right _ hy)
  have lB1:∀y∈B1,y.length<4294967296:=fun y hy=>hBl y (hBe▸List.mem_append_left _ hy)
  have lB2:∀y∈B2,y.length<4294967296:=fun y hy=>hBl y (hBe▸List.mem_append_right _ hy)
  clear hgA hgB hA1 hA2e hB1 hB2e h4 h5 hD hla1 hlb1 hw0 hwb hw1 hw2 hbits hmid hw3 hw4 hw5
  refine .exit (.sr ?_)
  refine .seq (.seq ?_)
  refine .zac [0,1,2,3,4,5,6,7] rfl zz0 ?_
  refine .rn [0,1,2,3] _ ?_
  refine .split (t:=181) rfl (fun c181=>?_) (fun c181=>?_)
  ·try rw[c181]
   try simp at c181
   refine .rn [4,5,6,7] [] ?_
   refine .done ?_
   refine .cs ?_ ?_<;>intro c185
   ·try simp at c185
    have q226:=z9w D X (P++A1) A2 B1 (B2++S) hDe hX mm r m en hPA (by omega) (by omega) (by omega) (by omega) (by omega) (by omega) (by omega)
    refine .zac [0,1,2,3,4,5] rfl zz0 ?_
    refine .rn [0,1,2,3,4] _ ?_
    refine .step rfl rfl (.call rfl rfl rfl call226 (by decide) (((q226)).mono ?_))
    rintro _ _ ⟨rfl,n0,rfl⟩
    refine .done (.seq (.seq ?_))
    refine .rec (vts2:=[(0,.sub 0 0 mm),(1,.int .i64 a),(2,.int .i64 m),(3,.int .i64 b),(4,.func 184 [] []),(18,.int .i64 mid),(20,.int .i64 r),(24,.int .i64 en)]) (vh2:=⟨3,[(0,.arr false 1 (X.map eS))]⟩) (.mk [] [] zz20 zz21 rfl rfl rfl) ?_
    refine .zac [0,1,2,3,4,5,6,7] rfl zz0 ?_
    refine .rn [0,1,2,3] _ ?_
    refine .split (t:=195) rfl (fun c195=>?_) (fun c195=>?_)
    ·try rw[c195]
     try simp at c195
     refine .rn [4,5,6,7] [] ?_
     refine .done ?_
     refine .cs ?_ ?_<;>intro c199
     ·try simp at c199
      have qs:=ih X P A1 B1 (A2++(B2++S)) a r mid hX2 (by omega) ha (by omega) (by omega) (by omega) (by omega) (by omega) (by omega) (by omega) sA1 sB1 lA1 lB1
      refine .zac [0,1,2,3,4,5] rfl zz0 ?_
      refine .rn [0,1,2,3,4] _ ?_
      refine .step rfl rfl (.call rfl rfl rfl call219 (by decide) (((qs)).mono ?_))
      rintro _ _ ⟨rfl,O,Y,n1,hOp,hOs,hOY,rfl⟩
      refine .done (.seq ?_)
      refine .rec (vts2:=[(0,.sub 0 0 mm),(3,.int .i64 b),(4,.func 184 [] []),(18,.int .i64 mid),(24,.int .i64 en)]) (vh2:=⟨3,[(0,.arr false 1 (Y.map eS))]⟩) (.mk [] [] zz20 zz21 rfl rfl rfl) ?_
      refine .zac [0,1,2,3,4,5,6,7] rfl zz0 ?_
      refine .rn [0,1,2,3] _ ?_
      refine .split (t:=209) rfl (fun c209=>?_) (fun c209=>?_)
      ·try rw[c209]
       try simp at c209
       refine .rn [4,5,6,7] [] ?_
       refine .done ?_
       refine .cs ?_ ?_<;>intro c213
       ·try simp at c213
        have h1p:=hOp
        have h1s:=hOs
        have hol:O.length=A1.length+B1.length:=by rw[hOp.length_eq,List.length_append]
        have qs:=ih Y (P++O) A2 B2 S mid en b (by rw[← hOY];simp only[List.append_assoc]) (by omega) (by rw[List.length_append];omega) (by omega) (by omega) (by omega) (by omega) (by omega) (by omega) (by omega) sA2 sB2 lA2 lB2
        refine .zac [0,1,2,3,4,5] rfl zz0 ?_
        refine .rn [0,1,2,3,4] _ ?_
        refine .step rfl rfl (.call rfl rfl rfl call219 (by decide) (((qs)).mono ?_))
        rintro _ _ ⟨rfl,O,Y,n1,hOp,hOs,hOY,rfl⟩
        refine .done ?_
        refine⟨_,zz4,rfl,_,?_,zag h1p hOp h1s hOs sA sB hcut1 hcut2,?_⟩
        ·rw[hAe,hBe];exact zap h1p hOp
        show some _=some _;rw[← hOY];simp only[List.append_assoc]
       try simp at c213
       have h1p:=hOp
       have h1s:=hOs
       obtain⟨O2,hOp,hOs,hOY⟩:∃O2,O2.Perm (A2++B2)∧LenS O2∧(P++O)++(O2++S)=Y:=⟨A2++B2,.refl _,by rcases (show A2.length=0∨B2.length=0 by omega) with h|h<;>rw[List.eq_nil_of_length_eq_zero h]<;>simp[sA2,sB2],by rw[← hOY];simp only[List.append_assoc]⟩
       refine .skip ?_
       refine⟨_,zz4,rfl,_,?_,zag h1p hOp h1s hOs sA sB hcut1 hcut2,?_⟩
       ·rw[hAe,hBe];exact zap h1p hOp
       show some _=some _;rw[← hOY];simp only[List.append_assoc]
      try rw[c209]
      try simp at c209
      have h1p:=hOp
      have h1s:=hOs
      obtain⟨O2,hOp,hOs,hOY⟩:∃O2,O2.Perm (A2++B2)∧LenS O2∧(P++O)++(O2++S)=Y:=⟨A2++B2,.refl _,by rcases (show A2.length=0∨B2.length=0 by omega) with h|h<;>rw[List.eq_nil_of_length_eq_zero h]<;>simp[sA2,sB2],by rw[← hOY];simp only[List.append_assoc]⟩
      refine .rn [4,5,6,7] [] ?_
      refine .done (.zd3 rfl (.skip ?_))
      refine⟨_,zz4,rfl,_,?_,zag h1p hOp h1s hOs sA sB hcut1 hcut2,?_⟩
      ·rw[hAe,hBe];exact zap h1p hOp
      show some _=some _;rw[← hOY];simp only[List.append_assoc]
     try simp at c199
     obtain⟨O,Y,hOp,hOs,hOY,hXY⟩:∃O Y,O.Perm (A1++B1)∧LenS O∧P++(O++(A2++(B2++S)))=Y∧X=Y:=⟨A1++B1,X,.refl _,by rcases (show A1.length=0∨B1.length=0 by omega) with h|h<;>rw[List.eq_nil_of_length_eq_zero h]<;>simp[sA1,sB1],by rw[← hX2];simp only[List.append_assoc],rfl⟩
     rw[hXY]
     refine .skip (.seq ?_)
     refine .rec (vts2:=[(0,.sub 0 0 mm),(3,.int .i64 b),(4,.func 184 [] []),(18,.int .i64 mid),(24,.int .i64 en)]) (vh2:=⟨3,[(0,.arr false 1 (Y.map eS))]⟩) (.mk [] [] zz20 zz21 rfl rfl rfl) ?_
     refine .zac [0,1,2,3,4,5,6,7] rfl zz0 ?_
     refine .rn [0,1,2,3] _ ?_
     refine .split (t:=209) rfl (fun c209=>?_) (fun c209=>?_)
     ·try rw[c209]
      try simp at c209
      refine .rn [4,5,6,7] [] ?_
      refine .done ?_
      refine .cs ?_ ?_<;>intro c213
      ·try simp at c213
       have h1p:=hOp
       have h1s:=hOs
       have hol:O.length=A1.length+B1.length:=by rw[hOp.length_eq,List.length_append]
       have qs:=ih Y (P++O) A2 B2 S mid en b (by rw[← hOY];simp only[List.append_assoc]) (by omega) (by rw[List.length_append];omega) (by omega) (by omega) (by omega) (by omega) (by omega) (by omega) (by omega) sA2 sB2 lA2 lB2
       refine .zac [0,1,2,3,4,5] rfl zz0 ?_
       refine .rn [0,1,2,3,4] _ ?_
       refine .step rfl rfl (.call rfl rfl rfl call219 (by decide) (((qs)).mono ?_))
       rintro _ _ ⟨rfl,O,Y,n1,hOp,hOs,hOY,rfl⟩
       refine .done ?_
       refine⟨_,zz4,rfl,_,?_,zag h1p hOp h1s hOs sA sB hcut1 hcut2,?_⟩
       ·rw[hAe,hBe];exact zap h1p hOp
       show some _=some _;rw[← hOY];simp only[List.append_assoc]
      try simp at c213
      have h1p:=hOp
      have h1s:=hOs
      obtain⟨O2,hOp,hOs,hOY⟩:∃O2,O2.Perm (A2++B2)∧LenS O2∧(P++O)++(O2++S)=Y:=⟨A2++B2,.refl _,by rcases (show A2.length=0∨B2.length=0 by omega) with h|h<;>rw[List.eq_nil_of_length_eq_zero h]<;>simp[sA2,sB2],by rw[← hOY];simp only[List.append_assoc]⟩
      refine .skip ?_
      refine⟨_,zz4,rfl,_,?_,zag h1p hOp h1s hOs sA sB hcut1 hcut2,?_⟩
      ·rw[hAe,hBe];exact zap h1p hOp
      show some _=some _;rw[← hOY];simp only[List.append_assoc]
     try rw[c209]
     try simp at c209
     have h1p:=hOp
     have h1s:=hOs
     obtain⟨O2,hOp,hOs,hOY⟩:∃O2,O2.Perm (A2++B2)∧LenS O2∧(P++O)++(O2++S)=Y:=⟨A2++B2,.refl _,by rcases (show A2.length=0∨B2.length=0 by omega) with h|h<;>rw[List.eq_nil_of_length_eq_zero h]<;>simp[sA2,sB2],by rw[← hOY];simp only[List.append_assoc]⟩
     refine .rn [4,5,6,7] [] ?_
     refine .done (.zd3 rfl (.skip ?_))
     refine⟨_,zz4,rfl,_,?_,zag h1p hOp h1s hOs sA sB hcut1 hcut2,?_⟩
     ·rw[hAe,hBe];exact zap h1p hOp
     show some _=some _;rw[← hOY];simp only[List.append_assoc]
    try rw[c195]
    try simp at c195
    obtain⟨O,Y,hOp,hOs,hOY,hXY⟩:∃O Y,O.Perm (A1++B1)∧LenS O∧P++(O++(A2++(B2++S)))=Y∧X=Y:=⟨A1++B1,X,.refl _,by rcases (show A1.length=0∨B1.length=0 by omega) with h|h<;>rw[List.eq_nil_of_length_eq_zero h]<;>simp[sA1,sB1],by rw[← hX2];simp only[List.append_assoc],rfl⟩
    rw[hXY]
    refine .rn [4,5,6,7] [] ?_
    refine .done (.zd3 rfl (.skip (.seq ?_)))
    refine .rec (vts2:=[(0,.sub 0 0 mm),(3,.int .i64 b),(4,.func 184 [] []),(18,.int .i64 mid),(24,.int .i64 en)]) (vh2:=⟨3,[(0,.arr false 1 (Y.map eS))]⟩) (.mk [] [] zz20 zz21 rfl rfl rfl) ?_
    refine .zac [0,1,2,3,4,5,6,7] rfl zz0 ?_
    refine .rn [0,1,2,3] _ ?_
    refine .split (t:=209) rfl (fun c209=>?_) (fun c209=>?_)
    ·try rw[c209]
     try simp at c209
     refine .rn [4,5,6,7] [] ?_
     refine .done ?_
     refine .cs ?_ ?_<;>intro c213
     ·try simp at c213
      have h1p:=hOp
      have h1s:=hOs
      have hol:O.length=A1.length+B1.length:=by rw[hOp.length_eq,List.length_append]
      have qs:=ih Y (P++O) A2 B2 S mid en b (by rw[← hOY];simp only[List.append_assoc]) (by omega) (by rw[List.length_append];omega) (by omega) (by omega) (by omega) (by omega) (by omega) (by omega) (by omega) sA2 sB2 lA2 lB2
      refine .zac [0,1,2,3,4,5] rfl zz0 ?_
      refine .rn [0,1,2,3,4] _ ?_
      refine .step rfl rfl (.call rfl rfl rfl call219 (by decide) (((qs)).mono ?_))
      rintro _ _ ⟨rfl,O,Y,n1,hOp,hOs,hOY,rfl⟩
      refine .done ?_
      refine⟨_,zz4,rfl,_,?_,zag h1p hOp h1s hOs sA sB hcut1 hcut2,?_⟩
      ·rw[hAe,hBe];exact zap h1p hOp
      show some _=some _;rw[← hOY];simp only[List.append_assoc]
     try simp at c213
     have h1p:=hOp
     have h1s:=hOs
     obtain⟨O2,hOp,hOs,hOY⟩:∃O2,O2.Perm (A2++B2)∧LenS O2∧(P++O)++(O2++S)=Y:=⟨A2++B2,.refl _,by rcases (show A2.length=0∨B2.length=0 by omega) with h|h<;>rw[List.eq_nil_of_length_eq_zero h]<;>simp[sA2,sB2],by rw[← hOY];simp only[List.append_assoc]⟩
     refine .skip ?_
     refine⟨_,zz4,rfl,_,?_,zag h1p hOp h1s hOs sA sB hcut1 hcut2,?_⟩
     ·rw[hAe,hBe];exact zap h1p hOp
     show some _=some _;rw[← hOY];simp only[List.append_assoc]
    try rw[c209]
    try simp at c209
    have h1p:=hOp
    have h1s:=hOs
    obtain⟨O2,hOp,hOs,hOY⟩:∃O2,O2.Perm (A2++B2)∧LenS O2∧(P++O)++(O2++S)=Y:=⟨A2++B2,.refl _,by rcases (show A2.length=0∨B2.length=0 by omega) with h|h<;>rw[List.eq_nil_of_length_eq_zero h]<;>simp[sA2,sB2],by rw[← hOY];simp only[List.append_assoc]⟩
    refine .rn [4,5,6,7] [] ?_
    refine .done (.zd3 rfl (.skip ?_))
    refine⟨_,zz4,rfl,_,?_,zag h1p hOp h1s hOs sA sB hcut1 hcut2,?_⟩
    ·rw[hAe,hBe];exact zap h1p hOp
    show some _=some _;rw[← hOY];simp only[List.append_assoc]
   try simp at c185
   have hDX:D=X:=by
    rcases (show A2.length=0∨B1.length=0 by omega) with h|h<;>rw[← hDe,← hX,List.eq_nil_of_length_eq_zero h]<;>rfl
   rw[hDX]
   refine .skip (.seq (.seq ?_))
   refine .rec (vts2:=[(0,.sub 0 0 mm),(1,.int .i64 a),(2,.int .i64 m),(3,.int .i64 b),(4,.func 184 [] []),(18,.int .i64 mid),(20,.int .i64 r),(24,.int .i64 en)]) (vh2:=⟨3,[(0,.arr false 1 (X.map eS))]⟩) (.mk [] [] zz20 zz21 rfl rfl rfl) ?_
   refine .zac [0,1,2,3,4,5,6,7] rfl zz0 ?_
   refine .rn [0,1,2,3] _ ?_
   refine .split (t:=195) rfl (fun c195=>?_) (fun c195=>?_)
   ·try rw[c195]
    try simp at c195
    refine .rn [4,5,6,7] [] ?_
    refine .done ?_
    refine .cs ?_ ?_<;>intro c199
    ·try simp at c199
     have qs:=ih X P A1 B1 (A2++(B2++S)) a r mid hX2 (by omega) ha (by omega) (by omega) (by omega) (by omega) (by omega) (by omega) (by omega) sA1 sB1 lA1 lB1
     refine .zac [0,1,2,3,4,5] rfl zz0 ?_
     refine .rn [0,1,2,3,4] _ ?_
     refine .step rfl rfl (.call rfl rfl rfl call219 (by decide) (((qs)).mono ?_))
     rintro _ _ ⟨rfl,O,Y,n1,hOp,hOs,hOY,rfl⟩
     refine .done (.seq ?_)
     refine .rec (vts2:=[(0,.sub 0 0 mm),(3,.int .i64 b),(4,.func 184 [] []),(18,.int .i64 mid),(24,.int .i64 en)]) (vh2:=⟨3,[(0,.arr false 1 (Y.map eS))]⟩) (.mk [] [] zz20 zz21 rfl rfl rfl) ?_
     refine .zac [0,1,2,3,4,5,6,7] rfl zz0 ?_
     refine .rn [0,1,2,3] _ ?_
     refine .split (t:=209) rfl (fun c209=>?_) (fun c209=>?_)
     ·try rw[c209]
      try simp at c209
      refine .rn [4,5,6,7] [] ?_
      refine .done ?_
      refine .cs ?_ ?_<;>intro c213
      ·try simp at c213
       have h1p:=hOp
       have h1s:=hOs
       have hol:O.length=A1.length+B1.length:=by rw[hOp.length_eq,List.length_append]
       have qs:=ih Y (P++O) A2 B2 S mid en b (by rw[← hOY];simp only[List.append_assoc]) (by omega) (by rw[List.length_append];omega) (by omega) (by omega) (by omega) (by omega) (by omega) (by omega) (by omega) sA2 sB2 lA2 lB2
       refine .zac [0,1,2,3,4,5] rfl zz0 ?_
       refine .rn [0,1,2,3,4] _ ?_
       refine .step rfl rfl (.call rfl rfl rfl call219 (by decide) (((qs)).mono ?_))
       rintro _ _ ⟨rfl,O,Y,n1,hOp,hOs,hOY,rfl⟩
       refine .done ?_
       refine⟨_,zz4,rfl,_,?_,zag h1p hOp h1s hOs sA sB hcut1 hcut2,?_⟩
       ·rw[hAe,hBe];exact zap h1p hOp
       show some _=some _;rw[← hOY];simp only[List.append_assoc]
      try simp at c213
      have h1p:=hOp
      have h1s:=hOs
      obtain⟨O2,hOp,hOs,hOY⟩:∃O2,O2.Perm (A2++B2)∧LenS O2∧(P++O)++(O2++S)=Y:=⟨A2++B2,.refl _,by rcases (show A2.length=0∨B2.length=0 by omega) with h|h<;>rw[List.eq_nil_of_length_eq_zero h]<;>simp[sA2,sB2],by rw[← hOY];simp only[List.append_assoc]⟩
      refine .skip ?_
      refine⟨_,zz4,rfl,_,?_,zag h1p hOp h1s hOs sA sB hcut1 hcut2,?_⟩
      ·rw[hAe,hBe];exact zap h1p hOp
      show some _=some _;rw[← hOY];simp only[List.append_assoc]
     try rw[c209]
     try simp at c209
     have h1p:=hOp
     have h1s:=hOs
     obtain⟨O2,hOp,hOs,hOY⟩:∃O2,O2.Perm (A2++B2)∧LenS O2∧(P++O)++(O2++S)=Y:=⟨A2++B2,.refl _,by rcases (show A2.length=0∨B2.length=0 by omega) with h|h<;>rw[List.eq_nil_of_length_eq_zero h]<;>simp[sA2,sB2],by rw[← hOY];simp only[List.append_assoc]⟩
     refine .rn [4,5,6,7] [] ?_
     refine .done (.zd3 rfl (.skip ?_))
     refine⟨_,zz4,rfl,_,?_,zag h1p hOp h1s hOs sA sB hcut1 hcut2,?_⟩
     ·rw[hAe,hBe];exact zap h1p hOp
     show some _=some _;rw[← hOY];simp only[List.append_assoc]
    try simp at c199
    obtain⟨O,Y,hOp,hOs,hOY,hXY⟩:∃O Y,O.Perm (A1++B1)∧LenS O∧P++(O++(A2++(B2++S)))=Y∧X=Y:=⟨A1++B1,X,.refl _,by rcases (show A1.length=0∨B1.length=0 by omega) with h|h<;>rw[List.eq_nil_of_length_eq_zero h]<;>simp[sA1,sB1],by rw[← hX2];simp only[List.append_assoc],rfl⟩
    rw[hXY]
    refine .skip (.seq ?_)
    refine .rec (vts2:=[(0,.sub 0 0 mm),(3,.int .i64 b),(4,.func 184 [] []),(18,.int .i64 mid),(24,.int .i64 en)]) (vh2:=⟨3,[(0,.arr false 1 (Y.map eS))]⟩) (.mk [] [] zz20 zz21 rfl rfl rfl) ?_
    refine .zac [0,1,2,3,4,5,6,7] rfl zz0 ?_
    refine .rn [0,1,2,3] _ ?_
    refine .split (t:=209) rfl (fun c209=>?_) (fun c209=>?_)
    ·try rw[c209]
     try simp at c209
     refine .rn [4,5,6,7] [] ?_
     refine .done ?_
     refine .cs ?_ ?_<;>intro c213
     ·try simp at c213
      have h1p:=hOp
      have h1s:=hOs
      have hol:O.length=A1.length+B1.length:=by rw[hOp.length_eq,List.length_append]
      have qs:=ih Y (P++O) A2 B2 S mid en b (by rw[← hOY];simp only[List.append_assoc]) (by omega) (by rw[List.length_append];omega) (by omega) (by omega) (by omega) (by omega) (by omega) (by omega) (by omega) sA2 sB2 lA2 lB2
      refine .zac [0,1,2,3,4,5] rfl zz0 ?_
      refine .rn [0,1,2,3,4] _ ?_
      refine .step rfl rfl (.call rfl rfl rfl call219 (by decide) (((qs)).mono ?_))
      rintro _ _ ⟨rfl,O,Y,n1,hOp,hOs,hOY,rfl⟩
      refine .done ?_
      refine⟨_,zz4,rfl,_,?_,zag h1p hOp h1s hOs sA sB hcut1 hcut2,?_⟩
      ·rw[hAe,hBe];exact zap h1p hOp
      show some _=some _;rw[← hOY];simp only[List.append_assoc]
     try simp at c213
     have h1p:=hOp
     have h1s:=hOs
     obtain⟨O2,hOp,hOs,hOY⟩:∃O2,O2.Perm (A2++B2)∧LenS O2∧(P++O)++(O2++S)=Y:=⟨A2++B2,.refl _,by rcases (show A2.length=0∨B2.length=0 by omega) with h|h<;>rw[List.eq_nil_of_length_eq_zero h]<;>simp[sA2,sB2],by rw[← hOY];simp only[List.append_assoc]⟩
     refine .skip ?_
     refine⟨_,zz4,rfl,_,?_,zag h1p hOp h1s hOs sA sB hcut1 hcut2,?_⟩
     ·rw[hAe,hBe];exact zap h1p hOp
     show some _=some _;rw[← hOY];simp only[List.append_assoc]
    try rw[c209]
    try simp at c209
    have h1p:=hOp
    have h1s:=hOs
    obtain⟨O2,hOp,hOs,hOY⟩:∃O2,O2.Perm (A2++B2)∧LenS O2∧(P++O)++(O2++S)=Y:=⟨A2++B2,.refl _,by rcases (show A2.length=0∨B2.length=0 by omega) with h|h<;>rw[List.eq_nil_of_length_eq_zero h]<;>simp[sA2,sB2],by rw[← hOY];simp only[List.append_assoc]⟩
    refine .rn [4,5,6,7] [] ?_
    refine .done (.zd3 rfl (.skip ?_))
    refine⟨_,zz4,rfl,_,?_,zag h1p hOp h1s hOs sA sB hcut1 hcut2,?_⟩
    ·rw[hAe,hBe];exact zap h1p hOp
    show some _=some _;rw[← hOY];simp only[List.append_assoc]
   try rw[c195]
   try simp at c195
   obtain⟨O,Y,hOp,hOs,hOY,hXY⟩:∃O Y,O.Perm (A1++B1)∧LenS O∧P++(O++(A2++(B2++S)))=Y∧X=Y:=⟨A1++B1,X,.refl _,by rcases (show A1.length=0∨B1.length=0 by omega) with h|h<;>rw[List.eq_nil_of_length_eq_zero h]<;>simp[sA1,sB1],by rw[← hX2];simp only[List.append_assoc],rfl⟩
   rw[hXY]
   refine .rn [4,5,6,7] [] ?_
   refine .done (.zd3 rfl (.skip (.seq ?_)))
   refine .rec (vts2:=[(0,.sub 0 0 mm),(3,.int .i64 b),(4,.func 184 [] []),(18,.int .i64 mid),(24,.int .i64 en)]) (vh2:=⟨3,[(0,.arr false 1 (Y.map eS))]⟩) (.mk [] [] zz20 zz21 rfl rfl rfl) ?_
   refine .zac [0,1,2,3,4,5,6,7] rfl zz0 ?_
   refine .rn [0,1,2,3] _ ?_
   refine .split (t:=209) rfl (fun c209=>?_) (fun c209=>?_)
   ·try rw[c209]
    try simp at c209
    refine .rn [4,5,6,7] [] ?_
    refine .done ?_
    refine .cs ?_ ?_<;>intro c213
    ·try simp at c213
     have h1p:=hOp
     have h1s:=hOs
     have hol:O.length=A1.length+B1.length:=by rw[hOp.length_eq,List.length_append]
     have qs:=ih Y (P++O) A2 B2 S mid en b (by rw[← hOY];simp only[List.append_assoc]) (by omega) (by rw[List.length_append];omega) (by omega) (by omega) (by omega) (by omega) (by omega) (by omega) (by omega) sA2 sB2 lA2 lB2
     refine .zac [0,1,2,3,4,5] rfl zz0 ?_
     refine .rn [0,1,2,3,4] _ ?_
     refine .step rfl rfl (.call rfl rfl rfl call219 (by decide) (((qs)).mono ?_))
     rintro _ _ ⟨rfl,O,Y,n1,hOp,hOs,hOY,rfl⟩
     refine .done ?_
     refine⟨_,zz4,rfl,_,?_,zag h1p hOp h1s hOs sA sB hcut1 hcut2,?_⟩
     ·rw[hAe,hBe];exact zap h1p hOp
     show some _=some _;rw[← hOY];simp only[List.append_assoc]
    try simp at c213
    have h1p:=hOp
    have h1s:=hOs
    obtain⟨O2,hOp,hOs,hOY⟩:∃O2,O2.Perm (A2++B2)∧LenS O2∧(P++O)++(O2++S)=Y:=⟨A2++B2,.refl _,by rcases (show A2.length=0∨B2.length=0 by omega) with h|h<;>rw[List.eq_nil_of_length_eq_zero h]<;>simp[sA2,sB2],by rw[← hOY];simp only[List.append_assoc]⟩
    refine .skip ?_
    refine⟨_,zz4,rfl,_,?_,zag h1p hOp h1s hOs sA sB hcut1 hcut2,?_⟩
    ·rw[hAe,hBe];exact zap h1p hOp
    show some _=some _;rw[← hOY];simp only[List.append_assoc]
   try rw[c209]
   try simp at c209
   have h1p:=hOp
   have h1s:=hOs
   obtain⟨O2,hOp,hOs,hOY⟩:∃O2,O2.Perm (A2++B2)∧LenS O2∧(P++O)++(O2++S)=Y:=⟨A2++B2,.refl _,by rcases (show A2.length=0∨B2.length=0 by omega) with h|h<;>rw[List.eq_nil_of_length_eq_zero h]<;>simp[sA2,sB2],by rw[← hOY];simp only[List.append_assoc]⟩
   refine .rn [4,5,6,7] [] ?_
   refine .done (.zd3 rfl (.skip ?_))
   refine⟨_,zz4,rfl,_,?_,zag h1p hOp h1s hOs sA sB hcut1 hcut2,?_⟩
   ·rw[hAe,hBe];exact zap h1p hOp
   show some _=some _;rw[← hOY];simp only[List.append_assoc]
  try rw[c181]
  try simp at c181
  have hDX:D=X:=by
   rcases (show A2.length=0∨B1.length=0 by omega) with h|h<;>rw[← hDe,← hX,List.eq_nil_of_length_eq_zero h]<;>rfl
  rw[hDX]
  refine .rn [4,5,6,7] [] ?_
  refine .done (.zd3 rfl (.skip (.seq (.seq ?_))))
  refine .rec (vts2:=[(0,.sub 0 0 mm),(1,.int .i64 a),(2,.int .i64 m),(3,.int .i64 b),(4,.func 184 [] []),(18,.int .i64 mid),(20,.int .i64 r),(24,.int .i64 en)]) (vh2:=⟨3,[(0,.arr false 1 (X.map eS))]⟩) (.mk [] [] zz20 zz21 rfl rfl rfl) ?_
  refine .zac [0,1,2,3,4,5,6,7] rfl zz0 ?_
  refine .rn [0,1,2,3] _ ?_
  refine .split (t:=195) rfl (fun c195=>?_) (fun c195=>?_)
  ·try rw[c195]
   try simp at c195
   refine .rn [4,5,6,7] [] ?_
   refine .done ?_
   refine .cs ?_ ?_<;>intro c199
   ·try simp at c199
    have qs:=ih X P A1 B1 (A2++(B2++S)) a r mid hX2 (by omega) ha (by omega) (by omega) (by omega) (by omega) (by omega) (by omega) (by omega) sA1 sB1 lA1 lB1
    refine .zac [0,1,2,3,4,5] rfl zz0 ?_
    refine .rn [0,1,2,3,4] _ ?_
    refine .step rfl rfl (.call rfl rfl rfl call219 (by decide) (((qs)).mono ?_))
    rintro _ _ ⟨rfl,O,Y,n1,hOp,hOs,hOY,rfl⟩
    refine .done (.seq ?_)
    refine .rec (vts2:=[(0,.sub 0 0 mm),(3,.int .i64 b),(4,.func 184 [] []),(18,.int .i64 mid),(24,.int .i64 en)]) (vh2:=⟨3,[(0,.arr false 1 (Y.map eS))]⟩) (.mk [] [] zz20 zz21 rfl rfl rfl) ?_
    refine .zac [0,1,2,3,4,5,6,7] rfl zz0 ?_
    refine .rn [0,1,2,3] _ ?_
    refine .split (t:=209) rfl (fun c209=>?_) (fun c209=>?_)
    ·try rw[c209]
     try simp at c209
     refine .rn [4,5,6,7] [] ?_
     refine .done ?_
     refine .cs ?_ ?_<;>intro c213
     ·try simp at c213
      have h1p:=hOp
      have h1s:=hOs
      have hol:O.length=A1.length+B1.length:=by rw[hOp.length_eq,List.length_append]
      have qs:=ih Y (P++O) A2 B2 S mid en b (by rw[← hOY];simp only[List.append_assoc]) (by omega) (by rw[List.length_append];omega) (by omega) (by omega) (by omega) (by omega) (by omega) (by omega) (by omega) sA2 sB2 lA2 lB2
      refine .zac [0,1,2,3,4,5] rfl zz0 ?_
      refine .rn [0,1,2,3,4] _ ?_
      refine .step rfl rfl (.call rfl rfl rfl call219 (by decide) (((qs)).mono ?_))
      rintro _ _ ⟨rfl,O,Y,n1,hOp,hOs,hOY,rfl⟩
      refine .done ?_
      refine⟨_,zz4,rfl,_,?_,zag h1p hOp h1s hOs sA sB hcut1 hcut2,?_⟩
      ·rw[hAe,hBe];exact zap h1p hOp
      show some _=some _;rw[← hOY];simp only[List.append_assoc]
     try simp at c213
     have h1p:=hOp
     have h1s:=hOs
     obtain⟨O2,hOp,hOs,hOY⟩:∃O2,O2.Perm (A2++B2)∧LenS O2∧(P++O)++(O2++S)=Y:=⟨A2++B2,.refl _,by rcases (show A2.length=0∨B2.length=0 by omega) with h|h<;>rw[List.eq_nil_of_length_eq_zero h]<;>simp[sA2,sB2],by rw[← hOY];simp only[List.append_assoc]⟩
     refine .skip ?_
     refine⟨_,zz4,rfl,_,?_,zag h1p hOp h1s hOs sA sB hcut1 hcut2,?_⟩
     ·rw[hAe,hBe];exact zap h1p hOp
     show some _=some _;rw[← hOY];simp only[List.append_assoc]
    try rw[c209]
    try simp at c209
    have h1p:=hOp
    have h1s:=hOs
    obtain⟨O2,hOp,hOs,hOY⟩:∃O2,O2.Perm (A2++B2)∧LenS O2∧(P++O)++(O2++S)=Y:=⟨A2++B2,.refl _,by rcases (show A2.length=0∨B2.length=0 by omega) with h|h<;>rw[List.eq_nil_of_length_eq_zero h]<;>simp[sA2,sB2],by rw[← hOY];simp only[List.append_assoc]⟩
    refine .rn [4,5,6,7] [] ?_
    refine .done (.zd3 rfl (.skip ?_))
    refine⟨_,zz4,rfl,_,?_,zag h1p hOp h1s hOs sA sB hcut1 hcut2,?_⟩
    ·rw[hAe,hBe];exact zap h1p hOp
    show some _=some _;rw[← hOY];simp only[List.append_assoc]
   try simp at c199
   obtain⟨O,Y,hOp,hOs,hOY,hXY⟩:∃O Y,O.Perm (A1++B1)∧LenS O∧P++(O++(A2++(B2++S)))=Y∧X=Y:=⟨A1++B1,X,.refl _,by rcases (show A1.length=0∨B1.length=0 by omega) with h|h<;>rw[List.eq_nil_of_length_eq_zero h]<;>simp[sA1,sB1],by rw[← hX2];simp only[List.append_assoc],rfl⟩
   rw[hXY]
   refine .skip (.seq ?_)
   refine .rec (vts2:=[(0,.sub 0 0 mm),(3,.int .i64 b),(4,.func 184 [] []),(18,.int .i64 mid),(24,.int .i64 en)]) (vh2:=⟨3,[(0,.arr false 1 (Y.map eS))]⟩) (.mk [] [] zz20 zz21 rfl rfl rfl) ?_
   refine .zac [0,1,2,3,4,5,6,7] rfl zz0 ?_
   refine .rn [0,1,2,3] _ ?_
   refine .split (t:=209) rfl (fun c209=>?_) (fun c209=>?_)
   ·try rw[c209]
    try simp at c209
    refine .rn [4,5,6,7] [] ?_
    refine .done ?_
    refine .cs ?_ ?_<;>intro c213
    ·try simp at c213
     have h1p:=hOp
     have h1s:=hOs
     have hol:O.length=A1.length+B1.length:=by rw[hOp.length_eq,List.length_append]
     have qs:=ih Y (P++O) A2 B2 S mid en b (by rw[← hOY];simp only[List.append_assoc]) (by omega) (by rw[List.length_append];omega) (by omega) (by omega) (by omega) (by omega) (by omega) (by omega) (by omega) sA2 sB2 lA2 lB2
     refine .zac [0,1,2,3,4,5] rfl zz0 ?_
     refine .rn [0,1,2,3,4] _ ?_
     refine .step rfl rfl (.call rfl rfl rfl call219 (by decide) (((qs)).mono ?_))
     rintro _ _ ⟨rfl,O,Y,n1,hOp,hOs,hOY,rfl⟩
     refine .done ?_
     refine⟨_,zz4,rfl,_,?_,zag h1p hOp h1s hOs sA sB hcut1 hcut2,?_⟩
     ·rw[hAe,hBe];exact zap h1p hOp
     show some _=some _;rw[← hOY];simp only[List.append_assoc]
    try simp at c213
    have h1p:=hOp
    have h1s:=hOs
    obtain⟨O2,hOp,hOs,hOY⟩:∃O2,O2.Perm (A2++B2)∧LenS O2∧(P++O)++(O2++S)=Y:=⟨A2++B2,.refl _,by rcases (show A2.length=0∨B2.length=0 by omega) with h|h<;>rw[List.eq_nil_of_length_eq_zero h]<;>simp[sA2,sB2],by rw[← hOY];simp only[List.append_assoc]⟩
    refine .skip ?_
    refine⟨_,zz4,rfl,_,?_,zag h1p hOp h1s hOs sA sB hcut1 hcut2,?_⟩
    ·rw[hAe,hBe];exact zap h1p hOp
    show some _=some _;rw[← hOY];simp only[List.append_assoc]
   try rw[c209]
   try simp at c209
   have h1p:=hOp
   have h1s:=hOs
   obtain⟨O2,hOp,hOs,hOY⟩:∃O2,O2.Perm (A2++B2)∧LenS O2∧(P++O)++(O2++S)=Y:=⟨A2++B2,.refl _,by rcases (show A2.length=0∨B2.length=0 by omega) with h|h<;>rw[List.eq_nil_of_length_eq_zero h]<;>simp[sA2,sB2],by rw[← hOY];simp only[List.append_assoc]⟩
   refine .rn [4,5,6,7] [] ?_
   refine .done (.zd3 rfl (.skip ?_))
   refine⟨_,zz4,rfl,_,?_,zag h1p hOp h1s hOs sA sB hcut1 hcut2,?_⟩
   ·rw[hAe,hBe];exact zap h1p hOp
   show some _=some _;rw[← hOY];simp only[List.append_assoc]
  try rw[c195]
  try simp at c195
  obtain⟨O,Y,hOp,hOs,hOY,hXY⟩:∃O Y,O.Perm (A1++B1)∧LenS O∧P++(O++(A2++(B2++S)))=Y∧X=Y:=⟨A1++B1,X,.refl _,by rcases (show A1.length=0∨B1.length=0 by omega) with h|h<;>rw[List.eq_nil_of_length_eq_zero h]<;>simp[sA1,sB1],by rw[← hX2];simp only[List.append_assoc],rfl⟩
  rw[hXY]
  refine .rn [4,5,6,7] [] ?_
  refine .done (.zd3 rfl (.skip (.seq ?_)))
  refine .rec (vts2:=[(0,.sub 0 0 mm),(3,.int .i64 b),(4,.func 184 [] []),(18,.int .i64 mid),(24,.int .i64 en)]) (vh2:=⟨3,[(0,.arr false 1 (Y.map eS))]⟩) (.mk [] [] zz20 zz21 rfl rfl rfl) ?_
  refine .zac [0,1,2,3,4,5,6,7] rfl zz0 ?_
  refine .rn [0,1,2,3] _ ?_
  refine .split (t:=209) rfl (fun c209=>?_) (fun c209=>?_)
  ·try rw[c209]
   try simp at c209
   refine .rn [4,5,6,7] [] ?_
   refine .done ?_
   refine .cs ?_ ?_<;>intro c213
   ·try simp at c213
    have h1p:=hOp
    have h1s:=hOs
    have hol:O.length=A1.length+B1.length:=by rw[hOp.length_eq,List.length_append]
    have qs:=ih Y (P++O) A2 B2 S mid en b (by rw[← hOY];simp only[List.append_assoc]) (by omega) (by rw[List.length_append];omega) (by omega) (by omega) (by omega) (by omega) (by omega) (by omega) (by omega) sA2 sB2 lA2 lB2
    refine .zac [0,1,2,3,4,5] rfl zz0 ?_
    refine .rn [0,1,2,3,4] _ ?_
    refine .step rfl rfl (.call rfl rfl rfl call219 (by decide) (((qs)).mono ?_))
    rintro _ _ ⟨rfl,O,Y,n1,hOp,hOs,hOY,rfl⟩
    refine .done ?_
    refine⟨_,zz4,rfl,_,?_,zag h1p hOp h1s hOs sA sB hcut1 hcut2,?_⟩
    ·rw[hAe,hBe];exact zap h1p hOp
    show some _=some _;rw[← hOY];simp only[List.append_assoc]
   try simp at c213
   have h1p:=hOp
   have h1s:=hOs
   obtain⟨O2,hOp,hOs,hOY⟩:∃O2,O2.Perm (A2++B2)∧LenS O2∧(P++O)++(O2++S)=Y:=⟨A2++B2,.refl _,by rcases (show A2.length=0∨B2.length=0 by omega) with h|h<;>rw[List.eq_nil_of_length_eq_zero h]<;>simp[sA2,sB2],by rw[← hOY];simp only[List.append_assoc]⟩
   refine .skip ?_
   refine⟨_,zz4,rfl,_,?_,zag h1p hOp h1s hOs sA sB hcut1 hcut2,?_⟩
   ·rw[hAe,hBe];exact zap h1p hOp
   show some _=some _;rw[← hOY];simp only[List.append_assoc]
  try rw[c209]
  try simp at c209
  have h1p:=hOp
  have h1s:=hOs
  obtain⟨O2,hOp,hOs,hOY⟩:∃O2,O2.Perm (A2++B2)∧LenS O2∧(P++O)++(O2++S)=Y:=⟨A2++B2,.refl _,by rcases (show A2.length=0∨B2.length=0 by omega) with h|h<;>rw[List.eq_nil_of_length_eq_zero h]<;>simp[sA2,sB2],by rw[← hOY];simp only[List.append_assoc]⟩
  refine .rn [4,5,6,7] [] ?_
  refine .done (.zd3 rfl (.skip ?_))
  refine⟨_,zz4,rfl,_,?_,zag h1p hOp h1s hOs sA sB hcut1 hcut2,?_⟩
  ·rw[hAe,hBe];exact zap h1p hOp
  show some _=some _;rw[← hOY];simp only[List.append_assoc]
 try simp at c140
 obtain⟨s0,hs0⟩:∃s0,a=s0:=⟨_,rfl⟩
 obtain⟨r0,hr0⟩:∃r0,m=r0:=⟨_,rfl⟩
 have hF:a≤s0∧s0≤r0∧r0≤m∧r0≤mid∧nn≤s0+b∧(s0=a∨nn=s0+b)∧(r0=m∨r0=mid):=by omega
 refine .sr ?_
 refine .rn ?_
 refine .sr ?_
 refine .seq (.block ?_)
 refine .zco (fun st:Nat×Nat=>([(0,.sub 0 0 mm),(1,.int .i64 a),(2,.int .i64 m),(3,.int .i64 b),(4,.func 184 [] []),(18,.int .i64 mid),(19,.int .i64 nn),(20,.int .i64 st.1),(21,.int .i64 st.2),(22,.int .i64 pp)],⟨3,[(0,.arr false 1 (D.map eS))]⟩)) (fun st=>s0≤st.1∧st.1≤st.2∧st.2≤r0∧(st.1=s0∨∃x y,A[st.1 - a - 1]?=some x∧B[mid - st.1]?=some y∧x.length≤y.length)∧(st.2=r0∨∃x y,B[mid - st.2 - 1]?=some x∧A[st.2 - a]?=some y∧x.length≤y.length)) (fun st=>st.2 - st.1) (s0,r0) ⟨Nat.le_refl _,by simp only;omega,Nat.le_refl _,.inl rfl,.inl rfl⟩ (by rw[← hr0,← hs0];exact(.mk [] [] zz20 zz21 rfl rfl rfl)) ?_
 rintro⟨s,r⟩ ⟨h1,h2,h3,h4,h5⟩
 simp only at h1 h2 h3 h4 h5 ⊢
 clear hs0 hr0
 refine .seq (.sr ?_)
 refine .cs ?_ ?_<;>intro c151
 ·try simp at c151
  have hsr:s<r:=by omega
  have hv1:IntKind.i64.wrap ((s:Int)+(r:Int))=(s:Int)+(r:Int):=wrap64 (by omega) (by omega)
  have hv2:IntKind.u64.wrap ((s:Int)+(r:Int))=(s:Int)+(r:Int):=zkg (by omega) (by omega)
  obtain⟨c,hc,hc1,hc2⟩:∃c:Nat,((s:Int)+(r:Int)).fdiv 2=(c:Int)∧s≤c∧c<r:=⟨(s+r) / 2,by rw[Int.fdiv_eq_ediv_of_nonneg _ (by omega)];omega,by omega,by omega⟩
  have hv3:IntKind.i64.wrap (c:Int)=(c:Int):=wrap64 (by omega) (by omega)
  have hv4:=wr1 c
  obtain⟨e,he⟩:∃e,pp - c=e:=⟨_,rfl⟩
  have hv5:IntKind.i64.wrap ((pp:Int) - (c:Int))=(e:Int):=by rw[wrap64 (by omega) (by omega)];omega
  have hcA:c - a<A.length:=by omega
  have heB:mid - 1 - c<B.length:=by omega
  have hgx:=hgA (c - a) hcA
  have hgy:=hgB (mid - 1 - c) heB
  rw[show a+(c - a)=c by omega,List.getElem?_eq_getElem hcA] at hgx
  rw[show m+(mid - 1 - c)=e by omega,List.getElem?_eq_getElem heB] at hgy
  obtain⟨x,hx⟩:∃x,A[c - a]=x:=⟨_,rfl⟩
  obtain⟨y,hy⟩:∃y,B[mid - 1 - c]=y:=⟨_,rfl⟩
  rw[hx] at hgx
  rw[hy] at hgy
  have hxA:A[c - a]?=some x:=by rw[List.getElem?_eq_getElem hcA,hx]
  have hyB:B[mid - 1 - c]?=some y:=by rw[List.getElem?_eq_getElem heB,hy]
  obtain⟨hcD,hgx2⟩:=List.getElem?_eq_some_iff.1 hgx
  obtain⟨heD,hgy2⟩:=List.getElem?_eq_some_iff.1 hgy
  have hcm:c<mm:=by omega
  have hem:e<mm:=by omega
  have hxl:x.length<4294967296:=hAl x (List.mem_of_getElem? hxA)
  have hyl:y.length<4294967296:=hBl y (List.mem_of_getElem? hyB)
  obtain⟨v,hv⟩:∃v,(y.length:Int) - (x.length:Int)=v:=⟨_,rfl⟩
  have h184:=zym y x hyl hxl
  rw[hv] at h184
  clear hx hy hgA hgB hD
  refine .skip (.block (.sr ?_))
  refine .seq ?_
  refine .drawn (ms:=[0,0,0,0,12,30,62,0,0,384,896,2047,4095,8191]) (W:=[11]) (items:=[.op 0,.op 1,.op 2,.op 3,.op 4,.op 5,.op 6,.op 7,.op 8,.op 9,.op 10,.op 11,.op 12,.op 13]) rfl zz0 zz0 zz0 ?_
  iterate 11 refine .rx ?_
  refine .wp rfl rfl rfl rfl rfl call184 (h184) ?_
  iterate 2 refine .rx ?_
  refine .done ?_
  refine .cs ?_ ?_<;>intro c171
  ·try simp at c171
   have hk:s0≤c+1∧c+1≤r∧r≤r0∧(c+1=s0∨∃x y,A[c+1 - a - 1]?=some x∧B[mid - (c+1)]?=some y∧x.length≤y.length):=⟨by omega,by omega,h3,.inr ⟨x,y,by rw[show c+1 - a - 1=c - a by omega];exact hxA,by rw[show mid - (c+1)=mid - 1 - c by omega];exact hyB,by omega⟩⟩
   refine .rn ?_
   refine⟨(c+1,r),⟨hk.1,hk.2.1,hk.2.2.1,hk.2.2.2,h5⟩,by simp only;omega,(.mk [] [] zz20 zz21 rfl rfl rfl)⟩
  try simp at c171
  have hk:s0≤s∧s≤c∧c≤r0∧(c=r0∨∃x y,B[mid - c - 1]?=some x∧A[c - a]?=some y∧x.length≤y.length):=⟨h1,hc1,by omega,.inr ⟨y,x,by rw[show mid - c - 1=mid - 1 - c by omega];exact hyB,hxA,by omega⟩⟩
  refine .rn ?_
  refine⟨(s,c),⟨hk.1,hk.2.1,hk.2.2.1,h4,hk.2.2.2⟩,by simp only;omega,(.mk [] [] zz20 zz21 rfl rfl rfl)⟩
 try simp at c151
 obtain rfl:r=s:=by omega
 obtain⟨en,hen⟩:∃en,nn - r=en:=⟨_,rfl⟩
 have hv6:IntKind.i64.wrap ((nn:Int) - (r:Int))=(en:Int):=by rw[wrap64 (by omega) (by omega)];omega
 have hcut1:=zzp (p:=r - a) (q:=mid - r) hA hB (by
  rcases h4 with h4|h4
  ·rcases hF.2.2.2.2.2.1 with h|h
   ·exact .inl (by omega)
   exact .inr (.inl (by omega))
  by_cases h0:r - a=0
  ·exact .inl h0
  exact .inr (.inr ⟨by omega,h4⟩))
 have hcut2:=zzp (p:=mid - r) (q:=r - a) hB hA (by
  rcases h5 with h5|h5
  ·rcases hF.2.2.2.2.2.2 with h|h
   ·exact .inr (.inl (by omega))
   exact .inl (by omega)
  by_cases h0:mid - r=0
  ·exact .inl h0
  exact .inr (.inr ⟨by omega,h5⟩))
 obtain⟨A1,hA1⟩:∃A1,A.take (r - a)=A1:=⟨_,rfl⟩
 obtain⟨A2,hA2e⟩:∃A2,A.drop (r - a)=A2:=⟨_,rfl⟩
 obtain⟨B1,hB1⟩:∃B1,B.take (mid - r)=B1:=⟨_,rfl⟩
 obtain⟨B2,hB2e⟩:∃B2,B.drop (mid - r)=B2:=⟨_,rfl⟩
 have hAe:A=A1++A2:=by rw[← hA1,← hA2e,List.take_append_drop]
 have hBe:B=B1++B2:=by rw[← hB1,← hB2e,List.take_append_drop]
 have hA1l:A1.length=r - a:=by rw[← hA1,List.length_take];omega
 have hA2l:A2.length=m - r:=by rw[← hA2e,List.length_drop];omega
 have hB1l:B1.length=mid - r:=by rw[← hB1,List.length_take];omega
 have hB2l:B2.length=b - en:=by rw[← hB2e,List.length_drop];omega
 rw[hA1,hB2e] at hcut1
 rw[hB1,hA2e] at hcut2
 have hDe:(P++A1)++(A2++(B1++(B2++S)))=D:=by rw[← hD,hAe,hBe];simp only[List.append_assoc]
 obtain⟨X,hX⟩:∃X,(P++A1)++(B1++(A2++(B2++S)))=X:=⟨_,rfl⟩
 have hPA:(P++A1).length=r:=by rw[List.length_append];omega
 have hSS:(B2++S).length=b - en+S.length:=by rw[List.length_append];omega
 have hS3:(A2++(B2++S)).length=m - r+(b - en)+S.length:=by rw[List.length_append];omega
 have hX2:P++(A1++(B1++(A2++(B2++S))))=X:=by rw[← hX];simp only[List.append_assoc]
 have sA:=hA
 have sB:=hB
 rw[hAe] at sA
 rw[hBe] at sB
 have sA1:LenS A1:=hA1▸hA.sublist (List.take_sublist _ _)
 have sA2:LenS A2:=hA2e▸hA.sublist (List.drop_sublist _ _)
 have sB1:LenS B1:=hB1▸hB.sublist (List.take_sublist _ _)
 have sB2:LenS B2:=hB2e▸hB.sublist (List.drop_sublist _ _)
 have lA1:∀y∈A1,y.length<4294967296:=fun y hy=>hAl y (hAe▸List.mem_append_left _ hy)
 have lA2:∀y∈A2,y.length<4294967296:=fun y hy=>hAl y (hAe▸List.mem_append_right _ hy)
 have lB1:∀y∈B1,y.length<4294967296:=fun y hy=>hBl y (hBe▸List.mem_append_left _ hy)
 have lB2:∀y∈B2,y.length<4294967296:=fun y hy=>hBl y (hBe▸List.mem_append_right _ hy)
 clear hgA hgB hA1 hA2e hB1 hB2e h4 h5 hD hla1 hlb1 hw0 hwb hw1 hw2 hbits hmid hw3 hw4 hw5
 refine .exit (.sr ?_)
 refine .seq (.seq ?_)
 refine .zac [0,1,2,3,4,5,6,7] rfl zz0 ?_
 refine .rn [0,1,2,3] _ ?_
 refine .split (t:=181) rfl (fun c181=>?_) (fun c181=>?_)
 ·try rw[c181]
  try simp at c181
  refine .rn [4,5,6,7] [] ?_
  refine .done ?_
  refine .cs ?_ ?_<;>intro c185
  ·try simp at c185
   have q226:=z9w D X (P++A1) A2 B1 (B2++S) hDe hX mm r m en hPA (by omega) (by omega) (by omega) (by omega) (by omega) (by omega) (by omega)
   refine .zac [0,1,2,3,4,5] rfl zz0 ?_
   refine .rn [0,1,2,3,4] _ ?_
   refine .step rfl rfl (.call rfl rfl rfl call226 (by decide) (((q226)).mono ?_))
   rintro _ _ ⟨rfl,n0,rfl⟩
   refine .done (.seq (.seq ?_))
   refine .rec (vts2:=[(0,.sub 0 0 mm),(1,.int .i64 a),(2,.int .i64 m),(3,.int .i64 b),(4,.func 184 [] []),(18,.int .i64 mid),(20,.int .i64 r),(24,.int .i64 en)]) (vh2:=⟨3,[(0,.arr false 1 (X.map eS))]⟩) (.mk [] [] zz20 zz21 rfl rfl rfl) ?_
   refine .zac [0,1,2,3,4,5,6,7] rfl zz0 ?_
   refine .rn [0,1,2,3] _ ?_
   refine .split (t:=195) rfl (fun c195=>?_) (fun c195=>?_)
   ·try rw[c195]
    try simp at c195
    refine .rn [4,5,6,7] [] ?_
    refine .done ?_
    refine .cs ?_ ?_<;>intro c199
    ·try simp at c199
     have qs:=ih X P A1 B1 (A2++(B2++S)) a r mid hX2 (by omega) ha (by omega) (by omega) (by omega) (by omega) (by omega) (by omega) (by omega) sA1 sB1 lA1 lB1
     refine .zac [0,1,2,3,4,5] rfl zz0 ?_
     refine .rn [0,1,2,3,4] _ ?_
     refine .step rfl rfl (.call rfl rfl rfl call219 (by decide) (((qs)).mono ?_))
     rintro _ _ ⟨rfl,O,Y,n1,hOp,hOs,hOY,rfl⟩
     refine .done (.seq ?_)
     refine .rec (vts2:=[(0,.sub 0 0 mm),(3,.int .i64 b),(4,.func 184 [] []),(18,.int .i64 mid),(24,.int .i64 en)]) (vh2:=⟨3,[(0,.arr false 1 (Y.map eS))]⟩) (.mk [] [] zz20 zz21 rfl rfl rfl) ?_
     refine .zac [0,1,2,3,4,5,6,7] rfl zz0 ?_
     refine .rn [0,1,2,3] _ ?_
     refine .split (t:=209) rfl (fun c209=>?_) (fun c209=>?_)
     ·try rw[c209]
      try simp at c209
      refine .rn [4,5,6,7] [] ?_
      refine .done ?_
      refine .cs ?_ ?_<;>intro c213
      ·try simp at c213
       have h1p:=hOp
       have h1s:=hOs
       have hol:O.length=A1.length+B1.length:=by rw[hOp.length_eq,List.length_append]
       have qs:=ih Y (P++O) A2 B2 S mid en b (by rw[← hOY];simp only[List.append_assoc]) (by omega) (by rw[List.length_append];omega) (by omega) (by omega) (by omega) (by omega) (by omega) (by omega) (by omega) sA2 sB2 lA2 lB2
       refine .zac [0,1,2,3,4,5] rfl zz0 ?_
       refine .rn [0,1,2,3,4] _ ?_
       refine .step rfl rfl (.call rfl rfl rfl call219 (by decide) (((qs)).mono ?_))
       rintro _ _ ⟨rfl,O,Y,n1,hOp,hOs,hOY,rfl⟩
       refine .done ?_
       refine⟨_,zz4,rfl,_,?_,zag h1p hOp h1s hOs sA sB hcut1 hcut2,?_⟩
       ·rw[hAe,hBe];exact zap h1p hOp
       show some _=some _;rw[← hOY];simp only[List.append_assoc]
      try simp at c213
      have h1p:=hOp
      have h1s:=hOs
      obtain⟨O2,hOp,hOs,hOY⟩:∃O2,O2.Perm (A2++B2)∧LenS O2∧(P++O)++(O2++S)=Y:=⟨A2++B2,.refl _,by rcases (show A2.length=0∨B2.length=0 by omega) with h|h<;>rw[List.eq_nil_of_length_eq_zero h]<;>simp[sA2,sB2],by rw[← hOY];simp only[List.append_assoc]⟩
      refine .skip ?_
      refine⟨_,zz4,rfl,_,?_,zag h1p hOp h1s hOs sA sB hcut1 hcut2,?_⟩
      ·rw[hAe,hBe];exact zap h1p hOp
      show some _=some _;rw[← hOY];simp only[List.append_assoc]
     try rw[c209]
     try simp at c209
     have h1p:=hOp
     have h1s:=hOs
     obtain⟨O2,hOp,hOs,hOY⟩:∃O2,O2.Perm (A2++B2)∧LenS O2∧(P++O)++(O2++S)=Y:=⟨A2++B2,.refl _,by rcases (show A2.length=0∨B2.length=0 by omega) with h|h<;>rw[List.eq_nil_of_length_eq_zero h]<;>simp[sA2,sB2],by rw[← hOY];simp only[List.append_assoc]⟩
     refine .rn [4,5,6,7] [] ?_
     refine .done (.zd3 rfl (.skip ?_))
     refine⟨_,zz4,rfl,_,?_,zag h1p hOp h1s hOs sA sB hcut1 hcut2,?_⟩
     ·rw[hAe,hBe];exact zap h1p hOp
     show some _=some _;rw[← hOY];simp only[List.append_assoc]
    try simp at c199
    obtain⟨O,Y,hOp,hOs,hOY,hXY⟩:∃O Y,O.Perm (A1++B1)∧LenS O∧P++(O++(A2++(B2++S)))=Y∧X=Y:=⟨A1++B1,X,.refl _,by rcases (show A1.length=0∨B1.length=0 by omega) with h|h<;>rw[List.eq_nil_of_length_eq_zero h]<;>simp[sA1,sB1],by rw[← hX2];simp only[List.append_assoc],rfl⟩
    rw[hXY]
    refine .skip (.seq ?_)
    refine .rec (vts2:=[(0,.sub 0 0 mm),(3,.int .i64 b),(4,.func 184 [] []),(18,.int .i64 mid),(24,.int .i64 en)]) (vh2:=⟨3,[(0,.arr false 1 (Y.map eS))]⟩) (.mk [] [] zz20 zz21 rfl rfl rfl) ?_
    refine .zac [0,1,2,3,4,5,6,7] rfl zz0 ?_
    refine .rn [0,1,2,3] _ ?_
    refine .split (t:=209) rfl (fun c209=>?_) (fun c209=>?_)
    ·try rw[c209]
     try simp at c209
     refine .rn [4,5,6,7] [] ?_
     refine .done ?_
     refine .cs ?_ ?_<;>intro c213
     ·try simp at c213
      have h1p:=hOp
      have h1s:=hOs
      have hol:O.length=A1.length+B1.length:=by rw[hOp.length_eq,List.length_append]
      have qs:=ih Y (P++O) A2 B2 S mid en b (by rw[← hOY];simp only[List.append_assoc]) (by omega) (by rw[List.length_append];omega) (by omega) (by omega) (by omega) (by omega) (by omega) (by omega) (by omega) sA2 sB2 lA2 lB2
      refine .zac [0,1,2,3,4,5] rfl zz0 ?_
      refine .rn [0,1,2,3,4] _ ?_
      refine .step rfl rfl (.call rfl rfl rfl call219 (by decide) (((qs)).mono ?_))
      rintro _ _ ⟨rfl,O,Y,n1,hOp,hOs,hOY,rfl⟩
      refine .done ?_
      refine⟨_,zz4,rfl,_,?_,zag h1p hOp h1s hOs sA sB hcut1 hcut2,?_⟩
      ·rw[hAe,hBe];exact zap h1p hOp
      show some _=some _;rw[← hOY];simp only[List.append_assoc]
     try simp at c213
     have h1p:=hOp
     have h1s:=hOs
     obtain⟨O2,hOp,hOs,hOY⟩:∃O2,O2.Perm (A2++B2)∧LenS O2∧(P++O)++(O2++S)=Y:=⟨A2++B2,.refl _,by rcases (show A2.length=0∨B2.length=0 by omega) with h|h<;>rw[List.eq_nil_of_length_eq_zero h]<;>simp[sA2,sB2],by rw[← hOY];simp only[List.append_assoc]⟩
     refine .skip ?_
     refine⟨_,zz4,rfl,_,?_,zag h1p hOp h1s hOs sA sB hcut1 hcut2,?_⟩
     ·rw[hAe,hBe];exact zap h1p hOp
     show some _=some _;rw[← hOY];simp only[List.append_assoc]
    try rw[c209]
    try simp at c209
    have h1p:=hOp
    have h1s:=hOs
    obtain⟨O2,hOp,hOs,hOY⟩:∃O2,O2.Perm (A2++B2)∧LenS O2∧(P++O)++(O2++S)=Y:=⟨A2++B2,.refl _,by rcases (show A2.length=0∨B2.length=0 by omega) with h|h<;>rw[List.eq_nil_of_length_eq_zero h]<;>simp[sA2,sB2],by rw[← hOY];simp only[List.append_assoc]⟩
    refine .rn [4,5,6,7] [] ?_
    refine .done (.zd3 rfl (.skip ?_))
    refine⟨_,zz4,rfl,_,?_,zag h1p hOp h1s hOs sA sB hcut1 hcut2,?_⟩
    ·rw[hAe,hBe];exact zap h1p hOp
    show some _=some _;rw[← hOY];simp only[List.append_assoc]
   try rw[c195]
   try simp at c195
   obtain⟨O,Y,hOp,hOs,hOY,hXY⟩:∃O Y,O.Perm (A1++B1)∧LenS O∧P++(O++(A2++(B2++S)))=Y∧X=Y:=⟨A1++B1,X,.refl _,by rcases (show A1.length=0∨B1.length=0 by omega) with h|h<;>rw[List.eq_nil_of_length_eq_zero h]<;>simp[sA1,sB1],by rw[← hX2];simp only[List.append_assoc],rfl⟩
   rw[hXY]
   refine .rn [4,5,6,7] [] ?_
   refine .done (.zd3 rfl (.skip (.seq ?_)))
   refine .rec (vts2:=[(0,.sub 0 0 mm),(3,.int .i64 b),(4,.func 184 [] []),(18,.int .i64 mid),(24,.int .i64 en)]) (vh2:=⟨3,[(0,.arr false 1 (Y.map eS))]⟩) (.mk [] [] zz20 zz21 rfl rfl rfl) ?_
   refine .zac [0,1,2,3,4,5,6,7] rfl zz0 ?_
   refine .rn [0,1,2,3] _ ?_
   refine .split (t:=209) rfl (fun c209=>?_) (fun c209=>?_)
   ·try rw[c209]
    try simp at c209
    refine .rn [4,5,6,7] [] ?_
    refine .done ?_
    refine .cs ?_ ?_<;>intro c213
    ·try simp at c213
     have h1p:=hOp
     have h1s:=hOs
     have hol:O.length=A1.length+B1.length:=by rw[hOp.length_eq,List.length_append]
     have qs:=ih Y (P++O) A2 B2 S mid en b (by rw[← hOY];simp only[List.append_assoc]) (by omega) (by rw[List.length_append];omega) (by omega) (by omega) (by omega) (by omega) (by omega) (by omega) (by omega) sA2 sB2 lA2 lB2
     refine .zac [0,1,2,3,4,5] rfl zz0 ?_
     refine .rn [0,1,2,3,4] _ ?_
     refine .step rfl rfl (.call rfl rfl rfl call219 (by decide) (((qs)).mono ?_))
     rintro _ _ ⟨rfl,O,Y,n1,hOp,hOs,hOY,rfl⟩
     refine .done ?_
     refine⟨_,zz4,rfl,_,?_,zag h1p hOp h1s hOs sA sB hcut1 hcut2,?_⟩
     ·rw[hAe,hBe];exact zap h1p hOp
     show some _=some _;rw[← hOY];simp only[List.append_assoc]
    try simp at c213
    have h1p:=hOp
    have h1s:=hOs
    obtain⟨O2,hOp,hOs,hOY⟩:∃O2,O2.Perm (A2++B2)∧LenS O2∧(P++O)++(O2++S)=Y:=⟨A2++B2,.refl _,by rcases (show A2.length=0∨B2.length=0 by omega) with h|h<;>rw[List.eq_nil_of_length_eq_zero h]<;>simp[sA2,sB2],by rw[← hOY];simp only[List.append_assoc]⟩
    refine .skip ?_
    refine⟨_,zz4,rfl,_,?_,zag h1p hOp h1s hOs sA sB hcut1 hcut2,?_⟩
    ·rw[hAe,hBe];exact zap h1p hOp
    show some _=some _;rw[← hOY];simp only[List.append_assoc]
   try rw[c209]
   try simp at c209
   have h1p:=hOp
   have h1s:=hOs
   obtain⟨O2,hOp,hOs,hOY⟩:∃O2,O2.Perm (A2++B2)∧LenS O2∧(P++O)++(O2++S)=Y:=⟨A2++B2,.refl _,by rcases (show A2.length=0∨B2.length=0 by omega) with h|h<;>rw[List.eq_nil_of_length_eq_zero h]<;>simp[sA2,sB2],by rw[← hOY];simp only[List.append_assoc]⟩
   refine .rn [4,5,6,7] [] ?_
   refine .done (.zd3 rfl (.skip ?_))
   refine⟨_,zz4,rfl,_,?_,zag h1p hOp h1s hOs sA sB hcut1 hcut2,?_⟩
   ·rw[hAe,hBe];exact zap h1p hOp
   show some _=some _;rw[← hOY];simp only[List.append_assoc]
  try simp at c185
  have hDX:D=X:=by
   rcases (show A2.length=0∨B1.length=0 by omega) with h|h<;>rw[← hDe,← hX,List.eq_nil_of_length_eq_zero h]<;>rfl
  rw[hDX]
  refine .skip (.seq (.seq ?_))
  refine .rec (vts2:=[(0,.sub 0 0 mm),(1,.int .i64 a),(2,.int .i64 m),(3,.int .i64 b),(4,.func 184 [] []),(18,.int .i64 mid),(20,.int .i64 r),(24,.int .i64 en)]) (vh2:=⟨3,[(0,.arr false 1 (X.map eS))]⟩) (.mk [] [] zz20 zz21 rfl rfl rfl) ?_
  refine .zac [0,1,2,3,4,5,6,7] rfl zz0 ?_
  refine .rn [0,1,2,3] _ ?_
  refine .split (t:=195) rfl (fun c195=>?_) (fun c195=>?_)
  ·try rw[c195]
   try simp at c195
   refine .rn [4,5,6,7] [] ?_
   refine .done ?_
   refine .cs ?_ ?_<;>intro c199
   ·try simp at c199
    have qs:=ih X P A1 B1 (A2++(B2++S)) a r mid hX2 (by omega) ha (by omega) (by omega) (by omega) (by omega) (by omega) (by omega) (by omega) sA1 sB1 lA1 lB1
    refine .zac [0,1,2,3,4,5] rfl zz0 ?_
    refine .rn [0,1,2,3,4] _ ?_
    refine .step rfl rfl (.call rfl rfl rfl call219 (by decide) (((qs)).mono ?_))
    rintro _ _ ⟨rfl,O,Y,n1,hOp,hOs,hOY,rfl⟩
    refine .done (.seq ?_)
    refine .rec (vts2:=[(0,.sub 0 0 mm),(3,.int .i64 b),(4,.func 184 [] []),(18,.int .i64 mid),(24,.int .i64 en)]) (vh2:=⟨3,[(0,.arr false 1 (Y.map eS))]⟩) (.mk [] [] zz20 zz21 rfl rfl rfl) ?_
    refine .zac [0,1,2,3,4,5,6,7] rfl zz0 ?_
    refine .rn [0,1,2,3] _ ?_
    refine .split (t:=209) rfl (fun c209=>?_) (fun c209=>?_)
    ·try rw[c209]
     try simp at c209
     refine .rn [4,5,6,7] [] ?_
     refine .done ?_
     refine .cs ?_ ?_<;>intro c213
     ·try simp at c213
      have h1p:=hOp
      have h1s:=hOs
      have hol:O.length=A1.length+B1.length:=by rw[hOp.length_eq,List.length_append]
      have qs:=ih Y (P++O) A2 B2 S mid en b (by rw[← hOY];simp only[List.append_assoc]) (by omega) (by rw[List.length_append];omega) (by omega) (by omega) (by omega) (by omega) (by omega) (by omega) (by omega) sA2 sB2 lA2 lB2
      refine .zac [0,1,2,3,4,5] rfl zz0 ?_
      refine .rn [0,1,2,3,4] _ ?_
      refine .step rfl rfl (.call rfl rfl rfl call219 (by decide) (((qs)).mono ?_))
      rintro _ _ ⟨rfl,O,Y,n1,hOp,hOs,hOY,rfl⟩
      refine .done ?_
      refine⟨_,zz4,rfl,_,?_,zag h1p hOp h1s hOs sA sB hcut1 hcut2,?_⟩
      ·rw[hAe,hBe];exact zap h1p hOp
      show some _=some _;rw[← hOY];simp only[List.append_assoc]
     try simp at c213
     have h1p:=hOp
     have h1s:=hOs
     obtain⟨O2,hOp,hOs,hOY⟩:∃O2,O2.Perm (A2++B2)∧LenS O2∧(P++O)++(O2++S)=Y:=⟨A2++B2,.refl _,by rcases (show A2.length=0∨B2.length=0 by omega) with h|h<;>rw[List.eq_nil_of_length_eq_zero h]<;>simp[sA2,sB2],by rw[← hOY];simp only[List.append_assoc]⟩
     refine .skip ?_
     refine⟨_,zz4,rfl,_,?_,zag h1p hOp h1s hOs sA sB hcut1 hcut2,?_⟩
     ·rw[hAe,hBe];exact zap h1p hOp
     show some _=some _;rw[← hOY];simp only[List.append_assoc]
    try rw[c209]
    try simp at c209
    have h1p:=hOp
    have h1s:=hOs
    obtain⟨O2,hOp,hOs,hOY⟩:∃O2,O2.Perm (A2++B2)∧LenS O2∧(P++O)++(O2++S)=Y:=⟨A2++B2,.refl _,by rcases (show A2.length=0∨B2.length=0 by omega) with h|h<;>rw[List.eq_nil_of_length_eq_zero h]<;>simp[sA2,sB2],by rw[← hOY];simp only[List.append_assoc]⟩
    refine .rn [4,5,6,7] [] ?_
    refine .done (.zd3 rfl (.skip ?_))
    refine⟨_,zz4,rfl,_,?_,zag h1p hOp h1s hOs sA sB hcut1 hcut2,?_⟩
    ·rw[hAe,hBe];exact zap h1p hOp
    show some _=some _;rw[← hOY];simp only[List.append_assoc]
   try simp at c199
   obtain⟨O,Y,hOp,hOs,hOY,hXY⟩:∃O Y,O.Perm (A1++B1)∧LenS O∧P++(O++(A2++(B2++S)))=Y∧X=Y:=⟨A1++B1,X,.refl _,by rcases (show A1.length=0∨B1.length=0 by omega) with h|h<;>rw[List.eq_nil_of_length_eq_zero h]<;>simp[sA1,sB1],by rw[← hX2];simp only[List.append_assoc],rfl⟩
   rw[hXY]
   refine .skip (.seq ?_)
   refine .rec (vts2:=[(0,.sub 0 0 mm),(3,.int .i64 b),(4,.func 184 [] []),(18,.int .i64 mid),(24,.int .i64 en)]) (vh2:=⟨3,[(0,.arr false 1 (Y.map eS))]⟩) (.mk [] [] zz20 zz21 rfl rfl rfl) ?_
   refine .zac [0,1,2,3,4,5,6,7] rfl zz0 ?_
   refine .rn [0,1,2,3] _ ?_
   refine .split (t:=209) rfl (fun c209=>?_) (fun c209=>?_)
   ·try rw[c209]
    try simp at c209
    refine .rn [4,5,6,7] [] ?_
    refine .done ?_
    refine .cs ?_ ?_<;>intro c213
    ·try simp at c213
     have h1p:=hOp
     have h1s:=hOs
     have hol:O.length=A1.length+B1.length:=by rw[hOp.length_eq,List.length_append]
     have qs:=ih Y (P++O) A2 B2 S mid en b (by rw[← hOY];simp only[List.append_assoc]) (by omega) (by rw[List.length_append];omega) (by omega) (by omega) (by omega) (by omega) (by omega) (by omega) (by omega) sA2 sB2 lA2 lB2
     refine .zac [0,1,2,3,4,5] rfl zz0 ?_
     refine .rn [0,1,2,3,4] _ ?_
     refine .step rfl rfl (.call rfl rfl rfl call219 (by decide) (((qs)).mono ?_))
     rintro _ _ ⟨rfl,O,Y,n1,hOp,hOs,hOY,rfl⟩
     refine .done ?_
     refine⟨_,zz4,rfl,_,?_,zag h1p hOp h1s hOs sA sB hcut1 hcut2,?_⟩
     ·rw[hAe,hBe];exact zap h1p hOp
     show some _=some _;rw[← hOY];simp only[List.append_assoc]
    try simp at c213
    have h1p:=hOp
    have h1s:=hOs
    obtain⟨O2,hOp,hOs,hOY⟩:∃O2,O2.Perm (A2++B2)∧LenS O2∧(P++O)++(O2++S)=Y:=⟨A2++B2,.refl _,by rcases (show A2.length=0∨B2.length=0 by omega) with h|h<;>rw[List.eq_nil_of_length_eq_zero h]<;>simp[sA2,sB2],by rw[← hOY];simp only[List.append_assoc]⟩
    refine .skip ?_
    refine⟨_,zz4,rfl,_,?_,zag h1p hOp h1s hOs sA sB hcut1 hcut2,?_⟩
    ·rw[hAe,hBe];exact zap h1p hOp
    show some _=some _;rw[← hOY];simp only[List.append_assoc]
   try rw[c209]
   try simp at c209
   have h1p:=hOp
   have h1s:=hOs
   obtain⟨O2,hOp,hOs,hOY⟩:∃O2,O2.Perm (A2++B2)∧LenS O2∧(P++O)++(O2++S)=Y:=⟨A2++B2,.refl _,by rcases (show A2.length=0∨B2.length=0 by omega) with h|h<;>rw[List.eq_nil_of_length_eq_zero h]<;>simp[sA2,sB2],by rw[← hOY];simp only[List.append_assoc]⟩
   refine .rn [4,5,6,7] [] ?_
   refine .done (.zd3 rfl (.skip ?_))
   refine⟨_,zz4,rfl,_,?_,zag h1p hOp h1s hOs sA sB hcut1 hcut2,?_⟩
   ·rw[hAe,hBe];exact zap h1p hOp
   show some _=some _;rw[← hOY];simp only[List.append_assoc]
  try rw[c195]
  try simp at c195
  obtain⟨O,Y,hOp,hOs,hOY,hXY⟩:∃O Y,O.Perm (A1++B1)∧LenS O∧P++(O++(A2++(B2++S)))=Y∧X=Y:=⟨A1++B1,X,.refl _,by rcases (show A1.length=0∨B1.length=0 by omega) with h|h<;>rw[List.eq_nil_of_length_eq_zero h]<;>simp[sA1,sB1],by rw[← hX2];simp only[List.append_assoc],rfl⟩
  rw[hXY]
  refine .rn [4,5,6,7] [] ?_
  refine .done (.zd3 rfl (.skip (.seq ?_)))
  refine .rec (vts2:=[(0,.sub 0 0 mm),(3,.int .i64 b),(4,.func 184 [] []),(18,.int .i64 mid),(24,.int .i64 en)]) (vh2:=⟨3,[(0,.arr false 1 (Y.map eS))]⟩) (.mk [] [] zz20 zz21 rfl rfl rfl) ?_
  refine .zac [0,1,2,3,4,5,6,7] rfl zz0 ?_
  refine .rn [0,1,2,3] _ ?_
  refine .split (t:=209) rfl (fun c209=>?_) (fun c209=>?_)
  ·try rw[c209]
   try simp at c209
   refine .rn [4,5,6,7] [] ?_
   refine .done ?_
   refine .cs ?_ ?_<;>intro c213
   ·try simp at c213
    have h1p:=hOp
    have h1s:=hOs
    have hol:O.length=A1.length+B1.length:=by rw[hOp.length_eq,List.length_append]
    have qs:=ih Y (P++O) A2 B2 S mid en b (by rw[← hOY];simp only[List.append_assoc]) (by omega) (by rw[List.length_append];omega) (by omega) (by omega) (by omega) (by omega) (by omega) (by omega) (by omega) sA2 sB2 lA2 lB2
    refine .zac [0,1,2,3,4,5] rfl zz0 ?_
    refine .rn [0,1,2,3,4] _ ?_
    refine .step rfl rfl (.call rfl rfl rfl call219 (by decide) (((qs)).mono ?_))
    rintro _ _ ⟨rfl,O,Y,n1,hOp,hOs,hOY,rfl⟩
    refine .done ?_
    refine⟨_,zz4,rfl,_,?_,zag h1p hOp h1s hOs sA sB hcut1 hcut2,?_⟩
    ·rw[hAe,hBe];exact zap h1p hOp
    show some _=some _;rw[← hOY];simp only[List.append_assoc]
   try simp at c213
   have h1p:=hOp
   have h1s:=hOs
   obtain⟨O2,hOp,hOs,hOY⟩:∃O2,O2.Perm (A2++B2)∧LenS O2∧(P++O)++(O2++S)=Y:=⟨A2++B2,.refl _,by rcases (show A2.length=0∨B2.length=0 by omega) with h|h<;>rw[List.eq_nil_of_length_eq_zero h]<;>simp[sA2,sB2],by rw[← hOY];simp only[List.append_assoc]⟩
   refine .skip ?_
   refine⟨_,zz4,rfl,_,?_,zag h1p hOp h1s hOs sA sB hcut1 hcut2,?_⟩
   ·rw[hAe,hBe];exact zap h1p hOp
   show some _=some _;rw[← hOY];simp only[List.append_assoc]
  try rw[c209]
  try simp at c209
  have h1p:=hOp
  have h1s:=hOs
  obtain⟨O2,hOp,hOs,hOY⟩:∃O2,O2.Perm (A2++B2)∧LenS O2∧(P++O)++(O2++S)=Y:=⟨A2++B2,.refl _,by rcases (show A2.length=0∨B2.length=0 by omega) with h|h<;>rw[List.eq_nil_of_length_eq_zero h]<;>simp[sA2,sB2],by rw[← hOY];simp only[List.append_assoc]⟩
  refine .rn [4,5,6,7] [] ?_
  refine .done (.zd3 rfl (.skip ?_))
  refine⟨_,zz4,rfl,_,?_,zag h1p hOp h1s hOs sA sB hcut1 hcut2,?_⟩
  ·rw[hAe,hBe];exact zap h1p hOp
  show some _=some _;rw[← hOY];simp only[List.append_assoc]
 try rw[c181]
 try simp at c181
 have hDX:D=X:=by
  rcases (show A2.length=0∨B1.length=0 by omega) with h|h<;>rw[← hDe,← hX,List.eq_nil_of_length_eq_zero h]<;>rfl
 rw[hDX]
 refine .rn [4,5,6,7] [] ?_
 refine .done (.zd3 rfl (.skip (.seq (.seq ?_))))
 refine .rec (vts2:=[(0,.sub 0 0 mm),(1,.int .i64 a),(2,.int .i64 m),(3,.int .i64 b),(4,.func 184 [] []),(18,.int .i64 mid),(20,.int .i64 r),(24,.int .i64 en)]) (vh2:=⟨3,[(0,.arr false 1 (X.map eS))]⟩) (.mk [] [] zz20 zz21 rfl rfl rfl) ?_
 refine .zac [0,1,2,3,4,5,6,7] rfl zz0 ?_
 refine .rn [0,1,2,3] _ ?_
 refine .split (t:=195) rfl (fun c195=>?_) (fun c195=>?_)
 ·try rw[c195]
  try simp at c195
  refine .rn [4,5,6,7] [] ?_
  refine .done ?_
  refine .cs ?_ ?_<;>intro c199
  ·try simp at c199
   have qs:=ih X P A1 B1 (A2++(B2++S)) a r mid hX2 (by omega) ha (by omega) (by omega) (by omega) (by omega) (by omega) (by omega) (by omega) sA1 sB1 lA1 lB1
   refine .zac [0,1,2,3,4,5] rfl zz0 ?_
   refine .rn [0,1,2,3,4] _ ?_
   refine .step rfl rfl (.call rfl rfl rfl call219 (by decide) (((qs)).mono ?_))
   rintro _ _ ⟨rfl,O,Y,n1,hOp,hOs,hOY,rfl⟩
   refine .done (.seq ?_)
   refine .rec (vts2:=[(0,.sub 0 0 mm),(3,.int .i64 b),(4,.func 184 [] []),(18,.int .i64 mid),(24,.int .i64 en)]) (vh2:=⟨3,[(0,.arr false 1 (Y.map eS))]⟩) (.mk [] [] zz20 zz21 rfl rfl rfl) ?_
   refine .zac [0,1,2,3,4,5,6,7] rfl zz0 ?_
   refine .rn [0,1,2,3] _ ?_
   refine .split (t:=209) rfl (fun c209=>?_) (fun c209=>?_)
   ·try rw[c209]
    try simp at c209
    refine .rn [4,5,6,7] [] ?_
    refine .done ?_
    refine .cs ?_ ?_<;>intro c213
    ·try simp at c213
     have h1p:=hOp
     have h1s:=hOs
     have hol:O.length=A1.length+B1.length:=by rw[hOp.length_eq,List.length_append]
     have qs:=ih Y (P++O) A2 B2 S mid en b (by rw[← hOY];simp only[List.append_assoc]) (by omega) (by rw[List.length_append];omega) (by omega) (by omega) (by omega) (by omega) (by omega) (by omega) (by omega) sA2 sB2 lA2 lB2
     refine .zac [0,1,2,3,4,5] rfl zz0 ?_
     refine .rn [0,1,2,3,4] _ ?_
     refine .step rfl rfl (.call rfl rfl rfl call219 (by decide) (((qs)).mono ?_))
     rintro _ _ ⟨rfl,O,Y,n1,hOp,hOs,hOY,rfl⟩
     refine .done ?_
     refine⟨_,zz4,rfl,_,?_,zag h1p hOp h1s hOs sA sB hcut1 hcut2,?_⟩
     ·rw[hAe,hBe];exact zap h1p hOp
     show some _=some _;rw[← hOY];simp only[List.append_assoc]
    try simp at c213
    have h1p:=hOp
    have h1s:=hOs
    obtain⟨O2,hOp,hOs,hOY⟩:∃O2,O2.Perm (A2++B2)∧LenS O2∧(P++O)++(O2++S)=Y:=⟨A2++B2,.refl _,by rcases (show A2.length=0∨B2.length=0 by omega) with h|h<;>rw[List.eq_nil_of_length_eq_zero h]<;>simp[sA2,sB2],by rw[← hOY];simp only[List.append_assoc]⟩
    refine .skip ?_
    refine⟨_,zz4,rfl,_,?_,zag h1p hOp h1s hOs sA sB hcut1 hcut2,?_⟩
    ·rw[hAe,hBe];exact zap h1p hOp
    show some _=some _;rw[← hOY];simp only[List.append_assoc]
   try rw[c209]
   try simp at c209
   have h1p:=hOp
   have h1s:=hOs
   obtain⟨O2,hOp,hOs,hOY⟩:∃O2,O2.Perm (A2++B2)∧LenS O2∧(P++O)++(O2++S)=Y:=⟨A2++B2,.refl _,by rcases (show A2.length=0∨B2.length=0 by omega) with h|h<;>rw[List.eq_nil_of_length_eq_zero h]<;>simp[sA2,sB2],by rw[← hOY];simp only[List.append_assoc]⟩
   refine .rn [4,5,6,7] [] ?_
   refine .done (.zd3 rfl (.skip ?_))
   refine⟨_,zz4,rfl,_,?_,zag h1p hOp h1s hOs sA sB hcut1 hcut2,?_⟩
   ·rw[hAe,hBe];exact zap h1p hOp
   show some _=some _;rw[← hOY];simp only[List.append_assoc]
  try simp at c199
  obtain⟨O,Y,hOp,hOs,hOY,hXY⟩:∃O Y,O.Perm (A1++B1)∧LenS O∧P++(O++(A2++(B2++S)))=Y∧X=Y:=⟨A1++B1,X,.refl _,by rcases (show A1.length=0∨B1.length=0 by omega) with h|h<;>rw[List.eq_nil_of_length_eq_zero h]<;>simp[sA1,sB1],by rw[← hX2];simp only[List.append_assoc],rfl⟩
  rw[hXY]
  refine .skip (.seq ?_)
  refine .rec (vts2:=[(0,.sub 0 0 mm),(3,.int .i64 b),(4,.func 184 [] []),(18,.int .i64 mid),(24,.int .i64 en)]) (vh2:=⟨3,[(0,.arr false 1 (Y.map eS))]⟩) (.mk [] [] zz20 zz21 rfl rfl rfl) ?_
  refine .zac [0,1,2,3,4,5,6,7] rfl zz0 ?_
  refine .rn [0,1,2,3] _ ?_
  refine .split (t:=209) rfl (fun c209=>?_) (fun c209=>?_)
  ·try rw[c209]
   try simp at c209
   refine .rn [4,5,6,7] [] ?_
   refine .done ?_
   refine .cs ?_ ?_<;>intro c213
   ·try simp at c213
    have h1p:=hOp
    have h1s:=hOs
    have hol:O.length=A1.length+B1.length:=by rw[hOp.length_eq,List.length_append]
    have qs:=ih Y (P++O) A2 B2 S mid en b (by rw[← hOY];simp only[List.append_assoc]) (by omega) (by rw[List.length_append];omega) (by omega) (by omega) (by omega) (by omega) (by omega) (by omega) (by omega) sA2 sB2 lA2 lB2
    refine .zac [0,1,2,3,4,5] rfl zz0 ?_
    refine .rn [0,1,2,3,4] _ ?_
    refine .step rfl rfl (.call rfl rfl rfl call219 (by decide) (((qs)).mono ?_))
    rintro _ _ ⟨rfl,O,Y,n1,hOp,hOs,hOY,rfl⟩
    refine .done ?_
    refine⟨_,zz4,rfl,_,?_,zag h1p hOp h1s hOs sA sB hcut1 hcut2,?_⟩
    ·rw[hAe,hBe];exact zap h1p hOp
    show some _=some _;rw[← hOY];simp only[List.append_assoc]
   try simp at c213
   have h1p:=hOp
   have h1s:=hOs
   obtain⟨O2,hOp,hOs,hOY⟩:∃O2,O2.Perm (A2++B2)∧LenS O2∧(P++O)++(O2++S)=Y:=⟨A2++B2,.refl _,by rcases (show A2.length=0∨B2.length=0 by omega) with h|h<;>rw[List.eq_nil_of_length_eq_zero h]<;>simp[sA2,sB2],by rw[← hOY];simp only[List.append_assoc]⟩
   refine .skip ?_
   refine⟨_,zz4,rfl,_,?_,zag h1p hOp h1s hOs sA sB hcut1 hcut2,?_⟩
   ·rw[hAe,hBe];exact zap h1p hOp
   show some _=some _;rw[← hOY];simp only[List.append_assoc]
  try rw[c209]
  try simp at c209
  have h1p:=hOp
  have h1s:=hOs
  obtain⟨O2,hOp,hOs,hOY⟩:∃O2,O2.Perm (A2++B2)∧LenS O2∧(P++O)++(O2++S)=Y:=⟨A2++B2,.refl _,by rcases (show A2.length=0∨B2.length=0 by omega) with h|h<;>rw[List.eq_nil_of_length_eq_zero h]<;>simp[sA2,sB2],by rw[← hOY];simp only[List.append_assoc]⟩
  refine .rn [4,5,6,7] [] ?_
  refine .done (.zd3 rfl (.skip ?_))
  refine⟨_,zz4,rfl,_,?_,zag h1p hOp h1s hOs sA sB hcut1 hcut2,?_⟩
  ·rw[hAe,hBe];exact zap h1p hOp
  show some _=some _;rw[← hOY];simp only[List.append_assoc]
 try rw[c195]
 try simp at c195
 obtain⟨O,Y,hOp,hOs,hOY,hXY⟩:∃O Y,O.Perm (A1++B1)∧LenS O∧P++(O++(A2++(B2++S)))=Y∧X=Y:=⟨A1++B1,X,.refl _,by rcases (show A1.length=0∨B1.length=0 by omega) with h|h<;>rw[List.eq_nil_of_length_eq_zero h]<;>simp[sA1,sB1],by rw[← hX2];simp only[List.append_assoc],rfl⟩
 rw[hXY]
 refine .rn [4,5,6,7] [] ?_
 refine .done (.zd3 rfl (.skip (.seq ?_)))
 refine .rec (vts2:=[(0,.sub 0 0 mm),(3,.int .i64 b),(4,.func 184 [] []),(18,.int .i64 mid),(24,.int .i64 en)]) (vh2:=⟨3,[(0,.arr false 1 (Y.map eS))]⟩) (.mk [] [] zz20 zz21 rfl rfl rfl) ?_
 refine .zac [0,1,2,3,4,5,6,7] rfl zz0 ?_
 refine .rn [0,1,2,3] _ ?_
 refine .split (t:=209) rfl (fun c209=>?_) (fun c209=>?_)
 ·try rw[c209]
  try simp at c209
  refine .rn [4,5,6,7] [] ?_
  refine .done ?_
  refine .cs ?_ ?_<;>intro c213
  ·try simp at c213
   have h1p:=hOp
   have h1s:=hOs
   have hol:O.length=A1.length+B1.length:=by rw[hOp.length_eq,List.length_append]
   have qs:=ih Y (P++O) A2 B2 S mid en b (by rw[← hOY];simp only[List.append_assoc]) (by omega) (by rw[List.length_append];omega) (by omega) (by omega) (by omega) (by omega) (by omega) (by omega) (by omega) sA2 sB2 lA2 lB2
   refine .zac [0,1,2,3,4,5] rfl zz0 ?_
   refine .rn [0,1,2,3,4] _ ?_
   refine .step rfl rfl (.call rfl rfl rfl call219 (by decide) (((qs)).mono ?_))
   rintro _ _ ⟨rfl,O,Y,n1,hOp,hOs,hOY,rfl⟩
   refine .done ?_
   refine⟨_,zz4,rfl,_,?_,zag h1p hOp h1s hOs sA sB hcut1 hcut2,?_⟩
   ·rw[hAe,hBe];exact zap h1p hOp
   show some _=some _;rw[← hOY];simp only[List.append_assoc]
  try simp at c213
  have h1p:=hOp
  have h1s:=hOs
  obtain⟨O2,hOp,hOs,hOY⟩:∃O2,O2.Perm (A2++B2)∧LenS O2∧(P++O)++(O2++S)=Y:=⟨A2++B2,.refl _,by rcases (show A2.length=0∨B2.length=0 by omega) with h|h<;>rw[List.eq_nil_of_length_eq_zero h]<;>simp[sA2,sB2],by rw[← hOY];simp only[List.append_assoc]⟩
  refine .skip ?_
  refine⟨_,zz4,rfl,_,?_,zag h1p hOp h1s hOs sA sB hcut1 hcut2,?_⟩
  ·rw[hAe,hBe];exact zap h1p hOp
  show some _=some _;rw[← hOY];simp only[List.append_assoc]
 try rw[c209]
 try simp at c209
 have h1p:=hOp
 have h1s:=hOs
 obtain⟨O2,hOp,hOs,hOY⟩:∃O2,O2.Perm (A2++B2)∧LenS O2∧(P++O)++(O2++S)=Y:=⟨A2++B2,.refl _,by rcases (show A2.length=0∨B2.length=0 by omega) with h|h<;>rw[List.eq_nil_of_length_eq_zero h]<;>simp[sA2,sB2],by rw[← hOY];simp only[List.append_assoc]⟩
 refine .rn [4,5,6,7] [] ?_
 refine .done (.zd3 rfl (.skip ?_))
 refine⟨_,zz4,rfl,_,?_,zag h1p hOp h1s hOs sA sB hcut1 hcut2,?_⟩
 ·rw[hAe,hBe];exact zap h1p hOp
 show some _=some _;rw[← hOY];simp only[List.append_assoc]
end Go.Am.Ds
end
/-
 Descent: symMerge merges two rising rows (by induction).
-/
section
namespace Go.Am.Ds
open Go Go.Am Go.Proofs Tryz
theorem z4r {P S A B D:List (List Int)}{args:List PV}(h:zbj prog 219 args ⟨3,[(0,.arr false 1 (D.map eS))]⟩ fun v vh'=>v=.tup []∧∃O,O.Perm (A++B)∧LenS O∧vh'.get 0=some (.arr false 1 ((P++(O++S)).map eS))) :
  zbj prog 219 args ⟨3,[(0,.arr false 1 (D.map eS))]⟩ fun v vh'=>v=.tup []∧∃O Y n,O.Perm (A++B)∧LenS O∧P++(O++S)=Y∧vh'=⟨n,[(0,.arr false 1 (Y.map eS))]⟩:=
 zbj.only h fun v vh' ⟨h1,O,h2,h3,h4⟩=>⟨_,zvf h4,rfl,h1,O,_,_,h2,h3,rfl,rfl⟩
theorem zre (mm:Nat):∀N,z7o mm N
 |0=>fun D P A B S a m b hD hN=>absurd hN (by omega)
 |N+1=>fun D P A B S a m b hD hN ha ham hmb hbm hmm hl hA0 hB0 hA hB hAl hBl=>by
  have ih:=zre mm N
  by_cases hA1:A.length=1
  ·obtain⟨x,rfl⟩:=List.length_eq_one_iff.1 hA1
   have e:shQ P B S x 0=D:=by rw[← hD];rfl
   have:=xfh P B S x mm a m b ha ham hmb hbm hmm hl hB (hAl x List.mem_cons_self) hBl
   rw[e] at this
   exact z4r (A:=[x]) this
  by_cases hB1:B.length=1
  ·obtain⟨x,rfl⟩:=List.length_eq_one_iff.1 hB1
   have e:shQ P A S x A.length=D:=by rw[← hD];unfold shQ;simp
   have:=xd3 P A S x mm a m b ha ham (by omega) hmb hbm hmm hl hA (hBl x List.mem_cons_self) hAl
   rw[e] at this
   refine z4r (this.mono fun v vh' ⟨h1,O,h2,h3,h4⟩=>⟨h1,O,h2.trans (List.perm_append_singleton x A).symm,h3,h4⟩)
  exact z4r (xdj D P A B S mm a m b hD (fun D' P' A' B' S' a' m' b' h1 h2=>ih D' P' A' B' S' a' m' b' h1 (by omega)) ha ham hmb (by omega) (by omega) hbm hmm hl hA hB hAl hBl)
end Go.Am.Ds
end
