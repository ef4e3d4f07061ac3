/-
 What is used in the proof of a statement (part DsL); no condition.
-/
import Derived.Test.YtnablaecbohhmaaGreatDsZ
import Derived.Test.YtnablaecbohhmaaGreatVm2
import Derived.Test.YtnablaecbohhmaaGreatDsT
import Derived.Test.YtnablaecbohhmaaGreatDsK
import Derived.Test.YtnablaecbohhmaaGreatDsJ
import Derived.Test.YtnablaecbohhmaaGreatDsF
import Derived.Test.YtnablaecbohhmaaGreatDsH
import Derived.Test.YtnablaecbohhmaaGreatDsD
set_option linter.all false
set_option maxHeartbeats 40000000
set_option maxRecDepth 100000
section
namespace Go.Am.Ds
open Go Go.Am Go.Proofs Tryz
attribute [local simp] vrun zaz zbg vop vopA zb2 zab.back hidI hidF zdh bm Nat.testBit_eq_decide_div_mod_eq za6 zbo zb4 vO zbc vlen zbs zbz zd2 zaq zak zcj vbox zbe zdu zby zge zdt zcm zau zcn zav zcl zbf zci zbr zbl vbnd zcz vidx zbp zdk zar zbt zct zdj zd9 zd6 vbin vsc vsc1 vscs vscl zbv aint zb3 zdl za8 zcx zd0 pvcV pvc pvcs tput tget zdd zab.get zab.alloc zab.put zab.drop zab.empty zce vput zdi zbb zca zda chunk List.range List.range.loop za0 zbu za1 frz frzL PV.isF PV.allF PV.scal PV.allS retP subT zds PV.one PV.ids PV.idsL zcc beq_eq zbw zbx
attribute [local simp ↓ high] zi2
attribute [local simp] zW tup2
theorem z0g {A R:List (List Int)}{n m:Nat}(hn:A.length=n)(hm:n+R.length=m):segS (A++R) n m=A++srtL R:=by
 subst hn;subst hm
 unfold segS
 rw[List.take_left,List.take_of_length_le (l:=A++R) (by simp),List.drop_left,List.drop_eq_nil_of_le (by simp),List.append_nil]
theorem zzc (C:List (List Int))(m:Nat)(hm:C.length=m)(h20:20≤m)(h39:m<40)(hC:∀c∈C,c.length<4294967296):∃C1 C2 A B:List (List Int),
  zbj prog 218 [.sub 0 0 m,.int .i64 0,.int .i64 20,.func 184 [] []] ⟨3,[(0,.arr false 1 (C.map eS))]⟩ (fun v vh'=>v=.tup []∧∃n,vh'=⟨n,[(0,.arr false 1 (C1.map eS))]⟩)∧
  zbj prog 218 [.sub 0 0 m,.int .i64 20,.int .i64 m,.func 184 [] []] ⟨3,[(0,.arr false 1 (C1.map eS))]⟩ (fun v vh'=>v=.tup []∧∃n,vh'=⟨n,[(0,.arr false 1 (C2.map eS))]⟩)∧
  []++(A++(B++[]))=C2∧A.length=20∧20+B.length=m∧LenS A∧LenS B∧(∀y∈A,y.length<4294967296)∧(∀y∈B,y.length<4294967296)∧(A++B).Perm C:=by
 have e1:segS C 0 20=srtL (C.take 20)++C.drop 20:=by unfold segS;simp
 have hl1:(srtL (C.take 20)).length=20:=by rw[zlq,List.length_take];omega
 have e2:segS (srtL (C.take 20)++C.drop 20) 20 m=srtL (C.take 20)++srtL (C.drop 20):=z0g hl1 (by rw[List.length_drop];omega)
 have pA:(srtL (C.take 20)).Perm (C.take 20):=zg2 _
 have pB:(srtL (C.drop 20)).Perm (C.drop 20):=zg2 _
 have h1:=z2s C m 0 20 (by omega) h20 (by omega) (by omega) hC
 rw[e1] at h1
 have h2:=z2s (srtL (C.take 20)++C.drop 20) m 20 m h20 (by omega) (by rw[List.length_append,hl1,List.length_drop];omega) (by rw[List.length_append,hl1,List.length_drop];omega) (fun c hc=>by
  rcases List.mem_append.1 hc with h|h
  ·exact hC c (List.mem_of_mem_take (pA.mem_iff.1 h))
  exact hC c (List.mem_of_mem_drop h))
 rw[e2] at h2
 exact⟨_,_,srtL (C.take 20),srtL (C.drop 20),h1,h2,by simp,hl1,by rw[zlq,List.length_drop];omega,zhk _,zhk _,fun c hc=>hC c (List.mem_of_mem_take (pA.mem_iff.1 hc)),fun c hc=>hC c (List.mem_of_mem_drop (pB.mem_iff.1 hc)),(pA.append pB).trans (by rw[List.take_append_drop])⟩
theorem xcc (C:List (List Int))(m:Nat)(hm:C.length=m)(h20:20≤m)(h39:m<40)(hC:∀c∈C,c.length<4294967296):zbj prog 202 [.sub 0 0 m,.int .i64 m,.func 184 [] []] ⟨3,[(0,.arr false 1 (C.map eS))]⟩ fun v vh'=>v=.tup []∧∃O,O.Perm C∧LenS O∧vh'.get 0=some (.arr false 1 (O.map eS)):=by
 obtain⟨C1,C2,A,B,q1,q2,hAB,hAl,hBl,sA,sB,lA,lB,hp⟩:=zzc C m hm h20 h39 hC
 have hw1:IntKind.i64.wrap 40=40:=rfl
 have hw0:IntKind.i64.wrap 20=20:=rfl
 have hw2:IntKind.i64.wrap (20+20)=40:=rfl
 refine .zah func202 rfl rfl ?_
 refine .sr ?_
 refine .sr ?_
 refine .seq (.block ?_)
 refine .zco (fun q:Int×Int×List (List Int)=>([(0,.sub 0 0 m),(1,.int .i64 m),(2,.func 184 [] []),(6,.int .i64 20),(7,.int .i64 q.1),(8,.int .i64 q.2.1)],⟨3,[(0,.arr false 1 (q.2.2.map eS))]⟩)) (fun q=>(q.1=0∧q.2.1=20∧q.2.2=C)∨(q.1=20∧q.2.1=40∧q.2.2=C1)) (fun q=>(40 - q.2.1).toNat) (0,20,C) (.inl ⟨rfl,rfl,rfl⟩) (.mk [] [] zz20 zz21 rfl rfl rfl) ?_
 rintro⟨a,b,Q⟩ hQ
 simp only at hQ ⊢
 refine .seq (.sr ?_)
 refine .cs ?_ ?_<;>intro c13
 ·try simp at c13
  obtain⟨rfl,rfl,rfl⟩:a=0∧b=20∧Q=C:=by
   rcases hQ with h|h
   ·exact h
   exfalso;omega
  refine .skip (.block (.seq ?_))
  refine .zac [0,1,2,3,4] rfl zz0 ?_
  refine .rn [0,1,2,3] _ ?_
  refine .step rfl rfl (.call rfl rfl rfl call218 (by decide) (((q1)).mono ?_))
  rintro _ _ ⟨rfl,n,rfl⟩
  refine .done (.sr ?_)
  refine .rn ?_
  refine⟨(20,40,C1),.inr ⟨rfl,rfl,rfl⟩,by simp,(.mk [] [] zz20 zz21 rfl rfl rfl)⟩
 try simp at c13
 obtain⟨rfl,rfl,rfl⟩:a=20∧b=40∧Q=C1:=by
  rcases hQ with h|h
  ·exfalso;omega
  exact h
 refine .exit (.seq ?_)
 refine .zac [0,1,2,3,4] rfl zz0 ?_
 refine .rn [0,1,2,3] _ ?_
 refine .step rfl rfl (.call rfl rfl rfl call218 (by decide) (((q2)).mono ?_))
 rintro _ _ ⟨rfl,n,rfl⟩
 refine .done (.block ?_)
 refine .zco (fun q:Int×List (List Int)=>([(0,.sub 0 0 m),(1,.int .i64 m),(2,.func 184 [] []),(6,.int .i64 q.1)],⟨3,[(0,.arr false 1 (q.2.map eS))]⟩)) (fun q=>(q.1=20∧q.2=C2)∨(q.1=40∧q.2.Perm C∧LenS q.2)) (fun q=>(40 - q.1).toNat) (20,C2) (.inl ⟨rfl,rfl⟩) (.mk [] [] zz20 zz21 rfl rfl rfl) ?_
 rintro⟨a,Q⟩ hQ
 simp only at hQ ⊢
 refine .seq (.sr ?_)
 refine .cs ?_ ?_<;>intro c30
 ·try simp at c30
  obtain⟨rfl,rfl⟩:a=20∧Q=C2:=by
   rcases hQ with h|h
   ·exact h
   exfalso;omega
  have q3:zbj prog 219 [.sub 0 0 m,.int .i64 0,.int .i64 20,.int .i64 m,.func 184 [] []] ⟨3,[(0,.arr false 1 (Q.map eS))]⟩ fun v vh'=>v=.tup []∧∃O Y n,O.Perm (A++B)∧LenS O∧[]++(O++[])=Y∧vh'=⟨n,[(0,.arr false 1 (Y.map eS))]⟩:=zre m (m+1) Q [] A B [] 0 20 m hAB (by omega) rfl (by omega) (by omega) (Nat.le_refl m) (by simp) (by simp;omega) (by omega) (by omega) sA sB lA lB
  refine .skip (.block (.sr ?_))
  refine .seq (.block ?_)
  refine .zco (fun _:Unit=>([(0,.sub 0 0 m),(1,.int .i64 m),(2,.func 184 [] []),(6,.int .i64 20),(7,.int .i64 0),(8,.int .i64 40)],⟨3,[(0,.arr false 1 (Q.map eS))]⟩)) (fun _=>True) (fun _=>0) () trivial (.mk [] [] zz20 zz21 rfl rfl rfl) ?_
  rintro _ _
  simp only
  refine .seq (.sr ?_)
  refine .cs ?_ ?_<;>intro c35
  ·try simp at c35
   exfalso;omega
  try simp at c35
  refine .exit (.seq (.sr ?_))
  refine .sr ?_
  refine .cs ?_ ?_<;>intro c54
  ·try simp at c54
   refine .zac [0,1,2,3,4,5] rfl zz0 ?_
   refine .rn [0,1,2,3,4] _ ?_
   refine .step rfl rfl (.call rfl rfl rfl call219 (by decide) (((q3)).mono ?_))
   rintro _ _ ⟨rfl,O,Y,n1,hO,sO,hOY,rfl⟩
   obtain rfl:O=Y:=by rw[← hOY];simp
   refine .done (.rn ?_)
   refine⟨(40,O),.inr ⟨rfl,hO.trans hp,sO⟩,by simp,(.mk [] [] zz20 zz21 rfl rfl rfl)⟩
  try simp at c54
 try simp at c30
 have hfin:Q.Perm C∧LenS Q:=by
  rcases hQ with⟨h1,h2⟩|⟨h1,h2,h3⟩
  ·subst h1
   have hB0:B=[]:=List.eq_nil_of_length_eq_zero (by omega)
   subst hB0
   rw[List.append_nil] at hp
   rw[h2,← hAB]
   simp only[List.nil_append,List.append_nil]
   exact⟨hp,sA⟩
  exact⟨h2,h3⟩
 refine .exit ?_
 exact⟨_,zz4,rfl,Q,hfin.1,hfin.2,rfl⟩
theorem xc1 (C:List (List Int))(h20:20≤C.length)(h39:C.length<40)(hC:∀c∈C,c.length<4294967296):zbj prog 183 [.sub 0 0 C.length,.func 184 [] []] ⟨3,[(0,.arr false 1 (C.map eS))]⟩ fun v vh'=>v=.tup []∧∃O,O.Perm C∧LenS O∧vh'.get 0=some (.arr false 1 (O.map eS)):=by
 refine .zah func183 rfl rfl ?_
 refine .zac [0,1,2,3,4] rfl zz0 ?_
 refine .rn [0,1,2,3] _ ?_
 refine .step rfl rfl (.call rfl rfl rfl call202 (by decide) (((xcc C C.length rfl h20 h39 hC)).mono ?_))
 rintro _ vh1 ⟨rfl,O,hO,sO,hg⟩
 refine .done ?_
 exact⟨_,zz4,rfl,O,hO,sO,hg⟩
theorem xcx (C:List (List Int))(hm2:C.length<40)(hC:∀c∈C,c.length<4294967296):zbj prog 183 [.sub 0 0 C.length,.func 184 [] []] ⟨3,[(0,.arr false 1 (C.map eS))]⟩ fun v vh'=>v=.tup []∧∃O n,O.Perm C∧LenS O∧vh'=⟨n,[(0,.arr false 1 (O.map eS))]⟩:=by
 rcases Nat.lt_or_ge C.length 20 with h|h
 ·exact(xb0 C h hC).mono fun v vh' ⟨h1,n,h2⟩=>⟨h1,_,n,zg2 C,zhk C,h2⟩
 exact zbj.only (xc1 C h hm2 hC) fun v vh' ⟨h1,O,h2,h3,h4⟩=>⟨_,zvf h4,rfl,h1,O,_,h2,h3,rfl⟩
end Go.Am.Ds
end
section
namespace Go.Am.Ds
open Go Go.Am Go.Proofs Tryz
attribute [local simp] vrun zaz zbg vop vopA zb2 zab.back hidI hidF zdh bm Nat.testBit_eq_decide_div_mod_eq za6 zbo zb4 vO zbc vlen zbs zbz zd2 zaq zak zcj vbox zbe zdu zby zge zdt zcm zau zcn zav zcl zbf zci zbr zbl vbnd zcz vidx zbp zdk zar zbt zct zdj zd9 zd6 vbin vsc vsc1 vscs vscl zbv aint zb3 zdl za8 zcx zd0 pvcV pvc pvcs tput tget zdd zab.get zab.alloc zab.put zab.drop zab.empty zce vput zdi zbb zca zda chunk List.range List.range.loop za0 zbu za1 frz frzL PV.isF PV.allF PV.scal PV.allS retP subT zds PV.one PV.ids PV.idsL zcc beq_eq zbw zbx
theorem xci (s:List Wit)(h:zbh s=0)(hn:(zef (slC s) s.length).length<40):zat prog 148 [encS s] fun r=>∃F,F.Perm (zef (slC s) s.length)∧LenS F∧r=encT (zf9 (exL s) F):=by
 have hlens:=zjf h
 have hs24:s.length≤24:=(zch h).1
 have hsl30:∀w∈s,w.slips.length≤30:=fun w hw=>(zlv ((zch h).2 w hw)).1
 have hCl:(slC s).length=s.length:=by simp[slC]
 have hCat:∀(k:Nat) (hk:k<(slC s).length) (hk2:k<s.length),(slC s)[k]=s[k].slips:=fun k hk hk2=>by simp[slC]
 have hC30:∀x∈slC s,x.length≤30:=fun x hx=>by
  obtain⟨w,hw,rfl⟩:=List.mem_map.1 hx
  exact hsl30 w hw
 have hs0:(zef (slC s) 0).map eS=[.sl0]:=rfl
 have hs1:(zef (slC s) 0).length=1:=rfl
 refine .zah func148 rfl rfl ?_
 refine .sr ?_
 refine .seq ?_
 refine .zac [0,1,2] rfl zz0 ?_
 refine .step rfl rfl (.ztg (v:=.sl0) (z:=.sl0) rfl rfl rfl rfl rfl rfl (by decide) ?_)
 refine .rn [1,2] [] ?_
 refine .done (.sr ?_)
 refine .seq (.sr ?_)
 refine .block ?_
 refine .zco (fun k:Nat=>([(1,.vp [.vec (s.map encW)]),(2,.ptr 0 0),(3,.ptr 1 0),(4,.func 178 [] [.ptr 1 0]),(19,.vec (s.map encW)),(20,.int .i64 s.length),(21,.int .i64 k)],⟨3,[(2,.grow 1 ((zef (slC s) k).map eS)),(1,.box [.grow 2 (zef (slC s) k).length false]),(0,.box [.sl0])]⟩)) (fun k=>k≤s.length) (fun k=>s.length - k) 0 (by simp) (.mk [0] [(0,1),(1,3)] zz18 zz19 rfl rfl rfl) ?_
 rintro k hk
 simp only at hk ⊢
 clear hs0 hs1
 refine .sr ?_
 refine .seq ?_
 refine .cs ?_ ?_<;>intro c22
 ·try simp at c22
  have hw2:=wr1 k
  obtain⟨F,hF⟩:∃F,zef (slC s) k=F:=⟨_,rfl⟩
  have hFb:F.length≤1+30*k:=hF▸zr1 (by omega) k (by omega)
  have hFs:∀x∈F,x.length≤30:=hF▸zj5 hC30 k (by omega)
  have hFn:[]∈F:=hF▸zrw (by omega)
  have hnx:zef (slC s) (k+1)=zfx (slC s) (addL F s[k].slips) s[k].slips k:=by rw[zkq (by omega),hF,hCat k (by omega) c22]
  have hck:s[k].slips.length≤30:=hsl30 _ (List.getElem_mem c22)
  have hEk:encW s[k]=.agg [.int .i64 s[k].id,.int .i64 s[k].known,ints s[k].slips,ints s[k].mended,ints s[k].models,.int .i64 s[k].lo,.int .i64 s[k].hi]:=rfl
  have hS':List.take k (s.map encW)=(s.take k).map encW:=List.map_take.symm
  have hS'l:(s.take k).length=k:=by rw[List.length_take];omega
  obtain⟨S',hS'e⟩:∃S',s.take k=S':=⟨_,rfl⟩
  have hS'at:∀(j:Nat) (hj:j<S'.length),S'[j].slips=(slC s)[j]'(by subst hS'e;rw[List.length_take] at hj;omega):=fun j hj=>by subst hS'e;simp[slC]
  rw[hS'e] at hS' hS'l
  have hkk:0≤(k:Int)∧(k:Int)≤(s.length:Int):=by omega
  obtain⟨c,hc⟩:∃c,s[k]=c:=⟨_,rfl⟩
  rw[hc] at hnx hck hEk
  rw[hF]
  rcases Classical.em (c.slips∈F) with hmem|hmem
  skip
  ·skip
   refine .skip (.seq (.block (.sr ?_)))
   refine .seq ?_
   refine .rec (vts2:=[(5,.int .i64 k),(6,.vp [.int .i64 c.id,.int .i64 c.known,ints c.slips,ints c.mended,ints c.models,.int .i64 c.lo,.int .i64 c.hi]),(1,.vp [.vec (s.map encW)]),(2,.ptr 0 0),(3,.ptr 1 0),(4,.func 178 [] [.ptr 1 0]),(19,.vec (s.map encW)),(20,.int .i64 s.length),(21,.int .i64 k)]) (vh2:=⟨3,[(2,.grow 1 (F.map eS)),(1,.box [.grow 2 F.length false]),(0,.box [.sl0])]⟩) (.mk [3] [] zz18 zz19 rfl rfl rfl) ?_
   refine .zac [0,1,2,3,4] rfl zz0 ?_
   refine .rn [0,1,2] _ ?_
   refine .pc rfl rfl rfl rfl rfl call167 (z8f c.slips (by omega)) ?_
   refine .step rfl rfl (.call rfl rfl rfl call178 (by decide) (((z2u F c.slips (by omega) (fun x hx=>by have:=hFs x hx;omega) (by omega) hmem)).mono ?_))
   rintro _ _ ⟨rfl,n,rfl⟩
   have e1:addL F c.slips=F:=zsw hmem
   rw[e1] at hnx
   refine .done (.sr ?_)
   refine .block ?_
   refine .zco (fun j:Nat=>([(6,.vp [.int .i64 c.id,.int .i64 c.known,ints c.slips,ints c.mended,ints c.models,.int .i64 c.lo,.int .i64 c.hi]),(1,.vp [.vec (s.map encW)]),(2,.ptr 0 0),(3,.ptr 1 0),(4,.func 178 [] [.ptr 1 0]),(19,.vec (s.map encW)),(20,.int .i64 s.length),(21,.int .i64 k),(34,.vec (S'.map encW)),(35,.int .i64 k),(36,.int .i64 j)],⟨3,[(2,.grow 1 ((zfx (slC s) F c.slips j).map eS)),(1,.box [.grow 2 (zfx (slC s) F c.slips j).length false]),(0,.box [.sl0])]⟩)) (fun j=>j≤k) (fun j=>k - j) 0 (Nat.zero_le _) (by simp only[show zfx (slC s) F c.slips 0=F from rfl];exact(.mk [] [] zz20 zz21 rfl rfl rfl)) ?_
   rintro j hj
   simp only at hj ⊢
   refine .sr ?_
   refine .seq ?_
   refine .cs ?_ ?_<;>intro c37
   ·try simp at c37
    have hw3:=wr1 j
    have hjS:j<S'.length:=by omega
    obtain⟨G,hG⟩:∃G,zfx (slC s) F c.slips j=G:=⟨_,rfl⟩
    have hGl:G.length≤2+30*k+j:=by have:=zke (slC s) F c.slips j;rw[hG] at this;omega
    have hGs:∀x∈G,x.length≤30:=hG▸zm0 hFs hck j
    have hGn:[]∈G:=hG▸zq2 hFn j
    obtain⟨d,hd⟩:∃d,S'[j]=d:=⟨_,rfl⟩
    have hds:d.slips=(slC s)[j]'(by omega):=by rw[← hd];exact hS'at j hjS
    have hgn:zfx (slC s) F c.slips (j+1)=addL G (com c.slips d.slips):=by rw[zkn (by omega),hG,hds]
    have hdl:d.slips.length≤30:=hds▸hC30 _ (List.getElem_mem _)
    clear hds
    have hEd:encW d=.agg [.int .i64 d.id,.int .i64 d.known,ints d.slips,ints d.mended,ints d.models,.int .i64 d.lo,.int .i64 d.hi]:=rfl
    have hcl:=zsc c.slips d.slips
    have h182:=p182 c.slips d.slips (by omega) (by omega)
    obtain⟨x,hx⟩:∃x,com c.slips d.slips=x:=⟨_,rfl⟩
    rw[hx] at h182 hgn hcl
    rw[hG]
    rcases Classical.em (x∈G) with hm2|hm2
    skip
    ·skip
     refine .skip (.seq (.block (.sr ?_)))
     refine .rec (vts2:=[(8,.vp [.int .i64 d.id,.int .i64 d.known,ints d.slips,ints d.mended,ints d.models,.int .i64 d.lo,.int .i64 d.hi]),(6,.vp [.int .i64 c.id,.int .i64 c.known,ints c.slips,ints c.mended,ints c.models,.int .i64 c.lo,.int .i64 c.hi]),(1,.vp [.vec (s.map encW)]),(2,.ptr 0 0),(3,.ptr 1 0),(4,.func 178 [] [.ptr 1 0]),(19,.vec (s.map encW)),(20,.int .i64 s.length),(21,.int .i64 k),(34,.vec (S'.map encW)),(35,.int .i64 k),(36,.int .i64 j)]) (vh2:=⟨3,[(2,.grow 1 (G.map eS)),(1,.box [.grow 2 G.length false]),(0,.box [.sl0])]⟩) (.mk [3] [] zz18 zz19 rfl rfl rfl) ?_
     refine .zac [0,1,2,3,4,5,6] rfl zz0 ?_
     refine .rn [0,1,2,3,4] _ ?_
     refine .pc rfl rfl rfl rfl rfl call182 (h182) ?_
     refine .step rfl rfl (.call rfl rfl rfl call178 (by decide) (((z2u G x (by omega) (fun y hy=>by have:=hGs y hy;omega) (by omega) hm2)).mono ?_))
     rintro _ _ ⟨rfl,n2,rfl⟩
     refine .done (.rn ?_)
     refine⟨j+1,zz5,zz5,by rw[hgn,zsw hm2];exact(.mk [] [] zz20 zz21 rfl rfl rfl)⟩
    skip
    refine .skip (.seq (.block (.sr ?_)))
    refine .rec (vts2:=[(8,.vp [.int .i64 d.id,.int .i64 d.known,ints d.slips,ints d.mended,ints d.models,.int .i64 d.lo,.int .i64 d.hi]),(6,.vp [.int .i64 c.id,.int .i64 c.known,ints c.slips,ints c.mended,ints c.models,.int .i64 c.lo,.int .i64 c.hi]),(1,.vp [.vec (s.map encW)]),(2,.ptr 0 0),(3,.ptr 1 0),(4,.func 178 [] [.ptr 1 0]),(19,.vec (s.map encW)),(20,.int .i64 s.length),(21,.int .i64 k),(34,.vec (S'.map encW)),(35,.int .i64 k),(36,.int .i64 j)]) (vh2:=⟨3,[(2,.grow 1 (G.map eS)),(1,.box [.grow 2 G.length false]),(0,.box [.sl0])]⟩) (.mk [3] [] zz18 zz19 rfl rfl rfl) ?_
    refine .zac [0,1,2,3,4,5,6] rfl zz0 ?_
    refine .rn [0,1,2,3,4] _ ?_
    refine .pc rfl rfl rfl rfl rfl call182 (h182) ?_
    refine .step rfl rfl (.call rfl rfl rfl call178 (by decide) (((z2j G x (by omega) (fun y hy=>by have:=hGs y hy;omega) (by omega) hm2 (fun h0=>hm2 (h0▸hGn)))).mono ?_))
    rintro _ _ ⟨rfl,n2,rfl⟩
    refine .done (.rn ?_)
    refine⟨j+1,zz5,zz5,by rw[hgn,zo7 hm2];exact(.mk [] [(2,5)] zz20 zz21 rfl rfl rfl)⟩
   try simp at c37
   refine .exit (.rn ?_)
   refine⟨k+1,zz5,zz5,by rw[hnx];obtain rfl:j=k:=(by omega);exact(.mk [] [] zz20 zz21 rfl rfl rfl)⟩
  skip
  refine .skip (.seq (.block (.sr ?_)))
  refine .seq ?_
  refine .rec (vts2:=[(5,.int .i64 k),(6,.vp [.int .i64 c.id,.int .i64 c.known,ints c.slips,ints c.mended,ints c.models,.int .i64 c.lo,.int .i64 c.hi]),(1,.vp [.vec (s.map encW)]),(2,.ptr 0 0),(3,.ptr 1 0),(4,.func 178 [] [.ptr 1 0]),(19,.vec (s.map encW)),(20,.int .i64 s.length),(21,.int .i64 k)]) (vh2:=⟨3,[(2,.grow 1 (F.map eS)),(1,.box [.grow 2 F.length false]),(0,.box [.sl0])]⟩) (.mk [3] [] zz18 zz19 rfl rfl rfl) ?_
  refine .zac [0,1,2,3,4] rfl zz0 ?_
  refine .rn [0,1,2] _ ?_
  refine .pc rfl rfl rfl rfl rfl call167 (z8f c.slips (by omega)) ?_
  refine .step rfl rfl (.call rfl rfl rfl call178 (by decide) (((z2j F c.slips (by omega) (fun x hx=>by have:=hFs x hx;omega) (by omega) hmem (fun h0=>hmem (h0▸hFn)))).mono ?_))
  rintro _ _ ⟨rfl,n,rfl⟩
  have e1:addL F c.slips=F++[c.slips]:=zo7 hmem
  have hF1s:∀x∈F++[c.slips],x.length≤30:=fun x hx=>(List.mem_append.1 hx).elim (hFs x) fun h=>by simp at h;subst h;exact hck
  have hF1n:[]∈F++[c.slips]:=List.mem_append_left _ hFn
  have hF1b:(F++[c.slips]).length≤2+30*k:=by rw[List.length_append,List.length_singleton];omega
  rw[e1] at hnx
  obtain⟨F1,hF1⟩:∃F1,F++[c.slips]=F1:=⟨_,rfl⟩
  rw[hF1] at hnx hF1s hF1n hF1b ⊢
  refine .done (.sr ?_)
  refine .block ?_
  refine .zco (fun j:Nat=>([(6,.vp [.int .i64 c.id,.int .i64 c.known,ints c.slips,ints c.mended,ints c.models,.int .i64 c.lo,.int .i64 c.hi]),(1,.vp [.vec (s.map encW)]),(2,.ptr 0 0),(3,.ptr 1 0),(4,.func 178 [] [.ptr 1 0]),(19,.vec (s.map encW)),(20,.int .i64 s.length),(21,.int .i64 k),(34,.vec (S'.map encW)),(35,.int .i64 k),(36,.int .i64 j)],⟨3,[(2,.grow 1 ((zfx (slC s) F1 c.slips j).map eS)),(1,.box [.grow 2 (zfx (slC s) F1 c.slips j).length false]),(0,.box [.sl0])]⟩)) (fun j=>j≤k) (fun j=>k - j) 0 (Nat.zero_le _) (by simp only[show zfx (slC s) F1 c.slips 0=F1 from rfl];exact(.mk [] [(2,5)] zz20 zz21 rfl rfl rfl)) ?_
  rintro j hj
  simp only at hj ⊢
  refine .sr ?_
  refine .seq ?_
  refine .cs ?_ ?_<;>intro c37
  ·try simp at c37
   have hw3:=wr1 j
   have hjS:j<S'.length:=by omega
   obtain⟨G,hG⟩:∃G,zfx (slC s) F1 c.slips j=G:=⟨_,rfl⟩
   have hGl:G.length≤2+30*k+j:=by have:=zke (slC s) F1 c.slips j;rw[hG] at this;omega
   have hGs:∀x∈G,x.length≤30:=hG▸zm0 hF1s hck j
   have hGn:[]∈G:=hG▸zq2 hF1n j
   obtain⟨d,hd⟩:∃d,S'[j]=d:=⟨_,rfl⟩
   have hds:d.slips=(slC s)[j]'(by omega):=by rw[← hd];exact hS'at j hjS
   have hgn:zfx (slC s) F1 c.slips (j+1)=addL G (com c.slips d.slips):=by rw[zkn (by omega),hG,hds]
   have hdl:d.slips.length≤30:=hds▸hC30 _ (List.getElem_mem _)
   clear hds
   have hEd:encW d=.agg [.int .i64 d.id,.int .i64 d.known,ints d.slips,ints d.mended,ints d.models,.int .i64 d.lo,.int .i64 d.hi]:=rfl
   have hcl:=zsc c.slips d.slips
   have h182:=p182 c.slips d.slips (by omega) (by omega)
   obtain⟨x,hx⟩:∃x,com c.slips d.slips=x:=⟨_,rfl⟩
   rw[hx] at h182 hgn hcl
   rw[hG]
   rcases Classical.em (x∈G) with hm2|hm2
   skip
   ·skip
    refine .skip (.seq (.block (.sr ?_)))
    refine .rec (vts2:=[(8,.vp [.int .i64 d.id,.int .i64 d.known,ints d.slips,ints d.mended,ints d.models,.int .i64 d.lo,.int .i64 d.hi]),(6,.vp [.int .i64 c.id,.int .i64 c.known,ints c.slips,ints c.mended,ints c.models,.int .i64 c.lo,.int .i64 c.hi]),(1,.vp [.vec (s.map encW)]),(2,.ptr 0 0),(3,.ptr 1 0),(4,.func 178 [] [.ptr 1 0]),(19,.vec (s.map encW)),(20,.int .i64 s.length),(21,.int .i64 k),(34,.vec (S'.map encW)),(35,.int .i64 k),(36,.int .i64 j)]) (vh2:=⟨3,[(2,.grow 1 (G.map eS)),(1,.box [.grow 2 G.length false]),(0,.box [.sl0])]⟩) (.mk [3] [] zz18 zz19 rfl rfl rfl) ?_
    refine .zac [0,1,2,3,4,5,6] rfl zz0 ?_
    refine .rn [0,1,2,3,4] _ ?_
    refine .pc rfl rfl rfl rfl rfl call182 (h182) ?_
    refine .step rfl rfl (.call rfl rfl rfl call178 (by decide) (((z2u G x (by omega) (fun y hy=>by have:=hGs y hy;omega) (by omega) hm2)).mono ?_))
    rintro _ _ ⟨rfl,n2,rfl⟩
    refine .done (.rn ?_)
    refine⟨j+1,zz5,zz5,by rw[hgn,zsw hm2];exact(.mk [] [] zz20 zz21 rfl rfl rfl)⟩
   skip
   refine .skip (.seq (.block (.sr ?_)))
   refine .rec (vts2:=[(8,.vp [.int .i64 d.id,.int .i64 d.known,ints d.slips,ints d.mended,ints d.models,.int .i64 d.lo,.int .i64 d.hi]),(6,.vp [.int .i64 c.id,.int .i64 c.known,ints c.slips,ints c.mended,ints c.models,.int .i64 c.lo,.int .i64 c.hi]),(1,.vp [.vec (s.map encW)]),(2,.ptr 0 0),(3,.ptr 1 0),(4,.func 178 [] [.ptr 1 0]),(19,.vec (s.map encW)),(20,.int .i64 s.length),(21,.int .i64 k),(34,.vec (S'.map encW)),(35,.int .i64 k),(36,.int .i64 j)]) (vh2:=⟨3,[(2,.grow 1 (G.map eS)),(1,.box [.grow 2 G.length false]),(0,.box [.sl0])]⟩) (.mk [3] [] zz18 zz19 rfl rfl rfl) ?_
   refine .zac [0,1,2,3,4,5,6] rfl zz0 ?_
   refine .rn [0,1,2,3,4] _ ?_
   refine .pc rfl rfl rfl rfl rfl call182 (h182) ?_
   refine .step rfl rfl (.call rfl rfl rfl call178 (by decide) (((z2j G x (by omega) (fun y hy=>by have:=hGs y hy;omega) (by omega) hm2 (fun h0=>hm2 (h0▸hGn)))).mono ?_))
   rintro _ _ ⟨rfl,n2,rfl⟩
   refine .done (.rn ?_)
   refine⟨j+1,zz5,zz5,by rw[hgn,zo7 hm2];exact(.mk [] [(2,5)] zz20 zz21 rfl rfl rfl)⟩
  try simp at c37
  refine .exit (.rn ?_)
  refine⟨k+1,zz5,zz5,by rw[hnx];obtain rfl:j=k:=(by omega);exact(.mk [] [] zz20 zz21 rfl rfl rfl)⟩
 try simp at c22
 obtain rfl:k=s.length:=by omega
 have hnp:0<(zef (slC s) s.length).length:=List.length_pos_of_mem (zrw (Nat.le_of_eq hCl.symm))
 have hF30:∀x∈zef (slC s) s.length,x.length≤30:=zj5 hC30 s.length (by omega)
 obtain⟨F0,hF0⟩:∃F0,zef (slC s) s.length=F0:=⟨_,rfl⟩
 rw[hF0] at hn hnp hF30 ⊢
 have h183:=xcx F0 hn (fun x hx=>by have:=hF30 x hx;omega)
 refine .exit (.seq ?_)
 refine .rec (vts2:=[(1,.vp [.vec (s.map encW)]),(2,.ptr 2 0),(3,.ptr 1 0)]) (vh2:=⟨3,[(0,.arr false 1 (F0.map eS)),(1,.box [.sub 0 0 F0.length]),(2,.box [.sl0])]⟩) (.mk [] [(0,2),(2,0)] zz26 zz27 rfl rfl rfl) ?_
 refine .zac [0,1] rfl zz0 ?_
 refine .rn [0] _ ?_
 refine .step rfl rfl (.call rfl rfl rfl call183 (by decide) (((zbj.frame (i:=2) rfl rfl (zbj.frame (i:=1) rfl rfl h183))).mono ?_))
 rintro _ _ ⟨_,⟨_,⟨rfl,F,n,hFp,hFo,rfl⟩,rfl⟩,rfl⟩
 have hFl:F.length=F0.length:=hFp.length_eq
 have hFs:∀x∈F,x.length≤30:=fun x hx=>hF30 x (hFp.mem_iff.1 hx)
 rw[← hFl] at hn hnp ⊢
 clear h183 hF30 hFl hF0
 have hAO:F.all (PV.one∘eS)=true:=List.all_eq_true.2 fun x _=>zi2 x
 have hTk:List.take F.length (F.map eS)=F.map eS:=List.take_of_length_le (by rw[List.length_map];exact Nat.le_refl _)
 refine .done (.seq ?_)
 refine .rec (vts2:=[(1,.vp [.vec (s.map encW)]),(2,.ptr 2 0),(3,.ptr 1 0)]) (vh2:=⟨3,[(0,.arr false 1 (F.map eS)),(1,.box [.sub 0 0 F.length]),(2,.box [.sl0])]⟩) (.mk [] [] zz20 zz21 rfl rfl rfl) ?_
 refine .rn ?_
 refine .seq (.sr ?_)
 refine .block ?_
 refine .zco (fun k:Nat=>([(1,.vp [.vec (s.map encW)]),(2,.ptr 0 0),(9,.ptr 1 0),(51,.vec (F.map eS)),(52,.int .i64 F.length),(53,.int .i64 k)],⟨3,[(2,.grow 3 ((brL (exL s) F k).map zcf)),(1,.box [.grow 2 k true]),(0,.box [.sl0])]⟩)) (fun k=>k≤F.length) (fun k=>F.length - k) 0 (by simp) (.mk [0,1] [(0,2),(1,3),(2,9)] (by repeat' (first|exact trivial|exact Alt.fsub _ _ _ _ _ _ _ rfl rfl (by simp[hAO,hTk])|exact Alt.fptr 1 0 _ rfl rfl rfl (Nat.zero_le _)|refine And.intro (Exists.intro _ (And.intro rfl ?_)) ?_|(refine Alt.same _ ?_;first|rfl|(simp[*];done))|exact Alt.mapv _ _ (xfo rfl) rfl|exact Alt.grow _ _ _ _ (xfo rfl) rfl|(refine Alt.ziv _ _ _ _ _ ?_ (xfo rfl) rfl;simp[*];done)|exact Alt.ptr _ _ _ (xfo rfl) rfl|exact Alt.own _ _ _ _ _ (xfo rfl) rfl|exact Alt.sub _ _ _ _ (xfo rfl) rfl|exact Alt.yld _ _ (xfo rfl) rfl|exact Alt.sl0 _ _|(refine Alt.sl0E _ _ _ ?_;simp[*];done)|exact Alt.e0 _|exact Alt.func' AltL.nil (AltL.cons (Alt.ptr _ _ _ (xfo rfl) rfl) AltL.nil)|exact Alt.sl0v|exact Alt.own0 _ _ _|(refine Alt.fgrow _ _ _ _ _ rfl rfl ?_;simp[*];done)|exact Alt.fown _ _ _ _ _ _ _ _ rfl rfl rfl|exact Alt.fmap _ _ rfl rfl|(refine Alt.zlm ?_;simp[*]<;>rfl)|(refine Alt.ofEq rfl ?_;simp[*];done))) (by repeat' (first|exact trivial|exact Alt.fsub _ _ _ _ _ _ _ rfl rfl (by simp[hAO,hTk])|exact Alt.fptr 1 0 _ rfl rfl rfl (Nat.zero_le _)|refine And.intro (And.intro (xfo rfl) (Or.inr (And.intro rfl (Exists.intro _ (And.intro rfl ?_))))) ?_|refine And.intro (And.intro (xfo rfl) (Or.inl (Exists.intro _ (And.intro rfl (xfo rfl))))) ?_|refine And.intro (And.intro (xfo rfl) (Or.inl (Exists.intro _ (And.intro (congrArg (VObj.grow _) (by simp[*])) (xfo rfl))))) ?_|rfl|exact AltL.nil|(refine congrArg (VObj.grow _) ?_;simp[*];done)|(refine congrArg VObj.map ?_;simp[*];done)|(refine congrArg (VObj.arr _ _) ?_;simp[*];done)|refine zp3.mk rfl rfl rfl rfl rfl ?_|refine And.intro (Exists.intro _ (And.intro rfl ?_)) ?_|refine AltL.cons ?_ ?_|(refine Alt.same _ ?_;first|rfl|(simp[*];done))|exact Alt.mapv _ _ (xfo rfl) rfl|exact Alt.grow _ _ _ _ (xfo rfl) rfl|(refine Alt.ziv _ _ _ _ _ ?_ (xfo rfl) rfl;simp[*];done)|exact Alt.ptr _ _ _ (xfo rfl) rfl|exact Alt.own _ _ _ _ _ (xfo rfl) rfl|exact Alt.sub _ _ _ _ (xfo rfl) rfl|exact Alt.yld _ _ (xfo rfl) rfl|exact Alt.sl0 _ _|(refine Alt.sl0E _ _ _ ?_;simp[*];done)|exact Alt.e0 _|exact Alt.func' AltL.nil (AltL.cons (Alt.ptr _ _ _ (xfo rfl) rfl) AltL.nil)|exact Alt.sl0v|exact Alt.own0 _ _ _|(refine Alt.fgrow _ _ _ _ _ rfl rfl ?_;simp[*];done)|exact Alt.fown _ _ _ _ _ _ _ _ rfl rfl rfl|exact Alt.fmap _ _ rfl rfl|(refine Alt.zlm ?_;simp[*]<;>rfl)|(refine Alt.ofEq rfl ?_;simp[*];done))) rfl rfl rfl) ?_
 rintro k hk
 simp only at hk ⊢
 refine .sr ?_
 refine .seq ?_
 refine .cs ?_ ?_<;>intro c54
 ·try simp at c54
  have hw2:=wr1 k
  obtain⟨l,hl⟩:∃l,F[k]=l:=⟨_,rfl⟩
  have hgl:F.getD k []=l:=by rw[List.getD_eq_getElem?_getD,List.getElem?_eq_getElem c54,hl];rfl
  have hl30:l.length≤30:=hl▸hFs _ (List.getElem_mem c54)
  have hXp:∀j,j<k→(((brL (exL s) F k).map zcf).flatMap PV.cells)[j*3+1]?=some (ints (F.getD j [])):=fun j hj=>zuk (xaw hj)
  have hnx:(brL (exL s) F (k+1)).map zcf=(brL (exL s) F k).map zcf++[zcf ⟨abF F k,l,exL s l⟩]:=by rw[z0o,List.map_append,brT,hgl];rfl
  have hXl:((brL (exL s) F k).map zcf).length=k:=by rw[List.length_map,z3n]
  have hXs:zfu 3 ((brL (exL s) F k).map zcf)=true:=zsf _
  have hXo:zdr ((brL (exL s) F k).map zcf)=true:=zlj _
  have hXF:PV.allF ((brL (exL s) F k).map zcf)=true:=PV.zr7 fun v hv=>by
   obtain⟨b,_,rfl⟩:=List.mem_map.1 hv
   exact zys b
  obtain⟨X,hX⟩:∃X,(brL (exL s) F k).map zcf=X:=⟨_,rfl⟩
  rw[hX] at hXp hnx hXl hXs hXo hXF ⊢
  refine .skip (.seq (.block (.sr ?_)))
  refine .seq ?_
  refine .rec (vts2:=[(10,.int .i64 k),(11,ints l),(1,.vp [.vec (s.map encW)]),(2,.ptr 0 0),(9,.ptr 1 0),(51,.vec (F.map eS)),(52,.int .i64 F.length),(53,.int .i64 k)]) (vh2:=⟨3,[(2,.grow 3 X),(1,.box [.grow 2 k true]),(0,.box [.sl0])]⟩) (.mk [] [] (by repeat' (first|exact trivial|exact(hl▸z1u _)|refine And.intro (Exists.intro _ (And.intro rfl ?_)) ?_|(refine Alt.same _ ?_;first|rfl|(simp[*];done))|exact Alt.mapv _ _ (xfo rfl) rfl|exact Alt.grow _ _ _ _ (xfo rfl) rfl|(refine Alt.ziv _ _ _ _ _ ?_ (xfo rfl) rfl;simp[*];done)|exact Alt.ptr _ _ _ (xfo rfl) rfl|exact Alt.own _ _ _ _ _ (xfo rfl) rfl|exact Alt.sub _ _ _ _ (xfo rfl) rfl|exact Alt.yld _ _ (xfo rfl) rfl|exact Alt.sl0 _ _|(refine Alt.sl0E _ _ _ ?_;simp[*];done)|exact Alt.e0 _|exact Alt.func' AltL.nil (AltL.cons (Alt.ptr _ _ _ (xfo rfl) rfl) AltL.nil)|exact Alt.sl0v|exact Alt.own0 _ _ _|(refine Alt.fgrow _ _ _ _ _ rfl rfl ?_;simp[*];done)|exact Alt.fown _ _ _ _ _ _ _ _ rfl rfl rfl|exact Alt.fmap _ _ rfl rfl|(refine Alt.zlm ?_;simp[*]<;>rfl)|(refine Alt.ofEq rfl ?_;simp[*];done))) (by repeat' (first|exact trivial|exact(hl▸z1u _)|refine And.intro (And.intro (xfo rfl) (Or.inr (And.intro rfl (Exists.intro _ (And.intro rfl ?_))))) ?_|refine And.intro (And.intro (xfo rfl) (Or.inl (Exists.intro _ (And.intro rfl (xfo rfl))))) ?_|refine And.intro (And.intro (xfo rfl) (Or.inl (Exists.intro _ (And.intro (congrArg (VObj.grow _) (by simp[*])) (xfo rfl))))) ?_|rfl|exact AltL.nil|(refine congrArg (VObj.grow _) ?_;simp[*];done)|(refine congrArg VObj.map ?_;simp[*];done)|(refine congrArg (VObj.arr _ _) ?_;simp[*];done)|refine zp3.mk rfl rfl rfl rfl rfl ?_|refine And.intro (Exists.intro _ (And.intro rfl ?_)) ?_|refine AltL.cons ?_ ?_|(refine Alt.same _ ?_;first|rfl|(simp[*];done))|exact Alt.mapv _ _ (xfo rfl) rfl|exact Alt.grow _ _ _ _ (xfo rfl) rfl|(refine Alt.ziv _ _ _ _ _ ?_ (xfo rfl) rfl;simp[*];done)|exact Alt.ptr _ _ _ (xfo rfl) rfl|exact Alt.own _ _ _ _ _ (xfo rfl) rfl|exact Alt.sub _ _ _ _ (xfo rfl) rfl|exact Alt.yld _ _ (xfo rfl) rfl|exact Alt.sl0 _ _|(refine Alt.sl0E _ _ _ ?_;simp[*];done)|exact Alt.e0 _|exact Alt.func' AltL.nil (AltL.cons (Alt.ptr _ _ _ (xfo rfl) rfl) AltL.nil)|exact Alt.sl0v|exact Alt.own0 _ _ _|(refine Alt.fgrow _ _ _ _ _ rfl rfl ?_;simp[*];done)|exact Alt.fown _ _ _ _ _ _ _ _ rfl rfl rfl|exact Alt.fmap _ _ rfl rfl|(refine Alt.zlm ?_;simp[*]<;>rfl)|(refine Alt.ofEq rfl ?_;simp[*];done))) rfl rfl rfl) ?_
  refine .rn ?_
  refine .seq (.sr ?_)
  refine .block ?_
  refine .zco (fun j:Nat=>([(11,ints l),(12,.ptr 3 0),(1,.vp [.vec (s.map encW)]),(2,.ptr 0 0),(9,.ptr 1 0),(51,.vec (F.map eS)),(52,.int .i64 F.length),(53,.int .i64 k),(60,.int .i64 k),(61,.int .i64 j)],⟨4,[(3,.box [.int .i64 (abJ F k j),ints l,.sl0]),(2,.grow 3 X),(1,.box [.grow 2 k true]),(0,.box [.sl0])]⟩)) (fun j=>j≤k) (fun j=>k - j) 0 (Nat.zero_le _) (.mk [] [] zz20 zz21 rfl rfl rfl) ?_
  rintro j hj
  simp only at hj ⊢
  refine .sr ?_
  refine .seq ?_
  refine .cs ?_ ?_<;>intro c62
  ·try simp at c62
   have hw3:=wr1 j
   have hXj:=hXp j c62
   have hab:=z0a F k j
   rw[hgl] at hab
   obtain⟨x,hx⟩:∃x,F.getD j []=x:=⟨_,rfl⟩
   have hx30:x.length≤30:=by
    rw[← hx,List.getD_eq_getElem?_getD,List.getElem?_eq_getElem (by omega)]
    exact hFs _ (List.getElem_mem _)
   rw[hx] at hXj hab
   clear hXp hx
   have h185:=p185 x (setK [l]) (by omega)
   rw[zu0] at h185
   obtain⟨bv,hbv⟩:∃bv,(x.all fun n=>decide (n∈l))=bv:=⟨_,rfl⟩
   rw[hbv] at h185 hab
   refine .skip (.seq (.block (.sr ?_)))
   refine .seq ?_
   refine .drawn (ms:=[0,1,0,7,15,31,0,64,192,448,1023]) (W:=[7,8,9,10]) (items:=[.op 0,.op 1,.op 2,.op 3,.op 4,.op 5,.op 6,.op 7,.ck 5,.ck 1,.op 8,.ck 5,.ck 1,.op 9,.ck 5,.ck 1,.op 10]) rfl zz0 zz0 zz0 ?_
   iterate 7 refine .rx ?_
   refine .wv ?_
   refine .ck rfl (by first|decide +kernel|exact rfl) ?_
   refine .ck rfl (by first|decide +kernel|exact rfl) ?_
   refine .wr rfl rfl (by decide) (.zr0 rfl rfl rfl call116 (by decide) (by first|(simp<;>rfl)|(simp[*]<;>rfl)|(simp[*];done)) (p116 [l] (by simp) (by intro y hy;simp at hy;subst hy;omega)) ?_)
   rintro _ rfl
   refine .ck rfl (by first|decide +kernel|exact rfl) ?_
   refine .ck rfl (by first|decide +kernel|exact rfl) ?_
   refine .wv ?_
   refine .ck rfl (by first|decide +kernel|exact rfl) ?_
   refine .ck rfl (by first|decide +kernel|exact rfl) ?_
   refine .wr rfl rfl (by decide) (.zr0 rfl rfl rfl call185 (by decide) (by first|(simp<;>rfl)|(simp[*]<;>rfl)|(simp[*];done)) (h185) ?_)
   rintro _ rfl
   refine .done ?_
   refine .cs ?_ ?_<;>intro c74
   ·try simp at c74
    rw[if_pos c74] at hab
    refine .rn ?_
    refine .rn ?_
    refine⟨j+1,zz5,zz5,by rw[hab];exact(.mk [] [] zz20 zz21 rfl rfl rfl)⟩
   try simp at c74
   rw[if_neg (by simp[c74])] at hab
   refine .skip (.rn ?_)
   refine⟨j+1,zz5,zz5,by rw[hab];exact(.mk [] [] zz20 zz21 rfl rfl rfl)⟩
  try simp at c62
  obtain rfl:j=k:=by omega
  have hab:abJ F j j=abF F j:=rfl
  rw[hab]
  refine .exit (.seq (.sr ?_))
  refine .block ?_
  refine .zco (fun i:Nat=>([(11,ints l),(12,.ptr 3 0),(1,.vp [.vec (s.map encW)]),(2,.ptr 0 0),(9,.ptr 1 0),(51,.vec (F.map eS)),(52,.int .i64 F.length),(53,.int .i64 j),(79,.vec (s.map encW)),(80,.int .i64 s.length),(81,.int .i64 i)],⟨5,[(4,.grow 1 ((((s.take i).filter fun w=>decide (w.slips=l)).map Wit.id).map (.int .i64))),(3,.box [.int .i64 (abF F j),ints l,.grow 4 ((s.take i).filter fun w=>decide (w.slips=l)).length true]),(2,.grow 3 X),(1,.box [.grow 2 j true]),(0,.box [.sl0])]⟩)) (fun i=>i≤s.length) (fun i=>s.length - i) 0 (Nat.zero_le _) (.mk [] [] zz20 zz21 rfl rfl rfl) ?_
  rintro i hi
  simp only at hi ⊢
  have hlen:((s.take i).filter fun w=>decide (w.slips=l)).length≤i:=Nat.le_trans (List.length_filter_le _ _) (by simp;omega)
  obtain⟨Q,hQ⟩:∃Q,((s.take i).filter fun w=>decide (w.slips=l))=Q:=⟨_,rfl⟩
  obtain⟨Z,hZ⟩:∃Z,Q.map Wit.id=Z:=⟨_,rfl⟩
  have hZl:Z.length=Q.length:=by rw[← hZ,List.length_map]
  obtain⟨m,hm⟩:∃m,Q.length=m:=⟨_,rfl⟩
  rw[hQ] at hlen ⊢
  rw[hZ]
  rw[hm] at hlen hZl ⊢
  refine .sr ?_
  refine .seq ?_
  refine .cs ?_ ?_<;>intro c82
  ·try simp at c82
   have hw3:=wr1 i
   have hT:=zlp (fun w:Wit=>decide (w.slips=l)) s i c82
   have hsi30:s[i].slips.length≤30:=hsl30 _ (List.getElem_mem c82)
   have hE:encW s[i]=.agg [.int .i64 s[i].id,.int .i64 s[i].known,ints s[i].slips,ints s[i].mended,ints s[i].models,.int .i64 s[i].lo,.int .i64 s[i].hi]:=rfl
   rw[hQ] at hT
   have hb:m+1≤4294967296:=by omega
   obtain⟨c,hc⟩:∃c,s[i]=c:=⟨_,rfl⟩
   rw[hc] at hT hsi30 hE
   have h181:=p181 c.slips l (by omega) (by omega)
   obtain⟨bv,hbv⟩:∃bv,decide (c.slips=l)=bv:=⟨_,rfl⟩
   rw[hbv] at h181 hT
   clear hQ
   refine .skip (.seq (.block (.sr ?_)))
   refine .seq ?_
   refine .zac [0,1,2,3] rfl zz0 ?_
   refine .rn [0,1,2] _ ?_
   refine .pc rfl rfl rfl rfl rfl call181 (h181) ?_
   refine .done ?_
   refine .cs ?_ ?_<;>intro c88
   ·try simp at c88
    rw[if_pos c88] at hT
    have hT1:((Q++[c]).map Wit.id).map (PV.int .i64)=Z.map (PV.int .i64)++[.int .i64 c.id]:=by rw[List.map_append,List.map_append,hZ];rfl
    have hT2:(Q++[c]).length=m+1:=by rw[List.length_append,hm];rfl
    rw[← hT] at hT1 hT2
    clear hT hZ hm
    refine .rn ?_
    refine .rn ?_
    refine⟨i+1,zz5,zz5,by rw[hT1,hT2];exact(.mk [] [(4,7)] zz20 zz21 rfl rfl rfl)⟩
   try simp at c88
   rw[if_neg (by simp[c88])] at hT
   have hT1:((((s.take (i+1)).filter fun w=>decide (w.slips=l))).map Wit.id).map (PV.int .i64)=Z.map (PV.int .i64):=by rw[hT,hZ]
   have hT2:((s.take (i+1)).filter fun w=>decide (w.slips=l)).length=m:=by rw[hT,hm]
   clear hT hZ hm
   refine .skip (.rn ?_)
   refine⟨i+1,zz5,zz5,by rw[hT1,hT2];exact(.mk [] [] zz20 zz21 rfl rfl rfl)⟩
  try simp at c82
  obtain rfl:i=s.length:=by omega
  rw[List.take_length] at hQ
  have hexl:exL s l=Z.mergeSort fun x y=>decide (x≤y):=by rw[← hZ,← hQ];rfl
  have hel:(exL s l).length=m:=by rw[hexl,List.length_mergeSort,hZl]
  obtain⟨E,hE⟩:∃E,exL s l=E:=⟨_,rfl⟩
  rw[hE] at hexl hel hnx
  have hsg:=zbj.zp5 (zs:=Z) z3g (vh:=⟨5,[(4,.grow 1 (Z.map (.int .i64))),(3,.box [.int .i64 (abF F j),ints l,.grow 4 m true]),(2,.grow 3 X),(1,.box [.grow 2 j true]),(0,.box [.sl0])]⟩) (i:=4) (n:=m) (nl:=true) rfl hZl
  rw[← hexl] at hsg
  have hEb:zcf ⟨abF F j,l,E⟩=.agg [.int .i64 (abF F j),ints l,ints E]:=rfl
  rw[hEb] at hnx
  clear hQ hZ hm hexl hE hZl
  have hO1:zdr [PV.agg [.int .i64 (abF F j),ints l,ints E]]=true:=zlj [⟨abF F j,l,E⟩]
  have hj2:j≤4294967295:=by omega
  refine .exit (.seq ?_)
  refine .zac [0,1,2] rfl zz0 ?_
  refine .rn [0,1] _ ?_
  refine .step rfl rfl (.call rfl rfl rfl call159 (by decide) (((hsg)).mono ?_))
  rintro _ _ ⟨rfl,rfl⟩
  refine .done ?_
  refine .rec (vts2:=[(12,.ptr 3 0),(1,.vp [.vec (s.map encW)]),(2,.ptr 0 0),(9,.ptr 1 0),(51,.vec (F.map eS)),(52,.int .i64 F.length),(53,.int .i64 j)]) (vh2:=⟨4,[(3,.box [.int .i64 (abF F j),ints l,ints E]),(2,.grow 3 X),(1,.box [.grow 2 j true]),(0,.box [.sl0])]⟩) (.mk [4] [] zz20 zz21 rfl rfl rfl) ?_
  refine .rn ?_
  refine .rn ?_
  refine⟨j+1,zz5,zz5,by rw[hnx];exact(.mk [] [(2,5)] zz20 zz21 rfl rfl rfl)⟩
 try simp at c54
 obtain rfl:k=F.length:=by omega
 have hTl:(zf9 (exL s) F).length=F.length:=by simp only[zf9,List.length_map,List.length_range]
 have hfin:(brL (exL s) F F.length).map zcf=(zf9 (exL s) F).map zcf:=rfl
 rw[hfin]
 refine .exit (.sr ?_)
 refine .ret ?_
 refine⟨_,_,zz4,(by simp[hTl]<;>rfl),?_⟩
 exact⟨F,hFp,hFo,rfl⟩
end Go.Am.Ds
end
/-
 Descent: the tree of any order of the sets that rises in length is right; crossings and trees (plain law of OneTree).
-/
section
namespace Go.Am.Ds
open Go Go.Am Go.Proofs Tryz
def szG (T:List Br):Prop:=T.length≤25∧∀b∈T,b.slips.length≤30∧b.cops.length≤24
section
variable {s:List Wit} (h:zbh s=0)
include h
section
variable {F:List (List Int)} (hp:F.Perm (zef (slC s) s.length)) (hs:F.Pairwise fun a b=>a.length≤b.length) (hx:(crR s).isSome=false)
include hp hs hx
theorem zu3:RefP (wOf s) (zfq s) (zf9 (exL s) F):=by
 have hl:(slC s).length=s.length:=by simp[slC]
 have hp2:F.Perm (zef (slC s) (slC s).length):=by rw[hl];exact hp
 refine zx4 (hid h) (xdw h hx) (by rw[zwy];exact zv4 (z1l h) hp2 hs) (fun x hx=>?_) (fun x hx=>zoa (z1l h) (hp2.mem_iff.1 hx)) (fun x _=>z8a h x) (hhd h)
 obtain⟨w,hw,rfl⟩:=List.mem_map.1 hx
 exact(w_ok h hw).2.1
theorem zte (hn:s.length≤12):szG (zf9 (exL s) F):=by
 have h1:=zzs (zu3 h hp hs hx)
 rw[zs6] at h1
 refine⟨by omega,fun b hb=>?_⟩
 unfold zf9 at hb
 obtain⟨k,hk,rfl⟩:=List.mem_map.1 hb
 have hk:=List.mem_range.1 hk
 have hs24:=(zch h).1
 constructor
 ·show (F.getD k []).length≤30
  rw[List.getD_eq_getElem?_getD,List.getElem?_eq_getElem hk]
  have hm:F[k]∈zef (slC s) s.length:=hp.mem_iff.1 (List.getElem_mem hk)
  refine zj5 (fun x hx=>?_) s.length (by simp[slC]) _ hm
  obtain⟨w,hw,rfl⟩:=List.mem_map.1 hx
  exact(zlv ((zch h).2 w hw)).1
 show (exL s _).length≤24
 unfold exL
 rw[List.length_mergeSort,List.length_map]
 exact Nat.le_trans (List.length_filter_le _ _) hs24
theorem z0e (hn:s.length≤12):F.length≤25:=by
 have:=(zte h hp hs hx hn).1
 unfold zf9 at this
 rwa [List.length_map,List.length_range] at this
end
theorem zr4 {T:List Br}:ctT s T=0↔lrgT T=false∧RefP (wOf s) (zfq s) T:=by
 unfold ctT
 rw[if_pos h]
 cases hl:lrgT T
 ·rw[if_neg (by simp)]
  constructor
  ·intro h1
   refine⟨rfl,(zph (hid h) (hh1 h)).1 ((zto h).1 ?_)⟩
   by_cases h2:(grT T&&(stT s T&&onB s T))=true
   ·exact h2
   rw[if_neg h2] at h1;cases h1
  rintro⟨_,R⟩
  rw[if_pos ((zto h).2 ((zph (hid h) (hh1 h)).2 R))]
 simp
omit h in
theorem z7j {T:List Br}(hz:szG T):lrgT T=false:=by
 cases hl:lrgT T
 ·rfl
 exfalso
 unfold lrgT at hl
 rw[Bool.or_eq_true,List.any_eq_true] at hl
 rcases hl with h3|⟨b,hb,h3⟩
 ·have:=of_decide_eq_true h3;have:=hz.1;omega
 have:=hz.2 b hb
 simp only[lrgB,Bool.or_eq_true,decide_eq_true_eq] at h3
 omega
theorem z5i (hx:(crR s).isSome=false)(hn:s.length≤12):(zef (slC s) s.length).length≤25:=by
 have:=z0e h (zg2 _) (zhk _) hx hn
 rwa [zlq] at this
theorem z3s {T:List Br}(hc:ctT s T=0):(crR s).isSome=false:=by
 cases hx:(crR s).isSome
 ·rfl
 exfalso
 have R:=((zr4 h).1 hc).2
 obtain⟨a,b,hab⟩:=(zr6 h).1 hx
 refine z1i (zl6 R.both R.hd) (zqr (hid h) (hh1 h) R) a b ?_
 rw[zwy]
 obtain⟨⟨w,h1,h2,h3⟩,⟨u,h4,h5,h6⟩,v,h7,h8,h9⟩:=hab
 exact⟨⟨_,List.mem_map_of_mem h1,h2,h3⟩,⟨_,List.mem_map_of_mem h4,h5,h6⟩,_,List.mem_map_of_mem h7,h8,h9⟩
theorem xab {T T':List Br}(hc:ctT s T=0)(hc':ctT s T'=0):T.length=T'.length∧zgn T=zgn T':=
 z0j (hid h) (hh1 h) ((zr4 h).1 hc).2 ((zr4 h).1 hc').2
end
theorem ztb {s:List Wit}{p q:Wit→Bool}{x:Int}(h:hdB s (fun w=>p w&&q w) x=true):hdB s p x=true∧hdB s q x=true:=by
 unfold hdB at *
 cases hg:getW s x with
 |none=>rw[hg] at h;cases h
 |some w=>rw[hg] at h;simpa using h
theorem zyo {s:List Wit}{p:Wit→Bool}{x:Int}(h:hdB s (fun w=>!p w) x=true):hdB s p x=false:=by
 unfold hdB at *
 cases hg:getW s x with
 |none=>rfl
 |some w=>rw[hg] at h;simpa using h
theorem zs9 {s:List Wit}(h:zbh s=0){p:Wit→Bool}(hn:hdS s p≠[]):hdB s p ((hdS s p).headD 0)=true:=by
 cases hl:hdS s p with
 |nil=>exact absurd hl hn
 |cons x r=>exact(zxm h).1 (by rw[hl];exact List.mem_cons_self)
theorem zqi {s:List Wit}{n x:Int}(h:hdB s (hasP n) x=true):∃w,getW s x=some w∧w∈s∧n∈w.slips:=by
 unfold hdB at h
 cases hg:getW s x with
 |none=>rw[hg] at h;cases h
 |some w=>rw[hg] at h;exact⟨w,rfl,(zu4 hg).1,by simpa[hasP] using h⟩
theorem z2b {s:List Wit}{n x:Int}{w:Wit}(hg:getW s x=some w)(h:hdB s (hasP n) x=false):n∉w.slips:=by
 unfold hdB at h
 rw[hg] at h
 simpa[hasP] using h
theorem xe5 {s:List Wit}(h:zbh s=0){A B x1 x2 x3:Int}(hc:ccR s A B x1 x2 x3=0):(crR s).isSome=true:=by
 unfold ccR at hc
 rw[if_pos h] at hc
 by_cases h2:ccB s A B x1 x2 x3=true
 ·unfold ccB at h2
  simp only[xfr,Bool.not_eq_true',decide_eq_false_iff_not] at h2
  obtain⟨_,h1,h3,h4,h5,h6,h7⟩:=h2
  obtain⟨w,g1,w1,w2⟩:=zqi h1
  obtain⟨w',g1',_,w3⟩:=zqi h3
  rw[g1] at g1';cases g1'
  obtain⟨u,g2,u1,u2⟩:=zqi h4
  obtain⟨v,g3,v1,v2⟩:=zqi h7
  exact(zr6 h).2 ⟨A,B,⟨w,w1,w2,w3⟩,⟨u,u1,u2,z2b g2 h5⟩,v,v1,v2,z2b g3 h6⟩
 rw[if_neg h2] at hc;cases hc
theorem p24c (s:List Wit)(h:zbh s=0):zat prog 24 [encS s] fun r=>∃x1 x2 x3 x4 x5:Int,((crR s).isSome=true→ccR s x1 x2 x3 x4 x5=0)∧r=.tup [.agg [.int .i64 x1,.int .i64 x2,.int .i64 x3,.int .i64 x4,.int .i64 x5],.bool (crR s).isSome,.int .i64 0]:=by
 have hp:=p24 s (by have:=(zch h).1;omega)
 have hx:∃x1 x2 x3 x4 x5:Int,((crR s).isSome=true→ccR s x1 x2 x3 x4 x5=0)∧crT s=.tup [.agg [.int .i64 x1,.int .i64 x2,.int .i64 x3,.int .i64 x4,.int .i64 x5],.bool (crR s).isSome,.int .i64 0]:=by
  unfold crT
  rw[if_pos h]
  cases hc:crR s with
  |none=>exact⟨_,_,_,_,_,fun h=>(by cases h),rfl⟩
  |some p=>
   obtain⟨a,b⟩:=p
   refine⟨a,b,_,_,_,fun _=>?_,rfl⟩
   have hcb:=(zlr (by exact hc)).2.2
   obtain⟨n1,n2,n3⟩:=zut h hcb
   dsimp only
   rw[z4v h] at n1 ⊢
   rw[z1p h] at n2 ⊢
   rw[z1p h] at n3 ⊢
   obtain⟨a1,a2⟩:=ztb (zs9 h n1)
   obtain⟨b1,b2⟩:=ztb (zs9 h n2)
   obtain⟨c1,c2⟩:=ztb (zs9 h n3)
   have b3:=zyo b2
   have c3:=zyo c2
   have hab:a≠b:=by
    rintro rfl
    rw[b1] at b3;cases b3
   unfold ccR ccB
   rw[if_pos h,a1,a2,b1,b3,c1,c3,decide_eq_false hab]
   rfl
 obtain⟨x1,x2,x3,x4,x5,hx1,hx⟩:=hx
 rw[hx] at hp
 exact hp.mono fun r _ hr=>⟨hr.1,x1,x2,x3,x4,x5,hx1,hr.2⟩
end Go.Am.Ds
end
section
namespace Go.Am.Ds
open Go Go.Am Go.Proofs Tryz
attribute [local simp] vrun zaz zbg vop vopA zb2 zab.back hidI hidF zdh bm Nat.testBit_eq_decide_div_mod_eq za6 zbo zb4 vO zbc vlen zbs zbz zd2 zaq zak zcj vbox zbe zdu zby zge zdt zcm zau zcn zav zcl zbf zci zbr zbl vbnd zcz vidx zbp zdk zar zbt zct zdj zd9 zd6 vbin vsc vsc1 vscs vscl zbv aint zb3 zdl za8 zcx zd0 pvcV pvc pvcs tput tget zdd zab.get zab.alloc zab.put zab.drop zab.empty zce vput zdi zbb zca zda chunk List.range List.range.loop za0 zbu za1 frz frzL PV.isF PV.allF PV.scal PV.allS retP subT zds PV.one PV.ids PV.idsL zcc beq_eq zbw zbx
theorem xcs (s:List Wit)(h:zbh s=0)(hx:(crR s).isSome=false)(hn:s.length≤12):zat prog 148 [encS s] fun r=>∃T,ctT s T=0∧szG T∧r=encT T:=
 (xci s h (by have:=z5i h hx hn;omega)).mono fun r _ ⟨h1,F,h2,h3,h4⟩=>⟨h1,_,(zr4 h).2 ⟨z7j (zte h h2 h3 hx hn),zu3 h h2 h3 hx⟩,zte h h2 h3 hx hn,h4⟩
theorem p81g (s:List Wit)(h:zbh s=0)(hx:(crR s).isSome=false)(hn:s.length≤12):zat prog 81 [encS s] fun r=>∃T,ctT s T=0∧szG T∧r=.tup [encT T,.int .i64 0]:=by
 have q95:=p95 s h
 have q148:=xcs s h hx hn
 unfold encT at q148
 refine .zah func81 rfl rfl ?_
 refine .sr ?_
 refine .seq (.seq ?_)
 refine .zac [0,1,2] rfl zz0 ?_
 refine .rn [0] _ ?_
 refine .pc rfl rfl rfl rfl rfl call35 (p35 s ((by have:=(zch h).1;omega))) ?_
 refine .rn [2] [] ?_
 refine .done (.sr ?_)
 refine .cs ?_ ?_<;>intro c11
 ·try simp at c11
 try simp at c11
 refine .skip (.seq (.seq ?_))
 refine .zac [0,1,2,3,4,5,6,7,8,9] rfl zz0 ?_
 refine .rn [0] _ ?_
 refine .pc rfl rfl rfl rfl rfl call94 (p94 s h) ?_
 refine .pc rfl rfl rfl rfl rfl call95 (q95) ?_
 refine .rn [3,4,5,6,7,8,9] [] ?_
 refine .done (.sr ?_)
 refine .cs ?_ ?_<;>intro c21
 ·try simp at c21
 try simp at c21
 refine .skip (.seq ?_)
 refine .zac [0,1,2,3] rfl zz0 ?_
 refine .rn [0] _ ?_
 refine .step rfl rfl (.pure rfl rfl rfl call148 (by decide) (q148) (by first|rfl|simp[*]) ?_)
 rintro _ ⟨T,hct,hsz,rfl⟩
 refine .rn [2,3] [] ?_
 refine .done (.ret ?_)
 refine⟨_,_,zz4,zz4,?_⟩
 exact⟨T,hct,hsz,rfl⟩
theorem p82g (s:List Wit)(h:zbh s=0)(hx:(crR s).isSome=false)(hn:s.length≤12):zat prog 82 [encS s] fun r=>∃T,ctT s T=0∧szG T∧r=.tup [.int .i64 (zgn T:Nat),.int .i64 0]:=by
 have q81:=p81g s h hx hn
 unfold encT at q81
 refine .zah func82 rfl rfl ?_
 refine .sr ?_
 refine .seq ?_
 refine .zac [0,1,2,3,4,5,6,7] rfl zz0 ?_
 refine .rn [0] _ ?_
 refine .step rfl rfl (.pure rfl rfl rfl call81 (by decide) (q81) (by first|rfl|simp[*]) ?_)
 rintro _ ⟨T,hct,hsz,rfl⟩
 have hTl:T.length≤25:=hsz.1
 have hT0:1≤T.length:=List.length_pos_iff.2 ((zr4 h).1 hct).2.both.ne
 have hlo:zgn T=(T.drop 1).countP fun b=>b.cops.isEmpty:=rfl
 have htk:=zwc T
 have hU:List.drop 1 (T.map zcf)=(T.drop 1).map zcf:=List.map_drop.symm
 have hUl:(T.drop 1).length=T.length - 1:=List.length_drop
 have hT3:(1:Int)≤(T.length:Int):=by omega
 obtain⟨U,hUe⟩:∃U,T.drop 1=U:=⟨_,rfl⟩
 rw[hUe] at hU hUl hlo htk
 have hTk:List.take (T.length - 1) (U.map zcf)=U.map zcf:=List.take_of_length_le (by rw[List.length_map];omega)
 have hfin:∃T',ctT s T'=0∧szG T'∧(.tup [.int .i64 (U.countP (fun b=>b.cops.isEmpty):Nat),.int .i64 0]:PV)=.tup [.int .i64 (zgn T':Nat),.int .i64 0]:=⟨T,hct,hsz,by rw[hlo]⟩
 clear hlo hUe hT0 hct hsz
 refine .rn [2,3,4,5,6,7] [] ?_
 refine .done (.seq (.sr ?_))
 refine .cs ?_ ?_<;>intro c15
 ·try simp at c15
 try simp at c15
 refine .skip (.sr ?_)
 refine .seq (.sr ?_)
 refine .block ?_
 refine .zco (fun k:Nat=>([(6,.int .i64 ((U.take k).countP (fun b=>b.cops.isEmpty):Nat)),(19,.vec (U.map zcf)),(20,.int .i64 (T.length - 1:Nat)),(21,.int .i64 k)],zab.empty)) (fun k=>k≤U.length) (fun k=>U.length - k) 0 (by simp) (.mk [] [] zz20 zz21 rfl rfl rfl) ?_
 rintro k hk
 simp only at hk ⊢
 refine .sr ?_
 refine .seq ?_
 refine .cs ?_ ?_<;>intro c22
 ·try simp at c22
  have hk2:k<U.length:=by omega
  have hw2:=wr1 k
  have hsn:=htk k hk2
  have hEk:=zeg U[k]
  have hcl:=List.countP_le_length (p:=fun b:Br=>b.cops.isEmpty) (l:=U.take k)
  rw[List.length_take] at hcl
  obtain⟨b,hb⟩:∃b,U[k]=b:=⟨_,rfl⟩
  rw[hb] at hsn hEk
  obtain⟨N,hN⟩:∃N,(U.take k).countP (fun b=>b.cops.isEmpty)=N:=⟨_,rfl⟩
  rw[hN] at hsn hcl ⊢
  have hwN:=wr1 N
  clear htk
  refine .skip (.seq (.block (.sr ?_)))
  refine .sr ?_
  refine .cs ?_ ?_<;>intro c28
  ·try simp at c28
   refine .rn ?_
   refine .rn ?_
   refine⟨k+1,zz5,zz5,by rw[hsn,if_pos (by rw[List.isEmpty_iff];simpa using c28)];exact(.mk [] [] zz20 zz21 rfl rfl rfl)⟩
  try simp at c28
  refine .skip (.rn ?_)
  refine⟨k+1,zz5,zz5,by rw[hsn,if_neg (by rw[List.isEmpty_iff];simpa using c28)];exact(.mk [] [] zz20 zz21 rfl rfl rfl)⟩
 try simp at c22
 have:k=U.length:=by omega
 refine .exit (.sr ?_)
 refine .ret ?_
 refine⟨_,_,zz4,zz4,?_⟩
 rw[List.take_of_length_le (by omega)];exact hfin
theorem zzg (T:List Br)(k:Nat)(h0:0<k)(h:k<T.length):zgn (T.take (k+1))=zgn (T.take k)+(if T[k].cops=[] then 1 else 0):=by
 unfold zgn
 rw[List.take_succ_eq_append_getElem h,List.drop_append_of_le_length (by rw[List.length_take];omega),List.countP_append]
 simp[List.countP_cons]
theorem p88 (T:List Br)(hl:T.length<4611686018427387904):zat prog 88 [encT T] fun r=>r=.int .i64 (zgn T:Nat):=by
 unfold encT
 refine .zah func88 rfl rfl ?_
 refine .sr ?_
 refine .sr ?_
 refine .seq (.sr ?_)
 refine .block ?_
 refine .zco (fun k:Nat=>([(1,.ptr 0 0),(3,.int .i64 (zgn (T.take k):Nat)),(4,.int .i64 k)],⟨1,[(0,.box [.vec (T.map zcf)])]⟩)) (fun k=>1≤k∧(k≤T.length∨k=1)) (fun k=>T.length - k) 1 ⟨by omega,by omega⟩ (by have:zgn (T.take 1)=0:=(by unfold zgn;cases T<;>rfl);exact(.mk [] [] zz20 zz21 rfl rfl rfl)) ?_
 rintro k ⟨hk,hk2⟩
 simp only at hk hk2 ⊢
 refine .seq (.sr ?_)
 refine .cs ?_ ?_<;>intro c9
 ·try simp at c9
  have hw2:=wr1 k
  have hn:=zzg T k (by omega) c9
  have hcn:zgn (T.take k)≤k:=Nat.le_trans (List.countP_le_length) (by rw[List.length_drop,List.length_take];omega)
  obtain⟨c,hc⟩:∃c,zgn (T.take k)=c:=⟨_,rfl⟩
  rw[hc] at hn hcn ⊢
  have hw3:=wr1 c
  have hEk:=zeg T[k]
  obtain⟨b,hbe⟩:∃b,T[k]=b:=⟨_,rfl⟩
  rw[hbe] at hn hEk
  refine .skip (.seq (.block (.sr ?_)))
  refine .cs ?_ ?_<;>intro c19
  ·try simp at c19
   rw[if_pos c19] at hn
   refine .rn ?_
   refine .rn ?_
   refine⟨k+1,⟨zz5,zz5⟩,zz5,(.mk [] [] zz20 zz21 rfl rfl rfl)⟩
  try simp at c19
  rw[if_neg c19] at hn;try simp only[Nat.add_zero] at hn
  refine .skip (.rn ?_)
  refine⟨k+1,⟨zz5,zz5⟩,zz5,(.mk [] [] zz20 zz21 rfl rfl rfl)⟩
 try simp at c9
 have hT:T.take k=T:=List.take_of_length_le (by omega)
 rw[hT]
 refine .exit (.sr ?_)
 refine .ret ?_
 refine⟨_,_,zz4,zz4,?_⟩
 first|rfl|(simp[*];done)|(simp_all;done)
attribute [local simp] zW tup2
theorem p24n (s:List Wit)(h:zbh s≠0)(hl:s.length<4294967296):zat prog 24 [encS s] fun r=>r=.tup [.agg [.int .i64 0,.int .i64 0,.int .i64 0,.int .i64 0,.int .i64 0],.bool false,.int .i64 (zbh s)]:=by
 have:=p24 s hl
 rw[crT,if_neg h,zX] at this
 exact this
theorem p19 (s:List Wit)(T:List Br)(A B x1 x2 x3:Int)(hl:s.length<4611686018427387904)(hTl:T.length<4611686018427387904)(hTb:∀b∈T,b.slips.length<4611686018427387904∧b.cops.length<4611686018427387904)(sanB:Bool)(hsan:zat prog 22 [] fun r=>r=.bool sanB)(hsb:sanB=true):zat prog 19 [encS s,encT T,.agg [.int .i64 A,.int .i64 B,.int .i64 x1,.int .i64 x2,.int .i64 x3]] fun r=>r=.bool true:=by
 refine .zah func19 rfl rfl ?_
 refine .sr ?_
 refine .seq (.seq ?_)
 refine .zac [0,1,2,3,4,5,6,7] rfl zz0 ?_
 refine .rn [0] _ ?_
 refine .pc rfl rfl rfl rfl rfl call21 (p21 s hl) ?_
 refine .rn [2,3] _ ?_
 refine .split (t:=19) rfl (fun c19=>?_) (fun c19=>?_)
 ·first|cases c19|(have h:=bnt c19;cases h)|(have h:=bnf c19;cases h)|try rw[c19]
  try simp at c19
  refine .rn [4,5,6,7] [] ?_
  refine .done (.zey rfl (.seq ?_))
  refine .zac [0,1] rfl zz0 ?_
  refine .pc rfl rfl rfl rfl rfl call22 (hsan) ?_
  refine .rn [1] [] ?_
  refine .done (.ret ?_)
  refine⟨_,_,zz4,zz4,?_⟩
  first|rfl|(simp[*];done)|(simp_all;done)
 first|cases c19|(have h:=bnt c19;cases h)|(have h:=bnf c19;cases h)|try rw[c19]
 try simp at c19
 refine .rn [4] _ ?_
 refine .pc rfl rfl rfl rfl rfl call80 (p80 T hTl hTb) ?_
 refine .rn [6,7] [] ?_
 refine .done ?_
 refine .cs ?_ ?_<;>intro c23
 ·try simp at c23
  refine .seq ?_
  refine .zac [0,1] rfl zz0 ?_
  refine .pc rfl rfl rfl rfl rfl call22 (hsan) ?_
  refine .rn [1] [] ?_
  refine .done (.ret ?_)
  refine⟨_,_,zz4,zz4,?_⟩
  first|rfl|(simp[*];done)|(simp_all;done)
 try simp at c23
 have hf:zli s=true:=by first|exact c19|simpa using c19
 have hl2:=zvy hf
 have hs:s.length<4294967296:=by omega
 have q87:=p87 s T hs hTl hTb
 have q53:=p53 s A B x1 x2 x3 hs
 have q88:=p88 T hTl
 obtain⟨C,hC⟩:∃C,ctT s T=C:=⟨_,rfl⟩
 rw[hC] at q87
 obtain⟨D,hD⟩:∃D,ccR s A B x1 x2 x3=D:=⟨_,rfl⟩
 rw[hD] at q53
 have hsel:zbh s≠0∨(zbh s=0∧(crR s).isSome=true)∨(zbh s=0∧(crR s).isSome=false):=by
  by_cases h:zbh s=0
  ·cases hx:(crR s).isSome with
   |true=>exact .inr (.inl ⟨h,rfl⟩)
   |false=>exact .inr (.inr ⟨h,rfl⟩)
  exact .inl h
 clear c19 c23 hf
 rcases hsel with hck|⟨hck,hx⟩|⟨hck,hx⟩
 ·skip
  refine .skip (.seq ?_)
  have q81:=p81e s hs hck
  have q24:=p24n s hck hs
  unfold encS at q81 q24
  refine .zac [0,1,2,3,4,5,6,7] rfl zz0 ?_
  refine .rn [0] _ ?_
  refine .pc rfl rfl rfl rfl rfl call81 (q81) ?_
  refine .rn [2,3,4,5,6,7] [] ?_
  refine .done (.seq ?_)
  refine .zac [0,1,2,3,4,5,6,7,8,9] rfl zz0 ?_
  refine .rn [0] _ ?_
  refine .pc rfl rfl rfl rfl rfl call24 (q24) ?_
  refine .rn [2,3,4,5,6,7,8,9] [] ?_
  refine .done (.seq (.sr ?_))
  refine .cs ?_ ?_<;>intro c37
  ·try simp at c37
   refine .seq ?_
   refine .zac [0,1,2,3,4,5,6] rfl zz0 ?_
   refine .pc rfl rfl rfl rfl rfl call22 (hsan) ?_
   refine .rn [1] _ ?_
   refine .split (t:=39) rfl (fun c39=>?_) (fun c39=>?_)
   ·first|cases c39|(have h:=bnt c39;cases h)|(have h:=bnf c39;cases h)|try rw[c39]
    try simp at c39
    refine .rn [2,3,4,5,6] [] ?_
    refine .done (.ret ?_)
    refine⟨_,_,zz4,zz4,?_⟩
    first|rfl|(simp[*];done)|(simp_all;done)
   first|cases c39|(have h:=bnt c39;cases h)|(have h:=bnf c39;cases h)|try rw[c39]
   try simp at c39
  try simp at c37
  exact absurd c37 hck
 ·skip
  refine .skip (.seq ?_)
  have q81:=p81x s hck hx
  have q24:=p24c s hck
  rw[hx] at q24
  have hCn:C≠0:=by
   rintro rfl
   have:=z3s hck hC
   rw[hx] at this;cases this
  have q53y:=fun y1 y2 y3 y4 y5=>p53 s y1 y2 y3 y4 y5 hs
  unfold encS at q81 q24 q87 q53 q53y
  unfold encT at q87
  clear hC hD hx
  refine .zac [0,1,2,3,4,5,6,7] rfl zz0 ?_
  refine .rn [0] _ ?_
  refine .pc rfl rfl rfl rfl rfl call81 (q81) ?_
  refine .rn [2,3,4,5,6,7] [] ?_
  refine .done (.seq ?_)
  refine .zac [0,1,2,3,4,5,6,7,8,9] rfl zz0 ?_
  refine .rn [0] _ ?_
  refine .step rfl rfl (.pure rfl rfl rfl call24 (by decide) (q24) (by first|rfl|simp[*]) ?_)
  rintro _ ⟨y1,y2,y3,y4,y5,hy,rfl⟩
  have q53z:=q53y y1 y2 y3 y4 y5
  rw[hy rfl] at q53z
  refine .rn [2,3,4,5,6,7,8,9] [] ?_
  refine .done (.seq (.sr ?_))
  refine .cs ?_ ?_<;>intro c37
  ·try simp at c37
  try simp at c37
  refine .skip (.seq ?_)
  refine .zac [0,1,2,3,4] rfl zz0 ?_
  refine .rn [0,1] _ ?_
  refine .pc rfl rfl rfl rfl rfl call87 (q87) ?_
  refine .rn [3,4] [] ?_
  refine .done (.seq ?_)
  refine .zac [0,1,2,3,4] rfl zz0 ?_
  refine .rn [0,1] _ ?_
  refine .pc rfl rfl rfl rfl rfl call53 (q53) ?_
  refine .rn [3,4] [] ?_
  refine .done (.seq (.seq ?_))
  refine .zac [0,1,2,3,4,5,6,7,8,9,10,11,12,13,14,15,16,17,18,19,20,21,22,23,24,25,26,27,28,29,30,31,32,33] rfl zz0 ?_
  refine .rn [0,1,2,3,4] _ ?_
  refine .split (t:=56) rfl (fun c56=>?_) (fun c56=>?_)
  ·first|cases c56|(have h:=bnt c56;cases h)|(have h:=bnf c56;cases h)|try rw[c56]
   try simp at c56
  first|cases c56|(have h:=bnt c56;cases h)|(have h:=bnf c56;cases h)|try rw[c56]
  try simp at c56
  refine .rn [5,6,7] _ ?_
  refine .split (t:=59) rfl (fun c59=>?_) (fun c59=>?_)
  ·first|cases c59|(have h:=bnt c59;cases h)|(have h:=bnf c59;cases h)|try rw[c59]
   try simp at c59
   refine .rn [8,9,10,11,12] _ ?_
   refine .split (t:=64) rfl (fun c64=>?_) (fun c64=>?_)
   ·first|cases c64|(have h:=bnt c64;cases h)|(have h:=bnf c64;cases h)|try rw[c64]
    try simp at c64
   first|cases c64|(have h:=bnt c64;cases h)|(have h:=bnf c64;cases h)|try rw[c64]
   try simp at c64
   refine .rn [13,14] _ ?_
   refine .split (t:=66) rfl (fun c66=>?_) (fun c66=>?_)
   ·first|cases c66|(have h:=bnt c66;cases h)|(have h:=bnf c66;cases h)|try rw[c66]
    try simp at c66
    refine .rn [15,16] _ ?_
    refine .pc rfl rfl rfl rfl rfl call53 (q53z) ?_
    refine .rn [18,19,20,21] _ ?_
    refine .split (t:=73) rfl (fun c73=>?_) (fun c73=>?_)
    ·first|cases c73|(have h:=bnt c73;cases h)|(have h:=bnf c73;cases h)|try rw[c73]
     try simp at c73
    first|cases c73|(have h:=bnt c73;cases h)|(have h:=bnf c73;cases h)|try rw[c73]
    try simp at c73
    refine .rn [22,23] _ ?_
    refine .split (t:=75) rfl (fun c75=>?_) (fun c75=>?_)
    ·first|cases c75|(have h:=bnt c75;cases h)|(have h:=bnf c75;cases h)|try rw[c75]
     try simp at c75
     refine .rn [24,25,26,27] _ ?_
     refine .split (t:=79) rfl (fun c79=>?_) (fun c79=>?_)
     ·first|cases c79|(have h:=bnt c79;cases h)|(have h:=bnf c79;cases h)|try rw[c79]
      try simp at c79
      exact absurd c79 hCn
     first|cases c79|(have h:=bnt c79;cases h)|(have h:=bnf c79;cases h)|try rw[c79]
     try simp at c79
     refine .rn [28,29,30] _ ?_
     refine .split (t:=82) rfl (fun c82=>?_) (fun c82=>?_)
     ·first|cases c82|(have h:=bnt c82;cases h)|(have h:=bnf c82;cases h)|try rw[c82]
      try simp at c82
     first|cases c82|(have h:=bnt c82;cases h)|(have h:=bnf c82;cases h)|try rw[c82]
     try simp at c82
     refine .rn [31,32,33] [] ?_
     refine .done (.zd3 rfl (.skip (.seq (.sr ?_))))
     refine .cs ?_ ?_<;>intro c86
     ·try simp at c86
      refine .seq ?_
      refine .zac [0,1] rfl zz0 ?_
      refine .pc rfl rfl rfl rfl rfl call22 (hsan) ?_
      refine .rn [1] [] ?_
      refine .done (.ret ?_)
      refine⟨_,_,zz4,zz4,?_⟩
      first|rfl|(simp[*];done)|(simp_all;done)
     try simp at c86
    first|cases c75|(have h:=bnt c75;cases h)|(have h:=bnf c75;cases h)|try rw[c75]
    try simp at c75
   first|cases c66|(have h:=bnt c66;cases h)|(have h:=bnf c66;cases h)|try rw[c66]
   try simp at c66
  first|cases c59|(have h:=bnt c59;cases h)|(have h:=bnf c59;cases h)|try rw[c59]
  try simp at c59
 skip
 refine .skip (.seq ?_)
 have q81:=p81g s hck hx hl2
 have q82:=p82g s hck hx hl2
 have q24:=p24c s hck
 rw[hx] at q24
 have hDn:D≠0:=by
  rintro rfl
  have:=xe5 hck hD
  rw[hx] at this;cases this
 have hone:∀T1 T2,ctT s T1=0→ctT s T2=0→T1.length=T2.length∧zgn T1=zgn T2:=fun T1 T2 h1 h2=>xab hck h1 h2
 have q87o:∀T0,ctT s T0=0→szG T0→zat prog 87 [encS s,encT T0] fun r=>r=.int .i64 0:=fun T0 h hz=>by
  have:=p87 s T0 hs (by have:=hz.1;omega) (fun b hb=>by have:=hz.2 b hb;omega)
  rw[h] at this;exact this
 have q88o:∀T0,szG T0→zat prog 88 [encT T0] fun r=>r=.int .i64 (zgn T0:Nat):=fun T0 hz=>p88 T0 (by have:=hz.1;omega)
 unfold encS at q81 q82 q24 q87 q53 q87o
 unfold encT at q81 q87 q87o q88 q88o
 clear hD hx
 refine .zac [0,1,2,3,4,5,6,7] rfl zz0 ?_
 refine .rn [0] _ ?_
 refine .step rfl rfl (.pure rfl rfl rfl call81 (by decide) (q81) (by first|rfl|simp[*]) ?_)
 rintro _ ⟨T0,hct0,hz0,rfl⟩
 have q87p:=q87o T0 hct0 hz0
 have q88p:=q88o T0 hz0
 refine .rn [2,3,4,5,6,7] [] ?_
 refine .done (.seq ?_)
 refine .zac [0,1,2,3,4,5,6,7,8,9] rfl zz0 ?_
 refine .rn [0] _ ?_
 refine .step rfl rfl (.pure rfl rfl rfl call24 (by decide) (q24) (by first|rfl|simp[*]) ?_)
 rintro _ ⟨y1,y2,y3,y4,y5,hy,rfl⟩
 clear hy
 refine .rn [2,3,4,5,6,7,8,9] [] ?_
 refine .done (.seq (.sr ?_))
 refine .cs ?_ ?_<;>intro c37
 ·try simp at c37
 try simp at c37
 refine .skip (.seq ?_)
 refine .zac [0,1,2,3,4] rfl zz0 ?_
 refine .rn [0,1] _ ?_
 refine .pc rfl rfl rfl rfl rfl call87 (q87) ?_
 refine .rn [3,4] [] ?_
 refine .done (.seq ?_)
 refine .zac [0,1,2,3,4] rfl zz0 ?_
 refine .rn [0,1] _ ?_
 refine .pc rfl rfl rfl rfl rfl call53 (q53) ?_
 refine .rn [3,4] [] ?_
 refine .done (.seq (.seq ?_))
 refine .zac [0,1,2,3,4,5,6,7,8,9,10,11,12,13,14,15,16,17,18,19,20,21,22,23,24,25,26,27,28,29,30,31,32,33] rfl zz0 ?_
 refine .rn [0,1,2,3,4] _ ?_
 refine .split (t:=56) rfl (fun c56=>?_) (fun c56=>?_)
 ·first|cases c56|(have h:=bnt c56;cases h)|(have h:=bnf c56;cases h)|try rw[c56]
  try simp at c56
 first|cases c56|(have h:=bnt c56;cases h)|(have h:=bnf c56;cases h)|try rw[c56]
 try simp at c56
 refine .rn [5,6,7] _ ?_
 refine .split (t:=59) rfl (fun c59=>?_) (fun c59=>?_)
 ·first|cases c59|(have h:=bnt c59;cases h)|(have h:=bnf c59;cases h)|try rw[c59]
  try simp at c59
 first|cases c59|(have h:=bnt c59;cases h)|(have h:=bnf c59;cases h)|try rw[c59]
 try simp at c59
 refine .rn [8,9,10,11,12,13,14] _ ?_
 refine .split (t:=66) rfl (fun c66=>?_) (fun c66=>?_)
 ·first|cases c66|(have h:=bnt c66;cases h)|(have h:=bnf c66;cases h)|try rw[c66]
  try simp at c66
 first|cases c66|(have h:=bnt c66;cases h)|(have h:=bnf c66;cases h)|try rw[c66]
 try simp at c66
 refine .rn [15,16,17,18,19,20,21,22,23] _ ?_
 refine .split (t:=75) rfl (fun c75=>?_) (fun c75=>?_)
 ·first|cases c75|(have h:=bnt c75;cases h)|(have h:=bnf c75;cases h)|try rw[c75]
  try simp at c75
 first|cases c75|(have h:=bnt c75;cases h)|(have h:=bnf c75;cases h)|try rw[c75]
 try simp at c75
 refine .rn [24,25,26,27,28,29,30] _ ?_
 refine .split (t:=82) rfl (fun c82=>?_) (fun c82=>?_)
 ·first|cases c82|(have h:=bnt c82;cases h)|(have h:=bnf c82;cases h)|try rw[c82]
  try simp at c82
  refine .rn [31,32,33] [] ?_
  refine .done ?_
  refine .cs ?_ ?_<;>intro c85
  ·try simp at c85
   exact absurd c85 hDn
  try simp at c85
  refine .skip (.seq (.sr ?_))
  refine .cs ?_ ?_<;>intro c86
  ·try simp at c86
  try simp at c86
  refine .skip (.seq ?_)
  refine .zac [0,1,2,3,4,5,6] rfl zz0 ?_
  refine .rn [0] _ ?_
  refine .step rfl rfl (.pure rfl rfl rfl call82 (by decide) (q82) (by first|rfl|simp[*]) ?_)
  rintro _ ⟨T1,hct1,hz1,rfl⟩
  obtain⟨el,eo⟩:=hone T0 T1 hct0 hct1
  rw[eo] at q88p
  refine .rn [2,3,4,5,6] [] ?_
  refine .done (.seq ?_)
  refine .zac [0,1,2,3,4,5,6,7,8,9,10,11,12,13,14,15,16,17,18,19,20,21,22,23,24,25,26,27,28,29,30,31,32,33,34,35,36] rfl zz0 ?_
  refine .pc rfl rfl rfl rfl rfl call22 (hsan) ?_
  refine .rn [1] _ ?_
  refine .split (t:=94) rfl (fun c94=>?_) (fun c94=>?_)
  ·first|cases c94|(have h:=bnt c94;cases h)|(have h:=bnf c94;cases h)|try rw[c94]
   try simp at c94
   refine .rn [2,3,4,5] _ ?_
   refine .split (t:=98) rfl (fun c98=>?_) (fun c98=>?_)
   ·first|cases c98|(have h:=bnt c98;cases h)|(have h:=bnf c98;cases h)|try rw[c98]
    try simp at c98
    refine .rn [6,7] _ ?_
    refine .pc rfl rfl rfl rfl rfl call87 (q87p) ?_
    refine .rn [9,10,11] _ ?_
    refine .split (t:=104) rfl (fun c104=>?_) (fun c104=>?_)
    ·first|cases c104|(have h:=bnt c104;cases h)|(have h:=bnf c104;cases h)|try rw[c104]
     try simp at c104
     refine .rn [12] _ ?_
     refine .pc rfl rfl rfl rfl rfl call88 (q88p) ?_
     refine .rn [14,15,16,17] _ ?_
     refine .split (t:=110) rfl (fun c110=>?_) (fun c110=>?_)
     ·first|cases c110|(have h:=bnt c110;cases h)|(have h:=bnf c110;cases h)|try rw[c110]
      try simp at c110
      refine .rn [18,19,20] _ ?_
      refine .split (t:=113) rfl (fun c113=>?_) (fun c113=>?_)
      ·first|cases c113|(have h:=bnt c113;cases h)|(have h:=bnf c113;cases h)|try rw[c113]
       try simp at c113
       refine .rn [21,22,23,24,25,26,27,28,29,30,31,32,33,34,35,36] [] ?_
       refine .done (.ret ?_)
       refine⟨_,_,zz4,zz4,?_⟩
       first|rfl|(simp[*];done)|(simp_all;done)
      first|cases c113|(have h:=bnt c113;cases h)|(have h:=bnf c113;cases h)|try rw[c113]
      try simp at c113
      obtain⟨fl,fo⟩:=hone T T1 (hC.trans c113) hct1
      rw[fo] at q88
      have hlen:T.length=T0.length:=by omega
      refine .rn [21] _ ?_
      refine .pc rfl rfl rfl rfl rfl call88 (q88) ?_
      refine .rn [23,24,25] _ ?_
      refine .split (t:=118) rfl (fun c118=>?_) (fun c118=>?_)
      ·first|cases c118|(have h:=bnt c118;cases h)|(have h:=bnf c118;cases h)|try rw[c118]
       try simp at c118
       refine .rn [26,27,28,29,30,31,32,33,34,35,36] [] ?_
       refine .done (.ret ?_)
       refine⟨_,_,zz4,zz4,?_⟩
       first|rfl|(simp[*];done)|(simp_all;done)
      first|cases c118|(have h:=bnt c118;cases h)|(have h:=bnf c118;cases h)|try rw[c118]
      try simp at c118
     first|cases c110|(have h:=bnt c110;cases h)|(have h:=bnf c110;cases h)|try rw[c110]
     try simp at c110
    first|cases c104|(have h:=bnt c104;cases h)|(have h:=bnf c104;cases h)|try rw[c104]
    try simp at c104
   first|cases c98|(have h:=bnt c98;cases h)|(have h:=bnf c98;cases h)|try rw[c98]
   try simp at c98
  first|cases c94|(have h:=bnt c94;cases h)|(have h:=bnf c94;cases h)|try rw[c94]
  try simp at c94
 first|cases c82|(have h:=bnt c82;cases h)|(have h:=bnf c82;cases h)|try rw[c82]
 try simp at c82
end Go.Am.Ds
end
