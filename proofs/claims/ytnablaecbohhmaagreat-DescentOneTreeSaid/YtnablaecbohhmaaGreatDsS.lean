/-
 What is used in the proof of a statement (part DsS); no condition.
-/
import Derived.Test.YtnablaecbohhmaaGreatDsP1
import Derived.Test.YtnablaecbohhmaaGreatDsP2
import Derived.Test.YtnablaecbohhmaaGreatDsP3
import Derived.Test.YtnablaecbohhmaaGreatVm2
import Derived.Test.YtnablaecbohhmaaGreatDsT
import Derived.Test.YtnablaecbohhmaaGreatDsE
import Derived.Test.YtnablaecbohhmaaGreatDsZ
set_option linter.all false
set_option maxHeartbeats 40000000
set_option maxRecDepth 100000
section
namespace Go.Am.Ds
open Go Go.Am Go.Proofs Tryz
theorem mixed:prog.follows .mixedOrders=true:=by decide +kernel
def allP:List zfe:=[pc0,pc1,pc2,pc3,pc4,pc5,pc6,pc7,pc8,pc9,pc10,pc11,pc12,pc13,pc14,pc15]
theorem topB:(match (z4m prog 0 (zrr tabL) spc 100000 (orcP allP orc0)).call 22 [] zaa.empty with
 |some (.bool c,_)=>c==true
 |_=>false)=true:=by decide +kernel
theorem zyn (hS:zun prog 0 spc):zat prog 22 [] fun r=>r=.bool true:=by
 have h0:zkf prog 0 orc0:=z1m mixed (zuu zwu) hS 100000 60
 refine .of_closed (zxx (zvc mixed (zuu zwu) hS 100000 (z3c (ps:=allP) ?_ h0)) topB)
 exact zae (zb8 h0 pcB0) (zae (zb8 h0 pcB1) (zae (zb8 h0 pcB2) (zae (zb8 h0 pcB3) (zae (zb8 h0 pcB4) (zae (zb8 h0 pcB5) (zae (zb8 h0 pcB6) (zae (zb8 h0 pcB7)
  (zae (zb8 h0 pcB8) (zae (zb8 h0 pcB9) (zae (zb8 h0 xe7) (zae (zb8 h0 xel) (zae (zb8 h0 xdp) (zae (zb8 h0 xcv) (zae (zb8 h0 xdt) (zae (zb8 h0 xeq) z1w)))))))))))))))
end Go.Am.Ds
end
section
namespace Go.Am.Ds
open Go Go.Am Go.Proofs Tryz
theorem zmy {n:Int}:∀ {es:List (Value×Value)} {ks:List Int},es.map (·.1)=ks.map (Value.int .i64)→n∉ks→zkk .i64 n es=some none
 |[],_,_,_=>rfl
 |(a,v)::r,[],h,_=>by simp at h
 |(a,v)::r,k::ks,h,hn=>by
  simp only[List.map_cons,List.cons.injEq] at h
  obtain⟨rfl,h⟩:=h
  simp only[List.mem_cons,not_or] at hn
  simp only[zkk,zmy h hn.2]
  simp[Ne.symm hn.1]
theorem xeo (h:zaa)(n m:Nat)(es:List (Value×Value))(l:List (Int×PV))(hmn:m<n)(hn:n<h.next)(h1:h.get n=some (.map []))(h2:h.get m=some (.map es))(hr:zm2 es=some l)(hnd:(l.map (·.1)).Nodup) :
  zc0 prog n 158 [.map (some n),.map (some m)] h fun r h'=>r=.tuple #[]∧∃vis,vis.Perm es∧h'.get n=some (.map vis):=by
 obtain⟨hk1,hk2⟩:=zkh hr
 have hnd':(es.map (·.1)).Nodup:=by
  rw[hk1,show l.map (fun p=>Value.int .i64 p.1)=(l.map (·.1)).map (Value.int .i64) by simp]
  exact hnd.map _ fun a b hab=>by simpa using hab
 refine .zah func158 rfl ?_
 refine AW.mapRange (i:=0) (j:=1) (tI:=7) (tN:=8) (tB:=9) (tE:=10) (k:=1) (x:=.tmp 6) rfl rfl rfl rfl rfl u139 rfl rfl rfl rfl rfl rfl rfl rfl rfl rfl ?_
 refine AOps.run (by simp[zlg,List.range,List.range.loop,aop,za7,Region.wanted,za2,aput,zen,zdg,List.set,ntmps158,List.replicate];exact⟨rfl,rfl⟩) ?_
 refine⟨m,es,16,fun vis ts hh=>ts.length=16∧ts.getD 0 Go.undef=.map (some n)∧ts.getD 7 Go.undef=.pointer (some ⟨h.next,0,none⟩)∧hh.get n=some (.map vis)∧∃ks:List Int,vis.map (·.1)=ks.map (Value.int .i64),by simp[za7],h2,⟨by decide,by decide,by decide,by decide,hmn,fun p hp=>?_,fun vis ts hh hi=>hi.1,fun vis ts hh hi=>hi.2.2.1,?_,?_⟩,?_⟩
 ·have:p.1∈es.map (·.1):=List.mem_map_of_mem hp
  rw[hk1,List.mem_map] at this
  obtain⟨q,_,hq⟩:=this
  rw[← hq];rfl
 ·rintro vis ⟨pk,pv⟩ ts hh ⟨hl,t0,t7,hg,ks,hks⟩ hp hnv hgm
  obtain⟨q,hq,hqe⟩:∃q∈l,Value.int .i64 q.1=pk:=by
   have:pk∈es.map (·.1):=List.mem_map_of_mem hp
   rw[hk1,List.mem_map] at this
   exact this
  subst hqe
  match ts,hl with
  |[a0,a1,a2,a3,a4,a5,a6,a7,a8,a9,a10,a11,a12,a13,a14,a15],_=>
  simp only[List.getD_cons_zero,List.getD_cons_succ] at t0 t7
  subst t0;subst t7
  refine AOps.run (by simp[zlg,List.range',aop,za7,Region.wanted,za2,aput,zen,zdg,List.set,zhg];exact⟨rfl,rfl⟩) ?_
  have hkn:q.1∉ks:=fun hk=>hnv (by
   show Value.int .i64 q.1∈vis.map (·.1)
   rw[hks];exact List.mem_map_of_mem hk)
  have hm:=zmy hks hkn
  refine .region (AOps.run (by simp[zlg,List.range,List.range.loop,aop,za7,Region.wanted,za2,aput,zen,zdg,List.set,znz,zer,xan,hg,hm,show Nat.ble n n=true from Nat.ble_self_eq_true n]<;>first|exact⟨rfl,rfl⟩|rfl) ?_)
  have hnl:=zaa.zai hg
  refine⟨by simp[aput],by simp[aput],by simp[aput],?_,ks++[q.1],by simp[hks]⟩
  rw[zaa.zaw _ _ _ _ hnl];simp
 ·rintro vis ts hh ⟨hl,t0,t7,hg,ks,hks⟩ hall hsub hnod hgm
  refine⟨[],rfl,rfl,vis,?_,hg⟩
  have n1:vis.Nodup:=List.Pairwise.of_map (·.1) (fun a b hab he=>hab (congrArg (·.1) he)) hnod
  have n2:es.Nodup:=List.Pairwise.of_map (·.1) (fun a b hab he=>hab (congrArg (·.1) he)) hnd'
  exact(List.perm_ext_iff_of_nodup n1 n2).2 fun a=>⟨hsub a,hall a⟩
 refine⟨by simp[aput],by simp[aput],by simp[aput],?_,[],rfl⟩
 rw[zaa.zbq];exact h1
end Go.Am.Ds
end
section
namespace Go.Am.Ds
open Go Go.Am Go.Proofs Tryz
attribute [local simp] vrun zaz zbg vop za6 zbo zb4 vO zbc vlen zbs zbz zd2 zaq zak zcj vbox zbe zdu zby zdt zcm zau zcn zav zcl zbf zci zbr zbl vbnd zcz vidx zbp zdk zar zbt zdj zd9 zd6 vbin vsc vsc1 vscs vscl zbv aint zb3 zdl za8 zcx zd0 pvcV pvc pvcs tput tget zdd zab.get zab.alloc zab.put zab.drop zab.empty zce vput zdi zbb zca zda chunk List.range List.range.loop za0 zbu za1 frz frzL PV.isF PV.allF PV.scal PV.allS retP subT zds PV.one PV.ids PV.idsL zcc beq_eq zbw zbx
theorem p125 (l:List (Int×PV))(hnd:(l.map (·.1)).Nodup)(hl:l.length<4294967296):zat prog 125 [.vmap (kvs l)] fun r=>r=.vec (((l.map (·.1)).mergeSort fun x y=>decide (x≤y)).map (.int .i64)):=by
 refine .zah func125 rfl rfl ?_
 refine .sr ?_
 refine .sr ?_
 refine .seq ?_
 refine .mapRange (i:=0) (j:=1) (tI:=6) (tN:=7) (tB:=8) (tE:=9) (tX:=5) (y:=.tmp 0) (es:=kvs l)
  (fun vis=>([(6,.ptr 0 0),(3,.grow 1 vis.length true)],⟨2,[(1,.grow 1 ((kk l vis).map (.int .i64)))]⟩)) (fun vis=>vis.length≤l.length∧∀k∈vis,k<l.length)
  rfl rfl rfl rfl rfl rfl u139 rfl rfl rfl rfl rfl rfl rfl rfl rfl rfl zz0 (by decide) (by decide) (by simp) ?_ ?_ (fun vis=>⟨rfl,rfl⟩) (.mk [] [] zz2 zz3 rfl rfl rfl) ⟨rfl,rfl⟩ ⟨by simp,fun k hk=>by cases hk⟩ ?_ ?_
 ·rintro p hp
  obtain⟨q,_,rfl⟩:=List.mem_map.1 hp
  exact⟨_,_,rfl⟩
 ·rw[zui]
  exact hnd.map _ fun a b hab=>by simpa using hab
 ·rintro vis k p ⟨hI,hI2⟩ hvn hp hkv
  have hkl:k<l.length:=by
   have:=(List.getElem?_eq_some_iff.1 hp).1
   simpa[kvs] using this
  have hle:vis.length<l.length:=z9q hvn hI2 hkl hkv
  have hq:l[k]?=some l[k]:=by simp[hkl]
  have hpe:p=(.int .i64 l[k].1,l[k].2):=by
   simp only[kvs,List.getElem?_map,hq,Option.map_some,xfm] at hp
   exact hp.symm
  subst hpe
  have hs:=z5k l vis k _ hq
  have hlen:=zrn l vis
  have hb:vis.length≤4294967295:=by omega
  have hone:zdr [PV.int IntKind.i64 l[k].1]=true:=rfl
  refine .rn [1,2] [] ?_
  refine .done (.rn ?_)
  refine⟨⟨by simp;omega,fun x hx=>?_⟩,(.mk [] [(1,3)] zz2 zz3 rfl rfl rfl)⟩
  rcases List.mem_append.1 hx with hx|hx
  ·exact hI2 x hx
  simp at hx;subst hx;exact hkl
 rintro vis ⟨hI,hI2⟩ hvn hall
 have hall':∀k,k∈vis↔k<l.length:=fun k=>by rw[hall];simp[kvs]
 have hperm:=z2k l vis hvn hall'
 have hlen:=zrn l vis
 have hsrt:=zy8 hperm
 refine .seq ?_
 refine .zac [0,1] rfl zz0 ?_
 refine .rn [0] _ ?_
 refine .step rfl rfl (.call rfl rfl rfl call159 rfl ((zbj.zp5 z3g rfl hlen).mono ?_))
 rintro r vh ⟨rfl,rfl⟩
 refine .done (.sr ?_)
 refine .ret ?_
 have hml:(List.map (fun x=>x.fst) l).length=vis.length:=by rw[← hperm.length_eq,hlen]
 refine⟨_,_,zz4,?_,rfl⟩
 simp[*]
end Go.Am.Ds
end
