/-
 What is used in the proof of a statement (part SlK0); no condition.
-/
import Derived.Test.YthnmgbgmlhackaaGreatDoorRows
import Derived.WalkKit
import Derived.ProofKit
import Derived.OpenShut
import Derived.SizedLaws
import Derived.Test.YthnmgbgmlhackaaGreatDoorVm2
import Derived.Test.YthnmgbgmlhackaaGreatDoorSlA
set_option linter.all false
section
namespace Go.Am.Sl
open Go Go.Am Go.Proofs Go.ChangeShapes Go.WideShapes Go.ChangeAt Go.RowKit Go.Proofs.YthnmgbgmlhackaaGreatDoor
set_option linter.unusedSimpArgs false
set_option linter.unusedVariables false
set_option maxRecDepth 100000
theorem kids:Kids Tryz.prog (·<Tryz.prog.types.size):=kids_rows (by kernel_rfl) (by kernel_rfl)
theorem Q6:∀t e,t<Tryz.prog.types.size→Tryz.prog.underlying t=some (.slice e)→0<Tryz.prog.cellsOf e:=slices_full_of Tryz.prog (by kernel_rfl)
theorem own:ownKnob Tryz.prog.godebug=none:=by kernel_rfl
theorem Q7 {l:List TypeId}(h:(l.all fun t=>decide (t<Tryz.prog.types.size))=true):∀t∈l,t<Tryz.prog.types.size:=fun t ht=>by simpa using List.all_eq_true.1 h t ht
section
variable {H:Type} {enc:TypeId×Value→H} {w:World} {base:Nat}
theorem Mv {α:Type}{f:α→PV}:∀ {es:List PV},(∀x∈es,∃a,x=f a)→∃l:List α,es=l.map f
 |[],_=>⟨[],rfl⟩
 |x::r,h=>by
  obtain⟨a,ha⟩:=h x (List.mem_cons_self ..)
  obtain⟨l,hl⟩:=Mv (es:=r) fun y hy=>h y (List.mem_cons_of_mem _ hy)
  exact⟨a::l,by rw[ha,hl];rfl⟩
theorem Mw {α:Type}{f:α→PV}{Q:α→Prop}:∀ {es:List PV},(∀x∈es,∃a,x=f a∧Q a)→∃l:List α,es=l.map f∧∀a∈l,Q a
 |[],_=>⟨[],rfl,fun a h=>by cases h⟩
 |x::r,h=>by
  obtain⟨a,ha,hq⟩:=h x (List.mem_cons_self ..)
  obtain⟨l,hl,Cd⟩:=Mw (es:=r) fun y hy=>h y (List.mem_cons_of_mem _ hy)
  exact⟨a::l,by rw[ha,hl];rfl,fun b hb=>by
   rcases List.mem_cons.1 hb with rfl|hb
   ·exact hq
   exact Cd b hb⟩
theorem Aa:Tryz.prog.cellsOf 3=1:=by kernel_rfl
theorem Q8:Tryz.prog.cellsOf 5=1:=by kernel_rfl
theorem Q9:Tryz.prog.cellsOf 93=1:=by kernel_rfl
theorem GB:Tryz.prog.cellsOf 25=1:=by kernel_rfl
theorem Ra:Tryz.prog.cellsOf 22=1:=by kernel_rfl
theorem Rb:Tryz.prog.cellsOf 26=1:=by kernel_rfl
theorem z7j:Tryz.prog.cellsOf 31=1:=by kernel_rfl
theorem xbq:Tryz.prog.cellsOf 32=1:=by kernel_rfl
theorem xbf:Tryz.prog.cellsOf 91=1:=by kernel_rfl
theorem W2:Tryz.prog.cellsOf 176=3:=by kernel_rfl
theorem Rc:Tryz.prog.cellsOf 24=6:=by kernel_rfl
theorem W3:Tryz.prog.cellsOf 150=2:=by kernel_rfl
theorem xa8:Tryz.prog.cellsOf 28=9:=by kernel_rfl
theorem W4:Tryz.prog.cellsOf 48=5:=by kernel_rfl
theorem W5:Tryz.prog.cellsOf 95=4:=by kernel_rfl
theorem xd0:0<Tryz.prog.bytesOf 3:=of_decide_eq_true (by kernel_rfl)
theorem z3z:0<Tryz.prog.bytesOf 176:=of_decide_eq_true (by kernel_rfl)
theorem z4i:0<Tryz.prog.bytesOf 150:=of_decide_eq_true (by kernel_rfl)
theorem xar:0<Tryz.prog.bytesOf 48:=of_decide_eq_true (by kernel_rfl)
theorem xaa:0<Tryz.prog.bytesOf 25:=of_decide_eq_true (by kernel_rfl)
theorem z8a:0<Tryz.prog.bytesOf 95:=of_decide_eq_true (by kernel_rfl)
abbrev isInt (p:PV):Prop:=∃n,p=.int .i64 n
abbrev BR (p:PV):Prop:=∃n:Nat,p=.int .u8 n∧n<256
abbrev W6 (p:PV):Prop:=∃n:Nat,p=.int .u16 n∧n<65536
abbrev GC (p:PV):Prop:=∃l:List Int,p=ints l∧l.length<az
theorem tR:Reads enc Tryz.prog w 3 isInt:=(Re Tryz.underlying3 Aa).mono fun p ⟨n,h,_⟩=>⟨n,h⟩
theorem Rf:Reads enc Tryz.prog w 5 BR:=(Re Tryz.underlying5 Q8).mono fun p ⟨n,h,hw⟩=>by
 have h2:(decide (IntKind.min .u8≤n)&&decide (n≤IntKind.max .u8))=true:=hw
 rw[bS,decide_eq_true_eq,decide_eq_true_eq] at h2
 have h3:0≤n∧n≤255:=h2
 exact⟨n.toNat,by rw[h,Int.toNat_of_nonneg h3.1],by omega⟩
theorem z3v:Reads enc Tryz.prog w 93 W6:=(Re Tryz.underlying93 Q9).mono fun p ⟨n,h,hw⟩=>by
 have h2:(decide (IntKind.min .u16≤n)&&decide (n≤IntKind.max .u16))=true:=hw
 rw[bS,decide_eq_true_eq,decide_eq_true_eq] at h2
 have h3:0≤n∧n≤65535:=h2
 exact⟨n.toNat,by rw[h,Int.toNat_of_nonneg h3.1],by omega⟩
theorem JE:Reads enc Tryz.prog w 25 GC:=
 (GD Tryz.underlying25 GB (by rw[Aa];decide) xd0 tR).mono fun p ⟨es,h,h2,h3⟩=>by
  obtain⟨l,rfl⟩:=Mv h2
  exact⟨l,h,by simpa using h3⟩
abbrev xhl (p:PV):Prop:=∃m:gZ,p=bk m
theorem z3m:Reads enc Tryz.prog w 176 xhl:=
 (GF [isInt,isInt,isInt] Tryz.underlying176 rfl (fun i f Q hf hq=>by
  match i,hf,hq with
  |0,hf,hq=>cases hf;cases hq;exact tR
  |1,hf,hq=>cases hf;cases hq;exact tR
  |2,hf,hq=>cases hf;cases hq;exact tR) (by simp[Ab,Aa]) (by simp[total,Aa,W2])).mono fun p ⟨ps,h,hl,hp⟩=>by
  match ps,hl with
  |[a,b,c],_=>
   obtain⟨x,rfl⟩:=hp 0 _ a rfl rfl
   obtain⟨y,rfl⟩:=hp 1 _ b rfl rfl
   obtain⟨z,rfl⟩:=hp 2 _ c rfl rfl
   exact⟨⟨x,y,z⟩,h⟩
abbrev W7 (p:PV):Prop:=∃l:List gZ,p=.vec (l.map bk)∧l.length<az
theorem zwt:Reads enc Tryz.prog w 22 W7:=
 (GD Tryz.underlying22 Ra (by rw[W2];decide) z3z z3m).mono fun p ⟨es,h,h2,h3⟩=>by
  obtain⟨l,rfl⟩:=Mv h2
  exact⟨l,h,by simpa using h3⟩
abbrev Mx (p:PV):Prop:=∃(a b c d e:Int) (l:List gZ),p=.agg [.int .i64 a,.int .i64 b,.int .i64 c,.int .i64 d,.int .i64 e,.vec (l.map bk)]∧l.length<az
theorem W8:Reads enc Tryz.prog w 24 Mx:=
 (GF [isInt,isInt,isInt,isInt,isInt,W7] Tryz.underlying24 rfl (fun i f Q hf hq=>by
  match i,hf,hq with
  |0,hf,hq=>cases hf;cases hq;exact tR
  |1,hf,hq=>cases hf;cases hq;exact tR
  |2,hf,hq=>cases hf;cases hq;exact tR
  |3,hf,hq=>cases hf;cases hq;exact tR
  |4,hf,hq=>cases hf;cases hq;exact tR
  |5,hf,hq=>cases hf;cases hq;exact zwt) (by simp[Ab,Ra,Aa]) (by simp[total,Ra,Aa,Rc])).mono fun p ⟨ps,h,hl,hp⟩=>by
  match ps,hl with
  |[a,b,c,d,e,f],_=>
   obtain⟨x0,rfl⟩:=hp 0 _ a rfl rfl
   obtain⟨x1,rfl⟩:=hp 1 _ b rfl rfl
   obtain⟨x2,rfl⟩:=hp 2 _ c rfl rfl
   obtain⟨x3,rfl⟩:=hp 3 _ d rfl rfl
   obtain⟨x4,rfl⟩:=hp 4 _ e rfl rfl
   obtain⟨l,rfl,hl⟩:=hp 5 _ f rfl rfl
   exact⟨x0,x1,x2,x3,x4,l,h,hl⟩
abbrev xf3 (p:PV):Prop:=∃g:lj,p=bV g∧g.ws.length<az
theorem z4u:Reads enc Tryz.prog w 150 xf3:=
 (GF [isInt,GC] Tryz.underlying150 rfl (fun i f Q hf hq=>by
  match i,hf,hq with
  |0,hf,hq=>cases hf;cases hq;exact tR
  |1,hf,hq=>cases hf;cases hq;exact JE) (by simp[Ab,GB,Aa]) (by simp[total,GB,Aa,W3])).mono fun p ⟨ps,h,hl,hp⟩=>by
  match ps,hl with
  |[a,b],_=>
   obtain⟨x,rfl⟩:=hp 0 _ a rfl rfl
   obtain⟨y,rfl,hy⟩:=hp 1 _ b rfl rfl
   exact⟨⟨x,y⟩,h,hy⟩
abbrev My (p:PV):Prop:=∃l:List lj,p=.vec (l.map bV)∧l.length<az∧∀g∈l,g.ws.length<az
theorem W9:Reads enc Tryz.prog w 26 My:=
 (GD Tryz.underlying26 Rb (by rw[W3];decide) z4i z4u).mono fun p ⟨es,h,h2,h3⟩=>by
  obtain⟨l,rfl,h4⟩:=Mw h2
  exact⟨l,h,by simpa using h3,h4⟩
abbrev Mz (p:PV):Prop:=∃c:aj,p=aH c∧BC c
theorem z5e:Reads enc Tryz.prog w 28 Mz:=
 (GF [Mx,GC,My,GC] Tryz.underlying28 rfl (fun i f Q hf hq=>by
  match i,hf,hq with
  |0,hf,hq=>cases hf;cases hq;exact W8
  |1,hf,hq=>cases hf;cases hq;exact JE
  |2,hf,hq=>cases hf;cases hq;exact W9
  |3,hf,hq=>cases hf;cases hq;exact JE) (by simp[Ab,Rc,GB,Rb]) (by simp[total,Rc,GB,Rb,xa8])).mono fun p ⟨ps,h,hl,hp⟩=>by
  match ps,hl with
  |[a,b,c,d],_=>
   obtain⟨a0,a1,a2,a3,a4,mx,rfl,hm⟩:=hp 0 _ a rfl rfl
   obtain⟨t,rfl,ht⟩:=hp 1 _ b rfl rfl
   obtain⟨g,rfl,hg,hw⟩:=hp 2 _ c rfl rfl
   obtain⟨k,rfl,hk⟩:=hp 3 _ d rfl rfl
   exact⟨⟨a0,a1,a2,a3,a4,mx,t,g,k⟩,h,hm,ht,hk,hg,hw⟩
abbrev Rg (p:PV):Prop:=∃s:aq,p=encS s
theorem Xa:Reads enc Tryz.prog w 48 Rg:=
 (GF [isInt,isInt,isInt,isInt,isInt] Tryz.underlying48 rfl (fun i f Q hf hq=>by
  match i,hf,hq with
  |0,hf,hq=>cases hf;cases hq;exact tR
  |1,hf,hq=>cases hf;cases hq;exact tR
  |2,hf,hq=>cases hf;cases hq;exact tR
  |3,hf,hq=>cases hf;cases hq;exact tR
  |4,hf,hq=>cases hf;cases hq;exact tR) (by simp[Ab,Aa]) (by simp[total,Aa,W4])).mono fun p ⟨ps,h,hl,hp⟩=>by
  match ps,hl with
  |[a,b,c,d,e],_=>
   obtain⟨x0,rfl⟩:=hp 0 _ a rfl rfl
   obtain⟨x1,rfl⟩:=hp 1 _ b rfl rfl
   obtain⟨x2,rfl⟩:=hp 2 _ c rfl rfl
   obtain⟨x3,rfl⟩:=hp 3 _ d rfl rfl
   obtain⟨x4,rfl⟩:=hp 4 _ e rfl rfl
   exact⟨⟨x0,x1,x2,x3,x4⟩,h⟩
abbrev Rh (p:PV):Prop:=∃l:List aq,p=.vec (l.map encS)∧l.length<az
theorem z1b:Reads enc Tryz.prog w 31 Rh:=
 (GD Tryz.underlying31 z7j (by rw[W4];decide) xar Xa).mono fun p ⟨es,h,h2,h3⟩=>by
  obtain⟨l,rfl⟩:=Mv h2
  exact⟨l,h,by simpa using h3⟩
abbrev Ri (p:PV):Prop:=∃T:List (List Int),p=.vec (T.map ints)∧T.length<az∧∀r∈T,r.length<az
theorem z2x:Reads enc Tryz.prog w 32 Ri:=
 (GD Tryz.underlying32 xbq (by rw[GB];decide) xaa JE).mono fun p ⟨es,h,h2,h3⟩=>by
  obtain⟨l,rfl,h4⟩:=Mw h2
  exact⟨l,h,by simpa using h3,h4⟩
abbrev Xb (p:PV):Prop:=∃(l:List aq) (n:Int) (T:List (List Int)),p=.agg [.vec (l.map encS),.int .i64 n,.vec (T.map ints)]∧l.length<az∧T.length<az∧∀r∈T,r.length<az
structure sd where
  after:Nat
  kind:Nat
  im:Nat
  word:Nat
deriving DecidableEq
def z8 (m:sd):PV:=.agg [.int .u8 m.after,.int .u8 m.kind,.int .u8 m.im,.int .u16 m.word]
structure Jr (m:sd):Prop where
  a:m.after<256
  k:m.kind<256
  w:m.im<256
  d:m.word<65536
abbrev xh9 (p:PV):Prop:=∃m:sd,p=z8 m∧Jr m
theorem z3e:Reads enc Tryz.prog w 95 xh9:=
 (GF [BR,BR,BR,W6] Tryz.underlying95 rfl (fun i f Q hf hq=>by
  match i,hf,hq with
  |0,hf,hq=>cases hf;cases hq;exact Rf
  |1,hf,hq=>cases hf;cases hq;exact Rf
  |2,hf,hq=>cases hf;cases hq;exact Rf
  |3,hf,hq=>cases hf;cases hq;exact z3v) (by simp[Ab,Q8,Q9]) (by simp[total,Q8,Q9,W5])).mono fun p ⟨ps,h,hl,hp⟩=>by
  match ps,hl with
  |[a,b,c,d],_=>
   obtain⟨x,rfl,hx⟩:=hp 0 _ a rfl rfl
   obtain⟨y,rfl,hy⟩:=hp 1 _ b rfl rfl
   obtain⟨z,rfl,hz⟩:=hp 2 _ c rfl rfl
   obtain⟨u,rfl,hu⟩:=hp 3 _ d rfl rfl
   exact⟨⟨x,y,z,u⟩,h,hx,hy,hz,hu⟩
abbrev Rj (p:PV):Prop:=∃l:List sd,p=.vec (l.map z8)∧l.length<az∧∀m∈l,Jr m
theorem z0b:Reads enc Tryz.prog w 91 Rj:=
 (GD Tryz.underlying91 xbf (by rw[W5];decide) z8a z3e).mono fun p ⟨es,h,h2,h3⟩=>by
  obtain⟨l,rfl,h4⟩:=Mw h2
  exact⟨l,h,by simpa using h3,h4⟩
theorem z8l:vD enc Tryz.prog w base 25 GC:=JF Tryz.underlying25 (fun p ⟨l,h,_⟩=>by subst h;rfl) JE
theorem xas:vD enc Tryz.prog w base 26 My:=JF Tryz.underlying26 (fun p ⟨l,h,_⟩=>by subst h;rfl) W9
theorem z8x:vD enc Tryz.prog w base 31 Rh:=JF Tryz.underlying31 (fun p ⟨l,h,_⟩=>by subst h;rfl) z1b
theorem xc7:vD enc Tryz.prog w base 32 Ri:=JF Tryz.underlying32 (fun p ⟨l,h,_⟩=>by subst h;rfl) z2x
theorem xan:vD enc Tryz.prog w base 91 Rj:=JF Tryz.underlying91 (fun p ⟨l,h,_⟩=>by subst h;rfl) z0b
theorem Xc:vD enc Tryz.prog w base 28 Mz:=Rk Tryz.underlying28 (fun p ⟨c,h,_⟩=>⟨_,h⟩) z5e
theorem xeh:vD enc Tryz.prog w base 48 Rg:=Rk Tryz.underlying48 (fun p ⟨c,h⟩=>⟨_,h⟩) Xa
theorem z7q:vD enc Tryz.prog w base 24 Mx:=Rk Tryz.underlying24 (fun p ⟨_,_,_,_,_,_,h,_⟩=>⟨_,h⟩) W8
end
end Go.Am.Sl
end
