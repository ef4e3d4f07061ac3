/-
 What is used in the proof of a statement (part DsN); no condition.
-/
import Derived.ProofKit
import Derived.Test.YtnablaecbohhmaaGreatRows
import Derived.WalkKit
import Derived.OpenShut
import Derived.SizedLaws
import Derived.Test.YtnablaecbohhmaaGreatDsS
import Derived.Test.YtnablaecbohhmaaGreatVm2
import Derived.Test.YtnablaecbohhmaaGreatDsB
import Derived.Test.YtnablaecbohhmaaGreatDsJ
import Derived.Test.YtnablaecbohhmaaGreatDsM
set_option linter.all false
section
namespace Go.Am.Ds
open Go Go.Am Go.Proofs
theorem xev:zvl Tryz.prog 0 spc:=by
 intro orc hok f g hg args h r h' he
 unfold spc at hg
 cases h1:Nat.beq f 125 with
 |true=>
  have e:=xjj h1
  subst e
  rw[h1,xjg,xjd] at hg
  subst hg
  exact⟨Tryz.call125,z9t (fun l h1 h2=>p125 l h1 h2) (Nat.zero_le _) he⟩
 |false=>
  rw[h1,xjh] at hg
  cases h2:Nat.beq f 158 with
  |true=>
   have e:=xjj h2
   subst e
   rw[h2,xjg,xjd] at hg
   subst hg
   exact⟨Tryz.call158,zy7 (fun h n m es l a b c d e f=>xbt h n m es l a b c d e f) he⟩
  |false=>rw[h2,xjh] at hg;cases hg
theorem p22:zaj Tryz.prog 22 [] fun r=>r=.bool true:=z1w xev
end Go.Am.Ds
end
/-
 Descent: the arguments of the laws, read as values.
-/
section
namespace Go.Am.Ds
open Go Go.Am Go.Proofs
set_option linter.unusedSimpArgs false
set_option maxRecDepth 100000
section
variable {H:Type} {enc:TypeId×Value→H} {w:World}
theorem zle {α:Type}{f:α→PV}:∀ {es:List PV},(∀x∈es,∃a,x=f a)→∃l:List α,es=l.map f
 |[],_=>⟨[],rfl⟩
 |x::r,h=>by
  obtain⟨a,ha⟩:=h x (List.mem_cons_self ..)
  obtain⟨l,hl⟩:=zle (es:=r) fun y hy=>h y (List.mem_cons_of_mem _ hy)
  exact⟨a::l,by rw[ha,hl];rfl⟩
theorem zl7:Tryz.prog.cellsOf 3=1:=by kernel_rfl
theorem znr:Tryz.prog.cellsOf 25=1:=by kernel_rfl
theorem zu7:Tryz.prog.cellsOf 60=2:=by kernel_rfl
theorem z0s:Tryz.prog.cellsOf 62=7:=by kernel_rfl
theorem zt7:Tryz.prog.cellsOf 22=1:=by kernel_rfl
theorem xad:Tryz.prog.cellsOf 24=1:=by kernel_rfl
theorem xba:Tryz.prog.bytesOf 3=8:=by kernel_rfl
theorem xal:Tryz.prog.bytesOf 62=104:=by kernel_rfl
theorem zhs:Reads enc Tryz.prog w 3 fun p=>∃n,p=.int .i64 n:=
 (ztj Tryz.underlying3 zl7).mono fun p ⟨n,h,_⟩=>⟨n,h⟩
theorem zh9:Reads enc Tryz.prog w 25 fun p=>∃l:List Int,p=ints l∧l.length<inex:=
 (zjy Tryz.underlying25 znr (by rw[zl7];decide) (by rw[xba];decide) zhs).mono fun p ⟨es,h,h2,h3⟩=>by
  obtain⟨l,rfl⟩:=zle h2
  exact⟨l,h,by simpa using h3⟩
theorem z2q:Reads enc Tryz.prog w 60 fun p=>∃a b,p=.agg [.int .i64 a,.int .i64 b]:=
 (zfu [fun p=>∃n,p=.int .i64 n,fun p=>∃n,p=.int .i64 n] Tryz.underlying60 rfl (fun i f Q hf hq=>by
  match i,hf,hq with
  |0,hf,hq=>cases hf;cases hq;exact zhs
  |1,hf,hq=>cases hf;cases hq;exact zhs) (by simp[zkw,zl7]) (by simp[total,zl7,zu7])).mono fun p ⟨ps,h,hl,hp⟩=>by
  match ps,hl with
  |[a,b],_=>
   obtain⟨x,rfl⟩:=hp 0 _ a rfl rfl
   obtain⟨y,rfl⟩:=hp 1 _ b rfl rfl
   exact⟨x,y,h⟩
theorem xb8:Reads enc Tryz.prog w 62 fun p=>∃x:Wit,p=encW x:=
 (zfu [fun p=>∃n,p=.int .i64 n,fun p=>∃n,p=.int .i64 n,fun p=>∃l:List Int,p=ints l∧l.length<inex,fun p=>∃l:List Int,p=ints l∧l.length<inex,fun p=>∃l:List Int,p=ints l∧l.length<inex,fun p=>∃a b,p=.agg [.int .i64 a,.int .i64 b]] Tryz.underlying62 rfl (fun i f Q hf hq=>by
  match i,hf,hq with
  |0,hf,hq=>cases hf;cases hq;exact zhs
  |1,hf,hq=>cases hf;cases hq;exact zhs
  |2,hf,hq=>cases hf;cases hq;exact zh9
  |3,hf,hq=>cases hf;cases hq;exact zh9
  |4,hf,hq=>cases hf;cases hq;exact zh9
  |5,hf,hq=>cases hf;cases hq;exact z2q) (by simp[zkw,zl7,znr,zu7]) (by simp[total,zl7,znr,zu7,z0s])).mono fun p ⟨ps,h,hl,hp⟩=>by
  match ps,hl with
  |[a,b,c,d,e,f],_=>
   obtain⟨x0,rfl⟩:=hp 0 _ a rfl rfl
   obtain⟨x1,rfl⟩:=hp 1 _ b rfl rfl
   obtain⟨x2,rfl,_⟩:=hp 2 _ c rfl rfl
   obtain⟨x3,rfl,_⟩:=hp 3 _ d rfl rfl
   obtain⟨x4,rfl,_⟩:=hp 4 _ e rfl rfl
   obtain⟨x5,x6,rfl⟩:=hp 5 _ f rfl rfl
   exact⟨⟨x0,x1,x2,x3,x4,x5,x6⟩,h⟩
theorem xc8:Reads enc Tryz.prog w 24 fun p=>∃s,p=encS s∧s.length<inex:=
 (zfu [fun p=>∃es,p=.vec es∧(∀x∈es,∃y:Wit,x=encW y)∧es.length<inex] Tryz.underlying24 rfl (fun i f Q hf hq=>by
  match i,hf,hq with
  |0,hf,hq=>cases hf;cases hq;exact zjy Tryz.underlying22 zt7 (by rw[z0s];decide) (by rw[xal];decide) xb8) (by simp[zkw,zt7]) (by simp[total,zt7,xad])).mono fun p ⟨ps,h,hl,hp⟩=>by
  match ps,hl with
  |[a],_=>
   obtain⟨es,rfl,h2,h3⟩:=hp 0 _ a rfl rfl
   obtain⟨l,rfl⟩:=zle h2
   exact⟨l,h,by simpa using h3⟩
end
end Go.Am.Ds
end
/-
 Descent: DescentParts' statement, given that sanity answers true.
-/
section
namespace Go.Am.Ds
open Go Go.Am Go.Proofs Go.ChangeShapes Go.WideShapes Go.ChangeAt Go.RowKit Go.Proofs.YtnablaecbohhmaaGreat
set_option linter.unusedVariables false
theorem kids:Kids Tryz.prog (·<Tryz.prog.types.size):=kids_rows (by kernel_rfl) (by kernel_rfl)
theorem zxz:∀t e,t<Tryz.prog.types.size→Tryz.prog.underlying t=some (.slice e)→0<Tryz.prog.cellsOf e:=slices_full_of Tryz.prog (by kernel_rfl)
theorem own:ownKnob Tryz.prog.godebug=none:=by kernel_rfl
theorem z7r {l:List TypeId}(h:(l.all fun t=>decide (t<Tryz.prog.types.size))=true):∀t∈l,t<Tryz.prog.types.size:=fun t ht=>by simpa using List.all_eq_true.1 h t ht
section
variable {H:Type} {enc:TypeId×Value→H} {w:World} {base:Nat}
abbrev isInt (p:PV):Prop:=∃n,p=.int .i64 n
abbrev z6u (p:PV):Prop:=∃l:List Int,p=ints l∧l.length<inex
abbrev z1n (p:PV):Prop:=∃s,p=encS s∧s.length<inex
theorem xcp:zq1 enc Tryz.prog w base 3 isInt:=ztt Tryz.underlying3 (fun p ⟨n,h⟩=>by subst h;rfl) zhs
theorem z3k:zq1 enc Tryz.prog w base 24 z1n:=zma Tryz.underlying24 (fun p ⟨s,h,_⟩=>⟨_,h⟩) xc8
end
end Go.Am.Ds
end
/-
 Descent: DescentTrees' statement.
-/
section
namespace Go.Am.Ds
open Go Go.Am Go.Proofs Go.ChangeShapes Go.WideShapes Go.ChangeAt Go.RowKit Go.Proofs.YtnablaecbohhmaaGreat
set_option linter.unusedVariables false
set_option linter.unusedSimpArgs false
set_option maxRecDepth 100000
theorem xbx:Tryz.prog.cellsOf 5=1:=by kernel_rfl
theorem zv1:Tryz.prog.cellsOf 189=3:=by kernel_rfl
theorem zq3:Tryz.prog.cellsOf 121=1:=by kernel_rfl
theorem z5f:Tryz.prog.cellsOf 123=1:=by kernel_rfl
theorem z4s:Tryz.prog.bytesOf 189=56:=by kernel_rfl
section
variable {H:Type} {enc:TypeId×Value→H} {w:World} {base:Nat}
abbrev isU8 (p:PV):Prop:=∃n:Int,p=.int .u8 n∧0≤n∧n≤255
abbrev isBr (p:PV):Prop:=∃b:Br,p=zbn b∧b.slips.length<inex∧b.cops.length<inex
abbrev zzb (p:PV):Prop:=∃T:List Br,p=encT T∧T.length<inex∧∀b∈T,b.slips.length<inex∧b.cops.length<inex
theorem z7g:Reads enc Tryz.prog w 5 isU8:=(ztj Tryz.underlying5 xbx).mono fun p ⟨n,h,hw⟩=>⟨n,h,by
 have h2:(decide (IntKind.min .u8≤n)&&decide (n≤IntKind.max .u8))=true:=hw
 rw[xji,decide_eq_true_eq,decide_eq_true_eq] at h2;exact h2⟩
theorem xf4:zq1 enc Tryz.prog w base 5 isU8:=ztt Tryz.underlying5 (fun p ⟨n,h,_⟩=>by subst h;rfl) z7g
theorem xaq:Reads enc Tryz.prog w 189 isBr:=
 (zfu [isInt,z6u,z6u] Tryz.underlying189 rfl (fun i f Q hf hq=>by
  match i,hf,hq with
  |0,hf,hq=>cases hf;cases hq;exact zhs
  |1,hf,hq=>cases hf;cases hq;exact zh9
  |2,hf,hq=>cases hf;cases hq;exact zh9) (by simp[zkw,zl7,znr]) (by simp[total,zl7,znr,zv1])).mono fun p ⟨ps,h,hl,hp⟩=>by
  match ps,hl with
  |[a,b,c],_=>
   obtain⟨x,rfl⟩:=hp 0 _ a rfl rfl
   obtain⟨y,rfl,hy⟩:=hp 1 _ b rfl rfl
   obtain⟨z,rfl,hz⟩:=hp 2 _ c rfl rfl
   exact⟨⟨x,y,z⟩,h,hy,hz⟩
theorem z6h:∀ {es:List PV},(∀e∈es,isBr e)→∃T:List Br,es=T.map zbn∧∀b∈T,b.slips.length<inex∧b.cops.length<inex
 |[],_=>⟨[],rfl,fun b hb=>by cases hb⟩
 |x::r,h=>by
  obtain⟨b,hb,h1⟩:=h x (List.mem_cons_self ..)
  obtain⟨T,hT,h2⟩:=z6h (es:=r) fun y hy=>h y (List.mem_cons_of_mem _ hy)
  exact⟨b::T,by rw[hb,hT];rfl,fun c hc=>by
   rcases List.mem_cons.1 hc with rfl|hc
   ·exact h1
   exact h2 c hc⟩
theorem z4a:Reads enc Tryz.prog w 121 fun p=>∃T:List Br,p=.vec (T.map zbn)∧T.length<inex∧∀b∈T,b.slips.length<inex∧b.cops.length<inex:=
 (zjy Tryz.underlying121 zq3 (by rw[zv1];decide) (by rw[z4s];decide) xaq).mono fun p ⟨es,h,h2,h3⟩=>by
  obtain⟨T,rfl,h4⟩:=z6h h2
  exact⟨T,h,by simpa using h3,h4⟩
theorem z2i:Reads enc Tryz.prog w 123 zzb:=
 (zfu [fun p=>∃T:List Br,p=.vec (T.map zbn)∧T.length<inex∧∀b∈T,b.slips.length<inex∧b.cops.length<inex] Tryz.underlying123 rfl (fun i f Q hf hq=>by
  match i,hf,hq with
  |0,hf,hq=>cases hf;cases hq;exact z4a) (by simp[zkw,zq3]) (by simp[total,zq3,z5f])).mono fun p ⟨ps,h,hl,hp⟩=>by
  match ps,hl with
  |[a],_=>
   obtain⟨T,rfl,h1,h2⟩:=hp 0 _ a rfl rfl
   exact⟨T,h,h1,h2⟩
theorem z7a:zq1 enc Tryz.prog w base 123 zzb:=zma Tryz.underlying123 (fun p ⟨T,h,_⟩=>⟨_,h⟩) z2i
end
set_option maxRecDepth 100000 in
theorem zxs (san:zaj Tryz.prog 22 [] fun r=>r=.bool true)(H:Type)(enc:TypeId×Value→H)(W:World)(base:Nat)(args:Array Value)(ds gs:List (DataW H))(before:List MemPlace)
  (hval:∀(j:Nat) t v,Tryz.f18.params[j]?=some t→args[j]?=some v→Value.okWide Tryz.prog W .any base t v)
  (hW:DataW.Whole enc Tryz.prog Tryz.f18.params.toList Rows.descentTreesSpec.vars false W args.toList ds gs before)
  (hsz:(DataW.weightsEach Tryz.prog (Tryz.f18.params.toList++Rows.descentTreesSpec.plain.varTypes Tryz.prog) (ds++gs)).all (·≤reachBytes)=true) :
  Calls Tryz.prog 18 args W fun e W'=>∃v,e=.returned v∧Rows.descentTreesSpec.post enc Tryz.prog Tryz.f18 false true false false W args v W':=by
 refine zr7 kids zxz (z7r (by kernel_rfl)) Tryz.underlying4 (by kernel_rfl) (by kernel_rfl) hval hW hsz (by kernel_rfl) (fun l hl=>?_) [z1n,zzb,isU8,isInt] (by kernel_rfl) (fun i t Q ht hq=>?_) (fun pvs hl hp=>?_)
 ·rw[Tryz.params18] at hl
  match l,hl with
  |[_,_,_,_],_=>rfl
 ·rw[Tryz.params18] at ht
  match i,ht,hq with
  |0,ht,hq=>cases ht;cases hq;exact z3k
  |1,ht,hq=>cases ht;cases hq;exact z7a
  |2,ht,hq=>cases ht;cases hq;exact xf4
  |3,ht,hq=>cases ht;cases hq;exact xcp
 match pvs,hl with
 |[a0,a1,a2,a3],_=>
  obtain⟨s0,rfl,hs0⟩:=hp 0 _ a0 rfl rfl
  obtain⟨T1,rfl,h1,h2⟩:=hp 1 _ a1 rfl rfl
  obtain⟨n2,rfl,hn2⟩:=hp 2 _ a2 rfl rfl
  obtain⟨n3,rfl⟩:=hp 3 _ a3 rfl rfl
  exact p18 s0 T1 n2 n3 hn2 hs0 h1 h2 true san rfl
set_option maxRecDepth 100000 in
theorem zu0 (san:zaj Tryz.prog 22 [] fun r=>r=.bool true)(os:Os)(started:os.Started)(H:Type)(enc:TypeId×Value→H) :
  ReturnsInHanded {} Tryz.checked os 18 .any (Rows.descentTreesSpec.pre6 enc Tryz.prog Tryz.f18 Rows.descentTreesRow.domain false) (Rows.descentTreesSpec.post enc Tryz.prog Tryz.f18 false true false false):=by
 refine returnsInHanded_of_change_sized (C:=Tryz.checked) own started (by kernel_rfl) Tryz.func18
  (ChangeSpec.witness6 (enc:=enc) (C:=Tryz.checked) false ⟨#[],#[.agg #[.slice none 0 0],.agg #[.slice none 0 0],.int .u8 0,.int .i64 0],[]⟩ 8 (by kernel_rfl) (by kernel_rfl) (by kernel_rfl) (by kernel_rfl)) ?_
 intro W base args ds gs before hval hW _ hsz _
 exact zxs san H enc W base args ds gs before hval hW hsz
theorem zsy (san:zaj Tryz.prog 22 [] fun r=>r=.bool true):Rows.DescentTreesSaid:=
 OpenClaim.holds_of_wide 18 Tryz.f18 rfl rfl rfl rfl rfl rfl rfl ⟨rfl,rfl,rfl,rfl,rfl⟩ rfl rfl rfl rfl rfl (by kernel_rfl) Tryz.func18 zuf
  (of_decide_eq_true (by kernel_rfl)) (by unfold Func.isWrapper;first|(rw[if_pos (by decide +kernel)];kernel_rfl)|(rw[if_neg (by decide +kernel)];exact⟨rfl,rfl⟩))
  (fun os started H enc _=>zu0 san os started H enc)
end Go.Am.Ds
end
section
namespace Go.Proofs.YtnablaecbohhmaaGreat
theorem descentTrees_holds:Rows.DescentTreesSaid:=Go.Am.Ds.zsy Go.Am.Ds.p22
end Go.Proofs.YtnablaecbohhmaaGreat
end
