/-
 What is used in the proof of a statement (part DsN); no condition.
-/
import Derived.ProofKit
import Derived.Test.YtnablaecbohhmaaGreatRows
import Derived.WalkKit
import Derived.OpenShut
import Derived.SizedLaws
import Derived.Test.YtnablaecbohhmaaGreatDsS
import Derived.Test.YtnablaecbohhmaaGreatVm2
import Derived.Test.YtnablaecbohhmaaGreatDsB
import Derived.Test.YtnablaecbohhmaaGreatDsL
import Derived.Test.YtnablaecbohhmaaGreatDsM
set_option linter.all false
section
namespace Go.Am.Ds
open Go Go.Am Go.Proofs
theorem xa0:zun Tryz.prog 0 spc:=by
 intro orc hok f g hg args h r h' he
 unfold spc at hg
 cases h1:Nat.beq f 125 with
 |true=>
  have e:=xfs h1
  subst e
  rw[h1,xfp,xfm] at hg
  subst hg
  exact⟨Tryz.call125,z4t (fun l h1 h2=>p125 l h1 h2) (Nat.zero_le _) he⟩
 |false=>
  rw[h1,xfq] at hg
  cases h2:Nat.beq f 158 with
  |true=>
   have e:=xfs h2
   subst e
   rw[h2,xfp,xfm] at hg
   subst hg
   exact⟨Tryz.call158,z4q (fun h n m es l a b c d e f=>xeo h n m es l a b c d e f) he⟩
  |false=>rw[h2,xfq] at hg;cases hg
theorem p22:zat Tryz.prog 22 [] fun r=>r=.bool true:=zyn xa0
end Go.Am.Ds
end
/-
 Descent: the arguments of the laws, read as values.
-/
section
namespace Go.Am.Ds
open Go Go.Am Go.Proofs
set_option linter.unusedSimpArgs false
set_option maxRecDepth 100000
section
variable {H:Type} {enc:TypeId×Value→H} {w:World}
theorem zkj {α:Type}{f:α→PV}:∀ {es:List PV},(∀x∈es,∃a,x=f a)→∃l:List α,es=l.map f
 |[],_=>⟨[],rfl⟩
 |x::r,h=>by
  obtain⟨a,ha⟩:=h x (List.mem_cons_self ..)
  obtain⟨l,hl⟩:=zkj (es:=r) fun y hy=>h y (List.mem_cons_of_mem _ hy)
  exact⟨a::l,by rw[ha,hl];rfl⟩
theorem ziy:Tryz.prog.cellsOf 3=1:=by kernel_rfl
theorem zm3:Tryz.prog.cellsOf 25=1:=by kernel_rfl
theorem zs3:Tryz.prog.cellsOf 60=2:=by kernel_rfl
theorem zx1:Tryz.prog.cellsOf 62=7:=by kernel_rfl
theorem zsb:Tryz.prog.cellsOf 22=1:=by kernel_rfl
theorem z2p:Tryz.prog.cellsOf 24=1:=by kernel_rfl
theorem z9b:Tryz.prog.bytesOf 3=8:=by kernel_rfl
theorem z5n:Tryz.prog.bytesOf 62=104:=by kernel_rfl
theorem ze7:Reads enc Tryz.prog w 3 fun p=>∃n,p=.int .i64 n:=
 (zxi Tryz.underlying3 ziy).mono fun p ⟨n,h,_⟩=>⟨n,h⟩
theorem zh0:Reads enc Tryz.prog w 25 fun p=>∃l:List Int,p=ints l∧l.length<inex:=
 (zjl Tryz.underlying25 zm3 (by rw[ziy];decide) (by rw[z9b];decide) ze7).mono fun p ⟨es,h,h2,h3⟩=>by
  obtain⟨l,rfl⟩:=zkj h2
  exact⟨l,h,by simpa using h3⟩
theorem zy7:Reads enc Tryz.prog w 60 fun p=>∃a b,p=.agg [.int .i64 a,.int .i64 b]:=
 (zeo [fun p=>∃n,p=.int .i64 n,fun p=>∃n,p=.int .i64 n] Tryz.underlying60 rfl (fun i f Q hf hq=>by
  match i,hf,hq with
  |0,hf,hq=>cases hf;cases hq;exact ze7
  |1,hf,hq=>cases hf;cases hq;exact ze7) (by simp[zi3,ziy]) (by simp[total,ziy,zs3])).mono fun p ⟨ps,h,hl,hp⟩=>by
  match ps,hl with
  |[a,b],_=>
   obtain⟨x,rfl⟩:=hp 0 _ a rfl rfl
   obtain⟨y,rfl⟩:=hp 1 _ b rfl rfl
   exact⟨x,y,h⟩
theorem z9i:Reads enc Tryz.prog w 62 fun p=>∃x:Wit,p=encW x:=
 (zeo [fun p=>∃n,p=.int .i64 n,fun p=>∃n,p=.int .i64 n,fun p=>∃l:List Int,p=ints l∧l.length<inex,fun p=>∃l:List Int,p=ints l∧l.length<inex,fun p=>∃l:List Int,p=ints l∧l.length<inex,fun p=>∃a b,p=.agg [.int .i64 a,.int .i64 b]] Tryz.underlying62 rfl (fun i f Q hf hq=>by
  match i,hf,hq with
  |0,hf,hq=>cases hf;cases hq;exact ze7
  |1,hf,hq=>cases hf;cases hq;exact ze7
  |2,hf,hq=>cases hf;cases hq;exact zh0
  |3,hf,hq=>cases hf;cases hq;exact zh0
  |4,hf,hq=>cases hf;cases hq;exact zh0
  |5,hf,hq=>cases hf;cases hq;exact zy7) (by simp[zi3,ziy,zm3,zs3]) (by simp[total,ziy,zm3,zs3,zx1])).mono fun p ⟨ps,h,hl,hp⟩=>by
  match ps,hl with
  |[a,b,c,d,e,f],_=>
   obtain⟨x0,rfl⟩:=hp 0 _ a rfl rfl
   obtain⟨x1,rfl⟩:=hp 1 _ b rfl rfl
   obtain⟨x2,rfl,_⟩:=hp 2 _ c rfl rfl
   obtain⟨x3,rfl,_⟩:=hp 3 _ d rfl rfl
   obtain⟨x4,rfl,_⟩:=hp 4 _ e rfl rfl
   obtain⟨x5,x6,rfl⟩:=hp 5 _ f rfl rfl
   exact⟨⟨x0,x1,x2,x3,x4,x5,x6⟩,h⟩
theorem z8l:Reads enc Tryz.prog w 24 fun p=>∃s,p=encS s∧s.length<inex:=
 (zeo [fun p=>∃es,p=.vec es∧(∀x∈es,∃y:Wit,x=encW y)∧es.length<inex] Tryz.underlying24 rfl (fun i f Q hf hq=>by
  match i,hf,hq with
  |0,hf,hq=>cases hf;cases hq;exact zjl Tryz.underlying22 zsb (by rw[zx1];decide) (by rw[z5n];decide) z9i) (by simp[zi3,zsb]) (by simp[total,zsb,z2p])).mono fun p ⟨ps,h,hl,hp⟩=>by
  match ps,hl with
  |[a],_=>
   obtain⟨es,rfl,h2,h3⟩:=hp 0 _ a rfl rfl
   obtain⟨l,rfl⟩:=zkj h2
   exact⟨l,h,by simpa using h3⟩
end
end Go.Am.Ds
end
/-
 Descent: DescentParts' statement, given that sanity answers true.
-/
section
namespace Go.Am.Ds
open Go Go.Am Go.Proofs Go.ChangeShapes Go.WideShapes Go.ChangeAt Go.RowKit Go.Proofs.YtnablaecbohhmaaGreat
set_option linter.unusedVariables false
theorem kids:Kids Tryz.prog (·<Tryz.prog.types.size):=kids_rows (by kernel_rfl) (by kernel_rfl)
theorem zvr:∀t e,t<Tryz.prog.types.size→Tryz.prog.underlying t=some (.slice e)→0<Tryz.prog.cellsOf e:=slices_full_of Tryz.prog (by kernel_rfl)
theorem own:ownKnob Tryz.prog.godebug=none:=by kernel_rfl
theorem z3z {l:List TypeId}(h:(l.all fun t=>decide (t<Tryz.prog.types.size))=true):∀t∈l,t<Tryz.prog.types.size:=fun t ht=>by simpa using List.all_eq_true.1 h t ht
section
variable {H:Type} {enc:TypeId×Value→H} {w:World} {base:Nat}
abbrev isInt (p:PV):Prop:=∃n,p=.int .i64 n
abbrev z1z (p:PV):Prop:=∃l:List Int,p=ints l∧l.length<inex
abbrev zw0 (p:PV):Prop:=∃s,p=encS s∧s.length<inex
theorem zzj:zwf enc Tryz.prog w base 24 zw0:=zh5 Tryz.underlying24 (fun p ⟨s,h,_⟩=>⟨_,h⟩) z8l
end
end Go.Am.Ds
end
/-
 Descent: DescentOneTree's statement.
-/
section
namespace Go.Am.Ds
open Go Go.Am Go.Proofs Go.ChangeShapes Go.WideShapes Go.ChangeAt Go.RowKit Go.Proofs.YtnablaecbohhmaaGreat
set_option linter.unusedVariables false
set_option linter.unusedSimpArgs false
set_option maxRecDepth 100000
theorem z4z:Tryz.prog.cellsOf 32=5:=by kernel_rfl
theorem zt7:Tryz.prog.cellsOf 189=3:=by kernel_rfl
theorem zpj:Tryz.prog.cellsOf 121=1:=by kernel_rfl
theorem z0u:Tryz.prog.cellsOf 123=1:=by kernel_rfl
theorem zzu:Tryz.prog.bytesOf 189=56:=by kernel_rfl
section
variable {H:Type} {enc:TypeId×Value→H} {w:World} {base:Nat}
abbrev isBr (p:PV):Prop:=∃b:Br,p=zcf b∧b.slips.length<inex∧b.cops.length<inex
abbrev zxq (p:PV):Prop:=∃T:List Br,p=encT T∧T.length<inex∧∀b∈T,b.slips.length<inex∧b.cops.length<inex
theorem z4k:Reads enc Tryz.prog w 189 isBr:=
 (zeo [isInt,z1z,z1z] Tryz.underlying189 rfl (fun i f Q hf hq=>by
  match i,hf,hq with
  |0,hf,hq=>cases hf;cases hq;exact ze7
  |1,hf,hq=>cases hf;cases hq;exact zh0
  |2,hf,hq=>cases hf;cases hq;exact zh0) (by simp[zi3,ziy,zm3]) (by simp[total,ziy,zm3,zt7])).mono fun p ⟨ps,h,hl,hp⟩=>by
  match ps,hl with
  |[a,b,c],_=>
   obtain⟨x,rfl⟩:=hp 0 _ a rfl rfl
   obtain⟨y,rfl,hy⟩:=hp 1 _ b rfl rfl
   obtain⟨z,rfl,hz⟩:=hp 2 _ c rfl rfl
   exact⟨⟨x,y,z⟩,h,hy,hz⟩
theorem z1s:∀ {es:List PV},(∀e∈es,isBr e)→∃T:List Br,es=T.map zcf∧∀b∈T,b.slips.length<inex∧b.cops.length<inex
 |[],_=>⟨[],rfl,fun b hb=>by cases hb⟩
 |x::r,h=>by
  obtain⟨b,hb,h1⟩:=h x (List.mem_cons_self ..)
  obtain⟨T,hT,h2⟩:=z1s (es:=r) fun y hy=>h y (List.mem_cons_of_mem _ hy)
  exact⟨b::T,by rw[hb,hT];rfl,fun c hc=>by
   rcases List.mem_cons.1 hc with rfl|hc
   ·exact h1
   exact h2 c hc⟩
theorem z0m:Reads enc Tryz.prog w 121 fun p=>∃T:List Br,p=.vec (T.map zcf)∧T.length<inex∧∀b∈T,b.slips.length<inex∧b.cops.length<inex:=
 (zjl Tryz.underlying121 zpj (by rw[zt7];decide) (by rw[zzu];decide) z4k).mono fun p ⟨es,h,h2,h3⟩=>by
  obtain⟨T,rfl,h4⟩:=z1s h2
  exact⟨T,h,by simpa using h3,h4⟩
theorem zw3:Reads enc Tryz.prog w 123 zxq:=
 (zeo [fun p=>∃T:List Br,p=.vec (T.map zcf)∧T.length<inex∧∀b∈T,b.slips.length<inex∧b.cops.length<inex] Tryz.underlying123 rfl (fun i f Q hf hq=>by
  match i,hf,hq with
  |0,hf,hq=>cases hf;cases hq;exact z0m) (by simp[zi3,zpj]) (by simp[total,zpj,z0u])).mono fun p ⟨ps,h,hl,hp⟩=>by
  match ps,hl with
  |[a],_=>
   obtain⟨T,rfl,h1,h2⟩:=hp 0 _ a rfl rfl
   exact⟨T,h,h1,h2⟩
theorem z4l:zwf enc Tryz.prog w base 123 zxq:=zh5 Tryz.underlying123 (fun p ⟨T,h,_⟩=>⟨_,h⟩) zw3
abbrev z5s (p:PV):Prop:=∃a b c d e,p=.agg [.int .i64 a,.int .i64 b,.int .i64 c,.int .i64 d,.int .i64 e]
theorem z0s:Reads enc Tryz.prog w 32 z5s:=
 (zeo [fun p=>∃n,p=.int .i64 n,fun p=>∃n,p=.int .i64 n,fun p=>∃n,p=.int .i64 n,fun p=>∃n,p=.int .i64 n,fun p=>∃n,p=.int .i64 n] Tryz.underlying32 rfl (fun i f Q hf hq=>by
  match i,hf,hq with
  |0,hf,hq=>cases hf;cases hq;exact ze7
  |1,hf,hq=>cases hf;cases hq;exact ze7
  |2,hf,hq=>cases hf;cases hq;exact ze7
  |3,hf,hq=>cases hf;cases hq;exact ze7
  |4,hf,hq=>cases hf;cases hq;exact ze7) (by simp[zi3,ziy]) (by simp[total,ziy,z4z])).mono fun p ⟨ps,h,hl,hp⟩=>by
  match ps,hl with
  |[a,b,c,d,e],_=>
   obtain⟨x,rfl⟩:=hp 0 _ a rfl rfl
   obtain⟨y,rfl⟩:=hp 1 _ b rfl rfl
   obtain⟨z,rfl⟩:=hp 2 _ c rfl rfl
   obtain⟨u,rfl⟩:=hp 3 _ d rfl rfl
   obtain⟨v,rfl⟩:=hp 4 _ e rfl rfl
   exact⟨x,y,z,u,v,h⟩
theorem z8h:zwf enc Tryz.prog w base 32 z5s:=zh5 Tryz.underlying32 (fun p ⟨a,b,c,d,e,h⟩=>⟨_,h⟩) z0s
end
set_option maxRecDepth 100000 in
theorem zqz (san:zat Tryz.prog 22 [] fun r=>r=.bool true)(H:Type)(enc:TypeId×Value→H)(W:World)(base:Nat)(args:Array Value)(ds gs:List (DataW H))(before:List MemPlace)
  (hval:∀(j:Nat) t v,Tryz.f19.params[j]?=some t→args[j]?=some v→Value.okWide Tryz.prog W .any base t v)
  (hW:DataW.Whole enc Tryz.prog Tryz.f19.params.toList Rows.descentOneTreeSpec.vars false W args.toList ds gs before)
  (hsz:(DataW.weightsEach Tryz.prog (Tryz.f19.params.toList++Rows.descentOneTreeSpec.plain.varTypes Tryz.prog) (ds++gs)).all (·≤reachBytes)=true) :
  Calls Tryz.prog 19 args W fun e W'=>∃v,e=.returned v∧Rows.descentOneTreeSpec.post enc Tryz.prog Tryz.f19 false true false false W args v W':=by
 refine zrt kids zvr (z3z (by kernel_rfl)) Tryz.underlying4 (by kernel_rfl) (by kernel_rfl) hval hW hsz (by kernel_rfl) (fun l hl=>?_) [zw0,zxq,z5s] (by kernel_rfl) (fun i t Q ht hq=>?_) (fun pvs hl hp=>?_)
 ·rw[Tryz.params19] at hl
  match l,hl with
  |[_,_,_],_=>rfl
 ·rw[Tryz.params19] at ht
  match i,ht,hq with
  |0,ht,hq=>cases ht;cases hq;exact zzj
  |1,ht,hq=>cases ht;cases hq;exact z4l
  |2,ht,hq=>cases ht;cases hq;exact z8h
 match pvs,hl with
 |[a0,a1,a2],_=>
  obtain⟨s0,rfl,hs0⟩:=hp 0 _ a0 rfl rfl
  obtain⟨T1,rfl,h1,h2⟩:=hp 1 _ a1 rfl rfl
  obtain⟨c1,c2,c3,c4,c5,rfl⟩:=hp 2 _ a2 rfl rfl
  exact p19 s0 T1 c1 c2 c3 c4 c5 hs0 h1 h2 true san rfl
set_option maxRecDepth 100000 in
theorem zqa (san:zat Tryz.prog 22 [] fun r=>r=.bool true)(os:Os)(started:os.Started)(H:Type)(enc:TypeId×Value→H) :
  ReturnsInHanded {} Tryz.checked os 19 .any (Rows.descentOneTreeSpec.pre6 enc Tryz.prog Tryz.f19 Rows.descentOneTreeRow.domain false) (Rows.descentOneTreeSpec.post enc Tryz.prog Tryz.f19 false true false false):=by
 refine returnsInHanded_of_change_sized (C:=Tryz.checked) own started (by kernel_rfl) Tryz.func19
  (ChangeSpec.witness6 (enc:=enc) (C:=Tryz.checked) false ⟨#[],#[.agg #[.slice none 0 0],.agg #[.slice none 0 0],.agg #[.int .i64 0,.int .i64 0,.int .i64 0,.int .i64 0,.int .i64 0]],[]⟩ 8 (by kernel_rfl) (by kernel_rfl) (by kernel_rfl) (by kernel_rfl)) ?_
 intro W base args ds gs before hval hW _ hsz _
 exact zqz san H enc W base args ds gs before hval hW hsz
theorem zn9 (san:zat Tryz.prog 22 [] fun r=>r=.bool true):Rows.DescentOneTreeSaid:=
 OpenClaim.holds_of_wide 19 Tryz.f19 rfl rfl rfl rfl rfl rfl rfl ⟨rfl,rfl,rfl,rfl,rfl⟩ rfl rfl rfl rfl rfl (by kernel_rfl) Tryz.func19 zqf
  (of_decide_eq_true (by kernel_rfl)) (by unfold Func.isWrapper;first|(rw[if_pos (by decide +kernel)];kernel_rfl)|(rw[if_neg (by decide +kernel)];exact⟨rfl,rfl⟩))
  (fun os started H enc _=>zqa san os started H enc)
end Go.Am.Ds
end
section
namespace Go.Proofs.YtnablaecbohhmaaGreat
theorem descentOneTree_holds:Rows.DescentOneTreeSaid:=Go.Am.Ds.zn9 Go.Am.Ds.p22
end Go.Proofs.YtnablaecbohhmaaGreat
end
