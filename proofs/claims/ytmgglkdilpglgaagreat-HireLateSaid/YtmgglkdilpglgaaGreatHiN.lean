/-
 What is used in the proof of a statement (part HiN); no condition.
-/
import Derived.Test.YtmgglkdilpglgaaGreatRows
import Derived.WalkKit
import Derived.ProofKit
import Derived.OpenShut
import Derived.SizedLaws
import Derived.Test.YtmgglkdilpglgaaGreatVm2
import Derived.Test.YtmgglkdilpglgaaGreatHmC
import Derived.Test.YtmgglkdilpglgaaGreatHnX
import Derived.Test.YtmgglkdilpglgaaGreatHiM
set_option linter.all false
section
namespace Go.Am.Hi
open Go Go.Am Go.Proofs Go.ChangeShapes Go.WideShapes Go.ChangeAt Go.RowKit Go.Proofs.YtmgglkdilpglgaaGreat
set_option linter.unusedVariables false
set_option linter.unusedSimpArgs false
set_option maxRecDepth 100000
theorem kids:Kids Tryz.prog (·<Tryz.prog.types.size):=kids_rows (by kernel_rfl) (by kernel_rfl)
theorem zvy:∀t e,t<Tryz.prog.types.size→Tryz.prog.underlying t=some (.slice e)→0<Tryz.prog.cellsOf e:=slices_full_of Tryz.prog (by kernel_rfl)
theorem own:ownKnob Tryz.prog.godebug=none:=by kernel_rfl
theorem z3y {l:List TypeId}(h:(l.all fun t=>decide (t<Tryz.prog.types.size))=true):∀t∈l,t<Tryz.prog.types.size:=fun t ht=>by simpa using List.all_eq_true.1 h t ht
theorem zoc:Tryz.prog.cellsOf 3=1:=by kernel_rfl
theorem zsp:Tryz.prog.cellsOf 22=1:=by kernel_rfl
theorem zsn:Tryz.prog.cellsOf 23=1:=by kernel_rfl
theorem z3c:Tryz.prog.cellsOf 25=3:=by kernel_rfl
theorem ztm:Tryz.prog.cellsOf 137=6:=by kernel_rfl
theorem z8x:Tryz.prog.bytesOf 3=8:=by kernel_rfl
theorem zza:Tryz.prog.bytesOf 137=48:=by kernel_rfl
theorem zkx {α:Type}{f:α→PV}:∀ {es:List PV},(∀x∈es,∃a,x=f a)→∃l:List α,es=l.map f
 |[],_=>⟨[],rfl⟩
 |x::r,h=>by
  obtain⟨a,ha⟩:=h x (List.mem_cons_self ..)
  obtain⟨l,hl⟩:=zkx (es:=r) fun y hy=>h y (List.mem_cons_of_mem _ hy)
  exact⟨a::l,by rw[ha,hl];rfl⟩
section
variable {H:Type} {enc:TypeId×Value→H} {w:World} {base:Nat}
abbrev isInt (p:PV):Prop:=∃n,p=.int .i64 n
abbrev zt2 (p:PV):Prop:=∃l:List Int,p=ints l∧l.length<inex
abbrev isU16 (p:PV):Prop:=∃n:Nat,p=.int .u16 n∧n<65536
abbrev z6m (p:PV):Prop:=∃t:Tu,p=encT t
abbrev zwg (p:PV):Prop:=∃l:List Tu,p=turns l∧l.length<inex
abbrev zr3 (p:PV):Prop:=∃R:Reg,p=encR R∧(R.ps.length<inex∧R.ts.length<inex)
theorem zfy:Reads enc Tryz.prog w 3 isInt:=(zyd Tryz.underlying3 zoc).mono fun p ⟨n,h,_⟩=>⟨n,h⟩
theorem zq2:Reads enc Tryz.prog w 22 zt2:=
 (zm0 Tryz.underlying22 zsp (by rw[zoc];decide) (by rw[z8x];decide) zfy).mono fun p ⟨es,h,h2,h3⟩=>by
  obtain⟨l,rfl⟩:=zkx h2
  exact⟨l,h,by simpa using h3⟩
theorem zyy:Reads enc Tryz.prog w 137 z6m:=
 (zlt [isInt,isInt,isInt,isInt,isInt,isInt] Tryz.underlying137 rfl (fun i f Q hf hq=>by
  match i,hf,hq with
  |0,hf,hq=>cases hf;cases hq;exact zfy
  |1,hf,hq=>cases hf;cases hq;exact zfy
  |2,hf,hq=>cases hf;cases hq;exact zfy
  |3,hf,hq=>cases hf;cases hq;exact zfy
  |4,hf,hq=>cases hf;cases hq;exact zfy
  |5,hf,hq=>cases hf;cases hq;exact zfy) (by simp[zod,zoc]) (by simp[total,zoc,ztm])).mono fun p ⟨ps,h,hl,hp⟩=>by
  match ps,hl with
  |[a,b,c,d,e,f],_=>
   obtain⟨k,rfl⟩:=hp 0 _ a rfl rfl
   obtain⟨dd,rfl⟩:=hp 1 _ b rfl rfl
   obtain⟨s,rfl⟩:=hp 2 _ c rfl rfl
   obtain⟨q,rfl⟩:=hp 3 _ d rfl rfl
   obtain⟨ww,rfl⟩:=hp 4 _ e rfl rfl
   obtain⟨o,rfl⟩:=hp 5 _ f rfl rfl
   exact⟨⟨k,dd,s,q,ww,o⟩,h⟩
theorem zvu:Reads enc Tryz.prog w 23 zwg:=
 (zm0 Tryz.underlying23 zsn (by rw[ztm];decide) (by rw[zza];decide) zyy).mono fun p ⟨es,h,h2,h3⟩=>by
  obtain⟨l,rfl⟩:=zkx h2
  exact⟨l,h,by simpa using h3⟩
theorem zvr:Reads enc Tryz.prog w 25 zr3:=
 (zlt [zt2,isInt,zwg] Tryz.underlying25 rfl (fun i f Q hf hq=>by
  match i,hf,hq with
  |0,hf,hq=>cases hf;cases hq;exact zq2
  |1,hf,hq=>cases hf;cases hq;exact zfy
  |2,hf,hq=>cases hf;cases hq;exact zvu) (by simp[zod,zoc,zsp,zsn]) (by simp[total,zoc,zsp,zsn,z3c])).mono fun p ⟨ps,h,hl,hp⟩=>by
  match ps,hl with
  |[a,b,c],_=>
   obtain⟨x,rfl,hx⟩:=hp 0 _ a rfl rfl
   obtain⟨y,rfl⟩:=hp 1 _ b rfl rfl
   obtain⟨z,rfl,hz⟩:=hp 2 _ c rfl rfl
   exact⟨⟨x,y,z⟩,h,hx,hz⟩
theorem z7t:zqp enc Tryz.prog w base 3 isInt:=zxt Tryz.underlying3 (fun p ⟨n,h⟩=>by subst h;rfl) zfy
theorem z2w:zqp enc Tryz.prog w base 22 zt2:=zrf (fun v h=>by obtain⟨a,l,c,rfl⟩:=okWide_slice Tryz.underlying22 h;rfl) (fun p ⟨l,h,_⟩=>by subst h;rfl) zq2
theorem z0y:zqp enc Tryz.prog w base 25 zr3:=zrc Tryz.underlying25 (fun p ⟨R,h,_⟩=>⟨_,h⟩) zvr
end
end Go.Am.Hi
end
section
namespace Go.Am.Hi
open Go Go.Am Go.Proofs Go.ChangeShapes Go.WideShapes Go.ChangeAt Go.RowKit Go.Proofs.YtmgglkdilpglgaaGreat
set_option linter.unusedVariables false
set_option linter.unusedSimpArgs false
set_option maxRecDepth 100000
set_option maxRecDepth 100000 in
theorem zxj (H:Type)(enc:TypeId×Value→H)(W:World)(base:Nat)(args:Array Value)(ds gs:List (DataW H))(before:List MemPlace)
  (hval:∀(j:Nat) t v,Tryz.f10.params[j]?=some t→args[j]?=some v→Value.okWide Tryz.prog W .any base t v)
  (hW:DataW.Whole enc Tryz.prog Tryz.f10.params.toList Rows.hireLateSpec.vars false W args.toList ds gs before)
  (hsz:(DataW.weightsEach Tryz.prog (Tryz.f10.params.toList++Rows.hireLateSpec.plain.varTypes Tryz.prog) (ds++gs)).all (·≤reachBytes)=true) :
  Calls Tryz.prog 10 args W fun e W'=>∃v,e=.returned v∧Rows.hireLateSpec.post enc Tryz.prog Tryz.f10 false true false false W args v W':=by
 refine zqq kids zvy (z3y (by kernel_rfl)) Tryz.underlying4 (by kernel_rfl) (by kernel_rfl) hval hW hsz (by kernel_rfl) (fun l hl=>?_) [zr3,isInt,zt2] (by kernel_rfl) (fun i t Q ht hq=>?_) (fun pvs hl hp=>?_)
 ·rw[Tryz.params10] at hl
  match l,hl with
  |[_,_,_],_=>rfl
 ·rw[Tryz.params10] at ht
  match i,ht,hq with
  |0,ht,hq=>cases ht;cases hq;exact z0y
  |1,ht,hq=>cases ht;cases hq;exact z7t
  |2,ht,hq=>cases ht;cases hq;exact z2w
 match pvs,hl with
 |[a,b,c],_=>
  obtain⟨s0,rfl,hs0⟩:=hp 0 _ a rfl rfl
  obtain⟨s1,rfl⟩:=hp 1 _ b rfl rfl
  obtain⟨s2,rfl,hs2⟩:=hp 2 _ c rfl rfl
  exact p10 s0 s1 s2 hs0  hs2
set_option maxRecDepth 100000 in
theorem zva (os:Os)(started:os.Started)(H:Type)(enc:TypeId×Value→H) :
  ReturnsInHanded {} Tryz.checked os 10 .any (Rows.hireLateSpec.pre6 enc Tryz.prog Tryz.f10 Rows.hireLateRow.domain false) (Rows.hireLateSpec.post enc Tryz.prog Tryz.f10 false true false false):=by
 refine returnsInHanded_of_change_sized (C:=Tryz.checked) own started (by kernel_rfl) Tryz.func10
  (ChangeSpec.witness6 (enc:=enc) (C:=Tryz.checked) false ⟨#[],#[.agg #[.slice none 0 0,.int .i64 0,.slice none 0 0],.int .i64 0,.slice none 0 0],[]⟩ 8 (by kernel_rfl) (by kernel_rfl) (by kernel_rfl) (by kernel_rfl)) ?_
 intro W base args ds gs before hval hW _ hsz _
 exact zxj H enc W base args ds gs before hval hW hsz
theorem zx5:Rows.HireLateSaid:=
 OpenClaim.holds_of_wide 10 Tryz.f10 rfl rfl rfl rfl rfl rfl rfl ⟨rfl,rfl,rfl,rfl,rfl⟩ rfl rfl rfl rfl rfl (by kernel_rfl) Tryz.func10 zv3
  (of_decide_eq_true (by kernel_rfl)) (by unfold Func.isWrapper;first|(rw[if_pos (by decide +kernel)];kernel_rfl)|(rw[if_neg (by decide +kernel)];exact⟨rfl,rfl⟩))
  (fun os started H enc _=>zva os started H enc)
end Go.Am.Hi
end
section
namespace Go.Proofs.YtmgglkdilpglgaaGreat
theorem hireLate_holds:Rows.HireLateSaid:=Go.Am.Hi.zx5
end Go.Proofs.YtmgglkdilpglgaaGreat
end
