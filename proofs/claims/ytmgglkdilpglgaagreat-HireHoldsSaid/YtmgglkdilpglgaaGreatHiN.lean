/-
 What is used in the proof of a statement (part HiN); no condition.
-/
import Derived.Test.YtmgglkdilpglgaaGreatRows
import Derived.WalkKit
import Derived.ProofKit
import Derived.OpenShut
import Derived.SizedLaws
import Derived.Test.YtmgglkdilpglgaaGreatVm2
import Derived.Test.YtmgglkdilpglgaaGreatHmC
import Derived.Test.YtmgglkdilpglgaaGreatHnX
import Derived.Test.YtmgglkdilpglgaaGreatHiM
set_option linter.all false
section
namespace Go.Am.Hi
open Go Go.Am Go.Proofs Go.ChangeShapes Go.WideShapes Go.ChangeAt Go.RowKit Go.Proofs.YtmgglkdilpglgaaGreat
set_option linter.unusedVariables false
set_option linter.unusedSimpArgs false
set_option maxRecDepth 100000
theorem kids:Kids Tryz.prog (·<Tryz.prog.types.size):=kids_rows (by kernel_rfl) (by kernel_rfl)
theorem slicesFull:∀t e,t<Tryz.prog.types.size→Tryz.prog.underlying t=some (.slice e)→0<Tryz.prog.cellsOf e:=slices_full_of Tryz.prog (by kernel_rfl)
theorem own:ownKnob Tryz.prog.godebug=none:=by kernel_rfl
theorem kidsAll {l:List TypeId} (h:(l.all fun t=>decide (t<Tryz.prog.types.size))=true):∀t∈l,t<Tryz.prog.types.size:=fun t ht=>by simpa using List.all_eq_true.1 h t ht
theorem cells3:Tryz.prog.cellsOf 3=1:=by kernel_rfl
theorem cells22:Tryz.prog.cellsOf 22=1:=by kernel_rfl
theorem cells23:Tryz.prog.cellsOf 23=1:=by kernel_rfl
theorem cells25:Tryz.prog.cellsOf 25=3:=by kernel_rfl
theorem cells137:Tryz.prog.cellsOf 137=6:=by kernel_rfl
theorem bytes3:Tryz.prog.bytesOf 3=8:=by kernel_rfl
theorem bytes137:Tryz.prog.bytesOf 137=48:=by kernel_rfl
theorem exists_map {α:Type} {f:α→PV}:∀ {es:List PV},(∀x∈es,∃a,x=f a)→∃l:List α,es=l.map f
 |[],_=>⟨[],rfl⟩
 |x::r,h=>by
  obtain⟨a,ha⟩:=h x (List.mem_cons_self ..)
  obtain⟨l,hl⟩:=exists_map (es:=r) fun y hy=>h y (List.mem_cons_of_mem _ hy)
  exact⟨a::l,by rw[ha,hl];rfl⟩
section
variable {H:Type} {enc:TypeId×Value→H} {w:World} {base:Nat}
abbrev isInt (p:PV):Prop:=∃n,p=.int .i64 n
abbrev isInts (p:PV):Prop:=∃l:List Int,p=ints l∧l.length<inex
abbrev isU16 (p:PV):Prop:=∃n:Nat,p=.int .u16 n∧n<65536
abbrev isTurn (p:PV):Prop:=∃t:Tu,p=encT t
abbrev isTurns (p:PV):Prop:=∃l:List Tu,p=turns l∧l.length<inex
abbrev isHires (p:PV):Prop:=∃R:Reg,p=encR R∧(R.ps.length<inex∧R.ts.length<inex)
theorem readsInt:Reads enc Tryz.prog w 3 isInt:=(reads_int Tryz.underlying3 cells3).mono fun p ⟨n,h,_⟩=>⟨n,h⟩
theorem readsInts:Reads enc Tryz.prog w 22 isInts:=
 (reads_slice Tryz.underlying22 cells22 (by rw[cells3];decide) (by rw[bytes3];decide) readsInt).mono fun p ⟨es,h,h2,h3⟩=>by
  obtain⟨l,rfl⟩:=exists_map h2
  exact⟨l,h,by simpa using h3⟩
theorem readsTurn:Reads enc Tryz.prog w 137 isTurn:=
 (reads_struct [isInt,isInt,isInt,isInt,isInt,isInt] Tryz.underlying137 rfl (fun i f Q hf hq=>by
  match i,hf,hq with
  |0,hf,hq=>cases hf;cases hq;exact readsInt
  |1,hf,hq=>cases hf;cases hq;exact readsInt
  |2,hf,hq=>cases hf;cases hq;exact readsInt
  |3,hf,hq=>cases hf;cases hq;exact readsInt
  |4,hf,hq=>cases hf;cases hq;exact readsInt
  |5,hf,hq=>cases hf;cases hq;exact readsInt) (by simp[contig,cells3]) (by simp[total,cells3,cells137])).mono fun p ⟨ps,h,hl,hp⟩=>by
  match ps,hl with
  |[a,b,c,d,e,f],_=>
   obtain⟨k,rfl⟩:=hp 0 _ a rfl rfl
   obtain⟨dd,rfl⟩:=hp 1 _ b rfl rfl
   obtain⟨s,rfl⟩:=hp 2 _ c rfl rfl
   obtain⟨q,rfl⟩:=hp 3 _ d rfl rfl
   obtain⟨ww,rfl⟩:=hp 4 _ e rfl rfl
   obtain⟨o,rfl⟩:=hp 5 _ f rfl rfl
   exact⟨⟨k,dd,s,q,ww,o⟩,h⟩
theorem readsTurns:Reads enc Tryz.prog w 23 isTurns:=
 (reads_slice Tryz.underlying23 cells23 (by rw[cells137];decide) (by rw[bytes137];decide) readsTurn).mono fun p ⟨es,h,h2,h3⟩=>by
  obtain⟨l,rfl⟩:=exists_map h2
  exact⟨l,h,by simpa using h3⟩
theorem readsHires:Reads enc Tryz.prog w 25 isHires:=
 (reads_struct [isInts,isInt,isTurns] Tryz.underlying25 rfl (fun i f Q hf hq=>by
  match i,hf,hq with
  |0,hf,hq=>cases hf;cases hq;exact readsInts
  |1,hf,hq=>cases hf;cases hq;exact readsInt
  |2,hf,hq=>cases hf;cases hq;exact readsTurns) (by simp[contig,cells3,cells22,cells23]) (by simp[total,cells3,cells22,cells23,cells25])).mono fun p ⟨ps,h,hl,hp⟩=>by
  match ps,hl with
  |[a,b,c],_=>
   obtain⟨x,rfl,hx⟩:=hp 0 _ a rfl rfl
   obtain⟨y,rfl⟩:=hp 1 _ b rfl rfl
   obtain⟨z,rfl,hz⟩:=hp 2 _ c rfl rfl
   exact⟨⟨x,y,z⟩,h,hx,hz⟩
theorem argInt:ArgOK enc Tryz.prog w base 3 isInt:=argOK_int Tryz.underlying3 (fun p ⟨n,h⟩=>by subst h;rfl) readsInt
theorem argHires:ArgOK enc Tryz.prog w base 25 isHires:=argOK_struct Tryz.underlying25 (fun p ⟨R,h,_⟩=>⟨_,h⟩) readsHires
end
end Go.Am.Hi
end
section
namespace Go.Am.Hi
open Go Go.Am Go.Proofs Go.ChangeShapes Go.WideShapes Go.ChangeAt Go.RowKit Go.Proofs.YtmgglkdilpglgaaGreat
set_option linter.unusedVariables false
set_option linter.unusedSimpArgs false
set_option maxRecDepth 100000
set_option maxRecDepth 100000 in
theorem holdsCalls (H:Type) (enc:TypeId×Value→H) (W:World) (base:Nat) (args:Array Value) (ds gs:List (DataW H)) (before:List MemPlace)
  (hval:∀(j:Nat) t v,Tryz.f3.params[j]?=some t→args[j]?=some v→Value.okWide Tryz.prog W .any base t v)
  (hW:DataW.Whole enc Tryz.prog Tryz.f3.params.toList Rows.hireHoldsSpec.vars false W args.toList ds gs before)
  (hsz:(DataW.weightsEach Tryz.prog (Tryz.f3.params.toList++Rows.hireHoldsSpec.plain.varTypes Tryz.prog) (ds++gs)).all (·≤reachBytes)=true) :
  Calls Tryz.prog 3 args W fun e W'=>∃v,e=.returned v∧Rows.hireHoldsSpec.post enc Tryz.prog Tryz.f3 false true false false W args v W':=by
 refine law_contract kids slicesFull (kidsAll (by kernel_rfl)) Tryz.underlying4 (by kernel_rfl) (by kernel_rfl) hval hW hsz (by kernel_rfl) (fun l hl=>?_) [isHires,isInt,isInt] (by kernel_rfl) (fun i t Q ht hq=>?_) (fun pvs hl hp=>?_)
 ·rw[Tryz.params3] at hl
  match l,hl with
  |[_,_,_],_=>rfl
 ·rw[Tryz.params3] at ht
  match i,ht,hq with
  |0,ht,hq=>cases ht;cases hq;exact argHires
  |1,ht,hq=>cases ht;cases hq;exact argInt
  |2,ht,hq=>cases ht;cases hq;exact argInt
 ·match pvs,hl with
  |[a,b,c],_=>
   obtain⟨s0,rfl,hs0⟩:=hp 0 _ a rfl rfl
   obtain⟨s1,rfl⟩:=hp 1 _ b rfl rfl
   obtain⟨s2,rfl⟩:=hp 2 _ c rfl rfl
   exact p3 s0 s1 s2 hs0  
set_option maxRecDepth 100000 in
theorem holdsLifted (os:Os) (started:os.Started) (H:Type) (enc:TypeId×Value→H) :
  ReturnsInHanded {} Tryz.checked os 3 .any (Rows.hireHoldsSpec.pre6 enc Tryz.prog Tryz.f3 Rows.hireHoldsRow.domain false) (Rows.hireHoldsSpec.post enc Tryz.prog Tryz.f3 false true false false):=by
 refine returnsInHanded_of_change_sized (C:=Tryz.checked) own started (by kernel_rfl) Tryz.func3
  (ChangeSpec.witness6 (enc:=enc) (C:=Tryz.checked) false ⟨#[],#[.agg #[.slice none 0 0,.int .i64 0,.slice none 0 0],.int .i64 0,.int .i64 0],[]⟩ 8 (by kernel_rfl) (by kernel_rfl) (by kernel_rfl) (by kernel_rfl)) ?_
 intro W base args ds gs before hval hW _ hsz _
 exact holdsCalls H enc W base args ds gs before hval hW hsz
theorem holdsHolds:Rows.HireHoldsSaid:=
 OpenClaim.holds_of_wide 3 Tryz.f3 rfl rfl rfl rfl rfl rfl rfl ⟨rfl,rfl,rfl,rfl,rfl⟩ rfl rfl rfl rfl rfl (by kernel_rfl) Tryz.func3 holdsClosed
  (of_decide_eq_true (by kernel_rfl)) (by unfold Func.isWrapper;first|(rw[if_pos (by decide +kernel)];kernel_rfl)|(rw[if_neg (by decide +kernel)];exact⟨rfl,rfl⟩))
  (fun os started H enc _=>holdsLifted os started H enc)
end Go.Am.Hi
end
section
namespace Go.Proofs.YtmgglkdilpglgaaGreat
theorem hireHolds_holds:Rows.HireHoldsSaid:=Go.Am.Hi.holdsHolds
end Go.Proofs.YtmgglkdilpglgaaGreat
end
