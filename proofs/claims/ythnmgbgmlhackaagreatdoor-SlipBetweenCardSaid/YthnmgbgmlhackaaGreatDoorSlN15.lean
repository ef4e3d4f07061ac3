/-
 What is used in the proof of a statement (part SlN15); no condition.
-/
import Derived.Test.YthnmgbgmlhackaaGreatDoorTie
import Derived.Test.YthnmgbgmlhackaaGreatDoorCards
import Derived.SevenTiedAt
import Derived.Test.YthnmgbgmlhackaaGreatDoorSlK
import Derived.Test.YthnmgbgmlhackaaGreatDoorSlI0
import Derived.Test.YthnmgbgmlhackaaGreatDoorSlI1
import Derived.Test.YthnmgbgmlhackaaGreatDoorSlI3
import Derived.Test.YthnmgbgmlhackaaGreatDoorSlM15
set_option linter.all false
section
namespace Go.Am.Sl
open Go Go.Am Go.Proofs Go.ChangeShapes Go.WideShapes Go.ChangeAt Go.RowKit Go.Proofs.YthnmgbgmlhackaaGreatDoor
set_option linter.unusedVariables false
set_option linter.unusedSimpArgs false
set_option maxRecDepth 100000
theorem zr3 (H:Type)(enc:TypeId×Value→H)(W:World)(base:Nat)(args:Array Value)(ds gs:List (DataW H))(before:List MemPlace)
  (ly:∀(j:Nat) t v,Tryz.f15.params[j]?=some t→args[j]?=some v→Value.okWide Tryz.prog W .any base t v)
  (hW:DataW.Whole enc Tryz.prog Tryz.f15.params.toList Rows.slipBetweenSpec.vars false W args.toList ds gs before)
  (eJ:(DataW.weightsEach Tryz.prog (Tryz.f15.params.toList++Rows.slipBetweenSpec.plain.varTypes Tryz.prog) (ds++gs)).all (·≤reachBytes)=true) (hL:laidMetH Tryz.prog sf W) :
  Calls Tryz.prog 15 args W fun e W'=>∃v,e=.returned v∧Rows.slipBetweenSpec.post enc Tryz.prog Tryz.f15 false true false false W args v W':=by
 letI:bF:=JD W
 refine Rl kids Q6 (Q7 (by kernel_rfl)) Tryz.underlying4 (by kernel_rfl) (by kernel_rfl) ly hW eJ (by kernel_rfl) (fun l hl=>?_) [Mz,Rh,Rg] (by kernel_rfl) (fun i t Q ht hq=>?_) (fun b _=>rfl) (Mt hL).1 (fun sg hl hp=>?_)
 ·rw[Tryz.params15] at hl
  match l,hl with
  |[_,_,_],_=>rfl
 ·rw[Tryz.params15] at ht
  match i,ht,hq with
  |0,ht,hq=>cases ht;cases hq;exact Xc
  |1,ht,hq=>cases ht;cases hq;exact z8x
  |2,ht,hq=>cases ht;cases hq;exact xeh
 match sg,hl with
 |[x0,x1,x2],_=>
  obtain⟨c0,rfl,Rm⟩:=hp 0 _ x0 rfl rfl
  obtain⟨l1,rfl,qy⟩:=hp 1 _ x1 rfl rfl
  obtain⟨s2,rfl⟩:=hp 2 _ x2 rfl rfl
  exact p15 (Q4 hL) c0 l1 s2 Rm qy 
theorem zpc (os:Os)(started:os.Started)(H:Type)(enc:TypeId×Value→H) :
  ReturnsInHanded {} Tryz.checked os 15 .any (fun w args=>(Rows.slipBetweenSpec.pre enc Tryz.prog Tryz.f15 [] false w args∧laidMetH Tryz.prog sf w)∧sizedMet enc Tryz.prog Tryz.f15 (OpenSpec.ofChange Rows.slipBetweenSpec) false w args) (Rows.slipBetweenSpec.post enc Tryz.prog Tryz.f15 false true false false):=by
 refine returnsInHanded_of_change_and (C:=Tryz.checked) (X:=fun w _=>laidMetH Tryz.prog sf w) Q5 own started (by kernel_rfl) Tryz.func15
  (ChangeSpec.witness_shaped (enc:=enc) (C:=Tryz.checked) (os:=os) (X:=fun w _=>laidMetH Tryz.prog sf w) false (World.doorLaid Tryz.prog 4000 os) #[.agg #[.int .i64 0,.int .i64 0,.int .i64 0,.int .i64 0,.int .i64 0,.slice none 0 0,.slice none 0 0,.slice none 0 0,.slice none 0 0],.slice none 0 0,.agg #[.int .i64 0,.int .i64 0,.int .i64 0,.int .i64 0,.int .i64 0]] 8 rfl (World.shaped_of_RefB (by kernel_rfl) (by kernel_rfl)) (by kernel_rfl) (by kernel_rfl) (by kernel_rfl) (Q3 os _)) ?_
 intro W base args ds gs before ly hW _ eJ hL _
 exact zr3 H enc W base args ds gs before ly hW eJ hL
theorem zq9:Rows.SlipBetweenSaid:=
 OpenClaim.holds_of_wide 15 Tryz.f15 rfl rfl rfl rfl rfl rfl rfl ⟨rfl,rfl,rfl,rfl,rfl⟩ rfl rfl rfl rfl rfl (by kernel_rfl) Tryz.func15 zpf
  (of_decide_eq_true (by kernel_rfl)) (by unfold Func.isWrapper;first|(rw[if_pos (by decide +kernel)];kernel_rfl)|(rw[if_neg (by decide +kernel)];exact⟨rfl,rfl⟩))
  (fun os started H enc _=>zpc os started H enc)
end Go.Am.Sl
namespace Go.Proofs.YthnmgbgmlhackaaGreatDoor
open Go
theorem slipBetween_holds:Rows.SlipBetweenCardSaid:=
 Claim7.holds_tied_plain_at .later [] [.data,.data,.data,.data] true (true, "f310aec18de0603d092a1a44aacda7291207ec74b98831434c725e5493a5daef") false
  Go.Am.Sl.zq9 (fun _ h=>by cases h) (by kernel_rfl) (fun _ h=>by cases h) slipBetween_row_tie rfl ⟨rfl,rfl⟩ (by kernel_rfl) rfl
  (fun f fn hf FG=>by
   obtain rfl:f=15:=Option.some.inj ((show Tryz.prog.funcNamed "pecia/pecialaw02.SlipBetween" = some 15 by kernel_rfl).symm.trans hf) |>.symm
   obtain rfl:fn=Tryz.f15:=(Option.some.inj (Tryz.func15.symm.trans FG)).symm
   exact⟨by kernel_rfl,fun j t ht=>by
    rw[Tryz.params15] at ht
    have hm:t∈[28,31,48]:=by simpa using Array.mem_of_getElem? ht
    have bs:([28,31,48].all fun u=>!Tryz.prog.wantsStandIn u)=true:=by kernel_rfl
    exact(show Tryz.prog.wantsStandIn t=false by simpa using List.all_eq_true.1 bs t hm)⟩)
  (by kernel_rfl)
end Go.Proofs.YthnmgbgmlhackaaGreatDoor
end
