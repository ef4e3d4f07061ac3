/-
 What is used in the proof of a statement (part SlN9); no condition.
-/
import Derived.Test.YthnmgbgmlhackaaGreatDoorTie
import Derived.Test.YthnmgbgmlhackaaGreatDoorCards
import Derived.SevenTiedAt
import Derived.Test.YthnmgbgmlhackaaGreatDoorSlK
import Derived.Test.YthnmgbgmlhackaaGreatDoorSlI0
import Derived.Test.YthnmgbgmlhackaaGreatDoorSlI1
import Derived.Test.YthnmgbgmlhackaaGreatDoorSlI2
import Derived.Test.YthnmgbgmlhackaaGreatDoorSlI4
import Derived.Test.YthnmgbgmlhackaaGreatDoorSlI5
import Derived.Test.YthnmgbgmlhackaaGreatDoorSlI7
import Derived.Test.YthnmgbgmlhackaaGreatDoorSlI9
import Derived.Test.YthnmgbgmlhackaaGreatDoorSlI11
import Derived.Test.YthnmgbgmlhackaaGreatDoorSlI14
import Derived.Test.YthnmgbgmlhackaaGreatDoorSlI20
import Derived.Test.YthnmgbgmlhackaaGreatDoorSlM9
set_option linter.all false
section
namespace Go.Am.Sl
open Go Go.Am Go.Proofs Go.ChangeShapes Go.WideShapes Go.ChangeAt Go.RowKit Go.Proofs.YthnmgbgmlhackaaGreatDoor
set_option linter.unusedVariables false
set_option linter.unusedSimpArgs false
set_option maxRecDepth 100000
theorem zt4 (H:Type)(enc:TypeId×Value→H)(W:World)(base:Nat)(args:Array Value)(ds gs:List (DataW H))(before:List MemPlace)
  (fc:∀(j:Nat) t v,Tryz.f9.params[j]?=some t→args[j]?=some v→Value.okWide Tryz.prog W .any base t v)
  (hW:DataW.Whole enc Tryz.prog Tryz.f9.params.toList Rows.slipProvesSpec.vars false W args.toList ds gs before)
  (dU:(DataW.weightsEach Tryz.prog (Tryz.f9.params.toList++Rows.slipProvesSpec.plain.varTypes Tryz.prog) (ds++gs)).all (·≤reachBytes)=true) (hL:laidMetH Tryz.prog lM W) :
  Calls Tryz.prog 9 args W fun e W'=>∃v,e=.returned v∧Rows.slipProvesSpec.post enc Tryz.prog Tryz.f9 false true false false W args v W':=by
 letI:bE:=CZ W
 refine GC kids Gw (Gx (by kernel_rfl)) Tryz.underlying4 (by kernel_rfl) (by kernel_rfl) fc hW dU (by kernel_rfl) (fun l hl=>?_) [CY,Og] (by kernel_rfl) (fun i t Q ht hq=>?_) (fun b _=>rfl) (Ep hL).1 (fun oN hl hp=>?_)
 ·rw[Tryz.params9] at hl
  match l,hl with
  |[_,_],_=>rfl
 ·rw[Tryz.params9] at ht
  match i,ht,hq with
  |0,ht,hq=>cases ht;cases hq;exact Gy
  |1,ht,hq=>cases ht;cases hq;exact Zj
 match oN,hl with
 |[x0,x1],_=>
  obtain⟨c0,rfl,xq⟩:=hp 0 _ x0 rfl rfl
  obtain⟨l1,n1,T1,rfl,ll,Tl,oQ⟩:=hp 1 _ x1 rfl rfl
  exact p9 (GA hL) c0 l1 n1 T1 xq ll Tl oQ
theorem zr5 (os:Os)(started:os.Started)(H:Type)(enc:TypeId×Value→H) :
  ReturnsInHanded {} Tryz.checked os 9 .any (fun w args=>(Rows.slipProvesSpec.pre enc Tryz.prog Tryz.f9 [] false w args∧laidMetH Tryz.prog lM w)∧sizedMet enc Tryz.prog Tryz.f9 (OpenSpec.ofChange Rows.slipProvesSpec) false w args) (Rows.slipProvesSpec.post enc Tryz.prog Tryz.f9 false true false false):=by
 refine returnsInHanded_of_change_and (C:=Tryz.checked) (X:=fun w _=>laidMetH Tryz.prog lM w) GB own started (by kernel_rfl) Tryz.func9
  (ChangeSpec.witness_shaped (enc:=enc) (C:=Tryz.checked) (os:=os) (X:=fun w _=>laidMetH Tryz.prog lM w) false (World.doorLaid Tryz.prog 4000 os) #[.agg #[.int .i64 0,.int .i64 0,.int .i64 0,.int .i64 0,.int .i64 0,.slice none 0 0,.slice none 0 0,.slice none 0 0,.slice none 0 0],.agg #[.slice none 0 0,.int .i64 0,.slice none 0 0]] 8 rfl (World.shaped_of_RefB (by kernel_rfl) (by kernel_rfl)) (by kernel_rfl) (by kernel_rfl) (by kernel_rfl) (Gz os _)) ?_
 intro W base args ds gs before fc hW _ dU hL _
 exact zt4 H enc W base args ds gs before fc hW dU hL
theorem zt2:Rows.SlipProvesSaid:=
 OpenClaim.holds_of_wide 9 Tryz.f9 rfl rfl rfl rfl rfl rfl rfl ⟨rfl,rfl,rfl,rfl,rfl⟩ rfl rfl rfl rfl rfl (by kernel_rfl) Tryz.func9 zsu
  (of_decide_eq_true (by kernel_rfl)) (by unfold Func.isWrapper;first|(rw[if_pos (by decide +kernel)];kernel_rfl)|(rw[if_neg (by decide +kernel)];exact⟨rfl,rfl⟩))
  (fun os started H enc _=>zr5 os started H enc)
end Go.Am.Sl
namespace Go.Proofs.YthnmgbgmlhackaaGreatDoor
open Go
theorem slipProves_holds:Rows.SlipProvesCardSaid:=
 Claim7.holds_tied_plain_at .later [] [.data,.data,.data,.data] true (true, "f310aec18de0603d092a1a44aacda7291207ec74b98831434c725e5493a5daef") false
  Go.Am.Sl.zt2 (fun _ h=>by cases h) (by kernel_rfl) (fun _ h=>by cases h) slipProves_row_tie rfl ⟨rfl,rfl⟩ (by kernel_rfl) rfl
  (fun f fn hf po=>by
   obtain rfl:f=9:=Option.some.inj ((show Tryz.prog.funcNamed "pecia/pecialaw02.SlipProves" = some 9 by kernel_rfl).symm.trans hf) |>.symm
   obtain rfl:fn=Tryz.f9:=(Option.some.inj (Tryz.func9.symm.trans po)).symm
   exact⟨by kernel_rfl,fun j t ht=>by
    rw[Tryz.params9] at ht
    have hm:t∈[28,34]:=by simpa using Array.mem_of_getElem? ht
    have bk:([28,34].all fun u=>!Tryz.prog.wantsStandIn u)=true:=by kernel_rfl
    exact(show Tryz.prog.wantsStandIn t=false by simpa using List.all_eq_true.1 bk t hm)⟩)
  (by kernel_rfl)
end Go.Proofs.YthnmgbgmlhackaaGreatDoor
end
