/-
 What is used in the proof of a statement (part SlN4); no condition.
-/
import Derived.Test.YthnmgbgmlhackaaGreatDoorTie
import Derived.Test.YthnmgbgmlhackaaGreatDoorCards
import Derived.SevenTiedAt
import Derived.Test.YthnmgbgmlhackaaGreatDoorSlK
import Derived.Test.YthnmgbgmlhackaaGreatDoorSlI0
import Derived.Test.YthnmgbgmlhackaaGreatDoorSlI2
import Derived.Test.YthnmgbgmlhackaaGreatDoorSlI6
import Derived.Test.YthnmgbgmlhackaaGreatDoorSlI7
import Derived.Test.YthnmgbgmlhackaaGreatDoorSlI8
import Derived.Test.YthnmgbgmlhackaaGreatDoorSlI9
import Derived.Test.YthnmgbgmlhackaaGreatDoorSlI13
import Derived.Test.YthnmgbgmlhackaaGreatDoorSlI14
import Derived.Test.YthnmgbgmlhackaaGreatDoorSlI21
import Derived.Test.YthnmgbgmlhackaaGreatDoorSlM4
set_option linter.all false
section
namespace Go.Am.Sl
open Go Go.Am Go.Proofs Go.ChangeShapes Go.WideShapes Go.ChangeAt Go.RowKit Go.Proofs.YthnmgbgmlhackaaGreatDoor
set_option linter.unusedVariables false
set_option linter.unusedSimpArgs false
set_option maxRecDepth 100000
theorem zyl (H:Type)(enc:TypeId×Value→H)(W:World)(base:Nat)(args:Array Value)(ds gs:List (DataW H))(before:List MemPlace)
  (fc:∀(j:Nat) t v,Tryz.f4.params[j]?=some t→args[j]?=some v→Value.okWide Tryz.prog W .any base t v)
  (hW:DataW.Whole enc Tryz.prog Tryz.f4.params.toList Rows.slipSuresSpec.vars false W args.toList ds gs before)
  (dU:(DataW.weightsEach Tryz.prog (Tryz.f4.params.toList++Rows.slipSuresSpec.plain.varTypes Tryz.prog) (ds++gs)).all (·≤reachBytes)=true) (hL:laidMetH Tryz.prog lM W) :
  Calls Tryz.prog 4 args W fun e W'=>∃v,e=.returned v∧Rows.slipSuresSpec.post enc Tryz.prog Tryz.f4 false true false false W args v W':=by
 letI:bE:=CZ W
 refine GC kids Gw (Gx (by kernel_rfl)) Tryz.underlying4 (by kernel_rfl) (by kernel_rfl) fc hW dU (by kernel_rfl) (fun l hl=>?_) [CY,Of] (by kernel_rfl) (fun i t Q ht hq=>?_) (fun b _=>rfl) (Ep hL).1 (fun oN hl hp=>?_)
 ·rw[Tryz.params4] at hl
  match l,hl with
  |[_,_],_=>rfl
 ·rw[Tryz.params4] at ht
  match i,ht,hq with
  |0,ht,hq=>cases ht;cases hq;exact Gy
  |1,ht,hq=>cases ht;cases hq;exact Zi
 match oN,hl with
 |[x0,x1],_=>
  obtain⟨c0,rfl,xq⟩:=hp 0 _ x0 rfl rfl
  obtain⟨s1,rfl⟩:=hp 1 _ x1 rfl rfl
  exact p4 (GA hL) c0 s1 xq 
theorem zu9 (os:Os)(started:os.Started)(H:Type)(enc:TypeId×Value→H) :
  ReturnsInHanded {} Tryz.checked os 4 .any (fun w args=>(Rows.slipSuresSpec.pre enc Tryz.prog Tryz.f4 [] false w args∧laidMetH Tryz.prog lM w)∧sizedMet enc Tryz.prog Tryz.f4 (OpenSpec.ofChange Rows.slipSuresSpec) false w args) (Rows.slipSuresSpec.post enc Tryz.prog Tryz.f4 false true false false):=by
 refine returnsInHanded_of_change_and (C:=Tryz.checked) (X:=fun w _=>laidMetH Tryz.prog lM w) GB own started (by kernel_rfl) Tryz.func4
  (ChangeSpec.witness_shaped (enc:=enc) (C:=Tryz.checked) (os:=os) (X:=fun w _=>laidMetH Tryz.prog lM w) false (World.doorLaid Tryz.prog 4000 os) #[.agg #[.int .i64 0,.int .i64 0,.int .i64 0,.int .i64 0,.int .i64 0,.slice none 0 0,.slice none 0 0,.slice none 0 0,.slice none 0 0],.agg #[.int .i64 0,.int .i64 0,.int .i64 0,.int .i64 0,.int .i64 0]] 8 rfl (World.shaped_of_RefB (by kernel_rfl) (by kernel_rfl)) (by kernel_rfl) (by kernel_rfl) (by kernel_rfl) (Gz os _)) ?_
 intro W base args ds gs before fc hW _ dU hL _
 exact zyl H enc W base args ds gs before fc hW dU hL
theorem zzb:Rows.SlipSuresSaid:=
 OpenClaim.holds_of_wide 4 Tryz.f4 rfl rfl rfl rfl rfl rfl rfl ⟨rfl,rfl,rfl,rfl,rfl⟩ rfl rfl rfl rfl rfl (by kernel_rfl) Tryz.func4 zvu
  (of_decide_eq_true (by kernel_rfl)) (by unfold Func.isWrapper;first|(rw[if_pos (by decide +kernel)];kernel_rfl)|(rw[if_neg (by decide +kernel)];exact⟨rfl,rfl⟩))
  (fun os started H enc _=>zu9 os started H enc)
end Go.Am.Sl
namespace Go.Proofs.YthnmgbgmlhackaaGreatDoor
open Go
theorem slipSures_holds:Rows.SlipSuresCardSaid:=
 Claim7.holds_tied_plain_at .later [] [.data,.data,.data,.data] true (true, "f310aec18de0603d092a1a44aacda7291207ec74b98831434c725e5493a5daef") false
  Go.Am.Sl.zzb (fun _ h=>by cases h) (by kernel_rfl) (fun _ h=>by cases h) slipSures_row_tie rfl ⟨rfl,rfl⟩ (by kernel_rfl) rfl
  (fun f fn hf po=>by
   obtain rfl:f=4:=Option.some.inj ((show Tryz.prog.funcNamed "pecia/pecialaw02.SlipSures" = some 4 by kernel_rfl).symm.trans hf) |>.symm
   obtain rfl:fn=Tryz.f4:=(Option.some.inj (Tryz.func4.symm.trans po)).symm
   exact⟨by kernel_rfl,fun j t ht=>by
    rw[Tryz.params4] at ht
    have hm:t∈[28,48]:=by simpa using Array.mem_of_getElem? ht
    have bk:([28,48].all fun u=>!Tryz.prog.wantsStandIn u)=true:=by kernel_rfl
    exact(show Tryz.prog.wantsStandIn t=false by simpa using List.all_eq_true.1 bk t hm)⟩)
  (by kernel_rfl)
end Go.Proofs.YthnmgbgmlhackaaGreatDoor
end
