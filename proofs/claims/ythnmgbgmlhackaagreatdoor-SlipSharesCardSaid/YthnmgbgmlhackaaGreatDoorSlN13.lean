/-
 What is used in the proof of a statement (part SlN13); no condition.
-/
import Derived.Test.YthnmgbgmlhackaaGreatDoorTie
import Derived.Test.YthnmgbgmlhackaaGreatDoorCards
import Derived.SevenTiedAt
import Derived.Test.YthnmgbgmlhackaaGreatDoorSlK
import Derived.Test.YthnmgbgmlhackaaGreatDoorSlI0
import Derived.Test.YthnmgbgmlhackaaGreatDoorSlM13
set_option linter.all false
section
namespace Go.Am.Sl
open Go Go.Am Go.Proofs Go.ChangeShapes Go.WideShapes Go.ChangeAt Go.RowKit Go.Proofs.YthnmgbgmlhackaaGreatDoor
set_option linter.unusedVariables false
set_option linter.unusedSimpArgs false
set_option maxRecDepth 100000
theorem zq8 (H:Type)(enc:TypeId×Value→H)(W:World)(base:Nat)(args:Array Value)(ds gs:List (DataW H))(before:List MemPlace)
  (wK:∀(j:Nat) t v,Tryz.f13.params[j]?=some t→args[j]?=some v→Value.okWide Tryz.prog W .any base t v)
  (hW:DataW.Whole enc Tryz.prog Tryz.f13.params.toList Rows.slipSharesSpec.vars false W args.toList ds gs before)
  (e8:(DataW.weightsEach Tryz.prog (Tryz.f13.params.toList++Rows.slipSharesSpec.plain.varTypes Tryz.prog) (ds++gs)).all (·≤reachBytes)=true) (hL:laidMetH Tryz.prog zr W) :
  Calls Tryz.prog 13 args W fun e W'=>∃v,e=.returned v∧Rows.slipSharesSpec.post enc Tryz.prog Tryz.f13 false true false false W args v W':=by
 letI:bE:=Nv W
 refine zqw kids zva (z4h (by kernel_rfl)) Tryz.underlying4 (by kernel_rfl) (by kernel_rfl) wK hW e8 (by kernel_rfl) (fun l hl=>?_) [I8,I8] (by kernel_rfl) (fun i t Q ht hq=>?_) (fun b _=>rfl) (SO hL).1 (fun tt hl hp=>?_)
 ·rw[Tryz.params13] at hl
  match l,hl with
  |[_,_],_=>rfl
 ·rw[Tryz.params13] at ht
  match i,ht,hq with
  |0,ht,hq=>cases ht;cases hq;exact SN
  |1,ht,hq=>cases ht;cases hq;exact SN
 match tt,hl with
 |[x0,x1],_=>
  obtain⟨l0,rfl,kN⟩:=hp 0 _ x0 rfl rfl
  obtain⟨l1,rfl,pB⟩:=hp 1 _ x1 rfl rfl
  exact p13 (zwj hL) l0 l1 kN pB
theorem zp0 (os:Os)(started:os.Started)(H:Type)(enc:TypeId×Value→H) :
  ReturnsInHanded {} Tryz.checked os 13 .any (fun w args=>(Rows.slipSharesSpec.pre enc Tryz.prog Tryz.f13 [] false w args∧laidMetH Tryz.prog zr w)∧sizedMet enc Tryz.prog Tryz.f13 (OpenSpec.ofChange Rows.slipSharesSpec) false w args) (Rows.slipSharesSpec.post enc Tryz.prog Tryz.f13 false true false false):=by
 refine returnsInHanded_of_change_and (C:=Tryz.checked) (X:=fun w _=>laidMetH Tryz.prog zr w) zyq own started (by kernel_rfl) Tryz.func13
  (ChangeSpec.witness_shaped (enc:=enc) (C:=Tryz.checked) (os:=os) (X:=fun w _=>laidMetH Tryz.prog zr w) false (World.doorLaid Tryz.prog 4000 os) #[.slice none 0 0,.slice none 0 0] 8 rfl (World.shaped_of_RefB (by kernel_rfl) (by kernel_rfl)) (by kernel_rfl) (by kernel_rfl) (by kernel_rfl) (z1g os _)) ?_
 intro W base args ds gs before wK hW _ e8 hL _
 exact zq8 H enc W base args ds gs before wK hW e8 hL
theorem zrd:Rows.SlipSharesSaid:=
 OpenClaim.holds_of_wide 13 Tryz.f13 rfl rfl rfl rfl rfl rfl rfl ⟨rfl,rfl,rfl,rfl,rfl⟩ rfl rfl rfl rfl rfl (by kernel_rfl) Tryz.func13 zp7
  (of_decide_eq_true (by kernel_rfl)) (by unfold Func.isWrapper;first|(rw[if_pos (by decide +kernel)];kernel_rfl)|(rw[if_neg (by decide +kernel)];exact⟨rfl,rfl⟩))
  (fun os started H enc _=>zp0 os started H enc)
end Go.Am.Sl
namespace Go.Proofs.YthnmgbgmlhackaaGreatDoor
open Go
theorem slipShares_holds:Rows.SlipSharesCardSaid:=
 Claim7.holds_tied_plain_at .later [] [.data,.data,.data,.data] true (true, "f310aec18de0603d092a1a44aacda7291207ec74b98831434c725e5493a5daef") false
  Go.Am.Sl.zrd (fun _ h=>by cases h) (by kernel_rfl) (fun _ h=>by cases h) slipShares_row_tie rfl ⟨rfl,rfl⟩ (by kernel_rfl) rfl
  (fun f fn hf Pm=>by
   obtain rfl:f=13:=Option.some.inj ((show Tryz.prog.funcNamed "pecia/pecialaw02.SlipShares" = some 13 by kernel_rfl).symm.trans hf) |>.symm
   obtain rfl:fn=Tryz.f13:=(Option.some.inj (Tryz.func13.symm.trans Pm)).symm
   exact⟨by kernel_rfl,fun j t ht=>by
    rw[Tryz.params13] at ht
    have hm:t∈[31,31]:=by simpa using Array.mem_of_getElem? ht
    have bg:([31,31].all fun u=>!Tryz.prog.wantsStandIn u)=true:=by kernel_rfl
    exact(show Tryz.prog.wantsStandIn t=false by simpa using List.all_eq_true.1 bg t hm)⟩)
  (by kernel_rfl)
end Go.Proofs.YthnmgbgmlhackaaGreatDoor
end
