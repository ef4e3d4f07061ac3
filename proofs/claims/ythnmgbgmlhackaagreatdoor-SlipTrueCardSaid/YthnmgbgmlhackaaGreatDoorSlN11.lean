/-
 What is used in the proof of a statement (part SlN11); no condition.
-/
import Derived.Test.YthnmgbgmlhackaaGreatDoorTie
import Derived.Test.YthnmgbgmlhackaaGreatDoorCards
import Derived.SevenTiedAt
import Derived.Test.YthnmgbgmlhackaaGreatDoorSlK
import Derived.Test.YthnmgbgmlhackaaGreatDoorSlI0
import Derived.Test.YthnmgbgmlhackaaGreatDoorSlI2
import Derived.Test.YthnmgbgmlhackaaGreatDoorSlI5
import Derived.Test.YthnmgbgmlhackaaGreatDoorSlM11
set_option linter.all false
section
namespace Go.Am.Sl
open Go Go.Am Go.Proofs Go.ChangeShapes Go.WideShapes Go.ChangeAt Go.RowKit Go.Proofs.YthnmgbgmlhackaaGreatDoor
set_option linter.unusedVariables false
set_option linter.unusedSimpArgs false
set_option maxRecDepth 100000
theorem zy7 (H:Type)(enc:TypeId×Value→H)(W:World)(base:Nat)(args:Array Value)(ds gs:List (DataW H))(before:List MemPlace)
  (ly:∀(j:Nat) t v,Tryz.f11.params[j]?=some t→args[j]?=some v→Value.okWide Tryz.prog W .any base t v)
  (hW:DataW.Whole enc Tryz.prog Tryz.f11.params.toList Rows.slipTrueSpec.vars false W args.toList ds gs before)
  (eJ:(DataW.weightsEach Tryz.prog (Tryz.f11.params.toList++Rows.slipTrueSpec.plain.varTypes Tryz.prog) (ds++gs)).all (·≤reachBytes)=true) (hL:laidMetH Tryz.prog sf W) :
  Calls Tryz.prog 11 args W fun e W'=>∃v,e=.returned v∧Rows.slipTrueSpec.post enc Tryz.prog Tryz.f11 false true false false W args v W':=by
 letI:bF:=JD W
 refine Rl kids Q6 (Q7 (by kernel_rfl)) Tryz.underlying4 (by kernel_rfl) (by kernel_rfl) ly hW eJ (by kernel_rfl) (fun l hl=>?_) [Mx,GC,My,Rj] (by kernel_rfl) (fun i t Q ht hq=>?_) (fun b _=>rfl) (Mt hL).1 (fun sg hl hp=>?_)
 ·rw[Tryz.params11] at hl
  match l,hl with
  |[_,_,_,_],_=>rfl
 ·rw[Tryz.params11] at ht
  match i,ht,hq with
  |0,ht,hq=>cases ht;cases hq;exact z7q
  |1,ht,hq=>cases ht;cases hq;exact z8l
  |2,ht,hq=>cases ht;cases hq;exact xas
  |3,ht,hq=>cases ht;cases hq;exact xan
 match sg,hl with
 |[x0,x1,x2,x3],_=>
  obtain⟨a0,b0,d0,e0,f0,m0,rfl,lA⟩:=hp 0 _ x0 rfl rfl
  obtain⟨l1,rfl,qy⟩:=hp 1 _ x1 rfl rfl
  obtain⟨g2,rfl,tc,et⟩:=hp 2 _ x2 rfl rfl
  obtain⟨m3,rfl,Dg,ki⟩:=hp 3 _ x3 rfl rfl
  exact p11 (Q4 hL) a0 b0 d0 e0 f0 m0 l1 g2 m3 lA qy tc et Dg ki
theorem zw8 (os:Os)(started:os.Started)(H:Type)(enc:TypeId×Value→H) :
  ReturnsInHanded {} Tryz.checked os 11 .any (fun w args=>(Rows.slipTrueSpec.pre enc Tryz.prog Tryz.f11 [] false w args∧laidMetH Tryz.prog sf w)∧sizedMet enc Tryz.prog Tryz.f11 (OpenSpec.ofChange Rows.slipTrueSpec) false w args) (Rows.slipTrueSpec.post enc Tryz.prog Tryz.f11 false true false false):=by
 refine returnsInHanded_of_change_and (C:=Tryz.checked) (X:=fun w _=>laidMetH Tryz.prog sf w) Q5 own started (by kernel_rfl) Tryz.func11
  (ChangeSpec.witness_shaped (enc:=enc) (C:=Tryz.checked) (os:=os) (X:=fun w _=>laidMetH Tryz.prog sf w) false (World.doorLaid Tryz.prog 4000 os) #[.agg #[.int .i64 0,.int .i64 0,.int .i64 0,.int .i64 0,.int .i64 0,.slice none 0 0],.slice none 0 0,.slice none 0 0,.slice none 0 0] 8 rfl (World.shaped_of_RefB (by kernel_rfl) (by kernel_rfl)) (by kernel_rfl) (by kernel_rfl) (by kernel_rfl) (Q3 os _)) ?_
 intro W base args ds gs before ly hW _ eJ hL _
 exact zy7 H enc W base args ds gs before ly hW eJ hL
theorem zyu:Rows.SlipTrueSaid:=
 OpenClaim.holds_of_wide 11 Tryz.f11 rfl rfl rfl rfl rfl rfl rfl ⟨rfl,rfl,rfl,rfl,rfl⟩ rfl rfl rfl rfl rfl (by kernel_rfl) Tryz.func11 zxh
  (of_decide_eq_true (by kernel_rfl)) (by unfold Func.isWrapper;first|(rw[if_pos (by decide +kernel)];kernel_rfl)|(rw[if_neg (by decide +kernel)];exact⟨rfl,rfl⟩))
  (fun os started H enc _=>zw8 os started H enc)
end Go.Am.Sl
namespace Go.Proofs.YthnmgbgmlhackaaGreatDoor
open Go
theorem slipTrue_holds:Rows.SlipTrueCardSaid:=
 Claim7.holds_tied_plain_at .later [] [.data,.data,.data,.data] true (true, "f310aec18de0603d092a1a44aacda7291207ec74b98831434c725e5493a5daef") false
  Go.Am.Sl.zyu (fun _ h=>by cases h) (by kernel_rfl) (fun _ h=>by cases h) slipTrue_row_tie rfl ⟨rfl,rfl⟩ (by kernel_rfl) rfl
  (fun f fn hf FG=>by
   obtain rfl:f=11:=Option.some.inj ((show Tryz.prog.funcNamed "pecia/pecialaw02.SlipTrue" = some 11 by kernel_rfl).symm.trans hf) |>.symm
   obtain rfl:fn=Tryz.f11:=(Option.some.inj (Tryz.func11.symm.trans FG)).symm
   exact⟨by kernel_rfl,fun j t ht=>by
    rw[Tryz.params11] at ht
    have hm:t∈[24,25,26,91]:=by simpa using Array.mem_of_getElem? ht
    have bs:([24,25,26,91].all fun u=>!Tryz.prog.wantsStandIn u)=true:=by kernel_rfl
    exact(show Tryz.prog.wantsStandIn t=false by simpa using List.all_eq_true.1 bs t hm)⟩)
  (by kernel_rfl)
end Go.Proofs.YthnmgbgmlhackaaGreatDoor
end
