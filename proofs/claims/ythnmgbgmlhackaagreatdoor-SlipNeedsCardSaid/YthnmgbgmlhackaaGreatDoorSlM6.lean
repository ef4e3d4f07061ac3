/-
 What is used in the proof of a statement (part SlM6); no condition.
-/
import Derived.Test.YthnmgbgmlhackaaGreatDoorRows
import Derived.JoinedOf
import Derived.ProofKit
set_option linter.all false
section
namespace Go.Am.Sl
open Go Go.Proofs Go.Proofs.YthnmgbgmlhackaaGreatDoor
set_option maxRecDepth 100000
theorem mq {a b:Bool}(h:a=true)(g:b=true):(a&&b)=true:=by rw[h,g];rfl
theorem xk7:(Rows.slipNeedsRow.wf (OpenSpec.ofChange Rows.slipNeedsSpec))=true:=by kernel_rfl
theorem xmc:(laidOutB Tryz.prog)=true:=by kernel_rfl
theorem xl3:(mapsRowed Tryz.prog)=true:=by kernel_rfl
theorem xkn:(Tryz.f6.params.all (Tryz.prog.readableRec ·))=true:=by kernel_rfl
theorem xmn:(namedTie Tryz.prog Rows.slipNeedsRow.named Rows.slipNeedsSpec.vars)=true:=by kernel_rfl
theorem xkz:((Rows.slipNeedsRow.stops==[]))=true:=by kernel_rfl
theorem xlz:((Tryz.prog.stops==[]))=true:=by kernel_rfl
theorem xms:((Rows.slipNeedsRow.knobs==[]))=true:=by kernel_rfl
theorem xlt:((Tryz.prog.stopKnobs==[]))=true:=by kernel_rfl
theorem xlb:((Rows.slipNeedsRow.inPlace==Tryz.prog.inPlace 6))=true:=by kernel_rfl
theorem xit:((Rows.slipNeedsRow.unfollowed==Tryz.prog.unfollowed 6))=true:=by kernel_rfl
theorem xgc:((Rows.slipNeedsRow.recurses==Tryz.prog.recurses 6))=true:=by kernel_rfl
theorem xe5:((Rows.slipNeedsRow.named==Tryz.prog.varsNamed 6))=true:=by kernel_rfl
theorem xd8:((Rows.slipNeedsRow.maps==(Tryz.f6.params.toList++Rows.slipNeedsSpec.plain.varTypes Tryz.prog).any (Tryz.prog.mapsRec ·)))=true:=by kernel_rfl
theorem xim:((Rows.slipNeedsRow.ifaces==(Tryz.f6.params.toList++Rows.slipNeedsSpec.plain.varTypes Tryz.prog).any (Tryz.prog.ifacesRec ·)))=true:=by kernel_rfl
theorem xiw:((Rows.slipNeedsRow.mapsOut==Tryz.prog.mapsAmong Tryz.f6.resultTypes.toList))=true:=by kernel_rfl
theorem xho:((Rows.slipNeedsRow.loops==(Tryz.f6.params.toList++Rows.slipNeedsSpec.plain.varTypes Tryz.prog).any (Tryz.prog.loopsFrom ·)))=true:=by kernel_rfl
theorem xg3:((Rows.slipNeedsRow.wideKeys==(Tryz.f6.params.toList++Rows.slipNeedsSpec.plain.varTypes Tryz.prog++Tryz.f6.resultTypes.toList).any (Tryz.prog.wideKeysFrom ·)))=true:=by kernel_rfl
theorem xg9:(Rows.slipNeedsSpec.vars.all (Tryz.prog.varReadable ·))=true:=by kernel_rfl
theorem xhb:(Tryz.f6.resultTypes.all (fun t=>Tryz.prog.readableRec t&&decide (t<Tryz.prog.types.size)))=true:=by kernel_rfl
theorem xgb:((Rows.slipNeedsRow.ifacesOut==Tryz.f6.resultTypes.toList.any (Tryz.prog.ifacesRec ·)))=true:=by kernel_rfl
theorem xji:((Rows.slipNeedsRow.loopsOut==Tryz.f6.resultTypes.toList.any (Tryz.prog.loopsFrom ·)))=true:=by kernel_rfl
theorem xjd:((Rows.slipNeedsRow.plainKeys==Tryz.prog.plainKeys))=true:=by kernel_rfl
theorem xff:(Rows.slipNeedsRow.shortTexts.isNone)=true:=by kernel_rfl
theorem xgi:(Tryz.prog.stopsHeard)=true:=by kernel_rfl
theorem xfv:(Tryz.prog.mayEnter)=true:=by kernel_rfl
theorem xge:((Rows.slipNeedsRow.lifted==Tryz.prog.liftsFinal))=true:=by kernel_rfl
theorem xeg:((Tryz.prog.make==some Rows.slipNeedsRow.make))=true:=by kernel_rfl
theorem xh0:((Rows.slipNeedsRow.kinds==(if Rows.slipNeedsRow.domain.isEmpty then [] else Tryz.f6.params.toList.map fun t=>match Tryz.prog.underlying t with|some (.int k)=>some k|_=>none)))=true:=by kernel_rfl
theorem xh9:((Rows.slipNeedsRow.pinned==Rows.slipNeedsRow.pinnedBy))=true:=by kernel_rfl
theorem xg5:((Rows.slipNeedsRow.veiled==(Tryz.f6.params.toList++Rows.slipNeedsSpec.plain.varTypes Tryz.prog++Tryz.f6.resultTypes.toList).any (Tryz.prog.veiledRec ·)))=true:=by kernel_rfl
theorem xhu:(Rows.slipNeedsRow.veiledFits Tryz.prog Tryz.f6.params.toList (Tryz.f6.params.toList++Rows.slipNeedsSpec.plain.varTypes Tryz.prog++Tryz.f6.resultTypes.toList))=true:=by kernel_rfl
theorem zu3:joinedFacts Tryz.prog 6 Tryz.f6 Rows.slipNeedsSpec Rows.slipNeedsRow=true:=mq (mq (mq (mq (mq (mq (mq (mq (mq (mq (mq (mq (mq (mq (mq (mq (mq (mq (mq (mq (mq (mq (mq (mq (mq (mq (mq (mq (mq (mq (mq (xk7) xmc) xl3) xkn) xmn) xkz) xlz) xms) xlt) xlb) xit) xgc) xe5) xd8) xim) xiw) xho) xg3) xg9) xhb) xgb) xji) xjd) xff) xgi) xfv) xge) xeg) xh0) xh9) xg5) xhu
end Go.Am.Sl
end
