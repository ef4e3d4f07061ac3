/-
 What is used in the proof of a statement (part SlM3); no condition.
-/
import Derived.Test.YthnmgbgmlhackaaGreatDoorRows
import Derived.JoinedOf
import Derived.ProofKit
set_option linter.all false
section
namespace Go.Am.Sl
open Go Go.Proofs Go.Proofs.YthnmgbgmlhackaaGreatDoor
set_option maxRecDepth 100000
theorem mm {a b:Bool}(h:a=true)(g:b=true):(a&&b)=true:=by rw[h,g];rfl
theorem xj5:(Rows.slipComesRow.wf (OpenSpec.ofChange Rows.slipComesSpec))=true:=by kernel_rfl
theorem xm4:(laidOutB Tryz.prog)=true:=by kernel_rfl
theorem xl9:(mapsRowed Tryz.prog)=true:=by kernel_rfl
theorem xk2:(Tryz.f3.params.all (Tryz.prog.readableRec ·))=true:=by kernel_rfl
theorem xkt:(namedTie Tryz.prog Rows.slipComesRow.named Rows.slipComesSpec.vars)=true:=by kernel_rfl
theorem xkh:((Rows.slipComesRow.stops==[]))=true:=by kernel_rfl
theorem xmj:((Tryz.prog.stops==[]))=true:=by kernel_rfl
theorem xmz:((Rows.slipComesRow.knobs==[]))=true:=by kernel_rfl
theorem xm7:((Tryz.prog.stopKnobs==[]))=true:=by kernel_rfl
theorem xmk:((Rows.slipComesRow.inPlace==Tryz.prog.inPlace 3))=true:=by kernel_rfl
theorem xjf:((Rows.slipComesRow.unfollowed==Tryz.prog.unfollowed 3))=true:=by kernel_rfl
theorem xfe:((Rows.slipComesRow.recurses==Tryz.prog.recurses 3))=true:=by kernel_rfl
theorem xe4:((Rows.slipComesRow.named==Tryz.prog.varsNamed 3))=true:=by kernel_rfl
theorem xg8:((Rows.slipComesRow.maps==(Tryz.f3.params.toList++Rows.slipComesSpec.plain.varTypes Tryz.prog).any (Tryz.prog.mapsRec ·)))=true:=by kernel_rfl
theorem xi6:((Rows.slipComesRow.ifaces==(Tryz.f3.params.toList++Rows.slipComesSpec.plain.varTypes Tryz.prog).any (Tryz.prog.ifacesRec ·)))=true:=by kernel_rfl
theorem xgh:((Rows.slipComesRow.mapsOut==Tryz.prog.mapsAmong Tryz.f3.resultTypes.toList))=true:=by kernel_rfl
theorem xd7:((Rows.slipComesRow.loops==(Tryz.f3.params.toList++Rows.slipComesSpec.plain.varTypes Tryz.prog).any (Tryz.prog.loopsFrom ·)))=true:=by kernel_rfl
theorem xi4:((Rows.slipComesRow.wideKeys==(Tryz.f3.params.toList++Rows.slipComesSpec.plain.varTypes Tryz.prog++Tryz.f3.resultTypes.toList).any (Tryz.prog.wideKeysFrom ·)))=true:=by kernel_rfl
theorem xfr:(Rows.slipComesSpec.vars.all (Tryz.prog.varReadable ·))=true:=by kernel_rfl
theorem xgw:(Tryz.f3.resultTypes.all (fun t=>Tryz.prog.readableRec t&&decide (t<Tryz.prog.types.size)))=true:=by kernel_rfl
theorem xia:((Rows.slipComesRow.ifacesOut==Tryz.f3.resultTypes.toList.any (Tryz.prog.ifacesRec ·)))=true:=by kernel_rfl
theorem xf0:((Rows.slipComesRow.loopsOut==Tryz.f3.resultTypes.toList.any (Tryz.prog.loopsFrom ·)))=true:=by kernel_rfl
theorem xjh:((Rows.slipComesRow.plainKeys==Tryz.prog.plainKeys))=true:=by kernel_rfl
theorem xfk:(Rows.slipComesRow.shortTexts.isNone)=true:=by kernel_rfl
theorem xf2:(Tryz.prog.stopsHeard)=true:=by kernel_rfl
theorem xeu:(Tryz.prog.mayEnter)=true:=by kernel_rfl
theorem xed:((Rows.slipComesRow.lifted==Tryz.prog.liftsFinal))=true:=by kernel_rfl
theorem xen:((Tryz.prog.make==some Rows.slipComesRow.make))=true:=by kernel_rfl
theorem xir:((Rows.slipComesRow.kinds==(if Rows.slipComesRow.domain.isEmpty then [] else Tryz.f3.params.toList.map fun t=>match Tryz.prog.underlying t with|some (.int k)=>some k|_=>none)))=true:=by kernel_rfl
theorem xeq:((Rows.slipComesRow.pinned==Rows.slipComesRow.pinnedBy))=true:=by kernel_rfl
theorem xhg:((Rows.slipComesRow.veiled==(Tryz.f3.params.toList++Rows.slipComesSpec.plain.varTypes Tryz.prog++Tryz.f3.resultTypes.toList).any (Tryz.prog.veiledRec ·)))=true:=by kernel_rfl
theorem xjg:(Rows.slipComesRow.veiledFits Tryz.prog Tryz.f3.params.toList (Tryz.f3.params.toList++Rows.slipComesSpec.plain.varTypes Tryz.prog++Tryz.f3.resultTypes.toList))=true:=by kernel_rfl
theorem zvk:joinedFacts Tryz.prog 3 Tryz.f3 Rows.slipComesSpec Rows.slipComesRow=true:=mm (mm (mm (mm (mm (mm (mm (mm (mm (mm (mm (mm (mm (mm (mm (mm (mm (mm (mm (mm (mm (mm (mm (mm (mm (mm (mm (mm (mm (mm (mm (xj5) xm4) xl9) xk2) xkt) xkh) xmj) xmz) xm7) xmk) xjf) xfe) xe4) xg8) xi6) xgh) xd7) xi4) xfr) xgw) xia) xf0) xjh) xfk) xf2) xeu) xed) xen) xir) xeq) xhg) xjg
end Go.Am.Sl
end
