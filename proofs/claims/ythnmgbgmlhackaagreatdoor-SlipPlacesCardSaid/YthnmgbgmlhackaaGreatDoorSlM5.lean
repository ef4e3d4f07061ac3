/-
 What is used in the proof of a statement (part SlM5); no condition.
-/
import Derived.Test.YthnmgbgmlhackaaGreatDoorRows
import Derived.JoinedOf
import Derived.ProofKit
set_option linter.all false
section
namespace Go.Am.Sl
open Go Go.Proofs Go.Proofs.YthnmgbgmlhackaaGreatDoor
set_option maxRecDepth 100000
theorem mo {a b:Bool}(h:a=true)(g:b=true):(a&&b)=true:=by rw[h,g];rfl
theorem xk3:(Rows.slipPlacesRow.wf (OpenSpec.ofChange Rows.slipPlacesSpec))=true:=by kernel_rfl
theorem xm9:(laidOutB Tryz.prog)=true:=by kernel_rfl
theorem xkl:(mapsRowed Tryz.prog)=true:=by kernel_rfl
theorem xlw:(Tryz.f5.params.all (Tryz.prog.readableRec ·))=true:=by kernel_rfl
theorem xl6:(namedTie Tryz.prog Rows.slipPlacesRow.named Rows.slipPlacesSpec.vars)=true:=by kernel_rfl
theorem xlh:((Rows.slipPlacesRow.stops==[]))=true:=by kernel_rfl
theorem xkg:((Tryz.prog.stops==[]))=true:=by kernel_rfl
theorem xku:((Rows.slipPlacesRow.knobs==[]))=true:=by kernel_rfl
theorem xl4:((Tryz.prog.stopKnobs==[]))=true:=by kernel_rfl
theorem xna:((Rows.slipPlacesRow.inPlace==Tryz.prog.inPlace 5))=true:=by kernel_rfl
theorem xel:((Rows.slipPlacesRow.unfollowed==Tryz.prog.unfollowed 5))=true:=by kernel_rfl
theorem xfn:((Rows.slipPlacesRow.recurses==Tryz.prog.recurses 5))=true:=by kernel_rfl
theorem xi9:((Rows.slipPlacesRow.named==Tryz.prog.varsNamed 5))=true:=by kernel_rfl
theorem xgs:((Rows.slipPlacesRow.maps==(Tryz.f5.params.toList++Rows.slipPlacesSpec.plain.varTypes Tryz.prog).any (Tryz.prog.mapsRec ·)))=true:=by kernel_rfl
theorem xhn:((Rows.slipPlacesRow.ifaces==(Tryz.f5.params.toList++Rows.slipPlacesSpec.plain.varTypes Tryz.prog).any (Tryz.prog.ifacesRec ·)))=true:=by kernel_rfl
theorem xev:((Rows.slipPlacesRow.mapsOut==Tryz.prog.mapsAmong Tryz.f5.resultTypes.toList))=true:=by kernel_rfl
theorem xew:((Rows.slipPlacesRow.loops==(Tryz.f5.params.toList++Rows.slipPlacesSpec.plain.varTypes Tryz.prog).any (Tryz.prog.loopsFrom ·)))=true:=by kernel_rfl
theorem xgp:((Rows.slipPlacesRow.wideKeys==(Tryz.f5.params.toList++Rows.slipPlacesSpec.plain.varTypes Tryz.prog++Tryz.f5.resultTypes.toList).any (Tryz.prog.wideKeysFrom ·)))=true:=by kernel_rfl
theorem xf6:(Rows.slipPlacesSpec.vars.all (Tryz.prog.varReadable ·))=true:=by kernel_rfl
theorem xe0:(Tryz.f5.resultTypes.all (fun t=>Tryz.prog.readableRec t&&decide (t<Tryz.prog.types.size)))=true:=by kernel_rfl
theorem xhv:((Rows.slipPlacesRow.ifacesOut==Tryz.f5.resultTypes.toList.any (Tryz.prog.ifacesRec ·)))=true:=by kernel_rfl
theorem xgl:((Rows.slipPlacesRow.loopsOut==Tryz.f5.resultTypes.toList.any (Tryz.prog.loopsFrom ·)))=true:=by kernel_rfl
theorem xgr:((Rows.slipPlacesRow.plainKeys==Tryz.prog.plainKeys))=true:=by kernel_rfl
theorem xh1:(Rows.slipPlacesRow.shortTexts.isNone)=true:=by kernel_rfl
theorem xf1:(Tryz.prog.stopsHeard)=true:=by kernel_rfl
theorem xib:(Tryz.prog.mayEnter)=true:=by kernel_rfl
theorem xgf:((Rows.slipPlacesRow.lifted==Tryz.prog.liftsFinal))=true:=by kernel_rfl
theorem xi5:((Tryz.prog.make==some Rows.slipPlacesRow.make))=true:=by kernel_rfl
theorem xgt:((Rows.slipPlacesRow.kinds==(if Rows.slipPlacesRow.domain.isEmpty then [] else Tryz.f5.params.toList.map fun t=>match Tryz.prog.underlying t with|some (.int k)=>some k|_=>none)))=true:=by kernel_rfl
theorem xi7:((Rows.slipPlacesRow.pinned==Rows.slipPlacesRow.pinnedBy))=true:=by kernel_rfl
theorem xhk:((Rows.slipPlacesRow.veiled==(Tryz.f5.params.toList++Rows.slipPlacesSpec.plain.varTypes Tryz.prog++Tryz.f5.resultTypes.toList).any (Tryz.prog.veiledRec ·)))=true:=by kernel_rfl
theorem xea:(Rows.slipPlacesRow.veiledFits Tryz.prog Tryz.f5.params.toList (Tryz.f5.params.toList++Rows.slipPlacesSpec.plain.varTypes Tryz.prog++Tryz.f5.resultTypes.toList))=true:=by kernel_rfl
theorem zsv:joinedFacts Tryz.prog 5 Tryz.f5 Rows.slipPlacesSpec Rows.slipPlacesRow=true:=mo (mo (mo (mo (mo (mo (mo (mo (mo (mo (mo (mo (mo (mo (mo (mo (mo (mo (mo (mo (mo (mo (mo (mo (mo (mo (mo (mo (mo (mo (mo (xk3) xm9) xkl) xlw) xl6) xlh) xkg) xku) xl4) xna) xel) xfn) xi9) xgs) xhn) xev) xew) xgp) xf6) xe0) xhv) xgl) xgr) xh1) xf1) xib) xgf) xi5) xgt) xi7) xhk) xea
end Go.Am.Sl
end
