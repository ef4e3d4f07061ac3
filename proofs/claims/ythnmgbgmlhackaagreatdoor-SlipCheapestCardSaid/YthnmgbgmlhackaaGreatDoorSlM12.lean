/-
 What is used in the proof of a statement (part SlM12); no condition.
-/
import Derived.Test.YthnmgbgmlhackaaGreatDoorRows
import Derived.JoinedOf
import Derived.ProofKit
set_option linter.all false
section
namespace Go.Am.Sl
open Go Go.Proofs Go.Proofs.YthnmgbgmlhackaaGreatDoor
set_option maxRecDepth 100000
theorem ml {a b:Bool}(h:a=true)(g:b=true):(a&&b)=true:=by rw[h,g];rfl
theorem xfs:(Rows.slipCheapestRow.wf (OpenSpec.ofChange Rows.slipCheapestSpec))=true:=by kernel_rfl
theorem xhz:(laidOutB Tryz.prog)=true:=by kernel_rfl
theorem xid:(mapsRowed Tryz.prog)=true:=by kernel_rfl
theorem xgd:(Tryz.f12.params.all (Tryz.prog.readableRec ·))=true:=by kernel_rfl
theorem xjs:(namedTie Tryz.prog Rows.slipCheapestRow.named Rows.slipCheapestSpec.vars)=true:=by kernel_rfl
theorem xie:((Rows.slipCheapestRow.stops==[]))=true:=by kernel_rfl
theorem xgo:((Tryz.prog.stops==[]))=true:=by kernel_rfl
theorem xht:((Rows.slipCheapestRow.knobs==[]))=true:=by kernel_rfl
theorem xep:((Tryz.prog.stopKnobs==[]))=true:=by kernel_rfl
theorem xhd:((Rows.slipCheapestRow.inPlace==Tryz.prog.inPlace 12))=true:=by kernel_rfl
theorem xa6:((Rows.slipCheapestRow.unfollowed==Tryz.prog.unfollowed 12))=true:=by kernel_rfl
theorem xbr:((Rows.slipCheapestRow.recurses==Tryz.prog.recurses 12))=true:=by kernel_rfl
theorem xb3:((Rows.slipCheapestRow.named==Tryz.prog.varsNamed 12))=true:=by kernel_rfl
theorem xb2:((Rows.slipCheapestRow.maps==(Tryz.f12.params.toList++Rows.slipCheapestSpec.plain.varTypes Tryz.prog).any (Tryz.prog.mapsRec ·)))=true:=by kernel_rfl
theorem xao:((Rows.slipCheapestRow.ifaces==(Tryz.f12.params.toList++Rows.slipCheapestSpec.plain.varTypes Tryz.prog).any (Tryz.prog.ifacesRec ·)))=true:=by kernel_rfl
theorem xdf:((Rows.slipCheapestRow.mapsOut==Tryz.prog.mapsAmong Tryz.f12.resultTypes.toList))=true:=by kernel_rfl
theorem xdc:((Rows.slipCheapestRow.loops==(Tryz.f12.params.toList++Rows.slipCheapestSpec.plain.varTypes Tryz.prog).any (Tryz.prog.loopsFrom ·)))=true:=by kernel_rfl
theorem xbk:((Rows.slipCheapestRow.wideKeys==(Tryz.f12.params.toList++Rows.slipCheapestSpec.plain.varTypes Tryz.prog++Tryz.f12.resultTypes.toList).any (Tryz.prog.wideKeysFrom ·)))=true:=by kernel_rfl
theorem xbv:(Rows.slipCheapestSpec.vars.all (Tryz.prog.varReadable ·))=true:=by kernel_rfl
theorem xa1:(Tryz.f12.resultTypes.all (fun t=>Tryz.prog.readableRec t&&decide (t<Tryz.prog.types.size)))=true:=by kernel_rfl
theorem xcz:((Rows.slipCheapestRow.ifacesOut==Tryz.f12.resultTypes.toList.any (Tryz.prog.ifacesRec ·)))=true:=by kernel_rfl
theorem xcs:((Rows.slipCheapestRow.loopsOut==Tryz.f12.resultTypes.toList.any (Tryz.prog.loopsFrom ·)))=true:=by kernel_rfl
theorem xbg:((Rows.slipCheapestRow.plainKeys==Tryz.prog.plainKeys))=true:=by kernel_rfl
theorem xc9:(Rows.slipCheapestRow.shortTexts.isNone)=true:=by kernel_rfl
theorem xbx:(Tryz.prog.stopsHeard)=true:=by kernel_rfl
theorem xar:(Tryz.prog.mayEnter)=true:=by kernel_rfl
theorem xbo:((Rows.slipCheapestRow.lifted==Tryz.prog.liftsFinal))=true:=by kernel_rfl
theorem xc4:((Tryz.prog.make==some Rows.slipCheapestRow.make))=true:=by kernel_rfl
theorem xcj:((Rows.slipCheapestRow.kinds==(if Rows.slipCheapestRow.domain.isEmpty then [] else Tryz.f12.params.toList.map fun t=>match Tryz.prog.underlying t with|some (.int k)=>some k|_=>none)))=true:=by kernel_rfl
theorem xa7:((Rows.slipCheapestRow.pinned==Rows.slipCheapestRow.pinnedBy))=true:=by kernel_rfl
theorem xda:((Rows.slipCheapestRow.veiled==(Tryz.f12.params.toList++Rows.slipCheapestSpec.plain.varTypes Tryz.prog++Tryz.f12.resultTypes.toList).any (Tryz.prog.veiledRec ·)))=true:=by kernel_rfl
theorem z9x:(Rows.slipCheapestRow.veiledFits Tryz.prog Tryz.f12.params.toList (Tryz.f12.params.toList++Rows.slipCheapestSpec.plain.varTypes Tryz.prog++Tryz.f12.resultTypes.toList))=true:=by kernel_rfl
theorem zo3:joinedFacts Tryz.prog 12 Tryz.f12 Rows.slipCheapestSpec Rows.slipCheapestRow=true:=ml (ml (ml (ml (ml (ml (ml (ml (ml (ml (ml (ml (ml (ml (ml (ml (ml (ml (ml (ml (ml (ml (ml (ml (ml (ml (ml (ml (ml (ml (ml (xfs) xhz) xid) xgd) xjs) xie) xgo) xht) xep) xhd) xa6) xbr) xb3) xb2) xao) xdf) xdc) xbk) xbv) xa1) xcz) xcs) xbg) xc9) xbx) xar) xbo) xc4) xcj) xa7) xda) z9x
end Go.Am.Sl
end
