/-
 What is used in the proof of a statement (part SlM4); no condition.
-/
import Derived.Test.YthnmgbgmlhackaaGreatDoorRows
import Derived.JoinedOf
import Derived.ProofKit
set_option linter.all false
section
namespace Go.Am.Sl
open Go Go.Proofs Go.Proofs.YthnmgbgmlhackaaGreatDoor
set_option maxRecDepth 100000
theorem mn {a b:Bool}(h:a=true)(g:b=true):(a&&b)=true:=by rw[h,g];rfl
theorem xlo:(Rows.slipSuresRow.wf (OpenSpec.ofChange Rows.slipSuresSpec))=true:=by kernel_rfl
theorem xk6:(laidOutB Tryz.prog)=true:=by kernel_rfl
theorem xnh:(mapsRowed Tryz.prog)=true:=by kernel_rfl
theorem xkb:(Tryz.f4.params.all (Tryz.prog.readableRec ·))=true:=by kernel_rfl
theorem xld:(namedTie Tryz.prog Rows.slipSuresRow.named Rows.slipSuresSpec.vars)=true:=by kernel_rfl
theorem xkk:((Rows.slipSuresRow.stops==[]))=true:=by kernel_rfl
theorem xlj:((Tryz.prog.stops==[]))=true:=by kernel_rfl
theorem xle:((Rows.slipSuresRow.knobs==[]))=true:=by kernel_rfl
theorem xnm:((Tryz.prog.stopKnobs==[]))=true:=by kernel_rfl
theorem xm8:((Rows.slipSuresRow.inPlace==Tryz.prog.inPlace 4))=true:=by kernel_rfl
theorem xgj:((Rows.slipSuresRow.unfollowed==Tryz.prog.unfollowed 4))=true:=by kernel_rfl
theorem xh8:((Rows.slipSuresRow.recurses==Tryz.prog.recurses 4))=true:=by kernel_rfl
theorem xhs:((Rows.slipSuresRow.named==Tryz.prog.varsNamed 4))=true:=by kernel_rfl
theorem xfc:((Rows.slipSuresRow.maps==(Tryz.f4.params.toList++Rows.slipSuresSpec.plain.varTypes Tryz.prog).any (Tryz.prog.mapsRec ·)))=true:=by kernel_rfl
theorem xg7:((Rows.slipSuresRow.ifaces==(Tryz.f4.params.toList++Rows.slipSuresSpec.plain.varTypes Tryz.prog).any (Tryz.prog.ifacesRec ·)))=true:=by kernel_rfl
theorem xer:((Rows.slipSuresRow.mapsOut==Tryz.prog.mapsAmong Tryz.f4.resultTypes.toList))=true:=by kernel_rfl
theorem xfo:((Rows.slipSuresRow.loops==(Tryz.f4.params.toList++Rows.slipSuresSpec.plain.varTypes Tryz.prog).any (Tryz.prog.loopsFrom ·)))=true:=by kernel_rfl
theorem xd9:((Rows.slipSuresRow.wideKeys==(Tryz.f4.params.toList++Rows.slipSuresSpec.plain.varTypes Tryz.prog++Tryz.f4.resultTypes.toList).any (Tryz.prog.wideKeysFrom ·)))=true:=by kernel_rfl
theorem xh7:(Rows.slipSuresSpec.vars.all (Tryz.prog.varReadable ·))=true:=by kernel_rfl
theorem xif:(Tryz.f4.resultTypes.all (fun t=>Tryz.prog.readableRec t&&decide (t<Tryz.prog.types.size)))=true:=by kernel_rfl
theorem xe9:((Rows.slipSuresRow.ifacesOut==Tryz.f4.resultTypes.toList.any (Tryz.prog.ifacesRec ·)))=true:=by kernel_rfl
theorem xgn:((Rows.slipSuresRow.loopsOut==Tryz.f4.resultTypes.toList.any (Tryz.prog.loopsFrom ·)))=true:=by kernel_rfl
theorem xhm:((Rows.slipSuresRow.plainKeys==Tryz.prog.plainKeys))=true:=by kernel_rfl
theorem xhf:(Rows.slipSuresRow.shortTexts.isNone)=true:=by kernel_rfl
theorem xhi:(Tryz.prog.stopsHeard)=true:=by kernel_rfl
theorem xfl:(Tryz.prog.mayEnter)=true:=by kernel_rfl
theorem xi0:((Rows.slipSuresRow.lifted==Tryz.prog.liftsFinal))=true:=by kernel_rfl
theorem xhp:((Tryz.prog.make==some Rows.slipSuresRow.make))=true:=by kernel_rfl
theorem xha:((Rows.slipSuresRow.kinds==(if Rows.slipSuresRow.domain.isEmpty then [] else Tryz.f4.params.toList.map fun t=>match Tryz.prog.underlying t with|some (.int k)=>some k|_=>none)))=true:=by kernel_rfl
theorem xfp:((Rows.slipSuresRow.pinned==Rows.slipSuresRow.pinnedBy))=true:=by kernel_rfl
theorem xfg:((Rows.slipSuresRow.veiled==(Tryz.f4.params.toList++Rows.slipSuresSpec.plain.varTypes Tryz.prog++Tryz.f4.resultTypes.toList).any (Tryz.prog.veiledRec ·)))=true:=by kernel_rfl
theorem xec:(Rows.slipSuresRow.veiledFits Tryz.prog Tryz.f4.params.toList (Tryz.f4.params.toList++Rows.slipSuresSpec.plain.varTypes Tryz.prog++Tryz.f4.resultTypes.toList))=true:=by kernel_rfl
theorem zvu:joinedFacts Tryz.prog 4 Tryz.f4 Rows.slipSuresSpec Rows.slipSuresRow=true:=mn (mn (mn (mn (mn (mn (mn (mn (mn (mn (mn (mn (mn (mn (mn (mn (mn (mn (mn (mn (mn (mn (mn (mn (mn (mn (mn (mn (mn (mn (mn (xlo) xk6) xnh) xkb) xld) xkk) xlj) xle) xnm) xm8) xgj) xh8) xhs) xfc) xg7) xer) xfo) xd9) xh7) xif) xe9) xgn) xhm) xhf) xhi) xfl) xi0) xhp) xha) xfp) xfg) xec
end Go.Am.Sl
end
