/-
 What is used in the proof of a statement (part SlZ); no condition.
-/
import Derived.Test.YthnmgbgmlhackaaGreatDoorVm2
set_option linter.all false
set_option maxHeartbeats 40000000
set_option maxRecDepth 100000
section
namespace Go.Am.Sl
open Go Go.Am Go.Proofs
theorem zk{p:Prop}(h:p:=by first|rfl|(simp[*];done)|(simp_all;done)):p:=h
theorem ae {p:Prop}(h:p:=by decide +kernel):p:=h
theorem eX {p:Prop}(h:p:=by simp[*]<;>first|exact⟨rfl,rfl⟩|exact rfl):p:=h
theorem iT {p:Prop}(h:p:=by simp<;>rfl):p:=h
theorem bp {p:Prop}(h:p:=by first|omega|(simp;omega)):p:=h
theorem ia {p:Prop}(h:p:=by repeat' (first|exact trivial|refine And.intro (Exists.intro _ (And.intro rfl ?_)) ?_|(refine Alt.same _ ?_;first|rfl|(simp[*];done))|exact Alt.aW _ _ (aY rfl) rfl|exact Alt.grow _ _ _ _ (aY rfl) rfl|(refine Alt.zQ _ _ _ _ _ ?_ (aY rfl) rfl;simp[*];done)|exact Alt.ptr _ _ _ (aY rfl) rfl|exact Alt.own _ _ _ _ _ (aY rfl) rfl|exact Alt.sub _ _ _ _ (aY rfl) rfl|exact Alt.bY _ _ (aY rfl) rfl|exact Alt.aI _ _|(refine Alt.oA _ _ _ ?_;simp[*];done)|exact Alt.e0 _|exact Alt.dQ aD.nil (aD.cons (Alt.ptr _ _ _ (aY rfl) rfl) aD.nil)|exact Alt.dC|exact Alt.mY _ _ _|(refine Alt.bW _ _ _ _ _ rfl rfl ?_;simp[*];done)|exact Alt.iV _ _ _ _ _ _ _ _ rfl rfl rfl|exact Alt.dS _ _ rfl rfl|(refine Alt.zR ?_;simp[*]<;>rfl)|(refine Alt.ofEq rfl ?_;simp[*];done))):p:=h
theorem ix {p:Prop}(h:p:=by repeat' (first|exact trivial|refine And.intro (And.intro (aY rfl) (Or.inr (And.intro rfl (Exists.intro _ (And.intro rfl ?_))))) ?_|refine And.intro (And.intro (aY rfl) (Or.inl (Exists.intro _ (And.intro rfl (aY rfl))))) ?_|refine And.intro (And.intro (aY rfl) (Or.inl (Exists.intro _ (And.intro (congrArg (aM.grow _) (by simp[*])) (aY rfl))))) ?_|rfl|exact aD.nil|(refine congrArg (aM.grow _) ?_;simp[*];done)|(refine congrArg aM.map ?_;simp[*];done)|(refine congrArg (aM.arr _ _) ?_;simp[*];done)|refine sM.mk rfl rfl rfl rfl rfl ?_|refine And.intro (Exists.intro _ (And.intro rfl ?_)) ?_|refine aD.cons ?_ ?_|(refine Alt.same _ ?_;first|rfl|(simp[*];done))|exact Alt.aW _ _ (aY rfl) rfl|exact Alt.grow _ _ _ _ (aY rfl) rfl|(refine Alt.zQ _ _ _ _ _ ?_ (aY rfl) rfl;simp[*];done)|exact Alt.ptr _ _ _ (aY rfl) rfl|exact Alt.own _ _ _ _ _ (aY rfl) rfl|exact Alt.sub _ _ _ _ (aY rfl) rfl|exact Alt.bY _ _ (aY rfl) rfl|exact Alt.aI _ _|(refine Alt.oA _ _ _ ?_;simp[*];done)|exact Alt.e0 _|exact Alt.dQ aD.nil (aD.cons (Alt.ptr _ _ _ (aY rfl) rfl) aD.nil)|exact Alt.dC|exact Alt.mY _ _ _|(refine Alt.bW _ _ _ _ _ rfl rfl ?_;simp[*];done)|exact Alt.iV _ _ _ _ _ _ _ _ rfl rfl rfl|exact Alt.dS _ _ rfl rfl|(refine Alt.zR ?_;simp[*]<;>rfl)|(refine Alt.ofEq rfl ?_;simp[*];done))):p:=h
theorem dO {p:Prop}(h:p:=by first|decide +kernel|exact rfl):p:=h
theorem HQ {p:Prop}(h:p:=by repeat' (first|exact trivial|exact trivial|refine mi.xI ?_|refine And.intro (Exists.intro _ (And.intro rfl ?_)) ?_|exact ia)):p:=h
theorem HR {p:Prop}(h:p:=by repeat' (first|exact trivial|exact trivial|refine mi.xI ?_|refine And.intro (And.intro (aY rfl) (Or.inr (And.intro rfl (Exists.intro _ (And.intro rfl ?_))))) ?_|refine And.intro (And.intro (aY rfl) (Or.inl (Exists.intro _ (And.intro rfl (aY rfl))))) ?_|refine And.intro (And.intro (aY rfl) (Or.inl (Exists.intro _ (And.intro (congrArg (aM.grow _) (by simp[*])) (aY rfl))))) ?_|refine sM.mk rfl rfl rfl rfl rfl ?_|refine And.intro (Exists.intro _ (And.intro rfl ?_)) ?_|refine aD.cons ?_ ?_|exact ix)):p:=h
theorem tn {p:Prop}(h:p:=by repeat' (first|exact trivial|exact trivial|refine mi.xI ?_|exact Alt.dQ aD.nil (aD.cons (Alt.ptr _ _ _ (aY rfl) rfl) (aD.cons (Alt.ptr _ _ _ (aY rfl) rfl) aD.nil))|refine And.intro (Exists.intro _ (And.intro rfl ?_)) ?_|exact ia)):p:=h
theorem jX {p:Prop}(h:p:=by repeat' (first|exact trivial|exact trivial|refine mi.xI ?_|exact Alt.dQ aD.nil (aD.cons (Alt.ptr _ _ _ (aY rfl) rfl) (aD.cons (Alt.ptr _ _ _ (aY rfl) rfl) aD.nil))|refine And.intro (And.intro (aY rfl) (Or.inr (And.intro rfl (Exists.intro _ (And.intro rfl ?_))))) ?_|refine And.intro (And.intro (aY rfl) (Or.inl (Exists.intro _ (And.intro rfl (aY rfl))))) ?_|refine And.intro (And.intro (aY rfl) (Or.inl (Exists.intro _ (And.intro (congrArg (aM.grow _) (by simp[*])) (aY rfl))))) ?_|refine sM.mk rfl rfl rfl rfl rfl ?_|refine And.intro (Exists.intro _ (And.intro rfl ?_)) ?_|refine aD.cons ?_ ?_|exact ix)):p:=h
theorem fB {p:Prop}(h:p:=by repeat' (first|exact jv.nil _|refine jv.cons rfl ?_|(refine jv.cons ?_ ?_;· (simp[*];done)))):p:=h
theorem bR {p:Prop}(h:p:=by repeat' (first|exact bN.refl _|exact bN.nil _|refine bN.cons rfl ?_|(refine bN.cons ?_ ?_;· (first|rfl|(simp[*];done)|(simp[*]<;>rfl)))|(refine bN.skip ?_ ?_;· (simp[*];done)))):p:=h
theorem Ej {p:Prop}(h:p:=by repeat' (first|exact wK.nil _|refine wK.cons rfl (by first|assumption|(simp[*];done)) ?_)):p:=h
theorem lq {p:Prop}(h:p:=by repeat' (first|exact jZ.refl _ _|exact jZ.nil _ _|refine jZ.gV rfl ?_|(refine jZ.gV ?_ ?_;· (first|(simp[*];done)|(simp[*]<;>rfl)))|refine jZ.fresh (by omega) ?_)):p:=h
theorem If {p:Prop}(h:p:=by repeat' (first|exact trivial|exact trivial|exact Alt.dQ aD.nil (aD.cons (Alt.ptr _ _ _ (aY rfl) rfl) (aD.cons (Alt.ptr _ _ _ (aY rfl) rfl) aD.nil))|refine And.intro (Exists.intro _ (And.intro rfl ?_)) ?_|exact ia)):p:=h
theorem Ig {p:Prop}(h:p:=by repeat' (first|exact trivial|exact trivial|exact Alt.dQ aD.nil (aD.cons (Alt.ptr _ _ _ (aY rfl) rfl) (aD.cons (Alt.ptr _ _ _ (aY rfl) rfl) aD.nil))|refine And.intro (And.intro (aY rfl) (Or.inr (And.intro rfl (Exists.intro _ (And.intro rfl ?_))))) ?_|refine And.intro (And.intro (aY rfl) (Or.inl (Exists.intro _ (And.intro rfl (aY rfl))))) ?_|refine And.intro (And.intro (aY rfl) (Or.inl (Exists.intro _ (And.intro (congrArg (aM.grow _) (by simp[*])) (aY rfl))))) ?_|refine sM.mk rfl rfl rfl rfl rfl ?_|refine And.intro (Exists.intro _ (And.intro rfl ?_)) ?_|refine aD.cons ?_ ?_|exact ix)):p:=h
theorem Iq {p:Prop}(h:p:=by repeat' (first|exact trivial|exact trivial|exact Alt.dQ aD.nil (aD.cons (Alt.ptr _ _ _ (aY rfl) rfl) (aD.cons (Alt.ptr _ _ _ (aY rfl) rfl) (aD.cons (Alt.ptr _ _ _ (aY rfl) rfl) aD.nil)))|refine And.intro (Exists.intro _ (And.intro rfl ?_)) ?_|exact ia)):p:=h
theorem Ir {p:Prop}(h:p:=by repeat' (first|exact trivial|exact trivial|exact Alt.dQ aD.nil (aD.cons (Alt.ptr _ _ _ (aY rfl) rfl) (aD.cons (Alt.ptr _ _ _ (aY rfl) rfl) (aD.cons (Alt.ptr _ _ _ (aY rfl) rfl) aD.nil)))|refine And.intro (And.intro (aY rfl) (Or.inr (And.intro rfl (Exists.intro _ (And.intro rfl ?_))))) ?_|refine And.intro (And.intro (aY rfl) (Or.inl (Exists.intro _ (And.intro rfl (aY rfl))))) ?_|refine And.intro (And.intro (aY rfl) (Or.inl (Exists.intro _ (And.intro (congrArg (aM.grow _) (by simp[*])) (aY rfl))))) ?_|refine sM.mk rfl rfl rfl rfl rfl ?_|refine And.intro (Exists.intro _ (And.intro rfl ?_)) ?_|refine aD.cons ?_ ?_|exact ix)):p:=h
theorem O4 {p:Prop}(h:p:=by repeat' (first|exact trivial|exact Alt.dQ aD.nil (aD.cons (Alt.ptr _ _ _ (aY rfl) rfl) (aD.cons (Alt.ptr _ _ _ (aY rfl) rfl) (aD.cons (Alt.ptr _ _ _ (aY rfl) rfl) aD.nil)))|refine And.intro (Exists.intro _ (And.intro rfl ?_)) ?_|exact ia)):p:=h
theorem IA {p:Prop}(h:p:=by repeat' (first|exact trivial|exact trivial|exact Alt.iV 2 0 _ _ true 3 _ _ rfl rfl (YE (r:=[]) (by rw[List.append_nil];rfl) (Pj c.mx) (by simp))|refine And.intro (Exists.intro _ (And.intro rfl ?_)) ?_|exact ia)):p:=h
theorem IB {p:Prop}(h:p:=by repeat' (first|exact trivial|exact trivial|exact Alt.iV 2 0 _ _ true 3 _ _ rfl rfl (YE (r:=[]) (by rw[List.append_nil];rfl) (Pj c.mx) (by simp))|refine And.intro (And.intro (aY rfl) (Or.inr (And.intro rfl (Exists.intro _ (And.intro rfl ?_))))) ?_|refine And.intro (And.intro (aY rfl) (Or.inl (Exists.intro _ (And.intro rfl (aY rfl))))) ?_|refine And.intro (And.intro (aY rfl) (Or.inl (Exists.intro _ (And.intro (congrArg (aM.grow _) (by simp[*])) (aY rfl))))) ?_|refine sM.mk rfl rfl rfl rfl rfl ?_|refine And.intro (Exists.intro _ (And.intro rfl ?_)) ?_|refine aD.cons ?_ ?_|exact ix)):p:=h
theorem Pn {p:Prop}(h:p:=by repeat' (first|exact trivial|exact trivial|exact Alt.tD 2 0 _ true 2 _ _ rfl rfl (LN (r:=[]) (by rw[List.append_nil];rfl) (Pk c.g) (by simp))|refine And.intro (Exists.intro _ (And.intro rfl ?_)) ?_|exact ia)):p:=h
theorem Po {p:Prop}(h:p:=by repeat' (first|exact trivial|exact trivial|exact Alt.tD 2 0 _ true 2 _ _ rfl rfl (LN (r:=[]) (by rw[List.append_nil];rfl) (Pk c.g) (by simp))|refine And.intro (And.intro (aY rfl) (Or.inr (And.intro rfl (Exists.intro _ (And.intro rfl ?_))))) ?_|refine And.intro (And.intro (aY rfl) (Or.inl (Exists.intro _ (And.intro rfl (aY rfl))))) ?_|refine And.intro (And.intro (aY rfl) (Or.inl (Exists.intro _ (And.intro (congrArg (aM.grow _) (by simp[*])) (aY rfl))))) ?_|refine sM.mk rfl rfl rfl rfl rfl ?_|refine And.intro (Exists.intro _ (And.intro rfl ?_)) ?_|refine aD.cons ?_ ?_|exact ix)):p:=h
theorem Qb {p:Prop}(h:p:=by repeat' (first|exact trivial|exact trivial|exact VM L|refine And.intro (Exists.intro _ (And.intro rfl ?_)) ?_|exact ia)):p:=h
theorem Qc {p:Prop}(h:p:=by repeat' (first|exact trivial|exact trivial|exact VM L|refine And.intro (And.intro (aY rfl) (Or.inr (And.intro rfl (Exists.intro _ (And.intro rfl ?_))))) ?_|refine And.intro (And.intro (aY rfl) (Or.inl (Exists.intro _ (And.intro rfl (aY rfl))))) ?_|refine And.intro (And.intro (aY rfl) (Or.inl (Exists.intro _ (And.intro (congrArg (aM.grow _) (by simp[*])) (aY rfl))))) ?_|refine sM.mk rfl rfl rfl rfl rfl ?_|refine And.intro (Exists.intro _ (And.intro rfl ?_)) ?_|refine aD.cons ?_ ?_|exact ix)):p:=h
end Go.Am.Sl
namespace Go.Am
open Go Go.Proofs
section
variable [bF]
variable {P:Program} {N b:Nat} {K:a7→ai→Prop} {ab aU:a7} {vh ao:ai} {ops:Array Oper}
theorem bZ.rn (l r:List Nat)(k:bZ P N b ops K r aU ao)(hd:Ad N ops=true:=by decide +kernel)(hr:eQ P N ops l ab vh=some (aU,ao):=by simp[*]<;>first|exact⟨rfl,rfl⟩|exact rfl):bZ P N b ops K (l++r) ab vh:=.run hd hr k
theorem VW.rn {Q:jd}{id:Nat}(k:Q .normal aU ao)(hd:Ad N ops=true:=by decide +kernel)(hr:eQ P N ops (List.range ops.size) ab vh=some (aU,ao):=by simp[*]<;>first|exact⟨rfl,rfl⟩|exact rfl):VW P N b (.region id ops false) Q ab vh:=.run hd hr k
theorem VW.sr {y:Code}{Q:jd}{id:Nat}(k:BS (VW P N b y Q) Q .normal aU ao)(hd:Ad N ops=true:=by decide +kernel)(hr:eQ P N ops (List.range ops.size) ab vh=some (aU,ao):=by simp[*]<;>first|exact⟨rfl,rfl⟩|exact rfl):VW P N b (.seq (.region id ops false) y) Q ab vh:=.seq (.run hd hr k)
theorem VW.cs {Q:jd}{c:Operand}{x y:Code}{v:Bool}(hT:v=true→VW P N b x Q ab vh)(hF:v=false→VW P N b y Q ab vh)(hc:cC ab c=some (.bool v):=by exact rfl):VW P N b (.cond c x y) Q ab vh:=.zae hc hT hF
end
end Go.Am
end
namespace Go.Am
open Go Go.Proofs
section
variable [bF]
variable {P:Program} {N b:Nat} {ab:a7} {vh:ai}
theorem cA.rx {ops:Array Oper}{W todo:List Nat}{K:a7→ai→Prop}{m:Nat}{r:List iD}{o:Oper}{v:PV}(k:cA P N b ops W K r (bif Ae o then m::jD ops todo o.dst else jD ops todo o.dst) (bP ab o.dst v) vh)(ho:ops[m]?=some o:=by rfl)(hw:ij ops o ab=some true:=by rfl)(hW:W.contains m=false:=by decide)(hr:vU o.op=true:=by rfl)(hd:iq N o.dst=true:=by decide)(hv:dH P ab vh o.op=some (v,vh):=by simp[*]<;>first|exact⟨rfl,rfl⟩|exact rfl):cA P N b ops W K (.op m::r) todo ab vh:=.rd ho hw hW hr hd hv k
end
end Go.Am
namespace Go.Am
open Go Go.Proofs
section
variable [bF]
variable {P:Program} {N b:Nat} {ab:a7} {vh:ai}
theorem bZ.pc {ops:Array Oper}{K:a7→ai→Prop}{i:Nat}{r:List Nat}{o:Oper}{fo:Operand}{args:Array Operand}{aT:Array TypeId}{f:FuncId}{xs ys l:List PV}{v:PV}(ho:ops[i]?=some o)(hw:ij ops o ab=some true)(hc:o.op=.call ⟨.value fo,args,aT⟩)(hf:cC ab fo=some (.func f xs ys))(hl:iE ab args.toList=some l)(dM:∀cs w,(callFunc f cs).run P w=.ok (.enter f cs) w)(hp:aN P f (xs++l++ys) fun r=>r=v)(k:bZ P N b ops K r (bP ab o.dst v) vh)(hd:iq N o.dst=true:=by decide)(hF:PV.aF (xs++l++ys)=true:=by first|rfl|simp[*]):bZ P N b ops K (i::r) ab vh:=.step ho hw (.pure hc hf hl dM hd hp hF fun r h=>by subst h;exact k)
theorem cA.wp {ops:Array Oper}{W todo:List Nat}{K:a7→ai→Prop}{m:Nat}{r:List iD}{o:Oper}{fo:Operand}{args:Array Operand}{aT:Array TypeId}{f:FuncId}{xs ys l:List PV}{v:PV}(ho:ops[m]?=some o)(hw:ij ops o ab=some true)(hc:o.op=.call ⟨.value fo,args,aT⟩)(hf:cC ab fo=some (.func f xs ys))(hl:iE ab args.toList=some l)(dM:∀cs w,(callFunc f cs).run P w=.ok (.enter f cs) w)(hp:aN P f (xs++l++ys) fun r=>r=v)(k:cA P N b ops W K r (jD ops todo o.dst) (bP ab o.dst v) vh)(hW:W.contains m=true:=by decide)(hd:iq N o.dst=true:=by decide)(hF:PV.aF (xs++l++ys)=true:=by first|rfl|simp[*]):cA P N b ops W K (.op m::r) todo ab vh:=.wr ho hw hW (.pure hc hf hl dM hd hp hF fun r h=>by subst h;exact k)
theorem cA.ux {ops:Array Oper}{W todo:List Nat}{K:a7→ai→Prop}{m:Nat}{r:List iD}{o:Oper}(k:cA P N b ops W K r (jD ops todo o.dst) (bP ab o.dst (.bx [])) vh)(ho:ops[m]?=some o:=by rfl)(hw:ij ops o ab=some false:=by rfl)(hd:iq N o.dst=true:=by decide):cA P N b ops W K (.op m::r) todo ab vh:=.un ho hw hd k
theorem cA.wv {ops:Array Oper}{W todo:List Nat}{K:a7→ai→Prop}{m:Nat}{r:List iD}{o:Oper}{v:PV}{ao:ai}(k:cA P N b ops W K r (bif Hc o.op then jD ops todo o.dst else []) (bP ab o.dst v) ao)(ho:ops[m]?=some o:=by rfl)(hw:ij ops o ab=some true:=by rfl)(hW:W.contains m=true:=by decide)(hv:dH P ab vh o.op=some (v,ao):=by simp[*]<;>first|exact⟨rfl,rfl⟩|exact rfl)(hd:iq N o.dst=true:=by decide):cA P N b ops W K (.op m::r) todo ab vh:=.wr ho hw hW (.dH hv hd k)
theorem ko.rf {ops:Array Oper}{ms:List Nat}{W As todo:List Nat}{K:a7→ai→Prop}{m:Nat}{r:List iD}{o:Oper}{cW:List (Nat×Nat)}{Ar:List Nat}{v:PV}(k:ko P N b ops ms W As K r (bif Ae o&&cW.isEmpty then m::jD ops todo o.dst else jD ops todo o.dst) cW Ar (bP ab o.dst v) vh)(ho:ops[m]?=some o:=by rfl)(hw:ij ops o ab=some true:=by rfl)(hW:W.contains m=false:=by decide)(hA:Ar.contains m=false:=by decide)(xN:As.contains m=false:=by decide)(hr:vU o.op=true:=by rfl)(hd:iq N o.dst=true:=by decide)(hv:dH P ab (gI (cS ms m cW) vh) o.op=some (v,gI (cS ms m cW) vh):=by simp[*]<;>first|exact⟨rfl,rfl⟩|exact rfl):ko P N b ops ms W As K (.op m::r) todo cW Ar ab vh:=.rd ho hw hW hA xN hr hd hv k
theorem fA (k:Nat)(h:k<4611686018427387904:=by omega):IntKind.i64.wrap ((k:Int)+1)=(k:Int)+1:=wrap64 (by omega) (by omega)
end
end Go.Am
namespace Go.Am
theorem lE {b:Bool}(h:(!b)=true):b=false:=by simpa using h
theorem lF {b:Bool}(h:(!b)=false):b=true:=by simpa using h
end Go.Am
namespace Go.Am
open Go Go.Proofs
section
variable [bF]
theorem bn {b:Nat}{ab aA:a7}{vh aV:ai}(ht:oL ab vh aV.next (fun i=>([]:List Nat).contains i) (wz []) aA:=by exact ia)(ho:tV vh aV.next (fun i=>([]:List Nat).contains i) (wz []) aV.bq:=by exact ix)(hi:xZ (wz []) (aV.bq.map (·.1))=true:=by rfl)(hb:Rw b (wz [])=true:=by rfl)(hn:Nat.ble b aV.next=true:=by rfl):Rec b ab vh aA aV:=.mk [] [] ht ho hi hb hn
theorem au {P:Program}{fn:Func}{R:PV→Prop}{ab:a7}{vh:ai}{l:List PV}{v:PV}(h:R v)(h1:lh P ab vh fn.results.toList=some l:=by exact iT)(h2:bI vh (l9 l)=some v:=by exact iT):gY P fn R .ret ab vh:=⟨l,v,h1,h2,h⟩
end
end Go.Am
namespace Go.Am
open Go
@[reducible] def rF:List Nat:=[0,1,2,3,4,5,6,7,8]
@[reducible] def eD:List Nat:=[0,1,2,3]
@[reducible] def kg:List Nat:=[0,1,2,3,4,5]
@[reducible] def gQ:List Nat:=[0,1,2,3,4]
@[reducible] def jq:List Nat:=[0,1,2,3,4,5,6,7,8,9,10,11,12]
@[reducible] def HD:List Nat:=[0,1,2,3,4,5,6,7,8,9,10,11,12,13,14,15,16,17,18,19,20,21,22,23,24,25,26,27]
@[reducible] def ik:List Nat:=[0,1,2,3,4,5,6]
@[reducible] def HF:List Nat:=[0,1,2,3,4,5,6,7,8,9,10,11,12,13,14,15]
@[reducible] def fM:List Nat:=[0,1,2,3,4,5,6,7,8,9]
@[reducible] def xD:List Nat:=[0,1,2,3,4,5,6,7,8,9,10,11]
@[reducible] def qc:List Nat:=[0,1,2,3,4,5,6,7,8,9,10,11,12,13,14,15,16,17]
@[reducible] def H4:List Nat:=[0,1,2,3,4,5,6,7,8,9,10,11,12,13,14,15,16,17,18,19,20,21]
@[reducible] def mC:List Nat:=[0,1,2,3,4,5,6,7]
@[reducible] def Jf:List Nat:=[0,1,2,3,4,5,6,7,8,9,10,11,12,13,14,15,16,17,18]
@[reducible] def TJ:List iD:=[.op 0,.op 1,.op 2,.op 3,.op 4,.op 5,.op 6,.op 7,.op 8,.op 9,.op 10,.op 11,.op 12,.op 13,.op 14,.op 15,.op 16,.op 17,.op 18,.op 19,.op 20,.op 21,.op 22,.op 23]
@[reducible] def zG:List iD:=[.op 0,.op 1,.op 2,.op 3,.op 4,.op 5,.op 6,.op 7,.op 8,.op 9,.op 10,.op 11,.op 12,.op 13]
@[reducible] def DZ:List iD:=[.op 0,.op 1,.op 2,.op 3,.op 4,.op 5,.op 6,.op 7,.op 8]
@[reducible] def HL:List iD:=[.op 0,.op 1,.op 2,.op 3,.op 4,.op 5,.op 6,.op 7,.op 8,.op 9,.op 10,.op 11,.op 12,.op 13,.op 14,.op 15,.op 16,.op 17,.op 18,.op 19]
@[reducible] def Oh:List iD:=[.op 0,.op 1,.op 2,.op 3,.op 4,.op 5,.op 6,.op 7,.op 8,.op 9,.op 10,.op 11,.op 12]
@[reducible] def Oi:List iD:=[.op 0,.op 1,.op 2,.op 3,.op 4,.op 5,.op 6,.op 7,.op 8,.op 9,.op 10,.op 11,.op 12,.op 13,.op 14]
@[reducible] def F0:List iD:=[.op 0,.op 1,.op 2,.op 3,.op 4,.op 5,.op 6,.op 7,.op 8,.op 9,.op 10,.op 11,.op 12,.op 13,.op 14,.op 15,.op 16,.op 17,.op 18,.op 19,.op 20,.op 21,.op 22,.op 23,.op 24,.op 25,.op 26,.op 27,.op 28]
@[reducible] def Uj:List iD:=[.op 0,.op 1,.op 2,.ck 0,.op 3,.op 4,.op 5]
@[reducible] def Vd:List iD:=[.op 0,.op 1,.op 3,.op 4,.op 6,.op 7,.op 2,.ck 7,.ck 4,.op 9,.op 5,.ck 7,.op 8,.op 10,.op 11,.op 12,.op 13,.op 14]
@[reducible] def II:List iD:=[.op 0,.op 1,.op 2,.op 3,.op 10,.op 4,.op 5,.op 6,.op 7,.op 8,.op 9,.op 11,.op 12,.op 13,.op 14]
@[reducible] def yf:List iD:=[.op 0,.op 1,.op 2,.op 3,.op 4,.op 5,.op 6,.op 7,.op 8,.op 9,.op 10]
@[reducible] def ED:List iD:=[.op 0,.op 1,.op 2,.op 3,.op 4,.op 5,.op 6,.op 7,.op 8,.op 9,.op 10,.op 11]
@[reducible] def rX:List iD:=[.op 0,.op 1,.op 2,.op 3,.op 4,.op 6,.op 5,.op 7]
@[reducible] def Jb:List iD:=[.op 0,.op 1,.op 2,.op 3,.op 4,.op 5,.op 6,.op 7,.op 8,.op 9,.op 10,.op 11,.ck 2,.ck 0,.op 12]
@[reducible] def Jo:List iD:=[.op 0,.op 1,.op 2,.op 3,.op 4,.op 5,.op 6,.op 7,.op 8,.op 9,.op 10,.op 11,.op 12,.op 13,.op 14,.op 15,.op 16,.op 17,.op 18,.op 19,.op 20,.op 21,.op 22,.op 23,.op 24,.op 25,.op 26,.op 27,.op 28,.op 29,.op 30,.op 31,.op 32,.op 33,.op 34,.op 35,.op 36,.op 37,.op 38,.op 39,.op 40,.op 41,.op 42,.op 43,.op 44,.op 45,.op 46,.op 47]
end Go.Am
