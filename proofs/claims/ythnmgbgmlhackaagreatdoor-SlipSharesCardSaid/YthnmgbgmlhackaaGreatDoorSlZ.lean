/-
 What is used in the proof of a statement (part SlZ); no condition.
-/
import Derived.Test.YthnmgbgmlhackaaGreatDoorVm2
set_option linter.all false
set_option maxHeartbeats 40000000
set_option maxRecDepth 100000
section
namespace Go.Am.Sl
open Go Go.Am Go.Proofs
theorem zk{p:Prop}(h:p:=by first|rfl|(simp[*];done)|(simp_all;done)):p:=h
theorem af {p:Prop}(h:p:=by decide +kernel):p:=h
theorem fh {p:Prop}(h:p:=by simp[*]<;>first|exact⟨rfl,rfl⟩|exact rfl):p:=h
theorem gj {p:Prop}(h:p:=by simp<;>rfl):p:=h
theorem bt {p:Prop}(h:p:=by first|omega|(simp;omega)):p:=h
theorem gK {p:Prop}(h:p:=by repeat' (first|exact trivial|refine And.intro (Exists.intro _ (And.intro rfl ?_)) ?_|(refine Alt.same _ ?_;first|rfl|(simp[*];done))|exact Alt.aY _ _ (aS rfl) rfl|exact Alt.grow _ _ _ _ (aS rfl) rfl|(refine Alt.xE _ _ _ _ _ ?_ (aS rfl) rfl;simp[*];done)|exact Alt.ptr _ _ _ (aS rfl) rfl|exact Alt.own _ _ _ _ _ (aS rfl) rfl|exact Alt.sub _ _ _ _ (aS rfl) rfl|exact Alt.bN _ _ (aS rfl) rfl|exact Alt.aF _ _|(refine Alt.mD _ _ _ ?_;simp[*];done)|exact Alt.e0 _|exact Alt.dv aA.nil (aA.cons (Alt.ptr _ _ _ (aS rfl) rfl) aA.nil)|exact Alt.dJ|exact Alt.lK _ _ _|(refine Alt.bJ _ _ _ _ _ rfl rfl ?_;simp[*];done)|exact Alt.gM _ _ _ _ _ _ _ _ rfl rfl rfl|exact Alt.dz _ _ rfl rfl|(refine Alt.xF ?_;simp[*]<;>rfl)|(refine Alt.ofEq rfl ?_;simp[*];done))):p:=h
theorem il {p:Prop}(h:p:=by repeat' (first|exact trivial|refine And.intro (And.intro (aS rfl) (Or.inr (And.intro rfl (Exists.intro _ (And.intro rfl ?_))))) ?_|refine And.intro (And.intro (aS rfl) (Or.inl (Exists.intro _ (And.intro rfl (aS rfl))))) ?_|refine And.intro (And.intro (aS rfl) (Or.inl (Exists.intro _ (And.intro (congrArg (aI.grow _) (by simp[*])) (aS rfl))))) ?_|rfl|exact aA.nil|(refine congrArg (aI.grow _) ?_;simp[*];done)|(refine congrArg aI.map ?_;simp[*];done)|(refine congrArg (aI.arr _ _) ?_;simp[*];done)|refine pY.mk rfl rfl rfl rfl rfl ?_|refine And.intro (Exists.intro _ (And.intro rfl ?_)) ?_|refine aA.cons ?_ ?_|(refine Alt.same _ ?_;first|rfl|(simp[*];done))|exact Alt.aY _ _ (aS rfl) rfl|exact Alt.grow _ _ _ _ (aS rfl) rfl|(refine Alt.xE _ _ _ _ _ ?_ (aS rfl) rfl;simp[*];done)|exact Alt.ptr _ _ _ (aS rfl) rfl|exact Alt.own _ _ _ _ _ (aS rfl) rfl|exact Alt.sub _ _ _ _ (aS rfl) rfl|exact Alt.bN _ _ (aS rfl) rfl|exact Alt.aF _ _|(refine Alt.mD _ _ _ ?_;simp[*];done)|exact Alt.e0 _|exact Alt.dv aA.nil (aA.cons (Alt.ptr _ _ _ (aS rfl) rfl) aA.nil)|exact Alt.dJ|exact Alt.lK _ _ _|(refine Alt.bJ _ _ _ _ _ rfl rfl ?_;simp[*];done)|exact Alt.gM _ _ _ _ _ _ _ _ rfl rfl rfl|exact Alt.dz _ _ rfl rfl|(refine Alt.xF ?_;simp[*]<;>rfl)|(refine Alt.ofEq rfl ?_;simp[*];done))):p:=h
theorem eM {p:Prop}(h:p:=by first|decide +kernel|exact rfl):p:=h
theorem Fo {p:Prop}(h:p:=by repeat' (first|exact trivial|exact trivial|refine kf.vw ?_|refine And.intro (Exists.intro _ (And.intro rfl ?_)) ?_|exact gK)):p:=h
theorem Fp {p:Prop}(h:p:=by repeat' (first|exact trivial|exact trivial|refine kf.vw ?_|refine And.intro (And.intro (aS rfl) (Or.inr (And.intro rfl (Exists.intro _ (And.intro rfl ?_))))) ?_|refine And.intro (And.intro (aS rfl) (Or.inl (Exists.intro _ (And.intro rfl (aS rfl))))) ?_|refine And.intro (And.intro (aS rfl) (Or.inl (Exists.intro _ (And.intro (congrArg (aI.grow _) (by simp[*])) (aS rfl))))) ?_|refine pY.mk rfl rfl rfl rfl rfl ?_|refine And.intro (Exists.intro _ (And.intro rfl ?_)) ?_|refine aA.cons ?_ ?_|exact il)):p:=h
theorem qT {p:Prop}(h:p:=by repeat' (first|exact trivial|exact trivial|refine kf.vw ?_|exact Alt.dv aA.nil (aA.cons (Alt.ptr _ _ _ (aS rfl) rfl) (aA.cons (Alt.ptr _ _ _ (aS rfl) rfl) aA.nil))|refine And.intro (Exists.intro _ (And.intro rfl ?_)) ?_|exact gK)):p:=h
theorem ji {p:Prop}(h:p:=by repeat' (first|exact trivial|exact trivial|refine kf.vw ?_|exact Alt.dv aA.nil (aA.cons (Alt.ptr _ _ _ (aS rfl) rfl) (aA.cons (Alt.ptr _ _ _ (aS rfl) rfl) aA.nil))|refine And.intro (And.intro (aS rfl) (Or.inr (And.intro rfl (Exists.intro _ (And.intro rfl ?_))))) ?_|refine And.intro (And.intro (aS rfl) (Or.inl (Exists.intro _ (And.intro rfl (aS rfl))))) ?_|refine And.intro (And.intro (aS rfl) (Or.inl (Exists.intro _ (And.intro (congrArg (aI.grow _) (by simp[*])) (aS rfl))))) ?_|refine pY.mk rfl rfl rfl rfl rfl ?_|refine And.intro (Exists.intro _ (And.intro rfl ?_)) ?_|refine aA.cons ?_ ?_|exact il)):p:=h
theorem eN {p:Prop}(h:p:=by repeat' (first|exact ir.nil _|refine ir.cons rfl ?_|(refine ir.cons ?_ ?_;· (simp[*];done)))):p:=h
theorem bG {p:Prop}(h:p:=by repeat' (first|exact bD.refl _|exact bD.nil _|refine bD.cons rfl ?_|(refine bD.cons ?_ ?_;· (first|rfl|(simp[*];done)|(simp[*]<;>rfl)))|(refine bD.skip ?_ ?_;· (simp[*];done)))):p:=h
theorem B3 {p:Prop}(h:p:=by repeat' (first|exact uC.nil _|refine uC.cons rfl (by first|assumption|(simp[*];done)) ?_)):p:=h
theorem kI {p:Prop}(h:p:=by repeat' (first|exact jj.refl _ _|exact jj.nil _ _|refine jj.fR rfl ?_|(refine jj.fR ?_ ?_;· (first|(simp[*];done)|(simp[*]<;>rfl)))|refine jj.fresh (by omega) ?_)):p:=h
theorem FN {p:Prop}(h:p:=by repeat' (first|exact trivial|exact trivial|exact Alt.dv aA.nil (aA.cons (Alt.ptr _ _ _ (aS rfl) rfl) (aA.cons (Alt.ptr _ _ _ (aS rfl) rfl) aA.nil))|refine And.intro (Exists.intro _ (And.intro rfl ?_)) ?_|exact gK)):p:=h
theorem FP {p:Prop}(h:p:=by repeat' (first|exact trivial|exact trivial|exact Alt.dv aA.nil (aA.cons (Alt.ptr _ _ _ (aS rfl) rfl) (aA.cons (Alt.ptr _ _ _ (aS rfl) rfl) aA.nil))|refine And.intro (And.intro (aS rfl) (Or.inr (And.intro rfl (Exists.intro _ (And.intro rfl ?_))))) ?_|refine And.intro (And.intro (aS rfl) (Or.inl (Exists.intro _ (And.intro rfl (aS rfl))))) ?_|refine And.intro (And.intro (aS rfl) (Or.inl (Exists.intro _ (And.intro (congrArg (aI.grow _) (by simp[*])) (aS rfl))))) ?_|refine pY.mk rfl rfl rfl rfl rfl ?_|refine And.intro (Exists.intro _ (And.intro rfl ?_)) ?_|refine aA.cons ?_ ?_|exact il)):p:=h
theorem FY {p:Prop}(h:p:=by repeat' (first|exact trivial|exact trivial|exact Alt.dv aA.nil (aA.cons (Alt.ptr _ _ _ (aS rfl) rfl) (aA.cons (Alt.ptr _ _ _ (aS rfl) rfl) (aA.cons (Alt.ptr _ _ _ (aS rfl) rfl) aA.nil)))|refine And.intro (Exists.intro _ (And.intro rfl ?_)) ?_|exact gK)):p:=h
theorem FZ {p:Prop}(h:p:=by repeat' (first|exact trivial|exact trivial|exact Alt.dv aA.nil (aA.cons (Alt.ptr _ _ _ (aS rfl) rfl) (aA.cons (Alt.ptr _ _ _ (aS rfl) rfl) (aA.cons (Alt.ptr _ _ _ (aS rfl) rfl) aA.nil)))|refine And.intro (And.intro (aS rfl) (Or.inr (And.intro rfl (Exists.intro _ (And.intro rfl ?_))))) ?_|refine And.intro (And.intro (aS rfl) (Or.inl (Exists.intro _ (And.intro rfl (aS rfl))))) ?_|refine And.intro (And.intro (aS rfl) (Or.inl (Exists.intro _ (And.intro (congrArg (aI.grow _) (by simp[*])) (aS rfl))))) ?_|refine pY.mk rfl rfl rfl rfl rfl ?_|refine And.intro (Exists.intro _ (And.intro rfl ?_)) ?_|refine aA.cons ?_ ?_|exact il)):p:=h
theorem LJ {p:Prop}(h:p:=by repeat' (first|exact trivial|exact Alt.dv aA.nil (aA.cons (Alt.ptr _ _ _ (aS rfl) rfl) (aA.cons (Alt.ptr _ _ _ (aS rfl) rfl) (aA.cons (Alt.ptr _ _ _ (aS rfl) rfl) aA.nil)))|refine And.intro (Exists.intro _ (And.intro rfl ?_)) ?_|exact gK)):p:=h
theorem F6 {p:Prop}(h:p:=by repeat' (first|exact trivial|exact trivial|exact Alt.gM 2 0 _ _ true 3 _ _ rfl rfl (Ub (r:=[]) (by rw[List.append_nil];rfl) (LW c.mx) (by simp))|refine And.intro (Exists.intro _ (And.intro rfl ?_)) ?_|exact gK)):p:=h
theorem F7 {p:Prop}(h:p:=by repeat' (first|exact trivial|exact trivial|exact Alt.gM 2 0 _ _ true 3 _ _ rfl rfl (Ub (r:=[]) (by rw[List.append_nil];rfl) (LW c.mx) (by simp))|refine And.intro (And.intro (aS rfl) (Or.inr (And.intro rfl (Exists.intro _ (And.intro rfl ?_))))) ?_|refine And.intro (And.intro (aS rfl) (Or.inl (Exists.intro _ (And.intro rfl (aS rfl))))) ?_|refine And.intro (And.intro (aS rfl) (Or.inl (Exists.intro _ (And.intro (congrArg (aI.grow _) (by simp[*])) (aS rfl))))) ?_|refine pY.mk rfl rfl rfl rfl rfl ?_|refine And.intro (Exists.intro _ (And.intro rfl ?_)) ?_|refine aA.cons ?_ ?_|exact il)):p:=h
theorem L3 {p:Prop}(h:p:=by repeat' (first|exact trivial|exact trivial|exact Alt.q8 2 0 _ true 2 _ _ rfl rfl (Gd (r:=[]) (by rw[List.append_nil];rfl) (LX c.g) (by simp))|refine And.intro (Exists.intro _ (And.intro rfl ?_)) ?_|exact gK)):p:=h
theorem L4 {p:Prop}(h:p:=by repeat' (first|exact trivial|exact trivial|exact Alt.q8 2 0 _ true 2 _ _ rfl rfl (Gd (r:=[]) (by rw[List.append_nil];rfl) (LX c.g) (by simp))|refine And.intro (And.intro (aS rfl) (Or.inr (And.intro rfl (Exists.intro _ (And.intro rfl ?_))))) ?_|refine And.intro (And.intro (aS rfl) (Or.inl (Exists.intro _ (And.intro rfl (aS rfl))))) ?_|refine And.intro (And.intro (aS rfl) (Or.inl (Exists.intro _ (And.intro (congrArg (aI.grow _) (by simp[*])) (aS rfl))))) ?_|refine pY.mk rfl rfl rfl rfl rfl ?_|refine And.intro (Exists.intro _ (And.intro rfl ?_)) ?_|refine aA.cons ?_ ?_|exact il)):p:=h
theorem MN {p:Prop}(h:p:=by repeat' (first|exact trivial|exact trivial|exact RX L|refine And.intro (Exists.intro _ (And.intro rfl ?_)) ?_|exact gK)):p:=h
theorem MO {p:Prop}(h:p:=by repeat' (first|exact trivial|exact trivial|exact RX L|refine And.intro (And.intro (aS rfl) (Or.inr (And.intro rfl (Exists.intro _ (And.intro rfl ?_))))) ?_|refine And.intro (And.intro (aS rfl) (Or.inl (Exists.intro _ (And.intro rfl (aS rfl))))) ?_|refine And.intro (And.intro (aS rfl) (Or.inl (Exists.intro _ (And.intro (congrArg (aI.grow _) (by simp[*])) (aS rfl))))) ?_|refine pY.mk rfl rfl rfl rfl rfl ?_|refine And.intro (Exists.intro _ (And.intro rfl ?_)) ?_|refine aA.cons ?_ ?_|exact il)):p:=h
end Go.Am.Sl
namespace Go.Am
open Go Go.Proofs
section
variable [bE]
variable {P:Program} {N b:Nat} {K:aW→ah→Prop} {ab aP:aW} {vh ak:ah} {ops:Array Oper}
theorem bO.rn (l r:List Nat)(k:bO P N b ops K r aP ak)(hd:xO N ops=true:=by decide +kernel)(hr:fx P N ops l ab vh=some (aP,ak):=by simp[*]<;>first|exact⟨rfl,rfl⟩|exact rfl):bO P N b ops K (l++r) ab vh:=.run hd hr k
theorem VW.rn {Q:gV}{id:Nat}(k:Q .normal aP ak)(hd:xO N ops=true:=by decide +kernel)(hr:fx P N ops (List.range ops.size) ab vh=some (aP,ak):=by simp[*]<;>first|exact⟨rfl,rfl⟩|exact rfl):VW P N b (.region id ops false) Q ab vh:=.run hd hr k
theorem VW.sr {y:Code}{Q:gV}{id:Nat}(k:zt (VW P N b y Q) Q .normal aP ak)(hd:xO N ops=true:=by decide +kernel)(hr:fx P N ops (List.range ops.size) ab vh=some (aP,ak):=by simp[*]<;>first|exact⟨rfl,rfl⟩|exact rfl):VW P N b (.seq (.region id ops false) y) Q ab vh:=.seq (.run hd hr k)
theorem VW.cs {Q:gV}{c:Operand}{x y:Code}{v:Bool}(hT:v=true→VW P N b x Q ab vh)(hF:v=false→VW P N b y Q ab vh)(hc:cF ab c=some (.bool v):=by exact rfl):VW P N b (.cond c x y) Q ab vh:=.zae hc hT hF
end
end Go.Am
end
namespace Go.Am
open Go Go.Proofs
section
variable [bE]
variable {P:Program} {N b:Nat} {ab:aW} {vh:ah}
theorem cr.rx {ops:Array Oper}{W todo:List Nat}{K:aW→ah→Prop}{m:Nat}{r:List gT}{o:Oper}{v:PV}(k:cr P N b ops W K r (bif xP o then m::iB ops todo o.dst else iB ops todo o.dst) (bU ab o.dst v) vh)(ho:ops[m]?=some o:=by rfl)(hw:ie ops o ab=some true:=by rfl)(hW:W.contains m=false:=by decide)(hr:tR o.op=true:=by rfl)(hd:gr N o.dst=true:=by decide)(hv:dS P ab vh o.op=some (v,vh):=by simp[*]<;>first|exact⟨rfl,rfl⟩|exact rfl):cr P N b ops W K (.op m::r) todo ab vh:=.rd ho hw hW hr hd hv k
end
end Go.Am
namespace Go.Am
open Go Go.Proofs
section
variable [bE]
variable {P:Program} {N b:Nat} {ab:aW} {vh:ah}
theorem bO.pc {ops:Array Oper}{K:aW→ah→Prop}{i:Nat}{r:List Nat}{o:Oper}{fo:Operand}{args:Array Operand}{aT:Array TypeId}{f:FuncId}{xs ys l:List PV}{v:PV}(ho:ops[i]?=some o)(hw:ie ops o ab=some true)(hc:o.op=.call ⟨.value fo,args,aT⟩)(hf:cF ab fo=some (.func f xs ys))(hl:iX ab args.toList=some l)(dM:∀cs w,(callFunc f cs).run P w=.ok (.enter f cs) w)(hp:aM P f (xs++l++ys) fun r=>r=v)(k:bO P N b ops K r (bU ab o.dst v) vh)(hd:gr N o.dst=true:=by decide)(hF:PV.aG (xs++l++ys)=true:=by first|rfl|simp[*]):bO P N b ops K (i::r) ab vh:=.step ho hw (.pure hc hf hl dM hd hp hF fun r h=>by subst h;exact k)
theorem cr.wp {ops:Array Oper}{W todo:List Nat}{K:aW→ah→Prop}{m:Nat}{r:List gT}{o:Oper}{fo:Operand}{args:Array Operand}{aT:Array TypeId}{f:FuncId}{xs ys l:List PV}{v:PV}(ho:ops[m]?=some o)(hw:ie ops o ab=some true)(hc:o.op=.call ⟨.value fo,args,aT⟩)(hf:cF ab fo=some (.func f xs ys))(hl:iX ab args.toList=some l)(dM:∀cs w,(callFunc f cs).run P w=.ok (.enter f cs) w)(hp:aM P f (xs++l++ys) fun r=>r=v)(k:cr P N b ops W K r (iB ops todo o.dst) (bU ab o.dst v) vh)(hW:W.contains m=true:=by decide)(hd:gr N o.dst=true:=by decide)(hF:PV.aG (xs++l++ys)=true:=by first|rfl|simp[*]):cr P N b ops W K (.op m::r) todo ab vh:=.wr ho hw hW (.pure hc hf hl dM hd hp hF fun r h=>by subst h;exact k)
theorem cr.ux {ops:Array Oper}{W todo:List Nat}{K:aW→ah→Prop}{m:Nat}{r:List gT}{o:Oper}(k:cr P N b ops W K r (iB ops todo o.dst) (bU ab o.dst (.bp [])) vh)(ho:ops[m]?=some o:=by rfl)(hw:ie ops o ab=some false:=by rfl)(hd:gr N o.dst=true:=by decide):cr P N b ops W K (.op m::r) todo ab vh:=.un ho hw hd k
theorem cr.wv {ops:Array Oper}{W todo:List Nat}{K:aW→ah→Prop}{m:Nat}{r:List gT}{o:Oper}{v:PV}{ak:ah}(k:cr P N b ops W K r (bif EJ o.op then iB ops todo o.dst else []) (bU ab o.dst v) ak)(ho:ops[m]?=some o:=by rfl)(hw:ie ops o ab=some true:=by rfl)(hW:W.contains m=true:=by decide)(hv:dS P ab vh o.op=some (v,ak):=by simp[*]<;>first|exact⟨rfl,rfl⟩|exact rfl)(hd:gr N o.dst=true:=by decide):cr P N b ops W K (.op m::r) todo ab vh:=.wr ho hw hW (.dS hv hd k)
theorem jz.rf {ops:Array Oper}{ms:List Nat}{W As todo:List Nat}{K:aW→ah→Prop}{m:Nat}{r:List gT}{o:Oper}{cG:List (Nat×Nat)}{Ar:List Nat}{v:PV}(k:jz P N b ops ms W As K r (bif xP o&&cG.isEmpty then m::iB ops todo o.dst else iB ops todo o.dst) cG Ar (bU ab o.dst v) vh)(ho:ops[m]?=some o:=by rfl)(hw:ie ops o ab=some true:=by rfl)(hW:W.contains m=false:=by decide)(hA:Ar.contains m=false:=by decide)(BZ:As.contains m=false:=by decide)(hr:tR o.op=true:=by rfl)(hd:gr N o.dst=true:=by decide)(hv:dS P ab (gx (de ms m cG) vh) o.op=some (v,gx (de ms m cG) vh):=by simp[*]<;>first|exact⟨rfl,rfl⟩|exact rfl):jz P N b ops ms W As K (.op m::r) todo cG Ar ab vh:=.rd ho hw hW hA BZ hr hd hv k
theorem fy (k:Nat)(h:k<4611686018427387904:=by omega):IntKind.i64.wrap ((k:Int)+1)=(k:Int)+1:=wrap64 (by omega) (by omega)
end
end Go.Am
namespace Go.Am
theorem km {b:Bool}(h:(!b)=true):b=false:=by simpa using h
theorem ko {b:Bool}(h:(!b)=false):b=true:=by simpa using h
end Go.Am
namespace Go.Am
open Go Go.Proofs
section
variable [bE]
theorem bx {b:Nat}{ab ay:aW}{vh aQ:ah}(ht:mH ab vh aQ.next (fun i=>([]:List Nat).contains i) (uq []) ay:=by exact gK)(ho:rz vh aQ.next (fun i=>([]:List Nat).contains i) (uq []) aQ.be:=by exact il)(hi:vJ (uq []) (aQ.be.map (·.1))=true:=by rfl)(hb:ND b (uq [])=true:=by rfl)(hn:Nat.ble b aQ.next=true:=by rfl):Rec b ab vh ay aQ:=.mk [] [] ht ho hi hb hn
theorem aH {P:Program}{fn:Func}{R:PV→Prop}{ab:aW}{vh:ah}{l:List PV}{v:PV}(h:R v)(h1:ma P ab vh fn.results.toList=some l:=by exact gj)(h2:bz vh (mX l)=some v:=by exact gj):jc P fn R .ret ab vh:=⟨l,v,h1,h2,h⟩
end
end Go.Am
namespace Go.Am
open Go
@[reducible] def qJ:List Nat:=[0,1,2,3,4,5,6,7,8]
@[reducible] def dU:List Nat:=[0,1,2,3]
@[reducible] def jR:List Nat:=[0,1,2,3,4,5]
@[reducible] def gy:List Nat:=[0,1,2,3,4]
@[reducible] def j5:List Nat:=[0,1,2,3,4,5,6,7,8,9,10,11,12]
@[reducible] def E9:List Nat:=[0,1,2,3,4,5,6,7,8,9,10,11,12,13,14,15,16,17,18,19,20,21,22,23,24,25,26,27]
@[reducible] def iJ:List Nat:=[0,1,2,3,4,5,6]
@[reducible] def Fb:List Nat:=[0,1,2,3,4,5,6,7,8,9,10,11,12,13,14,15]
@[reducible] def ij:List Nat:=[0,1,2,3,4,5,6,7,8,9]
@[reducible] def yJ:List Nat:=[0,1,2,3,4,5,6,7,8,9,10,11]
@[reducible] def nJ:List Nat:=[0,1,2,3,4,5,6,7,8,9,10,11,12,13,14,15,16,17]
@[reducible] def FC:List Nat:=[0,1,2,3,4,5,6,7,8,9,10,11,12,13,14,15,16,17,18,19,20,21]
@[reducible] def lF:List Nat:=[0,1,2,3,4,5,6,7]
@[reducible] def Gt:List Nat:=[0,1,2,3,4,5,6,7,8,9,10,11,12,13,14,15,16]
@[reducible] def PZ:List gT:=[.op 0,.op 1,.op 2,.op 3,.op 4,.op 5,.op 6,.op 7,.op 8,.op 9,.op 10,.op 11,.op 12,.op 13,.op 14,.op 15,.op 16,.op 17,.op 18,.op 19,.op 20,.op 21,.op 22,.op 23]
@[reducible] def xr:List gT:=[.op 0,.op 1,.op 2,.op 3,.op 4,.op 5,.op 6,.op 7,.op 8,.op 9,.op 10,.op 11,.op 12,.op 13]
@[reducible] def Dt:List gT:=[.op 0,.op 1,.op 2,.op 3,.op 4,.op 5,.op 6,.op 7,.op 8]
@[reducible] def Fj:List gT:=[.op 0,.op 1,.op 2,.op 3,.op 4,.op 5,.op 6,.op 7,.op 8,.op 9,.op 10,.op 11,.op 12,.op 13,.op 14,.op 15,.op 16,.op 17,.op 18,.op 19]
@[reducible] def P1:List gT:=[.op 0,.op 1,.op 2,.op 3,.op 4,.op 5,.op 6,.op 7,.op 8,.op 9,.op 10,.op 11,.op 12]
@[reducible] def P5:List gT:=[.op 0,.op 1,.op 2,.op 3,.op 4,.op 5,.op 6,.op 7,.op 8,.op 9,.op 10,.op 11,.op 12,.op 13,.op 14]
@[reducible] def Dy:List gT:=[.op 0,.op 1,.op 2,.op 3,.op 4,.op 5,.op 6,.op 7,.op 8,.op 9,.op 10,.op 11,.op 12,.op 13,.op 14,.op 15,.op 16,.op 17,.op 18,.op 19,.op 20,.op 21,.op 22,.op 23,.op 24,.op 25,.op 26,.op 27,.op 28]
@[reducible] def Rk:List gT:=[.op 0,.op 1,.op 3,.op 4,.op 6,.op 7,.op 2,.ck 7,.ck 4,.op 9,.op 5,.ck 7,.op 8,.op 10,.op 11,.op 12,.op 13,.op 14]
@[reducible] def Ru:List gT:=[.op 0,.op 1,.op 2,.op 3,.op 10,.op 4,.op 5,.op 6,.op 7,.op 8,.op 9,.op 11,.op 12,.op 13,.op 14]
@[reducible] def y3:List gT:=[.op 0,.op 1,.op 2,.op 3,.op 4,.op 5,.op 6,.op 7,.op 8,.op 9,.op 10]
@[reducible] def Cn:List gT:=[.op 0,.op 1,.op 2,.op 3,.op 4,.op 5,.op 6,.op 7,.op 8,.op 9,.op 10,.op 11]
@[reducible] def pj:List gT:=[.op 0,.op 1,.op 2,.op 3,.op 4,.op 6,.op 5,.op 7]
@[reducible] def GJ:List gT:=[.op 0,.op 1,.op 2,.op 3,.op 4,.op 5,.op 6,.op 7,.op 8,.op 9]
end Go.Am
