/-
 What is used in the proof of a statement (part SlZ); no condition.
-/
import Derived.Test.YthnmgbgmlhackaaGreatDoorVm2
set_option linter.all false
set_option maxHeartbeats 40000000
set_option maxRecDepth 100000
section
namespace Go.Am.Sl
open Go Go.Am Go.Proofs
theorem zk{p:Prop}(h:p:=by first|rfl|(simp[*];done)|(simp_all;done)):p:=h
theorem ae {p:Prop}(h:p:=by decide +kernel):p:=h
theorem iq {p:Prop}(h:p:=by simp[*]<;>first|exact⟨rfl,rfl⟩|exact rfl):p:=h
theorem jF {p:Prop}(h:p:=by simp<;>rfl):p:=h
theorem ba {p:Prop}(h:p:=by first|omega|(simp;omega)):p:=h
theorem gH {p:Prop}(h:p:=by repeat' (first|exact trivial|refine And.intro (Exists.intro _ (And.intro rfl ?_)) ?_|(refine Alt.same _ ?_;first|rfl|(simp[*];done))|exact Alt.a6 _ _ (bc rfl) rfl|exact Alt.grow _ _ _ _ (bc rfl) rfl|(refine Alt.A4 _ _ _ _ _ ?_ (bc rfl) rfl;simp[*];done)|exact Alt.ptr _ _ _ (bc rfl) rfl|exact Alt.own _ _ _ _ _ (bc rfl) rfl|exact Alt.sub _ _ _ _ (bc rfl) rfl|exact Alt.cm _ _ (bc rfl) rfl|exact Alt.aJ _ _|(refine Alt.qE _ _ _ ?_;simp[*];done)|exact Alt.e0 _|exact Alt.eO aK.nil (aK.cons (Alt.ptr _ _ _ (bc rfl) rfl) aK.nil)|exact Alt.eH|exact Alt.pH _ _ _|(refine Alt.b9 _ _ _ _ _ rfl rfl ?_;simp[*];done)|exact Alt.ki _ _ _ _ _ _ _ _ rfl rfl rfl|exact Alt.eP _ _ rfl rfl|(refine Alt.A5 ?_;simp[*]<;>rfl)|(refine Alt.ofEq rfl ?_;simp[*];done))):p:=h
theorem gY {p:Prop}(h:p:=by repeat' (first|exact trivial|refine And.intro (And.intro (bc rfl) (Or.inr (And.intro rfl (Exists.intro _ (And.intro rfl ?_))))) ?_|refine And.intro (And.intro (bc rfl) (Or.inl (Exists.intro _ (And.intro rfl (bc rfl))))) ?_|refine And.intro (And.intro (bc rfl) (Or.inl (Exists.intro _ (And.intro (congrArg (aO.grow _) (by simp[*])) (bc rfl))))) ?_|rfl|exact aK.nil|(refine congrArg (aO.grow _) ?_;simp[*];done)|(refine congrArg aO.map ?_;simp[*];done)|(refine congrArg (aO.arr _ _) ?_;simp[*];done)|refine uc.mk rfl rfl rfl rfl rfl ?_|refine And.intro (Exists.intro _ (And.intro rfl ?_)) ?_|refine aK.cons ?_ ?_|(refine Alt.same _ ?_;first|rfl|(simp[*];done))|exact Alt.a6 _ _ (bc rfl) rfl|exact Alt.grow _ _ _ _ (bc rfl) rfl|(refine Alt.A4 _ _ _ _ _ ?_ (bc rfl) rfl;simp[*];done)|exact Alt.ptr _ _ _ (bc rfl) rfl|exact Alt.own _ _ _ _ _ (bc rfl) rfl|exact Alt.sub _ _ _ _ (bc rfl) rfl|exact Alt.cm _ _ (bc rfl) rfl|exact Alt.aJ _ _|(refine Alt.qE _ _ _ ?_;simp[*];done)|exact Alt.e0 _|exact Alt.eO aK.nil (aK.cons (Alt.ptr _ _ _ (bc rfl) rfl) aK.nil)|exact Alt.eH|exact Alt.pH _ _ _|(refine Alt.b9 _ _ _ _ _ rfl rfl ?_;simp[*];done)|exact Alt.ki _ _ _ _ _ _ _ _ rfl rfl rfl|exact Alt.eP _ _ rfl rfl|(refine Alt.A5 ?_;simp[*]<;>rfl)|(refine Alt.ofEq rfl ?_;simp[*];done))):p:=h
theorem eQ {p:Prop}(h:p:=by first|decide +kernel|exact rfl):p:=h
theorem Jt {p:Prop}(h:p:=by repeat' (first|exact trivial|exact trivial|refine oH.yZ ?_|refine And.intro (Exists.intro _ (And.intro rfl ?_)) ?_|exact gH)):p:=h
theorem Ju {p:Prop}(h:p:=by repeat' (first|exact trivial|exact trivial|refine oH.yZ ?_|refine And.intro (And.intro (bc rfl) (Or.inr (And.intro rfl (Exists.intro _ (And.intro rfl ?_))))) ?_|refine And.intro (And.intro (bc rfl) (Or.inl (Exists.intro _ (And.intro rfl (bc rfl))))) ?_|refine And.intro (And.intro (bc rfl) (Or.inl (Exists.intro _ (And.intro (congrArg (aO.grow _) (by simp[*])) (bc rfl))))) ?_|refine uc.mk rfl rfl rfl rfl rfl ?_|refine And.intro (Exists.intro _ (And.intro rfl ?_)) ?_|refine aK.cons ?_ ?_|exact gY)):p:=h
theorem uU {p:Prop}(h:p:=by repeat' (first|exact trivial|exact trivial|refine oH.yZ ?_|exact Alt.eO aK.nil (aK.cons (Alt.ptr _ _ _ (bc rfl) rfl) (aK.cons (Alt.ptr _ _ _ (bc rfl) rfl) aK.nil))|refine And.intro (Exists.intro _ (And.intro rfl ?_)) ?_|exact gH)):p:=h
theorem mc {p:Prop}(h:p:=by repeat' (first|exact trivial|exact trivial|refine oH.yZ ?_|exact Alt.eO aK.nil (aK.cons (Alt.ptr _ _ _ (bc rfl) rfl) (aK.cons (Alt.ptr _ _ _ (bc rfl) rfl) aK.nil))|refine And.intro (And.intro (bc rfl) (Or.inr (And.intro rfl (Exists.intro _ (And.intro rfl ?_))))) ?_|refine And.intro (And.intro (bc rfl) (Or.inl (Exists.intro _ (And.intro rfl (bc rfl))))) ?_|refine And.intro (And.intro (bc rfl) (Or.inl (Exists.intro _ (And.intro (congrArg (aO.grow _) (by simp[*])) (bc rfl))))) ?_|refine uc.mk rfl rfl rfl rfl rfl ?_|refine And.intro (Exists.intro _ (And.intro rfl ?_)) ?_|refine aK.cons ?_ ?_|exact gY)):p:=h
theorem gF {p:Prop}(h:p:=by repeat' (first|exact lF.nil _|refine lF.cons rfl ?_|(refine lF.cons ?_ ?_;· (simp[*];done)))):p:=h
theorem bU {p:Prop}(h:p:=by repeat' (first|exact bV.refl _|exact bV.nil _|refine bV.cons rfl ?_|(refine bV.cons ?_ ?_;· (first|rfl|(simp[*];done)|(simp[*]<;>rfl)))|(refine bV.skip ?_ ?_;· (simp[*];done)))):p:=h
theorem FG {p:Prop}(h:p:=by repeat' (first|exact yc.nil _|refine yc.cons rfl (by first|assumption|(simp[*];done)) ?_)):p:=h
theorem mY {p:Prop}(h:p:=by repeat' (first|exact me.refl _ _|exact me.nil _ _|refine me.jg rfl ?_|(refine me.jg ?_ ?_;· (first|(simp[*];done)|(simp[*]<;>rfl)))|refine me.fresh (by omega) ?_)):p:=h
theorem JQ {p:Prop}(h:p:=by repeat' (first|exact trivial|exact trivial|exact Alt.eO aK.nil (aK.cons (Alt.ptr _ _ _ (bc rfl) rfl) (aK.cons (Alt.ptr _ _ _ (bc rfl) rfl) aK.nil))|refine And.intro (Exists.intro _ (And.intro rfl ?_)) ?_|exact gH)):p:=h
theorem JR {p:Prop}(h:p:=by repeat' (first|exact trivial|exact trivial|exact Alt.eO aK.nil (aK.cons (Alt.ptr _ _ _ (bc rfl) rfl) (aK.cons (Alt.ptr _ _ _ (bc rfl) rfl) aK.nil))|refine And.intro (And.intro (bc rfl) (Or.inr (And.intro rfl (Exists.intro _ (And.intro rfl ?_))))) ?_|refine And.intro (And.intro (bc rfl) (Or.inl (Exists.intro _ (And.intro rfl (bc rfl))))) ?_|refine And.intro (And.intro (bc rfl) (Or.inl (Exists.intro _ (And.intro (congrArg (aO.grow _) (by simp[*])) (bc rfl))))) ?_|refine uc.mk rfl rfl rfl rfl rfl ?_|refine And.intro (Exists.intro _ (And.intro rfl ?_)) ?_|refine aK.cons ?_ ?_|exact gY)):p:=h
theorem J9 {p:Prop}(h:p:=by repeat' (first|exact trivial|exact trivial|exact Alt.eO aK.nil (aK.cons (Alt.ptr _ _ _ (bc rfl) rfl) (aK.cons (Alt.ptr _ _ _ (bc rfl) rfl) (aK.cons (Alt.ptr _ _ _ (bc rfl) rfl) aK.nil)))|refine And.intro (Exists.intro _ (And.intro rfl ?_)) ?_|exact gH)):p:=h
theorem Ka {p:Prop}(h:p:=by repeat' (first|exact trivial|exact trivial|exact Alt.eO aK.nil (aK.cons (Alt.ptr _ _ _ (bc rfl) rfl) (aK.cons (Alt.ptr _ _ _ (bc rfl) rfl) (aK.cons (Alt.ptr _ _ _ (bc rfl) rfl) aK.nil)))|refine And.intro (And.intro (bc rfl) (Or.inr (And.intro rfl (Exists.intro _ (And.intro rfl ?_))))) ?_|refine And.intro (And.intro (bc rfl) (Or.inl (Exists.intro _ (And.intro rfl (bc rfl))))) ?_|refine And.intro (And.intro (bc rfl) (Or.inl (Exists.intro _ (And.intro (congrArg (aO.grow _) (by simp[*])) (bc rfl))))) ?_|refine uc.mk rfl rfl rfl rfl rfl ?_|refine And.intro (Exists.intro _ (And.intro rfl ?_)) ?_|refine aK.cons ?_ ?_|exact gY)):p:=h
theorem QQ {p:Prop}(h:p:=by repeat' (first|exact trivial|exact Alt.eO aK.nil (aK.cons (Alt.ptr _ _ _ (bc rfl) rfl) (aK.cons (Alt.ptr _ _ _ (bc rfl) rfl) (aK.cons (Alt.ptr _ _ _ (bc rfl) rfl) aK.nil)))|refine And.intro (Exists.intro _ (And.intro rfl ?_)) ?_|exact gH)):p:=h
theorem Kk {p:Prop}(h:p:=by repeat' (first|exact trivial|exact trivial|exact Alt.ki 2 0 _ _ true 3 _ _ rfl rfl (zj4 (r:=[]) (by rw[List.append_nil];rfl) (Rc c.mx) (by simp))|refine And.intro (Exists.intro _ (And.intro rfl ?_)) ?_|exact gH)):p:=h
theorem Kl {p:Prop}(h:p:=by repeat' (first|exact trivial|exact trivial|exact Alt.ki 2 0 _ _ true 3 _ _ rfl rfl (zj4 (r:=[]) (by rw[List.append_nil];rfl) (Rc c.mx) (by simp))|refine And.intro (And.intro (bc rfl) (Or.inr (And.intro rfl (Exists.intro _ (And.intro rfl ?_))))) ?_|refine And.intro (And.intro (bc rfl) (Or.inl (Exists.intro _ (And.intro rfl (bc rfl))))) ?_|refine And.intro (And.intro (bc rfl) (Or.inl (Exists.intro _ (And.intro (congrArg (aO.grow _) (by simp[*])) (bc rfl))))) ?_|refine uc.mk rfl rfl rfl rfl rfl ?_|refine And.intro (Exists.intro _ (And.intro rfl ?_)) ?_|refine aK.cons ?_ ?_|exact gY)):p:=h
theorem Rh {p:Prop}(h:p:=by repeat' (first|exact trivial|exact trivial|exact Alt.u5 2 0 _ true 2 _ _ rfl rfl (Nw (r:=[]) (by rw[List.append_nil];rfl) (Re c.g) (by simp))|refine And.intro (Exists.intro _ (And.intro rfl ?_)) ?_|exact gH)):p:=h
theorem Ri {p:Prop}(h:p:=by repeat' (first|exact trivial|exact trivial|exact Alt.u5 2 0 _ true 2 _ _ rfl rfl (Nw (r:=[]) (by rw[List.append_nil];rfl) (Re c.g) (by simp))|refine And.intro (And.intro (bc rfl) (Or.inr (And.intro rfl (Exists.intro _ (And.intro rfl ?_))))) ?_|refine And.intro (And.intro (bc rfl) (Or.inl (Exists.intro _ (And.intro rfl (bc rfl))))) ?_|refine And.intro (And.intro (bc rfl) (Or.inl (Exists.intro _ (And.intro (congrArg (aO.grow _) (by simp[*])) (bc rfl))))) ?_|refine uc.mk rfl rfl rfl rfl rfl ?_|refine And.intro (Exists.intro _ (And.intro rfl ?_)) ?_|refine aK.cons ?_ ?_|exact gY)):p:=h
theorem RZ {p:Prop}(h:p:=by repeat' (first|exact trivial|exact trivial|exact XM L|refine And.intro (Exists.intro _ (And.intro rfl ?_)) ?_|exact gH)):p:=h
theorem R0 {p:Prop}(h:p:=by repeat' (first|exact trivial|exact trivial|exact XM L|refine And.intro (And.intro (bc rfl) (Or.inr (And.intro rfl (Exists.intro _ (And.intro rfl ?_))))) ?_|refine And.intro (And.intro (bc rfl) (Or.inl (Exists.intro _ (And.intro rfl (bc rfl))))) ?_|refine And.intro (And.intro (bc rfl) (Or.inl (Exists.intro _ (And.intro (congrArg (aO.grow _) (by simp[*])) (bc rfl))))) ?_|refine uc.mk rfl rfl rfl rfl rfl ?_|refine And.intro (Exists.intro _ (And.intro rfl ?_)) ?_|refine aK.cons ?_ ?_|exact gY)):p:=h
end Go.Am.Sl
namespace Go.Am
open Go Go.Proofs
section
variable [bE]
variable {P:Program} {N b:Nat} {K:bf→af→Prop} {ah aY:bf} {vh aq:af} {ops:Array Oper}
theorem cq.rn (l r:List Nat)(k:cq P N b ops K r aY aq)(hd:Bn N ops=true:=by decide +kernel)(hr:de P N ops l ah vh=some (aY,aq):=by simp[*]<;>first|exact⟨rfl,rfl⟩|exact rfl):cq P N b ops K (l++r) ah vh:=.run hd hr k
theorem VW.rn {Q:kU}{id:Nat}(k:Q .normal aY aq)(hd:Bn N ops=true:=by decide +kernel)(hr:de P N ops (List.range ops.size) ah vh=some (aY,aq):=by simp[*]<;>first|exact⟨rfl,rfl⟩|exact rfl):VW P N b (.region id ops false) Q ah vh:=.run hd hr k
theorem VW.sr {y:Code}{Q:kU}{id:Nat}(k:C0 (VW P N b y Q) Q .normal aY aq)(hd:Bn N ops=true:=by decide +kernel)(hr:de P N ops (List.range ops.size) ah vh=some (aY,aq):=by simp[*]<;>first|exact⟨rfl,rfl⟩|exact rfl):VW P N b (.seq (.region id ops false) y) Q ah vh:=.seq (.run hd hr k)
theorem VW.cs {Q:kU}{c:Operand}{x y:Code}{v:Bool}(hT:v=true→VW P N b x Q ah vh)(hF:v=false→VW P N b y Q ah vh)(hc:ct ah c=some (.bool v):=by exact rfl):VW P N b (.cond c x y) Q ah vh:=.zad hc hT hF
end
end Go.Am
end
namespace Go.Am
open Go Go.Proofs
section
variable [bE]
variable {P:Program} {N b:Nat} {ah:bf} {vh:af}
theorem cA.rx {ops:Array Oper}{W todo:List Nat}{K:bf→af→Prop}{m:Nat}{r:List jo}{o:Oper}{v:PV}(k:cA P N b ops W K r (bif Bo o then m::kZ ops todo o.dst else kZ ops todo o.dst) (bA ah o.dst v) vh)(ho:ops[m]?=some o:=by rfl)(hw:fQ ops o ah=some true:=by rfl)(hW:W.contains m=false:=by decide)(hr:xH o.op=true:=by rfl)(hd:jH N o.dst=true:=by decide)(hv:dz P ah vh o.op=some (v,vh):=by simp[*]<;>first|exact⟨rfl,rfl⟩|exact rfl):cA P N b ops W K (.op m::r) todo ah vh:=.rd ho hw hW hr hd hv k
end
end Go.Am
namespace Go.Am
open Go Go.Proofs
section
variable [bE]
variable {P:Program} {N b:Nat} {ah:bf} {vh:af}
theorem cq.pc {ops:Array Oper}{K:bf→af→Prop}{i:Nat}{r:List Nat}{o:Oper}{fo:Operand}{args:Array Operand}{aT:Array TypeId}{f:FuncId}{xs ys l:List PV}{v:PV}(ho:ops[i]?=some o)(hw:fQ ops o ah=some true)(hc:o.op=.call ⟨.value fo,args,aT⟩)(hf:ct ah fo=some (.func f xs ys))(hl:gf ah args.toList=some l)(eD:∀cs w,(callFunc f cs).run P w=.ok (.enter f cs) w)(hp:aI P f (xs++l++ys) fun r=>r=v)(k:cq P N b ops K r (bA ah o.dst v) vh)(hd:jH N o.dst=true:=by decide)(hF:PV.az (xs++l++ys)=true:=by first|rfl|simp[*]):cq P N b ops K (i::r) ah vh:=.step ho hw (.pure hc hf hl eD hd hp hF fun r h=>by subst h;exact k)
theorem cA.wp {ops:Array Oper}{W todo:List Nat}{K:bf→af→Prop}{m:Nat}{r:List jo}{o:Oper}{fo:Operand}{args:Array Operand}{aT:Array TypeId}{f:FuncId}{xs ys l:List PV}{v:PV}(ho:ops[m]?=some o)(hw:fQ ops o ah=some true)(hc:o.op=.call ⟨.value fo,args,aT⟩)(hf:ct ah fo=some (.func f xs ys))(hl:gf ah args.toList=some l)(eD:∀cs w,(callFunc f cs).run P w=.ok (.enter f cs) w)(hp:aI P f (xs++l++ys) fun r=>r=v)(k:cA P N b ops W K r (kZ ops todo o.dst) (bA ah o.dst v) vh)(hW:W.contains m=true:=by decide)(hd:jH N o.dst=true:=by decide)(hF:PV.az (xs++l++ys)=true:=by first|rfl|simp[*]):cA P N b ops W K (.op m::r) todo ah vh:=.wr ho hw hW (.pure hc hf hl eD hd hp hF fun r h=>by subst h;exact k)
theorem cA.ux {ops:Array Oper}{W todo:List Nat}{K:bf→af→Prop}{m:Nat}{r:List jo}{o:Oper}(k:cA P N b ops W K r (kZ ops todo o.dst) (bA ah o.dst (.bz [])) vh)(ho:ops[m]?=some o:=by rfl)(hw:fQ ops o ah=some false:=by rfl)(hd:jH N o.dst=true:=by decide):cA P N b ops W K (.op m::r) todo ah vh:=.un ho hw hd k
theorem cA.wv {ops:Array Oper}{W todo:List Nat}{K:bf→af→Prop}{m:Nat}{r:List jo}{o:Oper}{v:PV}{aq:af}(k:cA P N b ops W K r (bif IL o.op then kZ ops todo o.dst else []) (bA ah o.dst v) aq)(ho:ops[m]?=some o:=by rfl)(hw:fQ ops o ah=some true:=by rfl)(hW:W.contains m=true:=by decide)(hv:dz P ah vh o.op=some (v,aq):=by simp[*]<;>first|exact⟨rfl,rfl⟩|exact rfl)(hd:jH N o.dst=true:=by decide):cA P N b ops W K (.op m::r) todo ah vh:=.wr ho hw hW (.dz hv hd k)
theorem mL.rf {ops:Array Oper}{ms:List Nat}{W As todo:List Nat}{K:bf→af→Prop}{m:Nat}{r:List jo}{o:Oper}{dE:List (Nat×Nat)}{Ar:List Nat}{v:PV}(k:mL P N b ops ms W As K r (bif Bo o&&dE.isEmpty then m::kZ ops todo o.dst else kZ ops todo o.dst) dE Ar (bA ah o.dst v) vh)(ho:ops[m]?=some o:=by rfl)(hw:fQ ops o ah=some true:=by rfl)(hW:W.contains m=false:=by decide)(hA:Ar.contains m=false:=by decide)(FC:As.contains m=false:=by decide)(hr:xH o.op=true:=by rfl)(hd:jH N o.dst=true:=by decide)(hv:dz P ah (fJ (b6 ms m dE) vh) o.op=some (v,fJ (b6 ms m dE) vh):=by simp[*]<;>first|exact⟨rfl,rfl⟩|exact rfl):mL P N b ops ms W As K (.op m::r) todo dE Ar ah vh:=.rd ho hw hW hA FC hr hd hv k
theorem iQ (k:Nat)(h:k<4611686018427387904:=by omega):IntKind.i64.wrap ((k:Int)+1)=(k:Int)+1:=wrap64 (by omega) (by omega)
end
end Go.Am
namespace Go.Am
theorem nW {b:Bool}(h:(!b)=true):b=false:=by simpa using h
theorem nX {b:Bool}(h:(!b)=false):b=true:=by simpa using h
end Go.Am
namespace Go.Am
open Go Go.Proofs
section
variable [bE]
theorem aX {b:Nat}{ah aF:bf}{vh aZ:af}(ht:qP ah vh aZ.next (fun i=>([]:List Nat).contains i) (xX []) aF:=by exact gH)(ho:vu vh aZ.next (fun i=>([]:List Nat).contains i) (xX []) aZ.br:=by exact gY)(hi:zd (xX []) (aZ.br.map (·.1))=true:=by rfl)(hb:Tv b (xX [])=true:=by rfl)(hn:Nat.ble b aZ.next=true:=by rfl):Rec b ah vh aF aZ:=.mk [] [] ht ho hi hb hn
theorem ax {P:Program}{fn:Func}{R:PV→Prop}{ah:bf}{vh:af}{l:List PV}{v:PV}(h:R v)(h1:iP P ah vh fn.results.toList=some l:=by exact jF)(h2:bI vh (jr l)=some v:=by exact jF):eu P fn R .ret ah vh:=⟨l,v,h1,h2,h⟩
end
end Go.Am
namespace Go.Am
open Go
@[reducible] def oT:List Nat:=[0,1,2,3,4,5,6,7,8]
@[reducible] def dQ:List Nat:=[0,1,2,3]
@[reducible] def kS:List Nat:=[0,1,2,3,4,5]
@[reducible] def fR:List Nat:=[0,1,2,3,4]
@[reducible] def kf:List Nat:=[0,1,2,3,4,5,6,7,8,9,10,11,12]
@[reducible] def Je:List Nat:=[0,1,2,3,4,5,6,7,8,9,10,11,12,13,14,15,16,17,18,19,20,21,22,23,24,25,26,27]
@[reducible] def gT:List Nat:=[0,1,2,3,4,5,6]
@[reducible] def B2:List Nat:=[0,1,2,3,4,5,6,7,8,9,10,11,12,13,14,15]
@[reducible] def gh:List Nat:=[0,1,2,3,4,5,6,7,8,9]
@[reducible] def Jh:List Nat:=[0,1,2,3,4,5,6,7,8,9,10,11,12,13,14,15,16,17,18,19]
@[reducible] def qz:List Nat:=[0,1,2,3,4,5,6,7,8,9,10,11]
@[reducible] def qB:List Nat:=[0,1,2,3,4,5,6,7,8,9,10,11,12,13,14,15,16,17]
@[reducible] def JC:List Nat:=[0,1,2,3,4,5,6,7,8,9,10,11,12,13,14,15,16,17,18,19,20,21]
@[reducible] def js:List Nat:=[0,1,2,3,4,5,6,7]
@[reducible] def KJ:List Nat:=[0,1,2,3,4,5,6,7,8,9,10,11,12,13,14,15,16]
@[reducible] def KO:List Nat:=[0,1,2,3,4,5,6,7,8,9,10,11,12,13,14,15,16,17,18,19,20,21,22,23,24,25,26,27,28,29,30,31,32,33,34,35,36,37]
@[reducible] def K3:List Nat:=[0,1,2,3,4,5,6,7,8,9,10,11,12,13,14,15,16,17,18,19,20,21,22,23]
@[reducible] def Lj:List Nat:=[0,1,2,3,4,5,6,7,8,9,10,11,12,13,14,15,16,17,18,19,20,21,22,23,24,25,26,27,28,29,30,31,32,33,34,35,36,37,38,39,40,41]
@[reducible] def VA:List jo:=[.op 0,.op 1,.op 2,.op 3,.op 4,.op 5,.op 6,.op 7,.op 8,.op 9,.op 10,.op 11,.op 12,.op 13,.op 14,.op 15,.op 16,.op 17,.op 18,.op 19,.op 20,.op 21,.op 22,.op 23]
@[reducible] def xO:List jo:=[.op 0,.op 1,.op 2,.op 3,.op 4,.op 5,.op 6,.op 7,.op 8,.op 9,.op 10,.op 11,.op 12,.op 13]
@[reducible] def VB:List jo:=[.op 0,.op 1,.op 2,.op 3,.op 4,.op 5,.op 6,.op 7,.op 8,.op 9,.op 10,.op 11,.op 12,.op 13,.op 14,.op 15,.op 16,.op 17,.op 18,.op 19,.op 20,.op 21,.op 22,.op 23,.op 24,.op 25,.op 26,.op 27,.op 28,.op 29,.op 30,.op 31,.op 32,.op 33,.op 34]
@[reducible] def Fu:List jo:=[.op 0,.op 1,.op 2,.op 3,.op 4,.op 5,.op 6,.op 7,.op 8]
@[reducible] def Hu:List jo:=[.op 0,.op 1,.op 2,.op 3,.op 4,.op 5,.op 6,.op 7,.op 8,.op 9,.op 10,.op 11,.op 12,.op 13,.op 14,.op 15,.op 16,.op 17,.op 18,.op 19]
@[reducible] def VE:List jo:=[.op 0,.op 1,.op 2,.op 3,.op 4,.op 5,.op 6,.op 7,.op 8,.op 9,.op 10,.op 11,.op 12]
@[reducible] def P4:List jo:=[.op 0,.op 1,.op 2,.op 3,.op 4,.op 5,.op 6,.op 7,.op 8,.op 9,.op 10,.op 11,.op 12,.op 13,.op 14]
@[reducible] def HC:List jo:=[.op 0,.op 1,.op 2,.op 3,.op 4,.op 5,.op 6,.op 7,.op 8,.op 9,.op 10,.op 11,.op 12,.op 13,.op 14,.op 15,.op 16,.op 17,.op 18,.op 19,.op 20,.op 21,.op 22,.op 23,.op 24,.op 25,.op 26,.op 27,.op 28]
@[reducible] def Wh:List jo:=[.op 0,.op 1,.op 2,.ck 0,.op 3,.op 4,.op 5]
@[reducible] def Km:List jo:=[.op 0,.op 1,.op 3,.op 4,.op 6,.op 7,.op 2,.ck 7,.ck 4,.op 9,.op 5,.ck 7,.op 8,.op 10,.op 11,.op 12,.op 13,.op 14]
@[reducible] def Kt:List jo:=[.op 0,.op 1,.op 2,.op 3,.op 10,.op 4,.op 5,.op 6,.op 7,.op 8,.op 9,.op 11,.op 12,.op 13,.op 14]
@[reducible] def zl:List jo:=[.op 0,.op 1,.op 2,.op 3,.op 4,.op 5,.op 6,.op 7,.op 8,.op 9,.op 10]
@[reducible] def F0:List jo:=[.op 0,.op 1,.op 2,.op 3,.op 4,.op 5,.op 6,.op 7,.op 8,.op 9,.op 10,.op 11]
@[reducible] def tA:List jo:=[.op 0,.op 1,.op 2,.op 3,.op 4,.op 6,.op 5,.op 7]
@[reducible] def Li:List jo:=[.op 0,.op 1,.op 2,.op 3,.op 4,.op 5,.op 6,.op 7,.op 8,.op 9,.op 10,.op 11,.op 12,.op 13,.op 14,.op 15,.op 16,.op 17,.op 18,.op 19,.op 20,.op 21,.op 22]
@[reducible] def Ll:List jo:=[.op 0,.op 1,.op 2,.op 3,.op 4,.op 5,.op 6,.op 7,.op 8,.op 9,.op 10,.op 11,.op 12,.op 13,.op 14,.op 15,.op 16,.op 17,.op 18,.op 19,.op 20,.op 21,.op 22,.op 23,.op 24,.op 25,.op 26,.op 27,.op 29,.op 30,.op 28,.ck 30,.ck 29,.op 31,.op 32,.op 33,.op 34]
@[reducible] def Lt:List jo:=[.op 0,.op 1,.op 2,.op 3,.op 4,.op 5,.op 6,.op 7,.op 8,.op 9,.op 10,.op 11,.op 12,.op 13,.op 14,.op 15]
end Go.Am
