/-
 What is used in the proof of a statement (part SlZ); no condition.
-/
import Derived.Test.YthnmgbgmlhackaaGreatDoorVm2
set_option linter.all false
set_option maxHeartbeats 40000000
set_option maxRecDepth 100000
section
namespace Go.Am.Sl
open Go Go.Am Go.Proofs
theorem zk{p:Prop}(h:p:=by first|rfl|(simp[*];done)|(simp_all;done)):p:=h
theorem af {p:Prop}(h:p:=by decide +kernel):p:=h
theorem fA {p:Prop}(h:p:=by simp[*]<;>first|exact⟨rfl,rfl⟩|exact rfl):p:=h
theorem gp {p:Prop}(h:p:=by simp<;>rfl):p:=h
theorem bC {p:Prop}(h:p:=by first|omega|(simp;omega)):p:=h
theorem ib {p:Prop}(h:p:=by repeat' (first|exact trivial|refine And.intro (Exists.intro _ (And.intro rfl ?_)) ?_|(refine Alt.same _ ?_;first|rfl|(simp[*];done))|exact Alt.ba _ _ (aU rfl) rfl|exact Alt.grow _ _ _ _ (aU rfl) rfl|(refine Alt.xM _ _ _ _ _ ?_ (aU rfl) rfl;simp[*];done)|exact Alt.ptr _ _ _ (aU rfl) rfl|exact Alt.own _ _ _ _ _ (aU rfl) rfl|exact Alt.sub _ _ _ _ (aU rfl) rfl|exact Alt.bw _ _ (aU rfl) rfl|exact Alt.aG _ _|(refine Alt.mQ _ _ _ ?_;simp[*];done)|exact Alt.e0 _|exact Alt.dA aF.nil (aF.cons (Alt.ptr _ _ _ (aU rfl) rfl) aF.nil)|exact Alt.dV|exact Alt.lZ _ _ _|(refine Alt.bR _ _ _ _ _ rfl rfl ?_;simp[*];done)|exact Alt.gU _ _ _ _ _ _ _ _ rfl rfl rfl|exact Alt.dD _ _ rfl rfl|(refine Alt.xN ?_;simp[*]<;>rfl)|(refine Alt.ofEq rfl ?_;simp[*];done))):p:=h
theorem iQ {p:Prop}(h:p:=by repeat' (first|exact trivial|refine And.intro (And.intro (aU rfl) (Or.inr (And.intro rfl (Exists.intro _ (And.intro rfl ?_))))) ?_|refine And.intro (And.intro (aU rfl) (Or.inl (Exists.intro _ (And.intro rfl (aU rfl))))) ?_|refine And.intro (And.intro (aU rfl) (Or.inl (Exists.intro _ (And.intro (congrArg (aL.grow _) (by simp[*])) (aU rfl))))) ?_|rfl|exact aF.nil|(refine congrArg (aL.grow _) ?_;simp[*];done)|(refine congrArg aL.map ?_;simp[*];done)|(refine congrArg (aL.arr _ _) ?_;simp[*];done)|refine pX.mk rfl rfl rfl rfl rfl ?_|refine And.intro (Exists.intro _ (And.intro rfl ?_)) ?_|refine aF.cons ?_ ?_|(refine Alt.same _ ?_;first|rfl|(simp[*];done))|exact Alt.ba _ _ (aU rfl) rfl|exact Alt.grow _ _ _ _ (aU rfl) rfl|(refine Alt.xM _ _ _ _ _ ?_ (aU rfl) rfl;simp[*];done)|exact Alt.ptr _ _ _ (aU rfl) rfl|exact Alt.own _ _ _ _ _ (aU rfl) rfl|exact Alt.sub _ _ _ _ (aU rfl) rfl|exact Alt.bw _ _ (aU rfl) rfl|exact Alt.aG _ _|(refine Alt.mQ _ _ _ ?_;simp[*];done)|exact Alt.e0 _|exact Alt.dA aF.nil (aF.cons (Alt.ptr _ _ _ (aU rfl) rfl) aF.nil)|exact Alt.dV|exact Alt.lZ _ _ _|(refine Alt.bR _ _ _ _ _ rfl rfl ?_;simp[*];done)|exact Alt.gU _ _ _ _ _ _ _ _ rfl rfl rfl|exact Alt.dD _ _ rfl rfl|(refine Alt.xN ?_;simp[*]<;>rfl)|(refine Alt.ofEq rfl ?_;simp[*];done))):p:=h
theorem eQ {p:Prop}(h:p:=by first|decide +kernel|exact rfl):p:=h
theorem Au {p:Prop}(h:p:=by repeat' (first|exact trivial|exact trivial|refine kZ.sM ?_|refine And.intro (Exists.intro _ (And.intro rfl ?_)) ?_|exact ib)):p:=h
theorem Av {p:Prop}(h:p:=by repeat' (first|exact trivial|exact trivial|refine kZ.sM ?_|refine And.intro (And.intro (aU rfl) (Or.inr (And.intro rfl (Exists.intro _ (And.intro rfl ?_))))) ?_|refine And.intro (And.intro (aU rfl) (Or.inl (Exists.intro _ (And.intro rfl (aU rfl))))) ?_|refine And.intro (And.intro (aU rfl) (Or.inl (Exists.intro _ (And.intro (congrArg (aL.grow _) (by simp[*])) (aU rfl))))) ?_|refine pX.mk rfl rfl rfl rfl rfl ?_|refine And.intro (Exists.intro _ (And.intro rfl ?_)) ?_|refine aF.cons ?_ ?_|exact iQ)):p:=h
theorem jP {p:Prop}(h:p:=by repeat' (first|exact trivial|exact trivial|refine kZ.sM ?_|exact Alt.dA aF.nil (aF.cons (Alt.ptr _ _ _ (aU rfl) rfl) (aF.cons (Alt.ptr _ _ _ (aU rfl) rfl) aF.nil))|refine And.intro (Exists.intro _ (And.intro rfl ?_)) ?_|exact ib)):p:=h
theorem dP {p:Prop}(h:p:=by repeat' (first|exact trivial|exact trivial|refine kZ.sM ?_|exact Alt.dA aF.nil (aF.cons (Alt.ptr _ _ _ (aU rfl) rfl) (aF.cons (Alt.ptr _ _ _ (aU rfl) rfl) aF.nil))|refine And.intro (And.intro (aU rfl) (Or.inr (And.intro rfl (Exists.intro _ (And.intro rfl ?_))))) ?_|refine And.intro (And.intro (aU rfl) (Or.inl (Exists.intro _ (And.intro rfl (aU rfl))))) ?_|refine And.intro (And.intro (aU rfl) (Or.inl (Exists.intro _ (And.intro (congrArg (aL.grow _) (by simp[*])) (aU rfl))))) ?_|refine pX.mk rfl rfl rfl rfl rfl ?_|refine And.intro (Exists.intro _ (And.intro rfl ?_)) ?_|refine aF.cons ?_ ?_|exact iQ)):p:=h
theorem eV {p:Prop}(h:p:=by repeat' (first|exact iG.nil _|refine iG.cons rfl ?_|(refine iG.cons ?_ ?_;· (simp[*];done)))):p:=h
theorem bN {p:Prop}(h:p:=by repeat' (first|exact bF.refl _|exact bF.nil _|refine bF.cons rfl ?_|(refine bF.cons ?_ ?_;· (first|rfl|(simp[*];done)|(simp[*]<;>rfl)))|(refine bF.skip ?_ ?_;· (simp[*];done)))):p:=h
theorem Cd {p:Prop}(h:p:=by repeat' (first|exact uy.nil _|refine uy.cons rfl (by first|assumption|(simp[*];done)) ?_)):p:=h
theorem kW {p:Prop}(h:p:=by repeat' (first|exact jo.refl _ _|exact jo.nil _ _|refine jo.fS rfl ?_|(refine jo.fS ?_ ?_;· (first|(simp[*];done)|(simp[*]<;>rfl)))|refine jo.fresh (by omega) ?_)):p:=h
theorem FW {p:Prop}(h:p:=by repeat' (first|exact trivial|exact trivial|exact Alt.dA aF.nil (aF.cons (Alt.ptr _ _ _ (aU rfl) rfl) (aF.cons (Alt.ptr _ _ _ (aU rfl) rfl) aF.nil))|refine And.intro (Exists.intro _ (And.intro rfl ?_)) ?_|exact ib)):p:=h
theorem FX {p:Prop}(h:p:=by repeat' (first|exact trivial|exact trivial|exact Alt.dA aF.nil (aF.cons (Alt.ptr _ _ _ (aU rfl) rfl) (aF.cons (Alt.ptr _ _ _ (aU rfl) rfl) aF.nil))|refine And.intro (And.intro (aU rfl) (Or.inr (And.intro rfl (Exists.intro _ (And.intro rfl ?_))))) ?_|refine And.intro (And.intro (aU rfl) (Or.inl (Exists.intro _ (And.intro rfl (aU rfl))))) ?_|refine And.intro (And.intro (aU rfl) (Or.inl (Exists.intro _ (And.intro (congrArg (aL.grow _) (by simp[*])) (aU rfl))))) ?_|refine pX.mk rfl rfl rfl rfl rfl ?_|refine And.intro (Exists.intro _ (And.intro rfl ?_)) ?_|refine aF.cons ?_ ?_|exact iQ)):p:=h
theorem F4 {p:Prop}(h:p:=by repeat' (first|exact trivial|exact trivial|exact Alt.dA aF.nil (aF.cons (Alt.ptr _ _ _ (aU rfl) rfl) (aF.cons (Alt.ptr _ _ _ (aU rfl) rfl) (aF.cons (Alt.ptr _ _ _ (aU rfl) rfl) aF.nil)))|refine And.intro (Exists.intro _ (And.intro rfl ?_)) ?_|exact ib)):p:=h
theorem F5 {p:Prop}(h:p:=by repeat' (first|exact trivial|exact trivial|exact Alt.dA aF.nil (aF.cons (Alt.ptr _ _ _ (aU rfl) rfl) (aF.cons (Alt.ptr _ _ _ (aU rfl) rfl) (aF.cons (Alt.ptr _ _ _ (aU rfl) rfl) aF.nil)))|refine And.intro (And.intro (aU rfl) (Or.inr (And.intro rfl (Exists.intro _ (And.intro rfl ?_))))) ?_|refine And.intro (And.intro (aU rfl) (Or.inl (Exists.intro _ (And.intro rfl (aU rfl))))) ?_|refine And.intro (And.intro (aU rfl) (Or.inl (Exists.intro _ (And.intro (congrArg (aL.grow _) (by simp[*])) (aU rfl))))) ?_|refine pX.mk rfl rfl rfl rfl rfl ?_|refine And.intro (Exists.intro _ (And.intro rfl ?_)) ?_|refine aF.cons ?_ ?_|exact iQ)):p:=h
theorem LV {p:Prop}(h:p:=by repeat' (first|exact trivial|exact Alt.dA aF.nil (aF.cons (Alt.ptr _ _ _ (aU rfl) rfl) (aF.cons (Alt.ptr _ _ _ (aU rfl) rfl) (aF.cons (Alt.ptr _ _ _ (aU rfl) rfl) aF.nil)))|refine And.intro (Exists.intro _ (And.intro rfl ?_)) ?_|exact ib)):p:=h
theorem Gg {p:Prop}(h:p:=by repeat' (first|exact trivial|exact trivial|exact Alt.gU 2 0 _ _ true 3 _ _ rfl rfl (Ua (r:=[]) (by rw[List.append_nil];rfl) (Ma c.mx) (by simp))|refine And.intro (Exists.intro _ (And.intro rfl ?_)) ?_|exact ib)):p:=h
theorem Gh {p:Prop}(h:p:=by repeat' (first|exact trivial|exact trivial|exact Alt.gU 2 0 _ _ true 3 _ _ rfl rfl (Ua (r:=[]) (by rw[List.append_nil];rfl) (Ma c.mx) (by simp))|refine And.intro (And.intro (aU rfl) (Or.inr (And.intro rfl (Exists.intro _ (And.intro rfl ?_))))) ?_|refine And.intro (And.intro (aU rfl) (Or.inl (Exists.intro _ (And.intro rfl (aU rfl))))) ?_|refine And.intro (And.intro (aU rfl) (Or.inl (Exists.intro _ (And.intro (congrArg (aL.grow _) (by simp[*])) (aU rfl))))) ?_|refine pX.mk rfl rfl rfl rfl rfl ?_|refine And.intro (Exists.intro _ (And.intro rfl ?_)) ?_|refine aF.cons ?_ ?_|exact iQ)):p:=h
theorem Me {p:Prop}(h:p:=by repeat' (first|exact trivial|exact trivial|exact Alt.qH 2 0 _ true 2 _ _ rfl rfl (IM (r:=[]) (by rw[List.append_nil];rfl) (Mb c.g) (by simp))|refine And.intro (Exists.intro _ (And.intro rfl ?_)) ?_|exact ib)):p:=h
theorem Mf {p:Prop}(h:p:=by repeat' (first|exact trivial|exact trivial|exact Alt.qH 2 0 _ true 2 _ _ rfl rfl (IM (r:=[]) (by rw[List.append_nil];rfl) (Mb c.g) (by simp))|refine And.intro (And.intro (aU rfl) (Or.inr (And.intro rfl (Exists.intro _ (And.intro rfl ?_))))) ?_|refine And.intro (And.intro (aU rfl) (Or.inl (Exists.intro _ (And.intro rfl (aU rfl))))) ?_|refine And.intro (And.intro (aU rfl) (Or.inl (Exists.intro _ (And.intro (congrArg (aL.grow _) (by simp[*])) (aU rfl))))) ?_|refine pX.mk rfl rfl rfl rfl rfl ?_|refine And.intro (Exists.intro _ (And.intro rfl ?_)) ?_|refine aF.cons ?_ ?_|exact iQ)):p:=h
theorem MU {p:Prop}(h:p:=by repeat' (first|exact trivial|exact trivial|exact RX L|refine And.intro (Exists.intro _ (And.intro rfl ?_)) ?_|exact ib)):p:=h
theorem MV {p:Prop}(h:p:=by repeat' (first|exact trivial|exact trivial|exact RX L|refine And.intro (And.intro (aU rfl) (Or.inr (And.intro rfl (Exists.intro _ (And.intro rfl ?_))))) ?_|refine And.intro (And.intro (aU rfl) (Or.inl (Exists.intro _ (And.intro rfl (aU rfl))))) ?_|refine And.intro (And.intro (aU rfl) (Or.inl (Exists.intro _ (And.intro (congrArg (aL.grow _) (by simp[*])) (aU rfl))))) ?_|refine pX.mk rfl rfl rfl rfl rfl ?_|refine And.intro (Exists.intro _ (And.intro rfl ?_)) ?_|refine aF.cons ?_ ?_|exact iQ)):p:=h
end Go.Am.Sl
namespace Go.Am
open Go Go.Proofs
section
variable [bG]
variable {P:Program} {N b:Nat} {K:aX→ai→Prop} {ae aS:aX} {vh ak:ai} {ops:Array Oper}
theorem bE.rn (l r:List Nat)(k:bE P N b ops K r aS ak)(hd:xX N ops=true:=by decide +kernel)(hr:fZ P N ops l ae vh=some (aS,ak):=by simp[*]<;>first|exact⟨rfl,rfl⟩|exact rfl):bE P N b ops K (l++r) ae vh:=.run hd hr k
theorem VW.rn {Q:ie}{id:Nat}(k:Q .normal aS ak)(hd:xX N ops=true:=by decide +kernel)(hr:fZ P N ops (List.range ops.size) ae vh=some (aS,ak):=by simp[*]<;>first|exact⟨rfl,rfl⟩|exact rfl):VW P N b (.region id ops false) Q ae vh:=.run hd hr k
theorem VW.sr {y:Code}{Q:ie}{id:Nat}(k:zB (VW P N b y Q) Q .normal aS ak)(hd:xX N ops=true:=by decide +kernel)(hr:fZ P N ops (List.range ops.size) ae vh=some (aS,ak):=by simp[*]<;>first|exact⟨rfl,rfl⟩|exact rfl):VW P N b (.seq (.region id ops false) y) Q ae vh:=.seq (.run hd hr k)
theorem VW.cs {Q:ie}{c:Operand}{x y:Code}{v:Bool}(hT:v=true→VW P N b x Q ae vh)(hF:v=false→VW P N b y Q ae vh)(hc:cN ae c=some (.bool v):=by exact rfl):VW P N b (.cond c x y) Q ae vh:=.zae hc hT hF
end
end Go.Am
end
namespace Go.Am
open Go Go.Proofs
section
variable [bG]
variable {P:Program} {N b:Nat} {ae:aX} {vh:ai}
theorem cy.rx {ops:Array Oper}{W todo:List Nat}{K:aX→ai→Prop}{m:Nat}{r:List iy}{o:Oper}{v:PV}(k:cy P N b ops W K r (bif xY o then m::iL ops todo o.dst else iL ops todo o.dst) (bZ ae o.dst v) vh)(ho:ops[m]?=some o:=by rfl)(hw:jh ops o ae=some true:=by rfl)(hW:W.contains m=false:=by decide)(hr:tL o.op=true:=by rfl)(hd:gB N o.dst=true:=by decide)(hv:eo P ae vh o.op=some (v,vh):=by simp[*]<;>first|exact⟨rfl,rfl⟩|exact rfl):cy P N b ops W K (.op m::r) todo ae vh:=.rd ho hw hW hr hd hv k
end
end Go.Am
namespace Go.Am
open Go Go.Proofs
section
variable [bG]
variable {P:Program} {N b:Nat} {ae:aX} {vh:ai}
theorem bE.pc {ops:Array Oper}{K:aX→ai→Prop}{i:Nat}{r:List Nat}{o:Oper}{fo:Operand}{args:Array Operand}{aT:Array TypeId}{f:FuncId}{xs ys l:List PV}{v:PV}(ho:ops[i]?=some o)(hw:jh ops o ae=some true)(hc:o.op=.call ⟨.value fo,args,aT⟩)(hf:cN ae fo=some (.func f xs ys))(hl:jL ae args.toList=some l)(dR:∀cs w,(callFunc f cs).run P w=.ok (.enter f cs) w)(hp:aN P f (xs++l++ys) fun r=>r=v)(k:bE P N b ops K r (bZ ae o.dst v) vh)(hd:gB N o.dst=true:=by decide)(hF:PV.aJ (xs++l++ys)=true:=by first|rfl|simp[*]):bE P N b ops K (i::r) ae vh:=.step ho hw (.pure hc hf hl dR hd hp hF fun r h=>by subst h;exact k)
theorem cy.wp {ops:Array Oper}{W todo:List Nat}{K:aX→ai→Prop}{m:Nat}{r:List iy}{o:Oper}{fo:Operand}{args:Array Operand}{aT:Array TypeId}{f:FuncId}{xs ys l:List PV}{v:PV}(ho:ops[m]?=some o)(hw:jh ops o ae=some true)(hc:o.op=.call ⟨.value fo,args,aT⟩)(hf:cN ae fo=some (.func f xs ys))(hl:jL ae args.toList=some l)(dR:∀cs w,(callFunc f cs).run P w=.ok (.enter f cs) w)(hp:aN P f (xs++l++ys) fun r=>r=v)(k:cy P N b ops W K r (iL ops todo o.dst) (bZ ae o.dst v) vh)(hW:W.contains m=true:=by decide)(hd:gB N o.dst=true:=by decide)(hF:PV.aJ (xs++l++ys)=true:=by first|rfl|simp[*]):cy P N b ops W K (.op m::r) todo ae vh:=.wr ho hw hW (.pure hc hf hl dR hd hp hF fun r h=>by subst h;exact k)
theorem cy.ux {ops:Array Oper}{W todo:List Nat}{K:aX→ai→Prop}{m:Nat}{r:List iy}{o:Oper}(k:cy P N b ops W K r (iL ops todo o.dst) (bZ ae o.dst (.bn [])) vh)(ho:ops[m]?=some o:=by rfl)(hw:jh ops o ae=some false:=by rfl)(hd:gB N o.dst=true:=by decide):cy P N b ops W K (.op m::r) todo ae vh:=.un ho hw hd k
theorem cy.wv {ops:Array Oper}{W todo:List Nat}{K:aX→ai→Prop}{m:Nat}{r:List iy}{o:Oper}{v:PV}{ak:ai}(k:cy P N b ops W K r (bif EN o.op then iL ops todo o.dst else []) (bZ ae o.dst v) ak)(ho:ops[m]?=some o:=by rfl)(hw:jh ops o ae=some true:=by rfl)(hW:W.contains m=true:=by decide)(hv:eo P ae vh o.op=some (v,ak):=by simp[*]<;>first|exact⟨rfl,rfl⟩|exact rfl)(hd:gB N o.dst=true:=by decide):cy P N b ops W K (.op m::r) todo ae vh:=.wr ho hw hW (.eo hv hd k)
theorem jD.rf {ops:Array Oper}{ms:List Nat}{W As todo:List Nat}{K:aX→ai→Prop}{m:Nat}{r:List iy}{o:Oper}{cO:List (Nat×Nat)}{Ar:List Nat}{v:PV}(k:jD P N b ops ms W As K r (bif xY o&&cO.isEmpty then m::iL ops todo o.dst else iL ops todo o.dst) cO Ar (bZ ae o.dst v) vh)(ho:ops[m]?=some o:=by rfl)(hw:jh ops o ae=some true:=by rfl)(hW:W.contains m=false:=by decide)(hA:Ar.contains m=false:=by decide)(yZ:As.contains m=false:=by decide)(hr:tL o.op=true:=by rfl)(hd:gB N o.dst=true:=by decide)(hv:eo P ae (ia (dE ms m cO) vh) o.op=some (v,ia (dE ms m cO) vh):=by simp[*]<;>first|exact⟨rfl,rfl⟩|exact rfl):jD P N b ops ms W As K (.op m::r) todo cO Ar ae vh:=.rd ho hw hW hA yZ hr hd hv k
theorem gD (k:Nat)(h:k<4611686018427387904:=by omega):IntKind.i64.wrap ((k:Int)+1)=(k:Int)+1:=wrap64 (by omega) (by omega)
end
end Go.Am
namespace Go.Am
theorem kB {b:Bool}(h:(!b)=true):b=false:=by simpa using h
theorem kC {b:Bool}(h:(!b)=false):b=true:=by simpa using h
end Go.Am
namespace Go.Am
open Go Go.Proofs
section
variable [bG]
theorem bT {b:Nat}{ae ax:aX}{vh aP:ai}(ht:mU ae vh aP.next (fun i=>([]:List Nat).contains i) (uo []) ax:=by exact ib)(ho:qS vh aP.next (fun i=>([]:List Nat).contains i) (uo []) aP.bg:=by exact iQ)(hi:vJ (uo []) (aP.bg.map (·.1))=true:=by rfl)(hb:Nz b (uo [])=true:=by rfl)(hn:Nat.ble b aP.next=true:=by rfl):Rec b ae vh ax aP:=.mk [] [] ht ho hi hb hn
theorem aA {P:Program}{fn:Func}{R:PV→Prop}{ae:aX}{vh:ai}{l:List PV}{v:PV}(h:R v)(h1:ns P ae vh fn.results.toList=some l:=by exact gp)(h2:bK vh (oA l)=some v:=by exact gp):kQ P fn R .ret ae vh:=⟨l,v,h1,h2,h⟩
end
end Go.Am
namespace Go.Am
open Go
@[reducible] def pQ:List Nat:=[0,1,2,3,4,5,6,7,8]
@[reducible] def dt:List Nat:=[0,1,2,3]
@[reducible] def iB:List Nat:=[0,1,2,3,4,5]
@[reducible] def fe:List Nat:=[0,1,2,3,4]
@[reducible] def gb:List Nat:=[0,1,2,3,4,5,6,7,8,9,10,11,12]
@[reducible] def Fe:List Nat:=[0,1,2,3,4,5,6,7,8,9,10,11,12,13,14,15,16,17,18,19,20,21,22,23,24,25,26,27]
@[reducible] def gE:List Nat:=[0,1,2,3,4,5,6]
@[reducible] def BO:List Nat:=[0,1,2,3,4,5,6,7,8,9,10,11,12,13,14,15]
@[reducible] def fw:List Nat:=[0,1,2,3,4,5,6,7,8,9]
@[reducible] def vk:List Nat:=[0,1,2,3,4,5,6,7,8,9,10,11]
@[reducible] def kR:List Nat:=[0,1,2,3,4,5,6,7,8,9,10,11,12,13,14,15,16,17]
@[reducible] def B8:List Nat:=[0,1,2,3,4,5,6,7,8,9,10,11,12,13,14,15,16,17,18,19,20,21]
@[reducible] def lV:List Nat:=[0,1,2,3,4,5,6,7]
@[reducible] def PS:List iy:=[.op 0,.op 1,.op 2,.op 3,.op 4,.op 5,.op 6,.op 7,.op 8,.op 9,.op 10,.op 11,.op 12,.op 13,.op 14,.op 15,.op 16,.op 17,.op 18,.op 19,.op 20,.op 21,.op 22,.op 23]
@[reducible] def xB:List iy:=[.op 0,.op 1,.op 2,.op 3,.op 4,.op 5,.op 6,.op 7,.op 8,.op 9,.op 10,.op 11,.op 12,.op 13]
@[reducible] def Dz:List iy:=[.op 0,.op 1,.op 2,.op 3,.op 4,.op 5,.op 6,.op 7,.op 8]
@[reducible] def Fo:List iy:=[.op 0,.op 1,.op 2,.op 3,.op 4,.op 5,.op 6,.op 7,.op 8,.op 9,.op 10,.op 11,.op 12,.op 13,.op 14,.op 15,.op 16,.op 17,.op 18,.op 19]
@[reducible] def PU:List iy:=[.op 0,.op 1,.op 2,.op 3,.op 4,.op 5,.op 6,.op 7,.op 8,.op 9,.op 10,.op 11,.op 12]
@[reducible] def B7:List iy:=[.op 0,.op 1,.op 2,.op 3,.op 4,.op 5,.op 6,.op 7,.op 8,.op 9,.op 10,.op 11,.op 12,.op 13,.op 14,.op 15,.op 16,.op 17,.op 18,.op 19,.op 20,.op 21,.op 22,.op 23,.op 24,.op 25,.op 26,.op 27,.op 28]
@[reducible] def P3:List iy:=[.op 0,.op 1,.op 2,.op 3,.op 4,.op 5,.op 6,.op 7,.op 8,.op 9,.op 10,.op 11,.op 12,.op 13,.op 14]
@[reducible] def Rg:List iy:=[.op 0,.op 1,.op 3,.op 4,.op 6,.op 7,.op 2,.ck 7,.ck 4,.op 9,.op 5,.ck 7,.op 8,.op 10,.op 11,.op 12,.op 13,.op 14]
@[reducible] def Rp:List iy:=[.op 0,.op 1,.op 2,.op 3,.op 10,.op 4,.op 5,.op 6,.op 7,.op 8,.op 9,.op 11,.op 12,.op 13,.op 14]
@[reducible] def zb:List iy:=[.op 0,.op 1,.op 2,.op 3,.op 4,.op 5,.op 6,.op 7,.op 8,.op 9,.op 10]
@[reducible] def Cw:List iy:=[.op 0,.op 1,.op 2,.op 3,.op 4,.op 5,.op 6,.op 7,.op 8,.op 9,.op 10,.op 11]
@[reducible] def pB:List iy:=[.op 0,.op 1,.op 2,.op 3,.op 4,.op 6,.op 5,.op 7]
end Go.Am
