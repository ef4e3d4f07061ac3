/-
 What is used in the proof of a statement (part SlK); no condition.
-/
import Derived.LaidMore
import Derived.Handed
import Derived.LaidHandle
import Derived.MakeChecks
import Derived.Test.YthnmgbgmlhackaaGreatDoorSlK0
import Derived.Test.YthnmgbgmlhackaaGreatDoorSlF
set_option linter.all false
section
namespace Go.Am.Sl
open Go Go.Am Go.Proofs Go.ChangeShapes Go.WideShapes Go.ChangeAt Go.RowKit Go.Proofs.YthnmgbgmlhackaaGreatDoor
set_option linter.unusedSimpArgs false
set_option linter.unusedVariables false
set_option maxRecDepth 100000
noncomputable def sf:List (String×DataW Unit):=[("math/bits.deBruijn32tab", Rows.laid_math_bits_deBruijn32tab),("math/bits.deBruijn64tab", Rows.laid_math_bits_deBruijn64tab),("internal/strconv.uint64pow10", Rows.laid_internal_strconv_uint64pow10),("pecia/slip.names", Rows.laid_pecia_slip_names)]
theorem xcx:Tryz.prog.globalNamed "pecia/slip.names" = some 0:=by kernel_rfl
theorem xex:(Tryz.prog.globals[0]?).map (·.type)=some 235:=by kernel_rfl
theorem c9:Tryz.prog.cellsOf 9=1:=by kernel_rfl
theorem Q2:Tryz.prog.cellsOf 235=7:=by kernel_rfl
theorem Q3 (os:Os)(args:Array Value):laidMetH Tryz.prog sf ((World.doorLaid Tryz.prog 4000 os).forCall (fun _ _=>0) ⟨#[],args,[]⟩).memory:=
 laidMetH_of_parts3 (fuel:=8) (laidMet_of_run' 8 (by kernel_rfl) (by kernel_rfl)) (by kernel_rfl) (by kernel_rfl)
theorem z3l {s:ByteArray}{l:List UInt8}(h:s.data.toList=l):s=⟨l.toArray⟩:=by
 cases s with
 |mk d=>simp only at h;subst h;simp
theorem Mt {W:World}(h:laidMetH Tryz.prog sf W):0<W.heap.size∧∀(k:Nat) s,Pp[k]?=some s→W.cell? ⟨0,k,none⟩=some (.string s):=by
 rw[MakeChecks.laidMetH_plain _ _ _ (by kernel_rfl)] at h
 obtain⟨ps,⟨g0,t0,cs0,f0,p0,q0,tA,ht0,W0,ov,⟨g1,t1,cs1,f1,p1,q1,rK,zx,iS,lf,⟨g2,t2,nq,f2,p2,q2,tc,qP,eN,rm,⟨g3,t3,JC,f3,p3,q3,EJ,S9,CH,Ta,_,_⟩,_⟩,_⟩,_⟩,_,_⟩:=h
 obtain rfl:=Option.some.inj (xcx.symm.trans EJ)
 obtain rfl:=Option.some.inj (xex.symm.trans S9)
 obtain⟨xs,m1,rfl,UZ,hlen,hn3,mj⟩:=DataW.trod_array Tryz.underlying235 Ta
 have lM:=World.var?_cell EJ CH
 rw[c9] at mj
 rw[Q2] at hlen
 obtain⟨JC⟩:=JC
 simp only at hlen mj lM
 have key:∀(k:Nat) (b:List UInt8),k<7→(xs.map (·.1))[k]?=some (.lit (.string b))→W.cell? ⟨0,k,none⟩=some (.string ⟨b.toArray⟩):=fun k b hk hb=>by
  have h1:=mj k hk
  rw[List.getElem?_map] at hb
  cases hx:xs[k]? with
  |none=>rw[hx] at hb;cases hb
  |some x=>
   rw[hx] at hb h1
   obtain⟨s,e1,e2,_⟩:=DataW.trod_string Tryz.underlying9 h1
   rw[e2] at hb
   have hb:s.data.toList=b:=by simpa using hb
   have h2:JC[k]?=some (.string s):=by
    have h3:=congrArg (fun l:List Value=>l[0]?) e1
    rw[List.getElem?_take_of_lt (by omega),List.getElem?_drop] at h3
    simpa using h3
   have h4:=lM k
   rw[show (({ toList:=JC }:Array Value))[k]?=JC[k]? by simp,h2] at h4
   rw[h4,z3l hb]
 have oC:xs.map (·.1)=[.lit (.string []),.lit (.string [109,105,120]),.lit (.string [111,109,105,116]),.lit (.string [108,101,97,112]),.lit (.string [116,119,105,99,101]),.lit (.string [103,108,111,115,115]),.lit (.string [97,100,100])]:=by
  have:=congrArg Prod.fst UZ
  simpa[Rows.laid_pecia_slip_names] using this.symm
 have h0:=key 0 [] (by decide) (by rw[oC];rfl)
 have h1:=key 1 _ (by decide) (by rw[oC];rfl)
 have h2:=key 2 _ (by decide) (by rw[oC];rfl)
 have h3:=key 3 _ (by decide) (by rw[oC];rfl)
 have h4:=key 4 _ (by decide) (by rw[oC];rfl)
 have h5:=key 5 _ (by decide) (by rw[oC];rfl)
 have h6:=key 6 _ (by decide) (by rw[oC];rfl)
 refine⟨?_,fun k s hs=>?_⟩
 ·refine Decidable.byContradiction fun hn=>?_
  have:W.heap[0]?=none:=Array.getElem?_eq_none (by omega)
  unfold World.cell? at h0
  rw[this] at h0
  cases h0
 match k,hs with
 |0,hs=>cases hs;exact h0
 |1,hs=>cases hs;exact h1
 |2,hs=>cases hs;exact h2
 |3,hs=>cases hs;exact h3
 |4,hs=>cases hs;exact h4
 |5,hs=>cases hs;exact h5
 |6,hs=>cases hs;exact h6
 |k+7,hs=>simp[Pp] at hs
@[reducible] def JD (W:World):bF:=⟨1,fun b=>W.heap[b]?,False⟩
theorem Q4 {W:World}(h:laidMetH Tryz.prog sf W):@Names (JD W):=@Names.mk (JD W) Nat.one_pos (fun w hw k s hs=>(C5 hw).trans ((Mt h).2 k s hs)) (fun hf=>hf)
theorem Q5:∀(w w':World) (args:Array Value),w.heap=w'.heap→(fun w (_:Array Value)=>laidMetH Tryz.prog sf w) w args→(fun w (_:Array Value)=>laidMetH Tryz.prog sf w) w' args:=fun _ _ _ hh h=>h.of_heap hh
end Go.Am.Sl
end
