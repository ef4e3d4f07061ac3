/-
 What is used in the proof of a statement (part SlK); no condition.
-/
import Derived.Test.YthnmgbgmlhackaaGreatDoorRows
import Derived.WalkKit
import Derived.ProofKit
import Derived.OpenShut
import Derived.SizedLaws
import Derived.LaidMore
import Derived.Handed
import Derived.LaidHandle
import Derived.MakeChecks
import Derived.Test.YthnmgbgmlhackaaGreatDoorVm2
import Derived.Test.YthnmgbgmlhackaaGreatDoorSlA
import Derived.Test.YthnmgbgmlhackaaGreatDoorSlF
set_option linter.all false
section
namespace Go.Am.Sl
open Go Go.Am Go.Proofs Go.ChangeShapes Go.WideShapes Go.ChangeAt Go.RowKit Go.Proofs.YthnmgbgmlhackaaGreatDoor
set_option linter.unusedSimpArgs false
set_option linter.unusedVariables false
set_option maxRecDepth 100000
theorem kids:Kids Tryz.prog (·<Tryz.prog.types.size):=kids_rows (by kernel_rfl) (by kernel_rfl)
theorem zva:∀t e,t<Tryz.prog.types.size→Tryz.prog.underlying t=some (.slice e)→0<Tryz.prog.cellsOf e:=slices_full_of Tryz.prog (by kernel_rfl)
theorem own:ownKnob Tryz.prog.godebug=none:=by kernel_rfl
theorem z4h {l:List TypeId}(h:(l.all fun t=>decide (t<Tryz.prog.types.size))=true):∀t∈l,t<Tryz.prog.types.size:=fun t ht=>by simpa using List.all_eq_true.1 h t ht
section
variable {H:Type} {enc:TypeId×Value→H} {w:World} {base:Nat}
theorem SB {α:Type}{f:α→PV}:∀ {es:List PV},(∀x∈es,∃a,x=f a)→∃l:List α,es=l.map f
 |[],_=>⟨[],rfl⟩
 |x::r,h=>by
  obtain⟨a,ha⟩:=h x (List.mem_cons_self ..)
  obtain⟨l,hl⟩:=SB (es:=r) fun y hy=>h y (List.mem_cons_of_mem _ hy)
  exact⟨a::l,by rw[ha,hl];rfl⟩
theorem Np:Tryz.prog.cellsOf 3=1:=by kernel_rfl
theorem z4i:Tryz.prog.cellsOf 31=1:=by kernel_rfl
theorem SC:Tryz.prog.cellsOf 48=5:=by kernel_rfl
theorem z5q:0<Tryz.prog.bytesOf 48:=of_decide_eq_true (by kernel_rfl)
abbrev isInt (p:PV):Prop:=∃n,p=.int .i64 n
abbrev yah (p:PV):Prop:=∃n:Nat,p=.int .u8 n∧n<256
abbrev SD (p:PV):Prop:=∃n:Nat,p=.int .u16 n∧n<65536
abbrev Nq (p:PV):Prop:=∃l:List Int,p=ints l∧l.length<ar
theorem GP:Reads enc Tryz.prog w 3 isInt:=(zyf Tryz.underlying3 Np).mono fun p ⟨n,h,_⟩=>⟨n,h⟩
abbrev SE (p:PV):Prop:=∃m:jI,p=bs m
abbrev xcp (p:PV):Prop:=∃l:List jI,p=.vec (l.map bs)∧l.length<ar
abbrev Nr (p:PV):Prop:=∃(a b c d e:Int) (l:List jI),p=.agg [.int .i64 a,.int .i64 b,.int .i64 c,.int .i64 d,.int .i64 e,.vec (l.map bs)]∧l.length<ar
abbrev SF (p:PV):Prop:=∃g:mc,p=cb g∧g.ws.length<ar
abbrev Ns (p:PV):Prop:=∃l:List mc,p=.vec (l.map cb)∧l.length<ar∧∀g∈l,g.ws.length<ar
abbrev SG (p:PV):Prop:=∃c:aq,p=aK c∧BC c
abbrev xcy (p:PV):Prop:=∃s:ai,p=encS s
theorem z1v:Reads enc Tryz.prog w 48 xcy:=
 (zqq [isInt,isInt,isInt,isInt,isInt] Tryz.underlying48 rfl (fun i f Q hf hq=>by
  match i,hf,hq with
  |0,hf,hq=>cases hf;cases hq;exact GP
  |1,hf,hq=>cases hf;cases hq;exact GP
  |2,hf,hq=>cases hf;cases hq;exact GP
  |3,hf,hq=>cases hf;cases hq;exact GP
  |4,hf,hq=>cases hf;cases hq;exact GP) (by simp[GQ,Np]) (by simp[total,Np,SC])).mono fun p ⟨ps,h,hl,hp⟩=>by
  match ps,hl with
  |[a,b,c,d,e],_=>
   obtain⟨x0,rfl⟩:=hp 0 _ a rfl rfl
   obtain⟨x1,rfl⟩:=hp 1 _ b rfl rfl
   obtain⟨x2,rfl⟩:=hp 2 _ c rfl rfl
   obtain⟨x3,rfl⟩:=hp 3 _ d rfl rfl
   obtain⟨x4,rfl⟩:=hp 4 _ e rfl rfl
   exact⟨⟨x0,x1,x2,x3,x4⟩,h⟩
abbrev I8 (p:PV):Prop:=∃l:List ai,p=.vec (l.map encS)∧l.length<ar
theorem zxf:Reads enc Tryz.prog w 31 I8:=
 (zsj Tryz.underlying31 z4i (by rw[SC];decide) z5q z1v).mono fun p ⟨es,h,h2,h3⟩=>by
  obtain⟨l,rfl⟩:=SB h2
  exact⟨l,h,by simpa using h3⟩
abbrev SH (p:PV):Prop:=∃T:List (List Int),p=.vec (T.map ints)∧T.length<ar∧∀r∈T,r.length<ar
abbrev SJ (p:PV):Prop:=∃(l:List ai) (n:Int) (T:List (List Int)),p=.agg [.vec (l.map encS),.int .i64 n,.vec (T.map ints)]∧l.length<ar∧T.length<ar∧∀r∈T,r.length<ar
structure I9 where
  after:Nat
  kind:Nat
  AG:Nat
  word:Nat
deriving DecidableEq
def SK (m:I9):PV:=.agg [.int .u8 m.after,.int .u8 m.kind,.int .u8 m.AG,.int .u16 m.word]
structure SL (m:I9):Prop where
  a:m.after<256
  k:m.kind<256
  w:m.AG<256
  d:m.word<65536
abbrev SM (p:PV):Prop:=∃m:I9,p=SK m∧SL m
abbrev Nt (p:PV):Prop:=∃l:List I9,p=.vec (l.map SK)∧l.length<ar∧∀m∈l,SL m
theorem SN:GR enc Tryz.prog w base 31 I8:=zrh Tryz.underlying31 (fun p ⟨l,h,_⟩=>by subst h;rfl) zxf
end
noncomputable def zr:List (String×DataW Unit):=[("math/bits.deBruijn32tab", Rows.laid_math_bits_deBruijn32tab),("math/bits.deBruijn64tab", Rows.laid_math_bits_deBruijn64tab),("internal/strconv.uint64pow10", Rows.laid_internal_strconv_uint64pow10),("pecia/slip.names", Rows.laid_pecia_slip_names)]
theorem z9m:Tryz.prog.globalNamed "pecia/slip.names" = some 0:=by kernel_rfl
theorem z9h:(Tryz.prog.globals[0]?).map (·.type)=some 235:=by kernel_rfl
theorem c9:Tryz.prog.cellsOf 9=1:=by kernel_rfl
theorem Nu:Tryz.prog.cellsOf 235=7:=by kernel_rfl
theorem z1g (os:Os)(args:Array Value):laidMetH Tryz.prog zr ((World.doorLaid Tryz.prog 4000 os).forCall (fun _ _=>0) ⟨#[],args,[]⟩).memory:=
 laidMetH_of_parts3 (fuel:=8) (laidMet_of_run' 8 (by kernel_rfl) (by kernel_rfl)) (by kernel_rfl) (by kernel_rfl)
theorem z1h {s:ByteArray}{l:List UInt8}(h:s.data.toList=l):s=⟨l.toArray⟩:=by
 cases s with
 |mk d=>simp only at h;subst h;simp
theorem SO {W:World}(h:laidMetH Tryz.prog zr W):0<W.heap.size∧∀(k:Nat) s,L5[k]?=some s→W.cell? ⟨0,k,none⟩=some (.string s):=by
 rw[MakeChecks.laidMetH_plain _ _ _ (by kernel_rfl)] at h
 obtain⟨ps,⟨g0,t0,cs0,f0,p0,q0,vM,ht0,SP,mz,⟨g1,t1,cs1,f1,p1,q1,vt,Bw,iK,j3,⟨g2,t2,lQ,f2,p2,q2,ud,rj,eI,oO,⟨g3,t3,GS,f3,p3,q3,Ct,Pk,Av,Pl,_,_⟩,_⟩,_⟩,_⟩,_,_⟩:=h
 obtain rfl:=Option.some.inj (z9m.symm.trans Ct)
 obtain rfl:=Option.some.inj (z9h.symm.trans Pk)
 obtain⟨xs,m1,rfl,Q4,hlen,hn3,kK⟩:=DataW.trod_array Tryz.underlying235 Pl
 have kv:=World.var?_cell Ct Av
 rw[c9] at kK
 rw[Nu] at hlen
 obtain⟨GS⟩:=GS
 simp only at hlen kK kv
 have key:∀(k:Nat) (b:List UInt8),k<7→(xs.map (·.1))[k]?=some (.lit (.string b))→W.cell? ⟨0,k,none⟩=some (.string ⟨b.toArray⟩):=fun k b hk hb=>by
  have h1:=kK k hk
  rw[List.getElem?_map] at hb
  cases hx:xs[k]? with
  |none=>rw[hx] at hb;cases hb
  |some x=>
   rw[hx] at hb h1
   obtain⟨s,e1,e2,_⟩:=DataW.trod_string Tryz.underlying9 h1
   rw[e2] at hb
   have hb:s.data.toList=b:=by simpa using hb
   have h2:GS[k]?=some (.string s):=by
    have h3:=congrArg (fun l:List Value=>l[0]?) e1
    rw[List.getElem?_take_of_lt (by omega),List.getElem?_drop] at h3
    simpa using h3
   have h4:=kv k
   rw[show (({ toList:=GS }:Array Value))[k]?=GS[k]? by simp,h2] at h4
   rw[h4,z1h hb]
 have mE:xs.map (·.1)=[.lit (.string []),.lit (.string [109,105,120]),.lit (.string [111,109,105,116]),.lit (.string [108,101,97,112]),.lit (.string [116,119,105,99,101]),.lit (.string [103,108,111,115,115]),.lit (.string [97,100,100])]:=by
  have:=congrArg Prod.fst Q4
  simpa[Rows.laid_pecia_slip_names] using this.symm
 have h0:=key 0 [] (by decide) (by rw[mE];rfl)
 have h1:=key 1 _ (by decide) (by rw[mE];rfl)
 have h2:=key 2 _ (by decide) (by rw[mE];rfl)
 have h3:=key 3 _ (by decide) (by rw[mE];rfl)
 have h4:=key 4 _ (by decide) (by rw[mE];rfl)
 have h5:=key 5 _ (by decide) (by rw[mE];rfl)
 have h6:=key 6 _ (by decide) (by rw[mE];rfl)
 refine⟨?_,fun k s hs=>?_⟩
 ·refine Decidable.byContradiction fun hn=>?_
  have:W.heap[0]?=none:=Array.getElem?_eq_none (by omega)
  unfold World.cell? at h0
  rw[this] at h0
  cases h0
 match k,hs with
 |0,hs=>cases hs;exact h0
 |1,hs=>cases hs;exact h1
 |2,hs=>cases hs;exact h2
 |3,hs=>cases hs;exact h3
 |4,hs=>cases hs;exact h4
 |5,hs=>cases hs;exact h5
 |6,hs=>cases hs;exact h6
 |k+7,hs=>simp[L5] at hs
@[reducible] def Nv (W:World):bE:=⟨1,fun b=>W.heap[b]?,False⟩
theorem zwj {W:World}(h:laidMetH Tryz.prog zr W):@Names (Nv W):=@Names.mk (Nv W) Nat.one_pos (fun w hw k s hs=>(AQ hw).trans ((SO h).2 k s hs)) (fun hf=>hf)
theorem zyq:∀(w w':World) (args:Array Value),w.heap=w'.heap→(fun w (_:Array Value)=>laidMetH Tryz.prog zr w) w args→(fun w (_:Array Value)=>laidMetH Tryz.prog zr w) w' args:=fun _ _ _ hh h=>h.of_heap hh
end Go.Am.Sl
end
