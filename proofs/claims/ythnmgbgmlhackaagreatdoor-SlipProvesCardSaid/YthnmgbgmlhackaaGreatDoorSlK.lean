/-
 What is used in the proof of a statement (part SlK); no condition.
-/
import Derived.Test.YthnmgbgmlhackaaGreatDoorRows
import Derived.WalkKit
import Derived.ProofKit
import Derived.OpenShut
import Derived.SizedLaws
import Derived.LaidMore
import Derived.Handed
import Derived.LaidHandle
import Derived.MakeChecks
import Derived.Test.YthnmgbgmlhackaaGreatDoorVm2
import Derived.Test.YthnmgbgmlhackaaGreatDoorSlA
import Derived.Test.YthnmgbgmlhackaaGreatDoorSlF
set_option linter.all false
section
namespace Go.Am.Sl
open Go Go.Am Go.Proofs Go.ChangeShapes Go.WideShapes Go.ChangeAt Go.RowKit Go.Proofs.YthnmgbgmlhackaaGreatDoor
set_option linter.unusedSimpArgs false
set_option linter.unusedVariables false
set_option maxRecDepth 100000
theorem kids:Kids Tryz.prog (·<Tryz.prog.types.size):=kids_rows (by kernel_rfl) (by kernel_rfl)
theorem Gw:∀t e,t<Tryz.prog.types.size→Tryz.prog.underlying t=some (.slice e)→0<Tryz.prog.cellsOf e:=slices_full_of Tryz.prog (by kernel_rfl)
theorem own:ownKnob Tryz.prog.godebug=none:=by kernel_rfl
theorem Gx {l:List TypeId}(h:(l.all fun t=>decide (t<Tryz.prog.types.size))=true):∀t∈l,t<Tryz.prog.types.size:=fun t ht=>by simpa using List.all_eq_true.1 h t ht
section
variable {H:Type} {enc:TypeId×Value→H} {w:World} {base:Nat}
theorem Oc {α:Type}{f:α→PV}:∀ {es:List PV},(∀x∈es,∃a,x=f a)→∃l:List α,es=l.map f
 |[],_=>⟨[],rfl⟩
 |x::r,h=>by
  obtain⟨a,ha⟩:=h x (List.mem_cons_self ..)
  obtain⟨l,hl⟩:=Oc (es:=r) fun y hy=>h y (List.mem_cons_of_mem _ hy)
  exact⟨a::l,by rw[ha,hl];rfl⟩
theorem Tb {α:Type}{f:α→PV}{Q:α→Prop}:∀ {es:List PV},(∀x∈es,∃a,x=f a∧Q a)→∃l:List α,es=l.map f∧∀a∈l,Q a
 |[],_=>⟨[],rfl,fun a h=>by cases h⟩
 |x::r,h=>by
  obtain⟨a,ha,hq⟩:=h x (List.mem_cons_self ..)
  obtain⟨l,hl,EZ⟩:=Tb (es:=r) fun y hy=>h y (List.mem_cons_of_mem _ hy)
  exact⟨a::l,by rw[ha,hl];rfl,fun b hb=>by
   rcases List.mem_cons.1 hb with rfl|hb
   ·exact hq
   exact EZ b hb⟩
theorem x9:Tryz.prog.cellsOf 3=1:=by kernel_rfl
theorem xg0:Tryz.prog.cellsOf 5=1:=by kernel_rfl
theorem Ie:Tryz.prog.cellsOf 25=1:=by kernel_rfl
theorem Tc:Tryz.prog.cellsOf 22=1:=by kernel_rfl
theorem Td:Tryz.prog.cellsOf 26=1:=by kernel_rfl
theorem Te:Tryz.prog.cellsOf 31=1:=by kernel_rfl
theorem Tf:Tryz.prog.cellsOf 32=1:=by kernel_rfl
theorem Y2:Tryz.prog.cellsOf 176=3:=by kernel_rfl
theorem Tg:Tryz.prog.cellsOf 24=6:=by kernel_rfl
theorem Y3:Tryz.prog.cellsOf 150=2:=by kernel_rfl
theorem xcu:Tryz.prog.cellsOf 28=9:=by kernel_rfl
theorem Y4:Tryz.prog.cellsOf 48=5:=by kernel_rfl
theorem xcc:Tryz.prog.cellsOf 34=3:=by kernel_rfl
theorem xg4:0<Tryz.prog.bytesOf 3:=of_decide_eq_true (by kernel_rfl)
theorem z4w:0<Tryz.prog.bytesOf 176:=of_decide_eq_true (by kernel_rfl)
theorem z6e:0<Tryz.prog.bytesOf 150:=of_decide_eq_true (by kernel_rfl)
theorem z9u:0<Tryz.prog.bytesOf 48:=of_decide_eq_true (by kernel_rfl)
theorem z9t:0<Tryz.prog.bytesOf 25:=of_decide_eq_true (by kernel_rfl)
abbrev isInt (p:PV):Prop:=∃n,p=.int .i64 n
abbrev CX (p:PV):Prop:=∃n:Nat,p=.int .u8 n∧n<256
abbrev Y5 (p:PV):Prop:=∃n:Nat,p=.int .u16 n∧n<65536
abbrev Od (p:PV):Prop:=∃l:List Int,p=ints l∧l.length<aC
theorem tL:Reads enc Tryz.prog w 3 isInt:=(Y6 Tryz.underlying3 x9).mono fun p ⟨n,h,_⟩=>⟨n,h⟩
theorem xba:Reads enc Tryz.prog w 5 CX:=(Y6 Tryz.underlying5 xg0).mono fun p ⟨n,h,hw⟩=>by
 have h2:(decide (IntKind.min .u8≤n)&&decide (n≤IntKind.max .u8))=true:=hw
 rw[bW,decide_eq_true_eq,decide_eq_true_eq] at h2
 have h3:0≤n∧n≤255:=h2
 exact⟨n.toNat,by rw[h,Int.toNat_of_nonneg h3.1],by omega⟩
theorem Oe:Reads enc Tryz.prog w 25 Od:=
 (Lu Tryz.underlying25 Ie (by rw[x9];decide) xg4 tL).mono fun p ⟨es,h,h2,h3⟩=>by
  obtain⟨l,rfl⟩:=Oc h2
  exact⟨l,h,by simpa using h3⟩
abbrev xmp (p:PV):Prop:=∃m:mD,p=bD m
theorem z7h:Reads enc Tryz.prog w 176 xmp:=
 (If [isInt,isInt,isInt] Tryz.underlying176 rfl (fun i f Q hf hq=>by
  match i,hf,hq with
  |0,hf,hq=>cases hf;cases hq;exact tL
  |1,hf,hq=>cases hf;cases hq;exact tL
  |2,hf,hq=>cases hf;cases hq;exact tL) (by simp[Bl,x9]) (by simp[total,x9,Y2])).mono fun p ⟨ps,h,hl,hp⟩=>by
  match ps,hl with
  |[a,b,c],_=>
   obtain⟨x,rfl⟩:=hp 0 _ a rfl rfl
   obtain⟨y,rfl⟩:=hp 1 _ b rfl rfl
   obtain⟨z,rfl⟩:=hp 2 _ c rfl rfl
   exact⟨⟨x,y,z⟩,h⟩
abbrev Y7 (p:PV):Prop:=∃l:List mD,p=.vec (l.map bD)∧l.length<aC
theorem zx7:Reads enc Tryz.prog w 22 Y7:=
 (Lu Tryz.underlying22 Tc (by rw[Y2];decide) z4w z7h).mono fun p ⟨es,h,h2,h3⟩=>by
  obtain⟨l,rfl⟩:=Oc h2
  exact⟨l,h,by simpa using h3⟩
abbrev Y8 (p:PV):Prop:=∃(a b c d e:Int) (l:List mD),p=.agg [.int .i64 a,.int .i64 b,.int .i64 c,.int .i64 d,.int .i64 e,.vec (l.map bD)]∧l.length<aC
theorem z2b:Reads enc Tryz.prog w 24 Y8:=
 (If [isInt,isInt,isInt,isInt,isInt,Y7] Tryz.underlying24 rfl (fun i f Q hf hq=>by
  match i,hf,hq with
  |0,hf,hq=>cases hf;cases hq;exact tL
  |1,hf,hq=>cases hf;cases hq;exact tL
  |2,hf,hq=>cases hf;cases hq;exact tL
  |3,hf,hq=>cases hf;cases hq;exact tL
  |4,hf,hq=>cases hf;cases hq;exact tL
  |5,hf,hq=>cases hf;cases hq;exact zx7) (by simp[Bl,Tc,x9]) (by simp[total,Tc,x9,Tg])).mono fun p ⟨ps,h,hl,hp⟩=>by
  match ps,hl with
  |[a,b,c,d,e,f],_=>
   obtain⟨x0,rfl⟩:=hp 0 _ a rfl rfl
   obtain⟨x1,rfl⟩:=hp 1 _ b rfl rfl
   obtain⟨x2,rfl⟩:=hp 2 _ c rfl rfl
   obtain⟨x3,rfl⟩:=hp 3 _ d rfl rfl
   obtain⟨x4,rfl⟩:=hp 4 _ e rfl rfl
   obtain⟨l,rfl,hl⟩:=hp 5 _ f rfl rfl
   exact⟨x0,x1,x2,x3,x4,l,h,hl⟩
abbrev xka (p:PV):Prop:=∃g:pw,p=cy g∧g.ws.length<aC
theorem z7a:Reads enc Tryz.prog w 150 xka:=
 (If [isInt,Od] Tryz.underlying150 rfl (fun i f Q hf hq=>by
  match i,hf,hq with
  |0,hf,hq=>cases hf;cases hq;exact tL
  |1,hf,hq=>cases hf;cases hq;exact Oe) (by simp[Bl,Ie,x9]) (by simp[total,Ie,x9,Y3])).mono fun p ⟨ps,h,hl,hp⟩=>by
  match ps,hl with
  |[a,b],_=>
   obtain⟨x,rfl⟩:=hp 0 _ a rfl rfl
   obtain⟨y,rfl,hy⟩:=hp 1 _ b rfl rfl
   exact⟨⟨x,y⟩,h,hy⟩
abbrev Y9 (p:PV):Prop:=∃l:List pw,p=.vec (l.map cy)∧l.length<aC∧∀g∈l,g.ws.length<aC
theorem zzs:Reads enc Tryz.prog w 26 Y9:=
 (Lu Tryz.underlying26 Td (by rw[Y3];decide) z6e z7a).mono fun p ⟨es,h,h2,h3⟩=>by
  obtain⟨l,rfl,h4⟩:=Tb h2
  exact⟨l,h,by simpa using h3,h4⟩
abbrev CY (p:PV):Prop:=∃c:aj,p=aA c∧BC c
theorem z4x:Reads enc Tryz.prog w 28 CY:=
 (If [Y8,Od,Y9,Od] Tryz.underlying28 rfl (fun i f Q hf hq=>by
  match i,hf,hq with
  |0,hf,hq=>cases hf;cases hq;exact z2b
  |1,hf,hq=>cases hf;cases hq;exact Oe
  |2,hf,hq=>cases hf;cases hq;exact zzs
  |3,hf,hq=>cases hf;cases hq;exact Oe) (by simp[Bl,Tg,Ie,Td]) (by simp[total,Tg,Ie,Td,xcu])).mono fun p ⟨ps,h,hl,hp⟩=>by
  match ps,hl with
  |[a,b,c,d],_=>
   obtain⟨a0,a1,a2,a3,a4,mx,rfl,hm⟩:=hp 0 _ a rfl rfl
   obtain⟨t,rfl,ht⟩:=hp 1 _ b rfl rfl
   obtain⟨g,rfl,hg,hw⟩:=hp 2 _ c rfl rfl
   obtain⟨k,rfl,hk⟩:=hp 3 _ d rfl rfl
   exact⟨⟨a0,a1,a2,a3,a4,mx,t,g,k⟩,h,hm,ht,hk,hg,hw⟩
abbrev Of (p:PV):Prop:=∃s:ak,p=encS s
theorem Za:Reads enc Tryz.prog w 48 Of:=
 (If [isInt,isInt,isInt,isInt,isInt] Tryz.underlying48 rfl (fun i f Q hf hq=>by
  match i,hf,hq with
  |0,hf,hq=>cases hf;cases hq;exact tL
  |1,hf,hq=>cases hf;cases hq;exact tL
  |2,hf,hq=>cases hf;cases hq;exact tL
  |3,hf,hq=>cases hf;cases hq;exact tL
  |4,hf,hq=>cases hf;cases hq;exact tL) (by simp[Bl,x9]) (by simp[total,x9,Y4])).mono fun p ⟨ps,h,hl,hp⟩=>by
  match ps,hl with
  |[a,b,c,d,e],_=>
   obtain⟨x0,rfl⟩:=hp 0 _ a rfl rfl
   obtain⟨x1,rfl⟩:=hp 1 _ b rfl rfl
   obtain⟨x2,rfl⟩:=hp 2 _ c rfl rfl
   obtain⟨x3,rfl⟩:=hp 3 _ d rfl rfl
   obtain⟨x4,rfl⟩:=hp 4 _ e rfl rfl
   exact⟨⟨x0,x1,x2,x3,x4⟩,h⟩
abbrev Ig (p:PV):Prop:=∃l:List ak,p=.vec (l.map encS)∧l.length<aC
theorem Zb:Reads enc Tryz.prog w 31 Ig:=
 (Lu Tryz.underlying31 Te (by rw[Y4];decide) z9u Za).mono fun p ⟨es,h,h2,h3⟩=>by
  obtain⟨l,rfl⟩:=Oc h2
  exact⟨l,h,by simpa using h3⟩
abbrev Zc (p:PV):Prop:=∃T:List (List Int),p=.vec (T.map ints)∧T.length<aC∧∀r∈T,r.length<aC
theorem z4r:Reads enc Tryz.prog w 32 Zc:=
 (Lu Tryz.underlying32 Tf (by rw[Ie];decide) z9t Oe).mono fun p ⟨es,h,h2,h3⟩=>by
  obtain⟨l,rfl,h4⟩:=Tb h2
  exact⟨l,h,by simpa using h3,h4⟩
abbrev Og (p:PV):Prop:=∃(l:List ak) (n:Int) (T:List (List Int)),p=.agg [.vec (l.map encS),.int .i64 n,.vec (T.map ints)]∧l.length<aC∧T.length<aC∧∀r∈T,r.length<aC
theorem z8a:Reads enc Tryz.prog w 34 Og:=
 (If [Ig,isInt,Zc] Tryz.underlying34 rfl (fun i f Q hf hq=>by
  match i,hf,hq with
  |0,hf,hq=>cases hf;cases hq;exact Zb
  |1,hf,hq=>cases hf;cases hq;exact tL
  |2,hf,hq=>cases hf;cases hq;exact z4r) (by simp[Bl,x9,Te,Tf]) (by simp[total,x9,Te,Tf,xcc])).mono fun p ⟨ps,h,hl,hp⟩=>by
  match ps,hl with
  |[a,b,c],_=>
   obtain⟨l,rfl,ll⟩:=hp 0 _ a rfl rfl
   obtain⟨n,rfl⟩:=hp 1 _ b rfl rfl
   obtain⟨T,rfl,h1,h2⟩:=hp 2 _ c rfl rfl
   exact⟨l,n,T,h,ll,h1,h2⟩
structure Oh where
  after:Nat
  kind:Nat
  Eo:Nat
  word:Nat
deriving DecidableEq
def Zd (m:Oh):PV:=.agg [.int .u8 m.after,.int .u8 m.kind,.int .u8 m.Eo,.int .u16 m.word]
structure Ze (m:Oh):Prop where
  a:m.after<256
  k:m.kind<256
  w:m.Eo<256
  d:m.word<65536
abbrev Zf (p:PV):Prop:=∃m:Oh,p=Zd m∧Ze m
abbrev Th (p:PV):Prop:=∃l:List Oh,p=.vec (l.map Zd)∧l.length<aC∧∀m∈l,Ze m
theorem xis:yb enc Tryz.prog w base 3 isInt:=Zg Tryz.underlying3 (fun p ⟨n,h⟩=>by subst h;rfl) tL
theorem Zh:yb enc Tryz.prog w base 5 CX:=Zg Tryz.underlying5 (fun p ⟨n,h,_⟩=>by subst h;rfl) xba
theorem Ti:yb enc Tryz.prog w base 31 Ig:=zt0 Tryz.underlying31 (fun p ⟨l,h,_⟩=>by subst h;rfl) Zb
theorem Gy:yb enc Tryz.prog w base 28 CY:=Tj Tryz.underlying28 (fun p ⟨c,h,_⟩=>⟨_,h⟩) z4x
theorem Zi:yb enc Tryz.prog w base 48 Of:=Tj Tryz.underlying48 (fun p ⟨c,h⟩=>⟨_,h⟩) Za
theorem Zj:yb enc Tryz.prog w base 34 Og:=Tj Tryz.underlying34 (fun p ⟨_,_,_,h,_⟩=>⟨_,h⟩) z8a
end
noncomputable def lM:List (String×DataW Unit):=[("math/bits.deBruijn32tab", Rows.laid_math_bits_deBruijn32tab),("math/bits.deBruijn64tab", Rows.laid_math_bits_deBruijn64tab),("internal/strconv.uint64pow10", Rows.laid_internal_strconv_uint64pow10),("pecia/slip.names", Rows.laid_pecia_slip_names)]
theorem xe2:Tryz.prog.globalNamed "pecia/slip.names" = some 0:=by kernel_rfl
theorem xii:(Tryz.prog.globals[0]?).map (·.type)=some 235:=by kernel_rfl
theorem c9:Tryz.prog.cellsOf 9=1:=by kernel_rfl
theorem Tk:Tryz.prog.cellsOf 235=7:=by kernel_rfl
theorem Gz (os:Os)(args:Array Value):laidMetH Tryz.prog lM ((World.doorLaid Tryz.prog 4000 os).forCall (fun _ _=>0) ⟨#[],args,[]⟩).memory:=
 laidMetH_of_parts3 (fuel:=8) (laidMet_of_run' 8 (by kernel_rfl) (by kernel_rfl)) (by kernel_rfl) (by kernel_rfl)
theorem z5d {s:ByteArray}{l:List UInt8}(h:s.data.toList=l):s=⟨l.toArray⟩:=by
 cases s with
 |mk d=>simp only at h;subst h;simp
theorem Ep {W:World}(h:laidMetH Tryz.prog lM W):0<W.heap.size∧∀(k:Nat) s,Rj[k]?=some s→W.cell? ⟨0,k,none⟩=some (.string s):=by
 rw[MakeChecks.laidMetH_plain _ _ _ (by kernel_rfl)] at h
 obtain⟨ps,⟨g0,t0,cs0,f0,p0,q0,uf,ht0,NP,n3,⟨g1,t1,cs1,f1,p1,q1,qf,uL,iF,mB,⟨g2,t2,pX,f2,p2,q2,nH,qm,eZ,sY,⟨g3,t3,Lv,f3,p3,q3,F3,uM,DY,U3,_,_⟩,_⟩,_⟩,_⟩,_,_⟩:=h
 obtain rfl:=Option.some.inj (xe2.symm.trans F3)
 obtain rfl:=Option.some.inj (xii.symm.trans uM)
 obtain⟨xs,m1,rfl,FQ,hlen,hn3,oI⟩:=DataW.trod_array Tryz.underlying235 U3
 have oe:=World.var?_cell F3 DY
 rw[c9] at oI
 rw[Tk] at hlen
 obtain⟨Lv⟩:=Lv
 simp only at hlen oI oe
 have key:∀(k:Nat) (b:List UInt8),k<7→(xs.map (·.1))[k]?=some (.lit (.string b))→W.cell? ⟨0,k,none⟩=some (.string ⟨b.toArray⟩):=fun k b hk hb=>by
  have h1:=oI k hk
  rw[List.getElem?_map] at hb
  cases hx:xs[k]? with
  |none=>rw[hx] at hb;cases hb
  |some x=>
   rw[hx] at hb h1
   obtain⟨s,e1,e2,_⟩:=DataW.trod_string Tryz.underlying9 h1
   rw[e2] at hb
   have hb:s.data.toList=b:=by simpa using hb
   have h2:Lv[k]?=some (.string s):=by
    have h3:=congrArg (fun l:List Value=>l[0]?) e1
    rw[List.getElem?_take_of_lt (by omega),List.getElem?_drop] at h3
    simpa using h3
   have h4:=oe k
   rw[show (({ toList:=Lv }:Array Value))[k]?=Lv[k]? by simp,h2] at h4
   rw[h4,z5d hb]
 have od:xs.map (·.1)=[.lit (.string []),.lit (.string [109,105,120]),.lit (.string [111,109,105,116]),.lit (.string [108,101,97,112]),.lit (.string [116,119,105,99,101]),.lit (.string [103,108,111,115,115]),.lit (.string [97,100,100])]:=by
  have:=congrArg Prod.fst FQ
  simpa[Rows.laid_pecia_slip_names] using this.symm
 have h0:=key 0 [] (by decide) (by rw[od];rfl)
 have h1:=key 1 _ (by decide) (by rw[od];rfl)
 have h2:=key 2 _ (by decide) (by rw[od];rfl)
 have h3:=key 3 _ (by decide) (by rw[od];rfl)
 have h4:=key 4 _ (by decide) (by rw[od];rfl)
 have h5:=key 5 _ (by decide) (by rw[od];rfl)
 have h6:=key 6 _ (by decide) (by rw[od];rfl)
 refine⟨?_,fun k s hs=>?_⟩
 ·refine Decidable.byContradiction fun hn=>?_
  have:W.heap[0]?=none:=Array.getElem?_eq_none (by omega)
  unfold World.cell? at h0
  rw[this] at h0
  cases h0
 match k,hs with
 |0,hs=>cases hs;exact h0
 |1,hs=>cases hs;exact h1
 |2,hs=>cases hs;exact h2
 |3,hs=>cases hs;exact h3
 |4,hs=>cases hs;exact h4
 |5,hs=>cases hs;exact h5
 |6,hs=>cases hs;exact h6
 |k+7,hs=>simp[Rj] at hs
@[reducible] def CZ (W:World):bE:=⟨1,fun b=>W.heap[b]?,False⟩
theorem GA {W:World}(h:laidMetH Tryz.prog lM W):@Names (CZ W):=@Names.mk (CZ W) Nat.one_pos (fun w hw k s hs=>(EA hw).trans ((Ep h).2 k s hs)) (fun hf=>hf)
theorem GB:∀(w w':World) (args:Array Value),w.heap=w'.heap→(fun w (_:Array Value)=>laidMetH Tryz.prog lM w) w args→(fun w (_:Array Value)=>laidMetH Tryz.prog lM w) w' args:=fun _ _ _ hh h=>h.of_heap hh
end Go.Am.Sl
end
