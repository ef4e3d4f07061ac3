/-
 What is used in the proof of a statement (part SlN); no condition.
-/
import Derived.Test.YthnmgbgmlhackaaGreatDoorRows
import Derived.WalkKit
import Derived.ProofKit
import Derived.OpenShut
import Derived.SizedLaws
import Derived.LaidMore
import Derived.Handed
import Derived.LaidHandle
import Derived.MakeChecks
import Derived.Test.YthnmgbgmlhackaaGreatDoorTie
import Derived.Test.YthnmgbgmlhackaaGreatDoorCards
import Derived.SevenTiedAt
import Derived.Test.YthnmgbgmlhackaaGreatDoorVm2
import Derived.Test.YthnmgbgmlhackaaGreatDoorSlA
import Derived.Test.YthnmgbgmlhackaaGreatDoorSlF
import Derived.Test.YthnmgbgmlhackaaGreatDoorSlI
import Derived.Test.YthnmgbgmlhackaaGreatDoorSlM
set_option linter.all false
section
namespace Go.Am.Sl
open Go Go.Am Go.Proofs Go.ChangeShapes Go.WideShapes Go.ChangeAt Go.RowKit Go.Proofs.YthnmgbgmlhackaaGreatDoor
set_option linter.unusedSimpArgs false
set_option linter.unusedVariables false
set_option maxRecDepth 100000
theorem kids:Kids Tryz.prog (·<Tryz.prog.types.size):=kids_rows (by kernel_rfl) (by kernel_rfl)
theorem zux:∀t e,t<Tryz.prog.types.size→Tryz.prog.underlying t=some (.slice e)→0<Tryz.prog.cellsOf e:=slices_full_of Tryz.prog (by kernel_rfl)
theorem own:ownKnob Tryz.prog.godebug=none:=by kernel_rfl
theorem z5e {l:List TypeId}(h:(l.all fun t=>decide (t<Tryz.prog.types.size))=true):∀t∈l,t<Tryz.prog.types.size:=fun t ht=>by simpa using List.all_eq_true.1 h t ht
section
variable {H:Type} {bx:TypeId×Value→H} {w:World} {base:Nat}
theorem Je {α:Type}{f:α→PV}:∀ {es:List PV},(∀x∈es,∃a,x=f a)→∃l:List α,es=l.map f
 |[],_=>⟨[],rfl⟩
 |x::r,h=>by
  obtain⟨a,ha⟩:=h x (List.mem_cons_self ..)
  obtain⟨l,hl⟩:=Je (es:=r) fun y hy=>h y (List.mem_cons_of_mem _ hy)
  exact⟨a::l,by rw[ha,hl];rfl⟩
theorem Sp {α:Type}{f:α→PV}{Q:α→Prop}:∀ {es:List PV},(∀x∈es,∃a,x=f a∧Q a)→∃l:List α,es=l.map f∧∀a∈l,Q a
 |[],_=>⟨[],rfl,fun a h=>by cases h⟩
 |x::r,h=>by
  obtain⟨a,ha,hq⟩:=h x (List.mem_cons_self ..)
  obtain⟨l,hl,EJ⟩:=Sp (es:=r) fun y hy=>h y (List.mem_cons_of_mem _ hy)
  exact⟨a::l,by rw[ha,hl];rfl,fun b hb=>by
   rcases List.mem_cons.1 hb with rfl|hb
   ·exact hq
   exact EJ b hb⟩
theorem xU:Tryz.prog.cellsOf 3=1:=by kernel_rfl
theorem GV:Tryz.prog.cellsOf 25=1:=by kernel_rfl
theorem Nh:Tryz.prog.cellsOf 22=1:=by kernel_rfl
theorem Ni:Tryz.prog.cellsOf 26=1:=by kernel_rfl
theorem z4j:Tryz.prog.cellsOf 31=1:=by kernel_rfl
theorem Sq:Tryz.prog.cellsOf 176=3:=by kernel_rfl
theorem Nj:Tryz.prog.cellsOf 24=6:=by kernel_rfl
theorem Sr:Tryz.prog.cellsOf 150=2:=by kernel_rfl
theorem z2x:Tryz.prog.cellsOf 28=9:=by kernel_rfl
theorem Ss:Tryz.prog.cellsOf 48=5:=by kernel_rfl
theorem z9y:0<Tryz.prog.bytesOf 3:=of_decide_eq_true (by kernel_rfl)
theorem z0t:0<Tryz.prog.bytesOf 176:=of_decide_eq_true (by kernel_rfl)
theorem z1f:0<Tryz.prog.bytesOf 150:=of_decide_eq_true (by kernel_rfl)
theorem z6z:0<Tryz.prog.bytesOf 48:=of_decide_eq_true (by kernel_rfl)
abbrev isInt (p:PV):Prop:=∃n,p=.int .i64 n
abbrev yaf (p:PV):Prop:=∃n:Nat,p=.int .u8 n∧n<256
abbrev St (p:PV):Prop:=∃n:Nat,p=.int .u16 n∧n<65536
abbrev Jf (p:PV):Prop:=∃l:List Int,p=ints l∧l.length<ay
theorem p6:Reads bx Tryz.prog w 3 isInt:=(zyi Tryz.underlying3 xU).mono fun p ⟨n,h,_⟩=>⟨n,h⟩
theorem Nk:Reads bx Tryz.prog w 25 Jf:=
 (Jg Tryz.underlying25 GV (by rw[xU];decide) z9y p6).mono fun p ⟨es,h,h2,h3⟩=>by
  obtain⟨l,rfl⟩:=Je h2
  exact⟨l,h,by simpa using h3⟩
abbrev xcq (p:PV):Prop:=∃m:jO,p=bu m
theorem zzd:Reads bx Tryz.prog w 176 xcq:=
 (GW [isInt,isInt,isInt] Tryz.underlying176 rfl (fun i f Q hf hq=>by
  match i,hf,hq with
  |0,hf,hq=>cases hf;cases hq;exact p6
  |1,hf,hq=>cases hf;cases hq;exact p6
  |2,hf,hq=>cases hf;cases hq;exact p6) (by simp[zz,xU]) (by simp[total,xU,Sq])).mono fun p ⟨ps,h,hl,hp⟩=>by
  match ps,hl with
  |[a,b,c],_=>
   obtain⟨x,rfl⟩:=hp 0 _ a rfl rfl
   obtain⟨y,rfl⟩:=hp 1 _ b rfl rfl
   obtain⟨z,rfl⟩:=hp 2 _ c rfl rfl
   exact⟨⟨x,y,z⟩,h⟩
abbrev Su (p:PV):Prop:=∃l:List jO,p=.vec (l.map bu)∧l.length<ay
theorem zuq:Reads bx Tryz.prog w 22 Su:=
 (Jg Tryz.underlying22 Nh (by rw[Sq];decide) z0t zzd).mono fun p ⟨es,h,h2,h3⟩=>by
  obtain⟨l,rfl⟩:=Je h2
  exact⟨l,h,by simpa using h3⟩
abbrev Sv (p:PV):Prop:=∃(a b c d e:Int) (l:List jO),p=.agg [.int .i64 a,.int .i64 b,.int .i64 c,.int .i64 d,.int .i64 e,.vec (l.map bu)]∧l.length<ay
theorem zyz:Reads bx Tryz.prog w 24 Sv:=
 (GW [isInt,isInt,isInt,isInt,isInt,Su] Tryz.underlying24 rfl (fun i f Q hf hq=>by
  match i,hf,hq with
  |0,hf,hq=>cases hf;cases hq;exact p6
  |1,hf,hq=>cases hf;cases hq;exact p6
  |2,hf,hq=>cases hf;cases hq;exact p6
  |3,hf,hq=>cases hf;cases hq;exact p6
  |4,hf,hq=>cases hf;cases hq;exact p6
  |5,hf,hq=>cases hf;cases hq;exact zuq) (by simp[zz,Nh,xU]) (by simp[total,Nh,xU,Nj])).mono fun p ⟨ps,h,hl,hp⟩=>by
  match ps,hl with
  |[a,b,c,d,e,f],_=>
   obtain⟨x0,rfl⟩:=hp 0 _ a rfl rfl
   obtain⟨x1,rfl⟩:=hp 1 _ b rfl rfl
   obtain⟨x2,rfl⟩:=hp 2 _ c rfl rfl
   obtain⟨x3,rfl⟩:=hp 3 _ d rfl rfl
   obtain⟨x4,rfl⟩:=hp 4 _ e rfl rfl
   obtain⟨l,rfl,hl⟩:=hp 5 _ f rfl rfl
   exact⟨x0,x1,x2,x3,x4,l,h,hl⟩
abbrev xbb (p:PV):Prop:=∃g:mo,p=cn g∧g.ws.length<ay
theorem z0b:Reads bx Tryz.prog w 150 xbb:=
 (GW [isInt,Jf] Tryz.underlying150 rfl (fun i f Q hf hq=>by
  match i,hf,hq with
  |0,hf,hq=>cases hf;cases hq;exact p6
  |1,hf,hq=>cases hf;cases hq;exact Nk) (by simp[zz,GV,xU]) (by simp[total,GV,xU,Sr])).mono fun p ⟨ps,h,hl,hp⟩=>by
  match ps,hl with
  |[a,b],_=>
   obtain⟨x,rfl⟩:=hp 0 _ a rfl rfl
   obtain⟨y,rfl,hy⟩:=hp 1 _ b rfl rfl
   exact⟨⟨x,y⟩,h,hy⟩
abbrev Sw (p:PV):Prop:=∃l:List mo,p=.vec (l.map cn)∧l.length<ay∧∀g∈l,g.ws.length<ay
theorem zwz:Reads bx Tryz.prog w 26 Sw:=
 (Jg Tryz.underlying26 Ni (by rw[Sr];decide) z1f z0b).mono fun p ⟨es,h,h2,h3⟩=>by
  obtain⟨l,rfl,h4⟩:=Sp h2
  exact⟨l,h,by simpa using h3,h4⟩
abbrev Nl (p:PV):Prop:=∃c:ao,p=aD c∧BC c
theorem z1v:Reads bx Tryz.prog w 28 Nl:=
 (GW [Sv,Jf,Sw,Jf] Tryz.underlying28 rfl (fun i f Q hf hq=>by
  match i,hf,hq with
  |0,hf,hq=>cases hf;cases hq;exact zyz
  |1,hf,hq=>cases hf;cases hq;exact Nk
  |2,hf,hq=>cases hf;cases hq;exact zwz
  |3,hf,hq=>cases hf;cases hq;exact Nk) (by simp[zz,Nj,GV,Ni]) (by simp[total,Nj,GV,Ni,z2x])).mono fun p ⟨ps,h,hl,hp⟩=>by
  match ps,hl with
  |[a,b,c,d],_=>
   obtain⟨a0,a1,a2,a3,a4,mx,rfl,hm⟩:=hp 0 _ a rfl rfl
   obtain⟨t,rfl,ht⟩:=hp 1 _ b rfl rfl
   obtain⟨g,rfl,hg,hw⟩:=hp 2 _ c rfl rfl
   obtain⟨k,rfl,hk⟩:=hp 3 _ d rfl rfl
   exact⟨⟨a0,a1,a2,a3,a4,mx,t,g,k⟩,h,hm,ht,hk,hg,hw⟩
abbrev Nn (p:PV):Prop:=∃s:aq,p=encS s
theorem Sx:Reads bx Tryz.prog w 48 Nn:=
 (GW [isInt,isInt,isInt,isInt,isInt] Tryz.underlying48 rfl (fun i f Q hf hq=>by
  match i,hf,hq with
  |0,hf,hq=>cases hf;cases hq;exact p6
  |1,hf,hq=>cases hf;cases hq;exact p6
  |2,hf,hq=>cases hf;cases hq;exact p6
  |3,hf,hq=>cases hf;cases hq;exact p6
  |4,hf,hq=>cases hf;cases hq;exact p6) (by simp[zz,xU]) (by simp[total,xU,Ss])).mono fun p ⟨ps,h,hl,hp⟩=>by
  match ps,hl with
  |[a,b,c,d,e],_=>
   obtain⟨x0,rfl⟩:=hp 0 _ a rfl rfl
   obtain⟨x1,rfl⟩:=hp 1 _ b rfl rfl
   obtain⟨x2,rfl⟩:=hp 2 _ c rfl rfl
   obtain⟨x3,rfl⟩:=hp 3 _ d rfl rfl
   obtain⟨x4,rfl⟩:=hp 4 _ e rfl rfl
   exact⟨⟨x0,x1,x2,x3,x4⟩,h⟩
abbrev No (p:PV):Prop:=∃l:List aq,p=.vec (l.map encS)∧l.length<ay
theorem zy1:Reads bx Tryz.prog w 31 No:=
 (Jg Tryz.underlying31 z4j (by rw[Ss];decide) z6z Sx).mono fun p ⟨es,h,h2,h3⟩=>by
  obtain⟨l,rfl⟩:=Je h2
  exact⟨l,h,by simpa using h3⟩
abbrev Sy (p:PV):Prop:=∃T:List (List Int),p=.vec (T.map ints)∧T.length<ay∧∀r∈T,r.length<ay
abbrev Sz (p:PV):Prop:=∃(l:List aq) (n:Int) (T:List (List Int)),p=.agg [.vec (l.map encS),.int .i64 n,.vec (T.map ints)]∧l.length<ay∧T.length<ay∧∀r∈T,r.length<ay
structure Jh where
  after:Nat
  kind:Nat
  AM:Nat
  word:Nat
deriving DecidableEq
def SA (m:Jh):PV:=.agg [.int .u8 m.after,.int .u8 m.kind,.int .u8 m.AM,.int .u16 m.word]
structure SB (m:Jh):Prop where
  a:m.after<256
  k:m.kind<256
  w:m.AM<256
  d:m.word<65536
abbrev SC (p:PV):Prop:=∃m:Jh,p=SA m∧SB m
abbrev Np (p:PV):Prop:=∃l:List Jh,p=.vec (l.map SA)∧l.length<ay∧∀m∈l,SB m
theorem SD:xV bx Tryz.prog w base 3 isInt:=zy6 Tryz.underlying3 (fun p ⟨n,h⟩=>by subst h;rfl) p6
theorem z6n:xV bx Tryz.prog w base 31 No:=zq4 Tryz.underlying31 (fun p ⟨l,h,_⟩=>by subst h;rfl) zy1
theorem xah:xV bx Tryz.prog w base 28 Nl:=SE Tryz.underlying28 (fun p ⟨c,h,_⟩=>⟨_,h⟩) z1v
theorem z8i:xV bx Tryz.prog w base 48 Nn:=SE Tryz.underlying48 (fun p ⟨c,h⟩=>⟨_,h⟩) Sx
end
noncomputable def zA:List (String×DataW Unit):=[("math/bits.deBruijn32tab", Rows.laid_math_bits_deBruijn32tab),("math/bits.deBruijn64tab", Rows.laid_math_bits_deBruijn64tab),("internal/strconv.uint64pow10", Rows.laid_internal_strconv_uint64pow10),("pecia/slip.names", Rows.laid_pecia_slip_names)]
theorem z8u:Tryz.prog.globalNamed "pecia/slip.names" = some 0:=by kernel_rfl
theorem z8l:(Tryz.prog.globals[0]?).map (·.type)=some 235:=by kernel_rfl
theorem c9:Tryz.prog.cellsOf 9=1:=by kernel_rfl
theorem Nq:Tryz.prog.cellsOf 235=7:=by kernel_rfl
theorem zzk (os:Os)(args:Array Value):laidMetH Tryz.prog zA ((World.doorLaid Tryz.prog 4000 os).forCall (fun _ _=>0) ⟨#[],args,[]⟩).memory:=
 laidMetH_of_parts3 (fuel:=8) (laidMet_of_run' 8 (by kernel_rfl) (by kernel_rfl)) (by kernel_rfl) (by kernel_rfl)
theorem z1n {s:ByteArray}{l:List UInt8}(h:s.data.toList=l):s=⟨l.toArray⟩:=by
 cases s with
 |mk d=>simp only at h;subst h;simp
theorem SF {W:World}(h:laidMetH Tryz.prog zA W):0<W.heap.size∧∀(k:Nat) s,Mg[k]?=some s→W.cell? ⟨0,k,none⟩=some (.string s):=by
 rw[MakeChecks.laidMetH_plain _ _ _ (by kernel_rfl)] at h
 obtain⟨ps,⟨g0,t0,cs0,f0,p0,q0,vP,ht0,SG,mM,⟨g1,t1,cs1,f1,p1,q1,sL,BA,iP,ke,⟨g2,t2,mc,f2,p2,q2,uc,qN,eT,o0,⟨g3,t3,GX,f3,p3,q3,CC,Pd,AG,Pe,_,_⟩,_⟩,_⟩,_⟩,_,_⟩:=h
 obtain rfl:=Option.some.inj (z8u.symm.trans CC)
 obtain rfl:=Option.some.inj (z8l.symm.trans Pd)
 obtain⟨xs,m1,rfl,Q1,hlen,hn3,lf⟩:=DataW.trod_array Tryz.underlying235 Pe
 have kH:=World.var?_cell CC AG
 rw[c9] at lf
 rw[Nq] at hlen
 obtain⟨GX⟩:=GX
 simp only at hlen lf kH
 have key:∀(k:Nat) (b:List UInt8),k<7→(xs.map (·.1))[k]?=some (.lit (.string b))→W.cell? ⟨0,k,none⟩=some (.string ⟨b.toArray⟩):=fun k b hk hb=>by
  have h1:=lf k hk
  rw[List.getElem?_map] at hb
  cases hx:xs[k]? with
  |none=>rw[hx] at hb;cases hb
  |some x=>
   rw[hx] at hb h1
   obtain⟨s,e1,e2,_⟩:=DataW.trod_string Tryz.underlying9 h1
   rw[e2] at hb
   have hb:s.data.toList=b:=by simpa using hb
   have h2:GX[k]?=some (.string s):=by
    have h3:=congrArg (fun l:List Value=>l[0]?) e1
    rw[List.getElem?_take_of_lt (by omega),List.getElem?_drop] at h3
    simpa using h3
   have h4:=kH k
   rw[show (({ toList:=GX }:Array Value))[k]?=GX[k]? by simp,h2] at h4
   rw[h4,z1n hb]
 have lA:xs.map (·.1)=[.lit (.string []),.lit (.string [109,105,120]),.lit (.string [111,109,105,116]),.lit (.string [108,101,97,112]),.lit (.string [116,119,105,99,101]),.lit (.string [103,108,111,115,115]),.lit (.string [97,100,100])]:=by
  have:=congrArg Prod.fst Q1
  simpa[Rows.laid_pecia_slip_names] using this.symm
 have h0:=key 0 [] (by decide) (by rw[lA];rfl)
 have h1:=key 1 _ (by decide) (by rw[lA];rfl)
 have h2:=key 2 _ (by decide) (by rw[lA];rfl)
 have h3:=key 3 _ (by decide) (by rw[lA];rfl)
 have h4:=key 4 _ (by decide) (by rw[lA];rfl)
 have h5:=key 5 _ (by decide) (by rw[lA];rfl)
 have h6:=key 6 _ (by decide) (by rw[lA];rfl)
 refine⟨?_,fun k s hs=>?_⟩
 ·refine Decidable.byContradiction fun hn=>?_
  have:W.heap[0]?=none:=Array.getElem?_eq_none (by omega)
  unfold World.cell? at h0
  rw[this] at h0
  cases h0
 match k,hs with
 |0,hs=>cases hs;exact h0
 |1,hs=>cases hs;exact h1
 |2,hs=>cases hs;exact h2
 |3,hs=>cases hs;exact h3
 |4,hs=>cases hs;exact h4
 |5,hs=>cases hs;exact h5
 |6,hs=>cases hs;exact h6
 |k+7,hs=>simp[Mg] at hs
@[reducible] def Nr (W:World):bG:=⟨1,fun b=>W.heap[b]?,False⟩
theorem zws {W:World}(h:laidMetH Tryz.prog zA W):@Names (Nr W):=@Names.mk (Nr W) Nat.one_pos (fun w hw k s hs=>(AV hw).trans ((SF h).2 k s hs)) (fun hf=>hf)
theorem zv9:∀(w w':World) (args:Array Value),w.heap=w'.heap→(fun w (_:Array Value)=>laidMetH Tryz.prog zA w) w args→(fun w (_:Array Value)=>laidMetH Tryz.prog zA w) w' args:=fun _ _ _ hh h=>h.of_heap hh
end Go.Am.Sl
end
section
namespace Go.Am.Sl
open Go Go.Am Go.Proofs Go.ChangeShapes Go.WideShapes Go.ChangeAt Go.RowKit Go.Proofs.YthnmgbgmlhackaaGreatDoor
set_option linter.unusedVariables false
set_option linter.unusedSimpArgs false
set_option maxRecDepth 100000
theorem zvl (H:Type)(bx:TypeId×Value→H)(W:World)(base:Nat)(args:Array Value)(ds gs:List (DataW H))(before:List MemPlace)
  (wN:∀(j:Nat) t v,Tryz.f16.params[j]?=some t→args[j]?=some v→Value.okWide Tryz.prog W .any base t v)
  (hW:DataW.Whole bx Tryz.prog Tryz.f16.params.toList Rows.slipReadsSpec.vars false W args.toList ds gs before)
  (fp:(DataW.weightsEach Tryz.prog (Tryz.f16.params.toList++Rows.slipReadsSpec.plain.varTypes Tryz.prog) (ds++gs)).all (·≤reachBytes)=true) (hL:laidMetH Tryz.prog zA W) :
  Calls Tryz.prog 16 args W fun e W'=>∃v,e=.returned v∧Rows.slipReadsSpec.post bx Tryz.prog Tryz.f16 false true false false W args v W':=by
 letI:bG:=Nr W
 refine zqd kids zux (z5e (by kernel_rfl)) Tryz.underlying4 (by kernel_rfl) (by kernel_rfl) wN hW fp (by kernel_rfl) (fun l hl=>?_) [Nl,isInt,isInt,Nn,No] (by kernel_rfl) (fun i t Q ht hq=>?_) (fun b _=>rfl) (SF hL).1 (fun tj hl hp=>?_)
 ·rw[Tryz.params16] at hl
  match l,hl with
  |[_,_,_,_,_],_=>rfl
 ·rw[Tryz.params16] at ht
  match i,ht,hq with
  |0,ht,hq=>cases ht;cases hq;exact xah
  |1,ht,hq=>cases ht;cases hq;exact SD
  |2,ht,hq=>cases ht;cases hq;exact SD
  |3,ht,hq=>cases ht;cases hq;exact z8i
  |4,ht,hq=>cases ht;cases hq;exact z6n
 match tj,hl with
 |[x0,x1,x2,x3,x4],_=>
  obtain⟨c0,rfl,hB0⟩:=hp 0 _ x0 rfl rfl
  obtain⟨n1,rfl⟩:=hp 1 _ x1 rfl rfl
  obtain⟨n2,rfl⟩:=hp 2 _ x2 rfl rfl
  obtain⟨s3,rfl⟩:=hp 3 _ x3 rfl rfl
  obtain⟨l4,rfl,Q2⟩:=hp 4 _ x4 rfl rfl
  exact p16 (zws hL) c0 n1 n2 s3 l4 hB0    Q2
theorem zrq (os:Os)(started:os.Started)(H:Type)(bx:TypeId×Value→H) :
  ReturnsInHanded {} Tryz.checked os 16 .any (fun w args=>(Rows.slipReadsSpec.pre bx Tryz.prog Tryz.f16 [] false w args∧laidMetH Tryz.prog zA w)∧sizedMet bx Tryz.prog Tryz.f16 (OpenSpec.ofChange Rows.slipReadsSpec) false w args) (Rows.slipReadsSpec.post bx Tryz.prog Tryz.f16 false true false false):=by
 refine returnsInHanded_of_change_and (C:=Tryz.checked) (X:=fun w _=>laidMetH Tryz.prog zA w) zv9 own started (by kernel_rfl) Tryz.func16
  (ChangeSpec.witness_shaped (enc:=bx) (C:=Tryz.checked) (os:=os) (X:=fun w _=>laidMetH Tryz.prog zA w) false (World.doorLaid Tryz.prog 4000 os) #[.agg #[.int .i64 0,.int .i64 0,.int .i64 0,.int .i64 0,.int .i64 0,.slice none 0 0,.slice none 0 0,.slice none 0 0,.slice none 0 0],.int .i64 0,.int .i64 0,.agg #[.int .i64 0,.int .i64 0,.int .i64 0,.int .i64 0,.int .i64 0],.slice none 0 0] 8 rfl (World.shaped_of_RefB (by kernel_rfl) (by kernel_rfl)) (by kernel_rfl) (by kernel_rfl) (by kernel_rfl) (zzk os _)) ?_
 intro W base args ds gs before wN hW _ fp hL _
 exact zvl H bx W base args ds gs before wN hW fp hL
theorem zvg:Rows.SlipReadsSaid:=
 OpenClaim.holds_of_wide 16 Tryz.f16 rfl rfl rfl rfl rfl rfl rfl ⟨rfl,rfl,rfl,rfl,rfl⟩ rfl rfl rfl rfl rfl (by kernel_rfl) Tryz.func16 zre
  (of_decide_eq_true (by kernel_rfl)) (by unfold Func.isWrapper;first|(rw[if_pos (by decide +kernel)];kernel_rfl)|(rw[if_neg (by decide +kernel)];exact⟨rfl,rfl⟩))
  (fun os started H bx _=>zrq os started H bx)
end Go.Am.Sl
namespace Go.Proofs.YthnmgbgmlhackaaGreatDoor
open Go
theorem slipReads_holds:Rows.SlipReadsCardSaid:=
 Claim7.holds_tied_plain_at .later [] [.data,.data,.data,.data] true (true, "f310aec18de0603d092a1a44aacda7291207ec74b98831434c725e5493a5daef") false
  Go.Am.Sl.zvg (fun _ h=>by cases h) (by kernel_rfl) (fun _ h=>by cases h) slipReads_row_tie rfl ⟨rfl,rfl⟩ (by kernel_rfl) rfl
  (fun f fn hf Pf=>by
   obtain rfl:f=16:=Option.some.inj ((show Tryz.prog.funcNamed "pecia/pecialaw02.SlipReads" = some 16 by kernel_rfl).symm.trans hf) |>.symm
   obtain rfl:fn=Tryz.f16:=(Option.some.inj (Tryz.func16.symm.trans Pf)).symm
   exact⟨by kernel_rfl,fun j t ht=>by
    rw[Tryz.params16] at ht
    have hm:t∈[28,3,3,48,31]:=by simpa using Array.mem_of_getElem? ht
    have bo:([28,3,3,48,31].all fun u=>!Tryz.prog.wantsStandIn u)=true:=by kernel_rfl
    exact(show Tryz.prog.wantsStandIn t=false by simpa using List.all_eq_true.1 bo t hm)⟩)
  (by kernel_rfl)
end Go.Proofs.YthnmgbgmlhackaaGreatDoor
end
