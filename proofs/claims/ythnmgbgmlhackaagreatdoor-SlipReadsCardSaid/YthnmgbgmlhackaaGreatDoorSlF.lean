/-
 What is used in the proof of a statement (part SlF); no condition.
-/
import Derived.Shelf.Strconv.Itoa3
import Derived.Shelf.Strings.OnBuilder
import Derived.Shelf.Lay
import Derived.Deep.QuietTactic
import Derived.WalkKit
import Derived.Lib.Walk
import Derived.Test.YthnmgbgmlhackaaGreatDoorSlT
import Derived.Test.YthnmgbgmlhackaaGreatDoorVm2
import Derived.Test.YthnmgbgmlhackaaGreatDoorSlZ
import Derived.Test.YthnmgbgmlhackaaGreatDoorSlD
set_option linter.all false
set_option maxHeartbeats 40000000
set_option maxRecDepth 100000
section
namespace Go.Am.Sl
open Go Go.Am Go.Proofs Tryz Go.RowKit Go.Lib Go.Shelf
def Z2:Ren where
  f := fun x => match x with
    |171=>162
    |243=>180
    |246=>188
    |283=>192
    |284=>193
    |285=>194
    |286=>195
    |129=>178
    |317=>196
    |318=>197
    |319=>198
    |320=>199
    |337=>200
    |338=>201
    |n=>n
  t := fun x => match x with
    |3=>3
    |9=>9
    |2=>2
    |4=>4
    |171=>272
    |0=>0
    |53=>258
    |37=>238
    |5=>5
    |173=>274
    |212=>278
    |51=>256
    |20=>20
    |213=>279
    |46=>228
    |232=>280
    |233=>281
    |n=>n
  g := fun x => match x with
    |17=>2
    |18=>3
    |19=>4
    |n=>n
theorem Z3:Lays.n171 prog Z2 where
  mixed:=rfl
  f129:=func178.trans (congrArg some rfl)
  f171:=func162.trans (congrArg some rfl)
  f243:=func180.trans (congrArg some rfl)
  f246:=func188.trans (congrArg some rfl)
  f283:=func192.trans (congrArg some rfl)
  f284:=func193.trans (congrArg some rfl)
  f285:=func194.trans (congrArg some rfl)
  f286:=func195.trans (congrArg some rfl)
  f317:=func196.trans (congrArg some rfl)
  f318:=func197.trans (congrArg some rfl)
  f319:=func198.trans (congrArg some rfl)
  f320:=func199.trans (congrArg some rfl)
  f337:=func200.trans (congrArg some rfl)
  f338:=func201.trans (congrArg some rfl)
  t0:=underlying0
  a0:=isAgg0
  z0:=sizeOf0
  v0:=zeroValue0
  t2:=underlying2
  a2:=isAgg2
  z2:=sizeOf2
  v2:=zeroValue2
  t3:=underlying3
  a3:=isAgg3
  z3:=sizeOf3
  v3:=zeroValue3
  t4:=underlying4
  a4:=isAgg4
  z4:=sizeOf4
  v4:=zeroValue4
  t5:=underlying5
  a5:=isAgg5
  z5:=sizeOf5
  v5:=zeroValue5
  t9:=underlying9
  a9:=isAgg9
  z9:=sizeOf9
  v9:=zeroValue9
  t20:=underlying20
  a20:=isAgg20
  z20:=sizeOf20
  v20:=zeroValue20
  t37:=underlying238
  a37:=isAgg238
  z37:=sizeOf238
  v37:=zeroValue238
  t46:=underlying228
  a46:=isAgg228
  z46:=sizeOf228
  v46:=zeroValue228
  t51:=underlying256
  a51:=isAgg256
  z51:=sizeOf256
  v51:=zeroValue256
  t53:=underlying258
  a53:=isAgg258
  z53:=sizeOf258
  v53:=zeroValue258
  t171:=underlying272
  a171:=isAgg272
  z171:=sizeOf272
  v171:=zeroValue272
  t173:=underlying274
  a173:=isAgg274
  z173:=sizeOf274
  v173:=zeroValue274
  t212:=underlying278
  a212:=isAgg278
  z212:=sizeOf278
  v212:=zeroValue278
  t213:=underlying279
  a213:=isAgg279
  z213:=sizeOf279
  t232:=underlying280
  a232:=isAgg280
  z232:=sizeOf280
  v232:=zeroValue280
  t233:=underlying281
  a233:=isAgg281
  z233:=sizeOf281
  v233:=zeroValue281
  g17:=by kernel_rfl
  g18:=by kernel_rfl
  g19:=by kernel_rfl
def Rh:Ren where
  f := fun x => match x with
    |156=>134
    |165=>163
    |166=>164
    |169=>165
    |240=>181
    |241=>182
    |276=>189
    |277=>190
    |n=>n
  t := fun x => match x with
    |31=>210
    |9=>9
    |3=>3
    |4=>4
    |0=>0
    |20=>20
    |72=>240
    |76=>244
    |70=>237
    |37=>238
    |75=>243
    |127=>259
    |164=>266
    |5=>5
    |80=>246
    |n=>n
  g:=fun n=>n
theorem Z4:Lays.n156 prog Rh where
  mixed:=rfl
  f156:=func134.trans (congrArg some rfl)
  f165:=func163.trans (congrArg some rfl)
  f166:=func164.trans (congrArg some rfl)
  f169:=func165.trans (congrArg some rfl)
  f240:=func181.trans (congrArg some rfl)
  f241:=func182.trans (congrArg some rfl)
  f276:=func189.trans (congrArg some rfl)
  f277:=func190.trans (congrArg some rfl)
  t0:=underlying0
  a0:=isAgg0
  z0:=sizeOf0
  v0:=zeroValue0
  t3:=underlying3
  a3:=isAgg3
  z3:=sizeOf3
  v3:=zeroValue3
  t4:=underlying4
  a4:=isAgg4
  z4:=sizeOf4
  v4:=zeroValue4
  t9:=underlying9
  a9:=isAgg9
  z9:=sizeOf9
  v9:=zeroValue9
  t20:=underlying20
  a20:=isAgg20
  z20:=sizeOf20
  v20:=zeroValue20
  t31:=underlying210
  a31:=isAgg210
  z31:=sizeOf210
  v31:=zeroValue210
  t37:=underlying238
  a37:=isAgg238
  z37:=sizeOf238
  v37:=zeroValue238
  t70:=underlying237
  a70:=isAgg237
  z70:=sizeOf237
  v70:=zeroValue237
  t72:=underlying240
  a72:=isAgg240
  z72:=sizeOf240
  v72:=zeroValue240
  t75:=underlying243
  a75:=isAgg243
  z75:=sizeOf243
  v75:=zeroValue243
  t76:=underlying244
  a76:=isAgg244
  z76:=sizeOf244
  v76:=zeroValue244
  t127:=underlying259
  a127:=isAgg259
  z127:=sizeOf259
  v127:=zeroValue259
  t164:=underlying266
  a164:=isAgg266
  z164:=sizeOf266
  v164:=zeroValue266
theorem Cs (i:Nat)(hi:i<100)(w:World):Calls prog 162 #[.int .i64 i] w fun e w'=>e=.returned (.string ⟨(Lib.decDigits i).toArray⟩)∧w'=w:=Any.strconv_Itoa_small Z3 i hi w
theorem Z5 (w:World):Calls prog 162 #[.int .i64 1] w fun e w'=>e=.returned (.string ⟨#[49]⟩)∧w'=w:=by
 have h:=Cs 1 (by decide) w
 rw[show (Lib.decDigits 1).toArray=#[49] from by decide +kernel] at h
 exact h
theorem Ri (w:World):Calls prog 162 #[.int .i64 2] w fun e w'=>e=.returned (.string ⟨#[50]⟩)∧w'=w:=by
 have h:=Cs 2 (by decide) w
 rw[show (Lib.decDigits 2).toArray=#[50] from by decide +kernel] at h
 exact h
theorem Z6 (w:World):Calls prog 162 #[.int .i64 3] w fun e w'=>e=.returned (.string ⟨#[51]⟩)∧w'=w:=by
 have h:=Cs 3 (by decide) w
 rw[show (Lib.decDigits 3).toArray=#[51] from by decide +kernel] at h
 exact h
theorem Z7 (w:World):Calls prog 162 #[.int .i64 4] w fun e w'=>e=.returned (.string ⟨#[52]⟩)∧w'=w:=by
 have h:=Cs 4 (by decide) w
 rw[show (Lib.decDigits 4).toArray=#[52] from by decide +kernel] at h
 exact h
theorem Z8 (w:World):Calls prog 162 #[.int .i64 5] w fun e w'=>e=.returned (.string ⟨#[53]⟩)∧w'=w:=by
 have h:=Cs 5 (by decide) w
 rw[show (Lib.decDigits 5).toArray=#[53] from by decide +kernel] at h
 exact h
theorem Z9 (w:World):Calls prog 162 #[.int .i64 7] w fun e w'=>e=.returned (.string ⟨#[55]⟩)∧w'=w:=by
 have h:=Cs 7 (by decide) w
 rw[show (Lib.decDigits 7).toArray=#[55] from by decide +kernel] at h
 exact h
theorem z8j (w:World):Calls prog 162 #[.int .i64 8] w fun e w'=>e=.returned (.string ⟨#[56]⟩)∧w'=w:=by
 have h:=Cs 8 (by decide) w
 rw[show (Lib.decDigits 8).toArray=#[56] from by decide +kernel] at h
 exact h
set_option maxHeartbeats 4000000 in
set_option maxRecDepth 1000000 in
theorem zwe (w:World)(hb:0<w.heap.size)(hn:w.cell? ⟨0,3,none⟩=some (.string ⟨#[108,101,97,112]⟩)) :
  Calls prog 133 #[.agg #[.int .i64 3,.int .i64 2,.int .i64 2,.int .i64 3,.int .i64 0]] w fun e w'=>e=.returned (.string ⟨#[108,101,97,112,32,50,32,50,32,51]⟩)∧Below w.heap.size w w':=by
 have mixed:prog.follows .mixedOrders=true:=rfl
 have rG:∀o,(w.alloc o).cell? ⟨0,3,none⟩=some (.string ⟨#[108,101,97,112]⟩):=fun o=>(AV (heap_alloc_old _ _ hb)).trans hn
 go_enter func133,ntmps133
 go_wp2_with fail
 go_quiet (first|(go_at_call_of 162 (Value.int .i64 2);exact Calls.quiet_of_same (Ri _)))
 go_wp2_with (go_at_call 162;refine(Z6 _).mono ?_;rintro e w' ⟨rfl,rfl⟩)
 go_ret
 exact⟨congrArg (fun s=>Ending.returned (Value.string s)) (by decide +kernel),rfl,rfl,rfl,by simp[World.drewN],fun k hk=>heap_alloc_old _ _ hk⟩
set_option maxHeartbeats 4000000 in
set_option maxRecDepth 1000000 in
theorem z1a (w:World)(hb:0<w.heap.size)(hn:w.cell? ⟨0,1,none⟩=some (.string ⟨#[109,105,120]⟩)) :
  Calls prog 133 #[.agg #[.int .i64 1,.int .i64 5,.int .i64 2,.int .i64 0,.int .i64 8]] w fun e w'=>e=.returned (.string ⟨#[109,105,120,32,53,32,50,32,56]⟩)∧Below w.heap.size w w':=by
 have mixed:prog.follows .mixedOrders=true:=rfl
 have rG:∀o,(w.alloc o).cell? ⟨0,1,none⟩=some (.string ⟨#[109,105,120]⟩):=fun o=>(AV (heap_alloc_old _ _ hb)).trans hn
 go_enter func133,ntmps133
 go_wp2_with fail
 go_quiet (first|(go_at_call_of 162 (Value.int .i64 2);exact Calls.quiet_of_same (Ri _))|(go_at_call_of 162 (Value.int .i64 5);exact Calls.quiet_of_same (Z8 _)))
 go_wp2_with (go_at_call 162;refine(z8j _).mono ?_;rintro e w' ⟨rfl,rfl⟩)
 go_ret
 exact⟨congrArg (fun s=>Ending.returned (Value.string s)) (by decide +kernel),rfl,rfl,rfl,by simp[World.drewN],fun k hk=>heap_alloc_old _ _ hk⟩
set_option maxHeartbeats 4000000 in
set_option maxRecDepth 1000000 in
theorem zul (w:World)(hb:0<w.heap.size)(hn:w.cell? ⟨0,4,none⟩=some (.string ⟨#[116,119,105,99,101]⟩)) :
  Calls prog 133 #[.agg #[.int .i64 4,.int .i64 7,.int .i64 4,.int .i64 1,.int .i64 0]] w fun e w'=>e=.returned (.string ⟨#[116,119,105,99,101,32,55,32,52,32,49]⟩)∧Below w.heap.size w w':=by
 have mixed:prog.follows .mixedOrders=true:=rfl
 have rG:∀o,(w.alloc o).cell? ⟨0,4,none⟩=some (.string ⟨#[116,119,105,99,101]⟩):=fun o=>(AV (heap_alloc_old _ _ hb)).trans hn
 go_enter func133,ntmps133
 go_wp2_with fail
 go_quiet (first|(go_at_call_of 162 (Value.int .i64 4);exact Calls.quiet_of_same (Z7 _))|(go_at_call_of 162 (Value.int .i64 7);exact Calls.quiet_of_same (Z9 _)))
 go_wp2_with (go_at_call 162;refine(Z5 _).mono ?_;rintro e w' ⟨rfl,rfl⟩)
 go_ret
 exact⟨congrArg (fun s=>Ending.returned (Value.string s)) (by decide +kernel),rfl,rfl,rfl,by simp[World.drewN],fun k hk=>heap_alloc_old _ _ hk⟩
set_option maxHeartbeats 4000000 in
set_option maxRecDepth 1000000 in
theorem zse (w:World) :
  Calls prog 132 #[.agg #[.int .i64 3,.int .i64 2,.int .i64 2,.int .i64 3,.int .i64 0]] w fun e w'=>e=.returned (.bool true)∧Below w.heap.size w w':=by
 have mixed:prog.follows .mixedOrders=true:=rfl
 go_enter func132,ntmps132
 go_wp2
 go_ret
 refine⟨rfl,rfl,rfl,rfl,by simp;omega,fun k hk=>?_⟩
 rw[heap_alloc_old _ _ (by simp;omega),heap_alloc_old _ _ hk]
set_option maxHeartbeats 4000000 in
set_option maxRecDepth 1000000 in
theorem zuo (w:World) :
  Calls prog 132 #[.agg #[.int .i64 1,.int .i64 5,.int .i64 2,.int .i64 0,.int .i64 8]] w fun e w'=>e=.returned (.bool true)∧Below w.heap.size w w':=by
 have mixed:prog.follows .mixedOrders=true:=rfl
 go_enter func132,ntmps132
 go_wp2
 go_ret
 refine⟨rfl,rfl,rfl,rfl,by simp;omega,fun k hk=>?_⟩
 rw[heap_alloc_old _ _ (by simp;omega),heap_alloc_old _ _ hk]
set_option maxHeartbeats 4000000 in
set_option maxRecDepth 1000000 in
theorem zp2 (w:World) :
  Calls prog 132 #[.agg #[.int .i64 4,.int .i64 7,.int .i64 4,.int .i64 1,.int .i64 0]] w fun e w'=>e=.returned (.bool true)∧Below w.heap.size w w':=by
 have mixed:prog.follows .mixedOrders=true:=rfl
 go_enter func132,ntmps132
 go_wp2
 go_ret
 refine⟨rfl,rfl,rfl,rfl,by simp;omega,fun k hk=>?_⟩
 rw[heap_alloc_old _ _ (by simp;omega),heap_alloc_old _ _ hk]
def Mg:List ByteArray:=[⟨#[]⟩,⟨#[109,105,120]⟩,⟨#[111,109,105,116]⟩,⟨#[108,101,97,112]⟩,⟨#[116,119,105,99,101]⟩,⟨#[103,108,111,115,115]⟩,⟨#[97,100,100]⟩]
structure Names [bG]:Prop where
  k:0<bG.K
  nm:∀w:World,w.heap[0]?=bG.obj 0→∀(k:Nat) s,Mg[k]?=some s→w.cell? ⟨0,k,none⟩=some (.string s)
  dr:¬bG.dr
theorem DP {g:Fz}{σ:Sg}{l:List Int}{aB:List Value}{U:Mu}{a6:Array Value}(ha:be (VR g σ 0) [.agg (l.map (.int .i64))] aB)(hr:br U aB a6.toList):a6=#[.agg (l.map (Value.int .i64)).toArray]:=by
 obtain⟨a1,rfl⟩:∃a1,aB=[a1]:=by
  have h1:=ha.1
  match aB,h1 with
  |[a],_=>exact⟨a,rfl⟩
 have h1:=(ha.2 0 _ a1 rfl rfl).ints
 subst h1
 obtain⟨c,r',hc,hv,jb⟩:=hr.dw
 have h2:=jb.iW
 subst h2
 rw[EM (zu4 l) hv] at hc
 exact Array.toList_inj.1 hc
theorem Mh:Builder.Extra prog Rh where
  sizeBuilder:=by kernel_rfl
  liesBuilder:=by kernel_rfl
  t5:=underlying5
  a5:=isAgg5
  z5:=sizeOf5
  v5:=zeroValue5
  infoByte:=by kernel_rfl
  cellsByte:=by kernel_rfl
  sizeByte:=by kernel_rfl
  neB5:=by decide
section
variable [bG]
theorem Mi (hd:¬bG.dr)(xs:List ByteArray)(hx:xs≠[])(sep:ByteArray)(hN:xs.length≤140737488355328)(hlen:(Lib.join (xs.map (·.data.toList)) sep.data.toList).length≤140737488355328) :
  aN prog 134 [.vec (xs.map .str),.str sep] fun r=>r=.str ⟨(Lib.join (xs.map (·.data.toList)) sep.data.toList).toArray⟩:=
 aN.world hd (fun g=>.str _) rfl rfl fun lo g σ h aB U w a6 ha s hr r=>by
  have hp:0<xs.length:=List.length_pos_iff.2 hx
  obtain⟨a1,a2,rfl⟩:∃a1 a2,aB=[a1,a2]:=by
   have h1:=ha.1
   match aB,h1 with
   |[a,b],_=>exact⟨a,b,rfl⟩
  have h1:=ha.2 0 _ a1 rfl rfl
  have h2:=ha.2 1 _ a2 rfl rfl
  obtain⟨c1,r1,gZ,iP,oU⟩:=hr.dw
  obtain⟨c2,r2,rfl,eT,jb⟩:=oU.dw
  have h3:=jb.iW
  subst h3
  obtain rfl:a2=.string sep:=by cases h2 with|fr _ _ h2=>cases h2;rfl
  rw[EM rfl eT] at gZ
  cases h1 with
  |fr _ _ h1=>
   generalize pf:xs.map PV.str=es at h1
   have Gi:es.length=xs.length:=by rw[← pf,List.length_map]
   cases h1 with
   |fu=>simp at Gi;omega
   |de=>simp at Gi;omega
   |vec _ o off k Ia sz ar hk dL hg h0 fp hl rr=>
    obtain rfl:sz=1:=by
     have:=fp 0 (.str xs[0]) (by rw[← pf];simp[hp])
     simpa[PV.cells] using this.symm
    have o7:=r.bg o _ (s.fz o _ hg)
    obtain⟨b,a,C,hm,hb,kH,_⟩:=o7
    have oN:∀(j:Nat) x,xs[j]?=some x→w.cell? ⟨b,a+off+j,none⟩=some (.string x):=fun j x hj=>by
     have dY:=(List.getElem?_eq_some_iff.1 hj).1
     obtain⟨u,hu⟩:∃u,ar[off+j]?=some u:=⟨_,List.getElem?_eq_getElem (by omega)⟩
     have DQ:=rr j (.str x) 0 (.str x) u (by rw[← pf,List.getElem?_map,hj];rfl) (by simp[PV.cells]) (by simpa using hu)
     obtain⟨u',k1,k2⟩:=kH (off+j) u hu
     cases DQ
     rw[EM rfl k2] at k1
     rw[Nat.add_assoc];exact k1
    generalize q8:es.length=n1 at iP
    cases iP with
    |slice _ _ _ _ b1 a1 C1 cq lj lp=>
     rw[hm] at cq;injection cq with cq;injection cq with e1 e2;injection e2 with e2 e3;subst e1;subst e2;subst e3
     obtain rfl:a6=#[.slice (some ⟨b,a+off,none⟩) n1 (gj C k),.string sep]:=Array.toList_inj.1 gZ
     rw[show n1=xs.length by omega]
     exact Any.strings_Join Z4 Mh b (a+off) (gj C k) xs sep w oN hb hN (by omega) hlen
    |bS=>omega
    |cg=>omega
theorem zwf (hN:Names):aN prog 133 [.agg ([3,2,2,3,0].map (.int .i64))] fun r=>r=.str ⟨#[108,101,97,112,32,50,32,50,32,51]⟩:=
 aN.world hN.dr (fun g=>.str _) rfl rfl fun lo g σ h aB U w a6 ha s hr r=>by
  obtain rfl:=DP ha hr
  exact zwe w (Nat.lt_of_lt_of_le hN.k r.jE.ks) (hN.nm w (r.jE.gl 0 hN.k) 3 _ rfl)
theorem zy9 (hd:¬bG.dr):aN prog 132 [.agg ([3,2,2,3,0].map (.int .i64))] fun r=>r=.bool true:=
 aN.world hd (fun g=>.bool _) rfl rfl fun lo g σ h aB U w a6 ha s hr r=>by
  obtain rfl:=DP ha hr
  exact zse w
theorem z0s (hN:Names):aN prog 133 [.agg ([1,5,2,0,8].map (.int .i64))] fun r=>r=.str ⟨#[109,105,120,32,53,32,50,32,56]⟩:=
 aN.world hN.dr (fun g=>.str _) rfl rfl fun lo g σ h aB U w a6 ha s hr r=>by
  obtain rfl:=DP ha hr
  exact z1a w (Nat.lt_of_lt_of_le hN.k r.jE.ks) (hN.nm w (r.jE.gl 0 hN.k) 1 _ rfl)
theorem zzh (hd:¬bG.dr):aN prog 132 [.agg ([1,5,2,0,8].map (.int .i64))] fun r=>r=.bool true:=
 aN.world hd (fun g=>.bool _) rfl rfl fun lo g σ h aB U w a6 ha s hr r=>by
  obtain rfl:=DP ha hr
  exact zuo w
theorem zvm (hN:Names):aN prog 133 [.agg ([4,7,4,1,0].map (.int .i64))] fun r=>r=.str ⟨#[116,119,105,99,101,32,55,32,52,32,49]⟩:=
 aN.world hN.dr (fun g=>.str _) rfl rfl fun lo g σ h aB U w a6 ha s hr r=>by
  obtain rfl:=DP ha hr
  exact zul w (Nat.lt_of_lt_of_le hN.k r.jE.ks) (hN.nm w (r.jE.gl 0 hN.k) 4 _ rfl)
theorem zvf (hd:¬bG.dr):aN prog 132 [.agg ([4,7,4,1,0].map (.int .i64))] fun r=>r=.bool true:=
 aN.world hd (fun g=>.bool _) rfl rfl fun lo g σ h aB U w a6 ha s hr r=>by
  obtain rfl:=DP ha hr
  exact zp2 w
end
open Go Go.Am Go.Proofs Tryz
attribute [local simp] fZ jh tW eo jM pg ai.back dE ji nr bm Nat.testBit_eq_decide_div_mod_eq cN jL o9 vO sy kh sA jY dh qq qo ss ki su rp oz tU rm sv sg sd sh se sf sj sn pO gz lq fY sB qt rq sC sD pN tR tS kg pa iz gO iA nc jF qZ qe qf kL rY bp rl gN bZ cm nR ai.get ai.alloc ai.put ai.drop ai.empty bs dN jz kx gA cG chunk List.range List.range.loop ns tX oA bK cA PV.aH PV.aJ PV.dU PV.gM kQ kj ru PV.one PV.ids PV.di ia beq_eq vc xq
attribute [local simp] cQ bQ km tZ y1 ue uf sU jk gr
attribute [local simp ↓ high] xu vi
def pY (l:List aq):List PV:=(l.flatMap lS++[0,0,0,0,0]).map (PV.int .i64)
theorem z6o (l:List aq):(l.flatMap lS++[0,0,0,0,0]).map (PV.int .i64)=pY l:=rfl
theorem Rj (l:List aq):(l.flatMap lS).length=l.length*5:=by
 induction l with
 |nil=>rfl
 |cons a r ih=>rw[List.flatMap_cons,List.length_append,ih,List.length_cons];show 5+_=_;omega
@[simp] theorem xbg (l:List aq):(pY l).length=l.length*5+5:=by unfold pY;rw[List.length_map,List.length_append,Rj];rfl
theorem Rk (l:List aq):pY l=(l.map encS).flatMap PV.cells++[.int .i64 0,.int .i64 0,.int .i64 0,.int .i64 0,.int .i64 0]:=by
 unfold pY
 rw[List.map_append]
 congr 1
 induction l with
 |nil=>rfl
 |cons a r ih=>rw[List.flatMap_cons,List.map_append,ih];rfl
theorem Rl (l:List aq):kY 5 (l.map encS):=.map (g:=fun s=>[.int .i64 s.k,.int .i64 s.a,.int .i64 s.i,.int .i64 s.l,.int .i64 s.w]) (fun _=>rfl) (fun _=>rfl) l
theorem Mj (D R:List aq)(s:aq):∃A B,pY (D++s::R)=A++(.int .i64 s.k::.int .i64 s.a::.int .i64 s.i::.int .i64 s.l::.int .i64 s.w::B)∧A.length=D.length*5∧∀x,pY (D++{ s with i:=x }::R)=A++(.int .i64 s.k::.int .i64 s.a::.int .i64 x::.int .i64 s.l::.int .i64 s.w::B):=by
 refine⟨(D.flatMap lS).map (PV.int .i64),(R.flatMap lS++[0,0,0,0,0]).map (PV.int .i64),?_,by rw[List.length_map,Rj],fun x=>?_⟩
 ·unfold pY
  rw[List.flatMap_append,List.append_assoc,List.map_append];rfl
 unfold pY
 rw[List.flatMap_append,List.append_assoc,List.map_append];rfl
theorem Rm {D R:List aq}{s:aq}{k:Nat}(hk:D.length=k):(pY (D++s::R))[k*5+1]?=some (.int .i64 s.a)∧(pY (D++s::R))[k*5+2]?=some (.int .i64 s.i):=by
 obtain⟨A,B,h1,h2,_⟩:=Mj D R s
 rw[h1,← hk,← h2]
 constructor
 ·rw[List.getElem?_append_right (by omega)];simp
 rw[List.getElem?_append_right (by omega)];simp
theorem z1l {D R:List aq}{s:aq}{k:Nat}(hk:D.length=k):(List.drop (k*5) (pY (D++s::R))).take 5=[.int .i64 s.k,.int .i64 s.a,.int .i64 s.i,.int .i64 s.l,.int .i64 s.w]:=by
 obtain⟨A,B,h1,h2,_⟩:=Mj D R s
 rw[h1,← hk,← h2,List.drop_left];rfl
theorem z6b {D R:List aq}{s:aq}{k:Nat}(hk:D.length=k)(x:Int):(pY (D++s::R)).take (k*5+2)++.int .i64 x::(pY (D++s::R)).drop (k*5+2+1)=pY (D++{ s with i:=x }::R):=by
 obtain⟨A,B,h1,h2,h3⟩:=Mj D R s
 rw[h1,h3,← hk,← h2]
 have h0:A.drop (A.length+2+1)=[]:=List.drop_eq_nil_of_le (by omega)
 rw[List.take_append,List.take_of_length_le (by omega),List.drop_append,h0]
 rw[Nat.add_sub_cancel_left,show A.length+2+1 - A.length=3 by omega]
 simp
theorem z9a:aD y9=.agg [.int .i64 0,.int .i64 0,.int .i64 0,.int .i64 0,.int .i64 0,.vec [],.vec [],.vec [],.vec []]:=rfl
theorem z5b (e:Int):dO (.bn [.agg [.int .i64 0,.int .i64 0,.int .i64 0,.int .i64 0,.int .i64 0,.aG,.aG,.aG,.aG],.aG,.int .i64 e]) (.bn [aD y9,.vec [],.int .i64 e]):=by
 rw[z9a]
 exact Fx (.cons (.j7 (.cons (.same _ rfl) (.cons (.same _ rfl) (.cons (.same _ rfl) (.cons (.same _ rfl) (.cons (.same _ rfl) (.cons .dV (.cons .dV (.cons .dV (.cons .dV .nil)))))))))) (.cons .dV (.cons (.same _ rfl) .nil)))
variable [bG] in
theorem p54 (c:ao)(l:List aq)(k0:Int)(hB:BC c)(da:l.length≤200):aN prog 54 [aD c,.vec (l.map encS),.int .i64 k0] fun r=>dO r (.bn [aD (IH c l k0),.vec ((II c l k0).map encS),.int .i64 (xO c l k0)]):=by
 have cK:=rz c hB
 have mR:=Gb c l
 have dX:=fun r hk hl=>aN.soft (Cq c r hk hl) (LX c r)
 have jA:=sE k0 0 ((l.length:Int) - 1)
 have b7:=fun s hk=>BQ c s hk
 have hC:cw c=(cQ c):=rfl
 have hE:∀s:aq,encS s=.agg [.int .i64 s.k,.int .i64 s.a,.int .i64 s.i,.int .i64 s.l,.int .i64 s.w]:=fun _=>rfl
 have np:IntKind.i64.wrap ((l.length:Int) - 1)=(l.length:Int) - 1:=wrap64 (by omega) (by omega)
 have iO:xO c l k0=if bf c≠0 then bf c else if cF c l=none∨¬(0≤k0∧k0≤(l.length:Int) - 1) then 1 else if 48<(DN c (AF c l k0)).length then 2 else 0:=rfl
 have DS:IH c l k0=if xO c l k0=0 then { c with c:=DN c (AF c l k0) } else y9:=rfl
 have Gj:II c l k0=if xO c l k0=0 then AF c l k0 else []:=rfl
 obtain⟨e,he⟩:∃e,bf c=e:=⟨_,rfl⟩
 have er:=he
 rw[he] at cK mR dX b7 iO
 unfold aD at cK mR dX b7
 rw[hC] at cK mR dX b7
 obtain⟨wi,dW⟩:∃b,(decide (0≤k0)&&decide (k0≤(l.length:Int) - 1))=b:=⟨_,rfl⟩
 rw[dW] at jA
 obtain⟨xb,DT⟩:∃b,(cF c l).isSome=b:=⟨_,rfl⟩
 obtain⟨xn,hxn⟩:∃b,(cF c l).getD 0=b:=⟨_,rfl⟩
 rw[DT,hxn] at mR
 show aN prog 54 [.agg (cw c),.vec (l.map encS),.int .i64 k0] _
 rw[hC]
 have jQ:xO c l k0≠0→∀x,xO c l k0=x→dO (.bn [.agg [.int .i64 0,.int .i64 0,.int .i64 0,.int .i64 0,.int .i64 0,.aG,.aG,.aG,.aG],.aG,.int .i64 x]) (.bn [aD (IH c l k0),.vec ((II c l k0).map encS),.int .i64 (xO c l k0)]):=fun h x hx=>by
  rw[DS,Gj,if_neg h,if_neg h,hx]
  exact z5b x
 refine .bP func54 rfl rfl ?_
 refine .sr ?_
 refine .seq (.seq (.au [0,1,2] rfl af (.rn [0] _ ?_)))
 refine .pc rfl rfl rfl rfl rfl call55 (cK) ?_
 refine .rn [2] [] ?_
 refine .done (.sr ?_)
 refine .cs ?_ ?_<;>intro fg
 ·try simp at fg
  rw[if_pos fg] at iO
  refine .sr ?_
  refine .ret (aA ?_)
  exact jQ (by rw[iO];exact fg) _ iO
 try simp at fg
 subst fg
 rw[if_neg (by simp)] at iO
 have bj:=iC er
 refine .skip (.seq (.seq (.au lV rfl af (.rn [0,1] _ ?_))))
 refine .pc rfl rfl rfl rfl rfl call100 (mR rfl da) ?_
 refine .rn [3,4,5,6,7] [] ?_
 refine .done (.seq (.au fw rfl af ?_))
 refine .rn [0,1,2] _ ?_
 refine .split (t:=38) rfl (fun nt=>?_) (fun nt=>?_)
 ·try subst nt
  try simp at nt
  have uH:cF c l=none:=by rw[nt] at DT;cases hh:cF c l with|none=>rfl|some v=>rw[hh] at DT;cases DT
  rw[if_pos (.inl uH)] at iO
  refine .rn [3,4,5,6,7,8,9] [] ?_
  refine .done (.ep rfl (.sr ?_))
  refine .ret (aA ?_)
  exact jQ (by rw[iO];decide) _ iO
 try subst nt
 try simp at nt
 obtain⟨xv,uH⟩:∃v,cF c l=some v:=by rw[nt] at DT;exact Option.isSome_iff_exists.1 DT
 refine .rn [3,4,5,6] _ ?_
 refine .pc rfl rfl rfl rfl rfl call85 (jA) ?_
 refine .rn [8,9] [] ?_
 refine .done ?_
 refine .cs ?_ ?_<;>intro IJ
 ·try simp at IJ
  have nO:¬(0≤k0∧k0≤(l.length:Int) - 1):=fun hh=>by rw[IJ] at dW;simp[hh.1,hh.2] at dW
  rw[if_pos (.inr nO)] at iO
  refine .sr ?_
  refine .ret (aA ?_)
  exact jQ (by rw[iO];decide) _ iO
 try simp at IJ
 have nO:0≤k0∧k0≤(l.length:Int) - 1:=by rw[IJ] at dW;simpa using dW
 rw[if_neg (by rw[uH];simp[nO])] at iO
 obtain⟨k,rfl⟩:∃k:Nat,k0=k:=⟨k0.toNat,by omega⟩
 have gP:k<l.length:=by omega
 have h0:0<l.length:=by omega
 have Fg:=gD k
 have Ad:=(Q6 uH).erase bj k
 have Rn:=MI.start Ad
 have lf:(l.eraseIdx k).length=l.length - 1:=by rw[List.length_eraseIdx,if_pos gP]
 have hmR:AF c l k=vN c (l.eraseIdx k) 0 0:=by unfold AF;rw[Int.toNat_natCast]
 rw[hmR] at iO DS Gj
 refine .skip (.seq (.au gE rfl af (.rn [0] _ ?_)))
 refine .step rfl rfl (.call rfl rfl rfl call112 (by decide) (((du.vQ (by simp) (ZV l (by omega) h0) rfl h0)).mono ?_))
 rintro _ _ ⟨rfl,rfl⟩
 refine .rn [2,3,4] _ ?_
 refine .step rfl rfl (.call rfl rfl rfl call111 (by decide) (((L6 (zs:=l) (i:=2) (nl:=false) (n:=l.length) (k:=k) (by simp) rfl gP)).mono ?_))
 rintro _ _ ⟨rfl,rfl⟩
 rw[z6o]
 refine .rn [6] [] ?_
 refine .done (.sr ?_)
 refine .seq (.sr ?_)
 refine .block ?_
 refine .ec (fun z:List aq×List aq×Nat×Nat=>([(3,.ptr 0 0),(6,.ptr 1 0),(12,.sub 2 0 (l.length - 1)),(13,.int .i64 z.2.2.1),(14,.int .i64 z.2.2.2),(54,.int .i64 (l.length - 1:Nat)),(55,.int .i64 z.1.length)],⟨3,[(2,.arr true 5 (pY (z.1++z.2.1))),(1,.box [.int .i64 0,.int .i64 0,.int .i64 0,.int .i64 0,.int .i64 0,.aG,.aG,.aG,.aG]),(0,.box (cQ c))]⟩)) (fun z=>MI c (l.eraseIdx k) z.1 z.2.1 z.2.2.1 z.2.2.2) (fun z=>z.2.1.length) ([],l.eraseIdx k,0,0) Rn bT ?_
 clear Rn Ad
 rintro⟨D,R,i,j⟩ hM
 simp only at hM ⊢
 have IK:=hM.hl
 rw[lf] at IK
 have dx:=hM.hi
 have dY:=hM.hj
 have oB:=bj.tl
 refine .sr ?_
 refine .seq ?_
 refine .cs ?_ ?_<;>intro Ro
 ·try simp at Ro
  obtain⟨s,R',rfl⟩:∃s R',R=s::R':=by
   cases R with
   |nil=>simp at IK;omega
   |cons s R'=>exact⟨s,R',rfl⟩
  obtain⟨sk,sa,si,sl,sw⟩:=s
  obtain⟨g1,g2,n,i',w,hd,g3⟩:=hM.ch
  simp only at g1 g2
  obtain⟨a,rfl⟩:∃a:Nat,sa=a:=⟨sa.toNat,by omega⟩
  obtain⟨d1,d2,d3,d4,d5,d6⟩:=kS bj hd
  have IL:=hM.next bj hd
  simp only[Int.toNat_natCast] at IL d2 d3 d5
  obtain⟨x,hx⟩:∃x:Nat,j+(a - i)=x:=⟨_,rfl⟩
  rw[hx] at IL
  have eO:IntKind.i64.wrap ((j:Int)+(a:Int))=(j:Int)+(a:Int):=wrap64 (by omega) (by omega)
  have rB:IntKind.i64.wrap ((j:Int)+(a:Int) - (i:Int))=(x:Int):=by rw[wrap64 (by omega) (by omega)];omega
  have BV:IntKind.i64.wrap ((x:Int)+(w.length:Int))=(x:Int)+(w.length:Int):=wrap64 (by omega) (by omega)
  have hw6:IntKind.i64.wrap (x:Int)=(x:Int):=wrap64 (by omega) (by omega)
  have xC:IntKind.i64.wrap ((D.length:Int)+1)=(D.length:Int)+1:=wrap64 (by omega) (by omega)
  have Gk:=(Rm (D:=D) (R:=R') (s:=⟨sk,a,si,sl,sw⟩) (k:=D.length) rfl).1
  have pw:=z6b (D:=D) (R:=R') (s:=⟨sk,a,si,sl,sw⟩) (k:=D.length) rfl (x:Int)
  have Gm:=(Rm (D:=D) (R:=R') (s:=⟨sk,a,x,sl,sw⟩) (k:=D.length) rfl).2
  have Gn:=z1l (D:=D) (R:=R') (s:=⟨sk,a,x,sl,sw⟩) (k:=D.length) rfl
  have tK:aK c ⟨sk,a,x,sl,sw⟩=some (n,i',w):=by
   have:=Q7 (c:=c) (s:=⟨sk,a,si,sl,sw⟩) (x:=x) (by omega) d2.2.2
   rw[hd] at this;exact this
  have b7:=b7 ⟨sk,a,x,sl,sw⟩ rfl
  rw[ua tK,hE] at b7
  unfold gd at b7
  simp only at Gm Gn b7 Gk pw
  have kf:D.length*5≤(D.length+(R'.length+1))*5+2:=by omega
  have cS:D.length*5≤(D.length+(R'.length+1))*5:=by omega
  rcases IF w with⟨rfl,hw⟩|hw<;>rw[hw] at b7
  ·skip
   refine .skip (.seq (.block (.sr ?_)))
   refine .sr ?_
   refine .sr ?_
   refine .seq ?_
   refine .rD (ms:=[0,0,2,6,15,31,63,63,63,63,0,1151,3327,7679,16383]) (W:=[4,13]) (As:=[10]) (items:=Rp) rfl af af af af (by decide) ?_
   iterate 4 refine .rf ?_
   refine .al rfl rfl (by decide) (by decide) (by decide) (by decide) fA ?_
   refine .wr rfl rfl (by decide) (.pure rfl rfl rfl call95 (by decide) (b7) (by first|rfl|simp[*]) ?_)
   rintro _ rfl
   iterate 7 refine .rf ?_
   refine .wr rfl rfl (by decide) (.eo fA (by decide) ?_)
   refine .rf ?_
   refine .done ?_
   refine .drawn (ms:=[0,1,0,4,12,28,0,64,252,3,1023]) (W:=[]) (items:=zb) rfl af af af ?_
   iterate 11 refine .rx ?_
   refine .done (.rn ?_)
   refine⟨(D++[(⟨sk,a,x,sl,sw⟩:aq)],R',i',x),IL,Nat.lt_succ_self _,?_⟩
   rw[show (D++[(⟨sk,a,x,sl,sw⟩:aq)]++R')=D++(⟨sk,a,x,sl,sw⟩:aq)::R' by simp]
   exact bT
  skip
  refine .skip (.seq (.block (.sr ?_)))
  refine .sr ?_
  refine .sr ?_
  refine .seq ?_
  refine .rD (ms:=[0,0,2,6,15,31,63,63,63,63,0,1151,3327,7679,16383]) (W:=[4,13]) (As:=[10]) (items:=Rp) rfl af af af af (by decide) ?_
  iterate 4 refine .rf ?_
  refine .al rfl rfl (by decide) (by decide) (by decide) (by decide) fA ?_
  refine .wr rfl rfl (by decide) (.pure rfl rfl rfl call95 (by decide) (b7) (by first|rfl|simp[*]) ?_)
  rintro _ rfl
  iterate 7 refine .rf ?_
  refine .wr rfl rfl (by decide) (.eo fA (by decide) ?_)
  refine .rf ?_
  refine .done ?_
  refine .drawn (ms:=[0,1,0,4,12,28,0,64,252,3,1023]) (W:=[]) (items:=zb) rfl af af af ?_
  iterate 11 refine .rx ?_
  refine .done (.rn ?_)
  refine⟨(D++[(⟨sk,a,x,sl,sw⟩:aq)],R',i',x+w.length),IL,Nat.lt_succ_self _,?_⟩
  rw[show (D++[(⟨sk,a,x,sl,sw⟩:aq)]++R')=D++(⟨sk,a,x,sl,sw⟩:aq)::R' by simp]
  exact bT
 try simp at Ro
 obtain rfl:R=[]:=by
  cases R with
  |nil=>rfl
  |cons s R'=>simp at IK;omega
 have Rq:=hM.stop
 have vL:D.length=l.length - 1:=by simpa using IK
 obtain⟨o,m,r9⟩:=ZG bj (by have:=(Q6 uH).erase bj k;exact this)
 rw[← Rq] at r9 iO DS Gj
 have hO:DN c D=o:=by unfold DN;rw[r9]
 rw[hO] at iO DS
 have dX:=dX D rfl (by omega)
 clear Rq
 rw[show vK c D=.bn [ints o,.int .i64 m,.bool true] by unfold vK;rw[r9]] at dX
 refine .exit (.seq ?_)
 simp only[List.append_nil]
 refine .rec (ax:=[(3,.ptr 0 0),(6,.ptr 1 0),(12,.vec (D.map encS))]) (aP:=⟨2,[(1,.box [.int .i64 0,.int .i64 0,.int .i64 0,.int .i64 0,.int .i64 0,.aG,.aG,.aG,.aG]),(0,.box (cQ c))]⟩) (.mk [2] [] (by repeat' (first|exact trivial|exact trivial|exact Alt.qH 2 0 _ true 5 _ _ rfl rfl (IM (by rw[Rk];rfl) (Rl D) (by simpa using vL))|refine And.intro (Exists.intro _ (And.intro rfl ?_)) ?_|(refine Alt.same _ ?_;first|rfl|(simp[*];done))|exact Alt.ba _ _ (aU rfl) rfl|exact Alt.grow _ _ _ _ (aU rfl) rfl|(refine Alt.xM _ _ _ _ _ ?_ (aU rfl) rfl;simp[*];done)|exact Alt.ptr _ _ _ (aU rfl) rfl|exact Alt.own _ _ _ _ _ (aU rfl) rfl|exact Alt.sub _ _ _ _ (aU rfl) rfl|exact Alt.bw _ _ (aU rfl) rfl|exact Alt.aG _ _|(refine Alt.mQ _ _ _ ?_;simp[*];done)|exact Alt.e0 _|exact Alt.dA aF.nil (aF.cons (Alt.ptr _ _ _ (aU rfl) rfl) aF.nil)|exact Alt.dV|exact Alt.lZ _ _ _|(refine Alt.bR _ _ _ _ _ rfl rfl ?_;simp[*];done)|exact Alt.gU _ _ _ _ _ _ _ _ rfl rfl rfl|exact Alt.dD _ _ rfl rfl|(refine Alt.xN ?_;simp[*]<;>rfl)|(refine Alt.ofEq rfl ?_;simp[*];done))) (by repeat' (first|exact trivial|exact trivial|exact Alt.qH 2 0 _ true 5 _ _ rfl rfl (IM (by rw[Rk];rfl) (Rl D) (by simpa using vL))|refine And.intro (And.intro (aU rfl) (Or.inr (And.intro rfl (Exists.intro _ (And.intro rfl ?_))))) ?_|refine And.intro (And.intro (aU rfl) (Or.inl (Exists.intro _ (And.intro rfl (aU rfl))))) ?_|refine And.intro (And.intro (aU rfl) (Or.inl (Exists.intro _ (And.intro (congrArg (aL.grow _) (by simp[*])) (aU rfl))))) ?_|rfl|exact aF.nil|(refine congrArg (aL.grow _) ?_;simp[*];done)|(refine congrArg aL.map ?_;simp[*];done)|(refine congrArg (aL.arr _ _) ?_;simp[*];done)|refine pX.mk rfl rfl rfl rfl rfl ?_|refine And.intro (Exists.intro _ (And.intro rfl ?_)) ?_|refine aF.cons ?_ ?_|(refine Alt.same _ ?_;first|rfl|(simp[*];done))|exact Alt.ba _ _ (aU rfl) rfl|exact Alt.grow _ _ _ _ (aU rfl) rfl|(refine Alt.xM _ _ _ _ _ ?_ (aU rfl) rfl;simp[*];done)|exact Alt.ptr _ _ _ (aU rfl) rfl|exact Alt.own _ _ _ _ _ (aU rfl) rfl|exact Alt.sub _ _ _ _ (aU rfl) rfl|exact Alt.bw _ _ (aU rfl) rfl|exact Alt.aG _ _|(refine Alt.mQ _ _ _ ?_;simp[*];done)|exact Alt.e0 _|exact Alt.dA aF.nil (aF.cons (Alt.ptr _ _ _ (aU rfl) rfl) aF.nil)|exact Alt.dV|exact Alt.lZ _ _ _|(refine Alt.bR _ _ _ _ _ rfl rfl ?_;simp[*];done)|exact Alt.gU _ _ _ _ _ _ _ _ rfl rfl rfl|exact Alt.dD _ _ rfl rfl|(refine Alt.xN ?_;simp[*]<;>rfl)|(refine Alt.ofEq rfl ?_;simp[*];done))) rfl rfl rfl) ?_
 refine .au fw rfl af (.rn [0,1] _ ?_)
 refine .pc rfl rfl rfl rfl rfl call110 (dX) ?_
 refine .rn [3,4,5,6,7,8,9] [] ?_
 refine .done (.seq (.sr ?_))
 refine .cs ?_ ?_<;>intro qI
 ·try simp at qI
  rw[if_pos (by omega)] at iO
  refine .sr ?_
  refine .ret (aA ?_)
  exact jQ (by rw[iO];decide) _ iO
 try simp at qI
 rw[if_neg (by omega)] at iO
 rw[if_pos iO] at DS Gj
 have Ct:=Md c er
 unfold aD at Ct
 rw[hC] at Ct
 refine .skip (.seq (.au [0,1,2] rfl af (.rn [0] _ ?_)))
 refine .pc rfl rfl rfl rfl rfl call101 (Ct) ?_
 refine .rn [2] [] ?_
 refine .done (.sr ?_)
 refine .sr ?_
 refine .ret (aA ?_)
 rw[DS,Gj,iO];exact ly rfl
def oH (l:List Int):ao:={ om:=4,le:=3,tw:=3,gl:=2,ad:=5,mx:=[⟨4,8,2⟩],t:=[5,7,3,9,7,4,6],g:=[⟨3,[11]⟩],c:=l }
section
variable [bG]
theorem Rr  : aN prog 76 [] fun r=>r=.agg [.int .i64 4,.int .i64 3,.int .i64 3,.int .i64 2,.int .i64 5,.vec [bu ⟨4,8,2⟩]]:=by
 refine .bP func76 rfl rfl ?_
 refine .sr ?_
 refine .sr ?_
 refine .ret (aA ?_)
 exact zk
theorem p74 (l:List Int):aN prog 74 [ints l] fun r=>r=aD (oH l):=by
 refine .bP func74 rfl rfl ?_
 refine .sr ?_
 refine .seq (.au lV rfl af ?_)
 refine .pc rfl rfl rfl rfl rfl call76 (Rr) ?_
 refine .rn [1,2] _ ?_
 refine .step rfl rfl (.qy (ax:=[(5,ints [11]),(4,ints [5,7,3,9,7,4,6]),(3,.agg [.int .i64 4,.int .i64 3,.int .i64 3,.int .i64 2,.int .i64 5,.vec [bu ⟨4,8,2⟩]]),(0,ints l),(2,.ptr 0 0)]) (aP:=⟨3,[(0,.box [.int .i64 0,.int .i64 0,.int .i64 0,.int .i64 0,.int .i64 0,.aG,.aG,.aG,.aG])]⟩) (.mk [1,2] [] ib iQ rfl rfl rfl) (.op fA (by decide) ?_))
 refine .rn [4,5,6,7] [] ?_
 refine .done (.ret (aA ?_))
 exact zk
end
theorem zwr (l:List ByteArray):ky 1 (l.map PV.str)=true:=xr (f:=PV.str) (n:=1) (fun _=>rfl) l
theorem zuw (l:List ByteArray):kz (l.map PV.str)=true:=xt (f:=PV.str) (fun _=>rfl) l
attribute [local simp] zwr zuw
def zc (tx:aq→ByteArray)(l:List aq)(k:Nat):List ByteArray:=(l.take k).map tx
theorem z0f {tx:aq→ByteArray}{l:List aq}{k:Nat}(h:k<l.length):zc tx l (k+1)=zc tx l k++[tx l[k]]:=by
 unfold zc;rw[List.take_succ_eq_append_getElem h,List.map_append];rfl
theorem z3j {tx:aq→ByteArray}{l:List aq}{k:Nat}(h:k≤l.length):(zc tx l k).length=k:=by
 unfold zc;rw[List.length_map,List.length_take];omega
theorem z6q (tx:aq→ByteArray)(l:List aq):zc tx l l.length=l.map tx:=by unfold zc;rw[List.take_length]
variable [bG] in
theorem p75 (hd:¬bG.dr)(l:List aq)(tx:aq→ByteArray)(hl:l.length≤100)(dp:l≠[])(hf:∀s∈l,aN prog 132 [encS s] fun r=>r=.bool true)(ht:∀s∈l,aN prog 133 [encS s] fun r=>r=.str (tx s))(hj:(Lib.join ((l.map tx).map (·.data.toList)) [59,32]).length≤140737488355328):aN prog 75 [.vec (l.map encS)] fun r=>r=.bn [.str ⟨(Lib.join ((l.map tx).map (·.data.toList)) [59,32]).toArray⟩,.int .i64 0]:=by
 have hE:∀s:aq,encS s=.agg [.int .i64 s.k,.int .i64 s.a,.int .i64 s.i,.int .i64 s.l,.int .i64 s.w]:=fun _=>rfl
 have hp:0<l.length:=List.length_pos_iff.2 dp
 have Gp:=Mi hd (l.map tx) (by simpa using dp) ⟨#[59,32]⟩ (by rw[List.length_map];omega) hj
 refine .bP func75 rfl rfl ?_
 refine .sr ?_
 refine .seq (.sr ?_)
 refine .cs ?_ ?_<;>intro c9
 ·try simp at c9
  exfalso;omega
 try simp at c9
 refine .skip (.sr ?_)
 refine .seq (.sr ?_)
 refine .block ?_
 refine .ec (fun k:Nat=>([(4,.grow 0 k true),(10,.vec (l.map encS)),(11,.int .i64 l.length),(12,.int .i64 k)],⟨1,[(0,.grow 1 ((zc tx l k).map .str))]⟩)) (fun k=>k≤l.length) (fun k=>l.length - k) 0 (by simp) bT ?_
 rintro k hk
 simp only at hk ⊢
 refine .sr ?_
 refine .seq ?_
 refine .cs ?_ ?_<;>intro gg
 ·try simp at gg
  have eO:IntKind.i64.wrap ((k:Int)+1)=((k+1:Nat):Int):=by rw[wrap64 (by omega) (by omega)];omega
  have gP:k<l.length:=by omega
  obtain⟨s,hs⟩:∃s,l[k]?=some s:=⟨_,List.getElem?_eq_getElem gP⟩
  have hse:l[k]=s:=(List.getElem?_eq_some_iff.1 hs).2
  have hf:=hf s (List.mem_of_getElem? hs)
  have ht:=ht s (List.mem_of_getElem? hs)
  rw[hE] at hf ht
  have xP:=@z0f tx l k gP
  rw[hse] at xP
  have FA:=@z3j tx l k hk
  obtain⟨A,hA⟩:∃A,zc tx l k=A:=⟨_,rfl⟩
  rw[hA] at xP FA ⊢
  clear hA
  have Ii:k+1≤4294967296:=by omega
  refine .skip (.seq (.block (.sr ?_)))
  refine .seq (.seq (.au [0,1,2] rfl af (.rn [0] _ ?_)))
  refine .pc rfl rfl rfl rfl rfl call132 (hf) ?_
  refine .rn [2] [] ?_
  refine .done ?_
  refine .cs ?_ ?_<;>intro pU
  ·try simp at pU
  try simp at pU
  refine .skip (.au iB rfl af (.rn [0,1] _ ?_))
  refine .pc rfl rfl rfl rfl rfl call133 (ht) ?_
  refine .rn [3,4,5] [] ?_
  refine .done (.rn ?_)
  refine⟨k+1,bC,bC,?_⟩
  simp only[xP,List.map_append,List.map_cons,List.map_nil]
  exact(.mk [] [(0,3)] ib iQ rfl rfl rfl)
 try simp at gg
 obtain rfl:k=l.length:=by omega
 rw[z6q]
 obtain⟨A,hA⟩:∃A,l.map tx=A:=⟨_,rfl⟩
 have FA:A.length=l.length:=by rw[← hA,List.length_map]
 rw[hA] at Gp ⊢
 refine .exit (.seq (.au dt rfl af (.rn [0] _ ?_)))
 refine .step rfl rfl (.take rfl rfl rfl call134 (by decide) (by first|(simp<;>rfl)|(simp[*]<;>rfl)|(simp[*];done)) (Gp) ?_)
 rintro _ rfl
 refine .rn [2,3] [] ?_
 refine .done (.ret (aA ?_))
 exact zk
def pZ:List aq:=[⟨3,2,2,3,0⟩,⟨1,5,2,0,8⟩,⟨4,7,4,1,0⟩]
def Rs (s:aq):ByteArray:=if s.k=3 then ⟨#[108,101,97,112,32,50,32,50,32,51]⟩ else if s.k=1 then ⟨#[109,105,120,32,53,32,50,32,56]⟩ else ⟨#[116,119,105,99,101,32,55,32,52,32,49]⟩
theorem spJ:(Lib.join ((pZ.map Rs).map (·.data.toList)) [59,32]).toArray=#[108,101,97,112,32,50,32,50,32,51,59,32,109,105,120,32,53,32,50,32,56,59,32,116,119,105,99,101,32,55,32,52,32,49]:=by decide +kernel
variable [bG] in
theorem z8f (hN:Names):aN prog 75 [.vec (pZ.map encS)] fun r=>r=.bn [.str ⟨#[108,101,97,112,32,50,32,50,32,51,59,32,109,105,120,32,53,32,50,32,56,59,32,116,119,105,99,101,32,55,32,52,32,49]⟩,.int .i64 0]:=by
 have h:=p75 hN.dr pZ Rs (by decide) (by decide)
  (fun s hs=>by
   simp only[pZ,List.mem_cons,List.not_mem_nil,or_false] at hs
   rcases hs with rfl|rfl|rfl
   ·exact zy9 hN.dr
   ·exact zzh hN.dr
   exact zvf hN.dr)
  (fun s hs=>by
   simp only[pZ,List.mem_cons,List.not_mem_nil,or_false] at hs
   rcases hs with rfl|rfl|rfl
   ·exact zwf hN
   ·exact z0s hN
   exact zvm hN)
  af
 rw[spJ] at h
 exact h
def oI (F:Nat→Int)(m n:Nat):List PV:=(List.range n).map fun (j:Nat)=>PV.int .i64 (if j<m then F j else 0)
@[simp] theorem Mk (F:Nat→Int)(m n:Nat):(oI F m n).length=n:=by simp[oI,-List.range,-List.range.loop]
@[simp] theorem Ru (F:Nat→Int)(m n:Nat):(oI F m n).all PV.one=true:=by simp[oI,PV.one]
@[simp] theorem xav (F:Nat→Int)(m n:Nat):PV.aJ (oI F m n)=true:=by
 unfold oI
 generalize List.range n=l
 induction l with
 |nil=>rfl
 |cons a r ih=>simp only[List.map_cons,PV.aJ,PV.aH,Bool.true_and];exact ih
theorem Ml (F:Nat→Int)(m n:Nat)(i:Nat)(h:i<n):(oI F m n)[i]?=some (PV.int .i64 (if i<m then F i else 0)):=by
 simp[oI,h,-List.range,-List.range.loop]
theorem z3h (F:Nat→Int)(n:Nat):List.replicate n (PV.int .i64 0)=oI F 0 n:=by
 simp[oI,List.map_const',-List.range,-List.range.loop]
theorem z6e (F:Nat→Int)(m n:Nat)(h:m<n):(oI F m n).take m++PV.int .i64 (F m)::(oI F m n).drop (m+1)=oI F (m+1) n:=by
 refine List.ext_getElem? fun j=>?_
 by_cases hj:j<n
 ·rw[Ml F _ n j hj,List.getElem?_append]
  simp only[List.length_take,Mk,Nat.min_eq_left (Nat.le_of_lt h)]
  by_cases h1:j<m
  ·rw[if_pos h1,List.getElem?_take_of_lt h1,Ml F _ n j hj,if_pos h1,if_pos (by omega)]
  rw[if_neg h1]
  by_cases h2:j=m
  ·subst h2;simp
  rw[show j - m=(j - m - 1)+1 by omega,List.getElem?_cons_succ,List.getElem?_drop,show m+1+(j - m - 1)=j by omega,Ml F _ n j hj,if_neg (by omega),if_neg (by omega)]
 rw[List.getElem?_eq_none (by simp;omega),List.getElem?_eq_none (by simp;omega)]
theorem Rv {vh:ai}{i n:Nat}{cs:List PV}(hg:vh.get i=some (.arr false 1 cs))(h:cs.length=n)(ho:cs.all PV.one=true):jY vh 1 (.own i 0 n n)=some cs:=by
 unfold jY
 simp only[hg,ho]
 subst h
 simp[chunk,beq_eq,vc]
def pz (c:ao)(i:Nat):List Int:=(List.range (c.c.length+1)).map fun j=>aZ c i j
theorem z0k (F:Nat→Int)(n:Nat):oI F n n=((List.range n).map F).map (PV.int .i64):=by
 unfold oI
 rw[List.map_map]
 refine List.map_congr_left fun j hj=>?_
 have:=List.mem_range.1 hj
 simp only[Function.comp]
 rw[if_pos this]
def jR (c:ao)(k:Nat):List PV:=(List.range k).map fun i=>ints (pz c i)
theorem zyf (c:ao)(k:Nat):jR c (k+1)=jR c k++[ints (pz c k)]:=by unfold jR;rw[List.range_succ,List.map_append];rfl
@[simp] theorem xas (c:ao)(k:Nat):(jR c k).length=k:=by simp[jR,-List.range,-List.range.loop]
theorem z1x (c:ao)(k:Nat):PV.aJ (jR c k)=true:=by
 unfold jR
 generalize List.range k=l
 induction l with
 |nil=>rfl
 |cons a r ih=>simp only[List.map_cons,PV.aJ,ints,PV.aH,Bool.true_and];exact ih
def Gq (x:aR):List aq:=match x.s with|some s=>[s]|none=>[]
theorem zzj (x:aR)(l:List aR):lY (x::l)=Gq x++lY l:=by
 unfold lY Gq
 rw[List.filterMap_cons]
 cases x.s<;>rfl
structure BI (c:ao) (i j:Nat) (d:List aq):Prop where
  hi:i≤c.t.length
  hj:j≤c.c.length
  ht:aZ c i j+bwd c i j=rI c
  hd:d++lY (Cn c i j)=vI c
theorem BI.start {c:ao}(hr:Rt c):BI c 0 0 []:=⟨Nat.zero_le _,Nat.zero_le _,by rw[QM hr,LP hr];omega,by rw[Y2];rfl⟩
theorem BI.stop {c:ao}{d:List aq}(h:BI c c.t.length c.c.length d):d=vI c:=by have:=h.hd;rw[Y3] at this;simpa[lY] using this
theorem BI.next {c:ao}(hr:Rt c){i j:Nat}{d:List aq}(h:BI c i j d){pre j4:List aR}{x:aR}(hs:steps c i j=pre++x::j4)(hp:∀y∈pre,iI c y=false)(hx:iI c x=true):BI c x.i' x.j' (d++Gq x):=by
 have hn:=Y0 hs hp hx
 have hm:x∈steps c i j:=by rw[hs];simp
 have ho:=jn hr hm
 refine⟨ho.it,ho.jt,QO hr (Cl h.hi h.hj hm) hx,?_⟩
 rw[List.append_assoc,← zzj,← Y4 hr h.hi h.hj hn]
 exact h.hd
theorem BI.len {c:ao}(hr:Rt c){i j:Nat}{d:List aq}(h:BI c i j d):d.length≤96:=by
 have h1:=congrArg List.length h.hd
 have h2:=Y8 hr (Y5 hr)
 have h3:vI c=lY (y6 c):=rfl
 rw[List.length_append,h3] at h1
 omega
theorem BI.no {c:ao}(hr:Rt c){i j:Nat}{d:List aq}(h:BI c i j d)(he:¬(i=c.t.length∧j=c.c.length))(hp:∀y∈steps c i j,iI c y=false):False:=by
 obtain⟨x,hx,ht⟩:=QN hr h.hi h.hj he h.ht
 rw[hp x hx] at ht;cases ht
theorem z2z (c:ao)(ps:List (Nat×Nat))(i j:Nat)(d:List aq)(X:PV){n g:Nat}(hg:g=5∨(1000≤g∧g<n)):Rec 0 [(1,.ptr 0 0),(2,.ptr 1 0),(5,.ptr 2 0),(6,.ptr 3 0),(7,.ptr 4 0),(30,X)] ⟨n,[(4,.box [.int .i64 i,.int .i64 j]),(3,.box [.grow g (d).length true,.int .i64 (aZ c c.t.length c.c.length),.aG]),(2,.box (bQ c (.aC (a8 (places c) (aZ c))) (.aC (a8 ps (bwd c))) (.int .i64 (aZ c c.t.length c.c.length)))),(1,.box [.aG,.int .i64 0,.aG]),(0,.box (cQ c)),(g,.grow 5 ((d).map encS))]⟩ [(1,.ptr 0 0),(2,.ptr 1 0),(5,.ptr 2 0),(6,.ptr 3 0),(7,.ptr 4 0)] ⟨6,[(4,.box [.int .i64 i,.int .i64 j]),(3,.box [.grow 5 (d).length true,.int .i64 (aZ c c.t.length c.c.length),.aG]),(2,.box (bQ c (.aC (a8 (places c) (aZ c))) (.aC (a8 ps (bwd c))) (.int .i64 (aZ c c.t.length c.c.length)))),(1,.box [.aG,.int .i64 0,.aG]),(0,.box (cQ c)),(5,.grow 5 ((d).map encS))]⟩:=by
 rcases hg with rfl|⟨hg,xL⟩
 ·exact bT
 have fX:(⟨n,[(4,.box [.int .i64 i,.int .i64 j]),(3,.box [.grow g (d).length true,.int .i64 (aZ c c.t.length c.c.length),.aG]),(2,.box (bQ c (.aC (a8 (places c) (aZ c))) (.aC (a8 ps (bwd c))) (.int .i64 (aZ c c.t.length c.c.length)))),(1,.box [.aG,.int .i64 0,.aG]),(0,.box (cQ c)),(g,.grow 5 ((d).map encS))]⟩:ai).get g=some (.grow 5 (d.map encS)):=by
  simp[show ¬g=4 by omega,show ¬g=3 by omega,show ¬g=2 by omega,show ¬g=1 by omega,show ¬g=0 by omega]
 refine .mk [] [(5,g)] ib (by refine⟨?_,?_,?_,?_,?_,⟨⟨(aU rfl),.inr ⟨rfl,_,fX,rfl⟩⟩,trivial⟩⟩<;>(refine⟨(aU rfl),.inr ⟨rfl,_,rfl,?_⟩⟩)<;>repeat' (first|exact trivial|refine And.intro (And.intro (aU rfl) (Or.inr (And.intro rfl (Exists.intro _ (And.intro rfl ?_))))) ?_|refine And.intro (And.intro (aU rfl) (Or.inl (Exists.intro _ (And.intro rfl (aU rfl))))) ?_|refine And.intro (And.intro (aU rfl) (Or.inl (Exists.intro _ (And.intro (congrArg (aL.grow _) (by simp[*])) (aU rfl))))) ?_|rfl|exact aF.nil|(refine congrArg (aL.grow _) ?_;simp[*];done)|(refine congrArg aL.map ?_;simp[*];done)|(refine congrArg (aL.arr _ _) ?_;simp[*];done)|refine pX.mk rfl rfl rfl rfl rfl ?_|refine And.intro (Exists.intro _ (And.intro rfl ?_)) ?_|refine aF.cons ?_ ?_|(refine Alt.same _ ?_;first|rfl|(simp[*];done))|exact Alt.ba _ _ (aU rfl) rfl|exact Alt.grow _ _ _ _ (aU rfl) rfl|(refine Alt.xM _ _ _ _ _ ?_ (aU rfl) rfl;simp[*];done)|exact Alt.ptr _ _ _ (aU rfl) rfl|exact Alt.own _ _ _ _ _ (aU rfl) rfl|exact Alt.sub _ _ _ _ (aU rfl) rfl|exact Alt.bw _ _ (aU rfl) rfl|exact Alt.aG _ _|(refine Alt.mQ _ _ _ ?_;simp[*];done)|exact Alt.e0 _|exact Alt.dA aF.nil (aF.cons (Alt.ptr _ _ _ (aU rfl) rfl) aF.nil)|exact Alt.dV|exact Alt.lZ _ _ _|(refine Alt.bR _ _ _ _ _ rfl rfl ?_;simp[*];done)|exact Alt.gU _ _ _ _ _ _ _ _ rfl rfl rfl|exact Alt.dD _ _ rfl rfl|(refine Alt.xN ?_;simp[*]<;>rfl)|(refine Alt.ofEq rfl ?_;simp[*];done))) ?_ rfl rfl
 simp[vJ,uo,Nat.beq_eq]
 omega
variable [bG] in
theorem p21 (c:ao)(hB:BC c):aN prog 21 [aD c] fun r=>dO r (.bn [.agg [.vec ((if bf c=0 then vI c else []).map encS),.int .i64 (if bf c=0 then rI c else 0),.vec (if bf c=0 then jR c (c.t.length+1) else [])],.int .i64 (bf c)]):=by
 have cK:=rz c hB
 have fQ:=Az c
 have hC:cw c=(cQ c):=rfl
 obtain⟨e,he⟩:∃e,bf c=e:=⟨_,rfl⟩
 have er:=he
 rw[he] at cK fQ ⊢
 have kG:=fun i j:Int=>Fs c i j
 have hE:∀s:aq,encS s=.agg [.int .i64 s.k,.int .i64 s.a,.int .i64 s.i,.int .i64 s.l,.int .i64 s.w]:=fun _=>rfl
 unfold aD at cK fQ kG ⊢
 unfold gd at kG
 rw[hC] at cK fQ kG ⊢
 have yd:∀a b c d e:Int,kz [PV.agg [.int .i64 a,.int .i64 b,.int .i64 c,.int .i64 d,.int .i64 e]]=true:=fun _ _ _ _ _=>rfl
 refine .bP func21 rfl rfl ?_
 refine .sr ?_
 refine .scope ?_
 refine .seq (.seq (.au [0,1,2] rfl af (.rn [0] _ ?_)))
 refine .pc rfl rfl rfl rfl rfl call55 (cK) ?_
 refine .rn [2] [] ?_
 refine .done (.sr ?_)
 refine .cs ?_ ?_<;>intro cb
 ·try simp at cb
  refine .sr ?_
  refine .ret (aA ?_)
  simp only[if_neg cb];exact Fx (.cons (.j7 (.cons .dV (.cons (.same _ rfl) (.cons .dV .nil)))) (.cons (.same _ rfl) .nil))
 try simp at cb
 subst cb
 have bj:=iC er
 have oB:=bj.tl
 have eJ:=bj.cl
 have kq:=FN c er
 unfold aD gd at kq
 rw[hC] at kq
 have Gr:=BI.start bj
 have w6:IntKind.i64.wrap ((c.t.length:Int)+1)=(c.t.length:Int)+1:=wrap64 (by omega) (by omega)
 have np:IntKind.i64.wrap ((c.c.length:Int)+1)=(c.c.length:Int)+1:=wrap64 (by omega) (by omega)
 refine .skip (.seq (.au dt rfl af (.rn [0] _ ?_)))
 refine .step rfl rfl (.pure rfl rfl rfl call77 (by decide) (fQ rfl) (by first|rfl|simp[*]) ?_)
 rintro _ ⟨ps,fy,rfl⟩
 have qD:=fun (x:aR) i j hx hi hj=>Qn c ps x er fy i j hx hi hj
 rw[s5] at qD ⊢
 refine .rn [2,3] [] ?_
 refine .done (.sr ?_)
 refine .sr ?_
 refine .seq ?_
 refine .label ?_
 refine .seq (.block ?_)
 refine .ec (fun z:Nat×Nat×List aq=>([(1,.ptr 0 0),(2,.ptr 1 0),(5,.ptr 2 0),(6,.ptr 3 0),(7,.ptr 4 0)],⟨6,[(4,.box [.int .i64 z.1,.int .i64 z.2.1]),(3,.box [.grow 5 (z.2.2).length true,.int .i64 (aZ c c.t.length c.c.length),.aG]),(2,.box (bQ c (.aC (a8 (places c) (aZ c))) (.aC (a8 ps (bwd c))) (.int .i64 (aZ c c.t.length c.c.length)))),(1,.box [.aG,.int .i64 0,.aG]),(0,.box (cQ c)),(5,.grow 5 ((z.2.2).map encS))]⟩)) (fun z=>BI c z.1 z.2.1 z.2.2) (fun z=>(c.t.length - z.1)+(c.c.length - z.2.1)) (0,0,[]) Gr bT ?_
 clear Gr
 rintro⟨i,j,d⟩ hI
 simp only at hI ⊢
 have hi:=hI.hi
 have hj:=hI.hj
 have zS:=hI.len bj
 refine .seq (.seq ?_)
 refine .drawn (ms:=[0,0,2,7]) (W:=[2]) (items:=[.op 0,.op 1,.op 2,.ck 0,.op 3]) rfl af af af ?_
 iterate 2 refine .rx ?_
 refine .wp rfl rfl rfl rfl rfl call78 (kq) ?_
 refine .ck rfl eQ ?_
 refine .rx ?_
 refine .done ?_
 refine .cs ?_ ?_<;>intro fg
 ·try simp at fg
  have dp:¬(i=c.t.length∧j=c.c.length):=fun⟨h1,h2⟩=>by subst h1;subst h2;simp at fg
  refine .skip (.block (.seq (.au [0,1,2] rfl af (.rn [0,1] _ ?_))))
  refine .pc rfl rfl rfl rfl rfl call79 (kG i j) ?_
  refine .done (.block ?_)
  refine .rec (ax:=[(1,.ptr 0 0),(2,.ptr 1 0),(5,.ptr 2 0),(6,.ptr 3 0),(7,.ptr 4 0),(30,.func 138 [] [.vp [.int .i64 i,.int .i64 j],.vp (cw c)])]) (aP:=⟨1000,[(4,.box [.int .i64 i,.int .i64 j]),(3,.box [.grow 5 (d).length true,.int .i64 (aZ c c.t.length c.c.length),.aG]),(2,.box (bQ c (.aC (a8 (places c) (aZ c))) (.aC (a8 ps (bwd c))) (.int .i64 (aZ c c.t.length c.c.length)))),(1,.box [.aG,.int .i64 0,.aG]),(0,.box (cQ c)),(5,.grow 5 ((d).map encS))]⟩) bT ?_
  refine Li c i j _ (fun pre n L=>L=[(4,.box [.int .i64 i,.int .i64 j]),(3,.box [.grow 5 (d).length true,.int .i64 (aZ c c.t.length c.c.length),.aG]),(2,.box (bQ c (.aC (a8 (places c) (aZ c))) (.aC (a8 ps (bwd c))) (.int .i64 (aZ c c.t.length c.c.length)))),(1,.box [.aG,.int .i64 0,.aG]),(0,.box (cQ c)),(5,.grow 5 ((d).map encS))]∧∀y∈pre,iI c y=false) (fun e n L=>e=some 1∧∃i2 j2 d2 g,BI c i2 j2 d2∧(c.t.length - i2)+(c.c.length - j2)<(c.t.length - i)+(c.c.length - j)∧(g=5∨(1000≤g∧g<n))∧L=[(4,.box [.int .i64 i2,.int .i64 j2]),(3,.box [.grow g (d2).length true,.int .i64 (aZ c c.t.length c.c.length),.aG]),(2,.box (bQ c (.aC (a8 (places c) (aZ c))) (.aC (a8 ps (bwd c))) (.int .i64 (aZ c c.t.length c.c.length)))),(1,.box [.aG,.int .i64 0,.aG]),(0,.box (cQ c)),(g,.grow 5 ((d2).map encS))]) er hi hj ⟨rfl,fun _ h=>by cases h⟩ rfl (by decide) rfl (fun _ _ _ _ h _=>h) ?_ ?_ (fun _ _ h=>by cases h.1) ?_
  ·skip
   rintro pre x j4 n L iE hn ⟨rfl,fW⟩
   have hx:x∈steps c i j:=by rw[iE];simp
   have ir:=jn bj hx
   obtain⟨m,rfl⟩:∃m,n=m+1000:=⟨n - 1000,by omega⟩
   have qD:=qD x i j hx hi hj
   obtain⟨tb,xI⟩:∃b,iI c x=b:=⟨_,rfl⟩
   rw[xI] at qD
   obtain⟨a0,a1,a2,a3,a4,fL⟩:=xG x.s
   rw[xH x fL] at qD ⊢
   obtain⟨kb,Rw⟩:∃b,x.s.isNone=b:=⟨_,rfl⟩
   rw[Rw] at qD ⊢
   have IN:Gq x=bif kb then [] else [⟨a0,a1,a2,a3,a4⟩]:=by
    rw[← Rw]
    unfold Gq
    cases hs:x.s with
    |none=>rfl
    |some s=>
     rw[hs] at fL
     simp only[B9,List.cons.injEq,PV.int.injEq,true_and,and_true] at fL
     obtain⟨e0,e1,e2,e3,e4⟩:=fL
     show [s]=[_]
     rw[← e0,← e1,← e2,← e3,← e4]
   have yaa:d.length≤4294967295:=by omega
   unfold DD
   refine .rn ?_
   refine .block (.seq (.seq (.au dt rfl af (.rn [0,1] _ ?_))))
   refine .pc rfl rfl rfl rfl rfl call80 (qD) ?_
   refine .rn [3] [] ?_
   refine .done ?_
   refine .cs ?_ ?_<;>intro zd
   ·try simp at zd
    obtain rfl:tb=false:=by simpa using zd
    refine .exit ?_
    refine⟨none,[(4,.box [.int .i64 i,.int .i64 j]),(3,.box [.grow 5 (d).length true,.int .i64 (aZ c c.t.length c.c.length),.aG]),(2,.box (bQ c (.aC (a8 (places c) (aZ c))) (.aC (a8 ps (bwd c))) (.int .i64 (aZ c c.t.length c.c.length)))),(1,.box [.aG,.int .i64 0,.aG]),(0,.box (cQ c)),(5,.grow 5 ((d).map encS))],rfl,bN,kW,rfl,fun y hy=>?_⟩
    rcases List.mem_append.1 hy with hy|hy
    ·exact fW y hy
    rw[List.mem_singleton.1 hy];exact xI
   try simp at zd
   obtain rfl:tb=true:=by simpa using zd
   have Gs:=hI.next bj iE fW xI
   have Gt:(c.t.length - x.i')+(c.c.length - x.j')<(c.t.length - i)+(c.c.length - j):=by have:=ir.uh;have:=ir.ui;have:=ir.on;have:=ir.it;have:=ir.jt;omega
   refine .skip (.seq (.sr ?_))
   refine .cs ?_ ?_<;>intro nt
   ·try simp at nt
    rw[nt] at IN
    rw[IN] at Gs
    refine .rn ?_
    refine .sr ?_
    refine .exit ?_
    refine⟨some (some 1),[(4,.box [.int .i64 x.i',.int .i64 x.j']),(3,.box [.grow (m+1002) (d++[(⟨a0,a1,a2,a3,a4⟩:aq)]).length true,.int .i64 (aZ c c.t.length c.c.length),.aG]),(2,.box (bQ c (.aC (a8 (places c) (aZ c))) (.aC (a8 ps (bwd c))) (.int .i64 (aZ c c.t.length c.c.length)))),(1,.box [.aG,.int .i64 0,.aG]),(0,.box (cQ c)),((m+1002),.grow 5 ((d++[(⟨a0,a1,a2,a3,a4⟩:aq)]).map encS))],rfl,?_,kW,?_⟩
    ·rw[List.length_append,List.map_append]
     simp only[List.map_cons,List.map_nil,List.length_cons,List.length_nil,hE]
     exact bN
    exact And.intro rfl ⟨x.i',x.j',d++[⟨a0,a1,a2,a3,a4⟩],m+1002,Gs,Gt,.inr ⟨by omega,by simp⟩,rfl⟩
   try simp at nt
   rw[nt] at IN
   rw[IN] at Gs
   simp only[aM,List.append_nil] at Gs
   refine .skip (.sr ?_)
   refine .exit ?_
   refine⟨some (some 1),[(4,.box [.int .i64 x.i',.int .i64 x.j']),(3,.box [.grow 5 (d).length true,.int .i64 (aZ c c.t.length c.c.length),.aG]),(2,.box (bQ c (.aC (a8 (places c) (aZ c))) (.aC (a8 ps (bwd c))) (.int .i64 (aZ c c.t.length c.c.length)))),(1,.box [.aG,.int .i64 0,.aG]),(0,.box (cQ c)),(5,.grow 5 ((d).map encS))],rfl,bN,kW,And.intro rfl ⟨x.i',x.j',d,5,Gs,Gt,.inl rfl,rfl⟩⟩
  ·skip
   rintro n L hn ⟨rfl,fW⟩
   exact(hI.no bj dp fW).elim
   skip
  skip
  rintro id n L ⟨h1,i2,j2,d2,g,hB2,gC,hg,rfl⟩
  injection h1 with h1
  subst h1
  exact⟨(i2,j2,d2),hB2,gC,z2z c ps i2 j2 d2 _ hg⟩
 try simp at fg
 obtain⟨rfl,rfl⟩:i=c.t.length∧j=c.c.length:=by first|omega|(have jr:=fg;simp at jr;omega)
 have hd:=hI.stop
 subst hd
 have Mm:jR c 0=[]:=rfl
 have hR0:∀i,List.replicate (c.c.length+1) (PV.int .i64 0)=oI (aZ c i) 0 (c.c.length+1):=fun i=>z3h _ _
 refine .exit (.seq (.sr ?_))
 refine .block ?_
 refine .ec (fun i:Nat=>([(1,.ptr 0 0),(2,.ptr 1 0),(5,.ptr 2 0),(6,.ptr 3 0),(51,.int .i64 ((c.t.length:Int)+1)),(52,.int .i64 i)],⟨7,[(6,.grow 1 (jR c i)),(5,.grow 5 ((vI c).map encS)),(3,.box [.grow 5 (vI c).length true,.int .i64 (aZ c c.t.length c.c.length),.grow 6 i true]),(2,.box (bQ c (.aC (a8 (places c) (aZ c))) (.aC (a8 ps (bwd c))) (.int .i64 (aZ c c.t.length c.c.length)))),(1,.box [.aG,.int .i64 0,.aG]),(0,.box (cQ c))]⟩)) (fun i=>i≤c.t.length+1) (fun i=>c.t.length+1 - i) 0 (by simp) bT ?_
 clear hI hi hj zS fg
 rintro i hi
 simp only at hi ⊢
 refine .sr ?_
 refine .seq ?_
 refine .cs ?_ ?_<;>intro Cu
 ·try simp at Cu
  have eO:=gD i
  have oE:i≤c.t.length:=by omega
  have Df:(c.c.length:Int)+1≤4294967296:=by omega
  have yab:(0:Int)≤(c.c.length:Int)+1:=by omega
  have hTs:=zyf c i
  have hR:=hR0 i
  have lj:i≤4294967295:=by omega
  refine .skip (.seq (.block (.sr ?_)))
  refine .sr ?_
  refine .seq (.sr ?_)
  refine .block ?_
  refine .ec (fun j:Nat=>([(1,.ptr 0 0),(2,.ptr 1 0),(5,.ptr 2 0),(6,.ptr 3 0),(9,.int .i64 i),(10,.own 7 0 (c.c.length+1) (c.c.length+1)),(51,.int .i64 ((c.t.length:Int)+1)),(52,.int .i64 i),(61,.int .i64 ((c.c.length:Int)+1)),(62,.int .i64 j)],⟨8,[(7,.arr false 1 (oI (aZ c i) j (c.c.length+1))),(6,.grow 1 (jR c i)),(5,.grow 5 ((vI c).map encS)),(3,.box [.grow 5 (vI c).length true,.int .i64 (aZ c c.t.length c.c.length),.grow 6 i true]),(2,.box (bQ c (.aC (a8 (places c) (aZ c))) (.aC (a8 ps (bwd c))) (.int .i64 (aZ c c.t.length c.c.length)))),(1,.box [.aG,.int .i64 0,.aG]),(0,.box (cQ c))]⟩)) (fun j=>j≤c.c.length+1) (fun j=>c.c.length+1 - j) 0 (by simp) bT ?_
  rintro j hj
  simp only at hj ⊢
  refine .sr ?_
  refine .seq ?_
  refine .cs ?_ ?_<;>intro ed
  ·try simp at ed
   have rB:=gD j
   have dY:j<c.c.length+1:=by omega
   have ny:j≤c.c.length:=by omega
   have hf:=Cf (FQ c) oE ny (aZ c)
   have pw:=z6e (aZ c i) j (c.c.length+1) dY
   refine .skip (.seq (.block (.sr ?_)))
   refine .rn ?_
   refine .rn ?_
   refine⟨j+1,bC,bC,bT⟩
  try simp at ed
  obtain rfl:j=c.c.length+1:=by omega
  have AH:oI (aZ c i) (c.c.length+1) (c.c.length+1)=(pz c i).map (PV.int .i64):=z0k (aZ c i) (c.c.length+1)
  have Mn:(pz c i).length=c.c.length+1:=by simp[pz,-List.range,-List.range.loop]
  refine .exit ?_
  refine .rec (ax:=[(1,.ptr 0 0),(2,.ptr 1 0),(5,.ptr 2 0),(6,.ptr 3 0),(10,.vec ((pz c i).map (PV.int .i64))),(51,.int .i64 ((c.t.length:Int)+1)),(52,.int .i64 i)]) (aP:=⟨7,[(6,.grow 1 (jR c i)),(5,.grow 5 ((vI c).map encS)),(3,.box [.grow 5 (vI c).length true,.int .i64 (aZ c c.t.length c.c.length),.grow 6 i true]),(2,.box (bQ c (.aC (a8 (places c) (aZ c))) (.aC (a8 ps (bwd c))) (.int .i64 (aZ c c.t.length c.c.length)))),(1,.box [.aG,.int .i64 0,.aG]),(0,.box (cQ c))]⟩) (.mk [7] [] (by repeat' (first|exact trivial|exact trivial|exact Alt.gU 7 0 _ _ false 1 _ _ rfl rfl ((Rv rfl (Mk _ _ _) (Ru _ _ _)).trans (congrArg some AH))|refine And.intro (Exists.intro _ (And.intro rfl ?_)) ?_|(refine Alt.same _ ?_;first|rfl|(simp[*];done))|exact Alt.ba _ _ (aU rfl) rfl|exact Alt.grow _ _ _ _ (aU rfl) rfl|(refine Alt.xM _ _ _ _ _ ?_ (aU rfl) rfl;simp[*];done)|exact Alt.ptr _ _ _ (aU rfl) rfl|exact Alt.own _ _ _ _ _ (aU rfl) rfl|exact Alt.sub _ _ _ _ (aU rfl) rfl|exact Alt.bw _ _ (aU rfl) rfl|exact Alt.aG _ _|(refine Alt.mQ _ _ _ ?_;simp[*];done)|exact Alt.e0 _|exact Alt.dA aF.nil (aF.cons (Alt.ptr _ _ _ (aU rfl) rfl) aF.nil)|exact Alt.dV|exact Alt.lZ _ _ _|(refine Alt.bR _ _ _ _ _ rfl rfl ?_;simp[*];done)|exact Alt.gU _ _ _ _ _ _ _ _ rfl rfl rfl|exact Alt.dD _ _ rfl rfl|(refine Alt.xN ?_;simp[*]<;>rfl)|(refine Alt.ofEq rfl ?_;simp[*];done))) (by repeat' (first|exact trivial|exact trivial|exact Alt.gU 7 0 _ _ false 1 _ _ rfl rfl ((Rv rfl (Mk _ _ _) (Ru _ _ _)).trans (congrArg some AH))|refine And.intro (And.intro (aU rfl) (Or.inr (And.intro rfl (Exists.intro _ (And.intro rfl ?_))))) ?_|refine And.intro (And.intro (aU rfl) (Or.inl (Exists.intro _ (And.intro rfl (aU rfl))))) ?_|refine And.intro (And.intro (aU rfl) (Or.inl (Exists.intro _ (And.intro (congrArg (aL.grow _) (by simp[*])) (aU rfl))))) ?_|rfl|exact aF.nil|(refine congrArg (aL.grow _) ?_;simp[*];done)|(refine congrArg aL.map ?_;simp[*];done)|(refine congrArg (aL.arr _ _) ?_;simp[*];done)|refine pX.mk rfl rfl rfl rfl rfl ?_|refine And.intro (Exists.intro _ (And.intro rfl ?_)) ?_|refine aF.cons ?_ ?_|(refine Alt.same _ ?_;first|rfl|(simp[*];done))|exact Alt.ba _ _ (aU rfl) rfl|exact Alt.grow _ _ _ _ (aU rfl) rfl|(refine Alt.xM _ _ _ _ _ ?_ (aU rfl) rfl;simp[*];done)|exact Alt.ptr _ _ _ (aU rfl) rfl|exact Alt.own _ _ _ _ _ (aU rfl) rfl|exact Alt.sub _ _ _ _ (aU rfl) rfl|exact Alt.bw _ _ (aU rfl) rfl|exact Alt.aG _ _|(refine Alt.mQ _ _ _ ?_;simp[*];done)|exact Alt.e0 _|exact Alt.dA aF.nil (aF.cons (Alt.ptr _ _ _ (aU rfl) rfl) aF.nil)|exact Alt.dV|exact Alt.lZ _ _ _|(refine Alt.bR _ _ _ _ _ rfl rfl ?_;simp[*];done)|exact Alt.gU _ _ _ _ _ _ _ _ rfl rfl rfl|exact Alt.dD _ _ rfl rfl|(refine Alt.xN ?_;simp[*]<;>rfl)|(refine Alt.ofEq rfl ?_;simp[*];done))) rfl rfl rfl) ?_
  refine .rn ?_
  refine .rn ?_
  refine⟨i+1,bC,bC,(.mk [] [(6,8)] ib iQ rfl rfl rfl)⟩
 try simp at Cu
 obtain rfl:i=c.t.length+1:=by omega
 refine .exit (.sr ?_)
 refine .ret (aA ?_)
 simp only[if_true];exact ly (by simp[PV.aH,PV.aJ,z1x])
end Go.Am.Sl
end
