/-
 What is used in the proof of a statement (part SlF); no condition.
-/
import Derived.Shelf.Strconv.Itoa3
import Derived.Shelf.Strings.OnBuilder
import Derived.Shelf.Lay
import Derived.Deep.QuietTactic
import Derived.WalkKit
import Derived.Lib.Walk
import Derived.Test.YthnmgbgmlhackaaGreatDoorSlT
import Derived.Test.YthnmgbgmlhackaaGreatDoorVm2
import Derived.Test.YthnmgbgmlhackaaGreatDoorSlZ
import Derived.Test.YthnmgbgmlhackaaGreatDoorSlD
set_option linter.all false
set_option maxHeartbeats 40000000
set_option maxRecDepth 100000
section
namespace Go.Am.Sl
open Go Go.Am Go.Proofs Tryz Go.RowKit Go.Lib Go.Shelf
def ZP:Ren where
  f := fun x => match x with
    |171=>162
    |243=>180
    |246=>188
    |283=>192
    |284=>193
    |285=>194
    |286=>195
    |129=>178
    |317=>196
    |318=>197
    |319=>198
    |320=>199
    |337=>200
    |338=>201
    |n=>n
  t := fun x => match x with
    |3=>3
    |9=>9
    |2=>2
    |4=>4
    |171=>272
    |0=>0
    |53=>258
    |37=>238
    |5=>5
    |173=>274
    |212=>278
    |51=>256
    |20=>20
    |213=>279
    |46=>228
    |232=>280
    |233=>281
    |n=>n
  g := fun x => match x with
    |17=>2
    |18=>3
    |19=>4
    |n=>n
theorem ZQ:Lays.n171 prog ZP where
  mixed:=rfl
  f129:=func178.trans (congrArg some rfl)
  f171:=func162.trans (congrArg some rfl)
  f243:=func180.trans (congrArg some rfl)
  f246:=func188.trans (congrArg some rfl)
  f283:=func192.trans (congrArg some rfl)
  f284:=func193.trans (congrArg some rfl)
  f285:=func194.trans (congrArg some rfl)
  f286:=func195.trans (congrArg some rfl)
  f317:=func196.trans (congrArg some rfl)
  f318:=func197.trans (congrArg some rfl)
  f319:=func198.trans (congrArg some rfl)
  f320:=func199.trans (congrArg some rfl)
  f337:=func200.trans (congrArg some rfl)
  f338:=func201.trans (congrArg some rfl)
  t0:=underlying0
  a0:=isAgg0
  z0:=sizeOf0
  v0:=zeroValue0
  t2:=underlying2
  a2:=isAgg2
  z2:=sizeOf2
  v2:=zeroValue2
  t3:=underlying3
  a3:=isAgg3
  z3:=sizeOf3
  v3:=zeroValue3
  t4:=underlying4
  a4:=isAgg4
  z4:=sizeOf4
  v4:=zeroValue4
  t5:=underlying5
  a5:=isAgg5
  z5:=sizeOf5
  v5:=zeroValue5
  t9:=underlying9
  a9:=isAgg9
  z9:=sizeOf9
  v9:=zeroValue9
  t20:=underlying20
  a20:=isAgg20
  z20:=sizeOf20
  v20:=zeroValue20
  t37:=underlying238
  a37:=isAgg238
  z37:=sizeOf238
  v37:=zeroValue238
  t46:=underlying228
  a46:=isAgg228
  z46:=sizeOf228
  v46:=zeroValue228
  t51:=underlying256
  a51:=isAgg256
  z51:=sizeOf256
  v51:=zeroValue256
  t53:=underlying258
  a53:=isAgg258
  z53:=sizeOf258
  v53:=zeroValue258
  t171:=underlying272
  a171:=isAgg272
  z171:=sizeOf272
  v171:=zeroValue272
  t173:=underlying274
  a173:=isAgg274
  z173:=sizeOf274
  v173:=zeroValue274
  t212:=underlying278
  a212:=isAgg278
  z212:=sizeOf278
  v212:=zeroValue278
  t213:=underlying279
  a213:=isAgg279
  z213:=sizeOf279
  t232:=underlying280
  a232:=isAgg280
  z232:=sizeOf280
  v232:=zeroValue280
  t233:=underlying281
  a233:=isAgg281
  z233:=sizeOf281
  v233:=zeroValue281
  g17:=by kernel_rfl
  g18:=by kernel_rfl
  g19:=by kernel_rfl
def Rl:Ren where
  f := fun x => match x with
    |156=>134
    |165=>163
    |166=>164
    |169=>165
    |240=>181
    |241=>182
    |276=>189
    |277=>190
    |n=>n
  t := fun x => match x with
    |31=>210
    |9=>9
    |3=>3
    |4=>4
    |0=>0
    |20=>20
    |72=>240
    |76=>244
    |70=>237
    |37=>238
    |75=>243
    |127=>259
    |164=>266
    |5=>5
    |80=>246
    |n=>n
  g:=fun n=>n
theorem ZR:Lays.n156 prog Rl where
  mixed:=rfl
  f156:=func134.trans (congrArg some rfl)
  f165:=func163.trans (congrArg some rfl)
  f166:=func164.trans (congrArg some rfl)
  f169:=func165.trans (congrArg some rfl)
  f240:=func181.trans (congrArg some rfl)
  f241:=func182.trans (congrArg some rfl)
  f276:=func189.trans (congrArg some rfl)
  f277:=func190.trans (congrArg some rfl)
  t0:=underlying0
  a0:=isAgg0
  z0:=sizeOf0
  v0:=zeroValue0
  t3:=underlying3
  a3:=isAgg3
  z3:=sizeOf3
  v3:=zeroValue3
  t4:=underlying4
  a4:=isAgg4
  z4:=sizeOf4
  v4:=zeroValue4
  t9:=underlying9
  a9:=isAgg9
  z9:=sizeOf9
  v9:=zeroValue9
  t20:=underlying20
  a20:=isAgg20
  z20:=sizeOf20
  v20:=zeroValue20
  t31:=underlying210
  a31:=isAgg210
  z31:=sizeOf210
  v31:=zeroValue210
  t37:=underlying238
  a37:=isAgg238
  z37:=sizeOf238
  v37:=zeroValue238
  t70:=underlying237
  a70:=isAgg237
  z70:=sizeOf237
  v70:=zeroValue237
  t72:=underlying240
  a72:=isAgg240
  z72:=sizeOf240
  v72:=zeroValue240
  t75:=underlying243
  a75:=isAgg243
  z75:=sizeOf243
  v75:=zeroValue243
  t76:=underlying244
  a76:=isAgg244
  z76:=sizeOf244
  v76:=zeroValue244
  t127:=underlying259
  a127:=isAgg259
  z127:=sizeOf259
  v127:=zeroValue259
  t164:=underlying266
  a164:=isAgg266
  z164:=sizeOf266
  v164:=zeroValue266
theorem Ci (i:Nat)(hi:i<100)(w:World):Calls prog 162 #[.int .i64 i] w fun e w'=>e=.returned (.string ⟨(Lib.decDigits i).toArray⟩)∧w'=w:=Any.strconv_Itoa_small ZQ i hi w
theorem ZS (w:World):Calls prog 162 #[.int .i64 1] w fun e w'=>e=.returned (.string ⟨#[49]⟩)∧w'=w:=by
 have h:=Ci 1 (by decide) w
 rw[show (Lib.decDigits 1).toArray=#[49] from by decide +kernel] at h
 exact h
theorem Rm (w:World):Calls prog 162 #[.int .i64 2] w fun e w'=>e=.returned (.string ⟨#[50]⟩)∧w'=w:=by
 have h:=Ci 2 (by decide) w
 rw[show (Lib.decDigits 2).toArray=#[50] from by decide +kernel] at h
 exact h
theorem ZT (w:World):Calls prog 162 #[.int .i64 3] w fun e w'=>e=.returned (.string ⟨#[51]⟩)∧w'=w:=by
 have h:=Ci 3 (by decide) w
 rw[show (Lib.decDigits 3).toArray=#[51] from by decide +kernel] at h
 exact h
theorem ZU (w:World):Calls prog 162 #[.int .i64 4] w fun e w'=>e=.returned (.string ⟨#[52]⟩)∧w'=w:=by
 have h:=Ci 4 (by decide) w
 rw[show (Lib.decDigits 4).toArray=#[52] from by decide +kernel] at h
 exact h
theorem ZV (w:World):Calls prog 162 #[.int .i64 5] w fun e w'=>e=.returned (.string ⟨#[53]⟩)∧w'=w:=by
 have h:=Ci 5 (by decide) w
 rw[show (Lib.decDigits 5).toArray=#[53] from by decide +kernel] at h
 exact h
theorem ZW (w:World):Calls prog 162 #[.int .i64 7] w fun e w'=>e=.returned (.string ⟨#[55]⟩)∧w'=w:=by
 have h:=Ci 7 (by decide) w
 rw[show (Lib.decDigits 7).toArray=#[55] from by decide +kernel] at h
 exact h
theorem ZX (w:World):Calls prog 162 #[.int .i64 8] w fun e w'=>e=.returned (.string ⟨#[56]⟩)∧w'=w:=by
 have h:=Ci 8 (by decide) w
 rw[show (Lib.decDigits 8).toArray=#[56] from by decide +kernel] at h
 exact h
set_option maxHeartbeats 4000000 in
set_option maxRecDepth 1000000 in
theorem ZY (w:World)(hb:0<w.heap.size)(hn:w.cell? ⟨0,3,none⟩=some (.string ⟨#[108,101,97,112]⟩)) :
  Calls prog 133 #[.agg #[.int .i64 3,.int .i64 2,.int .i64 2,.int .i64 3,.int .i64 0]] w fun e w'=>e=.returned (.string ⟨#[108,101,97,112,32,50,32,50,32,51]⟩)∧Below w.heap.size w w':=by
 have mixed:prog.follows .mixedOrders=true:=rfl
 have ug:∀o,(w.alloc o).cell? ⟨0,3,none⟩=some (.string ⟨#[108,101,97,112]⟩):=fun o=>(AQ (heap_alloc_old _ _ hb)).trans hn
 go_enter func133,ntmps133
 go_wp2_with fail
 go_quiet (first|(go_at_call_of 162 (Value.int .i64 2);exact Calls.quiet_of_same (Rm _)))
 go_wp2_with (go_at_call 162;refine(ZT _).mono ?_;rintro e w' ⟨rfl,rfl⟩)
 go_ret
 exact⟨congrArg (fun s=>Ending.returned (Value.string s)) (by decide +kernel),rfl,rfl,rfl,by simp[World.drewN],fun k hk=>heap_alloc_old _ _ hk⟩
set_option maxHeartbeats 4000000 in
set_option maxRecDepth 1000000 in
theorem ZZ (w:World)(hb:0<w.heap.size)(hn:w.cell? ⟨0,1,none⟩=some (.string ⟨#[109,105,120]⟩)) :
  Calls prog 133 #[.agg #[.int .i64 1,.int .i64 5,.int .i64 2,.int .i64 0,.int .i64 8]] w fun e w'=>e=.returned (.string ⟨#[109,105,120,32,53,32,50,32,56]⟩)∧Below w.heap.size w w':=by
 have mixed:prog.follows .mixedOrders=true:=rfl
 have ug:∀o,(w.alloc o).cell? ⟨0,1,none⟩=some (.string ⟨#[109,105,120]⟩):=fun o=>(AQ (heap_alloc_old _ _ hb)).trans hn
 go_enter func133,ntmps133
 go_wp2_with fail
 go_quiet (first|(go_at_call_of 162 (Value.int .i64 2);exact Calls.quiet_of_same (Rm _))|(go_at_call_of 162 (Value.int .i64 5);exact Calls.quiet_of_same (ZV _)))
 go_wp2_with (go_at_call 162;refine(ZX _).mono ?_;rintro e w' ⟨rfl,rfl⟩)
 go_ret
 exact⟨congrArg (fun s=>Ending.returned (Value.string s)) (by decide +kernel),rfl,rfl,rfl,by simp[World.drewN],fun k hk=>heap_alloc_old _ _ hk⟩
set_option maxHeartbeats 4000000 in
set_option maxRecDepth 1000000 in
theorem Z1 (w:World)(hb:0<w.heap.size)(hn:w.cell? ⟨0,4,none⟩=some (.string ⟨#[116,119,105,99,101]⟩)) :
  Calls prog 133 #[.agg #[.int .i64 4,.int .i64 7,.int .i64 4,.int .i64 1,.int .i64 0]] w fun e w'=>e=.returned (.string ⟨#[116,119,105,99,101,32,55,32,52,32,49]⟩)∧Below w.heap.size w w':=by
 have mixed:prog.follows .mixedOrders=true:=rfl
 have ug:∀o,(w.alloc o).cell? ⟨0,4,none⟩=some (.string ⟨#[116,119,105,99,101]⟩):=fun o=>(AQ (heap_alloc_old _ _ hb)).trans hn
 go_enter func133,ntmps133
 go_wp2_with fail
 go_quiet (first|(go_at_call_of 162 (Value.int .i64 4);exact Calls.quiet_of_same (ZU _))|(go_at_call_of 162 (Value.int .i64 7);exact Calls.quiet_of_same (ZW _)))
 go_wp2_with (go_at_call 162;refine(ZS _).mono ?_;rintro e w' ⟨rfl,rfl⟩)
 go_ret
 exact⟨congrArg (fun s=>Ending.returned (Value.string s)) (by decide +kernel),rfl,rfl,rfl,by simp[World.drewN],fun k hk=>heap_alloc_old _ _ hk⟩
set_option maxHeartbeats 4000000 in
set_option maxRecDepth 1000000 in
theorem Z2 (w:World) :
  Calls prog 132 #[.agg #[.int .i64 3,.int .i64 2,.int .i64 2,.int .i64 3,.int .i64 0]] w fun e w'=>e=.returned (.bool true)∧Below w.heap.size w w':=by
 have mixed:prog.follows .mixedOrders=true:=rfl
 go_enter func132,ntmps132
 go_wp2
 go_ret
 refine⟨rfl,rfl,rfl,rfl,by simp;omega,fun k hk=>?_⟩
 rw[heap_alloc_old _ _ (by simp;omega),heap_alloc_old _ _ hk]
set_option maxHeartbeats 4000000 in
set_option maxRecDepth 1000000 in
theorem Z3 (w:World) :
  Calls prog 132 #[.agg #[.int .i64 1,.int .i64 5,.int .i64 2,.int .i64 0,.int .i64 8]] w fun e w'=>e=.returned (.bool true)∧Below w.heap.size w w':=by
 have mixed:prog.follows .mixedOrders=true:=rfl
 go_enter func132,ntmps132
 go_wp2
 go_ret
 refine⟨rfl,rfl,rfl,rfl,by simp;omega,fun k hk=>?_⟩
 rw[heap_alloc_old _ _ (by simp;omega),heap_alloc_old _ _ hk]
set_option maxHeartbeats 4000000 in
set_option maxRecDepth 1000000 in
theorem Z4 (w:World) :
  Calls prog 132 #[.agg #[.int .i64 4,.int .i64 7,.int .i64 4,.int .i64 1,.int .i64 0]] w fun e w'=>e=.returned (.bool true)∧Below w.heap.size w w':=by
 have mixed:prog.follows .mixedOrders=true:=rfl
 go_enter func132,ntmps132
 go_wp2
 go_ret
 refine⟨rfl,rfl,rfl,rfl,by simp;omega,fun k hk=>?_⟩
 rw[heap_alloc_old _ _ (by simp;omega),heap_alloc_old _ _ hk]
def L5:List ByteArray:=[⟨#[]⟩,⟨#[109,105,120]⟩,⟨#[111,109,105,116]⟩,⟨#[108,101,97,112]⟩,⟨#[116,119,105,99,101]⟩,⟨#[103,108,111,115,115]⟩,⟨#[97,100,100]⟩]
structure Names [bE]:Prop where
  k:0<bE.K
  nm:∀w:World,w.heap[0]?=bE.obj 0→∀(k:Nat) s,L5[k]?=some s→w.cell? ⟨0,k,none⟩=some (.string s)
  dr:¬bE.dr
theorem DM {g:Fz}{σ:Sg}{l:List Int}{au:List Value}{U:Mu}{a6:Array Value}(ha:bc (VR g σ 0) [.agg (l.map (.int .i64))] au)(hr:bn U au a6.toList):a6=#[.agg (l.map (Value.int .i64)).toArray]:=by
 obtain⟨a1,rfl⟩:∃a1,au=[a1]:=by
  have h1:=ha.1
  match au,h1 with
  |[a],_=>exact⟨a,rfl⟩
 have h1:=(ha.2 0 _ a1 rfl rfl).ints
 subst h1
 obtain⟨c,r',hc,hv,iU⟩:=hr.dt
 have h2:=iU.iP
 subst h2
 rw[EI (Z5 l) hv] at hc
 exact Array.toList_inj.1 hc
theorem L6:Builder.Extra prog Rl where
  sizeBuilder:=by kernel_rfl
  liesBuilder:=by kernel_rfl
  t5:=underlying5
  a5:=isAgg5
  z5:=sizeOf5
  v5:=zeroValue5
  infoByte:=by kernel_rfl
  cellsByte:=by kernel_rfl
  sizeByte:=by kernel_rfl
  neB5:=by decide
section
variable [bE]
theorem L7 (hd:¬bE.dr)(xs:List ByteArray)(hx:xs≠[])(sep:ByteArray)(hN:xs.length≤140737488355328)(hlen:(Lib.join (xs.map (·.data.toList)) sep.data.toList).length≤140737488355328) :
  aM prog 134 [.vec (xs.map .str),.str sep] fun r=>r=.str ⟨(Lib.join (xs.map (·.data.toList)) sep.data.toList).toArray⟩:=
 aM.world hd (fun g=>.str _) rfl rfl fun lo g σ h au U w a6 ha s hr r=>by
  have hp:0<xs.length:=List.length_pos_iff.2 hx
  obtain⟨a1,a2,rfl⟩:∃a1 a2,au=[a1,a2]:=by
   have h1:=ha.1
   match au,h1 with
   |[a,b],_=>exact⟨a,b,rfl⟩
  have h1:=ha.2 0 _ a1 rfl rfl
  have h2:=ha.2 1 _ a2 rfl rfl
  obtain⟨c1,r1,gQ,iK,oJ⟩:=hr.dt
  obtain⟨c2,r2,rfl,eI,iU⟩:=oJ.dt
  have h3:=iU.iP
  subst h3
  obtain rfl:a2=.string sep:=by cases h2 with|fr _ _ h2=>cases h2;rfl
  rw[EI rfl eI] at gQ
  cases h1 with
  |fr _ _ h1=>
   generalize oY:xs.map PV.str=es at h1
   have F8:es.length=xs.length:=by rw[← oY,List.length_map]
   cases h1 with
   |fc=>simp at F8;omega
   |da=>simp at F8;omega
   |vec _ o off k H4 sz ao hk dI hg h0 e8 hl rr=>
    obtain rfl:sz=1:=by
     have:=e8 0 (.str xs[0]) (by rw[← oY];simp[hp])
     simpa[PV.cells] using this.symm
    have oS:=r.be o _ (s.fz o _ hg)
    obtain⟨b,a,C,hm,hb,kv,_⟩:=oS
    have oA:∀(j:Nat) x,xs[j]?=some x→w.cell? ⟨b,a+off+j,none⟩=some (.string x):=fun j x hj=>by
     have dE:=(List.getElem?_eq_some_iff.1 hj).1
     obtain⟨u,hu⟩:∃u,ao[off+j]?=some u:=⟨_,List.getElem?_eq_getElem (by omega)⟩
     have DN:=rr j (.str x) 0 (.str x) u (by rw[← oY,List.getElem?_map,hj];rfl) (by simp[PV.cells]) (by simpa using hu)
     obtain⟨u',k1,k2⟩:=kv (off+j) u hu
     cases DN
     rw[EI rfl k2] at k1
     rw[Nat.add_assoc];exact k1
    generalize pB:es.length=n1 at iK
    cases iK with
    |slice _ _ _ _ b1 a1 C1 cj js j4=>
     rw[hm] at cj;injection cj with cj;injection cj with e1 e2;injection e2 with e2 e3;subst e1;subst e2;subst e3
     obtain rfl:a6=#[.slice (some ⟨b,a+off,none⟩) n1 (gb C k),.string sep]:=Array.toList_inj.1 gQ
     rw[show n1=xs.length by omega]
     exact Any.strings_Join ZR L6 b (a+off) (gb C k) xs sep w oA hb hN (by omega) hlen
    |bK=>omega
    |b7=>omega
theorem Z6 (hN:Names):aM prog 133 [.agg ([3,2,2,3,0].map (.int .i64))] fun r=>r=.str ⟨#[108,101,97,112,32,50,32,50,32,51]⟩:=
 aM.world hN.dr (fun g=>.str _) rfl rfl fun lo g σ h au U w a6 ha s hr r=>by
  obtain rfl:=DM ha hr
  exact ZY w (Nat.lt_of_lt_of_le hN.k r.jA.ks) (hN.nm w (r.jA.gl 0 hN.k) 3 _ rfl)
theorem Z7 (hd:¬bE.dr):aM prog 132 [.agg ([3,2,2,3,0].map (.int .i64))] fun r=>r=.bool true:=
 aM.world hd (fun g=>.bool _) rfl rfl fun lo g σ h au U w a6 ha s hr r=>by
  obtain rfl:=DM ha hr
  exact Z2 w
theorem Z8 (hN:Names):aM prog 133 [.agg ([1,5,2,0,8].map (.int .i64))] fun r=>r=.str ⟨#[109,105,120,32,53,32,50,32,56]⟩:=
 aM.world hN.dr (fun g=>.str _) rfl rfl fun lo g σ h au U w a6 ha s hr r=>by
  obtain rfl:=DM ha hr
  exact ZZ w (Nat.lt_of_lt_of_le hN.k r.jA.ks) (hN.nm w (r.jA.gl 0 hN.k) 1 _ rfl)
theorem Z9 (hd:¬bE.dr):aM prog 132 [.agg ([1,5,2,0,8].map (.int .i64))] fun r=>r=.bool true:=
 aM.world hd (fun g=>.bool _) rfl rfl fun lo g σ h au U w a6 ha s hr r=>by
  obtain rfl:=DM ha hr
  exact Z3 w
theorem zu9 (hN:Names):aM prog 133 [.agg ([4,7,4,1,0].map (.int .i64))] fun r=>r=.str ⟨#[116,119,105,99,101,32,55,32,52,32,49]⟩:=
 aM.world hN.dr (fun g=>.str _) rfl rfl fun lo g σ h au U w a6 ha s hr r=>by
  obtain rfl:=DM ha hr
  exact Z1 w (Nat.lt_of_lt_of_le hN.k r.jA.ks) (hN.nm w (r.jA.gl 0 hN.k) 4 _ rfl)
theorem zur (hd:¬bE.dr):aM prog 132 [.agg ([4,7,4,1,0].map (.int .i64))] fun r=>r=.bool true:=
 aM.world hd (fun g=>.bool _) rfl rfl fun lo g σ h au U w a6 ha s hr r=>by
  obtain rfl:=DM ha hr
  exact Z4 w
end
open Go Go.Am Go.Proofs Tryz
attribute [local simp] fx ie rS dS ig nD ah.back de gJ l8 bm Nat.testBit_eq_decide_div_mod_eq cF iX ny vO qE ja qF jw cW oX oV qB jb qC pI mW rR pH qD qv qq qw qt qu qz qA od fI kl fw qG oZ pK qH qI oc rP rQ iY nz gp fY gq lV hU pA oD oE jY qi bo pG fX bU bS l9 ah.get ah.alloc ah.put ah.drop ah.empty bh dm iF jP gI cB chunk List.range List.range.loop ma rT mX bz b9 PV.aB PV.aG PV.dy PV.fW jc jd pL PV.one PV.ids PV.cO gx beq_eq sJ tW
attribute [local simp] cQ bQ jf ua yR rY sR pQ gz fG
attribute [local simp ↓ high] vm tZ
def pZ (l:List ai):List PV:=(l.flatMap lS++[0,0,0,0,0]).map (PV.int .i64)
theorem z4k (l:List ai):(l.flatMap lS++[0,0,0,0,0]).map (PV.int .i64)=pZ l:=rfl
theorem Rn (l:List ai):(l.flatMap lS).length=l.length*5:=by
 induction l with
 |nil=>rfl
 |cons a r ih=>rw[List.flatMap_cons,List.length_append,ih,List.length_cons];show 5+_=_;omega
@[simp] theorem xcm (l:List ai):(pZ l).length=l.length*5+5:=by unfold pZ;rw[List.length_map,List.length_append,Rn];rfl
theorem Ro (l:List ai):pZ l=(l.map encS).flatMap PV.cells++[.int .i64 0,.int .i64 0,.int .i64 0,.int .i64 0,.int .i64 0]:=by
 unfold pZ
 rw[List.map_append]
 congr 1
 induction l with
 |nil=>rfl
 |cons a r ih=>rw[List.flatMap_cons,List.map_append,ih];rfl
theorem Rp (l:List ai):jK 5 (l.map encS):=.map (g:=fun s=>[.int .i64 s.k,.int .i64 s.a,.int .i64 s.i,.int .i64 s.l,.int .i64 s.w]) (fun _=>rfl) (fun _=>rfl) l
theorem L8 (D R:List ai)(s:ai):∃A B,pZ (D++s::R)=A++(.int .i64 s.k::.int .i64 s.a::.int .i64 s.i::.int .i64 s.l::.int .i64 s.w::B)∧A.length=D.length*5∧∀x,pZ (D++{ s with i:=x }::R)=A++(.int .i64 s.k::.int .i64 s.a::.int .i64 x::.int .i64 s.l::.int .i64 s.w::B):=by
 refine⟨(D.flatMap lS).map (PV.int .i64),(R.flatMap lS++[0,0,0,0,0]).map (PV.int .i64),?_,by rw[List.length_map,Rn],fun x=>?_⟩
 ·unfold pZ
  rw[List.flatMap_append,List.append_assoc,List.map_append];rfl
 unfold pZ
 rw[List.flatMap_append,List.append_assoc,List.map_append];rfl
theorem Rq {D R:List ai}{s:ai}{k:Nat}(hk:D.length=k):(pZ (D++s::R))[k*5+1]?=some (.int .i64 s.a)∧(pZ (D++s::R))[k*5+2]?=some (.int .i64 s.i):=by
 obtain⟨A,B,h1,h2,_⟩:=L8 D R s
 rw[h1,← hk,← h2]
 constructor
 ·rw[List.getElem?_append_right (by omega)];simp
 rw[List.getElem?_append_right (by omega)];simp
theorem zzk {D R:List ai}{s:ai}{k:Nat}(hk:D.length=k):(List.drop (k*5) (pZ (D++s::R))).take 5=[.int .i64 s.k,.int .i64 s.a,.int .i64 s.i,.int .i64 s.l,.int .i64 s.w]:=by
 obtain⟨A,B,h1,h2,_⟩:=L8 D R s
 rw[h1,← hk,← h2,List.drop_left];rfl
theorem z3f {D R:List ai}{s:ai}{k:Nat}(hk:D.length=k)(x:Int):(pZ (D++s::R)).take (k*5+2)++.int .i64 x::(pZ (D++s::R)).drop (k*5+2+1)=pZ (D++{ s with i:=x }::R):=by
 obtain⟨A,B,h1,h2,h3⟩:=L8 D R s
 rw[h1,h3,← hk,← h2]
 have h0:A.drop (A.length+2+1)=[]:=List.drop_eq_nil_of_le (by omega)
 rw[List.take_append,List.take_of_length_le (by omega),List.drop_append,h0]
 rw[Nat.add_sub_cancel_left,show A.length+2+1 - A.length=3 by omega]
 simp
theorem z9x:aK yZ=.agg [.int .i64 0,.int .i64 0,.int .i64 0,.int .i64 0,.int .i64 0,.vec [],.vec [],.vec [],.vec []]:=rfl
theorem z3v (e:Int):et (.bp [.agg [.int .i64 0,.int .i64 0,.int .i64 0,.int .i64 0,.int .i64 0,.aF,.aF,.aF,.aF],.aF,.int .i64 e]) (.bp [aK yZ,.vec [],.int .i64 e]):=by
 rw[z9x]
 exact BT (.cons (.ky (.cons (.same _ rfl) (.cons (.same _ rfl) (.cons (.same _ rfl) (.cons (.same _ rfl) (.cons (.same _ rfl) (.cons .dJ (.cons .dJ (.cons .dJ (.cons .dJ .nil)))))))))) (.cons .dJ (.cons (.same _ rfl) .nil)))
variable [bE] in
theorem p54 (c:aq)(l:List ai)(k0:Int)(hB:BC c)(fa:l.length≤200):aM prog 54 [aK c,.vec (l.map encS),.int .i64 k0] fun r=>et r (.bp [aK (IA c l k0),.vec ((IB c l k0).map encS),.int .i64 (xI c l k0)]):=by
 have eE:=yE c hB
 have vP:=LQ c l
 have gN:=fun r hk hl=>aM.soft (F2 c r hk hl) (Q8 c r)
 have jx:=vg k0 0 ((l.length:Int) - 1)
 have db:=fun s hk=>Ff c s hk
 have hC:dh c=(cQ c):=rfl
 have hE:∀s:ai,encS s=.agg [.int .i64 s.k,.int .i64 s.a,.int .i64 s.i,.int .i64 s.l,.int .i64 s.w]:=fun _=>rfl
 have mT:IntKind.i64.wrap ((l.length:Int) - 1)=(l.length:Int) - 1:=wrap64 (by omega) (by omega)
 have iI:xI c l k0=if bP c≠0 then bP c else if eO c l=none∨¬(0≤k0∧k0≤(l.length:Int) - 1) then 1 else if 48<(DK c (Au c l k0)).length then 2 else 0:=rfl
 have DO:IA c l k0=if xI c l k0=0 then { c with c:=DK c (Au c l k0) } else yZ:=rfl
 have F9:IB c l k0=if xI c l k0=0 then Au c l k0 else []:=rfl
 obtain⟨e,he⟩:∃e,bP c=e:=⟨_,rfl⟩
 have eC:=he
 rw[he] at eE vP gN db iI
 unfold aK at eE vP gN db
 rw[hC] at eE vP gN db
 obtain⟨wi,eD⟩:∃b,(decide (0≤k0)&&decide (k0≤(l.length:Int) - 1))=b:=⟨_,rfl⟩
 rw[eD] at jx
 obtain⟨xb,DP⟩:∃b,(eO c l).isSome=b:=⟨_,rfl⟩
 obtain⟨xn,hxn⟩:∃b,(eO c l).getD 0=b:=⟨_,rfl⟩
 rw[DP,hxn] at vP
 show aM prog 54 [.agg (dh c),.vec (l.map encS),.int .i64 k0] _
 rw[hC]
 have fL:xI c l k0≠0→∀x,xI c l k0=x→et (.bp [.agg [.int .i64 0,.int .i64 0,.int .i64 0,.int .i64 0,.int .i64 0,.aF,.aF,.aF,.aF],.aF,.int .i64 x]) (.bp [aK (IA c l k0),.vec ((IB c l k0).map encS),.int .i64 (xI c l k0)]):=fun h x hx=>by
  rw[DO,F9,if_neg h,if_neg h,hx]
  exact z3v x
 refine .bV func54 rfl rfl ?_
 refine .sr ?_
 refine .seq (.seq (.aD [0,1,2] rfl af (.rn [0] _ ?_)))
 refine .pc rfl rfl rfl rfl rfl call55 (eE) ?_
 refine .rn [2] [] ?_
 refine .done (.sr ?_)
 refine .cs ?_ ?_<;>intro eZ
 ·try simp at eZ
  rw[if_pos eZ] at iI
  refine .sr ?_
  refine .ret (aH ?_)
  exact fL (by rw[iI];exact eZ) _ iI
 try simp at eZ
 subst eZ
 rw[if_neg (by simp)] at iI
 have bq:=j7 eC
 refine .skip (.seq (.seq (.aD lF rfl af (.rn [0,1] _ ?_))))
 refine .pc rfl rfl rfl rfl rfl call100 (vP rfl fa) ?_
 refine .rn [3,4,5,6,7] [] ?_
 refine .done (.seq (.aD ij rfl af ?_))
 refine .rn [0,1,2] _ ?_
 refine .split (t:=38) rfl (fun mY=>?_) (fun mY=>?_)
 ·try subst mY
  try simp at mY
  have uM:eO c l=none:=by rw[mY] at DP;cases hh:eO c l with|none=>rfl|some v=>rw[hh] at DP;cases DP
  rw[if_pos (.inl uM)] at iI
  refine .rn [3,4,5,6,7,8,9] [] ?_
  refine .done (.eK rfl (.sr ?_))
  refine .ret (aH ?_)
  exact fL (by rw[iI];decide) _ iI
 try subst mY
 try simp at mY
 obtain⟨xv,uM⟩:∃v,eO c l=some v:=by rw[mY] at DP;exact Option.isSome_iff_exists.1 DP
 refine .rn [3,4,5,6] _ ?_
 refine .pc rfl rfl rfl rfl rfl call85 (jx) ?_
 refine .rn [8,9] [] ?_
 refine .done ?_
 refine .cs ?_ ?_<;>intro IC
 ·try simp at IC
  have l5:¬(0≤k0∧k0≤(l.length:Int) - 1):=fun hh=>by rw[IC] at eD;simp[hh.1,hh.2] at eD
  rw[if_pos (.inr l5)] at iI
  refine .sr ?_
  refine .ret (aH ?_)
  exact fL (by rw[iI];decide) _ iI
 try simp at IC
 have l5:0≤k0∧k0≤(l.length:Int) - 1:=by rw[IC] at eD;simpa using eD
 rw[if_neg (by rw[uM];simp[l5])] at iI
 obtain⟨k,rfl⟩:∃k:Nat,k0=k:=⟨k0.toNat,by omega⟩
 have fD:k<l.length:=by omega
 have h0:0<l.length:=by omega
 have yF:=fy k
 have zX:=(Ra uM).erase bq k
 have Rr:=MI.start zX
 have kK:(l.eraseIdx k).length=l.length - 1:=by rw[List.length_eraseIdx,if_pos fD]
 have hmR:Au c l k=vL c (l.eraseIdx k) 0 0:=by unfold Au;rw[Int.toNat_natCast]
 rw[hmR] at iI DO F9
 refine .skip (.seq (.aD iJ rfl af (.rn [0] _ ?_)))
 refine .step rfl rfl (.call rfl rfl rfl call112 (by decide) (((cR.vN (by simp) (ZJ l (by omega) h0) rfl h0)).mono ?_))
 rintro _ _ ⟨rfl,rfl⟩
 refine .rn [2,3,4] _ ?_
 refine .step rfl rfl (.call rfl rfl rfl call111 (by decide) (((LR (zs:=l) (i:=2) (nl:=false) (n:=l.length) (k:=k) (by simp) rfl fD)).mono ?_))
 rintro _ _ ⟨rfl,rfl⟩
 rw[z4k]
 refine .rn [6] [] ?_
 refine .done (.sr ?_)
 refine .seq (.sr ?_)
 refine .block ?_
 refine .dF (fun z:List ai×List ai×Nat×Nat=>([(3,.ptr 0 0),(6,.ptr 1 0),(12,.sub 2 0 (l.length - 1)),(13,.int .i64 z.2.2.1),(14,.int .i64 z.2.2.2),(54,.int .i64 (l.length - 1:Nat)),(55,.int .i64 z.1.length)],⟨3,[(2,.arr true 5 (pZ (z.1++z.2.1))),(1,.box [.int .i64 0,.int .i64 0,.int .i64 0,.int .i64 0,.int .i64 0,.aF,.aF,.aF,.aF]),(0,.box (cQ c))]⟩)) (fun z=>MI c (l.eraseIdx k) z.1 z.2.1 z.2.2.1 z.2.2.2) (fun z=>z.2.1.length) ([],l.eraseIdx k,0,0) Rr bx ?_
 clear Rr zX
 rintro⟨D,R,i,j⟩ hM
 simp only at hM ⊢
 have ID:=hM.hl
 rw[kK] at ID
 have cT:=hM.hi
 have dE:=hM.hj
 have o4:=bq.tl
 refine .sr ?_
 refine .seq ?_
 refine .cs ?_ ?_<;>intro Rs
 ·try simp at Rs
  obtain⟨s,R',rfl⟩:∃s R',R=s::R':=by
   cases R with
   |nil=>simp at ID;omega
   |cons s R'=>exact⟨s,R',rfl⟩
  obtain⟨sk,sa,si,sl,sw⟩:=s
  obtain⟨g1,g2,n,i',w,hd,g3⟩:=hM.ch
  simp only at g1 g2
  obtain⟨a,rfl⟩:∃a:Nat,sa=a:=⟨sa.toNat,by omega⟩
  obtain⟨d1,d2,d3,d4,d5,d6⟩:=mf bq hd
  have Cj:=hM.next bq hd
  simp only[Int.toNat_natCast] at Cj d2 d3 d5
  obtain⟨x,hx⟩:∃x:Nat,j+(a - i)=x:=⟨_,rfl⟩
  rw[hx] at Cj
  have eP:IntKind.i64.wrap ((j:Int)+(a:Int))=(j:Int)+(a:Int):=wrap64 (by omega) (by omega)
  have rV:IntKind.i64.wrap ((j:Int)+(a:Int) - (i:Int))=(x:Int):=by rw[wrap64 (by omega) (by omega)];omega
  have BP:IntKind.i64.wrap ((x:Int)+(w.length:Int))=(x:Int)+(w.length:Int):=wrap64 (by omega) (by omega)
  have hw6:IntKind.i64.wrap (x:Int)=(x:Int):=wrap64 (by omega) (by omega)
  have xt:IntKind.i64.wrap ((D.length:Int)+1)=(D.length:Int)+1:=wrap64 (by omega) (by omega)
  have Ga:=(Rq (D:=D) (R:=R') (s:=⟨sk,a,si,sl,sw⟩) (k:=D.length) rfl).1
  have lL:=z3f (D:=D) (R:=R') (s:=⟨sk,a,si,sl,sw⟩) (k:=D.length) rfl (x:Int)
  have Gb:=(Rq (D:=D) (R:=R') (s:=⟨sk,a,x,sl,sw⟩) (k:=D.length) rfl).2
  have Gc:=zzk (D:=D) (R:=R') (s:=⟨sk,a,x,sl,sw⟩) (k:=D.length) rfl
  have tQ:aR c ⟨sk,a,x,sl,sw⟩=some (n,i',w):=by
   have:=Rb (c:=c) (s:=⟨sk,a,si,sl,sw⟩) (x:=x) (by omega) d2.2.2
   rw[hd] at this;exact this
  have db:=db ⟨sk,a,x,sl,sw⟩ rfl
  rw[yI tQ,hE] at db
  unfold ik at db
  simp only at Gb Gc db Ga lL
  have gG:D.length*5≤(D.length+(R'.length+1))*5+2:=by omega
  have cK:D.length*5≤(D.length+(R'.length+1))*5:=by omega
  rcases Iz w with⟨rfl,hw⟩|hw<;>rw[hw] at db
  ·skip
   refine .skip (.seq (.block (.sr ?_)))
   refine .sr ?_
   refine .sr ?_
   refine .seq ?_
   refine .rX (ms:=[0,0,2,6,15,31,63,63,63,63,0,1151,3327,7679,16383]) (W:=[4,13]) (As:=[10]) (items:=Ru) rfl af af af af (by decide) ?_
   iterate 4 refine .rf ?_
   refine .al rfl rfl (by decide) (by decide) (by decide) (by decide) fh ?_
   refine .wr rfl rfl (by decide) (.pure rfl rfl rfl call95 (by decide) (db) (by first|rfl|simp[*]) ?_)
   rintro _ rfl
   iterate 7 refine .rf ?_
   refine .wr rfl rfl (by decide) (.dS fh (by decide) ?_)
   refine .rf ?_
   refine .done ?_
   refine .drawn (ms:=[0,1,0,4,12,28,0,64,252,3,1023]) (W:=[]) (items:=y3) rfl af af af ?_
   iterate 11 refine .rx ?_
   refine .done (.rn ?_)
   refine⟨(D++[(⟨sk,a,x,sl,sw⟩:ai)],R',i',x),Cj,Nat.lt_succ_self _,?_⟩
   rw[show (D++[(⟨sk,a,x,sl,sw⟩:ai)]++R')=D++(⟨sk,a,x,sl,sw⟩:ai)::R' by simp]
   exact bx
  skip
  refine .skip (.seq (.block (.sr ?_)))
  refine .sr ?_
  refine .sr ?_
  refine .seq ?_
  refine .rX (ms:=[0,0,2,6,15,31,63,63,63,63,0,1151,3327,7679,16383]) (W:=[4,13]) (As:=[10]) (items:=Ru) rfl af af af af (by decide) ?_
  iterate 4 refine .rf ?_
  refine .al rfl rfl (by decide) (by decide) (by decide) (by decide) fh ?_
  refine .wr rfl rfl (by decide) (.pure rfl rfl rfl call95 (by decide) (db) (by first|rfl|simp[*]) ?_)
  rintro _ rfl
  iterate 7 refine .rf ?_
  refine .wr rfl rfl (by decide) (.dS fh (by decide) ?_)
  refine .rf ?_
  refine .done ?_
  refine .drawn (ms:=[0,1,0,4,12,28,0,64,252,3,1023]) (W:=[]) (items:=y3) rfl af af af ?_
  iterate 11 refine .rx ?_
  refine .done (.rn ?_)
  refine⟨(D++[(⟨sk,a,x,sl,sw⟩:ai)],R',i',x+w.length),Cj,Nat.lt_succ_self _,?_⟩
  rw[show (D++[(⟨sk,a,x,sl,sw⟩:ai)]++R')=D++(⟨sk,a,x,sl,sw⟩:ai)::R' by simp]
  exact bx
 try simp at Rs
 obtain rfl:R=[]:=by
  cases R with
  |nil=>rfl
  |cons s R'=>simp at ID;omega
 have Rv:=hM.stop
 have vK:D.length=l.length - 1:=by simpa using ID
 obtain⟨o,m,sE⟩:=Zu bq (by have:=(Ra uM).erase bq k;exact this)
 rw[← Rv] at sE iI DO F9
 have hO:DK c D=o:=by unfold DK;rw[sE]
 rw[hO] at iI DO
 have gN:=gN D rfl (by omega)
 clear Rv
 rw[show xG c D=.bp [ints o,.int .i64 m,.bool true] by unfold xG;rw[sE]] at gN
 refine .exit (.seq ?_)
 simp only[List.append_nil]
 refine .rec (ay:=[(3,.ptr 0 0),(6,.ptr 1 0),(12,.vec (D.map encS))]) (aQ:=⟨2,[(1,.box [.int .i64 0,.int .i64 0,.int .i64 0,.int .i64 0,.int .i64 0,.aF,.aF,.aF,.aF]),(0,.box (cQ c))]⟩) (.mk [2] [] (by repeat' (first|exact trivial|exact trivial|exact Alt.q8 2 0 _ true 5 _ _ rfl rfl (Gd (by rw[Ro];rfl) (Rp D) (by simpa using vK))|refine And.intro (Exists.intro _ (And.intro rfl ?_)) ?_|(refine Alt.same _ ?_;first|rfl|(simp[*];done))|exact Alt.aY _ _ (aS rfl) rfl|exact Alt.grow _ _ _ _ (aS rfl) rfl|(refine Alt.xE _ _ _ _ _ ?_ (aS rfl) rfl;simp[*];done)|exact Alt.ptr _ _ _ (aS rfl) rfl|exact Alt.own _ _ _ _ _ (aS rfl) rfl|exact Alt.sub _ _ _ _ (aS rfl) rfl|exact Alt.bN _ _ (aS rfl) rfl|exact Alt.aF _ _|(refine Alt.mD _ _ _ ?_;simp[*];done)|exact Alt.e0 _|exact Alt.dv aA.nil (aA.cons (Alt.ptr _ _ _ (aS rfl) rfl) aA.nil)|exact Alt.dJ|exact Alt.lK _ _ _|(refine Alt.bJ _ _ _ _ _ rfl rfl ?_;simp[*];done)|exact Alt.gM _ _ _ _ _ _ _ _ rfl rfl rfl|exact Alt.dz _ _ rfl rfl|(refine Alt.xF ?_;simp[*]<;>rfl)|(refine Alt.ofEq rfl ?_;simp[*];done))) (by repeat' (first|exact trivial|exact trivial|exact Alt.q8 2 0 _ true 5 _ _ rfl rfl (Gd (by rw[Ro];rfl) (Rp D) (by simpa using vK))|refine And.intro (And.intro (aS rfl) (Or.inr (And.intro rfl (Exists.intro _ (And.intro rfl ?_))))) ?_|refine And.intro (And.intro (aS rfl) (Or.inl (Exists.intro _ (And.intro rfl (aS rfl))))) ?_|refine And.intro (And.intro (aS rfl) (Or.inl (Exists.intro _ (And.intro (congrArg (aI.grow _) (by simp[*])) (aS rfl))))) ?_|rfl|exact aA.nil|(refine congrArg (aI.grow _) ?_;simp[*];done)|(refine congrArg aI.map ?_;simp[*];done)|(refine congrArg (aI.arr _ _) ?_;simp[*];done)|refine pY.mk rfl rfl rfl rfl rfl ?_|refine And.intro (Exists.intro _ (And.intro rfl ?_)) ?_|refine aA.cons ?_ ?_|(refine Alt.same _ ?_;first|rfl|(simp[*];done))|exact Alt.aY _ _ (aS rfl) rfl|exact Alt.grow _ _ _ _ (aS rfl) rfl|(refine Alt.xE _ _ _ _ _ ?_ (aS rfl) rfl;simp[*];done)|exact Alt.ptr _ _ _ (aS rfl) rfl|exact Alt.own _ _ _ _ _ (aS rfl) rfl|exact Alt.sub _ _ _ _ (aS rfl) rfl|exact Alt.bN _ _ (aS rfl) rfl|exact Alt.aF _ _|(refine Alt.mD _ _ _ ?_;simp[*];done)|exact Alt.e0 _|exact Alt.dv aA.nil (aA.cons (Alt.ptr _ _ _ (aS rfl) rfl) aA.nil)|exact Alt.dJ|exact Alt.lK _ _ _|(refine Alt.bJ _ _ _ _ _ rfl rfl ?_;simp[*];done)|exact Alt.gM _ _ _ _ _ _ _ _ rfl rfl rfl|exact Alt.dz _ _ rfl rfl|(refine Alt.xF ?_;simp[*]<;>rfl)|(refine Alt.ofEq rfl ?_;simp[*];done))) rfl rfl rfl) ?_
 refine .aD ij rfl af (.rn [0,1] _ ?_)
 refine .pc rfl rfl rfl rfl rfl call110 (gN) ?_
 refine .rn [3,4,5,6,7,8,9] [] ?_
 refine .done (.seq (.sr ?_))
 refine .cs ?_ ?_<;>intro q9
 ·try simp at q9
  rw[if_pos (by omega)] at iI
  refine .sr ?_
  refine .ret (aH ?_)
  exact fL (by rw[iI];decide) _ iI
 try simp at q9
 rw[if_neg (by omega)] at iI
 rw[if_pos iI] at DO F9
 have Ck:=LZ c eC
 unfold aK at Ck
 rw[hC] at Ck
 refine .skip (.seq (.aD [0,1,2] rfl af (.rn [0] _ ?_)))
 refine .pc rfl rfl rfl rfl rfl call101 (Ck) ?_
 refine .rn [2] [] ?_
 refine .done (.sr ?_)
 refine .sr ?_
 refine .ret (aH ?_)
 rw[DO,F9,iI];exact q7 rfl
def ov (l:List Int):aq:={ om:=4,le:=3,tw:=3,gl:=2,ad:=5,mx:=[⟨4,8,2⟩],t:=[5,7,3,9,7,4,6],g:=[⟨3,[11]⟩],c:=l }
section
variable [bE]
theorem Rw  : aM prog 76 [] fun r=>r=.agg [.int .i64 4,.int .i64 3,.int .i64 3,.int .i64 2,.int .i64 5,.vec [bs ⟨4,8,2⟩]]:=by
 refine .bV func76 rfl rfl ?_
 refine .sr ?_
 refine .sr ?_
 refine .ret (aH ?_)
 exact zk
theorem p74 (l:List Int):aM prog 74 [ints l] fun r=>r=aK (ov l):=by
 refine .bV func74 rfl rfl ?_
 refine .sr ?_
 refine .seq (.aD lF rfl af ?_)
 refine .pc rfl rfl rfl rfl rfl call76 (Rw) ?_
 refine .rn [1,2] _ ?_
 refine .step rfl rfl (.s5 (ay:=[(5,ints [11]),(4,ints [5,7,3,9,7,4,6]),(3,.agg [.int .i64 4,.int .i64 3,.int .i64 3,.int .i64 2,.int .i64 5,.vec [bs ⟨4,8,2⟩]]),(0,ints l),(2,.ptr 0 0)]) (aQ:=⟨3,[(0,.box [.int .i64 0,.int .i64 0,.int .i64 0,.int .i64 0,.int .i64 0,.aF,.aF,.aF,.aF])]⟩) (.mk [1,2] [] gK il rfl rfl rfl) (.op fh (by decide) ?_))
 refine .rn [4,5,6,7] [] ?_
 refine .done (.ret (aH ?_))
 exact zk
end
theorem zyo (l:List ByteArray):kj 1 (l.map PV.str)=true:=xj (f:=PV.str) (n:=1) (fun _=>rfl) l
theorem zuy (l:List ByteArray):kG (l.map PV.str)=true:=xm (f:=PV.str) (fun _=>rfl) l
attribute [local simp] zyo zuy
def y4 (tx:ai→ByteArray)(l:List ai)(k:Nat):List ByteArray:=(l.take k).map tx
theorem zzl {tx:ai→ByteArray}{l:List ai}{k:Nat}(h:k<l.length):y4 tx l (k+1)=y4 tx l k++[tx l[k]]:=by
 unfold y4;rw[List.take_succ_eq_append_getElem h,List.map_append];rfl
theorem z4c {tx:ai→ByteArray}{l:List ai}{k:Nat}(h:k≤l.length):(y4 tx l k).length=k:=by
 unfold y4;rw[List.length_map,List.length_take];omega
theorem z6b (tx:ai→ByteArray)(l:List ai):y4 tx l l.length=l.map tx:=by unfold y4;rw[List.take_length]
variable [bE] in
theorem p75 (hd:¬bE.dr)(l:List ai)(tx:ai→ByteArray)(hl:l.length≤100)(cC:l≠[])(hf:∀s∈l,aM prog 132 [encS s] fun r=>r=.bool true)(ht:∀s∈l,aM prog 133 [encS s] fun r=>r=.str (tx s))(hj:(Lib.join ((l.map tx).map (·.data.toList)) [59,32]).length≤140737488355328):aM prog 75 [.vec (l.map encS)] fun r=>r=.bp [.str ⟨(Lib.join ((l.map tx).map (·.data.toList)) [59,32]).toArray⟩,.int .i64 0]:=by
 have hE:∀s:ai,encS s=.agg [.int .i64 s.k,.int .i64 s.a,.int .i64 s.i,.int .i64 s.l,.int .i64 s.w]:=fun _=>rfl
 have hp:0<l.length:=List.length_pos_iff.2 cC
 have Ge:=L7 hd (l.map tx) (by simpa using cC) ⟨#[59,32]⟩ (by rw[List.length_map];omega) hj
 refine .bV func75 rfl rfl ?_
 refine .sr ?_
 refine .seq (.sr ?_)
 refine .cs ?_ ?_<;>intro c9
 ·try simp at c9
  exfalso;omega
 try simp at c9
 refine .skip (.sr ?_)
 refine .seq (.sr ?_)
 refine .block ?_
 refine .dF (fun k:Nat=>([(4,.grow 0 k true),(10,.vec (l.map encS)),(11,.int .i64 l.length),(12,.int .i64 k)],⟨1,[(0,.grow 1 ((y4 tx l k).map .str))]⟩)) (fun k=>k≤l.length) (fun k=>l.length - k) 0 (by simp) bx ?_
 rintro k hk
 simp only at hk ⊢
 refine .sr ?_
 refine .seq ?_
 refine .cs ?_ ?_<;>intro pW
 ·try simp at pW
  have eP:IntKind.i64.wrap ((k:Int)+1)=((k+1:Nat):Int):=by rw[wrap64 (by omega) (by omega)];omega
  have fD:k<l.length:=by omega
  obtain⟨s,hs⟩:∃s,l[k]?=some s:=⟨_,List.getElem?_eq_getElem fD⟩
  have hse:l[k]=s:=(List.getElem?_eq_some_iff.1 hs).2
  have hf:=hf s (List.mem_of_getElem? hs)
  have ht:=ht s (List.mem_of_getElem? hs)
  rw[hE] at hf ht
  have xJ:=@zzl tx l k fD
  rw[hse] at xJ
  have Rx:=@z4c tx l k hk
  obtain⟨A,hA⟩:∃A,y4 tx l k=A:=⟨_,rfl⟩
  rw[hA] at xJ Rx ⊢
  clear hA
  have Ib:k+1≤4294967296:=by omega
  refine .skip (.seq (.block (.sr ?_)))
  refine .seq (.seq (.aD [0,1,2] rfl af (.rn [0] _ ?_)))
  refine .pc rfl rfl rfl rfl rfl call132 (hf) ?_
  refine .rn [2] [] ?_
  refine .done ?_
  refine .cs ?_ ?_<;>intro pS
  ·try simp at pS
  try simp at pS
  refine .skip (.aD jR rfl af (.rn [0,1] _ ?_))
  refine .pc rfl rfl rfl rfl rfl call133 (ht) ?_
  refine .rn [3,4,5] [] ?_
  refine .done (.rn ?_)
  refine⟨k+1,bt,bt,?_⟩
  simp only[xJ,List.map_append,List.map_cons,List.map_nil]
  exact(.mk [] [(0,3)] gK il rfl rfl rfl)
 try simp at pW
 obtain rfl:k=l.length:=by omega
 rw[z6b]
 obtain⟨A,hA⟩:∃A,l.map tx=A:=⟨_,rfl⟩
 have Rx:A.length=l.length:=by rw[← hA,List.length_map]
 rw[hA] at Ge ⊢
 refine .exit (.seq (.aD dU rfl af (.rn [0] _ ?_)))
 refine .step rfl rfl (.take rfl rfl rfl call134 (by decide) (by first|(simp<;>rfl)|(simp[*]<;>rfl)|(simp[*];done)) (Ge) ?_)
 rintro _ rfl
 refine .rn [2,3] [] ?_
 refine .done (.ret (aH ?_))
 exact zk
def p6:List ai:=[⟨3,2,2,3,0⟩,⟨1,5,2,0,8⟩,⟨4,7,4,1,0⟩]
def Ry (s:ai):ByteArray:=if s.k=3 then ⟨#[108,101,97,112,32,50,32,50,32,51]⟩ else if s.k=1 then ⟨#[109,105,120,32,53,32,50,32,56]⟩ else ⟨#[116,119,105,99,101,32,55,32,52,32,49]⟩
theorem spJ:(Lib.join ((p6.map Ry).map (·.data.toList)) [59,32]).toArray=#[108,101,97,112,32,50,32,50,32,51,59,32,109,105,120,32,53,32,50,32,56,59,32,116,119,105,99,101,32,55,32,52,32,49]:=by decide +kernel
variable [bE] in
theorem z9d (hN:Names):aM prog 75 [.vec (p6.map encS)] fun r=>r=.bp [.str ⟨#[108,101,97,112,32,50,32,50,32,51,59,32,109,105,120,32,53,32,50,32,56,59,32,116,119,105,99,101,32,55,32,52,32,49]⟩,.int .i64 0]:=by
 have h:=p75 hN.dr p6 Ry (by decide) (by decide)
  (fun s hs=>by
   simp only[p6,List.mem_cons,List.not_mem_nil,or_false] at hs
   rcases hs with rfl|rfl|rfl
   ·exact Z7 hN.dr
   ·exact Z9 hN.dr
   exact zur hN.dr)
  (fun s hs=>by
   simp only[p6,List.mem_cons,List.not_mem_nil,or_false] at hs
   rcases hs with rfl|rfl|rfl
   ·exact Z6 hN
   ·exact Z8 hN
   exact zu9 hN)
  af
 rw[spJ] at h
 exact h
def ow (F:Nat→Int)(m n:Nat):List PV:=(List.range n).map fun (j:Nat)=>PV.int .i64 (if j<m then F j else 0)
@[simp] theorem L9 (F:Nat→Int)(m n:Nat):(ow F m n).length=n:=by simp[ow,-List.range,-List.range.loop]
@[simp] theorem Rz (F:Nat→Int)(m n:Nat):(ow F m n).all PV.one=true:=by simp[ow,PV.one]
@[simp] theorem xa3 (F:Nat→Int)(m n:Nat):PV.aG (ow F m n)=true:=by
 unfold ow
 generalize List.range n=l
 induction l with
 |nil=>rfl
 |cons a r ih=>simp only[List.map_cons,PV.aG,PV.aB,Bool.true_and];exact ih
theorem Ma (F:Nat→Int)(m n:Nat)(i:Nat)(h:i<n):(ow F m n)[i]?=some (PV.int .i64 (if i<m then F i else 0)):=by
 simp[ow,h,-List.range,-List.range.loop]
theorem z2x (F:Nat→Int)(n:Nat):List.replicate n (PV.int .i64 0)=ow F 0 n:=by
 simp[ow,List.map_const',-List.range,-List.range.loop]
theorem z6f (F:Nat→Int)(m n:Nat)(h:m<n):(ow F m n).take m++PV.int .i64 (F m)::(ow F m n).drop (m+1)=ow F (m+1) n:=by
 refine List.ext_getElem? fun j=>?_
 by_cases hj:j<n
 ·rw[Ma F _ n j hj,List.getElem?_append]
  simp only[List.length_take,L9,Nat.min_eq_left (Nat.le_of_lt h)]
  by_cases h1:j<m
  ·rw[if_pos h1,List.getElem?_take_of_lt h1,Ma F _ n j hj,if_pos h1,if_pos (by omega)]
  rw[if_neg h1]
  by_cases h2:j=m
  ·subst h2;simp
  rw[show j - m=(j - m - 1)+1 by omega,List.getElem?_cons_succ,List.getElem?_drop,show m+1+(j - m - 1)=j by omega,Ma F _ n j hj,if_neg (by omega),if_neg (by omega)]
 rw[List.getElem?_eq_none (by simp;omega),List.getElem?_eq_none (by simp;omega)]
theorem RA {vh:ah}{i n:Nat}{cs:List PV}(hg:vh.get i=some (.arr false 1 cs))(h:cs.length=n)(ho:cs.all PV.one=true):jw vh 1 (.own i 0 n n)=some cs:=by
 unfold jw
 simp only[hg,ho]
 subst h
 simp[chunk,beq_eq,sJ]
def pf (c:aq)(i:Nat):List Int:=(List.range (c.c.length+1)).map fun j=>aZ c i j
theorem zzz (F:Nat→Int)(n:Nat):ow F n n=((List.range n).map F).map (PV.int .i64):=by
 unfold ow
 rw[List.map_map]
 refine List.map_congr_left fun j hj=>?_
 have:=List.mem_range.1 hj
 simp only[Function.comp]
 rw[if_pos this]
def jL (c:aq)(k:Nat):List PV:=(List.range k).map fun i=>ints (pf c i)
theorem zxb (c:aq)(k:Nat):jL c (k+1)=jL c k++[ints (pf c k)]:=by unfold jL;rw[List.range_succ,List.map_append];rfl
@[simp] theorem xa2 (c:aq)(k:Nat):(jL c k).length=k:=by simp[jL,-List.range,-List.range.loop]
theorem zzs (c:aq)(k:Nat):PV.aG (jL c k)=true:=by
 unfold jL
 generalize List.range k=l
 induction l with
 |nil=>rfl
 |cons a r ih=>simp only[List.map_cons,PV.aG,ints,PV.aB,Bool.true_and];exact ih
def Gf (x:aO):List ai:=match x.s with|some s=>[s]|none=>[]
theorem z0h (x:aO)(l:List aO):lI (x::l)=Gf x++lI l:=by
 unfold lI Gf
 rw[List.filterMap_cons]
 cases x.s<;>rfl
structure BI (c:aq) (i j:Nat) (d:List ai):Prop where
  hi:i≤c.t.length
  hj:j≤c.c.length
  ht:aZ c i j+bwd c i j=r5 c
  hd:d++lI (Cc c i j)=vI c
theorem BI.start {c:aq}(hr:Rt c):BI c 0 0 []:=⟨Nat.zero_le _,Nat.zero_le _,by rw[QP hr,LF hr];omega,by rw[YR];rfl⟩
theorem BI.stop {c:aq}{d:List ai}(h:BI c c.t.length c.c.length d):d=vI c:=by have:=h.hd;rw[YS] at this;simpa[lI] using this
theorem BI.next {c:aq}(hr:Rt c){i j:Nat}{d:List ai}(h:BI c i j d){pre jS:List aO}{x:aO}(hs:steps c i j=pre++x::jS)(hp:∀y∈pre,iw c y=false)(hx:iw c x=true):BI c x.i' x.j' (d++Gf x):=by
 have hn:=YP hs hp hx
 have hm:x∈steps c i j:=by rw[hs];simp
 have ho:=jh hr hm
 refine⟨ho.it,ho.jt,QR hr (Ca h.hi h.hj hm) hx,?_⟩
 rw[List.append_assoc,← z0h,← YT hr h.hi h.hj hn]
 exact h.hd
theorem BI.len {c:aq}(hr:Rt c){i j:Nat}{d:List ai}(h:BI c i j d):d.length≤96:=by
 have h1:=congrArg List.length h.hd
 have h2:=YX hr (YU hr)
 have h3:vI c=lI (yX c):=rfl
 rw[List.length_append,h3] at h1
 omega
theorem BI.no {c:aq}(hr:Rt c){i j:Nat}{d:List ai}(h:BI c i j d)(he:¬(i=c.t.length∧j=c.c.length))(hp:∀y∈steps c i j,iw c y=false):False:=by
 obtain⟨x,hx,ht⟩:=QQ hr h.hi h.hj he h.ht
 rw[hp x hx] at ht;cases ht
theorem z4u (c:aq)(ps:List (Nat×Nat))(i j:Nat)(d:List ai)(X:PV){n g:Nat}(hg:g=5∨(1000≤g∧g<n)):Rec 0 [(1,.ptr 0 0),(2,.ptr 1 0),(5,.ptr 2 0),(6,.ptr 3 0),(7,.ptr 4 0),(30,X)] ⟨n,[(4,.box [.int .i64 i,.int .i64 j]),(3,.box [.grow g (d).length true,.int .i64 (aZ c c.t.length c.c.length),.aF]),(2,.box (bQ c (.az (a8 (places c) (aZ c))) (.az (a8 ps (bwd c))) (.int .i64 (aZ c c.t.length c.c.length)))),(1,.box [.aF,.int .i64 0,.aF]),(0,.box (cQ c)),(g,.grow 5 ((d).map encS))]⟩ [(1,.ptr 0 0),(2,.ptr 1 0),(5,.ptr 2 0),(6,.ptr 3 0),(7,.ptr 4 0)] ⟨6,[(4,.box [.int .i64 i,.int .i64 j]),(3,.box [.grow 5 (d).length true,.int .i64 (aZ c c.t.length c.c.length),.aF]),(2,.box (bQ c (.az (a8 (places c) (aZ c))) (.az (a8 ps (bwd c))) (.int .i64 (aZ c c.t.length c.c.length)))),(1,.box [.aF,.int .i64 0,.aF]),(0,.box (cQ c)),(5,.grow 5 ((d).map encS))]⟩:=by
 rcases hg with rfl|⟨hg,xD⟩
 ·exact bx
 have fV:(⟨n,[(4,.box [.int .i64 i,.int .i64 j]),(3,.box [.grow g (d).length true,.int .i64 (aZ c c.t.length c.c.length),.aF]),(2,.box (bQ c (.az (a8 (places c) (aZ c))) (.az (a8 ps (bwd c))) (.int .i64 (aZ c c.t.length c.c.length)))),(1,.box [.aF,.int .i64 0,.aF]),(0,.box (cQ c)),(g,.grow 5 ((d).map encS))]⟩:ah).get g=some (.grow 5 (d.map encS)):=by
  simp[show ¬g=4 by omega,show ¬g=3 by omega,show ¬g=2 by omega,show ¬g=1 by omega,show ¬g=0 by omega]
 refine .mk [] [(5,g)] gK (by refine⟨?_,?_,?_,?_,?_,⟨⟨(aS rfl),.inr ⟨rfl,_,fV,rfl⟩⟩,trivial⟩⟩<;>(refine⟨(aS rfl),.inr ⟨rfl,_,rfl,?_⟩⟩)<;>repeat' (first|exact trivial|refine And.intro (And.intro (aS rfl) (Or.inr (And.intro rfl (Exists.intro _ (And.intro rfl ?_))))) ?_|refine And.intro (And.intro (aS rfl) (Or.inl (Exists.intro _ (And.intro rfl (aS rfl))))) ?_|refine And.intro (And.intro (aS rfl) (Or.inl (Exists.intro _ (And.intro (congrArg (aI.grow _) (by simp[*])) (aS rfl))))) ?_|rfl|exact aA.nil|(refine congrArg (aI.grow _) ?_;simp[*];done)|(refine congrArg aI.map ?_;simp[*];done)|(refine congrArg (aI.arr _ _) ?_;simp[*];done)|refine pY.mk rfl rfl rfl rfl rfl ?_|refine And.intro (Exists.intro _ (And.intro rfl ?_)) ?_|refine aA.cons ?_ ?_|(refine Alt.same _ ?_;first|rfl|(simp[*];done))|exact Alt.aY _ _ (aS rfl) rfl|exact Alt.grow _ _ _ _ (aS rfl) rfl|(refine Alt.xE _ _ _ _ _ ?_ (aS rfl) rfl;simp[*];done)|exact Alt.ptr _ _ _ (aS rfl) rfl|exact Alt.own _ _ _ _ _ (aS rfl) rfl|exact Alt.sub _ _ _ _ (aS rfl) rfl|exact Alt.bN _ _ (aS rfl) rfl|exact Alt.aF _ _|(refine Alt.mD _ _ _ ?_;simp[*];done)|exact Alt.e0 _|exact Alt.dv aA.nil (aA.cons (Alt.ptr _ _ _ (aS rfl) rfl) aA.nil)|exact Alt.dJ|exact Alt.lK _ _ _|(refine Alt.bJ _ _ _ _ _ rfl rfl ?_;simp[*];done)|exact Alt.gM _ _ _ _ _ _ _ _ rfl rfl rfl|exact Alt.dz _ _ rfl rfl|(refine Alt.xF ?_;simp[*]<;>rfl)|(refine Alt.ofEq rfl ?_;simp[*];done))) ?_ rfl rfl
 simp[vJ,uq,Nat.beq_eq]
 omega
variable [bE] in
theorem p21 (c:aq)(hB:BC c):aM prog 21 [aK c] fun r=>et r (.bp [.agg [.vec ((if bP c=0 then vI c else []).map encS),.int .i64 (if bP c=0 then r5 c else 0),.vec (if bP c=0 then jL c (c.t.length+1) else [])],.int .i64 (bP c)]):=by
 have eE:=yE c hB
 have fP:=Al c
 have hC:dh c=(cQ c):=rfl
 obtain⟨e,he⟩:∃e,bP c=e:=⟨_,rfl⟩
 have eC:=he
 rw[he] at eE fP ⊢
 have mh:=fun i j:Int=>Ie c i j
 have hE:∀s:ai,encS s=.agg [.int .i64 s.k,.int .i64 s.a,.int .i64 s.i,.int .i64 s.l,.int .i64 s.w]:=fun _=>rfl
 unfold aK at eE fP mh ⊢
 unfold ik at mh
 rw[hC] at eE fP mh ⊢
 have xZ:∀a b c d e:Int,kG [PV.agg [.int .i64 a,.int .i64 b,.int .i64 c,.int .i64 d,.int .i64 e]]=true:=fun _ _ _ _ _=>rfl
 refine .bV func21 rfl rfl ?_
 refine .sr ?_
 refine .scope ?_
 refine .seq (.seq (.aD [0,1,2] rfl af (.rn [0] _ ?_)))
 refine .pc rfl rfl rfl rfl rfl call55 (eE) ?_
 refine .rn [2] [] ?_
 refine .done (.sr ?_)
 refine .cs ?_ ?_<;>intro cq
 ·try simp at cq
  refine .sr ?_
  refine .ret (aH ?_)
  simp only[if_neg cq];exact BT (.cons (.ky (.cons .dJ (.cons (.same _ rfl) (.cons .dJ .nil)))) (.cons (.same _ rfl) .nil))
 try simp at cq
 subst cq
 have bq:=j7 eC
 have o4:=bq.tl
 have ep:=bq.cl
 have ke:=FF c eC
 unfold aK ik at ke
 rw[hC] at ke
 have Gg:=BI.start bq
 have x6:IntKind.i64.wrap ((c.t.length:Int)+1)=(c.t.length:Int)+1:=wrap64 (by omega) (by omega)
 have mT:IntKind.i64.wrap ((c.c.length:Int)+1)=(c.c.length:Int)+1:=wrap64 (by omega) (by omega)
 refine .skip (.seq (.aD dU rfl af (.rn [0] _ ?_)))
 refine .step rfl rfl (.pure rfl rfl rfl call77 (by decide) (fP rfl) (by first|rfl|simp[*]) ?_)
 rintro _ ⟨ps,fE,rfl⟩
 have qV:=fun (x:aO) i j hx hi hj=>Qq c ps x eC fE i j hx hi hj
 rw[s4] at qV ⊢
 refine .rn [2,3] [] ?_
 refine .done (.sr ?_)
 refine .sr ?_
 refine .seq ?_
 refine .label ?_
 refine .seq (.block ?_)
 refine .dF (fun z:Nat×Nat×List ai=>([(1,.ptr 0 0),(2,.ptr 1 0),(5,.ptr 2 0),(6,.ptr 3 0),(7,.ptr 4 0)],⟨6,[(4,.box [.int .i64 z.1,.int .i64 z.2.1]),(3,.box [.grow 5 (z.2.2).length true,.int .i64 (aZ c c.t.length c.c.length),.aF]),(2,.box (bQ c (.az (a8 (places c) (aZ c))) (.az (a8 ps (bwd c))) (.int .i64 (aZ c c.t.length c.c.length)))),(1,.box [.aF,.int .i64 0,.aF]),(0,.box (cQ c)),(5,.grow 5 ((z.2.2).map encS))]⟩)) (fun z=>BI c z.1 z.2.1 z.2.2) (fun z=>(c.t.length - z.1)+(c.c.length - z.2.1)) (0,0,[]) Gg bx ?_
 clear Gg
 rintro⟨i,j,d⟩ hI
 simp only at hI ⊢
 have hi:=hI.hi
 have hj:=hI.hj
 have zK:=hI.len bq
 refine .seq (.seq ?_)
 refine .drawn (ms:=[0,0,2,7]) (W:=[2]) (items:=[.op 0,.op 1,.op 2,.ck 0,.op 3]) rfl af af af ?_
 iterate 2 refine .rx ?_
 refine .wp rfl rfl rfl rfl rfl call78 (ke) ?_
 refine .ck rfl eM ?_
 refine .rx ?_
 refine .done ?_
 refine .cs ?_ ?_<;>intro eZ
 ·try simp at eZ
  have cC:¬(i=c.t.length∧j=c.c.length):=fun⟨h1,h2⟩=>by subst h1;subst h2;simp at eZ
  refine .skip (.block (.seq (.aD [0,1,2] rfl af (.rn [0,1] _ ?_))))
  refine .pc rfl rfl rfl rfl rfl call79 (mh i j) ?_
  refine .done (.block ?_)
  refine .rec (ay:=[(1,.ptr 0 0),(2,.ptr 1 0),(5,.ptr 2 0),(6,.ptr 3 0),(7,.ptr 4 0),(30,.func 138 [] [.vp [.int .i64 i,.int .i64 j],.vp (dh c)])]) (aQ:=⟨1000,[(4,.box [.int .i64 i,.int .i64 j]),(3,.box [.grow 5 (d).length true,.int .i64 (aZ c c.t.length c.c.length),.aF]),(2,.box (bQ c (.az (a8 (places c) (aZ c))) (.az (a8 ps (bwd c))) (.int .i64 (aZ c c.t.length c.c.length)))),(1,.box [.aF,.int .i64 0,.aF]),(0,.box (cQ c)),(5,.grow 5 ((d).map encS))]⟩) bx ?_
  refine K8 c i j _ (fun pre n L=>L=[(4,.box [.int .i64 i,.int .i64 j]),(3,.box [.grow 5 (d).length true,.int .i64 (aZ c c.t.length c.c.length),.aF]),(2,.box (bQ c (.az (a8 (places c) (aZ c))) (.az (a8 ps (bwd c))) (.int .i64 (aZ c c.t.length c.c.length)))),(1,.box [.aF,.int .i64 0,.aF]),(0,.box (cQ c)),(5,.grow 5 ((d).map encS))]∧∀y∈pre,iw c y=false) (fun e n L=>e=some 1∧∃i2 j2 d2 g,BI c i2 j2 d2∧(c.t.length - i2)+(c.c.length - j2)<(c.t.length - i)+(c.c.length - j)∧(g=5∨(1000≤g∧g<n))∧L=[(4,.box [.int .i64 i2,.int .i64 j2]),(3,.box [.grow g (d2).length true,.int .i64 (aZ c c.t.length c.c.length),.aF]),(2,.box (bQ c (.az (a8 (places c) (aZ c))) (.az (a8 ps (bwd c))) (.int .i64 (aZ c c.t.length c.c.length)))),(1,.box [.aF,.int .i64 0,.aF]),(0,.box (cQ c)),(g,.grow 5 ((d2).map encS))]) eC hi hj ⟨rfl,fun _ h=>by cases h⟩ rfl (by decide) rfl (fun _ _ _ _ h _=>h) ?_ ?_ (fun _ _ h=>by cases h.1) ?_
  ·skip
   rintro pre x jS n L im hn ⟨rfl,fU⟩
   have hx:x∈steps c i j:=by rw[im];simp
   have ib:=jh bq hx
   obtain⟨m,rfl⟩:∃m,n=m+1000:=⟨n - 1000,by omega⟩
   have qV:=qV x i j hx hi hj
   obtain⟨tb,FK⟩:∃b,iw c x=b:=⟨_,rfl⟩
   rw[FK] at qV
   obtain⟨a0,a1,a2,a3,a4,gd⟩:=xA x.s
   rw[xB x gd] at qV ⊢
   obtain⟨kb,RB⟩:∃b,x.s.isNone=b:=⟨_,rfl⟩
   rw[RB] at qV ⊢
   have IE:Gf x=bif kb then [] else [⟨a0,a1,a2,a3,a4⟩]:=by
    rw[← RB]
    unfold Gf
    cases hs:x.s with
    |none=>rfl
    |some s=>
     rw[hs] at gd
     simp only[BU,List.cons.injEq,PV.int.injEq,true_and,and_true] at gd
     obtain⟨e0,e1,e2,e3,e4⟩:=gd
     show [s]=[_]
     rw[← e0,← e1,← e2,← e3,← e4]
   have yaa:d.length≤4294967295:=by omega
   unfold DB
   refine .rn ?_
   refine .block (.seq (.seq (.aD dU rfl af (.rn [0,1] _ ?_))))
   refine .pc rfl rfl rfl rfl rfl call80 (qV) ?_
   refine .rn [3] [] ?_
   refine .done ?_
   refine .cs ?_ ?_<;>intro y5
   ·try simp at y5
    obtain rfl:tb=false:=by simpa using y5
    refine .exit ?_
    refine⟨none,[(4,.box [.int .i64 i,.int .i64 j]),(3,.box [.grow 5 (d).length true,.int .i64 (aZ c c.t.length c.c.length),.aF]),(2,.box (bQ c (.az (a8 (places c) (aZ c))) (.az (a8 ps (bwd c))) (.int .i64 (aZ c c.t.length c.c.length)))),(1,.box [.aF,.int .i64 0,.aF]),(0,.box (cQ c)),(5,.grow 5 ((d).map encS))],rfl,bG,kI,rfl,fun y hy=>?_⟩
    rcases List.mem_append.1 hy with hy|hy
    ·exact fU y hy
    rw[List.mem_singleton.1 hy];exact FK
   try simp at y5
   obtain rfl:tb=true:=by simpa using y5
   have Gh:=hI.next bq im fU FK
   have Gi:(c.t.length - x.i')+(c.c.length - x.j')<(c.t.length - i)+(c.c.length - j):=by have:=ib.uh;have:=ib.ui;have:=ib.on;have:=ib.it;have:=ib.jt;omega
   refine .skip (.seq (.sr ?_))
   refine .cs ?_ ?_<;>intro mY
   ·try simp at mY
    rw[mY] at IE
    rw[IE] at Gh
    refine .rn ?_
    refine .sr ?_
    refine .exit ?_
    refine⟨some (some 1),[(4,.box [.int .i64 x.i',.int .i64 x.j']),(3,.box [.grow (m+1002) (d++[(⟨a0,a1,a2,a3,a4⟩:ai)]).length true,.int .i64 (aZ c c.t.length c.c.length),.aF]),(2,.box (bQ c (.az (a8 (places c) (aZ c))) (.az (a8 ps (bwd c))) (.int .i64 (aZ c c.t.length c.c.length)))),(1,.box [.aF,.int .i64 0,.aF]),(0,.box (cQ c)),((m+1002),.grow 5 ((d++[(⟨a0,a1,a2,a3,a4⟩:ai)]).map encS))],rfl,?_,kI,?_⟩
    ·rw[List.length_append,List.map_append]
     simp only[List.map_cons,List.map_nil,List.length_cons,List.length_nil,hE]
     exact bG
    exact And.intro rfl ⟨x.i',x.j',d++[⟨a0,a1,a2,a3,a4⟩],m+1002,Gh,Gi,.inr ⟨by omega,by simp⟩,rfl⟩
   try simp at mY
   rw[mY] at IE
   rw[IE] at Gh
   simp only[aJ,List.append_nil] at Gh
   refine .skip (.sr ?_)
   refine .exit ?_
   refine⟨some (some 1),[(4,.box [.int .i64 x.i',.int .i64 x.j']),(3,.box [.grow 5 (d).length true,.int .i64 (aZ c c.t.length c.c.length),.aF]),(2,.box (bQ c (.az (a8 (places c) (aZ c))) (.az (a8 ps (bwd c))) (.int .i64 (aZ c c.t.length c.c.length)))),(1,.box [.aF,.int .i64 0,.aF]),(0,.box (cQ c)),(5,.grow 5 ((d).map encS))],rfl,bG,kI,And.intro rfl ⟨x.i',x.j',d,5,Gh,Gi,.inl rfl,rfl⟩⟩
  ·skip
   rintro n L hn ⟨rfl,fU⟩
   exact(hI.no bq cC fU).elim
   skip
  skip
  rintro id n L ⟨h1,i2,j2,d2,g,hB2,gu,hg,rfl⟩
  injection h1 with h1
  subst h1
  exact⟨(i2,j2,d2),hB2,gu,z4u c ps i2 j2 d2 _ hg⟩
 try simp at eZ
 obtain⟨rfl,rfl⟩:i=c.t.length∧j=c.c.length:=by first|omega|(have p7:=eZ;simp at p7;omega)
 have hd:=hI.stop
 subst hd
 have Mb:jL c 0=[]:=rfl
 have hR0:∀i,List.replicate (c.c.length+1) (PV.int .i64 0)=ow (aZ c i) 0 (c.c.length+1):=fun i=>z2x _ _
 refine .exit (.seq (.sr ?_))
 refine .block ?_
 refine .dF (fun i:Nat=>([(1,.ptr 0 0),(2,.ptr 1 0),(5,.ptr 2 0),(6,.ptr 3 0),(51,.int .i64 ((c.t.length:Int)+1)),(52,.int .i64 i)],⟨7,[(6,.grow 1 (jL c i)),(5,.grow 5 ((vI c).map encS)),(3,.box [.grow 5 (vI c).length true,.int .i64 (aZ c c.t.length c.c.length),.grow 6 i true]),(2,.box (bQ c (.az (a8 (places c) (aZ c))) (.az (a8 ps (bwd c))) (.int .i64 (aZ c c.t.length c.c.length)))),(1,.box [.aF,.int .i64 0,.aF]),(0,.box (cQ c))]⟩)) (fun i=>i≤c.t.length+1) (fun i=>c.t.length+1 - i) 0 (by simp) bx ?_
 clear hI hi hj zK eZ
 rintro i hi
 simp only at hi ⊢
 refine .sr ?_
 refine .seq ?_
 refine .cs ?_ ?_<;>intro Cl
 ·try simp at Cl
  have eP:=fy i
  have oh:i≤c.t.length:=by omega
  have C7:(c.c.length:Int)+1≤4294967296:=by omega
  have yab:(0:Int)≤(c.c.length:Int)+1:=by omega
  have hTs:=zxb c i
  have hR:=hR0 i
  have js:i≤4294967295:=by omega
  refine .skip (.seq (.block (.sr ?_)))
  refine .sr ?_
  refine .seq (.sr ?_)
  refine .block ?_
  refine .dF (fun j:Nat=>([(1,.ptr 0 0),(2,.ptr 1 0),(5,.ptr 2 0),(6,.ptr 3 0),(9,.int .i64 i),(10,.own 7 0 (c.c.length+1) (c.c.length+1)),(51,.int .i64 ((c.t.length:Int)+1)),(52,.int .i64 i),(61,.int .i64 ((c.c.length:Int)+1)),(62,.int .i64 j)],⟨8,[(7,.arr false 1 (ow (aZ c i) j (c.c.length+1))),(6,.grow 1 (jL c i)),(5,.grow 5 ((vI c).map encS)),(3,.box [.grow 5 (vI c).length true,.int .i64 (aZ c c.t.length c.c.length),.grow 6 i true]),(2,.box (bQ c (.az (a8 (places c) (aZ c))) (.az (a8 ps (bwd c))) (.int .i64 (aZ c c.t.length c.c.length)))),(1,.box [.aF,.int .i64 0,.aF]),(0,.box (cQ c))]⟩)) (fun j=>j≤c.c.length+1) (fun j=>c.c.length+1 - j) 0 (by simp) bx ?_
  rintro j hj
  simp only at hj ⊢
  refine .sr ?_
  refine .seq ?_
  refine .cs ?_ ?_<;>intro gh
  ·try simp at gh
   have rV:=fy j
   have dE:j<c.c.length+1:=by omega
   have nI:j≤c.c.length:=by omega
   have hf:=B5 (FH c) oh nI (aZ c)
   have lL:=z6f (aZ c i) j (c.c.length+1) dE
   refine .skip (.seq (.block (.sr ?_)))
   refine .rn ?_
   refine .rn ?_
   refine⟨j+1,bt,bt,bx⟩
  try simp at gh
  obtain rfl:j=c.c.length+1:=by omega
  have Aw:ow (aZ c i) (c.c.length+1) (c.c.length+1)=(pf c i).map (PV.int .i64):=zzz (aZ c i) (c.c.length+1)
  have Mc:(pf c i).length=c.c.length+1:=by simp[pf,-List.range,-List.range.loop]
  refine .exit ?_
  refine .rec (ay:=[(1,.ptr 0 0),(2,.ptr 1 0),(5,.ptr 2 0),(6,.ptr 3 0),(10,.vec ((pf c i).map (PV.int .i64))),(51,.int .i64 ((c.t.length:Int)+1)),(52,.int .i64 i)]) (aQ:=⟨7,[(6,.grow 1 (jL c i)),(5,.grow 5 ((vI c).map encS)),(3,.box [.grow 5 (vI c).length true,.int .i64 (aZ c c.t.length c.c.length),.grow 6 i true]),(2,.box (bQ c (.az (a8 (places c) (aZ c))) (.az (a8 ps (bwd c))) (.int .i64 (aZ c c.t.length c.c.length)))),(1,.box [.aF,.int .i64 0,.aF]),(0,.box (cQ c))]⟩) (.mk [7] [] (by repeat' (first|exact trivial|exact trivial|exact Alt.gM 7 0 _ _ false 1 _ _ rfl rfl ((RA rfl (L9 _ _ _) (Rz _ _ _)).trans (congrArg some Aw))|refine And.intro (Exists.intro _ (And.intro rfl ?_)) ?_|(refine Alt.same _ ?_;first|rfl|(simp[*];done))|exact Alt.aY _ _ (aS rfl) rfl|exact Alt.grow _ _ _ _ (aS rfl) rfl|(refine Alt.xE _ _ _ _ _ ?_ (aS rfl) rfl;simp[*];done)|exact Alt.ptr _ _ _ (aS rfl) rfl|exact Alt.own _ _ _ _ _ (aS rfl) rfl|exact Alt.sub _ _ _ _ (aS rfl) rfl|exact Alt.bN _ _ (aS rfl) rfl|exact Alt.aF _ _|(refine Alt.mD _ _ _ ?_;simp[*];done)|exact Alt.e0 _|exact Alt.dv aA.nil (aA.cons (Alt.ptr _ _ _ (aS rfl) rfl) aA.nil)|exact Alt.dJ|exact Alt.lK _ _ _|(refine Alt.bJ _ _ _ _ _ rfl rfl ?_;simp[*];done)|exact Alt.gM _ _ _ _ _ _ _ _ rfl rfl rfl|exact Alt.dz _ _ rfl rfl|(refine Alt.xF ?_;simp[*]<;>rfl)|(refine Alt.ofEq rfl ?_;simp[*];done))) (by repeat' (first|exact trivial|exact trivial|exact Alt.gM 7 0 _ _ false 1 _ _ rfl rfl ((RA rfl (L9 _ _ _) (Rz _ _ _)).trans (congrArg some Aw))|refine And.intro (And.intro (aS rfl) (Or.inr (And.intro rfl (Exists.intro _ (And.intro rfl ?_))))) ?_|refine And.intro (And.intro (aS rfl) (Or.inl (Exists.intro _ (And.intro rfl (aS rfl))))) ?_|refine And.intro (And.intro (aS rfl) (Or.inl (Exists.intro _ (And.intro (congrArg (aI.grow _) (by simp[*])) (aS rfl))))) ?_|rfl|exact aA.nil|(refine congrArg (aI.grow _) ?_;simp[*];done)|(refine congrArg aI.map ?_;simp[*];done)|(refine congrArg (aI.arr _ _) ?_;simp[*];done)|refine pY.mk rfl rfl rfl rfl rfl ?_|refine And.intro (Exists.intro _ (And.intro rfl ?_)) ?_|refine aA.cons ?_ ?_|(refine Alt.same _ ?_;first|rfl|(simp[*];done))|exact Alt.aY _ _ (aS rfl) rfl|exact Alt.grow _ _ _ _ (aS rfl) rfl|(refine Alt.xE _ _ _ _ _ ?_ (aS rfl) rfl;simp[*];done)|exact Alt.ptr _ _ _ (aS rfl) rfl|exact Alt.own _ _ _ _ _ (aS rfl) rfl|exact Alt.sub _ _ _ _ (aS rfl) rfl|exact Alt.bN _ _ (aS rfl) rfl|exact Alt.aF _ _|(refine Alt.mD _ _ _ ?_;simp[*];done)|exact Alt.e0 _|exact Alt.dv aA.nil (aA.cons (Alt.ptr _ _ _ (aS rfl) rfl) aA.nil)|exact Alt.dJ|exact Alt.lK _ _ _|(refine Alt.bJ _ _ _ _ _ rfl rfl ?_;simp[*];done)|exact Alt.gM _ _ _ _ _ _ _ _ rfl rfl rfl|exact Alt.dz _ _ rfl rfl|(refine Alt.xF ?_;simp[*]<;>rfl)|(refine Alt.ofEq rfl ?_;simp[*];done))) rfl rfl rfl) ?_
  refine .rn ?_
  refine .rn ?_
  refine⟨i+1,bt,bt,(.mk [] [(6,8)] gK il rfl rfl rfl)⟩
 try simp at Cl
 obtain rfl:i=c.t.length+1:=by omega
 refine .exit (.sr ?_)
 refine .ret (aH ?_)
 simp only[if_true];exact q7 (by simp[PV.aB,PV.aG,zzs])
end Go.Am.Sl
end
