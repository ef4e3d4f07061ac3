/-
 What is used in the proof of a statement (part SlF); no condition.
-/
import Derived.Shelf.Strconv.Itoa3
import Derived.Shelf.Strings.OnBuilder
import Derived.Shelf.Lay
import Derived.Deep.QuietTactic
import Derived.WalkKit
import Derived.Lib.Walk
import Derived.Test.YthnmgbgmlhackaaGreatDoorSlT
import Derived.Test.YthnmgbgmlhackaaGreatDoorVm2
import Derived.Test.YthnmgbgmlhackaaGreatDoorSlZ
import Derived.Test.YthnmgbgmlhackaaGreatDoorSlD
set_option linter.all false
set_option maxHeartbeats 40000000
set_option maxRecDepth 100000
section
namespace Go.Am.Sl
open Go Go.Am Go.Proofs Tryz Go.RowKit Go.Lib Go.Shelf
def ztl:Ren where
  f := fun x => match x with
    |171=>162
    |243=>180
    |246=>188
    |283=>192
    |284=>193
    |285=>194
    |286=>195
    |129=>178
    |317=>196
    |318=>197
    |319=>198
    |320=>199
    |337=>200
    |338=>201
    |n=>n
  t := fun x => match x with
    |3=>3
    |9=>9
    |2=>2
    |4=>4
    |171=>272
    |0=>0
    |53=>258
    |37=>238
    |5=>5
    |173=>274
    |212=>278
    |51=>256
    |20=>20
    |213=>279
    |46=>228
    |232=>280
    |233=>281
    |n=>n
  g := fun x => match x with
    |17=>2
    |18=>3
    |19=>4
    |n=>n
theorem z7l:Lays.n171 prog ztl where
  mixed:=rfl
  f129:=func178.trans (congrArg some rfl)
  f171:=func162.trans (congrArg some rfl)
  f243:=func180.trans (congrArg some rfl)
  f246:=func188.trans (congrArg some rfl)
  f283:=func192.trans (congrArg some rfl)
  f284:=func193.trans (congrArg some rfl)
  f285:=func194.trans (congrArg some rfl)
  f286:=func195.trans (congrArg some rfl)
  f317:=func196.trans (congrArg some rfl)
  f318:=func197.trans (congrArg some rfl)
  f319:=func198.trans (congrArg some rfl)
  f320:=func199.trans (congrArg some rfl)
  f337:=func200.trans (congrArg some rfl)
  f338:=func201.trans (congrArg some rfl)
  t0:=underlying0
  a0:=isAgg0
  z0:=sizeOf0
  v0:=zeroValue0
  t2:=underlying2
  a2:=isAgg2
  z2:=sizeOf2
  v2:=zeroValue2
  t3:=underlying3
  a3:=isAgg3
  z3:=sizeOf3
  v3:=zeroValue3
  t4:=underlying4
  a4:=isAgg4
  z4:=sizeOf4
  v4:=zeroValue4
  t5:=underlying5
  a5:=isAgg5
  z5:=sizeOf5
  v5:=zeroValue5
  t9:=underlying9
  a9:=isAgg9
  z9:=sizeOf9
  v9:=zeroValue9
  t20:=underlying20
  a20:=isAgg20
  z20:=sizeOf20
  v20:=zeroValue20
  t37:=underlying238
  a37:=isAgg238
  z37:=sizeOf238
  v37:=zeroValue238
  t46:=underlying228
  a46:=isAgg228
  z46:=sizeOf228
  v46:=zeroValue228
  t51:=underlying256
  a51:=isAgg256
  z51:=sizeOf256
  v51:=zeroValue256
  t53:=underlying258
  a53:=isAgg258
  z53:=sizeOf258
  v53:=zeroValue258
  t171:=underlying272
  a171:=isAgg272
  z171:=sizeOf272
  v171:=zeroValue272
  t173:=underlying274
  a173:=isAgg274
  z173:=sizeOf274
  v173:=zeroValue274
  t212:=underlying278
  a212:=isAgg278
  z212:=sizeOf278
  v212:=zeroValue278
  t213:=underlying279
  a213:=isAgg279
  z213:=sizeOf279
  t232:=underlying280
  a232:=isAgg280
  z232:=sizeOf280
  v232:=zeroValue280
  t233:=underlying281
  a233:=isAgg281
  z233:=sizeOf281
  v233:=zeroValue281
  g17:=by kernel_rfl
  g18:=by kernel_rfl
  g19:=by kernel_rfl
def Ve:Ren where
  f := fun x => match x with
    |156=>134
    |165=>163
    |166=>164
    |169=>165
    |240=>181
    |241=>182
    |276=>189
    |277=>190
    |n=>n
  t := fun x => match x with
    |31=>210
    |9=>9
    |3=>3
    |4=>4
    |0=>0
    |20=>20
    |72=>240
    |76=>244
    |70=>237
    |37=>238
    |75=>243
    |127=>259
    |164=>266
    |5=>5
    |80=>246
    |n=>n
  g:=fun n=>n
theorem z8j:Lays.n156 prog Ve where
  mixed:=rfl
  f156:=func134.trans (congrArg some rfl)
  f165:=func163.trans (congrArg some rfl)
  f166:=func164.trans (congrArg some rfl)
  f169:=func165.trans (congrArg some rfl)
  f240:=func181.trans (congrArg some rfl)
  f241:=func182.trans (congrArg some rfl)
  f276:=func189.trans (congrArg some rfl)
  f277:=func190.trans (congrArg some rfl)
  t0:=underlying0
  a0:=isAgg0
  z0:=sizeOf0
  v0:=zeroValue0
  t3:=underlying3
  a3:=isAgg3
  z3:=sizeOf3
  v3:=zeroValue3
  t4:=underlying4
  a4:=isAgg4
  z4:=sizeOf4
  v4:=zeroValue4
  t9:=underlying9
  a9:=isAgg9
  z9:=sizeOf9
  v9:=zeroValue9
  t20:=underlying20
  a20:=isAgg20
  z20:=sizeOf20
  v20:=zeroValue20
  t31:=underlying210
  a31:=isAgg210
  z31:=sizeOf210
  v31:=zeroValue210
  t37:=underlying238
  a37:=isAgg238
  z37:=sizeOf238
  v37:=zeroValue238
  t70:=underlying237
  a70:=isAgg237
  z70:=sizeOf237
  v70:=zeroValue237
  t72:=underlying240
  a72:=isAgg240
  z72:=sizeOf240
  v72:=zeroValue240
  t75:=underlying243
  a75:=isAgg243
  z75:=sizeOf243
  v75:=zeroValue243
  t76:=underlying244
  a76:=isAgg244
  z76:=sizeOf244
  v76:=zeroValue244
  t127:=underlying259
  a127:=isAgg259
  z127:=sizeOf259
  v127:=zeroValue259
  t164:=underlying266
  a164:=isAgg266
  z164:=sizeOf266
  v164:=zeroValue266
theorem Ey (i:Nat)(hi:i<100)(w:World):Calls prog 162 #[.int .i64 i] w fun e w'=>e=.returned (.string ⟨(Lib.decDigits i).toArray⟩)∧w'=w:=Any.strconv_Itoa_small z7l i hi w
theorem xcb (w:World):Calls prog 162 #[.int .i64 1] w fun e w'=>e=.returned (.string ⟨#[49]⟩)∧w'=w:=by
 have h:=Ey 1 (by decide) w
 rw[show (Lib.decDigits 1).toArray=#[49] from by decide +kernel] at h
 exact h
theorem Vf (w:World):Calls prog 162 #[.int .i64 2] w fun e w'=>e=.returned (.string ⟨#[50]⟩)∧w'=w:=by
 have h:=Ey 2 (by decide) w
 rw[show (Lib.decDigits 2).toArray=#[50] from by decide +kernel] at h
 exact h
theorem xea (w:World):Calls prog 162 #[.int .i64 3] w fun e w'=>e=.returned (.string ⟨#[51]⟩)∧w'=w:=by
 have h:=Ey 3 (by decide) w
 rw[show (Lib.decDigits 3).toArray=#[51] from by decide +kernel] at h
 exact h
theorem xel (w:World):Calls prog 162 #[.int .i64 4] w fun e w'=>e=.returned (.string ⟨#[52]⟩)∧w'=w:=by
 have h:=Ey 4 (by decide) w
 rw[show (Lib.decDigits 4).toArray=#[52] from by decide +kernel] at h
 exact h
theorem xee (w:World):Calls prog 162 #[.int .i64 5] w fun e w'=>e=.returned (.string ⟨#[53]⟩)∧w'=w:=by
 have h:=Ey 5 (by decide) w
 rw[show (Lib.decDigits 5).toArray=#[53] from by decide +kernel] at h
 exact h
theorem xeb (w:World):Calls prog 162 #[.int .i64 7] w fun e w'=>e=.returned (.string ⟨#[55]⟩)∧w'=w:=by
 have h:=Ey 7 (by decide) w
 rw[show (Lib.decDigits 7).toArray=#[55] from by decide +kernel] at h
 exact h
theorem xec (w:World):Calls prog 162 #[.int .i64 8] w fun e w'=>e=.returned (.string ⟨#[56]⟩)∧w'=w:=by
 have h:=Ey 8 (by decide) w
 rw[show (Lib.decDigits 8).toArray=#[56] from by decide +kernel] at h
 exact h
set_option maxHeartbeats 4000000 in
set_option maxRecDepth 1000000 in
theorem zzs (w:World)(hb:0<w.heap.size)(hn:w.cell? ⟨0,3,none⟩=some (.string ⟨#[108,101,97,112]⟩)) :
  Calls prog 133 #[.agg #[.int .i64 3,.int .i64 2,.int .i64 2,.int .i64 3,.int .i64 0]] w fun e w'=>e=.returned (.string ⟨#[108,101,97,112,32,50,32,50,32,51]⟩)∧Below w.heap.size w w':=by
 have mixed:prog.follows .mixedOrders=true:=rfl
 have xQ:∀o,(w.alloc o).cell? ⟨0,3,none⟩=some (.string ⟨#[108,101,97,112]⟩):=fun o=>(C5 (heap_alloc_old _ _ hb)).trans hn
 go_enter func133,ntmps133
 go_wp2_with fail
 go_quiet (first|(go_at_call_of 162 (Value.int .i64 2);exact Calls.quiet_of_same (Vf _)))
 go_wp2_with (go_at_call 162;refine(xea _).mono ?_;rintro e w' ⟨rfl,rfl⟩)
 go_ret
 exact⟨congrArg (fun s=>Ending.returned (Value.string s)) (by decide +kernel),rfl,rfl,rfl,by simp[World.drewN],fun k hk=>heap_alloc_old _ _ hk⟩
set_option maxHeartbeats 4000000 in
set_option maxRecDepth 1000000 in
theorem z4y (w:World)(hb:0<w.heap.size)(hn:w.cell? ⟨0,1,none⟩=some (.string ⟨#[109,105,120]⟩)) :
  Calls prog 133 #[.agg #[.int .i64 1,.int .i64 5,.int .i64 2,.int .i64 0,.int .i64 8]] w fun e w'=>e=.returned (.string ⟨#[109,105,120,32,53,32,50,32,56]⟩)∧Below w.heap.size w w':=by
 have mixed:prog.follows .mixedOrders=true:=rfl
 have xQ:∀o,(w.alloc o).cell? ⟨0,1,none⟩=some (.string ⟨#[109,105,120]⟩):=fun o=>(C5 (heap_alloc_old _ _ hb)).trans hn
 go_enter func133,ntmps133
 go_wp2_with fail
 go_quiet (first|(go_at_call_of 162 (Value.int .i64 2);exact Calls.quiet_of_same (Vf _))|(go_at_call_of 162 (Value.int .i64 5);exact Calls.quiet_of_same (xee _)))
 go_wp2_with (go_at_call 162;refine(xec _).mono ?_;rintro e w' ⟨rfl,rfl⟩)
 go_ret
 exact⟨congrArg (fun s=>Ending.returned (Value.string s)) (by decide +kernel),rfl,rfl,rfl,by simp[World.drewN],fun k hk=>heap_alloc_old _ _ hk⟩
set_option maxHeartbeats 4000000 in
set_option maxRecDepth 1000000 in
theorem zw1 (w:World)(hb:0<w.heap.size)(hn:w.cell? ⟨0,4,none⟩=some (.string ⟨#[116,119,105,99,101]⟩)) :
  Calls prog 133 #[.agg #[.int .i64 4,.int .i64 7,.int .i64 4,.int .i64 1,.int .i64 0]] w fun e w'=>e=.returned (.string ⟨#[116,119,105,99,101,32,55,32,52,32,49]⟩)∧Below w.heap.size w w':=by
 have mixed:prog.follows .mixedOrders=true:=rfl
 have xQ:∀o,(w.alloc o).cell? ⟨0,4,none⟩=some (.string ⟨#[116,119,105,99,101]⟩):=fun o=>(C5 (heap_alloc_old _ _ hb)).trans hn
 go_enter func133,ntmps133
 go_wp2_with fail
 go_quiet (first|(go_at_call_of 162 (Value.int .i64 4);exact Calls.quiet_of_same (xel _))|(go_at_call_of 162 (Value.int .i64 7);exact Calls.quiet_of_same (xeb _)))
 go_wp2_with (go_at_call 162;refine(xcb _).mono ?_;rintro e w' ⟨rfl,rfl⟩)
 go_ret
 exact⟨congrArg (fun s=>Ending.returned (Value.string s)) (by decide +kernel),rfl,rfl,rfl,by simp[World.drewN],fun k hk=>heap_alloc_old _ _ hk⟩
set_option maxHeartbeats 4000000 in
set_option maxRecDepth 1000000 in
theorem ztq (w:World) :
  Calls prog 132 #[.agg #[.int .i64 3,.int .i64 2,.int .i64 2,.int .i64 3,.int .i64 0]] w fun e w'=>e=.returned (.bool true)∧Below w.heap.size w w':=by
 have mixed:prog.follows .mixedOrders=true:=rfl
 go_enter func132,ntmps132
 go_wp2
 go_ret
 refine⟨rfl,rfl,rfl,rfl,by simp;omega,fun k hk=>?_⟩
 rw[heap_alloc_old _ _ (by simp;omega),heap_alloc_old _ _ hk]
set_option maxHeartbeats 4000000 in
set_option maxRecDepth 1000000 in
theorem zwq (w:World) :
  Calls prog 132 #[.agg #[.int .i64 1,.int .i64 5,.int .i64 2,.int .i64 0,.int .i64 8]] w fun e w'=>e=.returned (.bool true)∧Below w.heap.size w w':=by
 have mixed:prog.follows .mixedOrders=true:=rfl
 go_enter func132,ntmps132
 go_wp2
 go_ret
 refine⟨rfl,rfl,rfl,rfl,by simp;omega,fun k hk=>?_⟩
 rw[heap_alloc_old _ _ (by simp;omega),heap_alloc_old _ _ hk]
set_option maxHeartbeats 4000000 in
set_option maxRecDepth 1000000 in
theorem zr8 (w:World) :
  Calls prog 132 #[.agg #[.int .i64 4,.int .i64 7,.int .i64 4,.int .i64 1,.int .i64 0]] w fun e w'=>e=.returned (.bool true)∧Below w.heap.size w w':=by
 have mixed:prog.follows .mixedOrders=true:=rfl
 go_enter func132,ntmps132
 go_wp2
 go_ret
 refine⟨rfl,rfl,rfl,rfl,by simp;omega,fun k hk=>?_⟩
 rw[heap_alloc_old _ _ (by simp;omega),heap_alloc_old _ _ hk]
def Pp:List ByteArray:=[⟨#[]⟩,⟨#[109,105,120]⟩,⟨#[111,109,105,116]⟩,⟨#[108,101,97,112]⟩,⟨#[116,119,105,99,101]⟩,⟨#[103,108,111,115,115]⟩,⟨#[97,100,100]⟩]
structure Names [bF]:Prop where
  k:0<bF.K
  nm:∀w:World,w.heap[0]?=bF.obj 0→∀(k:Nat) s,Pp[k]?=some s→w.cell? ⟨0,k,none⟩=some (.string s)
  dr:¬bF.dr
theorem Ge {g:Fz}{σ:Sg}{l:List Int}{aB:List Value}{U:Mu}{ba:Array Value}(ha:bh (VR g σ 0) [.agg (l.map (.int .i64))] aB)(hr:bA U aB ba.toList):ba=#[.agg (l.map (Value.int .i64)).toArray]:=by
 obtain⟨a1,rfl⟩:∃a1,aB=[a1]:=by
  have h1:=ha.1
  match aB,h1 with
  |[a],_=>exact⟨a,rfl⟩
 have h1:=(ha.2 0 _ a1 rfl rfl).ints
 subst h1
 obtain⟨c,r',hc,hv,jQ⟩:=hr.dE
 have h2:=jQ.jM
 subst h2
 rw[Hb (zw2 l) hv] at hc
 exact Array.toList_inj.1 hc
theorem Pq:Builder.Extra prog Ve where
  sizeBuilder:=by kernel_rfl
  liesBuilder:=by kernel_rfl
  t5:=underlying5
  a5:=isAgg5
  z5:=sizeOf5
  v5:=zeroValue5
  infoByte:=by kernel_rfl
  cellsByte:=by kernel_rfl
  sizeByte:=by kernel_rfl
  neB5:=by decide
section
variable [bF]
theorem Ps (hd:¬bF.dr)(xs:List ByteArray)(hx:xs≠[])(sep:ByteArray)(hN:xs.length≤140737488355328)(hlen:(Lib.join (xs.map (·.data.toList)) sep.data.toList).length≤140737488355328) :
  aN prog 134 [.vec (xs.map .str),.str sep] fun r=>r=.str ⟨(Lib.join (xs.map (·.data.toList)) sep.data.toList).toArray⟩:=
 aN.world hd (fun g=>.str _) rfl rfl fun lo g σ h aB U w ba ha s hr r=>by
  have hp:0<xs.length:=List.length_pos_iff.2 hx
  obtain⟨a1,a2,rfl⟩:∃a1 a2,aB=[a1,a2]:=by
   have h1:=ha.1
   match aB,h1 with
   |[a,b],_=>exact⟨a,b,rfl⟩
  have h1:=ha.2 0 _ a1 rfl rfl
  have h2:=ha.2 1 _ a2 rfl rfl
  obtain⟨c1,r1,iC,iS,pK⟩:=hr.dE
  obtain⟨c2,r2,rfl,eN,jQ⟩:=pK.dE
  have h3:=jQ.jM
  subst h3
  obtain rfl:a2=.string sep:=by cases h2 with|fr _ _ h2=>cases h2;rfl
  rw[Hb rfl eN] at iC
  cases h1 with
  |fr _ _ h1=>
   generalize rD:xs.map PV.str=es at h1
   have IC:es.length=xs.length:=by rw[← rD,List.length_map]
   cases h1 with
   |fw=>simp at IC;omega
   |dv=>simp at IC;omega
   |vec _ o off k KZ sz ar hk dZ hg h0 eJ hl rr=>
    obtain rfl:sz=1:=by
     have:=eJ 0 (.str xs[0]) (by rw[← rD];simp[hp])
     simpa[PV.cells] using this.symm
    have rA:=r.bq o _ (s.fz o _ hg)
    obtain⟨b,a,C,hm,hb,lM,_⟩:=rA
    have qX:∀(j:Nat) x,xs[j]?=some x→w.cell? ⟨b,a+off+j,none⟩=some (.string x):=fun j x hj=>by
     have ec:=(List.getElem?_eq_some_iff.1 hj).1
     obtain⟨u,hu⟩:∃u,ar[off+j]?=some u:=⟨_,List.getElem?_eq_getElem (by omega)⟩
     have Ez:=rr j (.str x) 0 (.str x) u (by rw[← rD,List.getElem?_map,hj];rfl) (by simp[PV.cells]) (by simpa using hu)
     obtain⟨u',k1,k2⟩:=lM (off+j) u hu
     cases Ez
     rw[Hb rfl k2] at k1
     rw[Nat.add_assoc];exact k1
    generalize qy:es.length=n1 at iS
    cases iS with
    |slice _ _ _ _ b1 a1 C1 cj mq kz=>
     rw[hm] at cj;injection cj with cj;injection cj with e1 e2;injection e2 with e2 e3;subst e1;subst e2;subst e3
     obtain rfl:ba=#[.slice (some ⟨b,a+off,none⟩) n1 (ie C k),.string sep]:=Array.toList_inj.1 iC
     rw[show n1=xs.length by omega]
     exact Any.strings_Join z8j Pq b (a+off) (ie C k) xs sep w qX hb hN (by omega) hlen
    |bX=>omega
    |cp=>omega
theorem zyx (hN:Names):aN prog 133 [.agg ([3,2,2,3,0].map (.int .i64))] fun r=>r=.str ⟨#[108,101,97,112,32,50,32,50,32,51]⟩:=
 aN.world hN.dr (fun g=>.str _) rfl rfl fun lo g σ h aB U w ba ha s hr r=>by
  obtain rfl:=Ge ha hr
  exact zzs w (Nat.lt_of_lt_of_le hN.k r.kq.ks) (hN.nm w (r.kq.gl 0 hN.k) 3 _ rfl)
theorem z0z (hd:¬bF.dr):aN prog 132 [.agg ([3,2,2,3,0].map (.int .i64))] fun r=>r=.bool true:=
 aN.world hd (fun g=>.bool _) rfl rfl fun lo g σ h aB U w ba ha s hr r=>by
  obtain rfl:=Ge ha hr
  exact ztq w
theorem z2t (hN:Names):aN prog 133 [.agg ([1,5,2,0,8].map (.int .i64))] fun r=>r=.str ⟨#[109,105,120,32,53,32,50,32,56]⟩:=
 aN.world hN.dr (fun g=>.str _) rfl rfl fun lo g σ h aB U w ba ha s hr r=>by
  obtain rfl:=Ge ha hr
  exact z4y w (Nat.lt_of_lt_of_le hN.k r.kq.ks) (hN.nm w (r.kq.gl 0 hN.k) 1 _ rfl)
theorem z4j (hd:¬bF.dr):aN prog 132 [.agg ([1,5,2,0,8].map (.int .i64))] fun r=>r=.bool true:=
 aN.world hd (fun g=>.bool _) rfl rfl fun lo g σ h aB U w ba ha s hr r=>by
  obtain rfl:=Ge ha hr
  exact zwq w
theorem zxi (hN:Names):aN prog 133 [.agg ([4,7,4,1,0].map (.int .i64))] fun r=>r=.str ⟨#[116,119,105,99,101,32,55,32,52,32,49]⟩:=
 aN.world hN.dr (fun g=>.str _) rfl rfl fun lo g σ h aB U w ba ha s hr r=>by
  obtain rfl:=Ge ha hr
  exact zw1 w (Nat.lt_of_lt_of_le hN.k r.kq.ks) (hN.nm w (r.kq.gl 0 hN.k) 4 _ rfl)
theorem zwu (hd:¬bF.dr):aN prog 132 [.agg ([4,7,4,1,0].map (.int .i64))] fun r=>r=.bool true:=
 aN.world hd (fun g=>.bool _) rfl rfl fun lo g σ h aB U w ba ha s hr r=>by
  obtain rfl:=Ge ha hr
  exact zr8 w
end
open Go Go.Am Go.Proofs Tryz
attribute [local simp] eQ ij pV dH gk mz ai.back cS fW lg bm Nat.testBit_eq_decide_div_mod_eq cC iE mw vO ph gF pj iP cU nG nF pe gG pf n4 lZ pT n3 pg o7 o4 o8 o5 o6 o9 pa mR eZ jW eP pn nH oc po pq mQ pR pS gE my fK fy fL kV gg nS nv ny jF oR bj nZ fx bP bK lD ai.get ai.alloc ai.put ai.drop ai.empty bt cZ iw jn gA cz chunk List.range List.range.loop lh pW l9 bI b6 PV.aG PV.aF PV.dc PV.fu gY gH od PV.one PV.ids PV.cF gI beq_eq qD rE
attribute [local simp] cQ bQ fN pZ ti p7 p9 pw gJ fI
attribute [local simp ↓ high] sD rJ
def sP (l:List aq):List PV:=(l.flatMap lS++[0,0,0,0,0]).map (PV.int .i64)
theorem z7n (l:List aq):(l.flatMap lS++[0,0,0,0,0]).map (PV.int .i64)=sP l:=rfl
theorem Vg (l:List aq):(l.flatMap lS).length=l.length*5:=by
 induction l with
 |nil=>rfl
 |cons a r ih=>rw[List.flatMap_cons,List.length_append,ih,List.length_cons];show 5+_=_;omega
@[simp] theorem xhq (l:List aq):(sP l).length=l.length*5+5:=by unfold sP;rw[List.length_map,List.length_append,Vg];rfl
theorem Vh (l:List aq):sP l=(l.map encS).flatMap PV.cells++[.int .i64 0,.int .i64 0,.int .i64 0,.int .i64 0,.int .i64 0]:=by
 unfold sP
 rw[List.map_append]
 congr 1
 induction l with
 |nil=>rfl
 |cons a r ih=>rw[List.flatMap_cons,List.map_append,ih];rfl
theorem Vi (l:List aq):mh 5 (l.map encS):=.map (g:=fun s=>[.int .i64 s.k,.int .i64 s.a,.int .i64 s.i,.int .i64 s.l,.int .i64 s.w]) (fun _=>rfl) (fun _=>rfl) l
theorem Pt (D R:List aq)(s:aq):∃A B,sP (D++s::R)=A++(.int .i64 s.k::.int .i64 s.a::.int .i64 s.i::.int .i64 s.l::.int .i64 s.w::B)∧A.length=D.length*5∧∀x,sP (D++{ s with i:=x }::R)=A++(.int .i64 s.k::.int .i64 s.a::.int .i64 x::.int .i64 s.l::.int .i64 s.w::B):=by
 refine⟨(D.flatMap lS).map (PV.int .i64),(R.flatMap lS++[0,0,0,0,0]).map (PV.int .i64),?_,by rw[List.length_map,Vg],fun x=>?_⟩
 ·unfold sP
  rw[List.flatMap_append,List.append_assoc,List.map_append];rfl
 unfold sP
 rw[List.flatMap_append,List.append_assoc,List.map_append];rfl
theorem Vj {D R:List aq}{s:aq}{k:Nat}(hk:D.length=k):(sP (D++s::R))[k*5+1]?=some (.int .i64 s.a)∧(sP (D++s::R))[k*5+2]?=some (.int .i64 s.i):=by
 obtain⟨A,B,h1,h2,_⟩:=Pt D R s
 rw[h1,← hk,← h2]
 constructor
 ·rw[List.getElem?_append_right (by omega)];simp
 rw[List.getElem?_append_right (by omega)];simp
theorem z4l {D R:List aq}{s:aq}{k:Nat}(hk:D.length=k):(List.drop (k*5) (sP (D++s::R))).take 5=[.int .i64 s.k,.int .i64 s.a,.int .i64 s.i,.int .i64 s.l,.int .i64 s.w]:=by
 obtain⟨A,B,h1,h2,_⟩:=Pt D R s
 rw[h1,← hk,← h2,List.drop_left];rfl
theorem xba {D R:List aq}{s:aq}{k:Nat}(hk:D.length=k)(x:Int):(sP (D++s::R)).take (k*5+2)++.int .i64 x::(sP (D++s::R)).drop (k*5+2+1)=sP (D++{ s with i:=x }::R):=by
 obtain⟨A,B,h1,h2,h3⟩:=Pt D R s
 rw[h1,h3,← hk,← h2]
 have h0:A.drop (A.length+2+1)=[]:=List.drop_eq_nil_of_le (by omega)
 rw[List.take_append,List.take_of_length_le (by omega),List.drop_append,h0]
 rw[Nat.add_sub_cancel_left,show A.length+2+1 - A.length=3 by omega]
 simp
theorem xeg:aH Bj=.agg [.int .i64 0,.int .i64 0,.int .i64 0,.int .i64 0,.int .i64 0,.vec [],.vec [],.vec [],.vec []]:=rfl
theorem xaw (e:Int):eR (.bx [.agg [.int .i64 0,.int .i64 0,.int .i64 0,.int .i64 0,.int .i64 0,.aI,.aI,.aI,.aI],.aI,.int .i64 e]) (.bx [aH Bj,.vec [],.int .i64 e]):=by
 rw[xeg]
 exact zJ (.cons (.lO (.cons (.same _ rfl) (.cons (.same _ rfl) (.cons (.same _ rfl) (.cons (.same _ rfl) (.cons (.same _ rfl) (.cons .dC (.cons .dC (.cons .dC (.cons .dC .nil)))))))))) (.cons .dC (.cons (.same _ rfl) .nil)))
variable [bF] in
theorem p54 (c:aj)(l:List aq)(k0:Int)(hB:BC c)(fc:l.length≤200):aN prog 54 [aH c,.vec (l.map encS),.int .i64 k0] fun r=>eR r (.bx [aH (LH c l k0),.vec ((LI c l k0).map encS),.int .i64 (zU c l k0)]):=by
 have ct:=sB c hB
 have oD:=Iv c l
 have er:=fun r hk hl=>aN.soft (Ew c r hk hl) (O7 c r)
 have kh:=xz k0 0 ((l.length:Int) - 1)
 have cK:=fun s hk=>FP c s hk
 have hC:cR c=(cQ c):=rfl
 have hE:∀s:aq,encS s=.agg [.int .i64 s.k,.int .i64 s.a,.int .i64 s.i,.int .i64 s.l,.int .i64 s.w]:=fun _=>rfl
 have lX:IntKind.i64.wrap ((l.length:Int) - 1)=(l.length:Int) - 1:=wrap64 (by omega) (by omega)
 have jc:zU c l k0=if bl c≠0 then bl c else if cJ c l=none∨¬(0≤k0∧k0≤(l.length:Int) - 1) then 1 else if 48<(Gb c (CG c l k0)).length then 2 else 0:=rfl
 have Gf:LH c l k0=if zU c l k0=0 then { c with c:=Gb c (CG c l k0) } else Bj:=rfl
 have ID:LI c l k0=if zU c l k0=0 then CG c l k0 else []:=rfl
 obtain⟨e,he⟩:∃e,bl c=e:=⟨_,rfl⟩
 have dz:=he
 rw[he] at ct oD er cK jc
 unfold aH at ct oD er cK
 rw[hC] at ct oD er cK
 obtain⟨wi,fg⟩:∃b,(decide (0≤k0)&&decide (k0≤(l.length:Int) - 1))=b:=⟨_,rfl⟩
 rw[fg] at kh
 obtain⟨xb,ye⟩:∃b,(cJ c l).isSome=b:=⟨_,rfl⟩
 obtain⟨xn,hxn⟩:∃b,(cJ c l).getD 0=b:=⟨_,rfl⟩
 rw[ye,hxn] at oD
 show aN prog 54 [.agg (cR c),.vec (l.map encS),.int .i64 k0] _
 rw[hC]
 have kE:zU c l k0≠0→∀x,zU c l k0=x→eR (.bx [.agg [.int .i64 0,.int .i64 0,.int .i64 0,.int .i64 0,.int .i64 0,.aI,.aI,.aI,.aI],.aI,.int .i64 x]) (.bx [aH (LH c l k0),.vec ((LI c l k0).map encS),.int .i64 (zU c l k0)]):=fun h x hx=>by
  rw[Gf,ID,if_neg h,if_neg h,hx]
  exact xaw x
 refine .bT func54 rfl rfl ?_
 refine .sr ?_
 refine .seq (.seq (.ay [0,1,2] rfl ae (.rn [0] _ ?_)))
 refine .pc rfl rfl rfl rfl rfl call55 (ct) ?_
 refine .rn [2] [] ?_
 refine .done (.sr ?_)
 refine .cs ?_ ?_<;>intro eV
 ·try simp at eV
  rw[if_pos eV] at jc
  refine .sr ?_
  refine .ret (au ?_)
  exact kE (by rw[jc];exact eV) _ jc
 try simp at eV
 subst eV
 rw[if_neg (by simp)] at jc
 have bo:=gR dz
 refine .skip (.seq (.seq (.ay mC rfl ae (.rn [0,1] _ ?_))))
 refine .pc rfl rfl rfl rfl rfl call100 (oD rfl fc) ?_
 refine .rn [3,4,5,6,7] [] ?_
 refine .done (.seq (.ay fM rfl ae ?_))
 refine .rn [0,1,2] _ ?_
 refine .split (t:=38) rfl (fun kM=>?_) (fun kM=>?_)
 ·try subst kM
  try simp at kM
  have vM:cJ c l=none:=by rw[kM] at ye;cases hh:cJ c l with|none=>rfl|some v=>rw[hh] at ye;cases ye
  rw[if_pos (.inl vM)] at jc
  refine .rn [3,4,5,6,7,8,9] [] ?_
  refine .done (.eA rfl (.sr ?_))
  refine .ret (au ?_)
  exact kE (by rw[jc];decide) _ jc
 try subst kM
 try simp at kM
 obtain⟨xv,vM⟩:∃v,cJ c l=some v:=by rw[kM] at ye;exact Option.isSome_iff_exists.1 ye
 refine .rn [3,4,5,6] _ ?_
 refine .pc rfl rfl rfl rfl rfl call85 (kh) ?_
 refine .rn [8,9] [] ?_
 refine .done ?_
 refine .cs ?_ ?_<;>intro LJ
 ·try simp at LJ
  have pQ:¬(0≤k0∧k0≤(l.length:Int) - 1):=fun hh=>by rw[LJ] at fg;simp[hh.1,hh.2] at fg
  rw[if_pos (.inr pQ)] at jc
  refine .sr ?_
  refine .ret (au ?_)
  exact kE (by rw[jc];decide) _ jc
 try simp at LJ
 have pQ:0≤k0∧k0≤(l.length:Int) - 1:=by rw[LJ] at fg;simpa using fg
 rw[if_neg (by rw[vM];simp[pQ])] at jc
 obtain⟨k,rfl⟩:∃k:Nat,k0=k:=⟨k0.toNat,by omega⟩
 have eG:k<l.length:=by omega
 have h0:0<l.length:=by omega
 have uX:=fA k
 have Cl:=(U5 vM).erase bo k
 have IE:=MI.start Cl
 have mj:(l.eraseIdx k).length=l.length - 1:=by rw[List.length_eraseIdx,if_pos eG]
 have hmR:CG c l k=x9 c (l.eraseIdx k) 0 0:=by unfold CG;rw[Int.toNat_natCast]
 rw[hmR] at jc Gf ID
 refine .skip (.seq (.ay ik rfl ae (.rn [0] _ ?_)))
 refine .step rfl rfl (.call rfl rfl rfl call112 (by decide) (((dP.yc (by simp) (xh7 l (by omega) h0) rfl h0)).mono ?_))
 rintro _ _ ⟨rfl,rfl⟩
 refine .rn [2,3,4] _ ?_
 refine .step rfl rfl (.call rfl rfl rfl call111 (by decide) (((Pd (zs:=l) (i:=2) (nl:=false) (n:=l.length) (k:=k) (by simp) rfl eG)).mono ?_))
 rintro _ _ ⟨rfl,rfl⟩
 rw[z7n]
 refine .rn [6] [] ?_
 refine .done (.sr ?_)
 refine .seq (.sr ?_)
 refine .block ?_
 refine .dw (fun z:List aq×List aq×Nat×Nat=>([(3,.ptr 0 0),(6,.ptr 1 0),(12,.sub 2 0 (l.length - 1)),(13,.int .i64 z.2.2.1),(14,.int .i64 z.2.2.2),(54,.int .i64 (l.length - 1:Nat)),(55,.int .i64 z.1.length)],⟨3,[(2,.arr true 5 (sP (z.1++z.2.1))),(1,.box [.int .i64 0,.int .i64 0,.int .i64 0,.int .i64 0,.int .i64 0,.aI,.aI,.aI,.aI]),(0,.box (cQ c))]⟩)) (fun z=>MI c (l.eraseIdx k) z.1 z.2.1 z.2.2.1 z.2.2.2) (fun z=>z.2.1.length) ([],l.eraseIdx k,0,0) IE bn ?_
 clear IE Cl
 rintro⟨D,R,i,j⟩ hM
 simp only at hM ⊢
 have LK:=hM.hl
 rw[mj] at LK
 have dy:=hM.hi
 have ec:=hM.hj
 have oh:=bo.tl
 refine .sr ?_
 refine .seq ?_
 refine .cs ?_ ?_<;>intro zV
 ·try simp at zV
  obtain⟨s,R',rfl⟩:∃s R',R=s::R':=by
   cases R with
   |nil=>simp at LK;omega
   |cons s R'=>exact⟨s,R',rfl⟩
  obtain⟨sk,sa,si,sl,sw⟩:=s
  obtain⟨g1,g2,n,i',w,hd,g3⟩:=hM.ch
  simp only at g1 g2
  obtain⟨a,rfl⟩:∃a:Nat,sa=a:=⟨sa.toNat,by omega⟩
  obtain⟨d1,d2,d3,d4,d5,d6⟩:=kN bo hd
  have LM:=hM.next bo hd
  simp only[Int.toNat_natCast] at LM d2 d3 d5
  obtain⟨x,hx⟩:∃x:Nat,j+(a - i)=x:=⟨_,rfl⟩
  rw[hx] at LM
  have et:IntKind.i64.wrap ((j:Int)+(a:Int))=(j:Int)+(a:Int):=wrap64 (by omega) (by omega)
  have qF:IntKind.i64.wrap ((j:Int)+(a:Int) - (i:Int))=(x:Int):=by rw[wrap64 (by omega) (by omega)];omega
  have A5:IntKind.i64.wrap ((x:Int)+(w.length:Int))=(x:Int)+(w.length:Int):=wrap64 (by omega) (by omega)
  have Pu:IntKind.i64.wrap (x:Int)=(x:Int):=wrap64 (by omega) (by omega)
  have u4:IntKind.i64.wrap ((D.length:Int)+1)=(D.length:Int)+1:=wrap64 (by omega) (by omega)
  have IF:=(Vj (D:=D) (R:=R') (s:=⟨sk,a,si,sl,sw⟩) (k:=D.length) rfl).1
  have rS:=xba (D:=D) (R:=R') (s:=⟨sk,a,si,sl,sw⟩) (k:=D.length) rfl (x:Int)
  have IG:=(Vj (D:=D) (R:=R') (s:=⟨sk,a,x,sl,sw⟩) (k:=D.length) rfl).2
  have IH:=z4l (D:=D) (R:=R') (s:=⟨sk,a,x,sl,sw⟩) (k:=D.length) rfl
  have vT:aJ c ⟨sk,a,x,sl,sw⟩=some (n,i',w):=by
   have:=U6 (c:=c) (s:=⟨sk,a,si,sl,sw⟩) (x:=x) (by omega) d2.2.2
   rw[hd] at this;exact this
  have cK:=cK ⟨sk,a,x,sl,sw⟩ rfl
  rw[zD vT,hE] at cK
  unfold iF at cK
  simp only at IG IH cK IF rS
  have kf:D.length*5≤(D.length+(R'.length+1))*5+2:=by omega
  have cT:D.length*5≤(D.length+(R'.length+1))*5:=by omega
  rcases LD w with⟨rfl,hw⟩|hw<;>rw[hw] at cK
  ·skip
   refine .skip (.seq (.block (.sr ?_)))
   refine .sr ?_
   refine .sr ?_
   refine .seq ?_
   refine .tf (ms:=[0,0,2,6,15,31,63,63,63,63,0,1151,3327,7679,16383]) (W:=[4,13]) (As:=[10]) (items:=II) rfl ae ae ae ae (by decide) ?_
   iterate 4 refine .rf ?_
   refine .al rfl rfl (by decide) (by decide) (by decide) (by decide) eX ?_
   refine .wr rfl rfl (by decide) (.pure rfl rfl rfl call95 (by decide) (cK) (by first|rfl|simp[*]) ?_)
   rintro _ rfl
   iterate 7 refine .rf ?_
   refine .wr rfl rfl (by decide) (.dH eX (by decide) ?_)
   refine .rf ?_
   refine .done ?_
   refine .drawn (ms:=[0,1,0,4,12,28,0,64,252,3,1023]) (W:=[]) (items:=yf) rfl ae ae ae ?_
   iterate 11 refine .rx ?_
   refine .done (.rn ?_)
   refine⟨(D++[(⟨sk,a,x,sl,sw⟩:aq)],R',i',x),LM,Nat.lt_succ_self _,?_⟩
   rw[show (D++[(⟨sk,a,x,sl,sw⟩:aq)]++R')=D++(⟨sk,a,x,sl,sw⟩:aq)::R' by simp]
   exact bn
  skip
  refine .skip (.seq (.block (.sr ?_)))
  refine .sr ?_
  refine .sr ?_
  refine .seq ?_
  refine .tf (ms:=[0,0,2,6,15,31,63,63,63,63,0,1151,3327,7679,16383]) (W:=[4,13]) (As:=[10]) (items:=II) rfl ae ae ae ae (by decide) ?_
  iterate 4 refine .rf ?_
  refine .al rfl rfl (by decide) (by decide) (by decide) (by decide) eX ?_
  refine .wr rfl rfl (by decide) (.pure rfl rfl rfl call95 (by decide) (cK) (by first|rfl|simp[*]) ?_)
  rintro _ rfl
  iterate 7 refine .rf ?_
  refine .wr rfl rfl (by decide) (.dH eX (by decide) ?_)
  refine .rf ?_
  refine .done ?_
  refine .drawn (ms:=[0,1,0,4,12,28,0,64,252,3,1023]) (W:=[]) (items:=yf) rfl ae ae ae ?_
  iterate 11 refine .rx ?_
  refine .done (.rn ?_)
  refine⟨(D++[(⟨sk,a,x,sl,sw⟩:aq)],R',i',x+w.length),LM,Nat.lt_succ_self _,?_⟩
  rw[show (D++[(⟨sk,a,x,sl,sw⟩:aq)]++R')=D++(⟨sk,a,x,sl,sw⟩:aq)::R' by simp]
  exact bn
 try simp at zV
 obtain rfl:R=[]:=by
  cases R with
  |nil=>rfl
  |cons s R'=>simp at LK;omega
 have Vk:=hM.stop
 have x8:D.length=l.length - 1:=by simpa using LK
 obtain⟨o,m,uQ⟩:=zze bo (by have:=(U5 vM).erase bo k;exact this)
 rw[← Vk] at uQ jc Gf ID
 have hO:Gb c D=o:=by unfold Gb;rw[uQ]
 rw[hO] at jc Gf
 have er:=er D rfl (by omega)
 clear Vk
 rw[show x6 c D=.bx [ints o,.int .i64 m,.bool true] by unfold x6;rw[uQ]] at er
 refine .exit (.seq ?_)
 simp only[List.append_nil]
 refine .rec (aA:=[(3,.ptr 0 0),(6,.ptr 1 0),(12,.vec (D.map encS))]) (aV:=⟨2,[(1,.box [.int .i64 0,.int .i64 0,.int .i64 0,.int .i64 0,.int .i64 0,.aI,.aI,.aI,.aI]),(0,.box (cQ c))]⟩) (.mk [2] [] (by repeat' (first|exact trivial|exact trivial|exact Alt.tD 2 0 _ true 5 _ _ rfl rfl (LN (by rw[Vh];rfl) (Vi D) (by simpa using x8))|refine And.intro (Exists.intro _ (And.intro rfl ?_)) ?_|(refine Alt.same _ ?_;first|rfl|(simp[*];done))|exact Alt.aW _ _ (aY rfl) rfl|exact Alt.grow _ _ _ _ (aY rfl) rfl|(refine Alt.zQ _ _ _ _ _ ?_ (aY rfl) rfl;simp[*];done)|exact Alt.ptr _ _ _ (aY rfl) rfl|exact Alt.own _ _ _ _ _ (aY rfl) rfl|exact Alt.sub _ _ _ _ (aY rfl) rfl|exact Alt.bY _ _ (aY rfl) rfl|exact Alt.aI _ _|(refine Alt.oA _ _ _ ?_;simp[*];done)|exact Alt.e0 _|exact Alt.dQ aD.nil (aD.cons (Alt.ptr _ _ _ (aY rfl) rfl) aD.nil)|exact Alt.dC|exact Alt.mY _ _ _|(refine Alt.bW _ _ _ _ _ rfl rfl ?_;simp[*];done)|exact Alt.iV _ _ _ _ _ _ _ _ rfl rfl rfl|exact Alt.dS _ _ rfl rfl|(refine Alt.zR ?_;simp[*]<;>rfl)|(refine Alt.ofEq rfl ?_;simp[*];done))) (by repeat' (first|exact trivial|exact trivial|exact Alt.tD 2 0 _ true 5 _ _ rfl rfl (LN (by rw[Vh];rfl) (Vi D) (by simpa using x8))|refine And.intro (And.intro (aY rfl) (Or.inr (And.intro rfl (Exists.intro _ (And.intro rfl ?_))))) ?_|refine And.intro (And.intro (aY rfl) (Or.inl (Exists.intro _ (And.intro rfl (aY rfl))))) ?_|refine And.intro (And.intro (aY rfl) (Or.inl (Exists.intro _ (And.intro (congrArg (aM.grow _) (by simp[*])) (aY rfl))))) ?_|rfl|exact aD.nil|(refine congrArg (aM.grow _) ?_;simp[*];done)|(refine congrArg aM.map ?_;simp[*];done)|(refine congrArg (aM.arr _ _) ?_;simp[*];done)|refine sM.mk rfl rfl rfl rfl rfl ?_|refine And.intro (Exists.intro _ (And.intro rfl ?_)) ?_|refine aD.cons ?_ ?_|(refine Alt.same _ ?_;first|rfl|(simp[*];done))|exact Alt.aW _ _ (aY rfl) rfl|exact Alt.grow _ _ _ _ (aY rfl) rfl|(refine Alt.zQ _ _ _ _ _ ?_ (aY rfl) rfl;simp[*];done)|exact Alt.ptr _ _ _ (aY rfl) rfl|exact Alt.own _ _ _ _ _ (aY rfl) rfl|exact Alt.sub _ _ _ _ (aY rfl) rfl|exact Alt.bY _ _ (aY rfl) rfl|exact Alt.aI _ _|(refine Alt.oA _ _ _ ?_;simp[*];done)|exact Alt.e0 _|exact Alt.dQ aD.nil (aD.cons (Alt.ptr _ _ _ (aY rfl) rfl) aD.nil)|exact Alt.dC|exact Alt.mY _ _ _|(refine Alt.bW _ _ _ _ _ rfl rfl ?_;simp[*];done)|exact Alt.iV _ _ _ _ _ _ _ _ rfl rfl rfl|exact Alt.dS _ _ rfl rfl|(refine Alt.zR ?_;simp[*]<;>rfl)|(refine Alt.ofEq rfl ?_;simp[*];done))) rfl rfl rfl) ?_
 refine .ay fM rfl ae (.rn [0,1] _ ?_)
 refine .pc rfl rfl rfl rfl rfl call110 (er) ?_
 refine .rn [3,4,5,6,7,8,9] [] ?_
 refine .done (.seq (.sr ?_))
 refine .cs ?_ ?_<;>intro tF
 ·try simp at tF
  rw[if_pos (by omega)] at jc
  refine .sr ?_
  refine .ret (au ?_)
  exact kE (by rw[jc];decide) _ jc
 try simp at tF
 rw[if_neg (by omega)] at jc
 rw[if_pos jc] at Gf ID
 have EA:=Pm c dz
 unfold aH at EA
 rw[hC] at EA
 refine .skip (.seq (.ay [0,1,2] rfl ae (.rn [0] _ ?_)))
 refine .pc rfl rfl rfl rfl rfl call101 (EA) ?_
 refine .rn [2] [] ?_
 refine .done (.sr ?_)
 refine .sr ?_
 refine .ret (au ?_)
 rw[Gf,ID,jc];exact oB rfl
def qN (l:List Int):aj:={ om:=4,le:=3,tw:=3,gl:=2,ad:=5,mx:=[⟨4,8,2⟩],t:=[5,7,3,9,7,4,6],g:=[⟨3,[11]⟩],c:=l }
section
variable [bF]
theorem Vl  : aN prog 76 [] fun r=>r=.agg [.int .i64 4,.int .i64 3,.int .i64 3,.int .i64 2,.int .i64 5,.vec [bk ⟨4,8,2⟩]]:=by
 refine .bT func76 rfl rfl ?_
 refine .sr ?_
 refine .sr ?_
 refine .ret (au ?_)
 exact zk
theorem p74 (l:List Int):aN prog 74 [ints l] fun r=>r=aH (qN l):=by
 refine .bT func74 rfl rfl ?_
 refine .sr ?_
 refine .seq (.ay mC rfl ae ?_)
 refine .pc rfl rfl rfl rfl rfl call76 (Vl) ?_
 refine .rn [1,2] _ ?_
 refine .step rfl rfl (.vf (aA:=[(5,ints [11]),(4,ints [5,7,3,9,7,4,6]),(3,.agg [.int .i64 4,.int .i64 3,.int .i64 3,.int .i64 2,.int .i64 5,.vec [bk ⟨4,8,2⟩]]),(0,ints l),(2,.ptr 0 0)]) (aV:=⟨3,[(0,.box [.int .i64 0,.int .i64 0,.int .i64 0,.int .i64 0,.int .i64 0,.aI,.aI,.aI,.aI])]⟩) (.mk [1,2] [] ia ix rfl rfl rfl) (.op eX (by decide) ?_))
 refine .rn [4,5,6,7] [] ?_
 refine .done (.ret (au ?_))
 exact zk
end
theorem zzt (l:List ByteArray):lC 1 (l.map PV.str)=true:=zB (f:=PV.str) (n:=1) (fun _=>rfl) l
theorem zxj (l:List ByteArray):ma (l.map PV.str)=true:=zC (f:=PV.str) (fun _=>rfl) l
attribute [local simp] zzt zxj
def Bl (tx:aq→ByteArray)(l:List aq)(k:Nat):List ByteArray:=(l.take k).map tx
theorem z3y {tx:aq→ByteArray}{l:List aq}{k:Nat}(h:k<l.length):Bl tx l (k+1)=Bl tx l k++[tx l[k]]:=by
 unfold Bl;rw[List.take_succ_eq_append_getElem h,List.map_append];rfl
theorem z6y {tx:aq→ByteArray}{l:List aq}{k:Nat}(h:k≤l.length):(Bl tx l k).length=k:=by
 unfold Bl;rw[List.length_map,List.length_take];omega
theorem xai (tx:aq→ByteArray)(l:List aq):Bl tx l l.length=l.map tx:=by unfold Bl;rw[List.take_length]
variable [bF] in
theorem p75 (hd:¬bF.dr)(l:List aq)(tx:aq→ByteArray)(hl:l.length≤100)(cY:l≠[])(hf:∀s∈l,aN prog 132 [encS s] fun r=>r=.bool true)(ht:∀s∈l,aN prog 133 [encS s] fun r=>r=.str (tx s))(hj:(Lib.join ((l.map tx).map (·.data.toList)) [59,32]).length≤140737488355328):aN prog 75 [.vec (l.map encS)] fun r=>r=.bx [.str ⟨(Lib.join ((l.map tx).map (·.data.toList)) [59,32]).toArray⟩,.int .i64 0]:=by
 have hE:∀s:aq,encS s=.agg [.int .i64 s.k,.int .i64 s.a,.int .i64 s.i,.int .i64 s.l,.int .i64 s.w]:=fun _=>rfl
 have hp:0<l.length:=List.length_pos_iff.2 cY
 have IJ:=Ps hd (l.map tx) (by simpa using cY) ⟨#[59,32]⟩ (by rw[List.length_map];omega) hj
 refine .bT func75 rfl rfl ?_
 refine .sr ?_
 refine .seq (.sr ?_)
 refine .cs ?_ ?_<;>intro c9
 ·try simp at c9
  exfalso;omega
 try simp at c9
 refine .skip (.sr ?_)
 refine .seq (.sr ?_)
 refine .block ?_
 refine .dw (fun k:Nat=>([(4,.grow 0 k true),(10,.vec (l.map encS)),(11,.int .i64 l.length),(12,.int .i64 k)],⟨1,[(0,.grow 1 ((Bl tx l k).map .str))]⟩)) (fun k=>k≤l.length) (fun k=>l.length - k) 0 (by simp) bn ?_
 rintro k hk
 simp only at hk ⊢
 refine .sr ?_
 refine .seq ?_
 refine .cs ?_ ?_<;>intro jz
 ·try simp at jz
  have et:IntKind.i64.wrap ((k:Int)+1)=((k+1:Nat):Int):=by rw[wrap64 (by omega) (by omega)];omega
  have eG:k<l.length:=by omega
  obtain⟨s,hs⟩:∃s,l[k]?=some s:=⟨_,List.getElem?_eq_getElem eG⟩
  have hse:l[k]=s:=(List.getElem?_eq_some_iff.1 hs).2
  have hf:=hf s (List.mem_of_getElem? hs)
  have ht:=ht s (List.mem_of_getElem? hs)
  rw[hE] at hf ht
  have zW:=@z3y tx l k eG
  rw[hse] at zW
  have Vm:=@z6y tx l k hk
  obtain⟨A,hA⟩:∃A,Bl tx l k=A:=⟨_,rfl⟩
  rw[hA] at zW Vm ⊢
  clear hA
  have K9:k+1≤4294967296:=by omega
  refine .skip (.seq (.block (.sr ?_)))
  refine .seq (.seq (.ay [0,1,2] rfl ae (.rn [0] _ ?_)))
  refine .pc rfl rfl rfl rfl rfl call132 (hf) ?_
  refine .rn [2] [] ?_
  refine .done ?_
  refine .cs ?_ ?_<;>intro py
  ·try simp at py
  try simp at py
  refine .skip (.ay kg rfl ae (.rn [0,1] _ ?_))
  refine .pc rfl rfl rfl rfl rfl call133 (ht) ?_
  refine .rn [3,4,5] [] ?_
  refine .done (.rn ?_)
  refine⟨k+1,bp,bp,?_⟩
  simp only[zW,List.map_append,List.map_cons,List.map_nil]
  exact(.mk [] [(0,3)] ia ix rfl rfl rfl)
 try simp at jz
 obtain rfl:k=l.length:=by omega
 rw[xai]
 obtain⟨A,hA⟩:∃A,l.map tx=A:=⟨_,rfl⟩
 have Vm:A.length=l.length:=by rw[← hA,List.length_map]
 rw[hA] at IJ ⊢
 refine .exit (.seq (.ay eD rfl ae (.rn [0] _ ?_)))
 refine .step rfl rfl (.take rfl rfl rfl call134 (by decide) (by first|(simp<;>rfl)|(simp[*]<;>rfl)|(simp[*];done)) (IJ) ?_)
 rintro _ rfl
 refine .rn [2,3] [] ?_
 refine .done (.ret (au ?_))
 exact zk
def sQ:List aq:=[⟨3,2,2,3,0⟩,⟨1,5,2,0,8⟩,⟨4,7,4,1,0⟩]
def Vn (s:aq):ByteArray:=if s.k=3 then ⟨#[108,101,97,112,32,50,32,50,32,51]⟩ else if s.k=1 then ⟨#[109,105,120,32,53,32,50,32,56]⟩ else ⟨#[116,119,105,99,101,32,55,32,52,32,49]⟩
theorem spJ:(Lib.join ((sQ.map Vn).map (·.data.toList)) [59,32]).toArray=#[108,101,97,112,32,50,32,50,32,51,59,32,109,105,120,32,53,32,50,32,56,59,32,116,119,105,99,101,32,55,32,52,32,49]:=by decide +kernel
variable [bF] in
theorem xct (hN:Names):aN prog 75 [.vec (sQ.map encS)] fun r=>r=.bx [.str ⟨#[108,101,97,112,32,50,32,50,32,51,59,32,109,105,120,32,53,32,50,32,56,59,32,116,119,105,99,101,32,55,32,52,32,49]⟩,.int .i64 0]:=by
 have h:=p75 hN.dr sQ Vn (by decide) (by decide)
  (fun s hs=>by
   simp only[sQ,List.mem_cons,List.not_mem_nil,or_false] at hs
   rcases hs with rfl|rfl|rfl
   ·exact z0z hN.dr
   ·exact z4j hN.dr
   exact zwu hN.dr)
  (fun s hs=>by
   simp only[sQ,List.mem_cons,List.not_mem_nil,or_false] at hs
   rcases hs with rfl|rfl|rfl
   ·exact zyx hN
   ·exact z2t hN
   exact zxi hN)
  ae
 rw[spJ] at h
 exact h
def qO (F:Nat→Int)(m n:Nat):List PV:=(List.range n).map fun (j:Nat)=>PV.int .i64 (if j<m then F j else 0)
@[simp] theorem Pv (F:Nat→Int)(m n:Nat):(qO F m n).length=n:=by simp[qO,-List.range,-List.range.loop]
@[simp] theorem Vo (F:Nat→Int)(m n:Nat):(qO F m n).all PV.one=true:=by simp[qO,PV.one]
@[simp] theorem xfu (F:Nat→Int)(m n:Nat):PV.aF (qO F m n)=true:=by
 unfold qO
 generalize List.range n=l
 induction l with
 |nil=>rfl
 |cons a r ih=>simp only[List.map_cons,PV.aF,PV.aG,Bool.true_and];exact ih
theorem Pw (F:Nat→Int)(m n:Nat)(i:Nat)(h:i<n):(qO F m n)[i]?=some (PV.int .i64 (if i<m then F i else 0)):=by
 simp[qO,h,-List.range,-List.range.loop]
theorem xav (F:Nat→Int)(n:Nat):List.replicate n (PV.int .i64 0)=qO F 0 n:=by
 simp[qO,List.map_const',-List.range,-List.range.loop]
theorem xbb (F:Nat→Int)(m n:Nat)(h:m<n):(qO F m n).take m++PV.int .i64 (F m)::(qO F m n).drop (m+1)=qO F (m+1) n:=by
 refine List.ext_getElem? fun j=>?_
 by_cases hj:j<n
 ·rw[Pw F _ n j hj,List.getElem?_append]
  simp only[List.length_take,Pv,Nat.min_eq_left (Nat.le_of_lt h)]
  by_cases h1:j<m
  ·rw[if_pos h1,List.getElem?_take_of_lt h1,Pw F _ n j hj,if_pos h1,if_pos (by omega)]
  rw[if_neg h1]
  by_cases h2:j=m
  ·subst h2;simp
  rw[show j - m=(j - m - 1)+1 by omega,List.getElem?_cons_succ,List.getElem?_drop,show m+1+(j - m - 1)=j by omega,Pw F _ n j hj,if_neg (by omega),if_neg (by omega)]
 rw[List.getElem?_eq_none (by simp;omega),List.getElem?_eq_none (by simp;omega)]
theorem Vp {vh:ai}{i n:Nat}{cs:List PV}(hg:vh.get i=some (.arr false 1 cs))(h:cs.length=n)(ho:cs.all PV.one=true):iP vh 1 (.own i 0 n n)=some cs:=by
 unfold iP
 simp only[hg,ho]
 subst h
 simp[chunk,beq_eq,qD]
def rU (c:aj)(i:Nat):List Int:=(List.range (c.c.length+1)).map fun j=>aX c i j
theorem z3q (F:Nat→Int)(n:Nat):qO F n n=((List.range n).map F).map (PV.int .i64):=by
 unfold qO
 rw[List.map_map]
 refine List.map_congr_left fun j hj=>?_
 have:=List.mem_range.1 hj
 simp only[Function.comp]
 rw[if_pos this]
def kF (c:aj)(k:Nat):List PV:=(List.range k).map fun i=>ints (rU c i)
theorem z1t (c:aj)(k:Nat):kF c (k+1)=kF c k++[ints (rU c k)]:=by unfold kF;rw[List.range_succ,List.map_append];rfl
@[simp] theorem xfs (c:aj)(k:Nat):(kF c k).length=k:=by simp[kF,-List.range,-List.range.loop]
theorem z4s (c:aj)(k:Nat):PV.aF (kF c k)=true:=by
 unfold kF
 generalize List.range k=l
 induction l with
 |nil=>rfl
 |cons a r ih=>simp only[List.map_cons,PV.aF,ints,PV.aG,Bool.true_and];exact ih
def IK (x:aK):List aq:=match x.s with|some s=>[s]|none=>[]
theorem z3a (x:aK)(l:List aK):iG (x::l)=IK x++iG l:=by
 unfold iG IK
 rw[List.filterMap_cons]
 cases x.s<;>rfl
structure BI (c:aj) (i j:Nat) (d:List aq):Prop where
  hi:i≤c.t.length
  hj:j≤c.c.length
  ht:aX c i j+bwd c i j=du c
  hd:d++iG (Es c i j)=vk c
theorem BI.start {c:aj}(hr:Rt c):BI c 0 0 []:=⟨Nat.zero_le _,Nat.zero_le _,by rw[Uz hr,OZ hr];omega,by rw[xhh];rfl⟩
theorem BI.stop {c:aj}{d:List aq}(h:BI c c.t.length c.c.length d):d=vk c:=by have:=h.hd;rw[xbu] at this;simpa[iG] using this
theorem BI.next {c:aj}(hr:Rt c){i j:Nat}{d:List aq}(h:BI c i j d){pre kD:List aK}{x:aK}(hs:steps c i j=pre++x::kD)(hp:∀y∈pre,jy c y=false)(hx:jy c x=true):BI c x.i' x.j' (d++IK x):=by
 have hn:=zx7 hs hp hx
 have hm:x∈steps c i j:=by rw[hs];simp
 have ho:=ib hr hm
 refine⟨ho.it,ho.jt,UC hr (zO h.hi h.hj hm) hx,?_⟩
 rw[List.append_assoc,← z3a,← z2k hr h.hi h.hj hn]
 exact h.hd
theorem BI.len {c:aj}(hr:Rt c){i j:Nat}{d:List aq}(h:BI c i j d):d.length≤96:=by
 have h1:=congrArg List.length h.hd
 have h2:=UF hr (LB hr)
 have h3:vk c=iG (Bg c):=rfl
 rw[List.length_append,h3] at h1
 omega
theorem BI.no {c:aj}(hr:Rt c){i j:Nat}{d:List aq}(h:BI c i j d)(he:¬(i=c.t.length∧j=c.c.length))(hp:∀y∈steps c i j,jy c y=false):False:=by
 obtain⟨x,hx,ht⟩:=UB hr h.hi h.hj he h.ht
 rw[hp x hx] at ht;cases ht
theorem z7p (c:aj)(ps:List (Nat×Nat))(i j:Nat)(d:List aq)(X:PV){n g:Nat}(hg:g=5∨(1000≤g∧g<n)):Rec 0 [(1,.ptr 0 0),(2,.ptr 1 0),(5,.ptr 2 0),(6,.ptr 3 0),(7,.ptr 4 0),(30,X)] ⟨n,[(4,.box [.int .i64 i,.int .i64 j]),(3,.box [.grow g (d).length true,.int .i64 (aX c c.t.length c.c.length),.aI]),(2,.box (bQ c (.aC (be (places c) (aX c))) (.aC (be ps (bwd c))) (.int .i64 (aX c c.t.length c.c.length)))),(1,.box [.aI,.int .i64 0,.aI]),(0,.box (cQ c)),(g,.grow 5 ((d).map encS))]⟩ [(1,.ptr 0 0),(2,.ptr 1 0),(5,.ptr 2 0),(6,.ptr 3 0),(7,.ptr 4 0)] ⟨6,[(4,.box [.int .i64 i,.int .i64 j]),(3,.box [.grow 5 (d).length true,.int .i64 (aX c c.t.length c.c.length),.aI]),(2,.box (bQ c (.aC (be (places c) (aX c))) (.aC (be ps (bwd c))) (.int .i64 (aX c c.t.length c.c.length)))),(1,.box [.aI,.int .i64 0,.aI]),(0,.box (cQ c)),(5,.grow 5 ((d).map encS))]⟩:=by
 rcases hg with rfl|⟨hg,zP⟩
 ·exact bn
 have gX:(⟨n,[(4,.box [.int .i64 i,.int .i64 j]),(3,.box [.grow g (d).length true,.int .i64 (aX c c.t.length c.c.length),.aI]),(2,.box (bQ c (.aC (be (places c) (aX c))) (.aC (be ps (bwd c))) (.int .i64 (aX c c.t.length c.c.length)))),(1,.box [.aI,.int .i64 0,.aI]),(0,.box (cQ c)),(g,.grow 5 ((d).map encS))]⟩:ai).get g=some (.grow 5 (d.map encS)):=by
  simp[show ¬g=4 by omega,show ¬g=3 by omega,show ¬g=2 by omega,show ¬g=1 by omega,show ¬g=0 by omega]
 refine .mk [] [(5,g)] ia (by refine⟨?_,?_,?_,?_,?_,⟨⟨(aY rfl),.inr ⟨rfl,_,gX,rfl⟩⟩,trivial⟩⟩<;>(refine⟨(aY rfl),.inr ⟨rfl,_,rfl,?_⟩⟩)<;>repeat' (first|exact trivial|refine And.intro (And.intro (aY rfl) (Or.inr (And.intro rfl (Exists.intro _ (And.intro rfl ?_))))) ?_|refine And.intro (And.intro (aY rfl) (Or.inl (Exists.intro _ (And.intro rfl (aY rfl))))) ?_|refine And.intro (And.intro (aY rfl) (Or.inl (Exists.intro _ (And.intro (congrArg (aM.grow _) (by simp[*])) (aY rfl))))) ?_|rfl|exact aD.nil|(refine congrArg (aM.grow _) ?_;simp[*];done)|(refine congrArg aM.map ?_;simp[*];done)|(refine congrArg (aM.arr _ _) ?_;simp[*];done)|refine sM.mk rfl rfl rfl rfl rfl ?_|refine And.intro (Exists.intro _ (And.intro rfl ?_)) ?_|refine aD.cons ?_ ?_|(refine Alt.same _ ?_;first|rfl|(simp[*];done))|exact Alt.aW _ _ (aY rfl) rfl|exact Alt.grow _ _ _ _ (aY rfl) rfl|(refine Alt.zQ _ _ _ _ _ ?_ (aY rfl) rfl;simp[*];done)|exact Alt.ptr _ _ _ (aY rfl) rfl|exact Alt.own _ _ _ _ _ (aY rfl) rfl|exact Alt.sub _ _ _ _ (aY rfl) rfl|exact Alt.bY _ _ (aY rfl) rfl|exact Alt.aI _ _|(refine Alt.oA _ _ _ ?_;simp[*];done)|exact Alt.e0 _|exact Alt.dQ aD.nil (aD.cons (Alt.ptr _ _ _ (aY rfl) rfl) aD.nil)|exact Alt.dC|exact Alt.mY _ _ _|(refine Alt.bW _ _ _ _ _ rfl rfl ?_;simp[*];done)|exact Alt.iV _ _ _ _ _ _ _ _ rfl rfl rfl|exact Alt.dS _ _ rfl rfl|(refine Alt.zR ?_;simp[*]<;>rfl)|(refine Alt.ofEq rfl ?_;simp[*];done))) ?_ rfl rfl
 simp[xZ,wz,Nat.beq_eq]
 omega
variable [bF] in
theorem p21 (c:aj)(hB:BC c):aN prog 21 [aH c] fun r=>eR r (.bx [.agg [.vec ((if bl c=0 then vk c else []).map encS),.int .i64 (if bl c=0 then du c else 0),.vec (if bl c=0 then kF c (c.t.length+1) else [])],.int .i64 (bl c)]):=by
 have ct:=sB c hB
 have fY:=Bd c
 have hC:cR c=(cQ c):=rfl
 obtain⟨e,he⟩:∃e,bl c=e:=⟨_,rfl⟩
 have dz:=he
 rw[he] at ct fY ⊢
 have ll:=fun i j:Int=>HO c i j
 have hE:∀s:aq,encS s=.agg [.int .i64 s.k,.int .i64 s.a,.int .i64 s.i,.int .i64 s.l,.int .i64 s.w]:=fun _=>rfl
 unfold aH at ct fY ll ⊢
 unfold iF at ll
 rw[hC] at ct fY ll ⊢
 have Ao:∀a b c d e:Int,ma [PV.agg [.int .i64 a,.int .i64 b,.int .i64 c,.int .i64 d,.int .i64 e]]=true:=fun _ _ _ _ _=>rfl
 refine .bT func21 rfl rfl ?_
 refine .sr ?_
 refine .scope ?_
 refine .seq (.seq (.ay [0,1,2] rfl ae (.rn [0] _ ?_)))
 refine .pc rfl rfl rfl rfl rfl call55 (ct) ?_
 refine .rn [2] [] ?_
 refine .done (.sr ?_)
 refine .cs ?_ ?_<;>intro cI
 ·try simp at cI
  refine .sr ?_
  refine .ret (au ?_)
  simp only[if_neg cI];exact zJ (.cons (.lO (.cons .dC (.cons (.same _ rfl) (.cons .dC .nil)))) (.cons (.same _ rfl) .nil))
 try simp at cI
 subst cI
 have bo:=gR dz
 have oh:=bo.tl
 have eM:=bo.cl
 have jx:=F3 c dz
 unfold aH iF at jx
 rw[hC] at jx
 have IL:=BI.start bo
 have zj:IntKind.i64.wrap ((c.t.length:Int)+1)=(c.t.length:Int)+1:=wrap64 (by omega) (by omega)
 have lX:IntKind.i64.wrap ((c.c.length:Int)+1)=(c.c.length:Int)+1:=wrap64 (by omega) (by omega)
 refine .skip (.seq (.ay eD rfl ae (.rn [0] _ ?_)))
 refine .step rfl rfl (.pure rfl rfl rfl call77 (by decide) (fY rfl) (by first|rfl|simp[*]) ?_)
 rintro _ ⟨ps,gr,rfl⟩
 have tq:=fun (x:aK) i j hx hi hj=>T9 c ps x dz gr i j hx hi hj
 rw[uu] at tq ⊢
 refine .rn [2,3] [] ?_
 refine .done (.sr ?_)
 refine .sr ?_
 refine .seq ?_
 refine .label ?_
 refine .seq (.block ?_)
 refine .dw (fun z:Nat×Nat×List aq=>([(1,.ptr 0 0),(2,.ptr 1 0),(5,.ptr 2 0),(6,.ptr 3 0),(7,.ptr 4 0)],⟨6,[(4,.box [.int .i64 z.1,.int .i64 z.2.1]),(3,.box [.grow 5 (z.2.2).length true,.int .i64 (aX c c.t.length c.c.length),.aI]),(2,.box (bQ c (.aC (be (places c) (aX c))) (.aC (be ps (bwd c))) (.int .i64 (aX c c.t.length c.c.length)))),(1,.box [.aI,.int .i64 0,.aI]),(0,.box (cQ c)),(5,.grow 5 ((z.2.2).map encS))]⟩)) (fun z=>BI c z.1 z.2.1 z.2.2) (fun z=>(c.t.length - z.1)+(c.c.length - z.2.1)) (0,0,[]) IL bn ?_
 clear IL
 rintro⟨i,j,d⟩ hI
 simp only at hI ⊢
 have hi:=hI.hi
 have hj:=hI.hj
 have AA:=hI.len bo
 refine .seq (.seq ?_)
 refine .drawn (ms:=[0,0,2,7]) (W:=[2]) (items:=[.op 0,.op 1,.op 2,.ck 0,.op 3]) rfl ae ae ae ?_
 iterate 2 refine .rx ?_
 refine .wp rfl rfl rfl rfl rfl call78 (jx) ?_
 refine .ck rfl dO ?_
 refine .rx ?_
 refine .done ?_
 refine .cs ?_ ?_<;>intro eV
 ·try simp at eV
  have cY:¬(i=c.t.length∧j=c.c.length):=fun⟨h1,h2⟩=>by subst h1;subst h2;simp at eV
  refine .skip (.block (.seq (.ay [0,1,2] rfl ae (.rn [0,1] _ ?_))))
  refine .pc rfl rfl rfl rfl rfl call79 (ll i j) ?_
  refine .done (.block ?_)
  refine .rec (aA:=[(1,.ptr 0 0),(2,.ptr 1 0),(5,.ptr 2 0),(6,.ptr 3 0),(7,.ptr 4 0),(30,.func 138 [] [.vp [.int .i64 i,.int .i64 j],.vp (cR c)])]) (aV:=⟨1000,[(4,.box [.int .i64 i,.int .i64 j]),(3,.box [.grow 5 (d).length true,.int .i64 (aX c c.t.length c.c.length),.aI]),(2,.box (bQ c (.aC (be (places c) (aX c))) (.aC (be ps (bwd c))) (.int .i64 (aX c c.t.length c.c.length)))),(1,.box [.aI,.int .i64 0,.aI]),(0,.box (cQ c)),(5,.grow 5 ((d).map encS))]⟩) bn ?_
  refine Li c i j _ (fun pre n L=>L=[(4,.box [.int .i64 i,.int .i64 j]),(3,.box [.grow 5 (d).length true,.int .i64 (aX c c.t.length c.c.length),.aI]),(2,.box (bQ c (.aC (be (places c) (aX c))) (.aC (be ps (bwd c))) (.int .i64 (aX c c.t.length c.c.length)))),(1,.box [.aI,.int .i64 0,.aI]),(0,.box (cQ c)),(5,.grow 5 ((d).map encS))]∧∀y∈pre,jy c y=false) (fun e n L=>e=some 1∧∃i2 j2 d2 g,BI c i2 j2 d2∧(c.t.length - i2)+(c.c.length - j2)<(c.t.length - i)+(c.c.length - j)∧(g=5∨(1000≤g∧g<n))∧L=[(4,.box [.int .i64 i2,.int .i64 j2]),(3,.box [.grow g (d2).length true,.int .i64 (aX c c.t.length c.c.length),.aI]),(2,.box (bQ c (.aC (be (places c) (aX c))) (.aC (be ps (bwd c))) (.int .i64 (aX c c.t.length c.c.length)))),(1,.box [.aI,.int .i64 0,.aI]),(0,.box (cQ c)),(g,.grow 5 ((d2).map encS))]) dz hi hj ⟨rfl,fun _ h=>by cases h⟩ rfl (by decide) rfl (fun _ _ _ _ h _=>h) ?_ ?_ (fun _ _ h=>by cases h.1) ?_
  ·skip
   rintro pre x kD n L iA hn ⟨rfl,gC⟩
   have hx:x∈steps c i j:=by rw[iA];simp
   have gz:=ib bo hx
   obtain⟨m,rfl⟩:∃m,n=m+1000:=⟨n - 1000,by omega⟩
   have tq:=tq x i j hx hi hj
   obtain⟨tb,Ia⟩:∃b,jy c x=b:=⟨_,rfl⟩
   rw[Ia] at tq
   obtain⟨a0,a1,a2,a3,a4,fU⟩:=xR x.s
   rw[xS x fU] at tq ⊢
   obtain⟨kb,Gg⟩:∃b,x.s.isNone=b:=⟨_,rfl⟩
   rw[Gg] at tq ⊢
   have LO:IK x=bif kb then [] else [⟨a0,a1,a2,a3,a4⟩]:=by
    rw[← Gg]
    unfold IK
    cases hs:x.s with
    |none=>rfl
    |some s=>
     rw[hs] at fU
     simp only[Ea,List.cons.injEq,PV.int.injEq,true_and,and_true] at fU
     obtain⟨e0,e1,e2,e3,e4⟩:=fU
     show [s]=[_]
     rw[← e0,← e1,← e2,← e3,← e4]
   have yaj:d.length≤4294967295:=by omega
   unfold Ei
   refine .rn ?_
   refine .block (.seq (.seq (.ay eD rfl ae (.rn [0,1] _ ?_))))
   refine .pc rfl rfl rfl rfl rfl call80 (tq) ?_
   refine .rn [3] [] ?_
   refine .done ?_
   refine .cs ?_ ?_<;>intro Bm
   ·try simp at Bm
    obtain rfl:tb=false:=by simpa using Bm
    refine .exit ?_
    refine⟨none,[(4,.box [.int .i64 i,.int .i64 j]),(3,.box [.grow 5 (d).length true,.int .i64 (aX c c.t.length c.c.length),.aI]),(2,.box (bQ c (.aC (be (places c) (aX c))) (.aC (be ps (bwd c))) (.int .i64 (aX c c.t.length c.c.length)))),(1,.box [.aI,.int .i64 0,.aI]),(0,.box (cQ c)),(5,.grow 5 ((d).map encS))],rfl,bR,lq,rfl,fun y hy=>?_⟩
    rcases List.mem_append.1 hy with hy|hy
    ·exact gC y hy
    rw[List.mem_singleton.1 hy];exact Ia
   try simp at Bm
   obtain rfl:tb=true:=by simpa using Bm
   have IM:=hI.next bo iA gC Ia
   have IN:(c.t.length - x.i')+(c.c.length - x.j')<(c.t.length - i)+(c.c.length - j):=by have:=gz.vc;have:=gz.vd;have:=gz.on;have:=gz.it;have:=gz.jt;omega
   refine .skip (.seq (.sr ?_))
   refine .cs ?_ ?_<;>intro kM
   ·try simp at kM
    rw[kM] at LO
    rw[LO] at IM
    refine .rn ?_
    refine .sr ?_
    refine .exit ?_
    refine⟨some (some 1),[(4,.box [.int .i64 x.i',.int .i64 x.j']),(3,.box [.grow (m+1002) (d++[(⟨a0,a1,a2,a3,a4⟩:aq)]).length true,.int .i64 (aX c c.t.length c.c.length),.aI]),(2,.box (bQ c (.aC (be (places c) (aX c))) (.aC (be ps (bwd c))) (.int .i64 (aX c c.t.length c.c.length)))),(1,.box [.aI,.int .i64 0,.aI]),(0,.box (cQ c)),((m+1002),.grow 5 ((d++[(⟨a0,a1,a2,a3,a4⟩:aq)]).map encS))],rfl,?_,lq,?_⟩
    ·rw[List.length_append,List.map_append]
     simp only[List.map_cons,List.map_nil,List.length_cons,List.length_nil,hE]
     exact bR
    exact And.intro rfl ⟨x.i',x.j',d++[⟨a0,a1,a2,a3,a4⟩],m+1002,IM,IN,.inr ⟨by omega,by simp⟩,rfl⟩
   try simp at kM
   rw[kM] at LO
   rw[LO] at IM
   simp only[aO,List.append_nil] at IM
   refine .skip (.sr ?_)
   refine .exit ?_
   refine⟨some (some 1),[(4,.box [.int .i64 x.i',.int .i64 x.j']),(3,.box [.grow 5 (d).length true,.int .i64 (aX c c.t.length c.c.length),.aI]),(2,.box (bQ c (.aC (be (places c) (aX c))) (.aC (be ps (bwd c))) (.int .i64 (aX c c.t.length c.c.length)))),(1,.box [.aI,.int .i64 0,.aI]),(0,.box (cQ c)),(5,.grow 5 ((d).map encS))],rfl,bR,lq,And.intro rfl ⟨x.i',x.j',d,5,IM,IN,.inl rfl,rfl⟩⟩
  ·skip
   rintro n L hn ⟨rfl,gC⟩
   exact(hI.no bo cY gC).elim
   skip
  skip
  rintro id n L ⟨h1,i2,j2,d2,g,hB2,ig,hg,rfl⟩
  injection h1 with h1
  subst h1
  exact⟨(i2,j2,d2),hB2,ig,z7p c ps i2 j2 d2 _ hg⟩
 try simp at eV
 obtain⟨rfl,rfl⟩:i=c.t.length∧j=c.c.length:=by first|omega|(have sR:=eV;simp at sR;omega)
 have hd:=hI.stop
 subst hd
 have Px:kF c 0=[]:=rfl
 have hR0:∀i,List.replicate (c.c.length+1) (PV.int .i64 0)=qO (aX c i) 0 (c.c.length+1):=fun i=>xav _ _
 refine .exit (.seq (.sr ?_))
 refine .block ?_
 refine .dw (fun i:Nat=>([(1,.ptr 0 0),(2,.ptr 1 0),(5,.ptr 2 0),(6,.ptr 3 0),(51,.int .i64 ((c.t.length:Int)+1)),(52,.int .i64 i)],⟨7,[(6,.grow 1 (kF c i)),(5,.grow 5 ((vk c).map encS)),(3,.box [.grow 5 (vk c).length true,.int .i64 (aX c c.t.length c.c.length),.grow 6 i true]),(2,.box (bQ c (.aC (be (places c) (aX c))) (.aC (be ps (bwd c))) (.int .i64 (aX c c.t.length c.c.length)))),(1,.box [.aI,.int .i64 0,.aI]),(0,.box (cQ c))]⟩)) (fun i=>i≤c.t.length+1) (fun i=>c.t.length+1 - i) 0 (by simp) bn ?_
 clear hI hi hj AA eV
 rintro i hi
 simp only at hi ⊢
 refine .sr ?_
 refine .seq ?_
 refine .cs ?_ ?_<;>intro EB
 ·try simp at EB
  have et:=fA i
  have ox:i≤c.t.length:=by omega
  have Fv:(c.c.length:Int)+1≤4294967296:=by omega
  have yak:(0:Int)≤(c.c.length:Int)+1:=by omega
  have hTs:=z1t c i
  have hR:=hR0 i
  have mq:i≤4294967295:=by omega
  refine .skip (.seq (.block (.sr ?_)))
  refine .sr ?_
  refine .seq (.sr ?_)
  refine .block ?_
  refine .dw (fun j:Nat=>([(1,.ptr 0 0),(2,.ptr 1 0),(5,.ptr 2 0),(6,.ptr 3 0),(9,.int .i64 i),(10,.own 7 0 (c.c.length+1) (c.c.length+1)),(51,.int .i64 ((c.t.length:Int)+1)),(52,.int .i64 i),(61,.int .i64 ((c.c.length:Int)+1)),(62,.int .i64 j)],⟨8,[(7,.arr false 1 (qO (aX c i) j (c.c.length+1))),(6,.grow 1 (kF c i)),(5,.grow 5 ((vk c).map encS)),(3,.box [.grow 5 (vk c).length true,.int .i64 (aX c c.t.length c.c.length),.grow 6 i true]),(2,.box (bQ c (.aC (be (places c) (aX c))) (.aC (be ps (bwd c))) (.int .i64 (aX c c.t.length c.c.length)))),(1,.box [.aI,.int .i64 0,.aI]),(0,.box (cQ c))]⟩)) (fun j=>j≤c.c.length+1) (fun j=>c.c.length+1 - j) 0 (by simp) bn ?_
  rintro j hj
  simp only at hj ⊢
  refine .sr ?_
  refine .seq ?_
  refine .cs ?_ ?_<;>intro il
  ·try simp at il
   have qF:=fA j
   have ec:j<c.c.length+1:=by omega
   have nI:j≤c.c.length:=by omega
   have hf:=El (H8 c) ox nI (aX c)
   have rS:=xbb (aX c i) j (c.c.length+1) ec
   refine .skip (.seq (.block (.sr ?_)))
   refine .rn ?_
   refine .rn ?_
   refine⟨j+1,bp,bp,bn⟩
  try simp at il
  obtain rfl:j=c.c.length+1:=by omega
  have CI:qO (aX c i) (c.c.length+1) (c.c.length+1)=(rU c i).map (PV.int .i64):=z3q (aX c i) (c.c.length+1)
  have Py:(rU c i).length=c.c.length+1:=by simp[rU,-List.range,-List.range.loop]
  refine .exit ?_
  refine .rec (aA:=[(1,.ptr 0 0),(2,.ptr 1 0),(5,.ptr 2 0),(6,.ptr 3 0),(10,.vec ((rU c i).map (PV.int .i64))),(51,.int .i64 ((c.t.length:Int)+1)),(52,.int .i64 i)]) (aV:=⟨7,[(6,.grow 1 (kF c i)),(5,.grow 5 ((vk c).map encS)),(3,.box [.grow 5 (vk c).length true,.int .i64 (aX c c.t.length c.c.length),.grow 6 i true]),(2,.box (bQ c (.aC (be (places c) (aX c))) (.aC (be ps (bwd c))) (.int .i64 (aX c c.t.length c.c.length)))),(1,.box [.aI,.int .i64 0,.aI]),(0,.box (cQ c))]⟩) (.mk [7] [] (by repeat' (first|exact trivial|exact trivial|exact Alt.iV 7 0 _ _ false 1 _ _ rfl rfl ((Vp rfl (Pv _ _ _) (Vo _ _ _)).trans (congrArg some CI))|refine And.intro (Exists.intro _ (And.intro rfl ?_)) ?_|(refine Alt.same _ ?_;first|rfl|(simp[*];done))|exact Alt.aW _ _ (aY rfl) rfl|exact Alt.grow _ _ _ _ (aY rfl) rfl|(refine Alt.zQ _ _ _ _ _ ?_ (aY rfl) rfl;simp[*];done)|exact Alt.ptr _ _ _ (aY rfl) rfl|exact Alt.own _ _ _ _ _ (aY rfl) rfl|exact Alt.sub _ _ _ _ (aY rfl) rfl|exact Alt.bY _ _ (aY rfl) rfl|exact Alt.aI _ _|(refine Alt.oA _ _ _ ?_;simp[*];done)|exact Alt.e0 _|exact Alt.dQ aD.nil (aD.cons (Alt.ptr _ _ _ (aY rfl) rfl) aD.nil)|exact Alt.dC|exact Alt.mY _ _ _|(refine Alt.bW _ _ _ _ _ rfl rfl ?_;simp[*];done)|exact Alt.iV _ _ _ _ _ _ _ _ rfl rfl rfl|exact Alt.dS _ _ rfl rfl|(refine Alt.zR ?_;simp[*]<;>rfl)|(refine Alt.ofEq rfl ?_;simp[*];done))) (by repeat' (first|exact trivial|exact trivial|exact Alt.iV 7 0 _ _ false 1 _ _ rfl rfl ((Vp rfl (Pv _ _ _) (Vo _ _ _)).trans (congrArg some CI))|refine And.intro (And.intro (aY rfl) (Or.inr (And.intro rfl (Exists.intro _ (And.intro rfl ?_))))) ?_|refine And.intro (And.intro (aY rfl) (Or.inl (Exists.intro _ (And.intro rfl (aY rfl))))) ?_|refine And.intro (And.intro (aY rfl) (Or.inl (Exists.intro _ (And.intro (congrArg (aM.grow _) (by simp[*])) (aY rfl))))) ?_|rfl|exact aD.nil|(refine congrArg (aM.grow _) ?_;simp[*];done)|(refine congrArg aM.map ?_;simp[*];done)|(refine congrArg (aM.arr _ _) ?_;simp[*];done)|refine sM.mk rfl rfl rfl rfl rfl ?_|refine And.intro (Exists.intro _ (And.intro rfl ?_)) ?_|refine aD.cons ?_ ?_|(refine Alt.same _ ?_;first|rfl|(simp[*];done))|exact Alt.aW _ _ (aY rfl) rfl|exact Alt.grow _ _ _ _ (aY rfl) rfl|(refine Alt.zQ _ _ _ _ _ ?_ (aY rfl) rfl;simp[*];done)|exact Alt.ptr _ _ _ (aY rfl) rfl|exact Alt.own _ _ _ _ _ (aY rfl) rfl|exact Alt.sub _ _ _ _ (aY rfl) rfl|exact Alt.bY _ _ (aY rfl) rfl|exact Alt.aI _ _|(refine Alt.oA _ _ _ ?_;simp[*];done)|exact Alt.e0 _|exact Alt.dQ aD.nil (aD.cons (Alt.ptr _ _ _ (aY rfl) rfl) aD.nil)|exact Alt.dC|exact Alt.mY _ _ _|(refine Alt.bW _ _ _ _ _ rfl rfl ?_;simp[*];done)|exact Alt.iV _ _ _ _ _ _ _ _ rfl rfl rfl|exact Alt.dS _ _ rfl rfl|(refine Alt.zR ?_;simp[*]<;>rfl)|(refine Alt.ofEq rfl ?_;simp[*];done))) rfl rfl rfl) ?_
  refine .rn ?_
  refine .rn ?_
  refine⟨i+1,bp,bp,(.mk [] [(6,8)] ia ix rfl rfl rfl)⟩
 try simp at EB
 obtain rfl:i=c.t.length+1:=by omega
 refine .exit (.sr ?_)
 refine .ret (au ?_)
 simp only[if_true];exact oB (by simp[PV.aG,PV.aF,z4s])
end Go.Am.Sl
end
