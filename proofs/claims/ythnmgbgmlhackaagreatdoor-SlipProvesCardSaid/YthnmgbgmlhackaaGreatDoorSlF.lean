/-
 What is used in the proof of a statement (part SlF); no condition.
-/
import Derived.Shelf.Strconv.Itoa3
import Derived.Shelf.Strings.OnBuilder
import Derived.Shelf.Lay
import Derived.Deep.QuietTactic
import Derived.WalkKit
import Derived.Lib.Walk
import Derived.Test.YthnmgbgmlhackaaGreatDoorSlT
import Derived.Test.YthnmgbgmlhackaaGreatDoorVm2
import Derived.Test.YthnmgbgmlhackaaGreatDoorSlZ
import Derived.Test.YthnmgbgmlhackaaGreatDoorSlD
set_option linter.all false
set_option maxHeartbeats 40000000
set_option maxRecDepth 100000
section
namespace Go.Am.Sl
open Go Go.Am Go.Proofs Tryz Go.RowKit Go.Lib Go.Shelf
def zvj:Ren where
  f := fun x => match x with
    |171=>162
    |243=>180
    |246=>188
    |283=>192
    |284=>193
    |285=>194
    |286=>195
    |129=>178
    |317=>196
    |318=>197
    |319=>198
    |320=>199
    |337=>200
    |338=>201
    |n=>n
  t := fun x => match x with
    |3=>3
    |9=>9
    |2=>2
    |4=>4
    |171=>272
    |0=>0
    |53=>258
    |37=>238
    |5=>5
    |173=>274
    |212=>278
    |51=>256
    |20=>20
    |213=>279
    |46=>228
    |232=>280
    |233=>281
    |n=>n
  g := fun x => match x with
    |17=>2
    |18=>3
    |19=>4
    |n=>n
theorem xbf:Lays.n171 prog zvj where
  mixed:=rfl
  f129:=func178.trans (congrArg some rfl)
  f171:=func162.trans (congrArg some rfl)
  f243:=func180.trans (congrArg some rfl)
  f246:=func188.trans (congrArg some rfl)
  f283:=func192.trans (congrArg some rfl)
  f284:=func193.trans (congrArg some rfl)
  f285:=func194.trans (congrArg some rfl)
  f286:=func195.trans (congrArg some rfl)
  f317:=func196.trans (congrArg some rfl)
  f318:=func197.trans (congrArg some rfl)
  f319:=func198.trans (congrArg some rfl)
  f320:=func199.trans (congrArg some rfl)
  f337:=func200.trans (congrArg some rfl)
  f338:=func201.trans (congrArg some rfl)
  t0:=underlying0
  a0:=isAgg0
  z0:=sizeOf0
  v0:=zeroValue0
  t2:=underlying2
  a2:=isAgg2
  z2:=sizeOf2
  v2:=zeroValue2
  t3:=underlying3
  a3:=isAgg3
  z3:=sizeOf3
  v3:=zeroValue3
  t4:=underlying4
  a4:=isAgg4
  z4:=sizeOf4
  v4:=zeroValue4
  t5:=underlying5
  a5:=isAgg5
  z5:=sizeOf5
  v5:=zeroValue5
  t9:=underlying9
  a9:=isAgg9
  z9:=sizeOf9
  v9:=zeroValue9
  t20:=underlying20
  a20:=isAgg20
  z20:=sizeOf20
  v20:=zeroValue20
  t37:=underlying238
  a37:=isAgg238
  z37:=sizeOf238
  v37:=zeroValue238
  t46:=underlying228
  a46:=isAgg228
  z46:=sizeOf228
  v46:=zeroValue228
  t51:=underlying256
  a51:=isAgg256
  z51:=sizeOf256
  v51:=zeroValue256
  t53:=underlying258
  a53:=isAgg258
  z53:=sizeOf258
  v53:=zeroValue258
  t171:=underlying272
  a171:=isAgg272
  z171:=sizeOf272
  v171:=zeroValue272
  t173:=underlying274
  a173:=isAgg274
  z173:=sizeOf274
  v173:=zeroValue274
  t212:=underlying278
  a212:=isAgg278
  z212:=sizeOf278
  v212:=zeroValue278
  t213:=underlying279
  a213:=isAgg279
  z213:=sizeOf279
  t232:=underlying280
  a232:=isAgg280
  z232:=sizeOf280
  v232:=zeroValue280
  t233:=underlying281
  a233:=isAgg281
  z233:=sizeOf281
  v233:=zeroValue281
  g17:=by kernel_rfl
  g18:=by kernel_rfl
  g19:=by kernel_rfl
def Xa:Ren where
  f := fun x => match x with
    |156=>134
    |165=>163
    |166=>164
    |169=>165
    |240=>181
    |241=>182
    |276=>189
    |277=>190
    |n=>n
  t := fun x => match x with
    |31=>210
    |9=>9
    |3=>3
    |4=>4
    |0=>0
    |20=>20
    |72=>240
    |76=>244
    |70=>237
    |37=>238
    |75=>243
    |127=>259
    |164=>266
    |5=>5
    |80=>246
    |n=>n
  g:=fun n=>n
theorem xcf:Lays.n156 prog Xa where
  mixed:=rfl
  f156:=func134.trans (congrArg some rfl)
  f165:=func163.trans (congrArg some rfl)
  f166:=func164.trans (congrArg some rfl)
  f169:=func165.trans (congrArg some rfl)
  f240:=func181.trans (congrArg some rfl)
  f241:=func182.trans (congrArg some rfl)
  f276:=func189.trans (congrArg some rfl)
  f277:=func190.trans (congrArg some rfl)
  t0:=underlying0
  a0:=isAgg0
  z0:=sizeOf0
  v0:=zeroValue0
  t3:=underlying3
  a3:=isAgg3
  z3:=sizeOf3
  v3:=zeroValue3
  t4:=underlying4
  a4:=isAgg4
  z4:=sizeOf4
  v4:=zeroValue4
  t9:=underlying9
  a9:=isAgg9
  z9:=sizeOf9
  v9:=zeroValue9
  t20:=underlying20
  a20:=isAgg20
  z20:=sizeOf20
  v20:=zeroValue20
  t31:=underlying210
  a31:=isAgg210
  z31:=sizeOf210
  v31:=zeroValue210
  t37:=underlying238
  a37:=isAgg238
  z37:=sizeOf238
  v37:=zeroValue238
  t70:=underlying237
  a70:=isAgg237
  z70:=sizeOf237
  v70:=zeroValue237
  t72:=underlying240
  a72:=isAgg240
  z72:=sizeOf240
  v72:=zeroValue240
  t75:=underlying243
  a75:=isAgg243
  z75:=sizeOf243
  v75:=zeroValue243
  t76:=underlying244
  a76:=isAgg244
  z76:=sizeOf244
  v76:=zeroValue244
  t127:=underlying259
  a127:=isAgg259
  z127:=sizeOf259
  v127:=zeroValue259
  t164:=underlying266
  a164:=isAgg266
  z164:=sizeOf266
  v164:=zeroValue266
theorem FW (i:Nat)(hi:i<100)(w:World):Calls prog 162 #[.int .i64 i] w fun e w'=>e=.returned (.string ⟨(Lib.decDigits i).toArray⟩)∧w'=w:=Any.strconv_Itoa_small xbf i hi w
theorem xix (w:World):Calls prog 162 #[.int .i64 1] w fun e w'=>e=.returned (.string ⟨#[49]⟩)∧w'=w:=by
 have h:=FW 1 (by decide) w
 rw[show (Lib.decDigits 1).toArray=#[49] from by decide +kernel] at h
 exact h
theorem Xb (w:World):Calls prog 162 #[.int .i64 2] w fun e w'=>e=.returned (.string ⟨#[50]⟩)∧w'=w:=by
 have h:=FW 2 (by decide) w
 rw[show (Lib.decDigits 2).toArray=#[50] from by decide +kernel] at h
 exact h
theorem xfm (w:World):Calls prog 162 #[.int .i64 3] w fun e w'=>e=.returned (.string ⟨#[51]⟩)∧w'=w:=by
 have h:=FW 3 (by decide) w
 rw[show (Lib.decDigits 3).toArray=#[51] from by decide +kernel] at h
 exact h
theorem xeb (w:World):Calls prog 162 #[.int .i64 4] w fun e w'=>e=.returned (.string ⟨#[52]⟩)∧w'=w:=by
 have h:=FW 4 (by decide) w
 rw[show (Lib.decDigits 4).toArray=#[52] from by decide +kernel] at h
 exact h
theorem xhj (w:World):Calls prog 162 #[.int .i64 5] w fun e w'=>e=.returned (.string ⟨#[53]⟩)∧w'=w:=by
 have h:=FW 5 (by decide) w
 rw[show (Lib.decDigits 5).toArray=#[53] from by decide +kernel] at h
 exact h
theorem xg1 (w:World):Calls prog 162 #[.int .i64 7] w fun e w'=>e=.returned (.string ⟨#[55]⟩)∧w'=w:=by
 have h:=FW 7 (by decide) w
 rw[show (Lib.decDigits 7).toArray=#[55] from by decide +kernel] at h
 exact h
theorem xjo (w:World):Calls prog 162 #[.int .i64 8] w fun e w'=>e=.returned (.string ⟨#[56]⟩)∧w'=w:=by
 have h:=FW 8 (by decide) w
 rw[show (Lib.decDigits 8).toArray=#[56] from by decide +kernel] at h
 exact h
set_option maxHeartbeats 4000000 in
set_option maxRecDepth 1000000 in
theorem z2h (w:World)(hb:0<w.heap.size)(hn:w.cell? ⟨0,3,none⟩=some (.string ⟨#[108,101,97,112]⟩)) :
  Calls prog 133 #[.agg #[.int .i64 3,.int .i64 2,.int .i64 2,.int .i64 3,.int .i64 0]] w fun e w'=>e=.returned (.string ⟨#[108,101,97,112,32,50,32,50,32,51]⟩)∧Below w.heap.size w w':=by
 have mixed:prog.follows .mixedOrders=true:=rfl
 have pE:∀o,(w.alloc o).cell? ⟨0,3,none⟩=some (.string ⟨#[108,101,97,112]⟩):=fun o=>(EA (heap_alloc_old _ _ hb)).trans hn
 go_enter func133,ntmps133
 go_wp2_with fail
 go_quiet (first|(go_at_call_of 162 (Value.int .i64 2);exact Calls.quiet_of_same (Xb _)))
 go_wp2_with (go_at_call 162;refine(xfm _).mono ?_;rintro e w' ⟨rfl,rfl⟩)
 go_ret
 exact⟨congrArg (fun s=>Ending.returned (Value.string s)) (by decide +kernel),rfl,rfl,rfl,by simp[World.drewN],fun k hk=>heap_alloc_old _ _ hk⟩
set_option maxHeartbeats 4000000 in
set_option maxRecDepth 1000000 in
theorem z5e (w:World)(hb:0<w.heap.size)(hn:w.cell? ⟨0,1,none⟩=some (.string ⟨#[109,105,120]⟩)) :
  Calls prog 133 #[.agg #[.int .i64 1,.int .i64 5,.int .i64 2,.int .i64 0,.int .i64 8]] w fun e w'=>e=.returned (.string ⟨#[109,105,120,32,53,32,50,32,56]⟩)∧Below w.heap.size w w':=by
 have mixed:prog.follows .mixedOrders=true:=rfl
 have pE:∀o,(w.alloc o).cell? ⟨0,1,none⟩=some (.string ⟨#[109,105,120]⟩):=fun o=>(EA (heap_alloc_old _ _ hb)).trans hn
 go_enter func133,ntmps133
 go_wp2_with fail
 go_quiet (first|(go_at_call_of 162 (Value.int .i64 2);exact Calls.quiet_of_same (Xb _))|(go_at_call_of 162 (Value.int .i64 5);exact Calls.quiet_of_same (xhj _)))
 go_wp2_with (go_at_call 162;refine(xjo _).mono ?_;rintro e w' ⟨rfl,rfl⟩)
 go_ret
 exact⟨congrArg (fun s=>Ending.returned (Value.string s)) (by decide +kernel),rfl,rfl,rfl,by simp[World.drewN],fun k hk=>heap_alloc_old _ _ hk⟩
set_option maxHeartbeats 4000000 in
set_option maxRecDepth 1000000 in
theorem zyp (w:World)(hb:0<w.heap.size)(hn:w.cell? ⟨0,4,none⟩=some (.string ⟨#[116,119,105,99,101]⟩)) :
  Calls prog 133 #[.agg #[.int .i64 4,.int .i64 7,.int .i64 4,.int .i64 1,.int .i64 0]] w fun e w'=>e=.returned (.string ⟨#[116,119,105,99,101,32,55,32,52,32,49]⟩)∧Below w.heap.size w w':=by
 have mixed:prog.follows .mixedOrders=true:=rfl
 have pE:∀o,(w.alloc o).cell? ⟨0,4,none⟩=some (.string ⟨#[116,119,105,99,101]⟩):=fun o=>(EA (heap_alloc_old _ _ hb)).trans hn
 go_enter func133,ntmps133
 go_wp2_with fail
 go_quiet (first|(go_at_call_of 162 (Value.int .i64 4);exact Calls.quiet_of_same (xeb _))|(go_at_call_of 162 (Value.int .i64 7);exact Calls.quiet_of_same (xg1 _)))
 go_wp2_with (go_at_call 162;refine(xix _).mono ?_;rintro e w' ⟨rfl,rfl⟩)
 go_ret
 exact⟨congrArg (fun s=>Ending.returned (Value.string s)) (by decide +kernel),rfl,rfl,rfl,by simp[World.drewN],fun k hk=>heap_alloc_old _ _ hk⟩
set_option maxHeartbeats 4000000 in
set_option maxRecDepth 1000000 in
theorem ztu (w:World) :
  Calls prog 132 #[.agg #[.int .i64 3,.int .i64 2,.int .i64 2,.int .i64 3,.int .i64 0]] w fun e w'=>e=.returned (.bool true)∧Below w.heap.size w w':=by
 have mixed:prog.follows .mixedOrders=true:=rfl
 go_enter func132,ntmps132
 go_wp2
 go_ret
 refine⟨rfl,rfl,rfl,rfl,by simp;omega,fun k hk=>?_⟩
 rw[heap_alloc_old _ _ (by simp;omega),heap_alloc_old _ _ hk]
set_option maxHeartbeats 4000000 in
set_option maxRecDepth 1000000 in
theorem zzf (w:World) :
  Calls prog 132 #[.agg #[.int .i64 1,.int .i64 5,.int .i64 2,.int .i64 0,.int .i64 8]] w fun e w'=>e=.returned (.bool true)∧Below w.heap.size w w':=by
 have mixed:prog.follows .mixedOrders=true:=rfl
 go_enter func132,ntmps132
 go_wp2
 go_ret
 refine⟨rfl,rfl,rfl,rfl,by simp;omega,fun k hk=>?_⟩
 rw[heap_alloc_old _ _ (by simp;omega),heap_alloc_old _ _ hk]
set_option maxHeartbeats 4000000 in
set_option maxRecDepth 1000000 in
theorem zr4 (w:World) :
  Calls prog 132 #[.agg #[.int .i64 4,.int .i64 7,.int .i64 4,.int .i64 1,.int .i64 0]] w fun e w'=>e=.returned (.bool true)∧Below w.heap.size w w':=by
 have mixed:prog.follows .mixedOrders=true:=rfl
 go_enter func132,ntmps132
 go_wp2
 go_ret
 refine⟨rfl,rfl,rfl,rfl,by simp;omega,fun k hk=>?_⟩
 rw[heap_alloc_old _ _ (by simp;omega),heap_alloc_old _ _ hk]
def Rj:List ByteArray:=[⟨#[]⟩,⟨#[109,105,120]⟩,⟨#[111,109,105,116]⟩,⟨#[108,101,97,112]⟩,⟨#[116,119,105,99,101]⟩,⟨#[103,108,111,115,115]⟩,⟨#[97,100,100]⟩]
structure Names [bE]:Prop where
  k:0<bE.K
  nm:∀w:World,w.heap[0]?=bE.obj 0→∀(k:Nat) s,Rj[k]?=some s→w.cell? ⟨0,k,none⟩=some (.string s)
  dr:¬bE.dr
theorem HR {g:Fz}{σ:Sg}{l:List Int}{aH:List Value}{U:Mu}{bj:Array Value}(ha:bp (VR g σ 0) [.agg (l.map (.int .i64))] aH)(hr:bB U aH bj.toList):bj=#[.agg (l.map (Value.int .i64)).toArray]:=by
 obtain⟨a1,rfl⟩:∃a1,aH=[a1]:=by
  have h1:=ha.1
  match aH,h1 with
  |[a],_=>exact⟨a,rfl⟩
 have h1:=(ha.2 0 _ a1 rfl rfl).ints
 subst h1
 obtain⟨c,r',hc,hv,ky⟩:=hr.eJ
 have h2:=ky.lV
 subst h2
 rw[IK (zzk l) hv] at hc
 exact Array.toList_inj.1 hc
theorem Rk:Builder.Extra prog Xa where
  sizeBuilder:=by kernel_rfl
  liesBuilder:=by kernel_rfl
  t5:=underlying5
  a5:=isAgg5
  z5:=sizeOf5
  v5:=zeroValue5
  infoByte:=by kernel_rfl
  cellsByte:=by kernel_rfl
  sizeByte:=by kernel_rfl
  neB5:=by decide
section
variable [bE]
theorem Rl (hd:¬bE.dr)(xs:List ByteArray)(hx:xs≠[])(sep:ByteArray)(hN:xs.length≤140737488355328)(hlen:(Lib.join (xs.map (·.data.toList)) sep.data.toList).length≤140737488355328) :
  aI prog 134 [.vec (xs.map .str),.str sep] fun r=>r=.str ⟨(Lib.join (xs.map (·.data.toList)) sep.data.toList).toArray⟩:=
 aI.world hd (fun g=>.str _) rfl rfl fun lo g σ h aH U w bj ha s hr r=>by
  have hp:0<xs.length:=List.length_pos_iff.2 hx
  obtain⟨a1,a2,rfl⟩:∃a1 a2,aH=[a1,a2]:=by
   have h1:=ha.1
   match aH,h1 with
   |[a,b],_=>exact⟨a,b,rfl⟩
  have h1:=ha.2 0 _ a1 rfl rfl
  have h2:=ha.2 1 _ a2 rfl rfl
  obtain⟨c1,r1,jI,iF,oQ⟩:=hr.eJ
  obtain⟨c2,r2,rfl,eZ,ky⟩:=oQ.eJ
  have h3:=ky.lV
  subst h3
  obtain rfl:a2=.string sep:=by cases h2 with|fr _ _ h2=>cases h2;rfl
  rw[IK rfl eZ] at jI
  cases h1 with
  |fr _ _ h1=>
   generalize s8:xs.map PV.str=es at h1
   have Kn:es.length=xs.length:=by rw[← s8,List.length_map]
   cases h1 with
   |ie=>simp at Kn;omega
   |et=>simp at Kn;omega
   |vec _ o off k MM sz au hk eY hg h0 dU hl rr=>
    obtain rfl:sz=1:=by
     have:=dU 0 (.str xs[0]) (by rw[← s8];simp[hp])
     simpa[PV.cells] using this.symm
    have s5:=r.br o _ (s.fz o _ hg)
    obtain⟨b,a,C,hm,hb,oe,_⟩:=s5
    have sJ:∀(j:Nat) x,xs[j]?=some x→w.cell? ⟨b,a+off+j,none⟩=some (.string x):=fun j x hj=>by
     have eV:=(List.getElem?_eq_some_iff.1 hj).1
     obtain⟨u,hu⟩:∃u,au[off+j]?=some u:=⟨_,List.getElem?_eq_getElem (by omega)⟩
     have DZ:=rr j (.str x) 0 (.str x) u (by rw[← s8,List.getElem?_map,hj];rfl) (by simp[PV.cells]) (by simpa using hu)
     obtain⟨u',k1,k2⟩:=oe (off+j) u hu
     cases DZ
     rw[IK rfl k2] at k1
     rw[Nat.add_assoc];exact k1
    generalize ll:es.length=n1 at iF
    cases iF with
    |slice _ _ _ _ b1 a1 C1 b7 lk mU=>
     rw[hm] at b7;injection b7 with b7;injection b7 with e1 e2;injection e2 with e2 e3;subst e1;subst e2;subst e3
     obtain rfl:bj=#[.slice (some ⟨b,a+off,none⟩) n1 (jz C k),.string sep]:=Array.toList_inj.1 jI
     rw[show n1=xs.length by omega]
     exact Any.strings_Join xcf Rk b (a+off) (jz C k) xs sep w sJ hb hN (by omega) hlen
    |cj=>omega
    |cK=>omega
theorem z2i (hN:Names):aI prog 133 [.agg ([3,2,2,3,0].map (.int .i64))] fun r=>r=.str ⟨#[108,101,97,112,32,50,32,50,32,51]⟩:=
 aI.world hN.dr (fun g=>.str _) rfl rfl fun lo g σ h aH U w bj ha s hr r=>by
  obtain rfl:=HR ha hr
  exact z2h w (Nat.lt_of_lt_of_le hN.k r.mM.ks) (hN.nm w (r.mM.gl 0 hN.k) 3 _ rfl)
theorem z3i (hd:¬bE.dr):aI prog 132 [.agg ([3,2,2,3,0].map (.int .i64))] fun r=>r=.bool true:=
 aI.world hd (fun g=>.bool _) rfl rfl fun lo g σ h aH U w bj ha s hr r=>by
  obtain rfl:=HR ha hr
  exact ztu w
theorem z8c (hN:Names):aI prog 133 [.agg ([1,5,2,0,8].map (.int .i64))] fun r=>r=.str ⟨#[109,105,120,32,53,32,50,32,56]⟩:=
 aI.world hN.dr (fun g=>.str _) rfl rfl fun lo g σ h aH U w bj ha s hr r=>by
  obtain rfl:=HR ha hr
  exact z5e w (Nat.lt_of_lt_of_le hN.k r.mM.ks) (hN.nm w (r.mM.gl 0 hN.k) 1 _ rfl)
theorem z5r (hd:¬bE.dr):aI prog 132 [.agg ([1,5,2,0,8].map (.int .i64))] fun r=>r=.bool true:=
 aI.world hd (fun g=>.bool _) rfl rfl fun lo g σ h aH U w bj ha s hr r=>by
  obtain rfl:=HR ha hr
  exact zzf w
theorem zyr (hN:Names):aI prog 133 [.agg ([4,7,4,1,0].map (.int .i64))] fun r=>r=.str ⟨#[116,119,105,99,101,32,55,32,52,32,49]⟩:=
 aI.world hN.dr (fun g=>.str _) rfl rfl fun lo g σ h aH U w bj ha s hr r=>by
  obtain rfl:=HR ha hr
  exact zyp w (Nat.lt_of_lt_of_le hN.k r.mM.ks) (hN.nm w (r.mM.gl 0 hN.k) 4 _ rfl)
theorem zx6 (hd:¬bE.dr):aI prog 132 [.agg ([4,7,4,1,0].map (.int .i64))] fun r=>r=.bool true:=
 aI.world hd (fun g=>.bool _) rfl rfl fun lo g σ h aH U w bj ha s hr r=>by
  obtain rfl:=HR ha hr
  exact zr4 w
end
open Go Go.Am Go.Proofs Tryz
attribute [local simp] de fQ lz dz dN jD af.back b6 dG iO bm Nat.testBit_eq_decide_div_mod_eq ct gf jB vO kN dX kO gE cJ jR jQ kK dY kL j9 jq ly j8 kM kF kC kG kD kE kH kI jM di ig dd kP jS ka kQ kR jL ls lu dW jC dy dx dA iL dK jY jO jP gX kz a7 j7 dw bA bC ja af.get af.alloc af.put af.drop af.empty bq cg gd gR fe cp chunk List.range List.range.loop iP lA jr bI bG PV.aD PV.az PV.b8 PV.dv eu dZ kc PV.one PV.ids PV.bT fJ beq_eq lQ l9
attribute [local simp] cQ bQ cw jU lD jE jN jc ef dD
attribute [local simp ↓ high] mG ma
def ug (l:List ak):List PV:=(l.flatMap lS++[0,0,0,0,0]).map (PV.int .i64)
theorem xas (l:List ak):(l.flatMap lS++[0,0,0,0,0]).map (PV.int .i64)=ug l:=rfl
theorem Xc (l:List ak):(l.flatMap lS).length=l.length*5:=by
 induction l with
 |nil=>rfl
 |cons a r ih=>rw[List.flatMap_cons,List.length_append,ih,List.length_cons];show 5+_=_;omega
@[simp] theorem xj4 (l:List ak):(ug l).length=l.length*5+5:=by unfold ug;rw[List.length_map,List.length_append,Xc];rfl
theorem Xd (l:List ak):ug l=(l.map encS).flatMap PV.cells++[.int .i64 0,.int .i64 0,.int .i64 0,.int .i64 0,.int .i64 0]:=by
 unfold ug
 rw[List.map_append]
 congr 1
 induction l with
 |nil=>rfl
 |cons a r ih=>rw[List.flatMap_cons,List.map_append,ih];rfl
theorem Xe (l:List ak):oG 5 (l.map encS):=.map (g:=fun s=>[.int .i64 s.k,.int .i64 s.a,.int .i64 s.i,.int .i64 s.l,.int .i64 s.w]) (fun _=>rfl) (fun _=>rfl) l
theorem Rm (D R:List ak)(s:ak):∃A B,ug (D++s::R)=A++(.int .i64 s.k::.int .i64 s.a::.int .i64 s.i::.int .i64 s.l::.int .i64 s.w::B)∧A.length=D.length*5∧∀x,ug (D++{ s with i:=x }::R)=A++(.int .i64 s.k::.int .i64 s.a::.int .i64 x::.int .i64 s.l::.int .i64 s.w::B):=by
 refine⟨(D.flatMap lS).map (PV.int .i64),(R.flatMap lS++[0,0,0,0,0]).map (PV.int .i64),?_,by rw[List.length_map,Xc],fun x=>?_⟩
 ·unfold ug
  rw[List.flatMap_append,List.append_assoc,List.map_append];rfl
 unfold ug
 rw[List.flatMap_append,List.append_assoc,List.map_append];rfl
theorem Xf {D R:List ak}{s:ak}{k:Nat}(hk:D.length=k):(ug (D++s::R))[k*5+1]?=some (.int .i64 s.a)∧(ug (D++s::R))[k*5+2]?=some (.int .i64 s.i):=by
 obtain⟨A,B,h1,h2,_⟩:=Rm D R s
 rw[h1,← hk,← h2]
 constructor
 ·rw[List.getElem?_append_right (by omega)];simp
 rw[List.getElem?_append_right (by omega)];simp
theorem z6l {D R:List ak}{s:ak}{k:Nat}(hk:D.length=k):(List.drop (k*5) (ug (D++s::R))).take 5=[.int .i64 s.k,.int .i64 s.a,.int .i64 s.i,.int .i64 s.l,.int .i64 s.w]:=by
 obtain⟨A,B,h1,h2,_⟩:=Rm D R s
 rw[h1,← hk,← h2,List.drop_left];rfl
theorem xag {D R:List ak}{s:ak}{k:Nat}(hk:D.length=k)(x:Int):(ug (D++s::R)).take (k*5+2)++.int .i64 x::(ug (D++s::R)).drop (k*5+2+1)=ug (D++{ s with i:=x }::R):=by
 obtain⟨A,B,h1,h2,h3⟩:=Rm D R s
 rw[h1,h3,← hk,← h2]
 have h0:A.drop (A.length+2+1)=[]:=List.drop_eq_nil_of_le (by omega)
 rw[List.take_append,List.take_of_length_le (by omega),List.drop_append,h0]
 rw[Nat.add_sub_cancel_left,show A.length+2+1 - A.length=3 by omega]
 simp
theorem xh4:aA Cj=.agg [.int .i64 0,.int .i64 0,.int .i64 0,.int .i64 0,.int .i64 0,.vec [],.vec [],.vec [],.vec []]:=rfl
theorem xb0 (e:Int):ec (.bz [.agg [.int .i64 0,.int .i64 0,.int .i64 0,.int .i64 0,.int .i64 0,.aJ,.aJ,.aJ,.aJ],.aJ,.int .i64 e]) (.bz [aA Cj,.vec [],.int .i64 e]):=by
 rw[xh4]
 exact Js (.cons (.lW (.cons (.same _ rfl) (.cons (.same _ rfl) (.cons (.same _ rfl) (.cons (.same _ rfl) (.cons (.same _ rfl) (.cons .eH (.cons .eH (.cons .eH (.cons .eH .nil)))))))))) (.cons .eH (.cons (.same _ rfl) .nil)))
variable [bE] in
theorem Xg (c:aj)(l:List ak)(k0:Int)(hB:BC c)(da:l.length≤200):aI prog 54 [aA c,.vec (l.map encS),.int .i64 k0] fun r=>ec r (.bz [aA (zg c l k0),.vec ((Ck c l k0).map encS),.int .i64 (u4 c l k0)]):=by
 have dI:=wG c hB
 have kj:=FU c l
 have fw:=fun r hk hl=>aI.soft (FT c r hk hl) (Q1 c r)
 have lC:=xL k0 0 ((l.length:Int) - 1)
 have dq:=fun s hk=>Hs c s hk
 have hC:cu c=(cQ c):=rfl
 have hE:∀s:ak,encS s=.agg [.int .i64 s.k,.int .i64 s.a,.int .i64 s.i,.int .i64 s.l,.int .i64 s.w]:=fun _=>rfl
 have lr:IntKind.i64.wrap ((l.length:Int) - 1)=(l.length:Int) - 1:=wrap64 (by omega) (by omega)
 have lR:u4 c l k0=if aN c≠0 then aN c else if bP c l=none∨¬(0≤k0∧k0≤(l.length:Int) - 1) then 1 else if 48<(DX c (zf c l k0)).length then 2 else 0:=rfl
 have HS:zg c l k0=if u4 c l k0=0 then { c with c:=DX c (zf c l k0) } else Cj:=rfl
 have Ko:Ck c l k0=if u4 c l k0=0 then zf c l k0 else []:=rfl
 obtain⟨e,he⟩:∃e,aN c=e:=⟨_,rfl⟩
 have bR:=he
 rw[he] at dI kj fw dq lR
 unfold aA at dI kj fw dq
 rw[hC] at dI kj fw dq
 obtain⟨wi,gy⟩:∃b,(decide (0≤k0)&&decide (k0≤(l.length:Int) - 1))=b:=⟨_,rfl⟩
 rw[gy] at lC
 obtain⟨xb,lU⟩:∃b,(bP c l).isSome=b:=⟨_,rfl⟩
 obtain⟨xn,Cm⟩:∃b,(bP c l).getD 0=b:=⟨_,rfl⟩
 rw[lU,Cm] at kj
 show aI prog 54 [.agg (cu c),.vec (l.map encS),.int .i64 k0] _
 rw[hC]
 have ik:u4 c l k0≠0→∀x,u4 c l k0=x→ec (.bz [.agg [.int .i64 0,.int .i64 0,.int .i64 0,.int .i64 0,.int .i64 0,.aJ,.aJ,.aJ,.aJ],.aJ,.int .i64 x]) (.bz [aA (zg c l k0),.vec ((Ck c l k0).map encS),.int .i64 (u4 c l k0)]):=fun h x hx=>by
  rw[HS,Ko,if_neg h,if_neg h,hx]
  exact xb0 x
 refine .bJ func54 rfl rfl ?_
 refine .sr ?_
 refine .seq (.seq (.ar [0,1,2] rfl ae (.rn [0] _ ?_)))
 refine .pc rfl rfl rfl rfl rfl call55 (dI) ?_
 refine .rn [2] [] ?_
 refine .done (.sr ?_)
 refine .cs ?_ ?_<;>intro fg
 ·try simp at fg
  rw[if_pos fg] at lR
  refine .sr ?_
  refine .ret (ax ?_)
  exact ik (by rw[lR];exact fg) _ lR
 try simp at fg
 subst fg
 rw[if_neg (by simp)] at lR
 have aP:=fC bR
 refine .skip (.seq (.seq (.ar js rfl ae (.rn [0,1] _ ?_))))
 refine .pc rfl rfl rfl rfl rfl call100 (kj rfl da) ?_
 refine .rn [3,4,5,6,7] [] ?_
 refine .done (.seq (.ar gh rfl ae ?_))
 refine .rn [0,1,2] _ ?_
 refine .split (t:=38) rfl (fun nt=>?_) (fun nt=>?_)
 ·try subst nt
  try simp at nt
  have yr:bP c l=none:=by rw[nt] at lU;cases hh:bP c l with|none=>rfl|some v=>rw[hh] at lU;cases lU
  rw[if_pos (.inl yr)] at lR
  refine .rn [3,4,5,6,7,8,9] [] ?_
  refine .done (.dR rfl (.sr ?_))
  refine .ret (ax ?_)
  exact ik (by rw[lR];decide) _ lR
 try subst nt
 try simp at nt
 obtain⟨xv,yr⟩:∃v,bP c l=some v:=by rw[nt] at lU;exact Option.isSome_iff_exists.1 lU
 refine .rn [3,4,5,6] _ ?_
 refine .pc rfl rfl rfl rfl rfl call85 (lC) ?_
 refine .rn [8,9] [] ?_
 refine .done ?_
 refine .cs ?_ ?_<;>intro D0
 ·try simp at D0
  have qe:¬(0≤k0∧k0≤(l.length:Int) - 1):=fun hh=>by rw[D0] at gy;simp[hh.1,hh.2] at gy
  rw[if_pos (.inr qe)] at lR
  refine .sr ?_
  refine .ret (ax ?_)
  exact ik (by rw[lR];decide) _ lR
 try simp at D0
 have qe:0≤k0∧k0≤(l.length:Int) - 1:=by rw[D0] at gy;simpa using gy
 rw[if_neg (by rw[yr];simp[qe])] at lR
 obtain⟨k,rfl⟩:∃k:Nat,k0=k:=⟨k0.toNat,by omega⟩
 have ee:k<l.length:=by omega
 have h0:0<l.length:=by omega
 have Jg:=iQ k
 have kB:=(Ns yr).erase aP k
 have Xh:=MI.start kB
 have oI:(l.eraseIdx k).length=l.length - 1:=by rw[List.length_eraseIdx,if_pos ee]
 have hmR:zf c l k=tn c (l.eraseIdx k) 0 0:=by unfold zf;rw[Int.toNat_natCast]
 rw[hmR] at lR HS Ko
 refine .skip (.seq (.ar gT rfl ae (.rn [0] _ ?_)))
 refine .step rfl rfl (.call rfl rfl rfl call112 (by decide) (((eN.zh (by simp) (xlm l (by omega) h0) rfl h0)).mono ?_))
 rintro _ _ ⟨rfl,rfl⟩
 refine .rn [2,3,4] _ ?_
 refine .step rfl rfl (.call rfl rfl rfl call111 (by decide) (((Q8 (zs:=l) (i:=2) (nl:=false) (n:=l.length) (k:=k) (by simp) rfl ee)).mono ?_))
 rintro _ _ ⟨rfl,rfl⟩
 rw[xas]
 refine .rn [6] [] ?_
 refine .done (.sr ?_)
 refine .seq (.sr ?_)
 refine .block ?_
 refine .cZ (fun z:List ak×List ak×Nat×Nat=>([(3,.ptr 0 0),(6,.ptr 1 0),(12,.sub 2 0 (l.length - 1)),(13,.int .i64 z.2.2.1),(14,.int .i64 z.2.2.2),(54,.int .i64 (l.length - 1:Nat)),(55,.int .i64 z.1.length)],⟨3,[(2,.arr true 5 (ug (z.1++z.2.1))),(1,.box [.int .i64 0,.int .i64 0,.int .i64 0,.int .i64 0,.int .i64 0,.aJ,.aJ,.aJ,.aJ]),(0,.box (cQ c))]⟩)) (fun z=>MI c (l.eraseIdx k) z.1 z.2.1 z.2.2.1 z.2.2.2) (fun z=>z.2.1.length) ([],l.eraseIdx k,0,0) Xh aX ?_
 clear Xh kB
 rintro⟨D,R,i,j⟩ hM
 simp only at hM ⊢
 have Nu:=hM.hl
 rw[oI] at Nu
 have cE:=hM.hi
 have eV:=hM.hj
 have nY:=aP.tl
 refine .sr ?_
 refine .seq ?_
 refine .cs ?_ ?_<;>intro zj
 ·try simp at zj
  obtain⟨s,R',rfl⟩:∃s R',R=s::R':=by
   cases R with
   |nil=>simp at Nu;omega
   |cons s R'=>exact⟨s,R',rfl⟩
  obtain⟨sk,sa,si,sl,sw⟩:=s
  obtain⟨g1,g2,n,i',w,hd,g3⟩:=hM.ch
  simp only at g1 g2
  obtain⟨a,rfl⟩:∃a:Nat,sa=a:=⟨sa.toNat,by omega⟩
  obtain⟨d1,d2,d3,d4,d5,d6⟩:=nI aP hd
  have Nv:=hM.next aP hd
  simp only[Int.toNat_natCast] at Nv d2 d3 d5
  obtain⟨x,hx⟩:∃x:Nat,j+(a - i)=x:=⟨_,rfl⟩
  rw[hx] at Nv
  have cR:IntKind.i64.wrap ((j:Int)+(a:Int))=(j:Int)+(a:Int):=wrap64 (by omega) (by omega)
  have sh:IntKind.i64.wrap ((j:Int)+(a:Int) - (i:Int))=(x:Int):=by rw[wrap64 (by omega) (by omega)];omega
  have DM:IntKind.i64.wrap ((x:Int)+(w.length:Int))=(x:Int)+(w.length:Int):=wrap64 (by omega) (by omega)
  have Xi:IntKind.i64.wrap (x:Int)=(x:Int):=wrap64 (by omega) (by omega)
  have qA:IntKind.i64.wrap ((D.length:Int)+1)=(D.length:Int)+1:=wrap64 (by omega) (by omega)
  have Kq:=(Xf (D:=D) (R:=R') (s:=⟨sk,a,si,sl,sw⟩) (k:=D.length) rfl).1
  have tm:=xag (D:=D) (R:=R') (s:=⟨sk,a,si,sl,sw⟩) (k:=D.length) rfl (x:Int)
  have Kr:=(Xf (D:=D) (R:=R') (s:=⟨sk,a,x,sl,sw⟩) (k:=D.length) rfl).2
  have Ks:=z6l (D:=D) (R:=R') (s:=⟨sk,a,x,sl,sw⟩) (k:=D.length) rfl
  have xG:aM c ⟨sk,a,x,sl,sw⟩=some (n,i',w):=by
   have:=Q6 (c:=c) (s:=⟨sk,a,si,sl,sw⟩) (x:=x) (by omega) d2.2.2
   rw[hd] at this;exact this
  have dq:=dq ⟨sk,a,x,sl,sw⟩ rfl
  rw[AU xG,hE] at dq
  unfold jT at dq
  simp only at Kr Ks dq Kq tm
  have eM:D.length*5≤(D.length+(R'.length+1))*5+2:=by omega
  have cr:D.length*5≤(D.length+(R'.length+1))*5:=by omega
  rcases Nn w with⟨rfl,hw⟩|hw<;>rw[hw] at dq
  ·skip
   refine .skip (.seq (.block (.sr ?_)))
   refine .sr ?_
   refine .sr ?_
   refine .seq ?_
   refine .vK (ms:=[0,0,2,6,15,31,63,63,63,63,0,1151,3327,7679,16383]) (W:=[4,13]) (As:=[10]) (items:=Kt) rfl ae ae ae ae (by decide) ?_
   iterate 4 refine .rf ?_
   refine .al rfl rfl (by decide) (by decide) (by decide) (by decide) iq ?_
   refine .wr rfl rfl (by decide) (.pure rfl rfl rfl call95 (by decide) (dq) (by first|rfl|simp[*]) ?_)
   rintro _ rfl
   iterate 7 refine .rf ?_
   refine .wr rfl rfl (by decide) (.dz iq (by decide) ?_)
   refine .rf ?_
   refine .done ?_
   refine .drawn (ms:=[0,1,0,4,12,28,0,64,252,3,1023]) (W:=[]) (items:=zl) rfl ae ae ae ?_
   iterate 11 refine .rx ?_
   refine .done (.rn ?_)
   refine⟨(D++[(⟨sk,a,x,sl,sw⟩:ak)],R',i',x),Nv,Nat.lt_succ_self _,?_⟩
   rw[show (D++[(⟨sk,a,x,sl,sw⟩:ak)]++R')=D++(⟨sk,a,x,sl,sw⟩:ak)::R' by simp]
   exact aX
  skip
  refine .skip (.seq (.block (.sr ?_)))
  refine .sr ?_
  refine .sr ?_
  refine .seq ?_
  refine .vK (ms:=[0,0,2,6,15,31,63,63,63,63,0,1151,3327,7679,16383]) (W:=[4,13]) (As:=[10]) (items:=Kt) rfl ae ae ae ae (by decide) ?_
  iterate 4 refine .rf ?_
  refine .al rfl rfl (by decide) (by decide) (by decide) (by decide) iq ?_
  refine .wr rfl rfl (by decide) (.pure rfl rfl rfl call95 (by decide) (dq) (by first|rfl|simp[*]) ?_)
  rintro _ rfl
  iterate 7 refine .rf ?_
  refine .wr rfl rfl (by decide) (.dz iq (by decide) ?_)
  refine .rf ?_
  refine .done ?_
  refine .drawn (ms:=[0,1,0,4,12,28,0,64,252,3,1023]) (W:=[]) (items:=zl) rfl ae ae ae ?_
  iterate 11 refine .rx ?_
  refine .done (.rn ?_)
  refine⟨(D++[(⟨sk,a,x,sl,sw⟩:ak)],R',i',x+w.length),Nv,Nat.lt_succ_self _,?_⟩
  rw[show (D++[(⟨sk,a,x,sl,sw⟩:ak)]++R')=D++(⟨sk,a,x,sl,sw⟩:ak)::R' by simp]
  exact aX
 try simp at zj
 obtain rfl:R=[]:=by
  cases R with
  |nil=>rfl
  |cons s R'=>simp at Nu;omega
 have Xj:=hM.stop
 have ue:D.length=l.length - 1:=by simpa using Nu
 obtain⟨o,m,sX⟩:=W4 aP (by have:=(Ns yr).erase aP k;exact this)
 rw[← Xj] at sX lR HS Ko
 have hO:DX c D=o:=by unfold DX;rw[sX]
 rw[hO] at lR HS
 have fw:=fw D rfl (by omega)
 clear Xj
 rw[show ze c D=.bz [ints o,.int .i64 m,.bool true] by unfold ze;rw[sX]] at fw
 refine .exit (.seq ?_)
 simp only[List.append_nil]
 refine .rec (aF:=[(3,.ptr 0 0),(6,.ptr 1 0),(12,.vec (D.map encS))]) (aZ:=⟨2,[(1,.box [.int .i64 0,.int .i64 0,.int .i64 0,.int .i64 0,.int .i64 0,.aJ,.aJ,.aJ,.aJ]),(0,.box (cQ c))]⟩) (.mk [2] [] (by repeat' (first|exact trivial|exact trivial|exact Alt.u5 2 0 _ true 5 _ _ rfl rfl (Nw (by rw[Xd];rfl) (Xe D) (by simpa using ue))|refine And.intro (Exists.intro _ (And.intro rfl ?_)) ?_|(refine Alt.same _ ?_;first|rfl|(simp[*];done))|exact Alt.a6 _ _ (bc rfl) rfl|exact Alt.grow _ _ _ _ (bc rfl) rfl|(refine Alt.A4 _ _ _ _ _ ?_ (bc rfl) rfl;simp[*];done)|exact Alt.ptr _ _ _ (bc rfl) rfl|exact Alt.own _ _ _ _ _ (bc rfl) rfl|exact Alt.sub _ _ _ _ (bc rfl) rfl|exact Alt.cm _ _ (bc rfl) rfl|exact Alt.aJ _ _|(refine Alt.qE _ _ _ ?_;simp[*];done)|exact Alt.e0 _|exact Alt.eO aK.nil (aK.cons (Alt.ptr _ _ _ (bc rfl) rfl) aK.nil)|exact Alt.eH|exact Alt.pH _ _ _|(refine Alt.b9 _ _ _ _ _ rfl rfl ?_;simp[*];done)|exact Alt.ki _ _ _ _ _ _ _ _ rfl rfl rfl|exact Alt.eP _ _ rfl rfl|(refine Alt.A5 ?_;simp[*]<;>rfl)|(refine Alt.ofEq rfl ?_;simp[*];done))) (by repeat' (first|exact trivial|exact trivial|exact Alt.u5 2 0 _ true 5 _ _ rfl rfl (Nw (by rw[Xd];rfl) (Xe D) (by simpa using ue))|refine And.intro (And.intro (bc rfl) (Or.inr (And.intro rfl (Exists.intro _ (And.intro rfl ?_))))) ?_|refine And.intro (And.intro (bc rfl) (Or.inl (Exists.intro _ (And.intro rfl (bc rfl))))) ?_|refine And.intro (And.intro (bc rfl) (Or.inl (Exists.intro _ (And.intro (congrArg (aO.grow _) (by simp[*])) (bc rfl))))) ?_|rfl|exact aK.nil|(refine congrArg (aO.grow _) ?_;simp[*];done)|(refine congrArg aO.map ?_;simp[*];done)|(refine congrArg (aO.arr _ _) ?_;simp[*];done)|refine uc.mk rfl rfl rfl rfl rfl ?_|refine And.intro (Exists.intro _ (And.intro rfl ?_)) ?_|refine aK.cons ?_ ?_|(refine Alt.same _ ?_;first|rfl|(simp[*];done))|exact Alt.a6 _ _ (bc rfl) rfl|exact Alt.grow _ _ _ _ (bc rfl) rfl|(refine Alt.A4 _ _ _ _ _ ?_ (bc rfl) rfl;simp[*];done)|exact Alt.ptr _ _ _ (bc rfl) rfl|exact Alt.own _ _ _ _ _ (bc rfl) rfl|exact Alt.sub _ _ _ _ (bc rfl) rfl|exact Alt.cm _ _ (bc rfl) rfl|exact Alt.aJ _ _|(refine Alt.qE _ _ _ ?_;simp[*];done)|exact Alt.e0 _|exact Alt.eO aK.nil (aK.cons (Alt.ptr _ _ _ (bc rfl) rfl) aK.nil)|exact Alt.eH|exact Alt.pH _ _ _|(refine Alt.b9 _ _ _ _ _ rfl rfl ?_;simp[*];done)|exact Alt.ki _ _ _ _ _ _ _ _ rfl rfl rfl|exact Alt.eP _ _ rfl rfl|(refine Alt.A5 ?_;simp[*]<;>rfl)|(refine Alt.ofEq rfl ?_;simp[*];done))) rfl rfl rfl) ?_
 refine .ar gh rfl ae (.rn [0,1] _ ?_)
 refine .pc rfl rfl rfl rfl rfl call110 (fw) ?_
 refine .rn [3,4,5,6,7,8,9] [] ?_
 refine .done (.seq (.sr ?_))
 refine .cs ?_ ?_<;>intro u6
 ·try simp at u6
  rw[if_pos (by omega)] at lR
  refine .sr ?_
  refine .ret (ax ?_)
  exact ik (by rw[lR];decide) _ lR
 try simp at u6
 rw[if_neg (by omega)] at lR
 rw[if_pos lR] at HS Ko
 have FX:=Rg c bR
 unfold aA at FX
 rw[hC] at FX
 refine .skip (.seq (.ar [0,1,2] rfl ae (.rn [0] _ ?_)))
 refine .pc rfl rfl rfl rfl rfl call101 (FX) ?_
 refine .rn [2] [] ?_
 refine .done (.sr ?_)
 refine .sr ?_
 refine .ret (ax ?_)
 rw[HS,Ko,lR];exact oF rfl
def sv (l:List Int):aj:={ om:=4,le:=3,tw:=3,gl:=2,ad:=5,mx:=[⟨4,8,2⟩],t:=[5,7,3,9,7,4,6],g:=[⟨3,[11]⟩],c:=l }
section
variable [bE]
theorem Xk  : aI prog 76 [] fun r=>r=.agg [.int .i64 4,.int .i64 3,.int .i64 3,.int .i64 2,.int .i64 5,.vec [bD ⟨4,8,2⟩]]:=by
 refine .bJ func76 rfl rfl ?_
 refine .sr ?_
 refine .sr ?_
 refine .ret (ax ?_)
 exact zk
theorem p74 (l:List Int):aI prog 74 [ints l] fun r=>r=aA (sv l):=by
 refine .bJ func74 rfl rfl ?_
 refine .sr ?_
 refine .seq (.ar js rfl ae ?_)
 refine .pc rfl rfl rfl rfl rfl call76 (Xk) ?_
 refine .rn [1,2] _ ?_
 refine .step rfl rfl (.wT (aF:=[(5,ints [11]),(4,ints [5,7,3,9,7,4,6]),(3,.agg [.int .i64 4,.int .i64 3,.int .i64 3,.int .i64 2,.int .i64 5,.vec [bD ⟨4,8,2⟩]]),(0,ints l),(2,.ptr 0 0)]) (aZ:=⟨3,[(0,.box [.int .i64 0,.int .i64 0,.int .i64 0,.int .i64 0,.int .i64 0,.aJ,.aJ,.aJ,.aJ])]⟩) (.mk [1,2] [] gH gY rfl rfl rfl) (.op iq (by decide) ?_))
 refine .rn [4,5,6,7] [] ?_
 refine .done (.ret (ax ?_))
 exact zk
end
theorem z2e (l:List ByteArray):nU 1 (l.map PV.str)=true:=AQ (f:=PV.str) (n:=1) (fun _=>rfl) l
theorem zyj (l:List ByteArray):nV (l.map PV.str)=true:=AR (f:=PV.str) (fun _=>rfl) l
attribute [local simp] z2e zyj
def Cn (tx:ak→ByteArray)(l:List ak)(k:Nat):List ByteArray:=(l.take k).map tx
theorem z7j {tx:ak→ByteArray}{l:List ak}{k:Nat}(h:k<l.length):Cn tx l (k+1)=Cn tx l k++[tx l[k]]:=by
 unfold Cn;rw[List.take_succ_eq_append_getElem h,List.map_append];rfl
theorem xbp {tx:ak→ByteArray}{l:List ak}{k:Nat}(h:k≤l.length):(Cn tx l k).length=k:=by
 unfold Cn;rw[List.length_map,List.length_take];omega
theorem z9y (tx:ak→ByteArray)(l:List ak):Cn tx l l.length=l.map tx:=by unfold Cn;rw[List.take_length]
variable [bE] in
theorem p75 (hd:¬bE.dr)(l:List ak)(tx:ak→ByteArray)(hl:l.length≤100)(db:l≠[])(hf:∀s∈l,aI prog 132 [encS s] fun r=>r=.bool true)(ht:∀s∈l,aI prog 133 [encS s] fun r=>r=.str (tx s))(hj:(Lib.join ((l.map tx).map (·.data.toList)) [59,32]).length≤140737488355328):aI prog 75 [.vec (l.map encS)] fun r=>r=.bz [.str ⟨(Lib.join ((l.map tx).map (·.data.toList)) [59,32]).toArray⟩,.int .i64 0]:=by
 have hE:∀s:ak,encS s=.agg [.int .i64 s.k,.int .i64 s.a,.int .i64 s.i,.int .i64 s.l,.int .i64 s.w]:=fun _=>rfl
 have hp:0<l.length:=List.length_pos_iff.2 db
 have Ku:=Rl hd (l.map tx) (by simpa using db) ⟨#[59,32]⟩ (by rw[List.length_map];omega) hj
 refine .bJ func75 rfl rfl ?_
 refine .sr ?_
 refine .seq (.sr ?_)
 refine .cs ?_ ?_<;>intro c9
 ·try simp at c9
  exfalso;omega
 try simp at c9
 refine .skip (.sr ?_)
 refine .seq (.sr ?_)
 refine .block ?_
 refine .cZ (fun k:Nat=>([(4,.grow 0 k true),(10,.vec (l.map encS)),(11,.int .i64 l.length),(12,.int .i64 k)],⟨1,[(0,.grow 1 ((Cn tx l k).map .str))]⟩)) (fun k=>k≤l.length) (fun k=>l.length - k) 0 (by simp) aX ?_
 rintro k hk
 simp only at hk ⊢
 refine .sr ?_
 refine .seq ?_
 refine .cs ?_ ?_<;>intro gz
 ·try simp at gz
  have cR:IntKind.i64.wrap ((k:Int)+1)=((k+1:Nat):Int):=by rw[wrap64 (by omega) (by omega)];omega
  have ee:k<l.length:=by omega
  obtain⟨s,hs⟩:∃s,l[k]?=some s:=⟨_,List.getElem?_eq_getElem ee⟩
  have D7:l[k]=s:=(List.getElem?_eq_some_iff.1 hs).2
  have hf:=hf s (List.mem_of_getElem? hs)
  have ht:=ht s (List.mem_of_getElem? hs)
  rw[hE] at hf ht
  have A6:=@z7j tx l k ee
  rw[D7] at A6
  have Kv:=@xbp tx l k hk
  obtain⟨A,hA⟩:∃A,Cn tx l k=A:=⟨_,rfl⟩
  rw[hA] at A6 Kv ⊢
  clear hA
  have MT:k+1≤4294967296:=by omega
  refine .skip (.seq (.block (.sr ?_)))
  refine .seq (.seq (.ar [0,1,2] rfl ae (.rn [0] _ ?_)))
  refine .pc rfl rfl rfl rfl rfl call132 (hf) ?_
  refine .rn [2] [] ?_
  refine .done ?_
  refine .cs ?_ ?_<;>intro nu
  ·try simp at nu
  try simp at nu
  refine .skip (.ar kS rfl ae (.rn [0,1] _ ?_))
  refine .pc rfl rfl rfl rfl rfl call133 (ht) ?_
  refine .rn [3,4,5] [] ?_
  refine .done (.rn ?_)
  refine⟨k+1,ba,ba,?_⟩
  simp only[A6,List.map_append,List.map_cons,List.map_nil]
  exact(.mk [] [(0,3)] gH gY rfl rfl rfl)
 try simp at gz
 obtain rfl:k=l.length:=by omega
 rw[z9y]
 obtain⟨A,hA⟩:∃A,l.map tx=A:=⟨_,rfl⟩
 have Kv:A.length=l.length:=by rw[← hA,List.length_map]
 rw[hA] at Ku ⊢
 refine .exit (.seq (.ar dQ rfl ae (.rn [0] _ ?_)))
 refine .step rfl rfl (.take rfl rfl rfl call134 (by decide) (by first|(simp<;>rfl)|(simp[*]<;>rfl)|(simp[*];done)) (Ku) ?_)
 rintro _ rfl
 refine .rn [2,3] [] ?_
 refine .done (.ret (ax ?_))
 exact zk
def uh:List ak:=[⟨3,2,2,3,0⟩,⟨1,5,2,0,8⟩,⟨4,7,4,1,0⟩]
def Xl (s:ak):ByteArray:=if s.k=3 then ⟨#[108,101,97,112,32,50,32,50,32,51]⟩ else if s.k=1 then ⟨#[109,105,120,32,53,32,50,32,56]⟩ else ⟨#[116,119,105,99,101,32,55,32,52,32,49]⟩
theorem spJ:(Lib.join ((uh.map Xl).map (·.data.toList)) [59,32]).toArray=#[108,101,97,112,32,50,32,50,32,51,59,32,109,105,120,32,53,32,50,32,56,59,32,116,119,105,99,101,32,55,32,52,32,49]:=by decide +kernel
variable [bE] in
theorem xft (hN:Names):aI prog 75 [.vec (uh.map encS)] fun r=>r=.bz [.str ⟨#[108,101,97,112,32,50,32,50,32,51,59,32,109,105,120,32,53,32,50,32,56,59,32,116,119,105,99,101,32,55,32,52,32,49]⟩,.int .i64 0]:=by
 have h:=p75 hN.dr uh Xl (by decide) (by decide)
  (fun s hs=>by
   simp only[uh,List.mem_cons,List.not_mem_nil,or_false] at hs
   rcases hs with rfl|rfl|rfl
   ·exact z3i hN.dr
   ·exact z5r hN.dr
   exact zx6 hN.dr)
  (fun s hs=>by
   simp only[uh,List.mem_cons,List.not_mem_nil,or_false] at hs
   rcases hs with rfl|rfl|rfl
   ·exact z2i hN
   ·exact z8c hN
   exact zyr hN)
  ae
 rw[spJ] at h
 exact h
def sx (F:Nat→Int)(m n:Nat):List PV:=(List.range n).map fun (j:Nat)=>PV.int .i64 (if j<m then F j else 0)
@[simp] theorem Rn (F:Nat→Int)(m n:Nat):(sx F m n).length=n:=by simp[sx,-List.range,-List.range.loop]
@[simp] theorem Xm (F:Nat→Int)(m n:Nat):(sx F m n).all PV.one=true:=by simp[sx,PV.one]
@[simp] theorem xj1 (F:Nat→Int)(m n:Nat):PV.az (sx F m n)=true:=by
 unfold sx
 generalize List.range n=l
 induction l with
 |nil=>rfl
 |cons a r ih=>simp only[List.map_cons,PV.az,PV.aD,Bool.true_and];exact ih
theorem Ro (F:Nat→Int)(m n:Nat)(i:Nat)(h:i<n):(sx F m n)[i]?=some (PV.int .i64 (if i<m then F i else 0)):=by
 simp[sx,h,-List.range,-List.range.loop]
theorem xak (F:Nat→Int)(n:Nat):List.replicate n (PV.int .i64 0)=sx F 0 n:=by
 simp[sx,List.map_const',-List.range,-List.range.loop]
theorem xbs (F:Nat→Int)(m n:Nat)(h:m<n):(sx F m n).take m++PV.int .i64 (F m)::(sx F m n).drop (m+1)=sx F (m+1) n:=by
 refine List.ext_getElem? fun j=>?_
 by_cases hj:j<n
 ·rw[Ro F _ n j hj,List.getElem?_append]
  simp only[List.length_take,Rn,Nat.min_eq_left (Nat.le_of_lt h)]
  by_cases h1:j<m
  ·rw[if_pos h1,List.getElem?_take_of_lt h1,Ro F _ n j hj,if_pos h1,if_pos (by omega)]
  rw[if_neg h1]
  by_cases h2:j=m
  ·subst h2;simp
  rw[show j - m=(j - m - 1)+1 by omega,List.getElem?_cons_succ,List.getElem?_drop,show m+1+(j - m - 1)=j by omega,Ro F _ n j hj,if_neg (by omega),if_neg (by omega)]
 rw[List.getElem?_eq_none (by simp;omega),List.getElem?_eq_none (by simp;omega)]
theorem Xn {vh:af}{i n:Nat}{cs:List PV}(hg:vh.get i=some (.arr false 1 cs))(h:cs.length=n)(ho:cs.all PV.one=true):gE vh 1 (.own i 0 n n)=some cs:=by
 unfold gE
 simp only[hg,ho]
 subst h
 simp[chunk,beq_eq,lQ]
def kl (c:aj)(i:Nat):List Int:=(List.range (c.c.length+1)).map fun j=>aS c i j
theorem z6h (F:Nat→Int)(n:Nat):sx F n n=((List.range n).map F).map (PV.int .i64):=by
 unfold sx
 rw[List.map_map]
 refine List.map_congr_left fun j hj=>?_
 have:=List.mem_range.1 hj
 simp only[Function.comp]
 rw[if_pos this]
def lJ (c:aj)(k:Nat):List PV:=(List.range k).map fun i=>ints (kl c i)
theorem z1k (c:aj)(k:Nat):lJ c (k+1)=lJ c k++[ints (kl c k)]:=by unfold lJ;rw[List.range_succ,List.map_append];rfl
@[simp] theorem xjz (c:aj)(k:Nat):(lJ c k).length=k:=by simp[lJ,-List.range,-List.range.loop]
theorem z6n (c:aj)(k:Nat):PV.az (lJ c k)=true:=by
 unfold lJ
 generalize List.range k=l
 induction l with
 |nil=>rfl
 |cons a r ih=>simp only[List.map_cons,PV.az,ints,PV.aD,Bool.true_and];exact ih
def Kw (x:ay):List ak:=match x.s with|some s=>[s]|none=>[]
theorem z6s (x:ay)(l:List ay):fU (x::l)=Kw x++fU l:=by
 unfold fU Kw
 rw[List.filterMap_cons]
 cases x.s<;>rfl
structure BI (c:aj) (i j:Nat) (d:List ak):Prop where
  hi:i≤c.t.length
  hj:j≤c.c.length
  ht:aS c i j+bwd c i j=eR c
  hd:d++fU (FL c i j)=lH c
theorem BI.start {c:aj}(hr:Rt c):BI c 0 0 []:=⟨Nat.zero_le _,Nat.zero_le _,by rw[Nj hr,Nk hr];omega,by rw[xk0];rfl⟩
theorem BI.stop {c:aj}{d:List ak}(h:BI c c.t.length c.c.length d):d=lH c:=by have:=h.hd;rw[xb5] at this;simpa[fU] using this
theorem BI.next {c:aj}(hr:Rt c){i j:Nat}{d:List ak}(h:BI c i j d){pre mX:List ay}{x:ay}(hs:steps c i j=pre++x::mX)(hp:∀y∈pre,iH c y=false)(hx:iH c x=true):BI c x.i' x.j' (d++Kw x):=by
 have hn:=z1g hs hp hx
 have hm:x∈steps c i j:=by rw[hs];simp
 have ho:=iz hr hm
 refine⟨ho.it,ho.jt,QJ hr (zb h.hi h.hj hm) hx,?_⟩
 rw[List.append_assoc,← z6s,← z7i hr h.hi h.hj hn]
 exact h.hd
theorem BI.len {c:aj}(hr:Rt c){i j:Nat}{d:List ak}(h:BI c i j d):d.length≤96:=by
 have h1:=congrArg List.length h.hd
 have h2:=QM hr (zc hr)
 have h3:lH c=fU (rR c):=rfl
 rw[List.length_append,h3] at h1
 omega
theorem BI.no {c:aj}(hr:Rt c){i j:Nat}{d:List ak}(h:BI c i j d)(he:¬(i=c.t.length∧j=c.c.length))(hp:∀y∈steps c i j,iH c y=false):False:=by
 obtain⟨x,hx,ht⟩:=WA hr h.hi h.hj he h.ht
 rw[hp x hx] at ht;cases ht
theorem xdp (c:aj)(ps:List (Nat×Nat))(i j:Nat)(d:List ak)(X:PV){n g:Nat}(hg:g=5∨(1000≤g∧g<n)):Rec 0 [(1,.ptr 0 0),(2,.ptr 1 0),(5,.ptr 2 0),(6,.ptr 3 0),(7,.ptr 4 0),(30,X)] ⟨n,[(4,.box [.int .i64 i,.int .i64 j]),(3,.box [.grow g (d).length true,.int .i64 (aS c c.t.length c.c.length),.aJ]),(2,.box (bQ c (.aG (aR (places c) (aS c))) (.aG (aR ps (bwd c))) (.int .i64 (aS c c.t.length c.c.length)))),(1,.box [.aJ,.int .i64 0,.aJ]),(0,.box (cQ c)),(g,.grow 5 ((d).map encS))]⟩ [(1,.ptr 0 0),(2,.ptr 1 0),(5,.ptr 2 0),(6,.ptr 3 0),(7,.ptr 4 0)] ⟨6,[(4,.box [.int .i64 i,.int .i64 j]),(3,.box [.grow 5 (d).length true,.int .i64 (aS c c.t.length c.c.length),.aJ]),(2,.box (bQ c (.aG (aR (places c) (aS c))) (.aG (aR ps (bwd c))) (.int .i64 (aS c c.t.length c.c.length)))),(1,.box [.aJ,.int .i64 0,.aJ]),(0,.box (cQ c)),(5,.grow 5 ((d).map encS))]⟩:=by
 rcases hg with rfl|⟨hg,A3⟩
 ·exact aX
 have gN:(⟨n,[(4,.box [.int .i64 i,.int .i64 j]),(3,.box [.grow g (d).length true,.int .i64 (aS c c.t.length c.c.length),.aJ]),(2,.box (bQ c (.aG (aR (places c) (aS c))) (.aG (aR ps (bwd c))) (.int .i64 (aS c c.t.length c.c.length)))),(1,.box [.aJ,.int .i64 0,.aJ]),(0,.box (cQ c)),(g,.grow 5 ((d).map encS))]⟩:af).get g=some (.grow 5 (d.map encS)):=by
  simp[show ¬g=4 by omega,show ¬g=3 by omega,show ¬g=2 by omega,show ¬g=1 by omega,show ¬g=0 by omega]
 refine .mk [] [(5,g)] gH (by refine⟨?_,?_,?_,?_,?_,⟨⟨(bc rfl),.inr ⟨rfl,_,gN,rfl⟩⟩,trivial⟩⟩<;>(refine⟨(bc rfl),.inr ⟨rfl,_,rfl,?_⟩⟩)<;>repeat' (first|exact trivial|refine And.intro (And.intro (bc rfl) (Or.inr (And.intro rfl (Exists.intro _ (And.intro rfl ?_))))) ?_|refine And.intro (And.intro (bc rfl) (Or.inl (Exists.intro _ (And.intro rfl (bc rfl))))) ?_|refine And.intro (And.intro (bc rfl) (Or.inl (Exists.intro _ (And.intro (congrArg (aO.grow _) (by simp[*])) (bc rfl))))) ?_|rfl|exact aK.nil|(refine congrArg (aO.grow _) ?_;simp[*];done)|(refine congrArg aO.map ?_;simp[*];done)|(refine congrArg (aO.arr _ _) ?_;simp[*];done)|refine uc.mk rfl rfl rfl rfl rfl ?_|refine And.intro (Exists.intro _ (And.intro rfl ?_)) ?_|refine aK.cons ?_ ?_|(refine Alt.same _ ?_;first|rfl|(simp[*];done))|exact Alt.a6 _ _ (bc rfl) rfl|exact Alt.grow _ _ _ _ (bc rfl) rfl|(refine Alt.A4 _ _ _ _ _ ?_ (bc rfl) rfl;simp[*];done)|exact Alt.ptr _ _ _ (bc rfl) rfl|exact Alt.own _ _ _ _ _ (bc rfl) rfl|exact Alt.sub _ _ _ _ (bc rfl) rfl|exact Alt.cm _ _ (bc rfl) rfl|exact Alt.aJ _ _|(refine Alt.qE _ _ _ ?_;simp[*];done)|exact Alt.e0 _|exact Alt.eO aK.nil (aK.cons (Alt.ptr _ _ _ (bc rfl) rfl) aK.nil)|exact Alt.eH|exact Alt.pH _ _ _|(refine Alt.b9 _ _ _ _ _ rfl rfl ?_;simp[*];done)|exact Alt.ki _ _ _ _ _ _ _ _ rfl rfl rfl|exact Alt.eP _ _ rfl rfl|(refine Alt.A5 ?_;simp[*]<;>rfl)|(refine Alt.ofEq rfl ?_;simp[*];done))) ?_ rfl rfl
 simp[zd,xX,Nat.beq_eq]
 omega
variable [bE] in
theorem HT (c:aj)(hB:BC c):aI prog 21 [aA c] fun r=>ec r (.bz [.agg [.vec ((if aN c=0 then lH c else []).map encS),.int .i64 (if aN c=0 then eR c else 0),.vec (if aN c=0 then lJ c (c.t.length+1) else [])],.int .i64 (aN c)]):=by
 have dI:=wG c hB
 have jd:=DP c
 have hC:cu c=(cQ c):=rfl
 obtain⟨e,he⟩:∃e,aN c=e:=⟨_,rfl⟩
 have bR:=he
 rw[he] at dI jd ⊢
 have nJ:=fun i j:Int=>Jq c i j
 have hE:∀s:ak,encS s=.agg [.int .i64 s.k,.int .i64 s.a,.int .i64 s.i,.int .i64 s.l,.int .i64 s.w]:=fun _=>rfl
 unfold aA at dI jd nJ ⊢
 unfold jT at nJ
 rw[hC] at dI jd nJ ⊢
 have yj:∀a b c d e:Int,nV [PV.agg [.int .i64 a,.int .i64 b,.int .i64 c,.int .i64 d,.int .i64 e]]=true:=fun _ _ _ _ _=>rfl
 refine .bJ func21 rfl rfl ?_
 refine .sr ?_
 refine .scope ?_
 refine .seq (.seq (.ar [0,1,2] rfl ae (.rn [0] _ ?_)))
 refine .pc rfl rfl rfl rfl rfl call55 (dI) ?_
 refine .rn [2] [] ?_
 refine .done (.sr ?_)
 refine .cs ?_ ?_<;>intro dj
 ·try simp at dj
  refine .sr ?_
  refine .ret (ax ?_)
  simp only[if_neg dj];exact Js (.cons (.lW (.cons .eH (.cons (.same _ rfl) (.cons .eH .nil)))) (.cons (.same _ rfl) .nil))
 try simp at dj
 subst dj
 have aP:=fC bR
 have nY:=aP.tl
 have fx:=aP.cl
 have nM:=JF c bR
 unfold aA jT at nM
 rw[hC] at nM
 have Kx:=BI.start aP
 have xB:IntKind.i64.wrap ((c.t.length:Int)+1)=(c.t.length:Int)+1:=wrap64 (by omega) (by omega)
 have lr:IntKind.i64.wrap ((c.c.length:Int)+1)=(c.c.length:Int)+1:=wrap64 (by omega) (by omega)
 refine .skip (.seq (.ar dQ rfl ae (.rn [0] _ ?_)))
 refine .step rfl rfl (.pure rfl rfl rfl call77 (by decide) (jd rfl) (by first|rfl|simp[*]) ?_)
 rintro _ ⟨ps,iG,rfl⟩
 have uY:=fun (x:ay) i j hx hi hj=>V8 c ps x bR iG i j hx hi hj
 rw[wR] at uY ⊢
 refine .rn [2,3] [] ?_
 refine .done (.sr ?_)
 refine .sr ?_
 refine .seq ?_
 refine .label ?_
 refine .seq (.block ?_)
 refine .cZ (fun z:Nat×Nat×List ak=>([(1,.ptr 0 0),(2,.ptr 1 0),(5,.ptr 2 0),(6,.ptr 3 0),(7,.ptr 4 0)],⟨6,[(4,.box [.int .i64 z.1,.int .i64 z.2.1]),(3,.box [.grow 5 (z.2.2).length true,.int .i64 (aS c c.t.length c.c.length),.aJ]),(2,.box (bQ c (.aG (aR (places c) (aS c))) (.aG (aR ps (bwd c))) (.int .i64 (aS c c.t.length c.c.length)))),(1,.box [.aJ,.int .i64 0,.aJ]),(0,.box (cQ c)),(5,.grow 5 ((z.2.2).map encS))]⟩)) (fun z=>BI c z.1 z.2.1 z.2.2) (fun z=>(c.t.length - z.1)+(c.c.length - z.2.1)) (0,0,[]) Kx aX ?_
 clear Kx
 rintro⟨i,j,d⟩ hI
 simp only at hI ⊢
 have hi:=hI.hi
 have hj:=hI.hj
 have Di:=hI.len aP
 refine .seq (.seq ?_)
 refine .drawn (ms:=[0,0,2,7]) (W:=[2]) (items:=[.op 0,.op 1,.op 2,.ck 0,.op 3]) rfl ae ae ae ?_
 iterate 2 refine .rx ?_
 refine .wp rfl rfl rfl rfl rfl call78 (nM) ?_
 refine .ck rfl eQ ?_
 refine .rx ?_
 refine .done ?_
 refine .cs ?_ ?_<;>intro fg
 ·try simp at fg
  have db:¬(i=c.t.length∧j=c.c.length):=fun⟨h1,h2⟩=>by subst h1;subst h2;simp at fg
  refine .skip (.block (.seq (.ar [0,1,2] rfl ae (.rn [0,1] _ ?_))))
  refine .pc rfl rfl rfl rfl rfl call79 (nJ i j) ?_
  refine .done (.block ?_)
  refine .rec (aF:=[(1,.ptr 0 0),(2,.ptr 1 0),(5,.ptr 2 0),(6,.ptr 3 0),(7,.ptr 4 0),(30,.func 138 [] [.vp [.int .i64 i,.int .i64 j],.vp (cu c)])]) (aZ:=⟨1000,[(4,.box [.int .i64 i,.int .i64 j]),(3,.box [.grow 5 (d).length true,.int .i64 (aS c c.t.length c.c.length),.aJ]),(2,.box (bQ c (.aG (aR (places c) (aS c))) (.aG (aR ps (bwd c))) (.int .i64 (aS c c.t.length c.c.length)))),(1,.box [.aJ,.int .i64 0,.aJ]),(0,.box (cQ c)),(5,.grow 5 ((d).map encS))]⟩) aX ?_
  refine M1 c i j _ (fun pre n L=>L=[(4,.box [.int .i64 i,.int .i64 j]),(3,.box [.grow 5 (d).length true,.int .i64 (aS c c.t.length c.c.length),.aJ]),(2,.box (bQ c (.aG (aR (places c) (aS c))) (.aG (aR ps (bwd c))) (.int .i64 (aS c c.t.length c.c.length)))),(1,.box [.aJ,.int .i64 0,.aJ]),(0,.box (cQ c)),(5,.grow 5 ((d).map encS))]∧∀y∈pre,iH c y=false) (fun e n L=>e=some 1∧∃i2 j2 d2 g,BI c i2 j2 d2∧(c.t.length - i2)+(c.c.length - j2)<(c.t.length - i)+(c.c.length - j)∧(g=5∨(1000≤g∧g<n))∧L=[(4,.box [.int .i64 i2,.int .i64 j2]),(3,.box [.grow g (d2).length true,.int .i64 (aS c c.t.length c.c.length),.aJ]),(2,.box (bQ c (.aG (aR (places c) (aS c))) (.aG (aR ps (bwd c))) (.int .i64 (aS c c.t.length c.c.length)))),(1,.box [.aJ,.int .i64 0,.aJ]),(0,.box (cQ c)),(g,.grow 5 ((d2).map encS))]) bR hi hj ⟨rfl,fun _ h=>by cases h⟩ rfl (by decide) rfl (fun _ _ _ _ h _=>h) ?_ ?_ (fun _ _ h=>by cases h.1) ?_
  ·skip
   rintro pre x mX n L gZ hn ⟨rfl,iK⟩
   have hx:x∈steps c i j:=by rw[gZ];simp
   have iM:=iz aP hx
   obtain⟨m,rfl⟩:∃m,n=m+1000:=⟨n - 1000,by omega⟩
   have uY:=uY x i j hx hi hj
   obtain⟨tb,re⟩:∃b,iH c x=b:=⟨_,rfl⟩
   rw[re] at uY
   obtain⟨a0,a1,a2,a3,a4,fP⟩:=y5 x.s
   rw[y6 x fP] at uY ⊢
   obtain⟨kb,iW⟩:∃b,x.s.isNone=b:=⟨_,rfl⟩
   rw[iW] at uY ⊢
   have Nx:Kw x=bif kb then [] else [⟨a0,a1,a2,a3,a4⟩]:=by
    rw[← iW]
    unfold Kw
    cases hs:x.s with
    |none=>rfl
    |some s=>
     rw[hs] at fP
     simp only[Fx,List.cons.injEq,PV.int.injEq,true_and,and_true] at fP
     obtain⟨e0,e1,e2,e3,e4⟩:=fP
     show [s]=[_]
     rw[← e0,← e1,← e2,← e3,← e4]
   have yaB:d.length≤4294967295:=by omega
   unfold FF
   refine .rn ?_
   refine .block (.seq (.seq (.ar dQ rfl ae (.rn [0,1] _ ?_))))
   refine .pc rfl rfl rfl rfl rfl call80 (uY) ?_
   refine .rn [3] [] ?_
   refine .done ?_
   refine .cs ?_ ?_<;>intro Co
   ·try simp at Co
    obtain rfl:tb=false:=by simpa using Co
    refine .exit ?_
    refine⟨none,[(4,.box [.int .i64 i,.int .i64 j]),(3,.box [.grow 5 (d).length true,.int .i64 (aS c c.t.length c.c.length),.aJ]),(2,.box (bQ c (.aG (aR (places c) (aS c))) (.aG (aR ps (bwd c))) (.int .i64 (aS c c.t.length c.c.length)))),(1,.box [.aJ,.int .i64 0,.aJ]),(0,.box (cQ c)),(5,.grow 5 ((d).map encS))],rfl,bU,mY,rfl,fun y hy=>?_⟩
    rcases List.mem_append.1 hy with hy|hy
    ·exact iK y hy
    rw[List.mem_singleton.1 hy];exact re
   try simp at Co
   obtain rfl:tb=true:=by simpa using Co
   have Ky:=hI.next aP gZ iK re
   have vP:(c.t.length - x.i')+(c.c.length - x.j')<(c.t.length - i)+(c.c.length - j):=by have:=iM.wP;have:=iM.vL;have:=iM.on;have:=iM.it;have:=iM.jt;omega
   refine .skip (.seq (.sr ?_))
   refine .cs ?_ ?_<;>intro nt
   ·try simp at nt
    rw[nt] at Nx
    rw[Nx] at Ky
    refine .rn ?_
    refine .sr ?_
    refine .exit ?_
    refine⟨some (some 1),[(4,.box [.int .i64 x.i',.int .i64 x.j']),(3,.box [.grow (m+1002) (d++[(⟨a0,a1,a2,a3,a4⟩:ak)]).length true,.int .i64 (aS c c.t.length c.c.length),.aJ]),(2,.box (bQ c (.aG (aR (places c) (aS c))) (.aG (aR ps (bwd c))) (.int .i64 (aS c c.t.length c.c.length)))),(1,.box [.aJ,.int .i64 0,.aJ]),(0,.box (cQ c)),((m+1002),.grow 5 ((d++[(⟨a0,a1,a2,a3,a4⟩:ak)]).map encS))],rfl,?_,mY,?_⟩
    ·rw[List.length_append,List.map_append]
     simp only[List.map_cons,List.map_nil,List.length_cons,List.length_nil,hE]
     exact bU
    exact And.intro rfl ⟨x.i',x.j',d++[⟨a0,a1,a2,a3,a4⟩],m+1002,Ky,vP,.inr ⟨by omega,by simp⟩,rfl⟩
   try simp at nt
   rw[nt] at Nx
   rw[Nx] at Ky
   simp only[aQ,List.append_nil] at Ky
   refine .skip (.sr ?_)
   refine .exit ?_
   refine⟨some (some 1),[(4,.box [.int .i64 x.i',.int .i64 x.j']),(3,.box [.grow 5 (d).length true,.int .i64 (aS c c.t.length c.c.length),.aJ]),(2,.box (bQ c (.aG (aR (places c) (aS c))) (.aG (aR ps (bwd c))) (.int .i64 (aS c c.t.length c.c.length)))),(1,.box [.aJ,.int .i64 0,.aJ]),(0,.box (cQ c)),(5,.grow 5 ((d).map encS))],rfl,bU,mY,And.intro rfl ⟨x.i',x.j',d,5,Ky,vP,.inl rfl,rfl⟩⟩
  ·skip
   rintro n L hn ⟨rfl,iK⟩
   exact(hI.no aP db iK).elim
   skip
  skip
  rintro id n L ⟨h1,i2,j2,d2,g,hB2,gW,hg,rfl⟩
  injection h1 with h1
  subst h1
  exact⟨(i2,j2,d2),hB2,gW,xdp c ps i2 j2 d2 _ hg⟩
 try simp at fg
 obtain⟨rfl,rfl⟩:i=c.t.length∧j=c.c.length:=by first|omega|(have iI:=fg;simp at iI;omega)
 have hd:=hI.stop
 subst hd
 have Rp:lJ c 0=[]:=rfl
 have hR0:∀i,List.replicate (c.c.length+1) (PV.int .i64 0)=sx (aS c i) 0 (c.c.length+1):=fun i=>xak _ _
 refine .exit (.seq (.sr ?_))
 refine .block ?_
 refine .cZ (fun i:Nat=>([(1,.ptr 0 0),(2,.ptr 1 0),(5,.ptr 2 0),(6,.ptr 3 0),(51,.int .i64 ((c.t.length:Int)+1)),(52,.int .i64 i)],⟨7,[(6,.grow 1 (lJ c i)),(5,.grow 5 ((lH c).map encS)),(3,.box [.grow 5 (lH c).length true,.int .i64 (aS c c.t.length c.c.length),.grow 6 i true]),(2,.box (bQ c (.aG (aR (places c) (aS c))) (.aG (aR ps (bwd c))) (.int .i64 (aS c c.t.length c.c.length)))),(1,.box [.aJ,.int .i64 0,.aJ]),(0,.box (cQ c))]⟩)) (fun i=>i≤c.t.length+1) (fun i=>c.t.length+1 - i) 0 (by simp) aX ?_
 clear hI hi hj Di fg
 rintro i hi
 simp only at hi ⊢
 refine .sr ?_
 refine .seq ?_
 refine .cs ?_ ?_<;>intro ui
 ·try simp at ui
  have cR:=iQ i
  have oU:i≤c.t.length:=by omega
  have G9:(c.c.length:Int)+1≤4294967296:=by omega
  have yaC:(0:Int)≤(c.c.length:Int)+1:=by omega
  have hTs:=z1k c i
  have hR:=hR0 i
  have lk:i≤4294967295:=by omega
  refine .skip (.seq (.block (.sr ?_)))
  refine .sr ?_
  refine .seq (.sr ?_)
  refine .block ?_
  refine .cZ (fun j:Nat=>([(1,.ptr 0 0),(2,.ptr 1 0),(5,.ptr 2 0),(6,.ptr 3 0),(9,.int .i64 i),(10,.own 7 0 (c.c.length+1) (c.c.length+1)),(51,.int .i64 ((c.t.length:Int)+1)),(52,.int .i64 i),(61,.int .i64 ((c.c.length:Int)+1)),(62,.int .i64 j)],⟨8,[(7,.arr false 1 (sx (aS c i) j (c.c.length+1))),(6,.grow 1 (lJ c i)),(5,.grow 5 ((lH c).map encS)),(3,.box [.grow 5 (lH c).length true,.int .i64 (aS c c.t.length c.c.length),.grow 6 i true]),(2,.box (bQ c (.aG (aR (places c) (aS c))) (.aG (aR ps (bwd c))) (.int .i64 (aS c c.t.length c.c.length)))),(1,.box [.aJ,.int .i64 0,.aJ]),(0,.box (cQ c))]⟩)) (fun j=>j≤c.c.length+1) (fun j=>c.c.length+1 - j) 0 (by simp) aX ?_
  rintro j hj
  simp only at hj ⊢
  refine .sr ?_
  refine .seq ?_
  refine .cs ?_ ?_<;>intro iS
  ·try simp at iS
   have sh:=iQ j
   have eV:j<c.c.length+1:=by omega
   have qg:j≤c.c.length:=by omega
   have hf:=FI (JI c) oU qg (aS c)
   have tm:=xbs (aS c i) j (c.c.length+1) eV
   refine .skip (.seq (.block (.sr ?_)))
   refine .rn ?_
   refine .rn ?_
   refine⟨j+1,ba,ba,aX⟩
  try simp at iS
  obtain rfl:j=c.c.length+1:=by omega
  have D8:sx (aS c i) (c.c.length+1) (c.c.length+1)=(kl c i).map (PV.int .i64):=z6h (aS c i) (c.c.length+1)
  have Ny:(kl c i).length=c.c.length+1:=by simp[kl,-List.range,-List.range.loop]
  refine .exit ?_
  refine .rec (aF:=[(1,.ptr 0 0),(2,.ptr 1 0),(5,.ptr 2 0),(6,.ptr 3 0),(10,.vec ((kl c i).map (PV.int .i64))),(51,.int .i64 ((c.t.length:Int)+1)),(52,.int .i64 i)]) (aZ:=⟨7,[(6,.grow 1 (lJ c i)),(5,.grow 5 ((lH c).map encS)),(3,.box [.grow 5 (lH c).length true,.int .i64 (aS c c.t.length c.c.length),.grow 6 i true]),(2,.box (bQ c (.aG (aR (places c) (aS c))) (.aG (aR ps (bwd c))) (.int .i64 (aS c c.t.length c.c.length)))),(1,.box [.aJ,.int .i64 0,.aJ]),(0,.box (cQ c))]⟩) (.mk [7] [] (by repeat' (first|exact trivial|exact trivial|exact Alt.ki 7 0 _ _ false 1 _ _ rfl rfl ((Xn rfl (Rn _ _ _) (Xm _ _ _)).trans (congrArg some D8))|refine And.intro (Exists.intro _ (And.intro rfl ?_)) ?_|(refine Alt.same _ ?_;first|rfl|(simp[*];done))|exact Alt.a6 _ _ (bc rfl) rfl|exact Alt.grow _ _ _ _ (bc rfl) rfl|(refine Alt.A4 _ _ _ _ _ ?_ (bc rfl) rfl;simp[*];done)|exact Alt.ptr _ _ _ (bc rfl) rfl|exact Alt.own _ _ _ _ _ (bc rfl) rfl|exact Alt.sub _ _ _ _ (bc rfl) rfl|exact Alt.cm _ _ (bc rfl) rfl|exact Alt.aJ _ _|(refine Alt.qE _ _ _ ?_;simp[*];done)|exact Alt.e0 _|exact Alt.eO aK.nil (aK.cons (Alt.ptr _ _ _ (bc rfl) rfl) aK.nil)|exact Alt.eH|exact Alt.pH _ _ _|(refine Alt.b9 _ _ _ _ _ rfl rfl ?_;simp[*];done)|exact Alt.ki _ _ _ _ _ _ _ _ rfl rfl rfl|exact Alt.eP _ _ rfl rfl|(refine Alt.A5 ?_;simp[*]<;>rfl)|(refine Alt.ofEq rfl ?_;simp[*];done))) (by repeat' (first|exact trivial|exact trivial|exact Alt.ki 7 0 _ _ false 1 _ _ rfl rfl ((Xn rfl (Rn _ _ _) (Xm _ _ _)).trans (congrArg some D8))|refine And.intro (And.intro (bc rfl) (Or.inr (And.intro rfl (Exists.intro _ (And.intro rfl ?_))))) ?_|refine And.intro (And.intro (bc rfl) (Or.inl (Exists.intro _ (And.intro rfl (bc rfl))))) ?_|refine And.intro (And.intro (bc rfl) (Or.inl (Exists.intro _ (And.intro (congrArg (aO.grow _) (by simp[*])) (bc rfl))))) ?_|rfl|exact aK.nil|(refine congrArg (aO.grow _) ?_;simp[*];done)|(refine congrArg aO.map ?_;simp[*];done)|(refine congrArg (aO.arr _ _) ?_;simp[*];done)|refine uc.mk rfl rfl rfl rfl rfl ?_|refine And.intro (Exists.intro _ (And.intro rfl ?_)) ?_|refine aK.cons ?_ ?_|(refine Alt.same _ ?_;first|rfl|(simp[*];done))|exact Alt.a6 _ _ (bc rfl) rfl|exact Alt.grow _ _ _ _ (bc rfl) rfl|(refine Alt.A4 _ _ _ _ _ ?_ (bc rfl) rfl;simp[*];done)|exact Alt.ptr _ _ _ (bc rfl) rfl|exact Alt.own _ _ _ _ _ (bc rfl) rfl|exact Alt.sub _ _ _ _ (bc rfl) rfl|exact Alt.cm _ _ (bc rfl) rfl|exact Alt.aJ _ _|(refine Alt.qE _ _ _ ?_;simp[*];done)|exact Alt.e0 _|exact Alt.eO aK.nil (aK.cons (Alt.ptr _ _ _ (bc rfl) rfl) aK.nil)|exact Alt.eH|exact Alt.pH _ _ _|(refine Alt.b9 _ _ _ _ _ rfl rfl ?_;simp[*];done)|exact Alt.ki _ _ _ _ _ _ _ _ rfl rfl rfl|exact Alt.eP _ _ rfl rfl|(refine Alt.A5 ?_;simp[*]<;>rfl)|(refine Alt.ofEq rfl ?_;simp[*];done))) rfl rfl rfl) ?_
  refine .rn ?_
  refine .rn ?_
  refine⟨i+1,ba,ba,(.mk [] [(6,8)] gH gY rfl rfl rfl)⟩
 try simp at ui
 obtain rfl:i=c.t.length+1:=by omega
 refine .exit (.sr ?_)
 refine .ret (ax ?_)
 simp only[if_true];exact oF (by simp[PV.aD,PV.az,z6n])
end Go.Am.Sl
end
