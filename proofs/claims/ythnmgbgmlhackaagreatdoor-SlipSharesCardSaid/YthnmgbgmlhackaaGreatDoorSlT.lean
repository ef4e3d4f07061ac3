/-
 What is used in the proof of a statement (part SlT); no condition.
-/
import Derived.Test.YthnmgbgmlhackaaGreatDoorProg
import Derived.Test.YthnmgbgmlhackaaGreatDoorVm1
import Derived.Test.YthnmgbgmlhackaaGreatDoorVm2
set_option linter.all false
set_option maxHeartbeats 40000000
set_option maxRecDepth 100000
section
namespace Go.Am.Sl
open Go Go.Am Go.Proofs Tryz
theorem fM {p:Prop}(h:p:=by repeat' (first|decide +kernel|rfl|refine ⟨?_,?_⟩)):p:=h
@[simp] theorem tY3:prog.underlying 3=some (.int .i64)∧bB prog 3=some false∧dc prog 3=some 1∧eB prog 3=some [.int .i64 0]∧(ey prog 3).bind bo=some (.int .i64 0):=fM
@[simp] theorem tY4:prog.underlying 4=some .bool∧bB prog 4=some false∧dc prog 4=some 1∧eB prog 4=some [.bool false]∧(ey prog 4).bind bo=some (.bool false):=fM
@[simp] theorem tY5:prog.underlying 5=some (.int .u8)∧bB prog 5=some false∧dc prog 5=some 1∧eB prog 5=some [.int .u8 0]∧(ey prog 5).bind bo=some (.int .u8 0):=fM
@[simp] theorem tY9:prog.underlying 9=some .string∧bB prog 9=some false∧dc prog 9=some 1∧eB prog 9=some [.str ByteArray.empty]∧(ey prog 9).bind bo=some (.str ByteArray.empty):=fM
@[simp] theorem yai:prog.underlying 22=some (.slice 176)∧bB prog 22=some false∧dc prog 22=some 1∧fS prog 22=some (176,3)∧(prog.info? 176).map (·.bytes)=some 24∧eB prog 22=some [.aF]∧(ey prog 22).bind bo=some (.aF):=fM
@[simp] theorem yaj:bB prog 24=some true∧dc prog 24=some 6∧dL prog 24 0=some (3,0,1)∧dL prog 24 1=some (3,1,1)∧dL prog 24 2=some (3,2,1)∧dL prog 24 3=some (3,3,1)∧dL prog 24 4=some (3,4,1)∧dL prog 24 5=some (22,5,1)∧eB prog 24=some [.int .i64 0,.int .i64 0,.int .i64 0,.int .i64 0,.int .i64 0,.aF]:=fM
@[simp] theorem yak (l:List (Nat×PV)):nB prog 24 l=(gI (([(0,1),(1,1),(2,1),(3,1),(4,1),(5,1)]:List (Nat×Nat))[·]?) [.int .i64 0,.int .i64 0,.int .i64 0,.int .i64 0,.int .i64 0,.aF] l).map .agg:=by rfl
@[simp] theorem yal:(ey prog 24).bind bo=some (.agg [.int .i64 0,.int .i64 0,.int .i64 0,.int .i64 0,.int .i64 0,.aF]):=by rfl
@[simp] theorem ZC:prog.underlying 25=some (.slice 3):=by rfl
@[simp] theorem yam:bB prog 25=some false∧dc prog 25=some 1∧fS prog 25=some (3,1)∧(prog.info? 3).map (·.bytes)=some 8∧eB prog 25=some [.aF]∧(ey prog 25).bind bo=some (.aF):=fM
@[simp] theorem ZF:prog.underlying 26=some (.slice 150):=by rfl
@[simp] theorem yan:bB prog 26=some false∧dc prog 26=some 1∧fS prog 26=some (150,2)∧(prog.info? 150).map (·.bytes)=some 32∧eB prog 26=some [.aF]∧(ey prog 26).bind bo=some (.aF):=fM
@[simp] theorem yao:bB prog 28=some true∧dc prog 28=some 9∧dL prog 28 0=some (24,0,6)∧dL prog 28 1=some (25,6,1)∧dL prog 28 2=some (26,7,1)∧dL prog 28 3=some (25,8,1)∧eB prog 28=some [.int .i64 0,.int .i64 0,.int .i64 0,.int .i64 0,.int .i64 0,.aF,.aF,.aF,.aF]:=fM
@[simp] theorem yap (l:List (Nat×PV)):nB prog 28 l=(gI (([(0,6),(6,1),(7,1),(8,1)]:List (Nat×Nat))[·]?) [.int .i64 0,.int .i64 0,.int .i64 0,.int .i64 0,.int .i64 0,.aF,.aF,.aF,.aF] l).map .agg:=by rfl
@[simp] theorem yaq:(ey prog 28).bind bo=some (.agg [.int .i64 0,.int .i64 0,.int .i64 0,.int .i64 0,.int .i64 0,.aF,.aF,.aF,.aF]):=by rfl
@[simp] theorem yar:prog.underlying 31=some (.slice 48)∧bB prog 31=some false∧dc prog 31=some 1∧fS prog 31=some (48,5)∧(prog.info? 48).map (·.bytes)=some 40∧eB prog 31=some [.aF]∧(ey prog 31).bind bo=some (.aF):=fM
@[simp] theorem yas:prog.underlying 32=some (.slice 25)∧bB prog 32=some false∧dc prog 32=some 1∧fS prog 32=some (25,1)∧(prog.info? 25).map (·.bytes)=some 24∧eB prog 32=some [.aF]∧(ey prog 32).bind bo=some (.aF):=fM
@[simp] theorem yat:bB prog 34=some true∧dc prog 34=some 3∧dL prog 34 0=some (31,0,1)∧dL prog 34 1=some (3,1,1)∧dL prog 34 2=some (32,2,1)∧eB prog 34=some [.aF,.int .i64 0,.aF]:=fM
@[simp] theorem yau (l:List (Nat×PV)):nB prog 34 l=(gI (([(0,1),(1,1),(2,1)]:List (Nat×Nat))[·]?) [.aF,.int .i64 0,.aF] l).map .agg:=by rfl
@[simp] theorem yav:(ey prog 34).bind bo=some (.agg [.aF,.int .i64 0,.aF]):=by rfl
@[simp] theorem yaw:prog.underlying 35=some (.int .i64)∧bB prog 35=some false∧dc prog 35=some 1∧eB prog 35=some [.int .i64 0]∧(ey prog 35).bind bo=some (.int .i64 0):=fM
@[simp] theorem yax:prog.underlying 40=some (.slice 4)∧bB prog 40=some false∧dc prog 40=some 1∧fS prog 40=some (4,1)∧(prog.info? 4).map (·.bytes)=some 1∧eB prog 40=some [.aF]∧(ey prog 40).bind bo=some (.aF):=fM
@[simp] theorem yay:bB prog 44=some true∧dc prog 44=some 2∧dL prog 44 0=some (3,0,1)∧dL prog 44 1=some (3,1,1)∧eB prog 44=some [.int .i64 0,.int .i64 0]:=fM
@[simp] theorem yaz (l:List (Nat×PV)):nB prog 44 l=(gI (([(0,1),(1,1)]:List (Nat×Nat))[·]?) [.int .i64 0,.int .i64 0] l).map .agg:=by rfl
@[simp] theorem yaA:(ey prog 44).bind bo=some (.agg [.int .i64 0,.int .i64 0]):=by rfl
@[simp] theorem yaB:bB prog 48=some true∧dc prog 48=some 5∧dL prog 48 0=some (3,0,1)∧dL prog 48 1=some (3,1,1)∧dL prog 48 2=some (3,2,1)∧dL prog 48 3=some (3,3,1)∧dL prog 48 4=some (3,4,1)∧eB prog 48=some [.int .i64 0,.int .i64 0,.int .i64 0,.int .i64 0,.int .i64 0]:=fM
@[simp] theorem yaC (l:List (Nat×PV)):nB prog 48 l=(gI (([(0,1),(1,1),(2,1),(3,1),(4,1)]:List (Nat×Nat))[·]?) [.int .i64 0,.int .i64 0,.int .i64 0,.int .i64 0,.int .i64 0] l).map .agg:=by rfl
@[simp] theorem yaD:(ey prog 48).bind bo=some (.agg [.int .i64 0,.int .i64 0,.int .i64 0,.int .i64 0,.int .i64 0]):=by rfl
@[simp] theorem SQ:prog.underlying 132=some (.map 137 3)∧bB prog 132=some false∧dc prog 132=some 1∧eB prog 132=some [.dj]∧(ey prog 132).bind bo=some (.dj):=fM
@[simp] theorem SR:bB prog 134=some true∧dc prog 134=some 12:=fM
@[simp] theorem xbr:dL prog 134 0=some (28,0,9):=by decide +kernel
@[simp] theorem xcs:dL prog 134 1=some (132,9,1):=by decide +kernel
@[simp] theorem xb2:dL prog 134 2=some (132,10,1):=by decide +kernel
@[simp] theorem xbl:dL prog 134 3=some (3,11,1):=by decide +kernel
@[simp] theorem SS:eB prog 134=some [.int .i64 0,.int .i64 0,.int .i64 0,.int .i64 0,.int .i64 0,.aF,.aF,.aF,.aF,.dj,.dj,.int .i64 0]:=by rfl
@[simp] theorem SU (l:List (Nat×PV)):nB prog 134 l=(gI (([(0,9),(9,1),(10,1),(11,1)]:List (Nat×Nat))[·]?) [.int .i64 0,.int .i64 0,.int .i64 0,.int .i64 0,.int .i64 0,.aF,.aF,.aF,.aF,.dj,.dj,.int .i64 0] l).map .agg:=by rfl
@[simp] theorem SV:(ey prog 134).bind bo=some (.agg [.int .i64 0,.int .i64 0,.int .i64 0,.int .i64 0,.int .i64 0,.aF,.aF,.aF,.aF,.dj,.dj,.int .i64 0]):=by rfl
@[simp] theorem SX:bB prog 137=some true∧dc prog 137=some 2:=fM
@[simp] theorem xcv:dL prog 137 0=some (3,0,1):=by decide +kernel
@[simp] theorem xcr:dL prog 137 1=some (3,1,1):=by decide +kernel
@[simp] theorem SY:eB prog 137=some [.int .i64 0,.int .i64 0]:=by rfl
@[simp] theorem SZ (l:List (Nat×PV)):nB prog 137 l=(gI (([(0,1),(1,1)]:List (Nat×Nat))[·]?) [.int .i64 0,.int .i64 0] l).map .agg:=by rfl
@[simp] theorem S0:(ey prog 137).bind bo=some (.agg [.int .i64 0,.int .i64 0]):=by rfl
@[simp] theorem S1:bB prog 143=some true∧dc prog 143=some 11:=fM
@[simp] theorem xa6:dL prog 143 0=some (137,0,2):=by decide +kernel
@[simp] theorem xcn:dL prog 143 1=some (137,2,2):=by decide +kernel
@[simp] theorem xbk:dL prog 143 2=some (48,4,5):=by decide +kernel
@[simp] theorem xb3:dL prog 143 3=some (3,9,1):=by decide +kernel
@[simp] theorem xco:dL prog 143 4=some (4,10,1):=by decide +kernel
@[simp] theorem S2:eB prog 143=some [.int .i64 0,.int .i64 0,.int .i64 0,.int .i64 0,.int .i64 0,.int .i64 0,.int .i64 0,.int .i64 0,.int .i64 0,.int .i64 0,.bool false]:=by rfl
@[simp] theorem S3 (l:List (Nat×PV)):nB prog 143 l=(gI (([(0,2),(2,2),(4,5),(9,1),(10,1)]:List (Nat×Nat))[·]?) [.int .i64 0,.int .i64 0,.int .i64 0,.int .i64 0,.int .i64 0,.int .i64 0,.int .i64 0,.int .i64 0,.int .i64 0,.int .i64 0,.bool false] l).map .agg:=by rfl
@[simp] theorem S4:(ey prog 143).bind bo=some (.agg [.int .i64 0,.int .i64 0,.int .i64 0,.int .i64 0,.int .i64 0,.int .i64 0,.int .i64 0,.int .i64 0,.int .i64 0,.int .i64 0,.bool false]):=by rfl
@[simp] theorem S5:bB prog 144=some false∧dc prog 144=some 1∧eB prog 144=some [.nilFunc]∧(ey prog 144).bind bo=some (.nilFunc):=fM
@[simp] theorem S6:bB prog 146=some false∧dc prog 146=some 1∧eB prog 146=some [.nilFunc]∧(ey prog 146).bind bo=some (.nilFunc):=fM
@[simp] theorem S7:bB prog 150=some true∧dc prog 150=some 2:=fM
@[simp] theorem xbv:dL prog 150 0=some (3,0,1):=by decide +kernel
@[simp] theorem xbc:dL prog 150 1=some (25,1,1):=by decide +kernel
@[simp] theorem S8:eB prog 150=some [.int .i64 0,.aF]:=by rfl
@[simp] theorem S9 (l:List (Nat×PV)):nB prog 150 l=(gI (([(0,1),(1,1)]:List (Nat×Nat))[·]?) [.int .i64 0,.aF] l).map .agg:=by rfl
@[simp] theorem Ta:(ey prog 150).bind bo=some (.agg [.int .i64 0,.aF]):=by rfl
@[simp] theorem Tb:bB prog 154=some false∧dc prog 154=some 1∧eB prog 154=some [.nilFunc]∧(ey prog 154).bind bo=some (.nilFunc):=fM
@[simp] theorem Tc:prog.underlying 155=some (.slice 160)∧bB prog 155=some false∧dc prog 155=some 1∧fS prog 155=some (160,11)∧(prog.info? 160).map (·.bytes)=some 88∧eB prog 155=some [.aF]∧(ey prog 155).bind bo=some (.aF):=fM
@[simp] theorem Td:bB prog 158=some true∧dc prog 158=some 2:=fM
@[simp] theorem xcu:dL prog 158 0=some (3,0,1):=by decide +kernel
@[simp] theorem xb6:dL prog 158 1=some (3,1,1):=by decide +kernel
@[simp] theorem Te:eB prog 158=some [.int .i64 0,.int .i64 0]:=by rfl
@[simp] theorem Tf (l:List (Nat×PV)):nB prog 158 l=(gI (([(0,1),(1,1)]:List (Nat×Nat))[·]?) [.int .i64 0,.int .i64 0] l).map .agg:=by rfl
@[simp] theorem Tg:(ey prog 158).bind bo=some (.agg [.int .i64 0,.int .i64 0]):=by rfl
@[simp] theorem Th:bB prog 160=some true∧dc prog 160=some 11:=fM
@[simp] theorem xc0:dL prog 160 0=some (158,0,2):=by decide +kernel
@[simp] theorem xb0:dL prog 160 1=some (158,2,2):=by decide +kernel
@[simp] theorem xda:dL prog 160 2=some (3,4,1):=by decide +kernel
@[simp] theorem xbf:dL prog 160 3=some (4,5,1):=by decide +kernel
@[simp] theorem xbw:dL prog 160 4=some (48,6,5):=by decide +kernel
@[simp] theorem Ti:eB prog 160=some [.int .i64 0,.int .i64 0,.int .i64 0,.int .i64 0,.int .i64 0,.bool false,.int .i64 0,.int .i64 0,.int .i64 0,.int .i64 0,.int .i64 0]:=by rfl
@[simp] theorem Tj (l:List (Nat×PV)):nB prog 160 l=(gI (([(0,2),(2,2),(4,1),(5,1),(6,5)]:List (Nat×Nat))[·]?) [.int .i64 0,.int .i64 0,.int .i64 0,.int .i64 0,.int .i64 0,.bool false,.int .i64 0,.int .i64 0,.int .i64 0,.int .i64 0,.int .i64 0] l).map .agg:=by rfl
@[simp] theorem Tk:(ey prog 160).bind bo=some (.agg [.int .i64 0,.int .i64 0,.int .i64 0,.int .i64 0,.int .i64 0,.bool false,.int .i64 0,.int .i64 0,.int .i64 0,.int .i64 0,.int .i64 0]):=by rfl
@[simp] theorem Tl:bB prog 176=some true∧dc prog 176=some 3:=fM
@[simp] theorem xb9:dL prog 176 0=some (3,0,1):=by decide +kernel
@[simp] theorem xbz:dL prog 176 1=some (3,1,1):=by decide +kernel
@[simp] theorem xbh:dL prog 176 2=some (3,2,1):=by decide +kernel
@[simp] theorem Tm:eB prog 176=some [.int .i64 0,.int .i64 0,.int .i64 0]:=by rfl
@[simp] theorem Tn (l:List (Nat×PV)):nB prog 176 l=(gI (([(0,1),(1,1),(2,1)]:List (Nat×Nat))[·]?) [.int .i64 0,.int .i64 0,.int .i64 0] l).map .agg:=by rfl
@[simp] theorem To:(ey prog 176).bind bo=some (.agg [.int .i64 0,.int .i64 0,.int .i64 0]):=by rfl
@[simp] theorem Tp:gY prog 177=some (5,174,1):=by decide +kernel
@[simp] theorem Tq:bB prog 187=some false∧dc prog 187=some 1∧eB prog 187=some [.nilFunc]∧(ey prog 187).bind bo=some (.nilFunc):=fM
@[simp] theorem Ts:bB prog 189=some false∧dc prog 189=some 1∧eB prog 189=some [.nilFunc]∧(ey prog 189).bind bo=some (.nilFunc):=fM
@[simp] theorem Tt:prog.underlying 190=some (.map 48 4)∧bB prog 190=some false∧dc prog 190=some 1∧eB prog 190=some [.dj]∧(ey prog 190).bind bo=some (.dj):=fM
@[simp] theorem Tu:bB prog 192=some false∧dc prog 192=some 1∧eB prog 192=some [.nilFunc]∧(ey prog 192).bind bo=some (.nilFunc):=fM
@[simp] theorem Tv:gY prog 197=some (2,3,1):=by decide +kernel
@[simp] theorem Tw:gY prog 198=some (2,3,1):=by decide +kernel
@[simp] theorem Tx:bB prog 202=some true∧dc prog 202=some 5:=fM
@[simp] theorem xc4:dL prog 202 0=some (158,0,2):=by decide +kernel
@[simp] theorem xbp:dL prog 202 1=some (3,2,1):=by decide +kernel
@[simp] theorem xbm:dL prog 202 2=some (25,3,1):=by decide +kernel
@[simp] theorem xc8:dL prog 202 3=some (4,4,1):=by decide +kernel
@[simp] theorem Ty:eB prog 202=some [.int .i64 0,.int .i64 0,.int .i64 0,.aF,.bool false]:=by rfl
@[simp] theorem Tz (l:List (Nat×PV)):nB prog 202 l=(gI (([(0,2),(2,1),(3,1),(4,1)]:List (Nat×Nat))[·]?) [.int .i64 0,.int .i64 0,.int .i64 0,.aF,.bool false] l).map .agg:=by rfl
@[simp] theorem TA:(ey prog 202).bind bo=some (.agg [.int .i64 0,.int .i64 0,.int .i64 0,.aF,.bool false]):=by rfl
@[simp] theorem TB:bB prog 205=some true∧dc prog 205=some 3:=fM
@[simp] theorem xb8:dL prog 205 0=some (25,0,1):=by decide +kernel
@[simp] theorem xbs:dL prog 205 1=some (3,1,1):=by decide +kernel
@[simp] theorem xby:dL prog 205 2=some (4,2,1):=by decide +kernel
@[simp] theorem TC:eB prog 205=some [.aF,.int .i64 0,.bool false]:=by rfl
@[simp] theorem TD (l:List (Nat×PV)):nB prog 205 l=(gI (([(0,1),(1,1),(2,1)]:List (Nat×Nat))[·]?) [.aF,.int .i64 0,.bool false] l).map .agg:=by rfl
@[simp] theorem TE:(ey prog 205).bind bo=some (.agg [.aF,.int .i64 0,.bool false]):=by rfl
@[simp] theorem TF:prog.underlying 210=some (.slice 9)∧bB prog 210=some false∧dc prog 210=some 1∧fS prog 210=some (9,1)∧(prog.info? 9).map (·.bytes)=some 16∧eB prog 210=some [.aF]∧(ey prog 210).bind bo=some (.aF):=fM
@[simp] theorem TG:bB prog 211=some false∧dc prog 211=some 1∧eB prog 211=some [.nilFunc]∧(ey prog 211).bind bo=some (.nilFunc):=fM
@[simp] theorem TH:prog.underlying 228=some (.int .u64)∧bB prog 228=some false∧dc prog 228=some 1∧eB prog 228=some [.int .u64 0]∧(ey prog 228).bind bo=some (.int .u64 0):=fM
@[simp] theorem TI:prog.underlying 234=some (.array 5 3)∧bB prog 234=some true∧dc prog 234=some 5:=fM
@[simp] theorem TJ:gY prog 234=some (5,3,1):=by decide +kernel
@[simp] theorem TK:eB prog 234=some [.int .i64 0,.int .i64 0,.int .i64 0,.int .i64 0,.int .i64 0]:=by rfl
@[simp] theorem TL (l:List (Nat×PV)):nB prog 234 l=(gI (fun i=>some (i*1,1)) [.int .i64 0,.int .i64 0,.int .i64 0,.int .i64 0,.int .i64 0] l).map .agg:=by rfl
@[simp] theorem TM:(ey prog 234).bind bo=some (.agg [.int .i64 0,.int .i64 0,.int .i64 0,.int .i64 0,.int .i64 0]):=by rfl
@[simp] theorem TN:gY prog 235=some (7,9,1):=by decide +kernel
@[simp] theorem TO:prog.underlying 237=some (.pointer 240)∧bB prog 237=some false∧dc prog 237=some 1∧eB prog 237=some [.eJ]∧(ey prog 237).bind bo=some (.eJ):=fM
@[simp] theorem TP:prog.underlying 238=some (.slice 5)∧bB prog 238=some false∧dc prog 238=some 1∧fS prog 238=some (5,1)∧(prog.info? 5).map (·.bytes)=some 1∧eB prog 238=some [.aF]∧(ey prog 238).bind bo=some (.aF):=fM
@[simp] theorem TQ:bB prog 240=some true∧dc prog 240=some 2:=fM
@[simp] theorem xc3:dL prog 240 0=some (237,0,1):=by decide +kernel
@[simp] theorem xcw:dL prog 240 1=some (238,1,1):=by decide +kernel
@[simp] theorem TR:eB prog 240=some [.eJ,.aF]:=by rfl
@[simp] theorem TS (l:List (Nat×PV)):nB prog 240 l=(gI (([(0,1),(1,1)]:List (Nat×Nat))[·]?) [.eJ,.aF] l).map .agg:=by rfl
@[simp] theorem TT:(ey prog 240).bind bo=some (.agg [.eJ,.aF]):=by rfl
@[simp] theorem TU:gY prog 272=some (24,5,1):=by decide +kernel
@[simp] theorem TV:gY prog 278=some (20,258,1):=by decide +kernel
@[simp] theorem TW:gY prog 279=some (65,5,1):=by decide +kernel
@[simp] theorem TX:gY prog 280=some (32,5,1):=by decide +kernel
@[simp] theorem TY:gY prog 281=some (64,5,1):=by decide +kernel
structure jI where
  f:Int
  t:Int
  c:Int
deriving DecidableEq
structure mc where
  at_:Int
  ws:List Int
deriving DecidableEq
structure aq where
  om:Int
  le:Int
  tw:Int
  gl:Int
  ad:Int
  mx:List jI
  t:List Int
  g:List mc
  c:List Int
deriving DecidableEq
structure ai where
  k:Int
  a:Int
  i:Int
  l:Int
  w:Int
deriving DecidableEq
def eV (n:Int):Bool:=decide (1≤n)&&decide (n≤9999)
def jQ (n:Int):Bool:=decide (1≤n)&&decide (n≤100)
def mw (pre:List jI)(x:jI):Bool:=eV x.f&&eV x.t&&!decide (x.f=x.t)&&jQ x.c&&!(pre.any fun y=>decide (y.f=x.f)&&decide (y.t=x.t))
def me:List jI→List jI→Bool
 |_,[]=>true
 |pre,x::r=>mw pre x&&me (pre++[x]) r
def pM (c:aq):Int:=
 if jQ c.om&&jQ c.le&&jQ c.tw&&jQ c.gl&&jQ c.ad then (if 20<c.mx.length then 2 else if me [] c.mx then 0 else 1) else 1
def j6 (n:Nat)(x:mc):Bool:=(decide (0≤x.at_)&&decide (x.at_≤(n:Int)))&&(decide (1≤x.ws.length)&&decide (x.ws.length≤6))&&x.ws.all eV
def bP (c:aq):Int:=
 if pM c≠0 then pM c
 else if 48<c.t.length∨48<c.c.length∨6<c.g.length then 2
 else if c.t.all eV&&c.c.all eV&&c.g.all (j6 c.t.length) then 0 else 1
def ec:List jI→Int→Int→Option Int
 |[],_,_=>none
 |x::r,f,t=>if x.f=f∧x.t=t then some x.c else ec r f t
def aR (c:aq)(s:ai):Option (Int×Nat×List Int):=
 if 0≤s.a∧s.a≤(c.t.length:Int)∧0≤s.i then
  let a:=s.a.toNat
  if s.k=1 then (if a<c.t.length∧s.l=0 then (ec c.mx (c.t.getD a 0) s.w).map fun n=>(n,a+1,[s.w]) else none)
  else if s.k=2 then (if a<c.t.length∧s.l=0∧s.w=0 then some (c.om,a+1,[]) else none)
  else if s.k=3 then (if 1≤a∧1≤s.l∧s.l≤(c.t.length:Int) - s.a∧s.w=0∧c.t.getD (a+s.l.toNat - 1) 0=c.t.getD (a - 1) 0 then some (c.le,a+s.l.toNat,[]) else none)
  else if s.k=4 then (if 1≤s.l∧s.l≤s.a∧s.w=0 then some (c.tw,a,(c.t.drop (a - s.l.toNat)).take s.l.toNat) else none)
  else if s.k=5 then (if 0≤s.l∧s.l≤(c.g.length:Int) - 1∧s.w=0∧(c.g.getD s.l.toNat ⟨0,[]⟩).at_=s.a then some (c.gl,a,(c.g.getD s.l.toNat ⟨0,[]⟩).ws) else none)
  else if s.k=6 then (if eV s.w∧s.l=0 then some (c.ad,a,[s.w]) else none)
  else none
 else none
def hasB (c:aq)(j:Nat)(l:List Int):Bool:=decide (j+l.length≤c.c.length)&&decide ((c.c.drop j).take l.length=l)
structure aO where
  i:Nat
  j:Nat
  i':Nat
  j':Nat
  n:Int
  s:Option ai
deriving DecidableEq
def kS (c:aq)(i j:Nat):List ai:=
 (if j<c.c.length then [⟨1,i,j,0,c.c.getD j 0⟩] else [])++[⟨2,i,j,0,0⟩]++
 ((List.range (c.t.length - i)).map fun n:Nat=>⟨3,i,j,(n+1:Nat),0⟩)++((List.range i).map fun n:Nat=>⟨4,i,j,(n+1:Nat),0⟩)++
 ((List.range c.g.length).map fun n:Nat=>⟨5,i,j,n,0⟩)++(if j<c.c.length then [⟨6,i,j,0,c.c.getD j 0⟩] else [])
def stepOf (c:aq)(i j:Nat)(s:ai):Option aO:=match aR c s with
 |some (n,i',w)=>if hasB c j w then some ⟨i,j,i',j+w.length,n,some s⟩ else none
 |none=>none
def steps (c:aq)(i j:Nat):List aO:=
 (if i<c.t.length∧j<c.c.length∧c.t.getD i 0=c.c.getD j 0 then [⟨i,j,i+1,j+1,0,none⟩] else [])++(kS c i j).filterMap (stepOf c i j)
def places (c:aq):List (Nat×Nat):=(List.range (c.t.length+1)).flatMap fun i=>(List.range (c.c.length+1)).map fun j=>(i,j)
def graph (c:aq):List aO:=(places c).flatMap fun p=>steps c p.1 p.2
abbrev lH:=Nat→Nat→Option Int
def jO (D:lH)(i j:Nat)(v:Option Int):lH:=fun a b=>if a=i∧b=j then v else D a b
def pr:Option Int→Option Int→Option Int
 |none,y=>y
 |x,none=>x
 |some a,some b=>some (min a b)
def mm (D:lH)(x:aO):lH:=jO D x.i' x.j' (pr (D x.i' x.j') ((D x.i x.j).map (·+x.n)))
def start:lH:=fun a b=>if a=0∧b=0 then some 0 else none
def yW (D:lH)(l:List aO):lH:=l.foldl mm D
def mC (l:List aO):lH:=yW start l
def s8 (i j i' j':Nat):Prop:=i<i'∨(i=i'∧j<j')
theorem s8.irrefl {i j:Nat}:¬s8 i j i j:=fun h=>by rcases h with h|⟨_,h⟩<;>omega
structure Cz (l:List aO):Prop where
  on:∀x∈l,s8 x.i x.j x.i' x.j'
  up:l.Pairwise fun x y=>¬s8 y.i y.j x.i x.j
theorem Cz.tail {x:aO}{l:List aO}(h:Cz (x::l)):Cz l:=⟨fun y hy=>h.on y (List.mem_cons_of_mem _ hy),(List.pairwise_cons.1 h.up).2⟩
def Le (o:Option Int)(v:Int):Prop:=∃u,o=some u∧u≤v
theorem Le.mono {o:Option Int}{v w:Int}(h:Le o v)(hv:v≤w):Le o w:=by obtain⟨u,h1,h2⟩:=h;exact⟨u,h1,by omega⟩
theorem zyp {o p:Option Int}{v:Int}(h:o=some v):Le (pr o p) v:=by
 subst h
 cases p with
 |none=>exact⟨v,rfl,Int.le_refl _⟩
 |some w=>exact⟨min v w,rfl,by omega⟩
theorem zu3 {o p:Option Int}{v:Int}(h:p=some v):Le (pr o p) v:=by
 subst h
 cases o with
 |none=>exact⟨v,rfl,Int.le_refl _⟩
 |some w=>exact⟨min w v,rfl,by omega⟩
theorem TZ {o p:Option Int}{v:Int}(h:pr o p=some v):o=some v∨p=some v:=by
 cases o with
 |none=>exact .inr h
 |some a=>
  cases p with
  |none=>exact .inl h
  |some b=>
   have h:min a b=v:=by injection h
   rcases Int.le_total a b with jF|jF
   ·exact .inl (by rw[← h];congr 1;omega)
   exact .inr (by rw[← h];congr 1;omega)
theorem z1u {D:lH}{x:aO}{a b:Nat}{v:Int}(h:D a b=some v):Le (mm D x a b) v:=by
 unfold mm jO
 split
 ·rename_i jF
  obtain⟨rfl,rfl⟩:=jF
  exact zyp h
 exact⟨v,h,Int.le_refl _⟩
theorem Nw:∀ {l:List aO} {D:lH} {a b:Nat} {v:Int},Le (D a b) v→Le (yW D l a b) v
 |[],D,a,b,v,h=>h
 |x::l,D,a,b,v,h=>by
  obtain⟨u,h1,h2⟩:=h
  exact Nw (l:=l) (D:=mm D x) ((z1u h1).mono h2)
theorem zvc {D:lH}{x:aO}{a b:Nat}(h:¬(a=x.i'∧b=x.j')):mm D x a b=D a b:=by
 unfold mm jO;rw[if_neg h]
theorem T0:∀ {l:List aO} {D:lH} {a b:Nat},(∀x∈l,¬(a=x.i'∧b=x.j'))→yW D l a b=D a b
 |[],D,a,b,_=>rfl
 |x::l,D,a,b,h=>by
  have:=T0 (l:=l) (D:=mm D x) (a:=a) (b:=b) fun y hy=>h y (List.mem_cons_of_mem _ hy)
  show yW (mm D x) l a b=D a b
  rw[this,zvc (h x List.mem_cons_self)]
theorem T1:∀ {l:List aO} {D:lH},Cz l→∀x∈l,∀v,yW D l x.i x.j=some v→Le (yW D l x.i' x.j') (v+x.n)
 |[],_,_,x,hx,_,_=>by cases hx
 |y::l,D,hs,x,hx,v,hv=>by
  rcases List.mem_cons.1 hx with rfl|hx
  ·have fU:∀z∈x::l,¬(x.i=z.i'∧x.j=z.j'):=fun z hz he=>by
    have h1:=hs.on z hz
    rcases List.mem_cons.1 hz with rfl|hz
    ·rw[he.1,he.2] at h1
     rw[← he.1,← he.2] at h1
     rcases h1 with h1|⟨_,h1⟩<;>omega
    have h2:=(List.pairwise_cons.1 hs.up).1 z hz
    exact h2 (by rw[he.1,he.2];exact h1)
   rw[T0 fU] at hv
   refine Nw (l:=l) (D:=mm D x) ?_
   unfold mm jO
   rw[if_pos ⟨rfl,rfl⟩,hv]
   exact zu3 rfl
  exact T1 hs.tail x hx v hv
inductive Way (L:List aO):Nat→Nat→Nat→Nat→Int→List aO→Prop where
  |nil (i j:Nat):Way L i j i j 0 []
  |cons (x:aO) (hx:x∈L) {a b:Nat} {n:Int} {l:List aO} (h:Way L x.i' x.j' a b n l):Way L x.i x.j a b (x.n+n) (x::l)
theorem Way.snoc {L:List aO}{i j a b:Nat}{n:Int}{l:List aO}(h:Way L i j a b n l):∀ {x:aO},x∈L→x.i=a→x.j=b→Way L i j x.i' x.j' (n+x.n) (l++[x]):=by
 induction h with
 |nil i j=>
  rintro x hx rfl rfl
  have:=Way.cons x hx (.nil x.i' x.j')
  rw[show (0:Int)+x.n=x.n+0 by omega]
  exact this
 |cons y hy h ih=>
  intro x hx h1 h2
  have:=Way.cons y hy (ih hx h1 h2)
  rw[Int.add_assoc]
  exact this
theorem Way.append {L:List aO}{i j a b:Nat}{n:Int}{l:List aO}(h:Way L i j a b n l):∀ {c d:Nat} {m:Int} {l':List aO},Way L a b c d m l'→Way L i j c d (n+m) (l++l'):=by
 induction h with
 |nil i j=>intro c d m l' h';rw[Int.zero_add];exact h'
 |cons y hy h ih=>
  intro c d m l' h'
  have:=Way.cons y hy (ih h')
  rw[Int.add_assoc]
  exact this
theorem T2 {L:List aO}:∀ {l:List aO} {D:lH},(∀x∈l,x∈L)→(∀a b v,D a b=some v→∃w,Way L 0 0 a b v w)→∀a b v,yW D l a b=some v→∃w,Way L 0 0 a b v w
 |[],D,_,hD,a,b,v,h=>hD a b v h
 |x::l,D,hl,hD,a,b,v,h=>by
  refine T2 (l:=l) (D:=mm D x) (fun y hy=>hl y (List.mem_cons_of_mem _ hy)) (fun a b v hv=>?_) a b v h
  unfold mm jO at hv
  split at hv
  ·rename_i jF
   obtain⟨rfl,rfl⟩:=jF
   rcases TZ hv with h1|h1
   ·exact hD _ _ _ h1
   cases h2:D x.i x.j with
   |none=>rw[h2] at h1;cases h1
   |some u=>
    rw[h2] at h1
    have h1:u+x.n=v:=by injection h1
    obtain⟨w,hw⟩:=hD _ _ _ h2
    exact⟨w++[x],h1▸hw.snoc (hl x List.mem_cons_self) rfl rfl⟩
  exact hD a b v hv
theorem YK {L:List aO}{a b:Nat}{v:Int}(h:mC L a b=some v):∃w,Way L 0 0 a b v w:=
 T2 (fun x hx=>hx) (fun a b v hv=>by
  unfold start at hv
  split at hv
  ·rename_i jF
   obtain⟨rfl,rfl⟩:=jF
   injection hv with hv
   subst hv
   exact⟨[],.nil 0 0⟩
  cases hv) a b v h
theorem zwc (L:List aO):Le (mC L 0 0) 0:=Nw ⟨0,by simp[start],Int.le_refl _⟩
theorem zzo {L:List aO}(hs:Cz L){i j a b:Nat}{n:Int}{w:List aO}(h:Way L i j a b n w):∀ {v:Int},Le (mC L i j) v→Le (mC L a b) (v+n):=by
 induction h with
 |nil i j=>intro v hv;rw[Int.add_zero];exact hv
 |cons x hx h ih=>
  intro v hv
  obtain⟨u,h1,h2⟩:=hv
  have:=ih (T1 hs x hx u h1)
  exact this.mono (by omega)
theorem QM {L:List aO}(hs:Cz L){a b:Nat}{n:Int}{w:List aO}(h:Way L 0 0 a b n w):Le (mC L a b) n:=by
 have:=zzo hs h (zwc L)
 rwa [Int.zero_add] at this
structure Rt (c:aq):Prop where
  om:1≤c.om∧c.om≤100
  le:1≤c.le∧c.le≤100
  tw:1≤c.tw∧c.tw≤100
  gl:1≤c.gl∧c.gl≤100
  ad:1≤c.ad∧c.ad≤100
  KV:c.mx.length≤20
  RD:∀x∈c.mx,(1≤x.c∧x.c≤100)∧x.f≠x.t∧eV x.t=true
  mxn:∀x∈c.mx,∀y∈c.mx,x.f=y.f→x.t=y.t→x=y
  tl:c.t.length≤48
  cl:c.c.length≤48
  vn:c.g.length≤6
  tok:∀w∈c.t,eV w=true
  YI:∀w∈c.c,eV w=true
  Ic:∀x∈c.g,(0≤x.at_∧x.at_≤(c.t.length:Int))∧1≤x.ws.length∧x.ws.length≤6∧∀w∈x.ws,eV w=true
theorem Nx:∀ {r pre:List jI},me pre r=true→(∀x∈r,(1≤x.c∧x.c≤100)∧x.f≠x.t∧eV x.t=true)∧(∀x∈r,∀y∈pre,¬(y.f=x.f∧y.t=x.t))∧r.Pairwise fun x y=>¬(x.f=y.f∧x.t=y.t)
 |[],pre,_=>⟨fun x hx=>(by cases hx),fun x hx=>(by cases hx),List.Pairwise.nil⟩
 |a::r,pre,h=>by
  unfold me at h
  rw[bR] at h
  obtain⟨h1,h2⟩:=h
  obtain⟨i1,i2,i3⟩:=Nx h2
  unfold mw jQ at h1
  simp only[bR,decide_eq_true_eq,Bool.not_eq_true',decide_eq_false_iff_not,List.any_eq_false] at h1
  obtain⟨⟨⟨⟨e1,e2⟩,e3⟩,e4⟩,e5⟩:=h1
  refine⟨fun x hx=>?_,fun x hx y hy=>?_,List.pairwise_cons.2 ⟨fun y hy hh=>?_,i3⟩⟩
  ·rcases List.mem_cons.1 hx with rfl|hx
   ·exact⟨e4,e3,e2⟩
   exact i1 x hx
  ·rcases List.mem_cons.1 hx with rfl|hx
   ·have:=e5 y hy
    simpa using this
   exact i2 x hx y (List.mem_append_left _ hy)
  exact i2 y hy a (List.mem_append_right _ (List.mem_singleton.2 rfl)) hh
theorem j7 {c:aq}(h:bP c=0):Rt c:=by
 unfold bP at h
 by_cases h0:pM c=0
 ·rw[if_neg (by simp[h0])] at h
  unfold pM at h0
  split at h0
  ·rename_i hc
   split at h0
   ·cases h0
   rename_i hl
   split at h0
   ·rename_i hm
    split at h
    ·cases h
    rename_i js
    split at h
    ·rename_i hw
     simp only[bR,List.all_eq_true] at hw
     obtain⟨⟨w1,w2⟩,w3⟩:=hw
     unfold jQ at hc
     simp only[bR,decide_eq_true_eq] at hc
     obtain⟨⟨⟨⟨c1,c2⟩,c3⟩,c4⟩,c5⟩:=hc
     obtain⟨m1,_,m3⟩:=Nx hm
     refine⟨c1,c2,c3,c4,c5,by omega,m1,fun x hx y hy e1 e2=>?_,by omega,by omega,by omega,w1,w2,fun x hx=>?_⟩
     ·obtain⟨i,hi,rfl⟩:=List.mem_iff_getElem.1 hx
      obtain⟨j,hj,rfl⟩:=List.mem_iff_getElem.1 hy
      rcases Nat.lt_trichotomy i j with eT|eT|eT
      ·exact absurd ⟨e1,e2⟩ ((List.pairwise_iff_getElem.1 m3) i j hi hj eT)
      ·subst eT;rfl
      exact absurd ⟨e1.symm,e2.symm⟩ ((List.pairwise_iff_getElem.1 m3) j i hj hi eT)
     have:=w3 x hx
     unfold j6 at this
     simp only[bR,decide_eq_true_eq,List.all_eq_true] at this
     exact⟨this.1.1,this.1.2.1,this.1.2.2,this.2⟩
    cases h
   cases h0
  cases h0
 rw[if_pos h0] at h;exact absurd h h0
theorem Mj:∀ {l:List jI} {f t n:Int},ec l f t=some n→∃x∈l,x.f=f∧x.t=t∧x.c=n
 |[],_,_,_,h=>by cases h
 |a::r,f,t,n,h=>by
  unfold ec at h
  split at h
  ·rename_i hh;injection h with h;exact⟨a,List.mem_cons_self,hh.1,hh.2,h⟩
  obtain⟨x,hx,h1⟩:=Mj h;exact⟨x,List.mem_cons_of_mem _ hx,h1⟩
theorem QK {α:Type}{l:List α}{i:Nat}{d:α}(h:i<l.length):l.getD i d∈l:=by
 rw[List.getD_eq_getElem?_getD,List.getElem?_eq_getElem h];exact List.getElem_mem h
theorem mf {c:aq}(hr:Rt c){s:ai}{n:Int}{i':Nat}{w:List Int}(h:aR c s=some (n,i',w)) :
  (1≤n∧n≤100)∧(0≤s.a∧s.a≤(c.t.length:Int)∧0≤s.i)∧s.a.toNat≤i'∧i'≤c.t.length∧(s.a.toNat<i'∨1≤w.length)∧w.length≤48:=by
 unfold aR at h
 split at h
 ·rename_i di
  obtain⟨h1,h2,h3⟩:=di
  simp only at h
  split at h
  ·split at h
   ·rename_i hk hc
    obtain⟨m,hm,he⟩:=Option.map_eq_some_iff.1 h
    injection he with e1 e2;injection e2 with e2 e3
    obtain⟨x,hx,_,_,hxc⟩:=Mj hm
    have:=(hr.RD x hx).1
    subst e1;subst e2;subst e3
    refine⟨by omega,⟨h1,h2,h3⟩,by omega,by omega,.inl (by omega),by simp⟩
   cases h
  split at h
  ·split at h
   ·rename_i hc
    injection h with h;injection h with e1 e2;injection e2 with e2 e3
    subst e1;subst e2;subst e3
    exact⟨hr.om,⟨h1,h2,h3⟩,by omega,by omega,.inl (by omega),by simp⟩
   cases h
  split at h
  ·split at h
   ·rename_i hc
    injection h with h;injection h with e1 e2;injection e2 with e2 e3
    subst e1;subst e2;subst e3
    exact⟨hr.le,⟨h1,h2,h3⟩,by omega,by omega,.inl (by omega),by simp⟩
   cases h
  split at h
  ·split at h
   ·rename_i hc
    injection h with h;injection h with e1 e2;injection e2 with e2 e3
    subst e1;subst e2;subst e3
    have:=hr.tl
    refine⟨hr.tw,⟨h1,h2,h3⟩,by omega,by omega,.inr ?_,?_⟩
    ·rw[List.length_take,List.length_drop];omega
    rw[List.length_take];omega
   cases h
  split at h
  ·split at h
   ·rename_i hc
    injection h with h;injection h with e1 e2;injection e2 with e2 e3
    subst e1;subst e2;subst e3
    have hm:=hr.Ic _ (QK (l:=c.g) (i:=s.l.toNat) (d:=⟨0,[]⟩) (by omega))
    exact⟨hr.gl,⟨h1,h2,h3⟩,by omega,by omega,.inr hm.2.1,by omega⟩
   cases h
  split at h
  ·split at h
   ·injection h with h;injection h with e1 e2;injection e2 with e2 e3
    subst e1;subst e2;subst e3
    exact⟨hr.ad,⟨h1,h2,h3⟩,by omega,by omega,.inr (by simp),by simp⟩
   cases h
  cases h
 cases h
theorem DH {c:aq}{i j:Nat}{s:ai}(h:s∈kS c i j):s.a=i∧s.i=j:=by
 unfold kS at h
 simp only[List.mem_append,List.mem_map,List.mem_range] at h
 rcases h with ((((h|h)|⟨n,_,rfl⟩)|⟨n,_,rfl⟩)|⟨n,_,rfl⟩)|h
 ·split at h
  ·rw[List.mem_singleton] at h;subst h;exact⟨rfl,rfl⟩
  cases h
 ·rw[List.mem_singleton] at h;subst h;exact⟨rfl,rfl⟩
 ·exact⟨rfl,rfl⟩
 ·exact⟨rfl,rfl⟩
 ·exact⟨rfl,rfl⟩
 split at h
 ·rw[List.mem_singleton] at h;subst h;exact⟨rfl,rfl⟩
 cases h
structure I1 (c:aq) (i j:Nat) (x:aO):Prop where
  fi:x.i=i
  fj:x.j=j
  uh:i≤x.i'
  ui:j≤x.j'
  on:i<x.i'∨j<x.j'
  n0:0≤x.n
  n1:x.n≤100
  it:x.i'≤c.t.length
  jt:x.j'≤c.c.length
theorem I1.ltp {c:aq}{i j:Nat}{x:aO}(h:I1 c i j x):s8 x.i x.j x.i' x.j':=by
 have h1:=h.uh;have h2:=h.ui;have h3:=h.on
 rw[h.fi,h.fj]
 unfold s8
 omega
theorem jh {c:aq}(hr:Rt c){i j:Nat}{x:aO}(h:x∈steps c i j):I1 c i j x:=by
 unfold steps at h
 rcases List.mem_append.1 h with h|h
 ·split at h
  ·rename_i hc
   rw[List.mem_singleton] at h
   subst h
   exact⟨rfl,rfl,by simp,by simp,by simp,by simp,by simp,by simp;omega,by simp;omega⟩
  cases h
 obtain⟨s,hs,he⟩:=List.mem_filterMap.1 h
 obtain⟨ha,hi⟩:=DH hs
 unfold stepOf at he
 split at he
 ·rename_i n i' w hd
  split at he
  ·rename_i hb
   injection he with he
   subst he
   obtain⟨d1,d2,d3,d4,d5,d6⟩:=mf hr hd
   unfold hasB at hb
   rw[bR,decide_eq_true_eq] at hb
   rw[ha,Int.toNat_natCast] at d3 d5
   exact⟨rfl,rfl,d3,by simp,by simp only;omega,by simp only;omega,by simp only;omega,d4,hb.1⟩
  cases he
 cases he
theorem Iw (c:aq):(places c).Pairwise fun p q=>s8 p.1 p.2 q.1 q.2:=by
 unfold places
 rw[List.pairwise_flatMap]
 refine⟨fun i _=>?_,?_⟩
 ·rw[List.pairwise_map]
  exact(List.pairwise_lt_range).imp fun h=>.inr ⟨rfl,h⟩
 refine(List.pairwise_lt_range).imp fun {i i'} h p hp q hq=>?_
 obtain⟨a,_,rfl⟩:=List.mem_map.1 hp
 obtain⟨b,_,rfl⟩:=List.mem_map.1 hq
 exact .inl h
theorem FW {c:aq}{x:aO}:x∈graph c↔∃i j,i≤c.t.length∧j≤c.c.length∧x∈steps c i j:=by
 unfold graph places
 simp only[List.mem_flatMap,List.mem_map,List.mem_range]
 constructor
 ·rintro⟨p,⟨i,hi,j,hj,rfl⟩,hx⟩;exact⟨i,j,by omega,by omega,hx⟩
 rintro⟨i,j,hi,hj,hx⟩;exact⟨(i,j),⟨i,by omega,j,by omega,rfl⟩,hx⟩
theorem QN {c:aq}(hr:Rt c):Cz (graph c):=by
 refine⟨fun x hx=>?_,?_⟩
 ·obtain⟨i,j,_,_,h⟩:=FW.1 hx
  exact(jh hr h).ltp
 unfold graph
 rw[List.pairwise_flatMap]
 refine⟨fun p _=>?_,(Iw c).imp fun {p q} h x hx y hy=>?_⟩
 ·refine List.pairwise_of_forall_mem_list fun x hx y hy=>?_
  have h1:=jh hr hx
  have h2:=jh hr hy
  rw[h1.fi,h1.fj,h2.fi,h2.fj]
  exact s8.irrefl
 have h1:=jh hr hx
 have h2:=jh hr hy
 rw[h1.fi,h1.fj,h2.fi,h2.fj]
 unfold s8 at h ⊢
 omega
def nF (l:List jI)(f t:Int):Option Int:=l.foldl (fun o x=>if x.f=f∧x.t=t then some x.c else o) none
theorem zv3 (l:List jI)(x:jI)(f t:Int):nF (l++[x]) f t=if x.f=f∧x.t=t then some x.c else nF l f t:=by
 unfold nF;rw[List.foldl_append];rfl
theorem Xz {l:List jI}{k:Nat}(h:k<l.length)(f t:Int):nF (l.take (k+1)) f t=if l[k].f=f∧l[k].t=t then some l[k].c else nF (l.take k) f t:=by
 rw[List.take_succ_eq_append_getElem h,zv3]
theorem PW {l:List jI}{f t:Int}(h:∀x∈l,¬(x.f=f∧x.t=t)):ec l f t=none:=by
 induction l with
 |nil=>rfl
 |cons a r ih=>
  unfold ec
  rw[if_neg (h a List.mem_cons_self)]
  exact ih fun x hx=>h x (List.mem_cons_of_mem _ hx)
theorem KT:∀ {l:List jI} {f t:Int} (o:Option Int),(l.Pairwise fun x y=>¬(x.f=y.f∧x.t=y.t))→l.foldl (fun o x=>if x.f=f∧x.t=t then some x.c else o) o=(ec l f t).or o
 |[],f,t,o,_=>by simp[ec]
 |a::r,f,t,o,h=>by
  rw[List.pairwise_cons] at h
  rw[List.foldl_cons,KT _ h.2]
  by_cases ha:a.f=f∧a.t=t
  ·have hn:ec r f t=none:=PW fun x hx hh=>h.1 x hx ⟨ha.1.trans hh.1.symm,ha.2.trans hh.2.symm⟩
   rw[hn,if_pos ha]
   unfold ec
   rw[if_pos ha];rfl
  rw[if_neg ha]
  conv=>rhs;unfold ec
  rw[if_neg ha]
theorem PU {c:aq}(h:bP c=0):c.mx.Pairwise fun x y=>¬(x.f=y.f∧x.t=y.t):=by
 have hm:me [] c.mx=true:=by
  cases hm:me [] c.mx with
  |true=>rfl
  |false=>
   exfalso
   have:pM c≠0:=by
    unfold pM
    rw[hm]
    split
    ·split
     ·decide
     simp
    decide
   unfold bP at h
   rw[if_pos this] at h
   exact this h
 exact(Nx hm).2.2
theorem Xx {c:aq}(h:bP c=0)(f t:Int):nF c.mx f t=ec c.mx f t:=by
 unfold nF
 rw[KT none (PU h)];simp
def yY (c:aq):List ai→List Int→Nat→Int→Option (List Int×Int)
 |[],out,i,sum=>some (out++c.t.drop i,sum)
 |s::r,out,i,sum=>
  if (i:Int)≤s.a∧s.a≤(c.t.length:Int) then
   match aR c s with
   |some (n,i',w)=>if s.i=((out++(c.t.drop i).take (s.a.toNat - i)).length:Int) then yY c r (out++(c.t.drop i).take (s.a.toNat - i)++w) i' (sum+n) else none
   |none=>none
  else none
def iy (c:aq)(l:List ai):Option (List Int×Int):=yY c l [] 0 0
def eO (c:aq)(l:List ai):Option Int:=if 100<l.length then none else match iy c l with
 |some (o,n)=>if o=c.c then some n else none
 |none=>none
def val (tu:Int)(o:lH)(a b:Nat):Int:=(o a b).getD tu
def bu (D:Nat→Nat→Int)(i j:Nat)(v:Int):Nat→Nat→Int:=fun a b=>if a=i∧b=j then v else D a b
def nb (o:lH)(k:Nat):Prop:=∀a b v,o a b=some v→0≤v∧v≤100*(k:Int)
theorem nb.start:nb start 0:=fun a b v h=>by
 unfold Sl.start at h
 split at h
 ·injection h with h;subst h;omega
 cases h
theorem nb.mm {o:lH}{k:Nat}(h:nb o k){x:aO}(h0:0≤x.n)(h1:x.n≤100):nb (mm o x) (k+1):=fun a b v hv=>by
 unfold Sl.mm jO at hv
 split at hv
 ·rename_i jF
  rcases TZ hv with h2|h2
  ·have:=h _ _ _ h2;omega
  cases h3:o x.i x.j with
  |none=>rw[h3] at h2;cases h2
  |some u=>
   rw[h3] at h2
   have h2:u+x.n=v:=by injection h2
   have:=h _ _ _ h3
   omega
 have:=h _ _ _ hv;omega
theorem nb.foldl:∀ {l:List aO} {o:lH} {k:Nat},nb o k→(∀x∈l,0≤x.n∧x.n≤100)→nb (yW o l) (k+l.length)
 |[],o,k,h,_=>h
 |x::l,o,k,h,hx=>by
  have h1:=hx x List.mem_cons_self
  have:=nb.foldl (l:=l) (h.mm h1.1 h1.2) fun y hy=>hx y (List.mem_cons_of_mem _ hy)
  rw[List.length_cons,show k+(l.length+1)=k+1+l.length by omega]
  exact this
theorem nb.mono {o:lH}{k m:Nat}(h:nb o k)(hm:k≤m):nb o m:=fun a b v hv=>by have:=h a b v hv;omega
theorem QO {tu:Int}{o:lH}{a b:Nat}{v:Int}(h:o a b=some v):val tu o a b=v:=by unfold val;rw[h];rfl
theorem YB {tu:Int}{o:lH}{k:Nat}(h:nb o k)(hf:100*(k:Int)+100≤tu){x:aO}(h0:0≤x.n)(h1:x.n≤100):val tu (mm o x)=bu (val tu o) x.i' x.j' (min (val tu o x.i' x.j') (val tu o x.i x.j+x.n)):=by
 funext a b
 unfold val mm jO bu
 split
 ·cases h2:o x.i' x.j' with
  |none=>
   cases h3:o x.i x.j with
   |none=>simp[pr];omega
   |some v=>have:=h _ _ _ h3;simp[pr];omega
  |some u=>
   have hu:=h _ _ _ h2
   cases h3:o x.i x.j with
   |none=>simp[pr];omega
   |some v=>simp[pr]
 rfl
theorem YC {tu:Int}{o:lH}{x:aO}{k:Nat}(h:nb o k)(hf:100*(k:Int)<tu)(hp:¬val tu o x.i x.j<tu):mm o x=o:=by
 have hn:o x.i x.j=none:=by
  cases h3:o x.i x.j with
  |none=>rfl
  |some v=>exfalso;rw[QO h3] at hp;have:=h _ _ _ h3;omega
 funext a b
 unfold mm jO
 split
 ·rename_i jF
  obtain⟨rfl,rfl⟩:=jF
  rw[hn]
  cases o x.i' x.j'<;>rfl
 rfl
theorem zw2 (c:aq)(i j:Nat)(hi:i≤c.t.length):(kS c i j).length≤c.t.length+c.g.length+3:=by
 unfold kS
 simp only[List.length_append,List.length_map,List.length_range,List.length_singleton]
 split<;>simp<;>omega
theorem IV (c:aq)(i j:Nat)(hi:i≤c.t.length):(steps c i j).length≤c.t.length+c.g.length+4:=by
 unfold steps
 rw[List.length_append]
 have h1:=List.length_filterMap_le (stepOf c i j) (kS c i j)
 have h2:=zw2 c i j hi
 split<;>simp<;>omega
theorem T3 {α β:Type}(f:α→List β)(m:Nat):∀(l:List α),(∀x∈l,(f x).length≤m)→(l.flatMap f).length≤l.length*m
 |[],_=>by simp
 |a::r,h=>by
  have ih:=T3 f m r fun x hx=>h x (List.mem_cons_of_mem _ hx)
  have:=h a List.mem_cons_self
  rw[List.flatMap_cons,List.length_append,List.length_cons,Nat.succ_mul]
  omega
theorem zux (c:aq):(places c).length=(c.t.length+1)*(c.c.length+1):=by
 have:∀(n m:Nat),((List.range n).flatMap fun i=>(List.range m).map fun j=>(i,j)).length=n*m:=by
  intro n m
  induction n with
  |zero=>simp
  |succ n ih=>rw[List.range_succ,List.flatMap_append,List.length_append,ih,Nat.succ_mul];simp
 exact this _ _
theorem Iu {c:aq}(hr:Rt c):(graph c).length≤139258:=by
 have h1:=T3 (fun p:Nat×Nat=>steps c p.1 p.2) (c.t.length+c.g.length+4) (places c) fun p hp=>by
  unfold places at hp
  simp only[List.mem_flatMap,List.mem_map,List.mem_range] at hp
  obtain⟨i,hi,j,hj,rfl⟩:=hp
  exact IV c i j (by omega)
 rw[zux] at h1
 have e1:=hr.tl;have e2:=hr.cl;have e3:=hr.vn
 have h2:(c.t.length+1)*(c.c.length+1)≤49*49:=Nat.mul_le_mul (by omega) (by omega)
 have h3:(c.t.length+1)*(c.c.length+1)*(c.t.length+c.g.length+4)≤49*49*58:=Nat.mul_le_mul h2 (by omega)
 exact Nat.le_trans h1 h3
theorem QD {c:aq}(hr:Rt c):∀x∈graph c,0≤x.n∧x.n≤100:=fun x hx=>by
 obtain⟨i,j,_,_,h⟩:=FW.1 hx
 have:=jh hr h
 exact⟨this.n0,this.n1⟩
def lG (m i:Nat):List (Nat×Nat):=(List.range m).map fun j=>(i,j)
def mg (m i j:Nat):List (Nat×Nat):=(List.range i).flatMap (lG m)++lG j i
theorem Ii (m i j:Nat):mg m i (j+1)=mg m i j++[(i,j)]:=by
 unfold mg lG
 rw[List.range_succ,List.map_append,List.append_assoc];rfl
theorem Ij (m i:Nat):mg m i m=mg m (i+1) 0:=by
 unfold mg
 rw[List.range_succ,List.flatMap_append]
 simp[lG]
theorem Ft (c:aq):mg (c.c.length+1) (c.t.length+1) 0=places c:=by
 unfold mg places lG
 simp
theorem Qb {m i j a b:Nat}:(a,b)∈mg m i j↔(a<i∧b<m)∨(a=i∧b<j):=by
 unfold mg lG
 simp only[List.mem_append,List.mem_flatMap,List.mem_map,List.mem_range,bI]
 constructor
 ·rintro (⟨x,hx,y,hy,rfl,rfl⟩|⟨y,hy,rfl,rfl⟩)
  ·exact .inl ⟨hx,hy⟩
  exact .inr ⟨rfl,hy⟩
 rintro (⟨h1,h2⟩|⟨rfl,h2⟩)
 ·exact .inl ⟨a,h1,b,h2,rfl,rfl⟩
 exact .inr ⟨b,h2,rfl,rfl⟩
theorem xu {c:aq}{a b:Nat}:(a,b)∈places c↔a≤c.t.length∧b≤c.c.length:=by
 rw[← Ft,Qb];omega
def rZ (c:aq)(p:aO→Bool)(i j:Nat):List aO:=((mg (c.c.length+1) i j).flatMap fun q=>steps c q.1 q.2).filter p
theorem Yg (c:aq)(p:aO→Bool)(i j:Nat):rZ c p i (j+1)=rZ c p i j++(steps c i j).filter p:=by
 unfold rZ;rw[Ii,List.flatMap_append,List.filter_append];simp
theorem Yh (c:aq)(p:aO→Bool)(i:Nat):rZ c p i (c.c.length+1)=rZ c p (i+1) 0:=by
 unfold rZ;rw[Ij]
theorem Yi (c:aq)(p:aO→Bool):rZ c p (c.t.length+1) 0=(graph c).filter p:=by
 unfold rZ graph;rw[Ft]
open Go Go.Am
mutual
theorem KS (vh:ah):∀ {v:PV},v.aB=true→bz vh v=some v
 |.func f xs ys,h=>by
  simp only[PV.aB,bR] at h
  simp only[bz,vz vh h.1,vz vh h.2]
 |.agg cs,h=>by simp only[PV.aB] at h;simp only[bz,vz vh h,Option.map_some]
 |.bp cs,h=>by simp only[PV.aB] at h;simp only[bz,vz vh h,Option.map_some]
 |.iface t v,h=>by simp only[PV.aB] at h;simp only[bz,h,aJ]
 |.ptr ..,h=>by simp[PV.aB] at h
 |.own ..,h=>by simp[PV.aB] at h
 |.sub ..,h=>by simp[PV.aB] at h
 |.grow ..,h=>by simp[PV.aB] at h
 |.aY ..,h=>by simp[PV.aB] at h
 |.bN ..,h=>by simp[PV.aB] at h
 |.bool _,_=>by simp only[bz]
 |.int _ _,_=>by simp only[bz]
 |.str _,_=>by simp only[bz]
 |.nilFunc,_=>by simp only[bz]
 |.nilIface,_=>by simp only[bz]
 |.eJ,_=>by simp only[bz]
 |.aF,_=>by simp only[bz]
 |.dj,_=>by simp only[bz]
 |.e0,_=>by simp only[bz]
 |.vec _,_=>by simp only[bz]
 |.vp _,_=>by simp only[bz]
 |.az _,_=>by simp only[bz]
theorem vz (vh:ah):∀ {l:List PV},PV.aG l=true→b9 vh l=some l
 |[],_=>by simp only[b9]
 |v::r,h=>by
  simp only[PV.aG,bR] at h
  simp only[b9,KS vh h.1,vz vh h.2]
end
@[simp] theorem z2k (l:List Int):List.take l.length (l.map (PV.int .i64))=l.map (PV.int .i64):=List.take_of_length_le (by rw[List.length_map];exact Nat.le_refl _)
@[simp] theorem z2l (l:List Int):l.all (PV.one∘PV.int .i64)=true:=by simp[PV.one]
def et (r v:PV):Prop:=Alt ah.empty 0 (fun _=>true) id r v
variable [bE] in
theorem aM.soft {P:Program}{f:FuncId}{args:List PV}{v:PV}(hp:aM P f args fun r=>et r v)(hv:v.aB=true):aM P f args fun r=>r=v:=hp.alt fun r h=>⟨v,h,hv,rfl⟩
theorem q7 {v:PV}(h:v.aB=true):et v v:=.same v h
theorem BT {l l2:List PV}(h:aA ah.empty 0 (fun _=>true) id l l2):et (.bp l) (.bp l2):=.CA h
variable [bE] in
theorem aM.XJ {P:Program}{f:FuncId}{l r:List PV}{R:PV→Prop}(hp:aM P f (l++.vec []::r) R):aM P f (l++.aF::r) R:=fun lo g σ h au ha s=>by
 refine hp lo g σ h au ⟨by have:=ha.1;simpa using this,fun i v v' hv aX=>?_⟩ s
 by_cases hi:i=l.length
 ·subst hi
  have h1:(l++PV.aF::r)[l.length]?=some .aF:=by simp
  have h2:=ha.2 _ _ v' h1 aX
  have h3:v=.vec []:=by simpa using hv.symm
  subst h3
  cases h2 with
  |fr _ _ h=>cases h;exact .fr _ _ .fc
 refine ha.2 i v v' ?_ aX
 rw[← hv]
 rcases Nat.lt_or_ge i l.length with h|h
 ·rw[List.getElem?_append_left h,List.getElem?_append_left h]
 rw[List.getElem?_append_right h,List.getElem?_append_right h]
 obtain⟨j,hj⟩:∃j,i - l.length=j+1:=⟨i - l.length - 1,by omega⟩
 rw[hj];rfl
theorem g48:(prog.stoodInHeld 48||prog.eqGuardType prog.depth 48)=false:=by decide +kernel
theorem n48:(match prog.underlying 48 with|some (.struct fs)=>fs.toList.map (fun f=>(f.name == "_", dc prog f.type,f.type,f.offset))|_=>[])=[(false,some 1,3,0),(false,some 1,3,1),(false,some 1,3,2),(false,some 1,3,3),(false,some 1,3,4)]:=by decide +kernel
theorem jf (a0 a1 a2 a3 a4 b0 b1 b2 b3 b4:Int):dx prog 48 (.agg #[.int .i64 a0,.int .i64 a1,.int .i64 a2,.int .i64 a3,.int .i64 a4]) (.agg #[.int .i64 b0,.int .i64 b1,.int .i64 b2,.int .i64 b3,.int .i64 b4])=some (a0==b0&&a1==b1&&a2==b2&&a3==b3&&a4==b4):=by
 have hn:=n48
 have hg:=g48
 unfold dx
 simp only
 cases hu:prog.underlying 48 with
 |none=>rw[hu] at hn;simp at hn
 |some td=>
  cases td with
  |struct fs=>
   rw[hu] at hn
   simp only at hn ⊢
   rw[hg]
   simp only[bl]
   generalize fs.toList=l at hn
   rcases l with _|⟨f1,_|⟨f2,_|⟨f3,_|⟨f4,_|⟨f5,_|⟨f6,r⟩⟩⟩⟩⟩⟩
   ·simp at hn
   ·simp at hn
   ·simp at hn
   ·simp at hn
   ·simp at hn
   ·simp only[List.map_cons,List.map_nil,List.cons.injEq,bI,and_true] at hn
    obtain⟨⟨Gx,Gy,Gz,GA⟩,⟨GB,GC,GD,GF⟩,⟨k2a,k2b,k2c,k2d⟩,⟨k3a,k3b,k3c,k3d⟩,⟨k4a,k4b,k4c,k4d⟩⟩:=hn
    simp only[tJ,Gx,Gy,Gz,GA,GB,GC,GD,GF,k2a,k2b,k2c,k2d,k3a,k3b,k3c,k3d,k4a,k4b,k4c,k4d,bl]
    have ha:bB prog 3=some false:=by decide +kernel
    have Bx:prog.underlying 3=some (.int .i64):=by rfl
    simp[apart,ha,AY,Bx]
    cases a0==b0<;>cases a1==b1<;>cases a2==b2<;>cases a3==b3<;>cases a4==b4<;>rfl
   simp at hn
  |_=>rw[hu] at hn;simp at hn
theorem Ny:(prog.stoodInHeld 137||prog.eqGuardType prog.depth 137)=false:=by decide +kernel
theorem n137:(match prog.underlying 137 with|some (.struct fs)=>fs.toList.map (fun f=>(f.name == "_", dc prog f.type,f.type,f.offset))|_=>[])=[(false,some 1,3,0),(false,some 1,3,1)]:=by decide +kernel
theorem ua (a0 a1 b0 b1:Int):dx prog 137 (.agg #[.int .i64 a0,.int .i64 a1]) (.agg #[.int .i64 b0,.int .i64 b1])=some (a0==b0&&a1==b1):=by
 have hn:=n137
 have hg:=Ny
 unfold dx
 simp only
 cases hu:prog.underlying 137 with
 |none=>rw[hu] at hn;simp at hn
 |some td=>
  cases td with
  |struct fs=>
   rw[hu] at hn
   simp only at hn ⊢
   rw[hg]
   simp only[bl]
   generalize fs.toList=l at hn
   rcases l with _|⟨f1,_|⟨f2,_|⟨f3,r⟩⟩⟩
   ·simp at hn
   ·simp at hn
   ·simp only[List.map_cons,List.map_nil,List.cons.injEq,bI,and_true] at hn
    obtain⟨⟨Gx,Gy,Gz,GA⟩,⟨GB,GC,GD,GF⟩⟩:=hn
    simp only[tJ,Gx,Gy,Gz,GA,GB,GC,GD,GF,bl]
    have ha:bB prog 3=some false:=by decide +kernel
    have Bx:prog.underlying 3=some (.int .i64):=by rfl
    simp[apart,ha,AY,Bx]
    cases a0==b0<;>cases a1==b1<;>rfl
   simp at hn
  |_=>rw[hu] at hn;simp at hn
end Go.Am.Sl
end
section
namespace Go.Am
noncomputable def mG:Code→List (Array Tmp×Code×Code)
 |.seq a b=>mG a++mG b
 |.cond _ a b=>mG a++mG b
 |.block _ c=>mG c
 |.loop c=>mG c
 |.rangeFunc _ ps a b=>(ps,a,b)::(mG a++mG b)
 |.scope b=>mG b
 |_=>[]
noncomputable def vw (fn:Func)(k:Nat)(ab:aW)(j:Option Code):aI:=match fn.body with
 |some c=>match (mG c)[k]? with
  |some (ps,a,b)=>.loop fn.ntmps ps a b ab j
  |none=>.box []
 |none=>.box []
theorem kf.vw {vh:ah}{n2:Nat}{D:Nat→Bool}{ρ:Nat→Nat}{fn:Func}{k:Nat}{ab ay:aW}{x:Option Code}(h:mH ab vh n2 D ρ ay):kf vh n2 D ρ (vw fn k ab x) (vw fn k ay x):=by
 unfold Go.Am.vw
 split
 ·split
  ·exact pY.mk rfl rfl rfl rfl rfl h
  exact aA.nil
 exact aA.nil
variable [bE] in
theorem kx.s5 {P:Program}{N b:Nat}{o:Oper}{next:aW→ah→Prop}{ab ay:aW}{vh aQ:ah}(a:Rec b ab vh ay aQ)(hc:kx P N b o next ay aQ):kx P N b o next ab vh:=by
 obtain⟨D,ρ,a⟩:=a
 exact bO.zu2 D ρ a hc
end Go.Am
end
section
namespace Go.Am.Sl
def lJ (c:aq)(s:ai):Bool:=match aR c s with
 |some (_,_,w)=>hasB c s.i.toNat w
 |none=>false
def nc (c:aq)(i j:Nat):List ai:=(kS c i j).filter (lJ c)
def ai.lt (a b:ai):Prop:=a.a<b.a∨(a.a=b.a∧(a.i<b.i∨(a.i=b.i∧(a.k<b.k∨(a.k=b.k∧(a.l<b.l∨(a.l=b.l∧a.w<b.w)))))))
instance (a b:ai):Decidable (a.lt b):=by unfold ai.lt;infer_instance
theorem ai.yV (a:ai):¬a.lt a:=by unfold ai.lt;omega
theorem ai.lt_trans {a b c:ai}(h:a.lt b)(g:b.lt c):a.lt c:=by unfold ai.lt at *;omega
theorem ai.ext' {a b:ai}(h1:a.k=b.k)(h2:a.a=b.a)(h3:a.i=b.i)(h4:a.l=b.l)(h5:a.w=b.w):a=b:=by
 cases a;cases b;simp_all
theorem ai.Qz (a b:ai):a.lt b∨a=b∨b.lt a:=by
 by_cases h:a=b
 ·exact .inr (.inl h)
 have:¬(a.k=b.k∧a.a=b.a∧a.i=b.i∧a.l=b.l∧a.w=b.w):=fun⟨h1,h2,h3,h4,h5⟩=>h (ai.ext' h1 h2 h3 h4 h5)
 unfold ai.lt
 omega
def ee (l:List ai)(s:ai):List ai:=match l with
 |[]=>[s]
 |a::r=>if a.lt s then a::ee r s else if a=s then a::r else s::a::r
theorem IQ {s x:ai}:∀ {l:List ai},x∈ee l s↔x∈l∨x=s
 |[]=>by simp[ee]
 |a::r=>by
  unfold ee
  split
  ·rw[List.mem_cons,IQ,List.mem_cons,or_assoc]
  split
  ·rename_i h;subst h
   constructor
   ·exact .inl
   rintro (h|rfl)
   ·exact h
   exact List.mem_cons_self
  rw[List.mem_cons]
  constructor
  ·rintro (h|h)
   ·exact .inr h
   exact .inl h
  rintro (h|h)
  ·exact .inr h
  exact .inl h
theorem T4 {s:ai}:∀ {l:List ai},l.Pairwise ai.lt→(ee l s).Pairwise ai.lt
 |[],_=>by simp[ee]
 |a::r,h=>by
  rw[List.pairwise_cons] at h
  unfold ee
  split
  ·rename_i ha
   rw[List.pairwise_cons]
   refine⟨fun x hx=>?_,T4 h.2⟩
   rcases IQ.1 hx with h1|rfl
   ·exact h.1 x h1
   exact ha
  split
  ·exact List.pairwise_cons.2 h
  rename_i h1 h2
  have h3:s.lt a:=by
   rcases ai.Qz a s with h|h|h
   ·exact absurd h h1
   ·exact absurd h h2
   exact h
  rw[List.pairwise_cons]
  refine⟨fun x hx=>?_,List.pairwise_cons.2 h⟩
  rcases List.mem_cons.1 hx with rfl|hx
  ·exact h3
  exact ai.lt_trans h3 (h.1 x hx)
theorem T5:∀ {l m:List ai},l.Pairwise ai.lt→m.Pairwise ai.lt→(∀x,x∈l↔x∈m)→l=m
 |[],[],_,_,_=>rfl
 |[],b::m,_,_,h=>by have:=(h b).2 List.mem_cons_self;cases this
 |a::l,[],_,_,h=>by have:=(h a).1 List.mem_cons_self;cases this
 |a::l,b::m,hl,hm,h=>by
  rw[List.pairwise_cons] at hl hm
  have jF:a=b:=by
   rcases List.mem_cons.1 ((h a).1 List.mem_cons_self) with h1|h1
   ·exact h1
   rcases List.mem_cons.1 ((h b).2 List.mem_cons_self) with h2|h2
   ·exact h2.symm
   exact absurd (ai.lt_trans (hm.1 a h1) (hl.1 b h2)) (ai.yV b)
  subst jF
  congr 1
  refine T5 hl.2 hm.2 fun x=>?_
  constructor
  ·intro hx
   rcases List.mem_cons.1 ((h x).1 (List.mem_cons_of_mem _ hx)) with rfl|h1
   ·exact absurd (hl.1 _ hx) (ai.yV _)
   exact h1
  intro hx
  rcases List.mem_cons.1 ((h x).2 (List.mem_cons_of_mem _ hx)) with rfl|h1
  ·exact absurd (hm.1 _ hx) (ai.yV _)
  exact h1
def lO (c:aq)(i j:Nat):List ai:=
 (if j<c.c.length then [⟨1,i,j,0,c.c.getD j 0⟩,⟨6,i,j,0,c.c.getD j 0⟩] else [])++[⟨2,i,j,0,0⟩]++((List.range (c.t.length+1)).flatMap fun (k:Nat)=>[⟨3,i,j,k,0⟩,⟨4,i,j,k,0⟩])++((List.range c.g.length).map fun (k:Nat)=>⟨5,i,j,k,0⟩)
def IS (c:aq)(i j:Nat):List ai:=((lO c i j).filter (lJ c)).foldl ee []
theorem T6:∀(l a:List ai),a.Pairwise ai.lt→(l.foldl ee a).Pairwise ai.lt∧∀x,x∈l.foldl ee a↔x∈a∨x∈l
 |[],a,h=>⟨h,fun x=>by simp⟩
 |s::r,a,h=>by
  obtain⟨h1,h2⟩:=T6 r (ee a s) (T4 h)
  refine⟨h1,fun x=>?_⟩
  rw[List.foldl_cons,h2,IQ,List.mem_cons,or_assoc]
theorem Nz {n:Nat}{f:Nat→ai}(h:∀a b,a<b→(f a).lt (f b)):((List.range n).map f).Pairwise ai.lt:=by
 rw[List.pairwise_map]
 exact List.pairwise_lt_range.imp fun h1=>h _ _ h1
theorem QV (c:aq)(i j:Nat):(kS c i j).Pairwise ai.lt:=by
 have Ch:((List.range (c.t.length - i)).map fun (k:Nat)=>(⟨3,i,j,k+1,0⟩:ai)).Pairwise ai.lt:=Nz fun a b h=>by unfold ai.lt;simp;omega
 have hr4:((List.range i).map fun (k:Nat)=>(⟨4,i,j,k+1,0⟩:ai)).Pairwise ai.lt:=Nz fun a b h=>by unfold ai.lt;simp;omega
 have hr5:((List.range c.g.length).map fun (k:Nat)=>(⟨5,i,j,k,0⟩:ai)).Pairwise ai.lt:=Nz fun a b h=>by unfold ai.lt;simp;omega
 have jo:∀ {k k':Int} {a b c d:Int},k<k'→(⟨k,i,j,a,b⟩:ai).lt ⟨k',i,j,c,d⟩:=fun h=>by unfold ai.lt;simp;omega
 unfold kS
 generalize hA:(if j<c.c.length then [(⟨1,i,j,0,c.c.getD j 0⟩:ai)] else [])=A
 generalize hB:(if j<c.c.length then [(⟨6,i,j,0,c.c.getD j 0⟩:ai)] else [])=B
 have GU:∀x∈A,x=⟨1,i,j,0,c.c.getD j 0⟩:=fun x hx=>by
  rw[← hA] at hx;split at hx
  ·simpa using hx
  cases hx
 have GV:∀x∈B,x=⟨6,i,j,0,c.c.getD j 0⟩:=fun x hx=>by
  rw[← hB] at hx;split at hx
  ·simpa using hx
  cases hx
 have hAp:A.Pairwise ai.lt:=by rw[← hA];split<;>simp
 have hBp:B.Pairwise ai.lt:=by rw[← hB];split<;>simp
 simp only[List.pairwise_append,List.mem_append,List.mem_map,List.mem_range,List.mem_singleton]
 refine⟨⟨⟨⟨⟨hAp,by simp,?_⟩,Ch,?_⟩,hr4,?_⟩,hr5,?_⟩,hBp,?_⟩
 ·rintro x hx y rfl
  rw[GU x hx];exact jo (by omega)
 ·rintro x (hx|rfl) y ⟨k,_,rfl⟩
  ·rw[GU x hx];exact jo (by omega)
  exact jo (by omega)
 ·rintro x ((hx|rfl)|⟨m,_,rfl⟩) y ⟨k,_,rfl⟩
  ·rw[GU x hx];exact jo (by omega)
  ·exact jo (by omega)
  exact jo (by omega)
 ·rintro x (((hx|rfl)|⟨m,_,rfl⟩)|⟨m,_,rfl⟩) y ⟨k,_,rfl⟩
  ·rw[GU x hx];exact jo (by omega)
  ·exact jo (by omega)
  ·exact jo (by omega)
  exact jo (by omega)
 rintro x ((((hx|rfl)|⟨m,_,rfl⟩)|⟨m,_,rfl⟩)|⟨m,_,rfl⟩) y hy
 ·rw[GU x hx,GV y hy];exact jo (by omega)
 ·rw[GV y hy];exact jo (by omega)
 ·rw[GV y hy];exact jo (by omega)
 ·rw[GV y hy];exact jo (by omega)
 rw[GV y hy];exact jo (by omega)
theorem xcf {c:aq}{i j:Nat}{k:Int}(h:lJ c ⟨3,i,j,k,0⟩=true):1≤k∧k≤(c.t.length:Int) - i:=by
 unfold lJ at h
 cases hd:aR c ⟨3,i,j,k,0⟩ with
 |none=>rw[hd] at h;cases h
 |some x=>
  unfold aR at hd
  simp only[Int.reduceEq,if_false,if_true] at hd
  split at hd
  ·split at hd
   ·rename_i h1;exact⟨h1.2.1,h1.2.2.1⟩
   cases hd
  cases hd
theorem xc1 {c:aq}{i j:Nat}{k:Int}(h:lJ c ⟨4,i,j,k,0⟩=true):1≤k∧k≤i:=by
 unfold lJ at h
 cases hd:aR c ⟨4,i,j,k,0⟩ with
 |none=>rw[hd] at h;cases h
 |some x=>
  unfold aR at hd
  simp only[Int.reduceEq,if_false,if_true] at hd
  split at hd
  ·split at hd
   ·rename_i h1;exact⟨h1.1,h1.2.1⟩
   cases hd
  cases hd
theorem zwp (c:aq)(i j:Nat)(hi:i≤c.t.length):IS c i j=nc c i j:=by
 obtain⟨h1,h2⟩:=T6 ((lO c i j).filter (lJ c)) [] List.Pairwise.nil
 refine T5 h1 ((QV c i j).filter _) fun x=>?_
 rw[show IS c i j=((lO c i j).filter (lJ c)).foldl ee [] from rfl] at *
 rw[h2,nc]
 simp only[List.not_mem_nil,false_or,List.mem_filter]
 refine and_congr_left fun hx=>?_
 unfold lO kS
 have h3:∀k:Nat,x=⟨3,i,j,k,0⟩→∃n:Nat,n<c.t.length - i∧x=⟨3,i,j,(n+1:Nat),0⟩:=fun k e=>by
  subst e
  obtain⟨a,b⟩:=xcf hx
  exact⟨k - 1,by omega,by congr 1;omega⟩
 have h4:∀k:Nat,x=⟨4,i,j,k,0⟩→∃n:Nat,n<i∧x=⟨4,i,j,(n+1:Nat),0⟩:=fun k e=>by
  subst e
  obtain⟨a,b⟩:=xc1 hx
  exact⟨k - 1,by omega,by congr 1;omega⟩
 by_cases hj:j<c.c.length
 ·simp only[hj,if_true,List.mem_append,List.mem_flatMap,List.mem_map,List.mem_range,List.mem_cons,List.not_mem_nil,or_false]
  constructor
  ·rintro ((((h|h)|h)|⟨k,hk,h|h⟩)|⟨k,hk,h⟩)
   ·exact .inl (.inl (.inl (.inl (.inl h))))
   ·exact .inr h
   ·exact .inl (.inl (.inl (.inl (.inr h))))
   ·obtain⟨n,hn,e⟩:=h3 k h
    exact .inl (.inl (.inl (.inr ⟨n,hn,e.symm⟩)))
   ·obtain⟨n,hn,e⟩:=h4 k h
    exact .inl (.inl (.inr ⟨n,hn,e.symm⟩))
   exact .inl (.inr ⟨k,hk,h⟩)
  rintro (((((h|h)|⟨k,hk,h⟩)|⟨k,hk,h⟩)|⟨k,hk,h⟩)|h)
  ·exact .inl (.inl (.inl (.inl h)))
  ·exact .inl (.inl (.inr h))
  ·exact .inl (.inr ⟨k+1,by omega,.inl h.symm⟩)
  ·exact .inl (.inr ⟨k+1,by omega,.inr h.symm⟩)
  ·exact .inr ⟨k,hk,h⟩
  exact .inl (.inl (.inl (.inr h)))
 simp only[hj,if_false,List.mem_append,List.mem_flatMap,List.mem_map,List.mem_range,List.mem_cons,List.not_mem_nil,or_false,false_or]
 constructor
 ·rintro ((h|⟨k,hk,h|h⟩)|⟨k,hk,h⟩)
  ·exact .inl (.inl (.inl h))
  ·obtain⟨n,hn,e⟩:=h3 k h
   exact .inl (.inl (.inr ⟨n,hn,e.symm⟩))
  ·obtain⟨n,hn,e⟩:=h4 k h
   exact .inl (.inr ⟨n,hn,e.symm⟩)
  exact .inr ⟨k,hk,h⟩
 rintro (((h|⟨k,hk,h⟩)|⟨k,hk,h⟩)|⟨k,hk,h⟩)
 ·exact .inl (.inl h)
 ·exact .inl (.inr ⟨k+1,by omega,.inl h.symm⟩)
 ·exact .inl (.inr ⟨k+1,by omega,.inr h.symm⟩)
 exact .inr ⟨k,hk,h⟩
open Go Go.Am
def pl (i j:Nat):PV:=.agg [.int .i64 i,.int .i64 j]
def xN (i j:Nat):List Value:=[.int .i64 i,.int .i64 j]
def a8 (ps:List (Nat×Nat))(D:Nat→Nat→Int):List (PV×PV):=ps.map fun p=>(pl p.1 p.2,.int .i64 (D p.1 p.2))
theorem T7 (a b i j:Nat):gD (xN a b) (xN i j)=some (decide (a=i)&&decide (b=j)):=by
 simp only[xN,gD,decide_true,aJ,Bool.and_true,Int.ofNat_inj]
theorem Sv {l m:List Value}{ds:List PV}{v:PV}{r:List (PV×PV)}{s:Bool}{q:Option PV}(h1:gz ds=some m)(h2:gD l m=some s)(h3:kq l r=some q):kq l ((.agg ds,v)::r)=some (bif s then some v else q):=by
 simp only[kq,h1,h2,h3]
theorem vx (a b:Nat)(D:Nat→Nat→Int):∀ps:List (Nat×Nat),kq (xN a b) (a8 ps D)=some (if (a,b)∈ps then some (.int .i64 (D a b)) else none)
 |[]=>rfl
 |(i,j)::r=>by
  have hc:=Sv (l:=xN a b) (m:=xN i j) (ds:=[.int .i64 i,.int .i64 j]) (v:=.int .i64 (D i j)) rfl (T7 a b i j) (vx a b D r)
  refine Eq.trans hc ?_
  by_cases h1:a=i∧b=j
  ·obtain⟨rfl,rfl⟩:=h1
   simp
  have:(decide (a=i)&&decide (b=j))=false:=by
   rw[Bool.eq_false_iff];intro hh;rw[bR,decide_eq_true_eq,decide_eq_true_eq] at hh;exact h1 hh
  simp only[this,bl]
  have hm:(a,b)∈(i,j)::r↔(a,b)∈r:=by
   rw[List.mem_cons]
   constructor
   ·rintro (h|h)
    ·injection h with e1 e2;exact absurd ⟨e1,e2⟩ h1
    exact h
   exact .inr
  simp only[hm]
theorem z5f (a b i j:Nat):nR (xN a b) (pl i j)=(decide (a=i)&&decide (b=j)):=by
 have h:=T7 a b i j
 unfold xN at h ⊢
 simp only[nR,pl,gz,Option.map_some,h]
theorem Fq {a b:Nat}{D:Nat→Nat→Int}{ps:List (Nat×Nat)}(h:(a,b)∈ps)(v:Int):o7 (xN a b) [.int .i64 a,.int .i64 b] (.int .i64 v) (a8 ps D)=some (a8 ps (bu D a b v)):=by
 unfold o7
 rw[vx,if_pos h]
 simp only[a8,List.map_map]
 refine congrArg some (List.map_congr_left fun p _=>?_)
 simp only[Function.comp,D7,z5f,bu]
 by_cases h1:a=p.1∧b=p.2
 ·obtain⟨rfl,rfl⟩:=h1
  simp[pl]
 have h2:(decide (a=p.1)&&decide (b=p.2))=false:=by
  rw[Bool.eq_false_iff];intro hh;rw[bR,decide_eq_true_eq,decide_eq_true_eq] at hh;exact h1 hh
 rw[h2,bl,if_neg fun hh=>h1 ⟨hh.1.symm,hh.2.symm⟩]
theorem Fu {a b:Nat}{D:Nat→Nat→Int}{ps:List (Nat×Nat)}(h:(a,b)∉ps)(v:Int):o7 (xN a b) [.int .i64 a,.int .i64 b] (.int .i64 v) (a8 ps D)=some (a8 (ps++[(a,b)]) (bu D a b v)):=by
 unfold o7
 rw[vx,if_neg h]
 simp only[a8,List.map_append,List.map_cons,List.map_nil]
 refine congrArg some ?_
 congr 1
 ·refine List.map_congr_left fun p hp=>?_
  have h1:¬(p.1=a∧p.2=b):=fun hh=>h (by rw[← hh.1,← hh.2];exact hp)
  simp only[bu,if_neg h1]
 simp[bu,pl]
def ix (a b:Int):Int:=if a<b then -1 else if b<a then 1 else 0
def s7:List Int→Int
 |[]=>0
 |a::r=>if a=0 then s7 r else a
def mB (a b:ai):Int:=s7 [ix a.a b.a,ix a.i b.i,ix a.k b.k,ix a.l b.l,ix a.w b.w]
theorem Yu {l:List Int}{i:Nat}(h:i<l.length)(hz:∀x∈l.take i,x=0)(hn:l[i]≠0):s7 l=l[i]:=by
 induction l generalizing i with
 |nil=>simp at h
 |cons a r ih=>
  cases i with
  |zero=>simp only[List.getElem_cons_zero] at hn ⊢;unfold s7;rw[if_neg hn]
  |succ i=>
   have ha:a=0:=hz a (by simp)
   simp only[List.getElem_cons_succ] at hn ⊢
   unfold s7
   rw[if_pos ha]
   exact ih (by simpa using h) (fun x hx=>hz x (by simp[hx])) hn
theorem Yv {l:List Int}(hz:∀x∈l,x=0):s7 l=0:=by
 induction l with
 |nil=>rfl
 |cons a r ih=>unfold s7;rw[if_pos (hz a (by simp)),ih fun x hx=>hz x (by simp[hx])]
theorem z3c {a b:Int}:ix a b<0↔a<b:=by unfold ix;split<;>(try split)<;>omega
theorem xar {a b:Int}:ix a b=0↔a=b:=by unfold ix;split<;>(try split)<;>omega
theorem z0f {a:Int}{r:List Int}:s7 (a::r)<0↔a<0∨(a=0∧s7 r<0):=by
 rw[show s7 (a::r)=if a=0 then s7 r else a from rfl]
 split<;>omega
theorem Yx {a b:ai}:mB a b<0↔a.lt b:=by
 unfold mB ai.lt
 simp only[z0f,z3c,xar]
 simp only[s7]
 omega
def kW (a b:ai):Bool:=!decide (b.lt a)
theorem Y6 {l:List ai}(h:l.Pairwise ai.lt):l.mergeSort kW=l:=
 List.mergeSort_of_pairwise (h.imp fun {a b} jF=>by
  unfold kW
  rw[Bool.not_eq_true',decide_eq_false_iff_not]
  exact fun kY=>ai.yV a (ai.lt_trans jF kY))
theorem I2 {a b:ai}:kW a b=true↔¬b.lt a:=by
 unfold kW
 rw[Bool.not_eq_true',decide_eq_false_iff_not]
theorem z7u (a b c:ai)(h:kW a b=true)(g:kW b c=true):kW a c=true:=by
 rw[I2] at *
 unfold ai.lt at *
 omega
theorem z4z (a b:ai):(kW a b||kW b a)=true:=by
 rw[Bool.or_eq_true,I2,I2]
 unfold ai.lt
 omega
theorem xac (l:List ai):(l.mergeSort kW).Pairwise fun a b=>kW a b=true:=List.pairwise_mergeSort z7u z4z l
theorem z3l {l:List ai}{x:ai}:x∈l.mergeSort kW↔x∈l:=List.mem_mergeSort
end Go.Am.Sl
end
section
namespace Go.Am
abbrev bj:=List (Nat×aI)
theorem AH (j:Nat)(L:bj):∀S:bj,bh j (S++L)=match bh j S with|some x=>some x|none=>bh j L
 |[]=>rfl
 |(i,x)::r=>by
  simp only[List.cons_append,bh,beq_eq]
  by_cases h:j=i
  ·simp[h]
  simp[h];exact AH j L r
theorem uf {i:Nat}{x:aI}:∀ {L:bj},bh i L=none→dm i x L=L
 |[],_=>rfl
 |(j,y)::r,h=>by
  simp only[bh,beq_eq] at h
  by_cases eT:i=j
  ·simp[eT] at h
  simp only[eT,decide_false,bl] at h
  simp only[dm,beq_eq,eT,decide_false,bl,uf h]
theorem Ik {i:Nat}:∀ {L:bj},bh i L=none→iF i L=L
 |[],_=>rfl
 |(j,y)::r,h=>by
  simp only[bh,beq_eq] at h
  by_cases eT:i=j
  ·simp[eT] at h
  simp only[eT,decide_false,bl] at h
  simp only[iF,beq_eq,eT,decide_false,bl,Ik h]
theorem NA (i:Nat)(L:bj):∀S:bj,iF i (S++L)=iF i S++iF i L
 |[]=>rfl
 |(j,y)::r=>by
  simp only[List.cons_append,iF,beq_eq]
  by_cases eT:i=j
  ·subst eT;simp;exact NA i L r
  simp[eT];exact NA i L r
def bD (L L':bj):Prop:=∀j y,bh j L=some y→bh j L'=some y
theorem bD.refl (L:bj):bD L L:=fun _ _ h=>h
theorem bD.nil (L:bj):bD [] L:=fun j y h=>by simp[bh] at h
theorem bD.cons {i:Nat}{x:aI}{r L:bj}(h:bh i L=some x)(hr:bD r L):bD ((i,x)::r) L:=fun j y hy=>by
 simp only[bh,beq_eq] at hy
 by_cases hj:j=i
 ·subst hj;simp at hy;subst hy;exact h
 simp[hj] at hy;exact hr j y hy
theorem bD.skip {i:Nat}{x:aI}{L T:bj}(h:bh i L=none)(hr:bD L T):bD L ((i,x)::T):=fun j y hy=>by
 simp only[bh,beq_eq]
 by_cases hj:j=i
 ·subst hj;rw[h] at hy;cases hy
 simp[hj];exact hr j y hy
theorem bD.drop {i:Nat}{L:bj}{vh:ah}(h:bh i L=none)(hr:bD L vh.be):bD L (vh.drop i).be:=fun j y hy=>by
 show (vh.drop i).get j=some y
 rw[ah.KA]
 by_cases hj:j=i
 ·subst hj;rw[h] at hy;cases hy
 simp[hj];exact hr j y hy
def jj (n:Nat)(L L':bj):Prop:=∀j,j<n→bh j L=none→bh j L'=none
theorem jj.refl (n:Nat)(L:bj):jj n L L:=fun _ _ h=>h
theorem jj.mono {n m:Nat}{L L':bj}(h:jj m L L')(hn:n≤m):jj n L L':=fun j hj=>h j (Nat.lt_of_lt_of_le hj hn)
theorem jj.nil (n:Nat)(L:bj):jj n L []:=fun _ _ _=>rfl
theorem jj.fR {n i:Nat}{x y:aI}{L r:bj}(h:bh i L=some y)(hr:jj n L r):jj n L ((i,x)::r):=fun j hj hn=>by
 simp only[bh,beq_eq]
 by_cases gP:j=i
 ·subst gP;rw[h] at hn;cases hn
 simp[gP];exact hr j hj hn
theorem jj.fresh {n i:Nat}{x:aI}{L r:bj}(h:n≤i)(hr:jj n L r):jj n L ((i,x)::r):=fun j hj hn=>by
 simp only[bh,beq_eq]
 by_cases gP:j=i
 ·omega
 simp[gP];exact hr j hj hn
def uC (S L:bj):Prop:=∀j x,bh j S=some x→x.live=true∧bh j L=none
theorem uC.nil (L:bj):uC [] L:=fun j x h=>by simp[bh] at h
theorem uC.cons {i:Nat}{x:aI}{S L:bj}(h1:x.live=true)(h2:bh i L=none)(h:uC S L):uC ((i,x)::S) L:=fun j y hy=>by
 simp only[bh,beq_eq] at hy
 by_cases hj:j=i
 ·subst hj;simp at hy;subst hy;exact⟨h1,h2⟩
 simp[hj] at hy;exact h j y hy
def ir (a b:aW):Prop:=∀t v,bS t a=some v→bS t b=some v
theorem ir.refl (a:aW):ir a a:=fun _ _ h=>h
theorem ir.nil (b:aW):ir [] b:=fun t v h=>by simp[bS] at h
theorem ir.cons {t:Nat}{v:PV}{r b:aW}(h:bS t b=some v)(hr:ir r b):ir ((t,v)::r) b:=fun u w hw=>by
 simp only[bS,beq_eq] at hw
 by_cases hj:u=t
 ·subst hj;simp at hw;subst hw;exact h
 simp[hj] at hw;exact hr u w hw
section
variable {P:Program} {N b:Nat} {Q Q':gV} {ab gO ay:aW} {vh b6 aQ:ah}
def Wk (b:Nat)(ab:aW)(vh:ah)(ay:aW)(aQ:ah):Prop:=∀(N lo:Nat) (g:Fz) (σ:Sg) (h:ae) (ts:aC),VT g σ vh.next ab ts→ts.length=N→VS lo g σ vh h→b≤vh.next→∃g2 dp,dA N b lo g σ vh h ts h g2 dp ay aQ
theorem Rec.wk (a:Rec b ab vh ay aQ):Wk b ab vh ay aQ:=by
 obtain⟨D,ρ,a⟩:=a
 exact fun N lo g σ h ts ht hn s hb=>⟨_,_,a.Ja ht hn s⟩
theorem Wk.trans (a:Wk b ab vh gO b6)(c:Wk b gO b6 ay aQ):Wk b ab vh ay aQ:=fun N lo g σ h ts ht hn s hb=>by
 obtain⟨g1,oT,x⟩:=a N lo g σ h ts ht hn s hb
 obtain⟨g2,dp,y⟩:=c N lo g1 oT h ts x.t x.len x.s x.base
 exact⟨g2,dp,x.trans y⟩
section
variable [bE]
theorem VW.wk {c:Code}(a:Wk b ab vh ay aQ)(hc:VW P N b c Q ay aQ):VW P N b c Q ab vh:=fun lo g σ h ts ht hn s hb=>by
 obtain⟨g2,dp,x⟩:=a N lo g σ h ts ht hn s hb
 exact(hc lo g2 dp h ts x.t x.len x.s x.base).mono fun e ba h' hk=>nS.trans x hk
theorem kx.wk {o:Oper}{next:aW→ah→Prop}(a:Wk b ab vh ay aQ)(hc:kx P N b o next ay aQ):kx P N b o next ab vh:=fun lo g σ h ts ht hn s hb=>by
 obtain⟨g2,dp,x⟩:=a N lo g σ h ts ht hn s hb
 exact(hc lo g2 dp h ts x.t x.len x.s x.base).mono fun ba h' hk=>nS.trans x hk
end
theorem VS.pt {lo:Nat}{g:Fz}{σ:Sg}{h:ae}(s:VS lo g σ vh h)(hs:bD aQ.be vh.be)(hn:vh.next≤aQ.next):VS lo g σ aQ h:=
 ⟨fun j y hy=>⟨Nat.lt_of_lt_of_le (s.obj j y (hs j y hy)).1 hn,(s.obj j y (hs j y hy)).2.mono (Fz.le_refl g) hn (fun _ _=>rfl) (s.obj j y (hs j y hy)).1 fun _=>rfl⟩,fun j k y z hy hz=>s.inj j k y z (hs j y hy) (hs k z hz),fun j y hy=>s.low j y (hs j y hy),s.fz,fun j y hy=>s.iG j y (hs j y hy),s.bA⟩
theorem dA.pt {lo:Nat}{g g2:Fz}{σ dp:Sg}{h h2:ae}{lR:aC}(x:dA N b lo g σ vh h lR h2 g2 dp gO b6)(ht:ir ay gO)(hs:bD aQ.be b6.be)(hn:b6.next≤aQ.next):dA N b lo g σ vh h lR h2 g2 dp ay aQ:=
 ⟨fun t v hv=>(x.t t v (ht t v hv)).mono (Fz.le_refl g2) hn (fun _ _=>rfl),x.len,x.s.pt hs hn,x.le,x.agree,⟨x.f.next,x.f.fe,fun i y hy hl aU=>x.f.own i y (hs i y hy) hl aU⟩,Nat.le_trans x.base hn,x.own⟩
theorem Wk.sub (ht:ir ay ab)(hs:bD aQ.be vh.be)(hn:vh.next≤aQ.next):Wk b ab vh ay aQ:=fun N lo g σ h ts h1 h2 s hb=>⟨g,σ,(dA.refl h1 h2 s hb).pt ht hs hn⟩
section
variable [bE]
theorem VW.post {c:Code}(hc:VW P N b c Q ab vh)(hq:∀e gO b6,Q e gO b6→∃ay aQ,ir ay gO∧bD aQ.be b6.be∧b6.next≤aQ.next∧Q' e ay aQ):VW P N b c Q' ab vh:=fun lo g σ h ts ht hn s hb=>
 (hc lo g σ h ts ht hn s hb).mono fun e ba h' ⟨g2,dp,gO,b6,x,k⟩=>by
  obtain⟨ay,aQ,k1,k2,k3,k4⟩:=hq e gO b6 k
  exact⟨g2,dp,ay,aQ,x.pt k1 k2 k3,k4⟩
theorem cR.post {f:FuncId}{args:List PV}{R R':PV→ah→Prop}(hc:cR P f args vh R)(hq:∀v b6,R v b6→∃aQ,bD aQ.be b6.be∧b6.next≤aQ.next∧R' v aQ):cR P f args vh R':=fun lo g σ h au ha s=>
 (hc lo g σ h au ha s).mono fun r h' ⟨g2,dp,v,b6,h1,h2,h3,h4,h5,h6,h7,h8⟩=>by
  obtain⟨aQ,k2,k3,k4⟩:=hq v b6 h8
  exact⟨g2,dp,v,aQ,h1.mono (Fz.le_refl g2) k3 (fun _ _=>rfl),h2.pt k2 k3,h3,h4,⟨h5.next,h5.fe,fun i y hy hl aU=>h5.own i y (k2 i y hy) hl aU⟩,Nat.le_trans h6 k3,h7,k4⟩
theorem VW.FE {c:Code}{S:Type}(st:S→aW×ah)(I:S→Prop)(m:S→Nat)(s0:S)(h0:I s0)(hr:Wk b ab vh (st s0).1 (st s0).2)
  (round:∀s,I s→VW P N b c (zt (fun aP ak=>∃s',I s'∧m s'<m s∧Wk b aP ak (st s').1 (st s').2) Q) (st s).1 (st s).2):VW P N b (.loop c) Q ab vh:=
 .loop (fun k ab vh=>∃s,I s∧m s=k∧Wk b ab vh (st s).1 (st s).2) (m s0) ⟨s0,h0,rfl,hr⟩ fun k ab vh ⟨s,h1,h2,h3⟩=>by
  subst h2
  refine .wk h3 ((round s h1).mono fun e ab vh hq=>?_)
  cases e with
  |normal=>obtain⟨s',k1,k2,k3⟩:=hq;exact⟨m s',k2,s',k1,rfl,k3⟩
  |exit id=>exact hq
  |goto l=>exact hq
  |ret=>exact hq
  |panic ch=>exact hq
  |outgrown=>exact hq
theorem VW.Qk {x y:Code}{S:Type}(st:S→aW×ah)(I:S→Prop)
  (hx:VW P N b x (zt (fun aP ak=>∃s',I s'∧Wk b aP ak (st s').1 (st s').2) Q) ab vh) (hy:∀s,I s→VW P N b y Q (st s).1 (st s).2):VW P N b (.seq x y) Q ab vh:=
 .seq (hx.mono fun e ab vh hq=>by
  cases e with
  |normal=>obtain⟨s',k1,k2⟩:=hq;exact .wk k2 (hy s' k1)
  |exit id=>exact hq
  |goto l=>exact hq
  |ret=>exact hq
  |panic ch=>exact hq
  |outgrown=>exact hq)
end
theorem VS.T8 {lo:Nat}{g g':Fz}{σ aL:Sg}{h h':ae}{n:Nat}{S L:bj}(s:VS lo g σ ⟨n,S++L⟩ h)(hS:uC S L)(h2:VS lo g' aL b6 h')(h3:g.le g')(h4:∀i,i<n→aL i=σ i)
  (h5:VF σ ⟨n,L⟩ h aL b6 h') (h6:n≤b6.next) (h7:dK g σ ⟨n,L⟩ h g'):VS lo g' aL ⟨b6.next,S++b6.be⟩ h'∧VF σ ⟨n,S++L⟩ h aL ⟨b6.next,S++b6.be⟩ h'∧dK g σ ⟨n,S++L⟩ h g':=by
 have gS:∀j x,bh j S=some x→(⟨n,S++L⟩:ah).get j=some x:=fun j x hj=>by
  show bh j (S++L)=_
  rw[AH,hj]
 have gL:∀j x,bh j L=some x→(⟨n,S++L⟩:ah).get j=some x:=fun j x hj=>by
  show bh j (S++L)=_
  rw[AH]
  cases hs:bh j S with
  |none=>exact hj
  |some y=>rw[(hS j y hs).2] at hj;cases hj
 have g2:∀j,(⟨b6.next,S++b6.be⟩:ah).get j=match bh j S with|some x=>some x|Option.none=>b6.get j:=fun j=>AH j _ S
 have lt:∀j x,bh j S=some x→(σ j).1<h.next∧j<n:=fun j x hj=>⟨(s.obj j x (gS j x hj)).2.lt (hS j x hj).1,(s.obj j x (gS j x hj)).1⟩
 have cC:∀i x,bh i S=some x→∀j y,(⟨n,L⟩:ah).get j=some y→y.live=true→(σ j).1≠(σ i).1:=fun i x hi j y hy fg he=>by
  have:=s.inj j i y x (gL j y hy) (gS i x hi) fg (hS i x hi).1 he
  subst this
  have h1:=(hS j x hi).2
  rw[show bh j L=some y from hy] at h1
  cases h1
 have cA:∀i x,bh i S=some x→h'.get (σ i).1=h.get (σ i).1:=fun i x hi=>h5.fe _ (lt i x hi).1 (cC i x hi)
 have fU:∀i x,bh i S=some x→∀j z,b6.get j=some z→z.live=true→(aL j).1≠(σ i).1:=fun i x hi j z hz bT he=>by
  obtain⟨k,u,k1,k2,k3⟩:=h5.own j z hz bT (by rw[he];exact(lt i x hi).1)
  exact cC i x hi k u k1 k2 (k3.trans he)
 refine⟨⟨fun j z hz=>?_,fun j k z u hz hu bT rq he=>?_,fun j z hz bT=>?_,h2.fz,fun j z hz bT=>?_,h2.bA⟩,⟨h5.next,fun o ho hn=>h5.fe o ho fun j y hy fg=>hn j y (gL j y hy) fg,fun j z hz bT mI=>?_⟩,fun o z hz ho=>?_⟩
 ·rw[g2] at hz
  cases hs:bh j S with
  |some x=>
   rw[hs] at hz;injection hz with hz;subst hz
   exact⟨Nat.lt_of_lt_of_le (lt j x hs).2 h6,(s.obj j x (gS j x hs)).2.mono h3 h6 h4 (lt j x hs).2 fun _=>by rw[cA j x hs]⟩
  |none=>rw[hs] at hz;exact h2.obj j z hz
 ·rw[g2] at hz hu
  cases hs:bh j S with
  |some x=>
   rw[hs] at hz;injection hz with hz;subst hz
   cases ft:bh k S with
   |some y=>
    rw[ft] at hu;injection hu with hu;subst hu
    rw[h4 j (lt j x hs).2,h4 k (lt k y ft).2] at he
    exact s.inj j k x y (gS j x hs) (gS k y ft) bT rq he
   |none=>
    rw[ft] at hu
    exact absurd (he.symm.trans (by rw[h4 j (lt j x hs).2])) (fU j x hs k u hu rq)
  |none=>
   rw[hs] at hz
   cases ft:bh k S with
   |some y=>
    rw[ft] at hu;injection hu with hu;subst hu
    exact absurd (he.trans (by rw[h4 k (lt k y ft).2])) (fU k y ft j z hz bT)
   |none=>rw[ft] at hu;exact h2.inj j k z u hz hu bT rq he
 ·rw[g2] at hz
  cases hs:bh j S with
  |some x=>rw[hs] at hz;injection hz with hz;subst hz;rw[h4 j (lt j x hs).2];exact s.low j x (gS j x hs) bT
  |none=>rw[hs] at hz;exact h2.low j z hz bT
 ·rw[g2] at hz
  cases hs:bh j S with
  |some x=>
   rw[hs] at hz;injection hz with hz;subst hz
   rw[h4 j (lt j x hs).2]
   cases lZ:g' (σ j).1 with
   |none=>rfl
   |some q=>
    rcases h7 _ q lZ (lt j x hs).1 with qY|⟨k,u,k1,k2,k3⟩
    ·rw[s.iG j x (gS j x hs) bT] at qY;cases qY
    exact absurd k3 (cC j x hs k u k1 k2)
  |none=>rw[hs] at hz;exact h2.iG j z hz bT
 ·rw[g2] at hz
  cases hs:bh j S with
  |some x=>rw[hs] at hz;injection hz with hz;subst hz;exact⟨j,x,gS j x hs,bT,by rw[h4 j (lt j x hs).2]⟩
  |none=>
   rw[hs] at hz
   obtain⟨k,u,k1,k2,k3⟩:=h5.own j z hz bT mI
   exact⟨k,u,gL k u k1,k2,k3⟩
 rcases h7 o z hz ho with qY|⟨k,u,k1,k2,k3⟩
 ·exact .inl qY
 exact .inr ⟨k,u,gL k u k1,k2,k3⟩
theorem bD.right {S L:bj}(hS:uC S L):bD L (S++L):=fun j y hy=>by
 rw[AH]
 cases hs:bh j S with
 |none=>exact hy
 |some x=>rw[(hS j x hs).2] at hy;cases hy
section
variable [bE]
theorem cR.Ll {f:FuncId}{args:List PV}{R:PV→ah→Prop}{n:Nat}{S L:bj}(hS:uC S L)(hc:cR P f args ⟨n,L⟩ R):cR P f args ⟨n,S++L⟩ fun v ak=>∃b6,R v b6∧ak=⟨b6.next,S++b6.be⟩:=fun lo g σ h au ha s=>by
 refine(hc lo g σ h au ha (s.pt (bD.right hS) (Nat.le_refl _))).mono fun r h' ⟨g',aL,v,b6,h1,h2,h3,h4,h5,h6,h7,h8⟩=>?_
 obtain⟨k1,k2,k3⟩:=s.T8 hS h2 h3 h4 h5 h6 h7
 exact⟨g',aL,v,⟨b6.next,S++b6.be⟩,h1,k1,h3,h4,k2,h6,k3,b6,h8,rfl⟩
theorem cR.DC {f:FuncId}{args:List PV}{R:PV→ah→Prop}{n:Nat}{L:bj}(hc:(∀j,n≤j→bh j L=none)→cR P f args ⟨n,L⟩ R):cR P f args ⟨n,L⟩ R:=fun lo g σ h au ha s=>
 hc (fun q hq=>by
  cases hz:bh q L with
  |none=>rfl
  |some z=>have h1:=(s.obj q z hz).1;have h2:q<n:=h1;omega) lo g σ h au ha s
theorem VW.DC {c:Code}{n:Nat}{L:bj}(hc:(∀j,n≤j→bh j L=none)→VW P N b c Q ab ⟨n,L⟩):VW P N b c Q ab ⟨n,L⟩:=fun lo g σ h ts ht hn s hb=>
 hc (fun q hq=>by
  cases hz:bh q L with
  |none=>rfl
  |some z=>have h1:=(s.obj q z hz).1;have h2:q<n:=h1;omega) lo g σ h ts ht hn s hb
end
theorem vB {i j:Nat}{x:aI}{r:bj}(h:bh j ((i,x)::r)=none):bh j r=none:=by
 simp only[bh,beq_eq] at h
 by_cases hj:j=i
 ·simp[hj] at h
 simpa[hj] using h
abbrev JM:=Option (Option Nat)
def JM.code:JM→Option Code
 |Option.none=>Option.none
 |some Option.none=>some .ret
 |some (some id)=>some (.exit id)
variable [bE] in
@[simp] theorem JM.zrw (j:JM):(JM.code j).isNone=j.isNone:=by rcases j with _|_|id<;>rfl
def Jmp:Exit→Option JM
 |.normal=>some Option.none
 |.ret=>some (some Option.none)
 |.exit id=>some (some (some id))
 |_=>Option.none
section
variable [bE]
def DB (P:Program)(N0:Nat)(ps:Array Tmp)(cY body:Code)(cX:aW)(n:Nat)(L:bj)(v:PV)(K:JM→Nat→bj→Prop):Prop:=
 VW P N0 n cY (zt (VW P N0 n body fun e _ ak=>∃j L',Jmp e=some j∧bD L' ak.be∧jj n L L'∧K j ak.next L') fun _ _ _=>False) (nD cX (ps.toList.zip [v])) ⟨n,L⟩
def Iq (P:Program)(f:FuncId)(args:List PV)(n:Nat)(L:bj)(K:PV→Nat→bj→Prop):Prop:=cR P f args ⟨n,L⟩ fun v ak=>∃L',bD L' ak.be∧n≤ak.next∧jj n L L'∧K v ak.next L'
theorem Iq.Ll {f:FuncId}{args:List PV}{n:Nat}{S L:bj}{K:PV→Nat→bj→Prop}(hS:uC S L)(hc:Iq P f args n L K):cR P f args ⟨n,S++L⟩ fun v ak=>∃n' L',n≤n'∧jj n L L'∧K v n' L'∧ak=⟨n',S++L'⟩:=by
 refine(cR.Ll hS hc).post fun v b6 ⟨aQ,⟨L',h1,h0,xC,h2⟩,h3⟩=>⟨⟨aQ.next,S++L'⟩,?_,by rw[h3];exact Nat.le_refl _,_,L',h0,xC,h2,rfl⟩
 subst h3
 intro j y hy
 rw[show (⟨aQ.next,S++L'⟩:ah).be=S++L' from rfl,AH] at hy
 show bh j (S++aQ.be)=some y
 rw[AH]
 cases hs:bh j S with
 |some x=>rw[hs] at hy;exact hy
 |none=>rw[hs] at hy;exact h1 j y hy
theorem kx.Qj {o:Oper}{fo:Operand}{args:Array Operand}{aT:Array TypeId}{i N0 n:Nat}{ps:Array Tmp}{cY body:Code}{cX:aW}{v:PV}{S L:bj}{K:JM→Nat→bj→Prop}{next:aW→ah→Prop}(ho:o.op=.call ⟨.value fo,args,aT⟩)
  (hf:cF ab fo=some (.bN i)) (hl:iX ab args.toList=some [v]) (hi:bh i S=some (.loop N0 ps cY body cX none)) (hlen:1=ps.size) (fE:ps.toList.all (Nat.blt · N0)=true) (hd:gr N o.dst=true)
  (hS:uC S L) (hY:DB P N0 ps cY body cX n L v K)
  (hk:∀(j:JM) n' L',n≤n'→jj n L L'→(∀i,n'≤i→bh i L'=none)→K j n' L'→next (bU ab o.dst (.bool j.isNone)) ⟨n',(i,.loop N0 ps cY body cX j.code)::(iF i S++L')⟩):kx P N b o next ab ⟨n,S++L⟩:=by
 have hiL:bh i L=none:=(hS i _ hi).2
 have KY:∀j x,bh j (iF i S)=some x→x.live=true∧bh j L=Option.none:=fun j x hj=>by
  rw[Kz] at hj
  by_cases h:j=i
  ·simp[h] at hj
  simp[h] at hj;exact hS j x hj
 have T9:((⟨n,S++L⟩:ah).drop i)=⟨n,iF i S++L⟩:=by unfold ah.drop;rw[NA,Ik hiL]
 intro lo g σ h ts ht hn s hb
 obtain⟨f',k1,k2⟩:=eh ht hf
 obtain⟨l',k3,k4⟩:=yA ht hl
 have hg:(⟨n,S++L⟩:ah).get i=some (.loop N0 ps cY body cX none):=by show bh i (S++L)=_;rw[AH,hi]
 obtain⟨di,Lp,q1,q2,q3,q4,q5,q6⟩:=s.obj i _ hg
 have GW:f'=.func (.yield (σ i).1) #[] #[]:=by
  cases k2 with
  |fr _ _ h=>cases h
  |bN _ o a k dD hs=>rw[hs]
 subst GW
 subst q2;subst q3;subst q4
 have fa:aI.live (.loop N0 Lp.params Lp.assign Lp.body cX none)=true:=rfl
 obtain⟨sk,_⟩:=s.kill hg fa
 rw[T9] at sk
 have gZ:∀t∈Lp.params.toList,t<Lp.ts.length:=fun t E0=>by
  rw[List.all_eq_true] at fE
  rw[q5];simpa using fE t E0
 obtain⟨e1,e2⟩:=NB (g:=g) (σ:=σ) (n:=n) (ps:=Lp.params.toList) q6 k4 gZ
 refine .yield ho k1 k3 q1 (s.low i _ hg fa) (by rw[← k4.1];simpa using hlen) ?_
 have run:=hY lo g σ (h.put (σ i).1 none) _ e1 (e2.trans q5) (sk.pt (aQ:=⟨n,L⟩) (bD.right KY) (Nat.le_refl _)) (Nat.le_refl _)
 have fin:∀(jump:JM) (lR:aC) (h2:ae) (g2:Fz) (dp:Sg) (ay:aW) (aQ:ah) (L':bj),dA N0 n lo g σ ⟨n,L⟩ (h.put (σ i).1 none) lR h2 g2 dp ay aQ→bD L' aQ.be→jj n L L'→K jump aQ.next L'→
   nS N b lo g σ ⟨n,S++L⟩ h next (bw ts o.dst (.bool jump.code.isNone)) (h2.put (σ i).1 (some (.loop Lp jump.code))):=by
  intro jump lR h2 g2 dp ay aQ L' a oH fZ hK
  have a':=a.pt (ay:=ay) (aQ:=⟨aQ.next,L'⟩) (ir.refl _) oH (Nat.le_refl _)
  have pD:∀q,aQ.next≤q→bh q L'=Option.none:=fun q hq=>by
   cases hz:bh q L' with
   |none=>rfl
   |some z=>have h1:=(a'.s.obj q z hz).1;have h2:q<aQ.next:=h1;omega
  obtain⟨z1,z2,z3⟩:=sk.T8 KY a'.s a'.le a'.agree a'.f a'.base a'.own
  have a2:dA N0 n lo g σ ⟨n,iF i S++L⟩ (h.put (σ i).1 none) lR h2 g2 dp ay ⟨aQ.next,iF i S++L'⟩:=⟨a'.t,a'.len,z1,a'.le,a'.agree,z2,a'.base,z3⟩
  rw[← T9] at a2
  have cp:dp i=σ i:=a.agree i di
  have mI:(σ i).1<h2.next:=Nat.lt_of_lt_of_le ((s.obj i _ hg).2.lt fa) a.f.next
  obtain⟨r1,r2,r3⟩:=dA.back (x':=.loop N0 Lp.params Lp.assign Lp.body cX jump.code) (y:=.loop Lp jump.code) s hg fa a2 ⟨Lp,by rw[cp,ae.dB _ _ _ _ mI];simp,rfl,rfl,rfl,q5,q6.mono a.le a.base a.agree⟩
  obtain⟨t1,t2⟩:=ru a.le a.base a.agree ht o.dst (hn▸hd) (.fr _ _ (.bool jump.code.isNone):VR g2 dp aQ.next (.bool jump.code.isNone) (.bool jump.code.isNone))
  exact⟨g2,dp,_,(⟨aQ.next,iF i S++L'⟩:ah).back i (.loop N0 Lp.params Lp.assign Lp.body cX jump.code),⟨t1,t2.trans hn,r1,a.le,fun j hj=>a.agree j (Nat.lt_of_lt_of_le hj hb),r2,Nat.le_trans hb a.base,r3⟩,by have:=hk jump _ _ a.base fZ pD hK;rw[← JM.zrw] at this;exact this⟩
 refine run.mono fun e jv h1 hs=>?_
 cases e with
 |normal=>
  obtain⟨g1,oT,gO,b6,a1,hW⟩:=hs
  refine(hW lo g1 oT h1 jv a1.t a1.len a1.s a1.base).mono fun e lR h2 ft=>?_
  obtain⟨g2,dp,ay,aQ,a2,j,L',h3,h4,NC,h5⟩:=ft
  cases e with
  |normal=>cases h3;exact fin Option.none _ _ _ _ _ _ _ (a1.trans a2) h4 NC h5
  |ret=>cases h3;exact fin (some Option.none) _ _ _ _ _ _ _ (a1.trans a2) h4 NC h5
  |exit id=>cases h3;exact fin (some (some id)) _ _ _ _ _ _ _ (a1.trans a2) h4 NC h5
  |goto l=>cases h3
  |panic ch=>cases h3
  |outgrown=>cases h3
 |exit id=>obtain⟨_,_,_,_,_,hk⟩:=hs;exact hk.elim
 |goto l=>obtain⟨_,_,_,_,_,hk⟩:=hs;exact hk.elim
 |ret=>obtain⟨_,_,_,_,_,hk⟩:=hs;exact hk.elim
 |panic ch=>obtain⟨_,_,_,_,_,hk⟩:=hs;exact hk.elim
 |outgrown=>obtain⟨_,_,_,_,_,hk⟩:=hs;exact hk.elim
end
def kc (i N:Nat)(ps:Array Tmp)(cY body:Code)(ab:aW)(R:JM→Nat→bj→Prop):gV:=fun e _ ak=>(e=.normal∨e=.ret)∧∃(jm:JM) (L:bj),bD ((i,.loop N ps cY body ab jm.code)::L) ak.be∧bh i L=none∧R jm ak.next L
theorem kc.mk {i N:Nat}{ps:Array Tmp}{cY body:Code}{ab aP:aW}{R:JM→Nat→bj→Prop}{e:Exit}{ak:ah}(he:e=.normal∨e=.ret)(jm:JM)(L:bj)(h1:bD ((i,.loop N ps cY body ab jm.code)::L) ak.be)(h2:bh i L=none)(h3:R jm ak.next L):kc i N ps cY body ab R e aP ak:=⟨he,jm,L,h1,h2,h3⟩
variable [bE] in
theorem VW.La {i N' b':Nat}{ps:Array Tmp}{cY body c:Code}{aP:aW}{R:JM→Nat→bj→Prop}(hN:∀n L,R none n L→Q .normal ab ⟨n,L⟩)(hR:∀n L,R (some none) n L→Q .ret ab ⟨n,L⟩)(hX:∀id n L,R (some (some id)) n L→Q (.exit id) ab ⟨n,L⟩)
  (hc:VW P N' b' c (kc i N ps cY body ab R) aP vh):VW P N' b' c (Ua i ab Q) aP vh:=hc.post fun e gO b6 ⟨he,jm,L,h1,h2,h3⟩=>by
 refine⟨gO,⟨b6.next,(i,.loop N ps cY body ab jm.code)::L⟩,ir.refl _,h1,Nat.le_refl _,?_⟩
 have hg:(⟨b6.next,(i,.loop N ps cY body ab jm.code)::L⟩:ah).get i=some (.loop N ps cY body ab jm.code):=by show bh i _=_;simp[bh,beq_eq]
 have D8:(⟨b6.next,(i,.loop N ps cY body ab jm.code)::L⟩:ah).drop i=⟨b6.next,L⟩:=by unfold ah.drop;simp only[iF,beq_eq,decide_true,aJ,Ik h2]
 have key:kU i ab Q ⟨b6.next,(i,.loop N ps cY body ab jm.code)::L⟩:=by
  rcases jm with _|_|id
  ·exact B1 hg (D8▸hN _ _ h3)
  ·exact Aj hg (D8▸hR _ _ h3)
  exact z3a hg (D8▸hX _ _ _ h3)
 rcases he with rfl|rfl
 ·exact key
 exact key
end
end Go.Am
end
