/-
 What is used in the proof of a statement (part SlT); no condition.
-/
import Derived.Test.YthnmgbgmlhackaaGreatDoorProg
import Derived.Test.YthnmgbgmlhackaaGreatDoorVm1
import Derived.Test.YthnmgbgmlhackaaGreatDoorVm2
set_option linter.all false
set_option maxHeartbeats 40000000
set_option maxRecDepth 100000
section
namespace Go.Am.Sl
open Go Go.Am Go.Proofs Tryz
theorem fC {p:Prop}(h:p:=by repeat' (first|decide +kernel|rfl|refine ⟨?_,?_⟩)):p:=h
@[simp] theorem tY3:prog.underlying 3=some (.int .i64)∧bB prog 3=some false∧cW prog 3=some 1∧eA prog 3=some [.int .i64 0]∧(ey prog 3).bind bp=some (.int .i64 0):=fC
@[simp] theorem tY4:prog.underlying 4=some .bool∧bB prog 4=some false∧cW prog 4=some 1∧eA prog 4=some [.bool false]∧(ey prog 4).bind bp=some (.bool false):=fC
@[simp] theorem tY5:prog.underlying 5=some (.int .u8)∧bB prog 5=some false∧cW prog 5=some 1∧eA prog 5=some [.int .u8 0]∧(ey prog 5).bind bp=some (.int .u8 0):=fC
@[simp] theorem tY9:prog.underlying 9=some .string∧bB prog 9=some false∧cW prog 9=some 1∧eA prog 9=some [.str ByteArray.empty]∧(ey prog 9).bind bp=some (.str ByteArray.empty):=fC
@[simp] theorem yag:prog.underlying 22=some (.slice 176)∧bB prog 22=some false∧cW prog 22=some 1∧fT prog 22=some (176,3)∧(prog.info? 176).map (·.bytes)=some 24∧eA prog 22=some [.aG]∧(ey prog 22).bind bp=some (.aG):=fC
@[simp] theorem yah:bB prog 24=some true∧cW prog 24=some 6∧dc prog 24 0=some (3,0,1)∧dc prog 24 1=some (3,1,1)∧dc prog 24 2=some (3,2,1)∧dc prog 24 3=some (3,3,1)∧dc prog 24 4=some (3,4,1)∧dc prog 24 5=some (22,5,1)∧eA prog 24=some [.int .i64 0,.int .i64 0,.int .i64 0,.int .i64 0,.int .i64 0,.aG]:=fC
@[simp] theorem yai (l:List (Nat×PV)):lQ prog 24 l=(gA (([(0,1),(1,1),(2,1),(3,1),(4,1),(5,1)]:List (Nat×Nat))[·]?) [.int .i64 0,.int .i64 0,.int .i64 0,.int .i64 0,.int .i64 0,.aG] l).map .agg:=by rfl
@[simp] theorem yaj:(ey prog 24).bind bp=some (.agg [.int .i64 0,.int .i64 0,.int .i64 0,.int .i64 0,.int .i64 0,.aG]):=by rfl
@[simp] theorem ZO:prog.underlying 25=some (.slice 3):=by rfl
@[simp] theorem yak:bB prog 25=some false∧cW prog 25=some 1∧fT prog 25=some (3,1)∧(prog.info? 3).map (·.bytes)=some 8∧eA prog 25=some [.aG]∧(ey prog 25).bind bp=some (.aG):=fC
@[simp] theorem ZR:prog.underlying 26=some (.slice 150):=by rfl
@[simp] theorem yal:bB prog 26=some false∧cW prog 26=some 1∧fT prog 26=some (150,2)∧(prog.info? 150).map (·.bytes)=some 32∧eA prog 26=some [.aG]∧(ey prog 26).bind bp=some (.aG):=fC
@[simp] theorem yam:bB prog 28=some true∧cW prog 28=some 9∧dc prog 28 0=some (24,0,6)∧dc prog 28 1=some (25,6,1)∧dc prog 28 2=some (26,7,1)∧dc prog 28 3=some (25,8,1)∧eA prog 28=some [.int .i64 0,.int .i64 0,.int .i64 0,.int .i64 0,.int .i64 0,.aG,.aG,.aG,.aG]:=fC
@[simp] theorem yan (l:List (Nat×PV)):lQ prog 28 l=(gA (([(0,6),(6,1),(7,1),(8,1)]:List (Nat×Nat))[·]?) [.int .i64 0,.int .i64 0,.int .i64 0,.int .i64 0,.int .i64 0,.aG,.aG,.aG,.aG] l).map .agg:=by rfl
@[simp] theorem yao:(ey prog 28).bind bp=some (.agg [.int .i64 0,.int .i64 0,.int .i64 0,.int .i64 0,.int .i64 0,.aG,.aG,.aG,.aG]):=by rfl
@[simp] theorem yap:prog.underlying 31=some (.slice 48)∧bB prog 31=some false∧cW prog 31=some 1∧fT prog 31=some (48,5)∧(prog.info? 48).map (·.bytes)=some 40∧eA prog 31=some [.aG]∧(ey prog 31).bind bp=some (.aG):=fC
@[simp] theorem yaq:prog.underlying 32=some (.slice 25)∧bB prog 32=some false∧cW prog 32=some 1∧fT prog 32=some (25,1)∧(prog.info? 25).map (·.bytes)=some 24∧eA prog 32=some [.aG]∧(ey prog 32).bind bp=some (.aG):=fC
@[simp] theorem yar:bB prog 34=some true∧cW prog 34=some 3∧dc prog 34 0=some (31,0,1)∧dc prog 34 1=some (3,1,1)∧dc prog 34 2=some (32,2,1)∧eA prog 34=some [.aG,.int .i64 0,.aG]:=fC
@[simp] theorem yas (l:List (Nat×PV)):lQ prog 34 l=(gA (([(0,1),(1,1),(2,1)]:List (Nat×Nat))[·]?) [.aG,.int .i64 0,.aG] l).map .agg:=by rfl
@[simp] theorem yat:(ey prog 34).bind bp=some (.agg [.aG,.int .i64 0,.aG]):=by rfl
@[simp] theorem yau:prog.underlying 35=some (.int .i64)∧bB prog 35=some false∧cW prog 35=some 1∧eA prog 35=some [.int .i64 0]∧(ey prog 35).bind bp=some (.int .i64 0):=fC
@[simp] theorem yav:prog.underlying 40=some (.slice 4)∧bB prog 40=some false∧cW prog 40=some 1∧fT prog 40=some (4,1)∧(prog.info? 4).map (·.bytes)=some 1∧eA prog 40=some [.aG]∧(ey prog 40).bind bp=some (.aG):=fC
@[simp] theorem yaw:bB prog 44=some true∧cW prog 44=some 2∧dc prog 44 0=some (3,0,1)∧dc prog 44 1=some (3,1,1)∧eA prog 44=some [.int .i64 0,.int .i64 0]:=fC
@[simp] theorem yax (l:List (Nat×PV)):lQ prog 44 l=(gA (([(0,1),(1,1)]:List (Nat×Nat))[·]?) [.int .i64 0,.int .i64 0] l).map .agg:=by rfl
@[simp] theorem yay:(ey prog 44).bind bp=some (.agg [.int .i64 0,.int .i64 0]):=by rfl
@[simp] theorem yaz:bB prog 48=some true∧cW prog 48=some 5∧dc prog 48 0=some (3,0,1)∧dc prog 48 1=some (3,1,1)∧dc prog 48 2=some (3,2,1)∧dc prog 48 3=some (3,3,1)∧dc prog 48 4=some (3,4,1)∧eA prog 48=some [.int .i64 0,.int .i64 0,.int .i64 0,.int .i64 0,.int .i64 0]:=fC
@[simp] theorem yaA (l:List (Nat×PV)):lQ prog 48 l=(gA (([(0,1),(1,1),(2,1),(3,1),(4,1)]:List (Nat×Nat))[·]?) [.int .i64 0,.int .i64 0,.int .i64 0,.int .i64 0,.int .i64 0] l).map .agg:=by rfl
@[simp] theorem yaB:(ey prog 48).bind bp=some (.agg [.int .i64 0,.int .i64 0,.int .i64 0,.int .i64 0,.int .i64 0]):=by rfl
@[simp] theorem yaC:bB prog 52=some true∧cW prog 52=some 2∧dc prog 52 0=some (31,0,1)∧dc prog 52 1=some (35,1,1)∧eA prog 52=some [.aG,.int .i64 0]:=fC
@[simp] theorem yaD (l:List (Nat×PV)):lQ prog 52 l=(gA (([(0,1),(1,1)]:List (Nat×Nat))[·]?) [.aG,.int .i64 0] l).map .agg:=by rfl
@[simp] theorem yaE:(ey prog 52).bind bp=some (.agg [.aG,.int .i64 0]):=by rfl
@[simp] theorem yaF:bB prog 57=some true∧cW prog 57=some 2∧dc prog 57 0=some (3,0,1)∧dc prog 57 1=some (35,1,1)∧eA prog 57=some [.int .i64 0,.int .i64 0]:=fC
@[simp] theorem yaG (l:List (Nat×PV)):lQ prog 57 l=(gA (([(0,1),(1,1)]:List (Nat×Nat))[·]?) [.int .i64 0,.int .i64 0] l).map .agg:=by rfl
@[simp] theorem yaH:(ey prog 57).bind bp=some (.agg [.int .i64 0,.int .i64 0]):=by rfl
@[simp] theorem SH:bB prog 108=some true∧cW prog 108=some 2:=fC
@[simp] theorem xc0:dc prog 108 0=some (25,0,1):=by decide +kernel
@[simp] theorem xcz:dc prog 108 1=some (35,1,1):=by decide +kernel
@[simp] theorem SJ:eA prog 108=some [.aG,.int .i64 0]:=by rfl
@[simp] theorem SK (l:List (Nat×PV)):lQ prog 108 l=(gA (([(0,1),(1,1)]:List (Nat×Nat))[·]?) [.aG,.int .i64 0] l).map .agg:=by rfl
@[simp] theorem SL:(ey prog 108).bind bp=some (.agg [.aG,.int .i64 0]):=by rfl
@[simp] theorem SM:bB prog 111=some true∧cW prog 111=some 3:=fC
@[simp] theorem xc9:dc prog 111 0=some (3,0,1):=by decide +kernel
@[simp] theorem xcv:dc prog 111 1=some (4,1,1):=by decide +kernel
@[simp] theorem xbw:dc prog 111 2=some (35,2,1):=by decide +kernel
@[simp] theorem SN:eA prog 111=some [.int .i64 0,.bool false,.int .i64 0]:=by rfl
@[simp] theorem SO (l:List (Nat×PV)):lQ prog 111 l=(gA (([(0,1),(1,1),(2,1)]:List (Nat×Nat))[·]?) [.int .i64 0,.bool false,.int .i64 0] l).map .agg:=by rfl
@[simp] theorem SP:(ey prog 111).bind bp=some (.agg [.int .i64 0,.bool false,.int .i64 0]):=by rfl
@[simp] theorem SQ:prog.underlying 132=some (.map 137 3)∧bB prog 132=some false∧cW prog 132=some 1∧eA prog 132=some [.dM]∧(ey prog 132).bind bp=some (.dM):=fC
@[simp] theorem SR:bB prog 134=some true∧cW prog 134=some 12:=fC
@[simp] theorem xa4:dc prog 134 0=some (28,0,9):=by decide +kernel
@[simp] theorem xcm:dc prog 134 1=some (132,9,1):=by decide +kernel
@[simp] theorem xba:dc prog 134 2=some (132,10,1):=by decide +kernel
@[simp] theorem xct:dc prog 134 3=some (3,11,1):=by decide +kernel
@[simp] theorem SS:eA prog 134=some [.int .i64 0,.int .i64 0,.int .i64 0,.int .i64 0,.int .i64 0,.aG,.aG,.aG,.aG,.dM,.dM,.int .i64 0]:=by rfl
@[simp] theorem SU (l:List (Nat×PV)):lQ prog 134 l=(gA (([(0,9),(9,1),(10,1),(11,1)]:List (Nat×Nat))[·]?) [.int .i64 0,.int .i64 0,.int .i64 0,.int .i64 0,.int .i64 0,.aG,.aG,.aG,.aG,.dM,.dM,.int .i64 0] l).map .agg:=by rfl
@[simp] theorem SV:(ey prog 134).bind bp=some (.agg [.int .i64 0,.int .i64 0,.int .i64 0,.int .i64 0,.int .i64 0,.aG,.aG,.aG,.aG,.dM,.dM,.int .i64 0]):=by rfl
@[simp] theorem SX:bB prog 137=some true∧cW prog 137=some 2:=fC
@[simp] theorem xa5:dc prog 137 0=some (3,0,1):=by decide +kernel
@[simp] theorem xcn:dc prog 137 1=some (3,1,1):=by decide +kernel
@[simp] theorem SY:eA prog 137=some [.int .i64 0,.int .i64 0]:=by rfl
@[simp] theorem SZ (l:List (Nat×PV)):lQ prog 137 l=(gA (([(0,1),(1,1)]:List (Nat×Nat))[·]?) [.int .i64 0,.int .i64 0] l).map .agg:=by rfl
@[simp] theorem S0:(ey prog 137).bind bp=some (.agg [.int .i64 0,.int .i64 0]):=by rfl
@[simp] theorem S1:bB prog 143=some true∧cW prog 143=some 11:=fC
@[simp] theorem xc3:dc prog 143 0=some (137,0,2):=by decide +kernel
@[simp] theorem xa7:dc prog 143 1=some (137,2,2):=by decide +kernel
@[simp] theorem xc7:dc prog 143 2=some (48,4,5):=by decide +kernel
@[simp] theorem xb5:dc prog 143 3=some (3,9,1):=by decide +kernel
@[simp] theorem xcp:dc prog 143 4=some (4,10,1):=by decide +kernel
@[simp] theorem S2:eA prog 143=some [.int .i64 0,.int .i64 0,.int .i64 0,.int .i64 0,.int .i64 0,.int .i64 0,.int .i64 0,.int .i64 0,.int .i64 0,.int .i64 0,.bool false]:=by rfl
@[simp] theorem S3 (l:List (Nat×PV)):lQ prog 143 l=(gA (([(0,2),(2,2),(4,5),(9,1),(10,1)]:List (Nat×Nat))[·]?) [.int .i64 0,.int .i64 0,.int .i64 0,.int .i64 0,.int .i64 0,.int .i64 0,.int .i64 0,.int .i64 0,.int .i64 0,.int .i64 0,.bool false] l).map .agg:=by rfl
@[simp] theorem S4:(ey prog 143).bind bp=some (.agg [.int .i64 0,.int .i64 0,.int .i64 0,.int .i64 0,.int .i64 0,.int .i64 0,.int .i64 0,.int .i64 0,.int .i64 0,.int .i64 0,.bool false]):=by rfl
@[simp] theorem S5:bB prog 144=some false∧cW prog 144=some 1∧eA prog 144=some [.nilFunc]∧(ey prog 144).bind bp=some (.nilFunc):=fC
@[simp] theorem S6:bB prog 146=some false∧cW prog 146=some 1∧eA prog 146=some [.nilFunc]∧(ey prog 146).bind bp=some (.nilFunc):=fC
@[simp] theorem S7:bB prog 150=some true∧cW prog 150=some 2:=fC
@[simp] theorem xbc:dc prog 150 0=some (3,0,1):=by decide +kernel
@[simp] theorem xbf:dc prog 150 1=some (25,1,1):=by decide +kernel
@[simp] theorem S8:eA prog 150=some [.int .i64 0,.aG]:=by rfl
@[simp] theorem S9 (l:List (Nat×PV)):lQ prog 150 l=(gA (([(0,1),(1,1)]:List (Nat×Nat))[·]?) [.int .i64 0,.aG] l).map .agg:=by rfl
@[simp] theorem Ta:(ey prog 150).bind bp=some (.agg [.int .i64 0,.aG]):=by rfl
@[simp] theorem Tb:bB prog 154=some false∧cW prog 154=some 1∧eA prog 154=some [.nilFunc]∧(ey prog 154).bind bp=some (.nilFunc):=fC
@[simp] theorem Tc:prog.underlying 155=some (.slice 160)∧bB prog 155=some false∧cW prog 155=some 1∧fT prog 155=some (160,11)∧(prog.info? 160).map (·.bytes)=some 88∧eA prog 155=some [.aG]∧(ey prog 155).bind bp=some (.aG):=fC
@[simp] theorem Td:bB prog 158=some true∧cW prog 158=some 2:=fC
@[simp] theorem xa9:dc prog 158 0=some (3,0,1):=by decide +kernel
@[simp] theorem xbn:dc prog 158 1=some (3,1,1):=by decide +kernel
@[simp] theorem Te:eA prog 158=some [.int .i64 0,.int .i64 0]:=by rfl
@[simp] theorem Tf (l:List (Nat×PV)):lQ prog 158 l=(gA (([(0,1),(1,1)]:List (Nat×Nat))[·]?) [.int .i64 0,.int .i64 0] l).map .agg:=by rfl
@[simp] theorem Tg:(ey prog 158).bind bp=some (.agg [.int .i64 0,.int .i64 0]):=by rfl
@[simp] theorem Th:bB prog 160=some true∧cW prog 160=some 11:=fC
@[simp] theorem xbz:dc prog 160 0=some (158,0,2):=by decide +kernel
@[simp] theorem xda:dc prog 160 1=some (158,2,2):=by decide +kernel
@[simp] theorem xcl:dc prog 160 2=some (3,4,1):=by decide +kernel
@[simp] theorem xcc:dc prog 160 3=some (4,5,1):=by decide +kernel
@[simp] theorem xb0:dc prog 160 4=some (48,6,5):=by decide +kernel
@[simp] theorem Ti:eA prog 160=some [.int .i64 0,.int .i64 0,.int .i64 0,.int .i64 0,.int .i64 0,.bool false,.int .i64 0,.int .i64 0,.int .i64 0,.int .i64 0,.int .i64 0]:=by rfl
@[simp] theorem Tj (l:List (Nat×PV)):lQ prog 160 l=(gA (([(0,2),(2,2),(4,1),(5,1),(6,5)]:List (Nat×Nat))[·]?) [.int .i64 0,.int .i64 0,.int .i64 0,.int .i64 0,.int .i64 0,.bool false,.int .i64 0,.int .i64 0,.int .i64 0,.int .i64 0,.int .i64 0] l).map .agg:=by rfl
@[simp] theorem Tk:(ey prog 160).bind bp=some (.agg [.int .i64 0,.int .i64 0,.int .i64 0,.int .i64 0,.int .i64 0,.bool false,.int .i64 0,.int .i64 0,.int .i64 0,.int .i64 0,.int .i64 0]):=by rfl
@[simp] theorem Tl:bB prog 176=some true∧cW prog 176=some 3:=fC
@[simp] theorem xa3:dc prog 176 0=some (3,0,1):=by decide +kernel
@[simp] theorem xbq:dc prog 176 1=some (3,1,1):=by decide +kernel
@[simp] theorem xce:dc prog 176 2=some (3,2,1):=by decide +kernel
@[simp] theorem Tm:eA prog 176=some [.int .i64 0,.int .i64 0,.int .i64 0]:=by rfl
@[simp] theorem Tn (l:List (Nat×PV)):lQ prog 176 l=(gA (([(0,1),(1,1),(2,1)]:List (Nat×Nat))[·]?) [.int .i64 0,.int .i64 0,.int .i64 0] l).map .agg:=by rfl
@[simp] theorem To:(ey prog 176).bind bp=some (.agg [.int .i64 0,.int .i64 0,.int .i64 0]):=by rfl
@[simp] theorem Tp:ik prog 177=some (5,174,1):=by decide +kernel
@[simp] theorem Tq:bB prog 187=some false∧cW prog 187=some 1∧eA prog 187=some [.nilFunc]∧(ey prog 187).bind bp=some (.nilFunc):=fC
@[simp] theorem Ts:bB prog 189=some false∧cW prog 189=some 1∧eA prog 189=some [.nilFunc]∧(ey prog 189).bind bp=some (.nilFunc):=fC
@[simp] theorem Tt:bB prog 192=some false∧cW prog 192=some 1∧eA prog 192=some [.nilFunc]∧(ey prog 192).bind bp=some (.nilFunc):=fC
@[simp] theorem Tu:ik prog 197=some (2,3,1):=by decide +kernel
@[simp] theorem Tv:ik prog 198=some (2,3,1):=by decide +kernel
@[simp] theorem Tw:bB prog 202=some true∧cW prog 202=some 5:=fC
@[simp] theorem xbk:dc prog 202 0=some (158,0,2):=by decide +kernel
@[simp] theorem xb9:dc prog 202 1=some (3,2,1):=by decide +kernel
@[simp] theorem xcw:dc prog 202 2=some (25,3,1):=by decide +kernel
@[simp] theorem xb8:dc prog 202 3=some (4,4,1):=by decide +kernel
@[simp] theorem Tx:eA prog 202=some [.int .i64 0,.int .i64 0,.int .i64 0,.aG,.bool false]:=by rfl
@[simp] theorem Ty (l:List (Nat×PV)):lQ prog 202 l=(gA (([(0,2),(2,1),(3,1),(4,1)]:List (Nat×Nat))[·]?) [.int .i64 0,.int .i64 0,.int .i64 0,.aG,.bool false] l).map .agg:=by rfl
@[simp] theorem Tz:(ey prog 202).bind bp=some (.agg [.int .i64 0,.int .i64 0,.int .i64 0,.aG,.bool false]):=by rfl
@[simp] theorem TA:bB prog 205=some true∧cW prog 205=some 3:=fC
@[simp] theorem xbo:dc prog 205 0=some (25,0,1):=by decide +kernel
@[simp] theorem xcs:dc prog 205 1=some (3,1,1):=by decide +kernel
@[simp] theorem xcd:dc prog 205 2=some (4,2,1):=by decide +kernel
@[simp] theorem TB:eA prog 205=some [.aG,.int .i64 0,.bool false]:=by rfl
@[simp] theorem TC (l:List (Nat×PV)):lQ prog 205 l=(gA (([(0,1),(1,1),(2,1)]:List (Nat×Nat))[·]?) [.aG,.int .i64 0,.bool false] l).map .agg:=by rfl
@[simp] theorem TD:(ey prog 205).bind bp=some (.agg [.aG,.int .i64 0,.bool false]):=by rfl
@[simp] theorem TE:prog.underlying 210=some (.slice 9)∧bB prog 210=some false∧cW prog 210=some 1∧fT prog 210=some (9,1)∧(prog.info? 9).map (·.bytes)=some 16∧eA prog 210=some [.aG]∧(ey prog 210).bind bp=some (.aG):=fC
@[simp] theorem TF:bB prog 211=some false∧cW prog 211=some 1∧eA prog 211=some [.nilFunc]∧(ey prog 211).bind bp=some (.nilFunc):=fC
@[simp] theorem TG:prog.underlying 228=some (.int .u64)∧bB prog 228=some false∧cW prog 228=some 1∧eA prog 228=some [.int .u64 0]∧(ey prog 228).bind bp=some (.int .u64 0):=fC
@[simp] theorem TH:prog.underlying 234=some (.array 5 3)∧bB prog 234=some true∧cW prog 234=some 5:=fC
@[simp] theorem TI:ik prog 234=some (5,3,1):=by decide +kernel
@[simp] theorem TJ:eA prog 234=some [.int .i64 0,.int .i64 0,.int .i64 0,.int .i64 0,.int .i64 0]:=by rfl
@[simp] theorem TK (l:List (Nat×PV)):lQ prog 234 l=(gA (fun i=>some (i*1,1)) [.int .i64 0,.int .i64 0,.int .i64 0,.int .i64 0,.int .i64 0] l).map .agg:=by rfl
@[simp] theorem TL:(ey prog 234).bind bp=some (.agg [.int .i64 0,.int .i64 0,.int .i64 0,.int .i64 0,.int .i64 0]):=by rfl
@[simp] theorem TM:ik prog 235=some (7,9,1):=by decide +kernel
@[simp] theorem TN:prog.underlying 237=some (.pointer 240)∧bB prog 237=some false∧cW prog 237=some 1∧eA prog 237=some [.eU]∧(ey prog 237).bind bp=some (.eU):=fC
@[simp] theorem TO:prog.underlying 238=some (.slice 5)∧bB prog 238=some false∧cW prog 238=some 1∧fT prog 238=some (5,1)∧(prog.info? 5).map (·.bytes)=some 1∧eA prog 238=some [.aG]∧(ey prog 238).bind bp=some (.aG):=fC
@[simp] theorem TP:bB prog 240=some true∧cW prog 240=some 2:=fC
@[simp] theorem xck:dc prog 240 0=some (237,0,1):=by decide +kernel
@[simp] theorem xbm:dc prog 240 1=some (238,1,1):=by decide +kernel
@[simp] theorem TQ:eA prog 240=some [.eU,.aG]:=by rfl
@[simp] theorem TR (l:List (Nat×PV)):lQ prog 240 l=(gA (([(0,1),(1,1)]:List (Nat×Nat))[·]?) [.eU,.aG] l).map .agg:=by rfl
@[simp] theorem TS:(ey prog 240).bind bp=some (.agg [.eU,.aG]):=by rfl
@[simp] theorem TT:ik prog 272=some (24,5,1):=by decide +kernel
@[simp] theorem TU:ik prog 278=some (20,258,1):=by decide +kernel
@[simp] theorem TV:ik prog 279=some (65,5,1):=by decide +kernel
@[simp] theorem TW:ik prog 280=some (32,5,1):=by decide +kernel
@[simp] theorem TX:ik prog 281=some (64,5,1):=by decide +kernel
structure jO where
  f:Int
  t:Int
  c:Int
deriving DecidableEq
structure mo where
  at_:Int
  ws:List Int
deriving DecidableEq
structure ao where
  om:Int
  le:Int
  tw:Int
  gl:Int
  ad:Int
  mx:List jO
  t:List Int
  g:List mo
  c:List Int
deriving DecidableEq
structure aq where
  k:Int
  a:Int
  i:Int
  l:Int
  w:Int
deriving DecidableEq
def fa (n:Int):Bool:=decide (1≤n)&&decide (n≤9999)
def jZ (n:Int):Bool:=decide (1≤n)&&decide (n≤100)
def mI (pre:List jO)(x:jO):Bool:=fa x.f&&fa x.t&&!decide (x.f=x.t)&&jZ x.c&&!(pre.any fun y=>decide (y.f=x.f)&&decide (y.t=x.t))
def mq:List jO→List jO→Bool
 |_,[]=>true
 |pre,x::r=>mI pre x&&mq (pre++[x]) r
def pR (c:ao):Int:=
 if jZ c.om&&jZ c.le&&jZ c.tw&&jZ c.gl&&jZ c.ad then (if 20<c.mx.length then 2 else if mq [] c.mx then 0 else 1) else 1
def kl (n:Nat)(x:mo):Bool:=(decide (0≤x.at_)&&decide (x.at_≤(n:Int)))&&(decide (1≤x.ws.length)&&decide (x.ws.length≤6))&&x.ws.all fa
def bf (c:ao):Int:=
 if pR c≠0 then pR c
 else if 48<c.t.length∨48<c.c.length∨6<c.g.length then 2
 else if c.t.all fa&&c.c.all fa&&c.g.all (kl c.t.length) then 0 else 1
def eB:List jO→Int→Int→Option Int
 |[],_,_=>none
 |x::r,f,t=>if x.f=f∧x.t=t then some x.c else eB r f t
def aK (c:ao)(s:aq):Option (Int×Nat×List Int):=
 if 0≤s.a∧s.a≤(c.t.length:Int)∧0≤s.i then
  let a:=s.a.toNat
  if s.k=1 then (if a<c.t.length∧s.l=0 then (eB c.mx (c.t.getD a 0) s.w).map fun n=>(n,a+1,[s.w]) else none)
  else if s.k=2 then (if a<c.t.length∧s.l=0∧s.w=0 then some (c.om,a+1,[]) else none)
  else if s.k=3 then (if 1≤a∧1≤s.l∧s.l≤(c.t.length:Int) - s.a∧s.w=0∧c.t.getD (a+s.l.toNat - 1) 0=c.t.getD (a - 1) 0 then some (c.le,a+s.l.toNat,[]) else none)
  else if s.k=4 then (if 1≤s.l∧s.l≤s.a∧s.w=0 then some (c.tw,a,(c.t.drop (a - s.l.toNat)).take s.l.toNat) else none)
  else if s.k=5 then (if 0≤s.l∧s.l≤(c.g.length:Int) - 1∧s.w=0∧(c.g.getD s.l.toNat ⟨0,[]⟩).at_=s.a then some (c.gl,a,(c.g.getD s.l.toNat ⟨0,[]⟩).ws) else none)
  else if s.k=6 then (if fa s.w∧s.l=0 then some (c.ad,a,[s.w]) else none)
  else none
 else none
def hasB (c:ao)(j:Nat)(l:List Int):Bool:=decide (j+l.length≤c.c.length)&&decide ((c.c.drop j).take l.length=l)
structure aR where
  i:Nat
  j:Nat
  i':Nat
  j':Nat
  n:Int
  s:Option aq
deriving DecidableEq
def kE (c:ao)(i j:Nat):List aq:=
 (if j<c.c.length then [⟨1,i,j,0,c.c.getD j 0⟩] else [])++[⟨2,i,j,0,0⟩]++
 ((List.range (c.t.length - i)).map fun n:Nat=>⟨3,i,j,(n+1:Nat),0⟩)++((List.range i).map fun n:Nat=>⟨4,i,j,(n+1:Nat),0⟩)++
 ((List.range c.g.length).map fun n:Nat=>⟨5,i,j,n,0⟩)++(if j<c.c.length then [⟨6,i,j,0,c.c.getD j 0⟩] else [])
def stepOf (c:ao)(i j:Nat)(s:aq):Option aR:=match aK c s with
 |some (n,i',w)=>if hasB c j w then some ⟨i,j,i',j+w.length,n,some s⟩ else none
 |none=>none
def steps (c:ao)(i j:Nat):List aR:=
 (if i<c.t.length∧j<c.c.length∧c.t.getD i 0=c.c.getD j 0 then [⟨i,j,i+1,j+1,0,none⟩] else [])++(kE c i j).filterMap (stepOf c i j)
def places (c:ao):List (Nat×Nat):=(List.range (c.t.length+1)).flatMap fun i=>(List.range (c.c.length+1)).map fun j=>(i,j)
def graph (c:ao):List aR:=(places c).flatMap fun p=>steps c p.1 p.2
abbrev lX:=Nat→Nat→Option Int
def jW (D:lX)(i j:Nat)(v:Option Int):lX:=fun a b=>if a=i∧b=j then v else D a b
def pF:Option Int→Option Int→Option Int
 |none,y=>y
 |x,none=>x
 |some a,some b=>some (min a b)
def mB (D:lX)(x:aR):lX:=jW D x.i' x.j' (pF (D x.i' x.j') ((D x.i x.j).map (·+x.n)))
def start:lX:=fun a b=>if a=0∧b=0 then some 0 else none
def y5 (D:lX)(l:List aR):lX:=l.foldl mB D
def mP (l:List aR):lX:=y5 start l
def s8 (i j i' j':Nat):Prop:=i<i'∨(i=i'∧j<j')
theorem s8.irrefl {i j:Nat}:¬s8 i j i j:=fun h=>by rcases h with h|⟨_,h⟩<;>omega
structure CH (l:List aR):Prop where
  on:∀x∈l,s8 x.i x.j x.i' x.j'
  up:l.Pairwise fun x y=>¬s8 y.i y.j x.i x.j
theorem CH.tail {x:aR}{l:List aR}(h:CH (x::l)):CH l:=⟨fun y hy=>h.on y (List.mem_cons_of_mem _ hy),(List.pairwise_cons.1 h.up).2⟩
def Le (o:Option Int)(v:Int):Prop:=∃u,o=some u∧u≤v
theorem Le.mono {o:Option Int}{v w:Int}(h:Le o v)(hv:v≤w):Le o w:=by obtain⟨u,h1,h2⟩:=h;exact⟨u,h1,by omega⟩
theorem zwj {o p:Option Int}{v:Int}(h:o=some v):Le (pF o p) v:=by
 subst h
 cases p with
 |none=>exact⟨v,rfl,Int.le_refl _⟩
 |some w=>exact⟨min v w,rfl,by omega⟩
theorem zu8 {o p:Option Int}{v:Int}(h:p=some v):Le (pF o p) v:=by
 subst h
 cases o with
 |none=>exact⟨v,rfl,Int.le_refl _⟩
 |some w=>exact⟨min w v,rfl,by omega⟩
theorem TY {o p:Option Int}{v:Int}(h:pF o p=some v):o=some v∨p=some v:=by
 cases o with
 |none=>exact .inr h
 |some a=>
  cases p with
  |none=>exact .inl h
  |some b=>
   have h:min a b=v:=by injection h
   rcases Int.le_total a b with gu|gu
   ·exact .inl (by rw[← h];congr 1;omega)
   exact .inr (by rw[← h];congr 1;omega)
theorem zzp {D:lX}{x:aR}{a b:Nat}{v:Int}(h:D a b=some v):Le (mB D x a b) v:=by
 unfold mB jW
 split
 ·rename_i gu
  obtain⟨rfl,rfl⟩:=gu
  exact zwj h
 exact⟨v,h,Int.le_refl _⟩
theorem Ns:∀ {l:List aR} {D:lX} {a b:Nat} {v:Int},Le (D a b) v→Le (y5 D l a b) v
 |[],D,a,b,v,h=>h
 |x::l,D,a,b,v,h=>by
  obtain⟨u,h1,h2⟩:=h
  exact Ns (l:=l) (D:=mB D x) ((zzp h1).mono h2)
theorem zus {D:lX}{x:aR}{a b:Nat}(h:¬(a=x.i'∧b=x.j')):mB D x a b=D a b:=by
 unfold mB jW;rw[if_neg h]
theorem TZ:∀ {l:List aR} {D:lX} {a b:Nat},(∀x∈l,¬(a=x.i'∧b=x.j'))→y5 D l a b=D a b
 |[],D,a,b,_=>rfl
 |x::l,D,a,b,h=>by
  have:=TZ (l:=l) (D:=mB D x) (a:=a) (b:=b) fun y hy=>h y (List.mem_cons_of_mem _ hy)
  show y5 (mB D x) l a b=D a b
  rw[this,zus (h x List.mem_cons_self)]
theorem T0:∀ {l:List aR} {D:lX},CH l→∀x∈l,∀v,y5 D l x.i x.j=some v→Le (y5 D l x.i' x.j') (v+x.n)
 |[],_,_,x,hx,_,_=>by cases hx
 |y::l,D,hs,x,hx,v,hv=>by
  rcases List.mem_cons.1 hx with rfl|hx
  ·have fW:∀z∈x::l,¬(x.i=z.i'∧x.j=z.j'):=fun z hz he=>by
    have h1:=hs.on z hz
    rcases List.mem_cons.1 hz with rfl|hz
    ·rw[he.1,he.2] at h1
     rw[← he.1,← he.2] at h1
     rcases h1 with h1|⟨_,h1⟩<;>omega
    have h2:=(List.pairwise_cons.1 hs.up).1 z hz
    exact h2 (by rw[he.1,he.2];exact h1)
   rw[TZ fW] at hv
   refine Ns (l:=l) (D:=mB D x) ?_
   unfold mB jW
   rw[if_pos ⟨rfl,rfl⟩,hv]
   exact zu8 rfl
  exact T0 hs.tail x hx v hv
inductive Way (L:List aR):Nat→Nat→Nat→Nat→Int→List aR→Prop where
  |nil (i j:Nat):Way L i j i j 0 []
  |cons (x:aR) (hx:x∈L) {a b:Nat} {n:Int} {l:List aR} (h:Way L x.i' x.j' a b n l):Way L x.i x.j a b (x.n+n) (x::l)
theorem Way.snoc {L:List aR}{i j a b:Nat}{n:Int}{l:List aR}(h:Way L i j a b n l):∀ {x:aR},x∈L→x.i=a→x.j=b→Way L i j x.i' x.j' (n+x.n) (l++[x]):=by
 induction h with
 |nil i j=>
  rintro x hx rfl rfl
  have:=Way.cons x hx (.nil x.i' x.j')
  rw[show (0:Int)+x.n=x.n+0 by omega]
  exact this
 |cons y hy h ih=>
  intro x hx h1 h2
  have:=Way.cons y hy (ih hx h1 h2)
  rw[Int.add_assoc]
  exact this
theorem Way.append {L:List aR}{i j a b:Nat}{n:Int}{l:List aR}(h:Way L i j a b n l):∀ {c d:Nat} {m:Int} {l':List aR},Way L a b c d m l'→Way L i j c d (n+m) (l++l'):=by
 induction h with
 |nil i j=>intro c d m l' h';rw[Int.zero_add];exact h'
 |cons y hy h ih=>
  intro c d m l' h'
  have:=Way.cons y hy (ih h')
  rw[Int.add_assoc]
  exact this
theorem T1 {L:List aR}:∀ {l:List aR} {D:lX},(∀x∈l,x∈L)→(∀a b v,D a b=some v→∃w,Way L 0 0 a b v w)→∀a b v,y5 D l a b=some v→∃w,Way L 0 0 a b v w
 |[],D,_,hD,a,b,v,h=>hD a b v h
 |x::l,D,hl,hD,a,b,v,h=>by
  refine T1 (l:=l) (D:=mB D x) (fun y hy=>hl y (List.mem_cons_of_mem _ hy)) (fun a b v hv=>?_) a b v h
  unfold mB jW at hv
  split at hv
  ·rename_i gu
   obtain⟨rfl,rfl⟩:=gu
   rcases TY hv with h1|h1
   ·exact hD _ _ _ h1
   cases h2:D x.i x.j with
   |none=>rw[h2] at h1;cases h1
   |some u=>
    rw[h2] at h1
    have h1:u+x.n=v:=by injection h1
    obtain⟨w,hw⟩:=hD _ _ _ h2
    exact⟨w++[x],h1▸hw.snoc (hl x List.mem_cons_self) rfl rfl⟩
  exact hD a b v hv
theorem YV {L:List aR}{a b:Nat}{v:Int}(h:mP L a b=some v):∃w,Way L 0 0 a b v w:=
 T1 (fun x hx=>hx) (fun a b v hv=>by
  unfold start at hv
  split at hv
  ·rename_i gu
   obtain⟨rfl,rfl⟩:=gu
   injection hv with hv
   subst hv
   exact⟨[],.nil 0 0⟩
  cases hv) a b v h
theorem zv3 (L:List aR):Le (mP L 0 0) 0:=Ns ⟨0,by simp[start],Int.le_refl _⟩
theorem z1b {L:List aR}(hs:CH L){i j a b:Nat}{n:Int}{w:List aR}(h:Way L i j a b n w):∀ {v:Int},Le (mP L i j) v→Le (mP L a b) (v+n):=by
 induction h with
 |nil i j=>intro v hv;rw[Int.add_zero];exact hv
 |cons x hx h ih=>
  intro v hv
  obtain⟨u,h1,h2⟩:=hv
  have:=ih (T0 hs x hx u h1)
  exact this.mono (by omega)
theorem QJ {L:List aR}(hs:CH L){a b:Nat}{n:Int}{w:List aR}(h:Way L 0 0 a b n w):Le (mP L a b) n:=by
 have:=z1b hs h (zv3 L)
 rwa [Int.zero_add] at this
structure Rt (c:ao):Prop where
  om:1≤c.om∧c.om≤100
  le:1≤c.le∧c.le≤100
  tw:1≤c.tw∧c.tw≤100
  gl:1≤c.gl∧c.gl≤100
  ad:1≤c.ad∧c.ad≤100
  K3:c.mx.length≤20
  Rz:∀x∈c.mx,(1≤x.c∧x.c≤100)∧x.f≠x.t∧fa x.t=true
  mxn:∀x∈c.mx,∀y∈c.mx,x.f=y.f→x.t=y.t→x=y
  tl:c.t.length≤48
  cl:c.c.length≤48
  sH:c.g.length≤6
  tok:∀w∈c.t,fa w=true
  YT:∀w∈c.c,fa w=true
  Ij:∀x∈c.g,(0≤x.at_∧x.at_≤(c.t.length:Int))∧1≤x.ws.length∧x.ws.length≤6∧∀w∈x.ws,fa w=true
theorem Nt:∀ {r pre:List jO},mq pre r=true→(∀x∈r,(1≤x.c∧x.c≤100)∧x.f≠x.t∧fa x.t=true)∧(∀x∈r,∀y∈pre,¬(y.f=x.f∧y.t=x.t))∧r.Pairwise fun x y=>¬(x.f=y.f∧x.t=y.t)
 |[],pre,_=>⟨fun x hx=>(by cases hx),fun x hx=>(by cases hx),List.Pairwise.nil⟩
 |a::r,pre,h=>by
  unfold mq at h
  rw[bV] at h
  obtain⟨h1,h2⟩:=h
  obtain⟨i1,i2,i3⟩:=Nt h2
  unfold mI jZ at h1
  simp only[bV,decide_eq_true_eq,Bool.not_eq_true',decide_eq_false_iff_not,List.any_eq_false] at h1
  obtain⟨⟨⟨⟨e1,e2⟩,e3⟩,e4⟩,e5⟩:=h1
  refine⟨fun x hx=>?_,fun x hx y hy=>?_,List.pairwise_cons.2 ⟨fun y hy hh=>?_,i3⟩⟩
  ·rcases List.mem_cons.1 hx with rfl|hx
   ·exact⟨e4,e3,e2⟩
   exact i1 x hx
  ·rcases List.mem_cons.1 hx with rfl|hx
   ·have:=e5 y hy
    simpa using this
   exact i2 x hx y (List.mem_append_left _ hy)
  exact i2 y hy a (List.mem_append_right _ (List.mem_singleton.2 rfl)) hh
theorem iC {c:ao}(h:bf c=0):Rt c:=by
 unfold bf at h
 by_cases h0:pR c=0
 ·rw[if_neg (by simp[h0])] at h
  unfold pR at h0
  split at h0
  ·rename_i hc
   split at h0
   ·cases h0
   rename_i hl
   split at h0
   ·rename_i hm
    split at h
    ·cases h
    rename_i lj
    split at h
    ·rename_i hw
     simp only[bV,List.all_eq_true] at hw
     obtain⟨⟨w1,w2⟩,w3⟩:=hw
     unfold jZ at hc
     simp only[bV,decide_eq_true_eq] at hc
     obtain⟨⟨⟨⟨c1,c2⟩,c3⟩,c4⟩,c5⟩:=hc
     obtain⟨m1,_,m3⟩:=Nt hm
     refine⟨c1,c2,c3,c4,c5,by omega,m1,fun x hx y hy e1 e2=>?_,by omega,by omega,by omega,w1,w2,fun x hx=>?_⟩
     ·obtain⟨i,hi,rfl⟩:=List.mem_iff_getElem.1 hx
      obtain⟨j,hj,rfl⟩:=List.mem_iff_getElem.1 hy
      rcases Nat.lt_trichotomy i j with e8|e8|e8
      ·exact absurd ⟨e1,e2⟩ ((List.pairwise_iff_getElem.1 m3) i j hi hj e8)
      ·subst e8;rfl
      exact absurd ⟨e1.symm,e2.symm⟩ ((List.pairwise_iff_getElem.1 m3) j i hj hi e8)
     have:=w3 x hx
     unfold kl at this
     simp only[bV,decide_eq_true_eq,List.all_eq_true] at this
     exact⟨this.1.1,this.1.2.1,this.1.2.2,this.2⟩
    cases h
   cases h0
  cases h0
 rw[if_pos h0] at h;exact absurd h h0
theorem Mv:∀ {l:List jO} {f t n:Int},eB l f t=some n→∃x∈l,x.f=f∧x.t=t∧x.c=n
 |[],_,_,_,h=>by cases h
 |a::r,f,t,n,h=>by
  unfold eB at h
  split at h
  ·rename_i hh;injection h with h;exact⟨a,List.mem_cons_self,hh.1,hh.2,h⟩
  obtain⟨x,hx,h1⟩:=Mv h;exact⟨x,List.mem_cons_of_mem _ hx,h1⟩
theorem QH {α:Type}{l:List α}{i:Nat}{d:α}(h:i<l.length):l.getD i d∈l:=by
 rw[List.getD_eq_getElem?_getD,List.getElem?_eq_getElem h];exact List.getElem_mem h
theorem kS {c:ao}(hr:Rt c){s:aq}{n:Int}{i':Nat}{w:List Int}(h:aK c s=some (n,i',w)) :
  (1≤n∧n≤100)∧(0≤s.a∧s.a≤(c.t.length:Int)∧0≤s.i)∧s.a.toNat≤i'∧i'≤c.t.length∧(s.a.toNat<i'∨1≤w.length)∧w.length≤48:=by
 unfold aK at h
 split at h
 ·rename_i dm
  obtain⟨h1,h2,h3⟩:=dm
  simp only at h
  split at h
  ·split at h
   ·rename_i hk hc
    obtain⟨m,hm,he⟩:=Option.map_eq_some_iff.1 h
    injection he with e1 e2;injection e2 with e2 e3
    obtain⟨x,hx,_,_,hxc⟩:=Mv hm
    have:=(hr.Rz x hx).1
    subst e1;subst e2;subst e3
    refine⟨by omega,⟨h1,h2,h3⟩,by omega,by omega,.inl (by omega),by simp⟩
   cases h
  split at h
  ·split at h
   ·rename_i hc
    injection h with h;injection h with e1 e2;injection e2 with e2 e3
    subst e1;subst e2;subst e3
    exact⟨hr.om,⟨h1,h2,h3⟩,by omega,by omega,.inl (by omega),by simp⟩
   cases h
  split at h
  ·split at h
   ·rename_i hc
    injection h with h;injection h with e1 e2;injection e2 with e2 e3
    subst e1;subst e2;subst e3
    exact⟨hr.le,⟨h1,h2,h3⟩,by omega,by omega,.inl (by omega),by simp⟩
   cases h
  split at h
  ·split at h
   ·rename_i hc
    injection h with h;injection h with e1 e2;injection e2 with e2 e3
    subst e1;subst e2;subst e3
    have:=hr.tl
    refine⟨hr.tw,⟨h1,h2,h3⟩,by omega,by omega,.inr ?_,?_⟩
    ·rw[List.length_take,List.length_drop];omega
    rw[List.length_take];omega
   cases h
  split at h
  ·split at h
   ·rename_i hc
    injection h with h;injection h with e1 e2;injection e2 with e2 e3
    subst e1;subst e2;subst e3
    have hm:=hr.Ij _ (QH (l:=c.g) (i:=s.l.toNat) (d:=⟨0,[]⟩) (by omega))
    exact⟨hr.gl,⟨h1,h2,h3⟩,by omega,by omega,.inr hm.2.1,by omega⟩
   cases h
  split at h
  ·split at h
   ·injection h with h;injection h with e1 e2;injection e2 with e2 e3
    subst e1;subst e2;subst e3
    exact⟨hr.ad,⟨h1,h2,h3⟩,by omega,by omega,.inr (by simp),by simp⟩
   cases h
  cases h
 cases h
theorem DK {c:ao}{i j:Nat}{s:aq}(h:s∈kE c i j):s.a=i∧s.i=j:=by
 unfold kE at h
 simp only[List.mem_append,List.mem_map,List.mem_range] at h
 rcases h with ((((h|h)|⟨n,_,rfl⟩)|⟨n,_,rfl⟩)|⟨n,_,rfl⟩)|h
 ·split at h
  ·rw[List.mem_singleton] at h;subst h;exact⟨rfl,rfl⟩
  cases h
 ·rw[List.mem_singleton] at h;subst h;exact⟨rfl,rfl⟩
 ·exact⟨rfl,rfl⟩
 ·exact⟨rfl,rfl⟩
 ·exact⟨rfl,rfl⟩
 split at h
 ·rw[List.mem_singleton] at h;subst h;exact⟨rfl,rfl⟩
 cases h
structure Ja (c:ao) (i j:Nat) (x:aR):Prop where
  fi:x.i=i
  fj:x.j=j
  uh:i≤x.i'
  ui:j≤x.j'
  on:i<x.i'∨j<x.j'
  n0:0≤x.n
  n1:x.n≤100
  it:x.i'≤c.t.length
  jt:x.j'≤c.c.length
theorem Ja.ltp {c:ao}{i j:Nat}{x:aR}(h:Ja c i j x):s8 x.i x.j x.i' x.j':=by
 have h1:=h.uh;have h2:=h.ui;have h3:=h.on
 rw[h.fi,h.fj]
 unfold s8
 omega
theorem jn {c:ao}(hr:Rt c){i j:Nat}{x:aR}(h:x∈steps c i j):Ja c i j x:=by
 unfold steps at h
 rcases List.mem_append.1 h with h|h
 ·split at h
  ·rename_i hc
   rw[List.mem_singleton] at h
   subst h
   exact⟨rfl,rfl,by simp,by simp,by simp,by simp,by simp,by simp;omega,by simp;omega⟩
  cases h
 obtain⟨s,hs,he⟩:=List.mem_filterMap.1 h
 obtain⟨ha,hi⟩:=DK hs
 unfold stepOf at he
 split at he
 ·rename_i n i' w hd
  split at he
  ·rename_i hb
   injection he with he
   subst he
   obtain⟨d1,d2,d3,d4,d5,d6⟩:=kS hr hd
   unfold hasB at hb
   rw[bV,decide_eq_true_eq] at hb
   rw[ha,Int.toNat_natCast] at d3 d5
   exact⟨rfl,rfl,d3,by simp,by simp only;omega,by simp only;omega,by simp only;omega,d4,hb.1⟩
  cases he
 cases he
theorem IC (c:ao):(places c).Pairwise fun p q=>s8 p.1 p.2 q.1 q.2:=by
 unfold places
 rw[List.pairwise_flatMap]
 refine⟨fun i _=>?_,?_⟩
 ·rw[List.pairwise_map]
  exact(List.pairwise_lt_range).imp fun h=>.inr ⟨rfl,h⟩
 refine(List.pairwise_lt_range).imp fun {i i'} h p hp q hq=>?_
 obtain⟨a,_,rfl⟩:=List.mem_map.1 hp
 obtain⟨b,_,rfl⟩:=List.mem_map.1 hq
 exact .inl h
theorem F2 {c:ao}{x:aR}:x∈graph c↔∃i j,i≤c.t.length∧j≤c.c.length∧x∈steps c i j:=by
 unfold graph places
 simp only[List.mem_flatMap,List.mem_map,List.mem_range]
 constructor
 ·rintro⟨p,⟨i,hi,j,hj,rfl⟩,hx⟩;exact⟨i,j,by omega,by omega,hx⟩
 rintro⟨i,j,hi,hj,hx⟩;exact⟨(i,j),⟨i,by omega,j,by omega,rfl⟩,hx⟩
theorem QK {c:ao}(hr:Rt c):CH (graph c):=by
 refine⟨fun x hx=>?_,?_⟩
 ·obtain⟨i,j,_,_,h⟩:=F2.1 hx
  exact(jn hr h).ltp
 unfold graph
 rw[List.pairwise_flatMap]
 refine⟨fun p _=>?_,(IC c).imp fun {p q} h x hx y hy=>?_⟩
 ·refine List.pairwise_of_forall_mem_list fun x hx y hy=>?_
  have h1:=jn hr hx
  have h2:=jn hr hy
  rw[h1.fi,h1.fj,h2.fi,h2.fj]
  exact s8.irrefl
 have h1:=jn hr hx
 have h2:=jn hr hy
 rw[h1.fi,h1.fj,h2.fi,h2.fj]
 unfold s8 at h ⊢
 omega
def nU (l:List jO)(f t:Int):Option Int:=l.foldl (fun o x=>if x.f=f∧x.t=t then some x.c else o) none
theorem zxx (l:List jO)(x:jO)(f t:Int):nU (l++[x]) f t=if x.f=f∧x.t=t then some x.c else nU l f t:=by
 unfold nU;rw[List.foldl_append];rfl
theorem XC {l:List jO}{k:Nat}(h:k<l.length)(f t:Int):nU (l.take (k+1)) f t=if l[k].f=f∧l[k].t=t then some l[k].c else nU (l.take k) f t:=by
 rw[List.take_succ_eq_append_getElem h,zxx]
theorem PO {l:List jO}{f t:Int}(h:∀x∈l,¬(x.f=f∧x.t=t)):eB l f t=none:=by
 induction l with
 |nil=>rfl
 |cons a r ih=>
  unfold eB
  rw[if_neg (h a List.mem_cons_self)]
  exact ih fun x hx=>h x (List.mem_cons_of_mem _ hx)
theorem K1:∀ {l:List jO} {f t:Int} (o:Option Int),(l.Pairwise fun x y=>¬(x.f=y.f∧x.t=y.t))→l.foldl (fun o x=>if x.f=f∧x.t=t then some x.c else o) o=(eB l f t).or o
 |[],f,t,o,_=>by simp[eB]
 |a::r,f,t,o,h=>by
  rw[List.pairwise_cons] at h
  rw[List.foldl_cons,K1 _ h.2]
  by_cases ha:a.f=f∧a.t=t
  ·have hn:eB r f t=none:=PO fun x hx hh=>h.1 x hx ⟨ha.1.trans hh.1.symm,ha.2.trans hh.2.symm⟩
   rw[hn,if_pos ha]
   unfold eB
   rw[if_pos ha];rfl
  rw[if_neg ha]
  conv=>rhs;unfold eB
  rw[if_neg ha]
theorem PN {c:ao}(h:bf c=0):c.mx.Pairwise fun x y=>¬(x.f=y.f∧x.t=y.t):=by
 have hm:mq [] c.mx=true:=by
  cases hm:mq [] c.mx with
  |true=>rfl
  |false=>
   exfalso
   have:pR c≠0:=by
    unfold pR
    rw[hm]
    split
    ·split
     ·decide
     simp
    decide
   unfold bf at h
   rw[if_pos this] at h
   exact this h
 exact(Nt hm).2.2
theorem XA {c:ao}(h:bf c=0)(f t:Int):nU c.mx f t=eB c.mx f t:=by
 unfold nU
 rw[K1 none (PN h)];simp
def y7 (c:ao):List aq→List Int→Nat→Int→Option (List Int×Int)
 |[],out,i,sum=>some (out++c.t.drop i,sum)
 |s::r,out,i,sum=>
  if (i:Int)≤s.a∧s.a≤(c.t.length:Int) then
   match aK c s with
   |some (n,i',w)=>if s.i=((out++(c.t.drop i).take (s.a.toNat - i)).length:Int) then y7 c r (out++(c.t.drop i).take (s.a.toNat - i)++w) i' (sum+n) else none
   |none=>none
  else none
def dF (c:ao)(l:List aq):Option (List Int×Int):=y7 c l [] 0 0
def cF (c:ao)(l:List aq):Option Int:=if 100<l.length then none else match dF c l with
 |some (o,n)=>if o=c.c then some n else none
 |none=>none
def val (tk:Int)(o:lX)(a b:Nat):Int:=(o a b).getD tk
def bz (D:Nat→Nat→Int)(i j:Nat)(v:Int):Nat→Nat→Int:=fun a b=>if a=i∧b=j then v else D a b
def nC (o:lX)(k:Nat):Prop:=∀a b v,o a b=some v→0≤v∧v≤100*(k:Int)
theorem nC.start:nC start 0:=fun a b v h=>by
 unfold Sl.start at h
 split at h
 ·injection h with h;subst h;omega
 cases h
theorem nC.mB {o:lX}{k:Nat}(h:nC o k){x:aR}(h0:0≤x.n)(h1:x.n≤100):nC (mB o x) (k+1):=fun a b v hv=>by
 unfold Sl.mB jW at hv
 split at hv
 ·rename_i gu
  rcases TY hv with h2|h2
  ·have:=h _ _ _ h2;omega
  cases h3:o x.i x.j with
  |none=>rw[h3] at h2;cases h2
  |some u=>
   rw[h3] at h2
   have h2:u+x.n=v:=by injection h2
   have:=h _ _ _ h3
   omega
 have:=h _ _ _ hv;omega
theorem nC.foldl:∀ {l:List aR} {o:lX} {k:Nat},nC o k→(∀x∈l,0≤x.n∧x.n≤100)→nC (y5 o l) (k+l.length)
 |[],o,k,h,_=>h
 |x::l,o,k,h,hx=>by
  have h1:=hx x List.mem_cons_self
  have:=nC.foldl (l:=l) (h.mB h1.1 h1.2) fun y hy=>hx y (List.mem_cons_of_mem _ hy)
  rw[List.length_cons,show k+(l.length+1)=k+1+l.length by omega]
  exact this
theorem nC.mono {o:lX}{k m:Nat}(h:nC o k)(hm:k≤m):nC o m:=fun a b v hv=>by have:=h a b v hv;omega
theorem QL {tk:Int}{o:lX}{a b:Nat}{v:Int}(h:o a b=some v):val tk o a b=v:=by unfold val;rw[h];rfl
theorem YM {tk:Int}{o:lX}{k:Nat}(h:nC o k)(hf:100*(k:Int)+100≤tk){x:aR}(h0:0≤x.n)(h1:x.n≤100):val tk (mB o x)=bz (val tk o) x.i' x.j' (min (val tk o x.i' x.j') (val tk o x.i x.j+x.n)):=by
 funext a b
 unfold val mB jW bz
 split
 ·cases h2:o x.i' x.j' with
  |none=>
   cases h3:o x.i x.j with
   |none=>simp[pF];omega
   |some v=>have:=h _ _ _ h3;simp[pF];omega
  |some u=>
   have hu:=h _ _ _ h2
   cases h3:o x.i x.j with
   |none=>simp[pF];omega
   |some v=>simp[pF]
 rfl
theorem YN {tk:Int}{o:lX}{x:aR}{k:Nat}(h:nC o k)(hf:100*(k:Int)<tk)(hp:¬val tk o x.i x.j<tk):mB o x=o:=by
 have hn:o x.i x.j=none:=by
  cases h3:o x.i x.j with
  |none=>rfl
  |some v=>exfalso;rw[QL h3] at hp;have:=h _ _ _ h3;omega
 funext a b
 unfold mB jW
 split
 ·rename_i gu
  obtain⟨rfl,rfl⟩:=gu
  rw[hn]
  cases o x.i' x.j'<;>rfl
 rfl
theorem Si (c:ao)(i j:Nat)(hi:i≤c.t.length):(kE c i j).length≤c.t.length+c.g.length+3:=by
 unfold kE
 simp only[List.length_append,List.length_map,List.length_range,List.length_singleton]
 split<;>simp<;>omega
theorem I4 (c:ao)(i j:Nat)(hi:i≤c.t.length):(steps c i j).length≤c.t.length+c.g.length+4:=by
 unfold steps
 rw[List.length_append]
 have h1:=List.length_filterMap_le (stepOf c i j) (kE c i j)
 have h2:=Si c i j hi
 split<;>simp<;>omega
theorem T2 {α β:Type}(f:α→List β)(m:Nat):∀(l:List α),(∀x∈l,(f x).length≤m)→(l.flatMap f).length≤l.length*m
 |[],_=>by simp
 |a::r,h=>by
  have ih:=T2 f m r fun x hx=>h x (List.mem_cons_of_mem _ hx)
  have:=h a List.mem_cons_self
  rw[List.flatMap_cons,List.length_append,List.length_cons,Nat.succ_mul]
  omega
theorem zuk (c:ao):(places c).length=(c.t.length+1)*(c.c.length+1):=by
 have:∀(n m:Nat),((List.range n).flatMap fun i=>(List.range m).map fun j=>(i,j)).length=n*m:=by
  intro n m
  induction n with
  |zero=>simp
  |succ n ih=>rw[List.range_succ,List.flatMap_append,List.length_append,ih,Nat.succ_mul];simp
 exact this _ _
theorem IA {c:ao}(hr:Rt c):(graph c).length≤139258:=by
 have h1:=T2 (fun p:Nat×Nat=>steps c p.1 p.2) (c.t.length+c.g.length+4) (places c) fun p hp=>by
  unfold places at hp
  simp only[List.mem_flatMap,List.mem_map,List.mem_range] at hp
  obtain⟨i,hi,j,hj,rfl⟩:=hp
  exact I4 c i j (by omega)
 rw[zuk] at h1
 have e1:=hr.tl;have e2:=hr.cl;have e3:=hr.sH
 have h2:(c.t.length+1)*(c.c.length+1)≤49*49:=Nat.mul_le_mul (by omega) (by omega)
 have h3:(c.t.length+1)*(c.c.length+1)*(c.t.length+c.g.length+4)≤49*49*58:=Nat.mul_le_mul h2 (by omega)
 exact Nat.le_trans h1 h3
theorem QA {c:ao}(hr:Rt c):∀x∈graph c,0≤x.n∧x.n≤100:=fun x hx=>by
 obtain⟨i,j,_,_,h⟩:=F2.1 hx
 have:=jn hr h
 exact⟨this.n0,this.n1⟩
def lW (m i:Nat):List (Nat×Nat):=(List.range m).map fun j=>(i,j)
def mu (m i j:Nat):List (Nat×Nat):=(List.range i).flatMap (lW m)++lW j i
theorem Io (m i j:Nat):mu m i (j+1)=mu m i j++[(i,j)]:=by
 unfold mu lW
 rw[List.range_succ,List.map_append,List.append_assoc];rfl
theorem Ip (m i:Nat):mu m i m=mu m (i+1) 0:=by
 unfold mu
 rw[List.range_succ,List.flatMap_append]
 simp[lW]
theorem FD (c:ao):mu (c.c.length+1) (c.t.length+1) 0=places c:=by
 unfold mu places lW
 simp
theorem P9 {m i j a b:Nat}:(a,b)∈mu m i j↔(a<i∧b<m)∨(a=i∧b<j):=by
 unfold mu lW
 simp only[List.mem_append,List.mem_flatMap,List.mem_map,List.mem_range,bO]
 constructor
 ·rintro (⟨x,hx,y,hy,rfl,rfl⟩|⟨y,hy,rfl,rfl⟩)
  ·exact .inl ⟨hx,hy⟩
  exact .inr ⟨rfl,hy⟩
 rintro (⟨h1,h2⟩|⟨rfl,h2⟩)
 ·exact .inl ⟨a,h1,b,h2,rfl,rfl⟩
 exact .inr ⟨b,h2,rfl,rfl⟩
theorem xE {c:ao}{a b:Nat}:(a,b)∈places c↔a≤c.t.length∧b≤c.c.length:=by
 rw[← FD,P9];omega
def rH (c:ao)(p:aR→Bool)(i j:Nat):List aR:=((mu (c.c.length+1) i j).flatMap fun q=>steps c q.1 q.2).filter p
theorem Yr (c:ao)(p:aR→Bool)(i j:Nat):rH c p i (j+1)=rH c p i j++(steps c i j).filter p:=by
 unfold rH;rw[Io,List.flatMap_append,List.filter_append];simp
theorem Ys (c:ao)(p:aR→Bool)(i:Nat):rH c p i (c.c.length+1)=rH c p (i+1) 0:=by
 unfold rH;rw[Ip]
theorem Yt (c:ao)(p:aR→Bool):rH c p (c.t.length+1) 0=(graph c).filter p:=by
 unfold rH graph;rw[FD]
open Go Go.Am
mutual
theorem K0 (vh:ai):∀ {v:PV},v.aH=true→bK vh v=some v
 |.func f xs ys,h=>by
  simp only[PV.aH,bV] at h
  simp only[bK,vB vh h.1,vB vh h.2]
 |.agg cs,h=>by simp only[PV.aH] at h;simp only[bK,vB vh h,Option.map_some]
 |.bn cs,h=>by simp only[PV.aH] at h;simp only[bK,vB vh h,Option.map_some]
 |.iface t v,h=>by simp only[PV.aH] at h;simp only[bK,h,aM]
 |.ptr ..,h=>by simp[PV.aH] at h
 |.own ..,h=>by simp[PV.aH] at h
 |.sub ..,h=>by simp[PV.aH] at h
 |.grow ..,h=>by simp[PV.aH] at h
 |.ba ..,h=>by simp[PV.aH] at h
 |.bw ..,h=>by simp[PV.aH] at h
 |.bool _,_=>by simp only[bK]
 |.int _ _,_=>by simp only[bK]
 |.str _,_=>by simp only[bK]
 |.nilFunc,_=>by simp only[bK]
 |.nilIface,_=>by simp only[bK]
 |.eU,_=>by simp only[bK]
 |.aG,_=>by simp only[bK]
 |.dM,_=>by simp only[bK]
 |.e0,_=>by simp only[bK]
 |.vec _,_=>by simp only[bK]
 |.vp _,_=>by simp only[bK]
 |.aC _,_=>by simp only[bK]
theorem vB (vh:ai):∀ {l:List PV},PV.aJ l=true→cA vh l=some l
 |[],_=>by simp only[cA]
 |v::r,h=>by
  simp only[PV.aJ,bV] at h
  simp only[cA,K0 vh h.1,vB vh h.2]
end
@[simp] theorem z2k (l:List Int):List.take l.length (l.map (PV.int .i64))=l.map (PV.int .i64):=List.take_of_length_le (by rw[List.length_map];exact Nat.le_refl _)
@[simp] theorem z2e (l:List Int):l.all (PV.one∘PV.int .i64)=true:=by simp[PV.one]
def dO (r v:PV):Prop:=Alt ai.empty 0 (fun _=>true) id r v
variable [bG] in
theorem aN.soft {P:Program}{f:FuncId}{args:List PV}{v:PV}(hp:aN P f args fun r=>dO r v)(hv:v.aH=true):aN P f args fun r=>r=v:=hp.alt fun r h=>⟨v,h,hv,rfl⟩
theorem ly {v:PV}(h:v.aH=true):dO v v:=.same v h
theorem Fx {l l2:List PV}(h:aF ai.empty 0 (fun _=>true) id l l2):dO (.bn l) (.bn l2):=.CI h
variable [bG] in
theorem aN.XN {P:Program}{f:FuncId}{l r:List PV}{R:PV→Prop}(hp:aN P f (l++.vec []::r) R):aN P f (l++.aG::r) R:=fun lo g σ h aB ha s=>by
 refine hp lo g σ h aB ⟨by have:=ha.1;simpa using this,fun i v v' hv aW=>?_⟩ s
 by_cases hi:i=l.length
 ·subst hi
  have h1:(l++PV.aG::r)[l.length]?=some .aG:=by simp
  have h2:=ha.2 _ _ v' h1 aW
  have h3:v=.vec []:=by simpa using hv.symm
  subst h3
  cases h2 with
  |fr _ _ h=>cases h;exact .fr _ _ .fu
 refine ha.2 i v v' ?_ aW
 rw[← hv]
 rcases Nat.lt_or_ge i l.length with h|h
 ·rw[List.getElem?_append_left h,List.getElem?_append_left h]
 rw[List.getElem?_append_right h,List.getElem?_append_right h]
 obtain⟨j,hj⟩:∃j,i - l.length=j+1:=⟨i - l.length - 1,by omega⟩
 rw[hj];rfl
theorem g48:(prog.stoodInHeld 48||prog.eqGuardType prog.depth 48)=false:=by decide +kernel
theorem n48:(match prog.underlying 48 with|some (.struct fs)=>fs.toList.map (fun f=>(f.name == "_", cW prog f.type,f.type,f.offset))|_=>[])=[(false,some 1,3,0),(false,some 1,3,1),(false,some 1,3,2),(false,some 1,3,3),(false,some 1,3,4)]:=by decide +kernel
theorem km (a0 a1 a2 a3 a4 b0 b1 b2 b3 b4:Int):dC prog 48 (.agg #[.int .i64 a0,.int .i64 a1,.int .i64 a2,.int .i64 a3,.int .i64 a4]) (.agg #[.int .i64 b0,.int .i64 b1,.int .i64 b2,.int .i64 b3,.int .i64 b4])=some (a0==b0&&a1==b1&&a2==b2&&a3==b3&&a4==b4):=by
 have hn:=n48
 have hg:=g48
 unfold dC
 simp only
 cases hu:prog.underlying 48 with
 |none=>rw[hu] at hn;simp at hn
 |some td=>
  cases td with
  |struct fs=>
   rw[hu] at hn
   simp only at hn ⊢
   rw[hg]
   simp only[bq]
   generalize fs.toList=l at hn
   rcases l with _|⟨f1,_|⟨f2,_|⟨f3,_|⟨f4,_|⟨f5,_|⟨f6,r⟩⟩⟩⟩⟩⟩
   ·simp at hn
   ·simp at hn
   ·simp at hn
   ·simp at hn
   ·simp at hn
   ·simp only[List.map_cons,List.map_nil,List.cons.injEq,bO,and_true] at hn
    obtain⟨⟨GG,GH,GI,GJ⟩,⟨GK,GL,GM,GN⟩,⟨k2a,k2b,k2c,k2d⟩,⟨k3a,k3b,k3c,k3d⟩,⟨k4a,k4b,k4c,k4d⟩⟩:=hn
    simp only[tC,GG,GH,GI,GJ,GK,GL,GM,GN,k2a,k2b,k2c,k2d,k3a,k3b,k3c,k3d,k4a,k4b,k4c,k4d,bq]
    have ha:bB prog 3=some false:=by decide +kernel
    have BB:prog.underlying 3=some (.int .i64):=by rfl
    simp[apart,ha,A3,BB]
    cases a0==b0<;>cases a1==b1<;>cases a2==b2<;>cases a3==b3<;>cases a4==b4<;>rfl
   simp at hn
  |_=>rw[hu] at hn;simp at hn
theorem Nu:(prog.stoodInHeld 137||prog.eqGuardType prog.depth 137)=false:=by decide +kernel
theorem n137:(match prog.underlying 137 with|some (.struct fs)=>fs.toList.map (fun f=>(f.name == "_", cW prog f.type,f.type,f.offset))|_=>[])=[(false,some 1,3,0),(false,some 1,3,1)]:=by decide +kernel
theorem tZ (a0 a1 b0 b1:Int):dC prog 137 (.agg #[.int .i64 a0,.int .i64 a1]) (.agg #[.int .i64 b0,.int .i64 b1])=some (a0==b0&&a1==b1):=by
 have hn:=n137
 have hg:=Nu
 unfold dC
 simp only
 cases hu:prog.underlying 137 with
 |none=>rw[hu] at hn;simp at hn
 |some td=>
  cases td with
  |struct fs=>
   rw[hu] at hn
   simp only at hn ⊢
   rw[hg]
   simp only[bq]
   generalize fs.toList=l at hn
   rcases l with _|⟨f1,_|⟨f2,_|⟨f3,r⟩⟩⟩
   ·simp at hn
   ·simp at hn
   ·simp only[List.map_cons,List.map_nil,List.cons.injEq,bO,and_true] at hn
    obtain⟨⟨GG,GH,GI,GJ⟩,⟨GK,GL,GM,GN⟩⟩:=hn
    simp only[tC,GG,GH,GI,GJ,GK,GL,GM,GN,bq]
    have ha:bB prog 3=some false:=by decide +kernel
    have BB:prog.underlying 3=some (.int .i64):=by rfl
    simp[apart,ha,A3,BB]
    cases a0==b0<;>cases a1==b1<;>rfl
   simp at hn
  |_=>rw[hu] at hn;simp at hn
end Go.Am.Sl
end
section
namespace Go.Am
noncomputable def mT:Code→List (Array Tmp×Code×Code)
 |.seq a b=>mT a++mT b
 |.cond _ a b=>mT a++mT b
 |.block _ c=>mT c
 |.loop c=>mT c
 |.rangeFunc _ ps a b=>(ps,a,b)::(mT a++mT b)
 |.scope b=>mT b
 |_=>[]
noncomputable def sM (fn:Func)(k:Nat)(ae:aX)(j:Option Code):aL:=match fn.body with
 |some c=>match (mT c)[k]? with
  |some (ps,a,b)=>.loop fn.ntmps ps a b ae j
  |none=>.box []
 |none=>.box []
theorem kZ.sM {vh:ai}{n2:Nat}{D:Nat→Bool}{ρ:Nat→Nat}{fn:Func}{k:Nat}{ae ax:aX}{x:Option Code}(h:mU ae vh n2 D ρ ax):kZ vh n2 D ρ (sM fn k ae x) (sM fn k ax x):=by
 unfold Go.Am.sM
 split
 ·split
  ·exact pX.mk rfl rfl rfl rfl rfl h
  exact aF.nil
 exact aF.nil
variable [bG] in
theorem kI.qy {P:Program}{N b:Nat}{o:Oper}{next:aX→ai→Prop}{ae ax:aX}{vh aP:ai}(a:Rec b ae vh ax aP)(hc:kI P N b o next ax aP):kI P N b o next ae vh:=by
 obtain⟨D,ρ,a⟩:=a
 exact bE.zvj D ρ a hc
end Go.Am
end
section
namespace Go.Am.Sl
def jj (c:ao)(s:aq):Bool:=match aK c s with
 |some (_,_,w)=>hasB c s.i.toNat w
 |none=>false
def kF (c:ao)(i j:Nat):List aq:=(kE c i j).filter (jj c)
def aq.lt (a b:aq):Prop:=a.a<b.a∨(a.a=b.a∧(a.i<b.i∨(a.i=b.i∧(a.k<b.k∨(a.k=b.k∧(a.l<b.l∨(a.l=b.l∧a.w<b.w)))))))
instance (a b:aq):Decidable (a.lt b):=by unfold aq.lt;infer_instance
theorem aq.F1 (a:aq):¬a.lt a:=by unfold aq.lt;omega
theorem aq.lt_trans {a b c:aq}(h:a.lt b)(g:b.lt c):a.lt c:=by unfold aq.lt at *;omega
theorem aq.ext' {a b:aq}(h1:a.k=b.k)(h2:a.a=b.a)(h3:a.i=b.i)(h4:a.l=b.l)(h5:a.w=b.w):a=b:=by
 cases a;cases b;simp_all
theorem aq.Qw (a b:aq):a.lt b∨a=b∨b.lt a:=by
 by_cases h:a=b
 ·exact .inr (.inl h)
 have:¬(a.k=b.k∧a.a=b.a∧a.i=b.i∧a.l=b.l∧a.w=b.w):=fun⟨h1,h2,h3,h4,h5⟩=>h (aq.ext' h1 h2 h3 h4 h5)
 unfold aq.lt
 omega
def eE (l:List aq)(s:aq):List aq:=match l with
 |[]=>[s]
 |a::r=>if a.lt s then a::eE r s else if a=s then a::r else s::a::r
theorem I0 {s x:aq}:∀ {l:List aq},x∈eE l s↔x∈l∨x=s
 |[]=>by simp[eE]
 |a::r=>by
  unfold eE
  split
  ·rw[List.mem_cons,I0,List.mem_cons,or_assoc]
  split
  ·rename_i h;subst h
   constructor
   ·exact .inl
   rintro (h|rfl)
   ·exact h
   exact List.mem_cons_self
  rw[List.mem_cons]
  constructor
  ·rintro (h|h)
   ·exact .inr h
   exact .inl h
  rintro (h|h)
  ·exact .inr h
  exact .inl h
theorem T3 {s:aq}:∀ {l:List aq},l.Pairwise aq.lt→(eE l s).Pairwise aq.lt
 |[],_=>by simp[eE]
 |a::r,h=>by
  rw[List.pairwise_cons] at h
  unfold eE
  split
  ·rename_i ha
   rw[List.pairwise_cons]
   refine⟨fun x hx=>?_,T3 h.2⟩
   rcases I0.1 hx with h1|rfl
   ·exact h.1 x h1
   exact ha
  split
  ·exact List.pairwise_cons.2 h
  rename_i h1 h2
  have h3:s.lt a:=by
   rcases aq.Qw a s with h|h|h
   ·exact absurd h h1
   ·exact absurd h h2
   exact h
  rw[List.pairwise_cons]
  refine⟨fun x hx=>?_,List.pairwise_cons.2 h⟩
  rcases List.mem_cons.1 hx with rfl|hx
  ·exact h3
  exact aq.lt_trans h3 (h.1 x hx)
theorem T4:∀ {l m:List aq},l.Pairwise aq.lt→m.Pairwise aq.lt→(∀x,x∈l↔x∈m)→l=m
 |[],[],_,_,_=>rfl
 |[],b::m,_,_,h=>by have:=(h b).2 List.mem_cons_self;cases this
 |a::l,[],_,_,h=>by have:=(h a).1 List.mem_cons_self;cases this
 |a::l,b::m,hl,hm,h=>by
  rw[List.pairwise_cons] at hl hm
  have gu:a=b:=by
   rcases List.mem_cons.1 ((h a).1 List.mem_cons_self) with h1|h1
   ·exact h1
   rcases List.mem_cons.1 ((h b).2 List.mem_cons_self) with h2|h2
   ·exact h2.symm
   exact absurd (aq.lt_trans (hm.1 a h1) (hl.1 b h2)) (aq.F1 b)
  subst gu
  congr 1
  refine T4 hl.2 hm.2 fun x=>?_
  constructor
  ·intro hx
   rcases List.mem_cons.1 ((h x).1 (List.mem_cons_of_mem _ hx)) with rfl|h1
   ·exact absurd (hl.1 _ hx) (aq.F1 _)
   exact h1
  intro hx
  rcases List.mem_cons.1 ((h x).2 (List.mem_cons_of_mem _ hx)) with rfl|h1
  ·exact absurd (hm.1 _ hx) (aq.F1 _)
  exact h1
def l8 (c:ao)(i j:Nat):List aq:=
 (if j<c.c.length then [⟨1,i,j,0,c.c.getD j 0⟩,⟨6,i,j,0,c.c.getD j 0⟩] else [])++[⟨2,i,j,0,0⟩]++((List.range (c.t.length+1)).flatMap fun (k:Nat)=>[⟨3,i,j,k,0⟩,⟨4,i,j,k,0⟩])++((List.range c.g.length).map fun (k:Nat)=>⟨5,i,j,k,0⟩)
def I1 (c:ao)(i j:Nat):List aq:=((l8 c i j).filter (jj c)).foldl eE []
theorem T5:∀(l a:List aq),a.Pairwise aq.lt→(l.foldl eE a).Pairwise aq.lt∧∀x,x∈l.foldl eE a↔x∈a∨x∈l
 |[],a,h=>⟨h,fun x=>by simp⟩
 |s::r,a,h=>by
  obtain⟨h1,h2⟩:=T5 r (eE a s) (T3 h)
  refine⟨h1,fun x=>?_⟩
  rw[List.foldl_cons,h2,I0,List.mem_cons,or_assoc]
theorem Nv {n:Nat}{f:Nat→aq}(h:∀a b,a<b→(f a).lt (f b)):((List.range n).map f).Pairwise aq.lt:=by
 rw[List.pairwise_map]
 exact List.pairwise_lt_range.imp fun h1=>h _ _ h1
theorem QS (c:ao)(i j:Nat):(kE c i j).Pairwise aq.lt:=by
 have Cr:((List.range (c.t.length - i)).map fun (k:Nat)=>(⟨3,i,j,k+1,0⟩:aq)).Pairwise aq.lt:=Nv fun a b h=>by unfold aq.lt;simp;omega
 have hr4:((List.range i).map fun (k:Nat)=>(⟨4,i,j,k+1,0⟩:aq)).Pairwise aq.lt:=Nv fun a b h=>by unfold aq.lt;simp;omega
 have hr5:((List.range c.g.length).map fun (k:Nat)=>(⟨5,i,j,k,0⟩:aq)).Pairwise aq.lt:=Nv fun a b h=>by unfold aq.lt;simp;omega
 have ju:∀ {k k':Int} {a b c d:Int},k<k'→(⟨k,i,j,a,b⟩:aq).lt ⟨k',i,j,c,d⟩:=fun h=>by unfold aq.lt;simp;omega
 unfold kE
 generalize hA:(if j<c.c.length then [(⟨1,i,j,0,c.c.getD j 0⟩:aq)] else [])=A
 generalize hB:(if j<c.c.length then [(⟨6,i,j,0,c.c.getD j 0⟩:aq)] else [])=B
 have GY:∀x∈A,x=⟨1,i,j,0,c.c.getD j 0⟩:=fun x hx=>by
  rw[← hA] at hx;split at hx
  ·simpa using hx
  cases hx
 have GZ:∀x∈B,x=⟨6,i,j,0,c.c.getD j 0⟩:=fun x hx=>by
  rw[← hB] at hx;split at hx
  ·simpa using hx
  cases hx
 have hAp:A.Pairwise aq.lt:=by rw[← hA];split<;>simp
 have hBp:B.Pairwise aq.lt:=by rw[← hB];split<;>simp
 simp only[List.pairwise_append,List.mem_append,List.mem_map,List.mem_range,List.mem_singleton]
 refine⟨⟨⟨⟨⟨hAp,by simp,?_⟩,Cr,?_⟩,hr4,?_⟩,hr5,?_⟩,hBp,?_⟩
 ·rintro x hx y rfl
  rw[GY x hx];exact ju (by omega)
 ·rintro x (hx|rfl) y ⟨k,_,rfl⟩
  ·rw[GY x hx];exact ju (by omega)
  exact ju (by omega)
 ·rintro x ((hx|rfl)|⟨m,_,rfl⟩) y ⟨k,_,rfl⟩
  ·rw[GY x hx];exact ju (by omega)
  ·exact ju (by omega)
  exact ju (by omega)
 ·rintro x (((hx|rfl)|⟨m,_,rfl⟩)|⟨m,_,rfl⟩) y ⟨k,_,rfl⟩
  ·rw[GY x hx];exact ju (by omega)
  ·exact ju (by omega)
  ·exact ju (by omega)
  exact ju (by omega)
 rintro x ((((hx|rfl)|⟨m,_,rfl⟩)|⟨m,_,rfl⟩)|⟨m,_,rfl⟩) y hy
 ·rw[GY x hx,GZ y hy];exact ju (by omega)
 ·rw[GZ y hy];exact ju (by omega)
 ·rw[GZ y hy];exact ju (by omega)
 ·rw[GZ y hy];exact ju (by omega)
 rw[GZ y hy];exact ju (by omega)
theorem xc4 {c:ao}{i j:Nat}{k:Int}(h:jj c ⟨3,i,j,k,0⟩=true):1≤k∧k≤(c.t.length:Int) - i:=by
 unfold jj at h
 cases hd:aK c ⟨3,i,j,k,0⟩ with
 |none=>rw[hd] at h;cases h
 |some x=>
  unfold aK at hd
  simp only[Int.reduceEq,if_false,if_true] at hd
  split at hd
  ·split at hd
   ·rename_i h1;exact⟨h1.2.1,h1.2.2.1⟩
   cases hd
  cases hd
theorem xc5 {c:ao}{i j:Nat}{k:Int}(h:jj c ⟨4,i,j,k,0⟩=true):1≤k∧k≤i:=by
 unfold jj at h
 cases hd:aK c ⟨4,i,j,k,0⟩ with
 |none=>rw[hd] at h;cases h
 |some x=>
  unfold aK at hd
  simp only[Int.reduceEq,if_false,if_true] at hd
  split at hd
  ·split at hd
   ·rename_i h1;exact⟨h1.1,h1.2.1⟩
   cases hd
  cases hd
theorem zxn (c:ao)(i j:Nat)(hi:i≤c.t.length):I1 c i j=kF c i j:=by
 obtain⟨h1,h2⟩:=T5 ((l8 c i j).filter (jj c)) [] List.Pairwise.nil
 refine T4 h1 ((QS c i j).filter _) fun x=>?_
 rw[show I1 c i j=((l8 c i j).filter (jj c)).foldl eE [] from rfl] at *
 rw[h2,kF]
 simp only[List.not_mem_nil,false_or,List.mem_filter]
 refine and_congr_left fun hx=>?_
 unfold l8 kE
 have h3:∀k:Nat,x=⟨3,i,j,k,0⟩→∃n:Nat,n<c.t.length - i∧x=⟨3,i,j,(n+1:Nat),0⟩:=fun k e=>by
  subst e
  obtain⟨a,b⟩:=xc4 hx
  exact⟨k - 1,by omega,by congr 1;omega⟩
 have h4:∀k:Nat,x=⟨4,i,j,k,0⟩→∃n:Nat,n<i∧x=⟨4,i,j,(n+1:Nat),0⟩:=fun k e=>by
  subst e
  obtain⟨a,b⟩:=xc5 hx
  exact⟨k - 1,by omega,by congr 1;omega⟩
 by_cases hj:j<c.c.length
 ·simp only[hj,if_true,List.mem_append,List.mem_flatMap,List.mem_map,List.mem_range,List.mem_cons,List.not_mem_nil,or_false]
  constructor
  ·rintro ((((h|h)|h)|⟨k,hk,h|h⟩)|⟨k,hk,h⟩)
   ·exact .inl (.inl (.inl (.inl (.inl h))))
   ·exact .inr h
   ·exact .inl (.inl (.inl (.inl (.inr h))))
   ·obtain⟨n,hn,e⟩:=h3 k h
    exact .inl (.inl (.inl (.inr ⟨n,hn,e.symm⟩)))
   ·obtain⟨n,hn,e⟩:=h4 k h
    exact .inl (.inl (.inr ⟨n,hn,e.symm⟩))
   exact .inl (.inr ⟨k,hk,h⟩)
  rintro (((((h|h)|⟨k,hk,h⟩)|⟨k,hk,h⟩)|⟨k,hk,h⟩)|h)
  ·exact .inl (.inl (.inl (.inl h)))
  ·exact .inl (.inl (.inr h))
  ·exact .inl (.inr ⟨k+1,by omega,.inl h.symm⟩)
  ·exact .inl (.inr ⟨k+1,by omega,.inr h.symm⟩)
  ·exact .inr ⟨k,hk,h⟩
  exact .inl (.inl (.inl (.inr h)))
 simp only[hj,if_false,List.mem_append,List.mem_flatMap,List.mem_map,List.mem_range,List.mem_cons,List.not_mem_nil,or_false,false_or]
 constructor
 ·rintro ((h|⟨k,hk,h|h⟩)|⟨k,hk,h⟩)
  ·exact .inl (.inl (.inl h))
  ·obtain⟨n,hn,e⟩:=h3 k h
   exact .inl (.inl (.inr ⟨n,hn,e.symm⟩))
  ·obtain⟨n,hn,e⟩:=h4 k h
   exact .inl (.inr ⟨n,hn,e.symm⟩)
  exact .inr ⟨k,hk,h⟩
 rintro (((h|⟨k,hk,h⟩)|⟨k,hk,h⟩)|⟨k,hk,h⟩)
 ·exact .inl (.inl h)
 ·exact .inl (.inr ⟨k+1,by omega,.inl h.symm⟩)
 ·exact .inl (.inr ⟨k+1,by omega,.inr h.symm⟩)
 exact .inr ⟨k,hk,h⟩
open Go Go.Am
def pl (i j:Nat):PV:=.agg [.int .i64 i,.int .i64 j]
def xW (i j:Nat):List Value:=[.int .i64 i,.int .i64 j]
def a8 (ps:List (Nat×Nat))(D:Nat→Nat→Int):List (PV×PV):=ps.map fun p=>(pl p.1 p.2,.int .i64 (D p.1 p.2))
theorem T6 (a b i j:Nat):iu (xW a b) (xW i j)=some (decide (a=i)&&decide (b=j)):=by
 simp only[xW,iu,decide_true,aM,Bool.and_true,Int.ofNat_inj]
theorem zrl {l m:List Value}{ds:List PV}{v:PV}{r:List (PV×PV)}{s:Bool}{q:Option PV}(h1:jk ds=some m)(h2:iu l m=some s)(h3:kV l r=some q):kV l ((.agg ds,v)::r)=some (bif s then some v else q):=by
 simp only[kV,h1,h2,h3]
theorem vy (a b:Nat)(D:Nat→Nat→Int):∀ps:List (Nat×Nat),kV (xW a b) (a8 ps D)=some (if (a,b)∈ps then some (.int .i64 (D a b)) else none)
 |[]=>rfl
 |(i,j)::r=>by
  have hc:=zrl (l:=xW a b) (m:=xW i j) (ds:=[.int .i64 i,.int .i64 j]) (v:=.int .i64 (D i j)) rfl (T6 a b i j) (vy a b D r)
  refine Eq.trans hc ?_
  by_cases h1:a=i∧b=j
  ·obtain⟨rfl,rfl⟩:=h1
   simp
  have:(decide (a=i)&&decide (b=j))=false:=by
   rw[Bool.eq_false_iff];intro hh;rw[bV,decide_eq_true_eq,decide_eq_true_eq] at hh;exact h1 hh
  simp only[this,bq]
  have hm:(a,b)∈(i,j)::r↔(a,b)∈r:=by
   rw[List.mem_cons]
   constructor
   ·rintro (h|h)
    ·injection h with e1 e2;exact absurd ⟨e1,e2⟩ h1
    exact h
   exact .inr
  simp only[hm]
theorem z6t (a b i j:Nat):qP (xW a b) (pl i j)=(decide (a=i)&&decide (b=j)):=by
 have h:=T6 a b i j
 unfold xW at h ⊢
 simp only[qP,pl,jk,Option.map_some,h]
theorem FB {a b:Nat}{D:Nat→Nat→Int}{ps:List (Nat×Nat)}(h:(a,b)∈ps)(v:Int):qz (xW a b) [.int .i64 a,.int .i64 b] (.int .i64 v) (a8 ps D)=some (a8 ps (bz D a b v)):=by
 unfold qz
 rw[vy,if_pos h]
 simp only[a8,List.map_map]
 refine congrArg some (List.map_congr_left fun p _=>?_)
 simp only[Function.comp,G0,z6t,bz]
 by_cases h1:a=p.1∧b=p.2
 ·obtain⟨rfl,rfl⟩:=h1
  simp[pl]
 have h2:(decide (a=p.1)&&decide (b=p.2))=false:=by
  rw[Bool.eq_false_iff];intro hh;rw[bV,decide_eq_true_eq,decide_eq_true_eq] at hh;exact h1 hh
 rw[h2,bq,if_neg fun hh=>h1 ⟨hh.1.symm,hh.2.symm⟩]
theorem FE {a b:Nat}{D:Nat→Nat→Int}{ps:List (Nat×Nat)}(h:(a,b)∉ps)(v:Int):qz (xW a b) [.int .i64 a,.int .i64 b] (.int .i64 v) (a8 ps D)=some (a8 (ps++[(a,b)]) (bz D a b v)):=by
 unfold qz
 rw[vy,if_neg h]
 simp only[a8,List.map_append,List.map_cons,List.map_nil]
 refine congrArg some ?_
 congr 1
 ·refine List.map_congr_left fun p hp=>?_
  have h1:¬(p.1=a∧p.2=b):=fun hh=>h (by rw[← hh.1,← hh.2];exact hp)
  simp only[bz,if_neg h1]
 simp[bz,pl]
def iJ (a b:Int):Int:=if a<b then -1 else if b<a then 1 else 0
def s7:List Int→Int
 |[]=>0
 |a::r=>if a=0 then s7 r else a
def mO (a b:aq):Int:=s7 [iJ a.a b.a,iJ a.i b.i,iJ a.k b.k,iJ a.l b.l,iJ a.w b.w]
theorem YF {l:List Int}{i:Nat}(h:i<l.length)(hz:∀x∈l.take i,x=0)(hn:l[i]≠0):s7 l=l[i]:=by
 induction l generalizing i with
 |nil=>simp at h
 |cons a r ih=>
  cases i with
  |zero=>simp only[List.getElem_cons_zero] at hn ⊢;unfold s7;rw[if_neg hn]
  |succ i=>
   have ha:a=0:=hz a (by simp)
   simp only[List.getElem_cons_succ] at hn ⊢
   unfold s7
   rw[if_pos ha]
   exact ih (by simpa using h) (fun x hx=>hz x (by simp[hx])) hn
theorem YG {l:List Int}(hz:∀x∈l,x=0):s7 l=0:=by
 induction l with
 |nil=>rfl
 |cons a r ih=>unfold s7;rw[if_pos (hz a (by simp)),ih fun x hx=>hz x (by simp[hx])]
theorem z3t {a b:Int}:iJ a b<0↔a<b:=by unfold iJ;split<;>(try split)<;>omega
theorem z8g {a b:Int}:iJ a b=0↔a=b:=by unfold iJ;split<;>(try split)<;>omega
theorem z0u {a:Int}{r:List Int}:s7 (a::r)<0↔a<0∨(a=0∧s7 r<0):=by
 rw[show s7 (a::r)=if a=0 then s7 r else a from rfl]
 split<;>omega
theorem YI {a b:aq}:mO a b<0↔a.lt b:=by
 unfold mO aq.lt
 simp only[z0u,z3t,z8g]
 simp only[s7]
 omega
def DH (a b:aq):Bool:=!decide (b.lt a)
theorem Zh {l:List aq}(h:l.Pairwise aq.lt):l.mergeSort DH=l:=
 List.mergeSort_of_pairwise (h.imp fun {a b} gu=>by
  unfold DH
  rw[Bool.not_eq_true',decide_eq_false_iff_not]
  exact fun lB=>aq.F1 a (aq.lt_trans gu lB))
end Go.Am.Sl
end
section
namespace Go.Am
abbrev bk:=List (Nat×aL)
theorem AN (j:Nat)(L:bk):∀S:bk,bs j (S++L)=match bs j S with|some x=>some x|none=>bs j L
 |[]=>rfl
 |(i,x)::r=>by
  simp only[List.cons_append,bs,beq_eq]
  by_cases h:j=i
  ·simp[h]
  simp[h];exact AN j L r
theorem ug {i:Nat}{x:aL}:∀ {L:bk},bs i L=none→dN i x L=L
 |[],_=>rfl
 |(j,y)::r,h=>by
  simp only[bs,beq_eq] at h
  by_cases e8:i=j
  ·simp[e8] at h
  simp only[e8,decide_false,bq] at h
  simp only[dN,beq_eq,e8,decide_false,bq,ug h]
theorem Iq {i:Nat}:∀ {L:bk},bs i L=none→jz i L=L
 |[],_=>rfl
 |(j,y)::r,h=>by
  simp only[bs,beq_eq] at h
  by_cases e8:i=j
  ·simp[e8] at h
  simp only[e8,decide_false,bq] at h
  simp only[jz,beq_eq,e8,decide_false,bq,Iq h]
theorem Nw (i:Nat)(L:bk):∀S:bk,jz i (S++L)=jz i S++jz i L
 |[]=>rfl
 |(j,y)::r=>by
  simp only[List.cons_append,jz,beq_eq]
  by_cases e8:i=j
  ·subst e8;simp;exact Nw i L r
  simp[e8];exact Nw i L r
def bF (L L':bk):Prop:=∀j y,bs j L=some y→bs j L'=some y
theorem bF.refl (L:bk):bF L L:=fun _ _ h=>h
theorem bF.nil (L:bk):bF [] L:=fun j y h=>by simp[bs] at h
theorem bF.cons {i:Nat}{x:aL}{r L:bk}(h:bs i L=some x)(hr:bF r L):bF ((i,x)::r) L:=fun j y hy=>by
 simp only[bs,beq_eq] at hy
 by_cases hj:j=i
 ·subst hj;simp at hy;subst hy;exact h
 simp[hj] at hy;exact hr j y hy
theorem bF.skip {i:Nat}{x:aL}{L T:bk}(h:bs i L=none)(hr:bF L T):bF L ((i,x)::T):=fun j y hy=>by
 simp only[bs,beq_eq]
 by_cases hj:j=i
 ·subst hj;rw[h] at hy;cases hy
 simp[hj];exact hr j y hy
theorem bF.drop {i:Nat}{L:bk}{vh:ai}(h:bs i L=none)(hr:bF L vh.bg):bF L (vh.drop i).bg:=fun j y hy=>by
 show (vh.drop i).get j=some y
 rw[ai.KH]
 by_cases hj:j=i
 ·subst hj;rw[h] at hy;cases hy
 simp[hj];exact hr j y hy
def jo (n:Nat)(L L':bk):Prop:=∀j,j<n→bs j L=none→bs j L'=none
theorem jo.refl (n:Nat)(L:bk):jo n L L:=fun _ _ h=>h
theorem jo.mono {n m:Nat}{L L':bk}(h:jo m L L')(hn:n≤m):jo n L L':=fun j hj=>h j (Nat.lt_of_lt_of_le hj hn)
theorem jo.nil (n:Nat)(L:bk):jo n L []:=fun _ _ _=>rfl
theorem jo.fS {n i:Nat}{x y:aL}{L r:bk}(h:bs i L=some y)(hr:jo n L r):jo n L ((i,x)::r):=fun j hj hn=>by
 simp only[bs,beq_eq]
 by_cases gY:j=i
 ·subst gY;rw[h] at hn;cases hn
 simp[gY];exact hr j hj hn
theorem jo.fresh {n i:Nat}{x:aL}{L r:bk}(h:n≤i)(hr:jo n L r):jo n L ((i,x)::r):=fun j hj hn=>by
 simp only[bs,beq_eq]
 by_cases gY:j=i
 ·omega
 simp[gY];exact hr j hj hn
def uy (S L:bk):Prop:=∀j x,bs j S=some x→x.live=true∧bs j L=none
theorem uy.nil (L:bk):uy [] L:=fun j x h=>by simp[bs] at h
theorem uy.cons {i:Nat}{x:aL}{S L:bk}(h1:x.live=true)(h2:bs i L=none)(h:uy S L):uy ((i,x)::S) L:=fun j y hy=>by
 simp only[bs,beq_eq] at hy
 by_cases hj:j=i
 ·subst hj;simp at hy;subst hy;exact⟨h1,h2⟩
 simp[hj] at hy;exact h j y hy
def iG (a b:aX):Prop:=∀t v,cm t a=some v→cm t b=some v
theorem iG.refl (a:aX):iG a a:=fun _ _ h=>h
theorem iG.nil (b:aX):iG [] b:=fun t v h=>by simp[cm] at h
theorem iG.cons {t:Nat}{v:PV}{r b:aX}(h:cm t b=some v)(hr:iG r b):iG ((t,v)::r) b:=fun u w hw=>by
 simp only[cm,beq_eq] at hw
 by_cases hj:u=t
 ·subst hj;simp at hw;subst hw;exact h
 simp[hj] at hw;exact hr u w hw
section
variable {P:Program} {N b:Nat} {Q Q':ie} {ae gX ax:aX} {vh b9 aP:ai}
def Wk (b:Nat)(ae:aX)(vh:ai)(ax:aX)(aP:ai):Prop:=∀(N lo:Nat) (g:Fz) (σ:Sg) (h:ah) (ts:aI),VT g σ vh.next ae ts→ts.length=N→VS lo g σ vh h→b≤vh.next→∃g2 dq,dG N b lo g σ vh h ts h g2 dq ax aP
theorem Rec.wk (a:Rec b ae vh ax aP):Wk b ae vh ax aP:=by
 obtain⟨D,ρ,a⟩:=a
 exact fun N lo g σ h ts ht hn s hb=>⟨_,_,a.Nx ht hn s⟩
theorem Wk.trans (a:Wk b ae vh gX b9)(c:Wk b gX b9 ax aP):Wk b ae vh ax aP:=fun N lo g σ h ts ht hn s hb=>by
 obtain⟨g1,o8,x⟩:=a N lo g σ h ts ht hn s hb
 obtain⟨g2,dq,y⟩:=c N lo g1 o8 h ts x.t x.len x.s x.base
 exact⟨g2,dq,x.trans y⟩
section
variable [bG]
theorem VW.wk {c:Code}(a:Wk b ae vh ax aP)(hc:VW P N b c Q ax aP):VW P N b c Q ae vh:=fun lo g σ h ts ht hn s hb=>by
 obtain⟨g2,dq,x⟩:=a N lo g σ h ts ht hn s hb
 exact(hc lo g2 dq h ts x.t x.len x.s x.base).mono fun e bc h' hk=>oe.trans x hk
theorem kI.wk {o:Oper}{next:aX→ai→Prop}(a:Wk b ae vh ax aP)(hc:kI P N b o next ax aP):kI P N b o next ae vh:=fun lo g σ h ts ht hn s hb=>by
 obtain⟨g2,dq,x⟩:=a N lo g σ h ts ht hn s hb
 exact(hc lo g2 dq h ts x.t x.len x.s x.base).mono fun bc h' hk=>oe.trans x hk
end
theorem VS.pG {lo:Nat}{g:Fz}{σ:Sg}{h:ah}(s:VS lo g σ vh h)(hs:bF aP.bg vh.bg)(hn:vh.next≤aP.next):VS lo g σ aP h:=
 ⟨fun j y hy=>⟨Nat.lt_of_lt_of_le (s.obj j y (hs j y hy)).1 hn,(s.obj j y (hs j y hy)).2.mono (Fz.le_refl g) hn (fun _ _=>rfl) (s.obj j y (hs j y hy)).1 fun _=>rfl⟩,fun j k y z hy hz=>s.inj j k y z (hs j y hy) (hs k z hz),fun j y hy=>s.low j y (hs j y hy),s.fz,fun j y hy=>s.jf j y (hs j y hy),s.bI⟩
theorem dG.pG {lo:Nat}{g g2:Fz}{σ dq:Sg}{h h2:ah}{me:aI}(x:dG N b lo g σ vh h me h2 g2 dq gX b9)(ht:iG ax gX)(hs:bF aP.bg b9.bg)(hn:b9.next≤aP.next):dG N b lo g σ vh h me h2 g2 dq ax aP:=
 ⟨fun t v hv=>(x.t t v (ht t v hv)).mono (Fz.le_refl g2) hn (fun _ _=>rfl),x.len,x.s.pG hs hn,x.le,x.agree,⟨x.f.next,x.f.fM,fun i y hy hl aY=>x.f.own i y (hs i y hy) hl aY⟩,Nat.le_trans x.base hn,x.own⟩
theorem Wk.sub (ht:iG ax ae)(hs:bF aP.bg vh.bg)(hn:vh.next≤aP.next):Wk b ae vh ax aP:=fun N lo g σ h ts h1 h2 s hb=>⟨g,σ,(dG.refl h1 h2 s hb).pG ht hs hn⟩
section
variable [bG]
theorem VW.post {c:Code}(hc:VW P N b c Q ae vh)(hq:∀e gX b9,Q e gX b9→∃ax aP,iG ax gX∧bF aP.bg b9.bg∧b9.next≤aP.next∧Q' e ax aP):VW P N b c Q' ae vh:=fun lo g σ h ts ht hn s hb=>
 (hc lo g σ h ts ht hn s hb).mono fun e bc h' ⟨g2,dq,gX,b9,x,k⟩=>by
  obtain⟨ax,aP,k1,k2,k3,k4⟩:=hq e gX b9 k
  exact⟨g2,dq,ax,aP,x.pG k1 k2 k3,k4⟩
theorem du.post {f:FuncId}{args:List PV}{R R':PV→ai→Prop}(hc:du P f args vh R)(hq:∀v b9,R v b9→∃aP,bF aP.bg b9.bg∧b9.next≤aP.next∧R' v aP):du P f args vh R':=fun lo g σ h aB ha s=>
 (hc lo g σ h aB ha s).mono fun r h' ⟨g2,dq,v,b9,h1,h2,h3,h4,h5,h6,h7,h8⟩=>by
  obtain⟨aP,k2,k3,k4⟩:=hq v b9 h8
  exact⟨g2,dq,v,aP,h1.mono (Fz.le_refl g2) k3 (fun _ _=>rfl),h2.pG k2 k3,h3,h4,⟨h5.next,h5.fM,fun i y hy hl aY=>h5.own i y (k2 i y hy) hl aY⟩,Nat.le_trans h6 k3,h7,k4⟩
theorem VW.FM {c:Code}{S:Type}(st:S→aX×ai)(I:S→Prop)(m:S→Nat)(s0:S)(h0:I s0)(hr:Wk b ae vh (st s0).1 (st s0).2)
  (round:∀s,I s→VW P N b c (zB (fun aS ak=>∃s',I s'∧m s'<m s∧Wk b aS ak (st s').1 (st s').2) Q) (st s).1 (st s).2):VW P N b (.loop c) Q ae vh:=
 .loop (fun k ae vh=>∃s,I s∧m s=k∧Wk b ae vh (st s).1 (st s).2) (m s0) ⟨s0,h0,rfl,hr⟩ fun k ae vh ⟨s,h1,h2,h3⟩=>by
  subst h2
  refine .wk h3 ((round s h1).mono fun e ae vh hq=>?_)
  cases e with
  |normal=>obtain⟨s',k1,k2,k3⟩:=hq;exact⟨m s',k2,s',k1,rfl,k3⟩
  |exit id=>exact hq
  |goto l=>exact hq
  |ret=>exact hq
  |panic ch=>exact hq
  |outgrown=>exact hq
theorem VW.Qh {x y:Code}{S:Type}(st:S→aX×ai)(I:S→Prop)
  (hx:VW P N b x (zB (fun aS ak=>∃s',I s'∧Wk b aS ak (st s').1 (st s').2) Q) ae vh) (hy:∀s,I s→VW P N b y Q (st s).1 (st s).2):VW P N b (.seq x y) Q ae vh:=
 .seq (hx.mono fun e ae vh hq=>by
  cases e with
  |normal=>obtain⟨s',k1,k2⟩:=hq;exact .wk k2 (hy s' k1)
  |exit id=>exact hq
  |goto l=>exact hq
  |ret=>exact hq
  |panic ch=>exact hq
  |outgrown=>exact hq)
end
theorem VS.T7 {lo:Nat}{g g':Fz}{σ aO:Sg}{h h':ah}{n:Nat}{S L:bk}(s:VS lo g σ ⟨n,S++L⟩ h)(hS:uy S L)(h2:VS lo g' aO b9 h')(h3:g.le g')(h4:∀i,i<n→aO i=σ i)
  (h5:VF σ ⟨n,L⟩ h aO b9 h') (h6:n≤b9.next) (h7:dQ g σ ⟨n,L⟩ h g'):VS lo g' aO ⟨b9.next,S++b9.bg⟩ h'∧VF σ ⟨n,S++L⟩ h aO ⟨b9.next,S++b9.bg⟩ h'∧dQ g σ ⟨n,S++L⟩ h g':=by
 have gS:∀j x,bs j S=some x→(⟨n,S++L⟩:ai).get j=some x:=fun j x hj=>by
  show bs j (S++L)=_
  rw[AN,hj]
 have gL:∀j x,bs j L=some x→(⟨n,S++L⟩:ai).get j=some x:=fun j x hj=>by
  show bs j (S++L)=_
  rw[AN]
  cases hs:bs j S with
  |none=>exact hj
  |some y=>rw[(hS j y hs).2] at hj;cases hj
 have g2:∀j,(⟨b9.next,S++b9.bg⟩:ai).get j=match bs j S with|some x=>some x|Option.none=>b9.get j:=fun j=>AN j _ S
 have lt:∀j x,bs j S=some x→(σ j).1<h.next∧j<n:=fun j x hj=>⟨(s.obj j x (gS j x hj)).2.lt (hS j x hj).1,(s.obj j x (gS j x hj)).1⟩
 have dp:∀i x,bs i S=some x→∀j y,(⟨n,L⟩:ai).get j=some y→y.live=true→(σ j).1≠(σ i).1:=fun i x hi j y hy hU he=>by
  have:=s.inj j i y x (gL j y hy) (gS i x hi) hU (hS i x hi).1 he
  subst this
  have h1:=(hS j x hi).2
  rw[show bs j L=some y from hy] at h1
  cases h1
 have cT:∀i x,bs i S=some x→h'.get (σ i).1=h.get (σ i).1:=fun i x hi=>h5.fM _ (lt i x hi).1 (dp i x hi)
 have fW:∀i x,bs i S=some x→∀j z,b9.get j=some z→z.live=true→(aO j).1≠(σ i).1:=fun i x hi j z hz bW he=>by
  obtain⟨k,u,k1,k2,k3⟩:=h5.own j z hz bW (by rw[he];exact(lt i x hi).1)
  exact dp i x hi k u k1 k2 (k3.trans he)
 refine⟨⟨fun j z hz=>?_,fun j k z u hz hu bW qQ he=>?_,fun j z hz bW=>?_,h2.fz,fun j z hz bW=>?_,h2.bI⟩,⟨h5.next,fun o ho hn=>h5.fM o ho fun j y hy hU=>hn j y (gL j y hy) hU,fun j z hz bW mV=>?_⟩,fun o z hz ho=>?_⟩
 ·rw[g2] at hz
  cases hs:bs j S with
  |some x=>
   rw[hs] at hz;injection hz with hz;subst hz
   exact⟨Nat.lt_of_lt_of_le (lt j x hs).2 h6,(s.obj j x (gS j x hs)).2.mono h3 h6 h4 (lt j x hs).2 fun _=>by rw[cT j x hs]⟩
  |none=>rw[hs] at hz;exact h2.obj j z hz
 ·rw[g2] at hz hu
  cases hs:bs j S with
  |some x=>
   rw[hs] at hz;injection hz with hz;subst hz
   cases fU:bs k S with
   |some y=>
    rw[fU] at hu;injection hu with hu;subst hu
    rw[h4 j (lt j x hs).2,h4 k (lt k y fU).2] at he
    exact s.inj j k x y (gS j x hs) (gS k y fU) bW qQ he
   |none=>
    rw[fU] at hu
    exact absurd (he.symm.trans (by rw[h4 j (lt j x hs).2])) (fW j x hs k u hu qQ)
  |none=>
   rw[hs] at hz
   cases fU:bs k S with
   |some y=>
    rw[fU] at hu;injection hu with hu;subst hu
    exact absurd (he.trans (by rw[h4 k (lt k y fU).2])) (fW k y fU j z hz bW)
   |none=>rw[fU] at hu;exact h2.inj j k z u hz hu bW qQ he
 ·rw[g2] at hz
  cases hs:bs j S with
  |some x=>rw[hs] at hz;injection hz with hz;subst hz;rw[h4 j (lt j x hs).2];exact s.low j x (gS j x hs) bW
  |none=>rw[hs] at hz;exact h2.low j z hz bW
 ·rw[g2] at hz
  cases hs:bs j S with
  |some x=>
   rw[hs] at hz;injection hz with hz;subst hz
   rw[h4 j (lt j x hs).2]
   cases nf:g' (σ j).1 with
   |none=>rfl
   |some q=>
    rcases h7 _ q nf (lt j x hs).1 with xK|⟨k,u,k1,k2,k3⟩
    ·rw[s.jf j x (gS j x hs) bW] at xK;cases xK
    exact absurd k3 (dp j x hs k u k1 k2)
  |none=>rw[hs] at hz;exact h2.jf j z hz bW
 ·rw[g2] at hz
  cases hs:bs j S with
  |some x=>rw[hs] at hz;injection hz with hz;subst hz;exact⟨j,x,gS j x hs,bW,by rw[h4 j (lt j x hs).2]⟩
  |none=>
   rw[hs] at hz
   obtain⟨k,u,k1,k2,k3⟩:=h5.own j z hz bW mV
   exact⟨k,u,gL k u k1,k2,k3⟩
 rcases h7 o z hz ho with xK|⟨k,u,k1,k2,k3⟩
 ·exact .inl xK
 exact .inr ⟨k,u,gL k u k1,k2,k3⟩
theorem bF.right {S L:bk}(hS:uy S L):bF L (S++L):=fun j y hy=>by
 rw[AN]
 cases hs:bs j S with
 |none=>exact hy
 |some x=>rw[(hS j x hs).2] at hy;cases hy
section
variable [bG]
theorem du.Lu {f:FuncId}{args:List PV}{R:PV→ai→Prop}{n:Nat}{S L:bk}(hS:uy S L)(hc:du P f args ⟨n,L⟩ R):du P f args ⟨n,S++L⟩ fun v ak=>∃b9,R v b9∧ak=⟨b9.next,S++b9.bg⟩:=fun lo g σ h aB ha s=>by
 refine(hc lo g σ h aB ha (s.pG (bF.right hS) (Nat.le_refl _))).mono fun r h' ⟨g',aO,v,b9,h1,h2,h3,h4,h5,h6,h7,h8⟩=>?_
 obtain⟨k1,k2,k3⟩:=s.T7 hS h2 h3 h4 h5 h6 h7
 exact⟨g',aO,v,⟨b9.next,S++b9.bg⟩,h1,k1,h3,h4,k2,h6,k3,b9,h8,rfl⟩
theorem du.DE {f:FuncId}{args:List PV}{R:PV→ai→Prop}{n:Nat}{L:bk}(hc:(∀j,n≤j→bs j L=none)→du P f args ⟨n,L⟩ R):du P f args ⟨n,L⟩ R:=fun lo g σ h aB ha s=>
 hc (fun q hq=>by
  cases hz:bs q L with
  |none=>rfl
  |some z=>have h1:=(s.obj q z hz).1;have h2:q<n:=h1;omega) lo g σ h aB ha s
theorem VW.DE {c:Code}{n:Nat}{L:bk}(hc:(∀j,n≤j→bs j L=none)→VW P N b c Q ae ⟨n,L⟩):VW P N b c Q ae ⟨n,L⟩:=fun lo g σ h ts ht hn s hb=>
 hc (fun q hq=>by
  cases hz:bs q L with
  |none=>rfl
  |some z=>have h1:=(s.obj q z hz).1;have h2:q<n:=h1;omega) lo g σ h ts ht hn s hb
end
theorem vC {i j:Nat}{x:aL}{r:bk}(h:bs j ((i,x)::r)=none):bs j r=none:=by
 simp only[bs,beq_eq] at h
 by_cases hj:j=i
 ·simp[hj] at h
 simpa[hj] using h
abbrev JM:=Option (Option Nat)
def JM.code:JM→Option Code
 |Option.none=>Option.none
 |some Option.none=>some .ret
 |some (some id)=>some (.exit id)
variable [bG] in
@[simp] theorem JM.zr1 (j:JM):(JM.code j).isNone=j.isNone:=by rcases j with _|_|id<;>rfl
def Jmp:Exit→Option JM
 |.normal=>some Option.none
 |.ret=>some (some Option.none)
 |.exit id=>some (some (some id))
 |_=>Option.none
section
variable [bG]
def DD (P:Program)(N0:Nat)(ps:Array Tmp)(db body:Code)(cY:aX)(n:Nat)(L:bk)(v:PV)(K:JM→Nat→bk→Prop):Prop:=
 VW P N0 n db (zB (VW P N0 n body fun e _ ak=>∃j L',Jmp e=some j∧bF L' ak.bg∧jo n L L'∧K j ak.next L') fun _ _ _=>False) (pg cY (ps.toList.zip [v])) ⟨n,L⟩
def Iw (P:Program)(f:FuncId)(args:List PV)(n:Nat)(L:bk)(K:PV→Nat→bk→Prop):Prop:=du P f args ⟨n,L⟩ fun v ak=>∃L',bF L' ak.bg∧n≤ak.next∧jo n L L'∧K v ak.next L'
theorem Iw.Lu {f:FuncId}{args:List PV}{n:Nat}{S L:bk}{K:PV→Nat→bk→Prop}(hS:uy S L)(hc:Iw P f args n L K):du P f args ⟨n,S++L⟩ fun v ak=>∃n' L',n≤n'∧jo n L L'∧K v n' L'∧ak=⟨n',S++L'⟩:=by
 refine(du.Lu hS hc).post fun v b9 ⟨aP,⟨L',h1,h0,xJ,h2⟩,h3⟩=>⟨⟨aP.next,S++L'⟩,?_,by rw[h3];exact Nat.le_refl _,_,L',h0,xJ,h2,rfl⟩
 subst h3
 intro j y hy
 rw[show (⟨aP.next,S++L'⟩:ai).bg=S++L' from rfl,AN] at hy
 show bs j (S++aP.bg)=some y
 rw[AN]
 cases hs:bs j S with
 |some x=>rw[hs] at hy;exact hy
 |none=>rw[hs] at hy;exact h1 j y hy
theorem kI.Qg {o:Oper}{fo:Operand}{args:Array Operand}{aT:Array TypeId}{i N0 n:Nat}{ps:Array Tmp}{db body:Code}{cY:aX}{v:PV}{S L:bk}{K:JM→Nat→bk→Prop}{next:aX→ai→Prop}(ho:o.op=.call ⟨.value fo,args,aT⟩)
  (hf:cN ae fo=some (.bw i)) (hl:jL ae args.toList=some [v]) (hi:bs i S=some (.loop N0 ps db body cY none)) (hlen:1=ps.size) (fy:ps.toList.all (Nat.blt · N0)=true) (hd:gB N o.dst=true)
  (hS:uy S L) (hY:DD P N0 ps db body cY n L v K)
  (hk:∀(j:JM) n' L',n≤n'→jo n L L'→(∀i,n'≤i→bs i L'=none)→K j n' L'→next (bZ ae o.dst (.bool j.isNone)) ⟨n',(i,.loop N0 ps db body cY j.code)::(jz i S++L')⟩):kI P N b o next ae ⟨n,S++L⟩:=by
 have hiL:bs i L=none:=(hS i _ hi).2
 have K5:∀j x,bs j (jz i S)=some x→x.live=true∧bs j L=Option.none:=fun j x hj=>by
  rw[KG] at hj
  by_cases h:j=i
  ·simp[h] at hj
  simp[h] at hj;exact hS j x hj
 have T8:((⟨n,S++L⟩:ai).drop i)=⟨n,jz i S++L⟩:=by unfold ai.drop;rw[Nw,Iq hiL]
 intro lo g σ h ts ht hn s hb
 obtain⟨f',k1,k2⟩:=eH ht hf
 obtain⟨l',k3,k4⟩:=yI ht hl
 have hg:(⟨n,S++L⟩:ai).get i=some (.loop N0 ps db body cY none):=by show bs i (S++L)=_;rw[AN,hi]
 obtain⟨dm,Lp,q1,q2,q3,q4,q5,q6⟩:=s.obj i _ hg
 have G1:f'=.func (.yield (σ i).1) #[] #[]:=by
  cases k2 with
  |fr _ _ h=>cases h
  |bw _ o a k dJ hs=>rw[hs]
 subst G1
 subst q2;subst q3;subst q4
 have da:aL.live (.loop N0 Lp.params Lp.assign Lp.body cY none)=true:=rfl
 obtain⟨sk,_⟩:=s.kill hg da
 rw[T8] at sk
 have il:∀t∈Lp.params.toList,t<Lp.ts.length:=fun t E4=>by
  rw[List.all_eq_true] at fy
  rw[q5];simpa using fy t E4
 obtain⟨e1,e2⟩:=Ny (g:=g) (σ:=σ) (n:=n) (ps:=Lp.params.toList) q6 k4 il
 refine .yield ho k1 k3 q1 (s.low i _ hg da) (by rw[← k4.1];simpa using hlen) ?_
 have run:=hY lo g σ (h.put (σ i).1 none) _ e1 (e2.trans q5) (sk.pG (aP:=⟨n,L⟩) (bF.right K5) (Nat.le_refl _)) (Nat.le_refl _)
 have fin:∀(jump:JM) (me:aI) (h2:ah) (g2:Fz) (dq:Sg) (ax:aX) (aP:ai) (L':bk),dG N0 n lo g σ ⟨n,L⟩ (h.put (σ i).1 none) me h2 g2 dq ax aP→bF L' aP.bg→jo n L L'→K jump aP.next L'→
   oe N b lo g σ ⟨n,S++L⟩ h next (bA ts o.dst (.bool jump.code.isNone)) (h2.put (σ i).1 (some (.loop Lp jump.code))):=by
  intro jump me h2 g2 dq ax aP L' a oS gf hK
  have a':=a.pG (ax:=ax) (aP:=⟨aP.next,L'⟩) (iG.refl _) oS (Nat.le_refl _)
  have pK:∀q,aP.next≤q→bs q L'=Option.none:=fun q hq=>by
   cases hz:bs q L' with
   |none=>rfl
   |some z=>have h1:=(a'.s.obj q z hz).1;have h2:q<aP.next:=h1;omega
  obtain⟨z1,z2,z3⟩:=sk.T7 K5 a'.s a'.le a'.agree a'.f a'.base a'.own
  have a2:dG N0 n lo g σ ⟨n,jz i S++L⟩ (h.put (σ i).1 none) me h2 g2 dq ax ⟨aP.next,jz i S++L'⟩:=⟨a'.t,a'.len,z1,a'.le,a'.agree,z2,a'.base,z3⟩
  rw[← T8] at a2
  have cu:dq i=σ i:=a.agree i dm
  have mV:(σ i).1<h2.next:=Nat.lt_of_lt_of_le ((s.obj i _ hg).2.lt da) a.f.next
  obtain⟨r1,r2,r3⟩:=dG.back (x':=.loop N0 Lp.params Lp.assign Lp.body cY jump.code) (y:=.loop Lp jump.code) s hg da a2 ⟨Lp,by rw[cu,ah.dH _ _ _ _ mV];simp,rfl,rfl,rfl,q5,q6.mono a.le a.base a.agree⟩
  obtain⟨t1,t2⟩:=qR a.le a.base a.agree ht o.dst (hn▸hd) (.fr _ _ (.bool jump.code.isNone):VR g2 dq aP.next (.bool jump.code.isNone) (.bool jump.code.isNone))
  exact⟨g2,dq,_,(⟨aP.next,jz i S++L'⟩:ai).back i (.loop N0 Lp.params Lp.assign Lp.body cY jump.code),⟨t1,t2.trans hn,r1,a.le,fun j hj=>a.agree j (Nat.lt_of_lt_of_le hj hb),r2,Nat.le_trans hb a.base,r3⟩,by have:=hk jump _ _ a.base gf pK hK;rw[← JM.zr1] at this;exact this⟩
 refine run.mono fun e jy h1 hs=>?_
 cases e with
 |normal=>
  obtain⟨g1,o8,gX,b9,a1,hW⟩:=hs
  refine(hW lo g1 o8 h1 jy a1.t a1.len a1.s a1.base).mono fun e me h2 fU=>?_
  obtain⟨g2,dq,ax,aP,a2,j,L',h3,h4,Ed,h5⟩:=fU
  cases e with
  |normal=>cases h3;exact fin Option.none _ _ _ _ _ _ _ (a1.trans a2) h4 Ed h5
  |ret=>cases h3;exact fin (some Option.none) _ _ _ _ _ _ _ (a1.trans a2) h4 Ed h5
  |exit id=>cases h3;exact fin (some (some id)) _ _ _ _ _ _ _ (a1.trans a2) h4 Ed h5
  |goto l=>cases h3
  |panic ch=>cases h3
  |outgrown=>cases h3
 |exit id=>obtain⟨_,_,_,_,_,hk⟩:=hs;exact hk.elim
 |goto l=>obtain⟨_,_,_,_,_,hk⟩:=hs;exact hk.elim
 |ret=>obtain⟨_,_,_,_,_,hk⟩:=hs;exact hk.elim
 |panic ch=>obtain⟨_,_,_,_,_,hk⟩:=hs;exact hk.elim
 |outgrown=>obtain⟨_,_,_,_,_,hk⟩:=hs;exact hk.elim
end
def kp (i N:Nat)(ps:Array Tmp)(db body:Code)(ae:aX)(R:JM→Nat→bk→Prop):ie:=fun e _ ak=>(e=.normal∨e=.ret)∧∃(jm:JM) (L:bk),bF ((i,.loop N ps db body ae jm.code)::L) ak.bg∧bs i L=none∧R jm ak.next L
theorem kp.mk {i N:Nat}{ps:Array Tmp}{db body:Code}{ae aS:aX}{R:JM→Nat→bk→Prop}{e:Exit}{ak:ai}(he:e=.normal∨e=.ret)(jm:JM)(L:bk)(h1:bF ((i,.loop N ps db body ae jm.code)::L) ak.bg)(h2:bs i L=none)(h3:R jm ak.next L):kp i N ps db body ae R e aS ak:=⟨he,jm,L,h1,h2,h3⟩
variable [bG] in
theorem VW.Lk {i N' b':Nat}{ps:Array Tmp}{db body c:Code}{aS:aX}{R:JM→Nat→bk→Prop}(hN:∀n L,R none n L→Q .normal ae ⟨n,L⟩)(hR:∀n L,R (some none) n L→Q .ret ae ⟨n,L⟩)(hX:∀id n L,R (some (some id)) n L→Q (.exit id) ae ⟨n,L⟩)
  (hc:VW P N' b' c (kp i N ps db body ae R) aS vh):VW P N' b' c (T9 i ae Q) aS vh:=hc.post fun e gX b9 ⟨he,jm,L,h1,h2,h3⟩=>by
 refine⟨gX,⟨b9.next,(i,.loop N ps db body ae jm.code)::L⟩,iG.refl _,h1,Nat.le_refl _,?_⟩
 have hg:(⟨b9.next,(i,.loop N ps db body ae jm.code)::L⟩:ai).get i=some (.loop N ps db body ae jm.code):=by show bs i _=_;simp[bs,beq_eq]
 have Ee:(⟨b9.next,(i,.loop N ps db body ae jm.code)::L⟩:ai).drop i=⟨b9.next,L⟩:=by unfold ai.drop;simp only[jz,beq_eq,decide_true,aM,Iq h2]
 have key:j3 i ae Q ⟨b9.next,(i,.loop N ps db body ae jm.code)::L⟩:=by
  rcases jm with _|_|id
  ·exact vx hg (Ee▸hN _ _ h3)
  ·exact Ax hg (Ee▸hR _ _ h3)
  exact z3s hg (Ee▸hX _ _ _ h3)
 rcases he with rfl|rfl
 ·exact key
 exact key
end
end Go.Am
end
