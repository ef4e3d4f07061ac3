/-
 What is used in the proof of a statement (part SlT); no condition.
-/
import Derived.Test.YthnmgbgmlhackaaGreatDoorProg
import Derived.Test.YthnmgbgmlhackaaGreatDoorVm1
import Derived.Test.YthnmgbgmlhackaaGreatDoorVm2
set_option linter.all false
set_option maxHeartbeats 40000000
set_option maxRecDepth 100000
section
namespace Go.Am.Sl
open Go Go.Am Go.Proofs Tryz
@[simp] theorem u2:prog.underlying 2=some (.int .i64):=by rfl
theorem fR {p:Prop}(h:p:=by repeat' (first|decide +kernel|rfl|refine ⟨?_,?_⟩)):p:=h
@[simp] theorem ag2:bD prog 2=some false:=by decide +kernel
@[simp] theorem Ac:da prog 2=some 1:=by decide +kernel
@[simp] theorem tY2:ey prog 2=some [.int .i64 0]∧(eu prog 2).bind bj=some (.int .i64 0):=fR
@[simp] theorem tY3:prog.underlying 3=some (.int .i64)∧bD prog 3=some false∧da prog 3=some 1∧ey prog 3=some [.int .i64 0]∧(eu prog 3).bind bj=some (.int .i64 0):=fR
@[simp] theorem tY4:prog.underlying 4=some .bool∧bD prog 4=some false∧da prog 4=some 1∧ey prog 4=some [.bool false]∧(eu prog 4).bind bj=some (.bool false):=fR
@[simp] theorem tY5:prog.underlying 5=some (.int .u8)∧bD prog 5=some false∧da prog 5=some 1∧ey prog 5=some [.int .u8 0]∧(eu prog 5).bind bj=some (.int .u8 0):=fR
@[simp] theorem tY9:prog.underlying 9=some .string∧bD prog 9=some false∧da prog 9=some 1∧ey prog 9=some [.str ByteArray.empty]∧(eu prog 9).bind bj=some (.str ByteArray.empty):=fR
@[simp] theorem yax:prog.underlying 22=some (.slice 176)∧bD prog 22=some false∧da prog 22=some 1∧gO prog 22=some (176,3)∧(prog.info? 176).map (·.bytes)=some 24∧ey prog 22=some [.aI]∧(eu prog 22).bind bj=some (.aI):=fR
@[simp] theorem yay:bD prog 24=some true∧da prog 24=some 6∧dL prog 24 0=some (3,0,1)∧dL prog 24 1=some (3,1,1)∧dL prog 24 2=some (3,2,1)∧dL prog 24 3=some (3,3,1)∧dL prog 24 4=some (3,4,1)∧dL prog 24 5=some (22,5,1)∧ey prog 24=some [.int .i64 0,.int .i64 0,.int .i64 0,.int .i64 0,.int .i64 0,.aI]:=fR
@[simp] theorem yaz (l:List (Nat×PV)):oa prog 24 l=(gA (([(0,1),(1,1),(2,1),(3,1),(4,1),(5,1)]:List (Nat×Nat))[·]?) [.int .i64 0,.int .i64 0,.int .i64 0,.int .i64 0,.int .i64 0,.aI] l).map .agg:=by rfl
@[simp] theorem yaA:(eu prog 24).bind bj=some (.agg [.int .i64 0,.int .i64 0,.int .i64 0,.int .i64 0,.int .i64 0,.aI]):=by rfl
@[simp] theorem u25:prog.underlying 25=some (.slice 3):=by rfl
@[simp] theorem yaB:bD prog 25=some false∧da prog 25=some 1∧gO prog 25=some (3,1)∧(prog.info? 3).map (·.bytes)=some 8∧ey prog 25=some [.aI]∧(eu prog 25).bind bj=some (.aI):=fR
@[simp] theorem u26:prog.underlying 26=some (.slice 150):=by rfl
@[simp] theorem yaC:bD prog 26=some false∧da prog 26=some 1∧gO prog 26=some (150,2)∧(prog.info? 150).map (·.bytes)=some 32∧ey prog 26=some [.aI]∧(eu prog 26).bind bj=some (.aI):=fR
@[simp] theorem yaD:bD prog 28=some true∧da prog 28=some 9∧dL prog 28 0=some (24,0,6)∧dL prog 28 1=some (25,6,1)∧dL prog 28 2=some (26,7,1)∧dL prog 28 3=some (25,8,1)∧ey prog 28=some [.int .i64 0,.int .i64 0,.int .i64 0,.int .i64 0,.int .i64 0,.aI,.aI,.aI,.aI]:=fR
@[simp] theorem yaE (l:List (Nat×PV)):oa prog 28 l=(gA (([(0,6),(6,1),(7,1),(8,1)]:List (Nat×Nat))[·]?) [.int .i64 0,.int .i64 0,.int .i64 0,.int .i64 0,.int .i64 0,.aI,.aI,.aI,.aI] l).map .agg:=by rfl
@[simp] theorem yaF:(eu prog 28).bind bj=some (.agg [.int .i64 0,.int .i64 0,.int .i64 0,.int .i64 0,.int .i64 0,.aI,.aI,.aI,.aI]):=by rfl
@[simp] theorem yaG:prog.underlying 31=some (.slice 48)∧bD prog 31=some false∧da prog 31=some 1∧gO prog 31=some (48,5)∧(prog.info? 48).map (·.bytes)=some 40∧ey prog 31=some [.aI]∧(eu prog 31).bind bj=some (.aI):=fR
@[simp] theorem yaH:prog.underlying 32=some (.slice 25)∧bD prog 32=some false∧da prog 32=some 1∧gO prog 32=some (25,1)∧(prog.info? 25).map (·.bytes)=some 24∧ey prog 32=some [.aI]∧(eu prog 32).bind bj=some (.aI):=fR
@[simp] theorem yaI:bD prog 34=some true∧da prog 34=some 3∧dL prog 34 0=some (31,0,1)∧dL prog 34 1=some (3,1,1)∧dL prog 34 2=some (32,2,1)∧ey prog 34=some [.aI,.int .i64 0,.aI]:=fR
@[simp] theorem yaJ (l:List (Nat×PV)):oa prog 34 l=(gA (([(0,1),(1,1),(2,1)]:List (Nat×Nat))[·]?) [.aI,.int .i64 0,.aI] l).map .agg:=by rfl
@[simp] theorem yaK:(eu prog 34).bind bj=some (.agg [.aI,.int .i64 0,.aI]):=by rfl
@[simp] theorem yaL:prog.underlying 35=some (.int .i64)∧bD prog 35=some false∧da prog 35=some 1∧ey prog 35=some [.int .i64 0]∧(eu prog 35).bind bj=some (.int .i64 0):=fR
@[simp] theorem yaM:prog.underlying 40=some (.slice 4)∧bD prog 40=some false∧da prog 40=some 1∧gO prog 40=some (4,1)∧(prog.info? 4).map (·.bytes)=some 1∧ey prog 40=some [.aI]∧(eu prog 40).bind bj=some (.aI):=fR
@[simp] theorem yaN:bD prog 44=some true∧da prog 44=some 2∧dL prog 44 0=some (3,0,1)∧dL prog 44 1=some (3,1,1)∧ey prog 44=some [.int .i64 0,.int .i64 0]:=fR
@[simp] theorem yaO (l:List (Nat×PV)):oa prog 44 l=(gA (([(0,1),(1,1)]:List (Nat×Nat))[·]?) [.int .i64 0,.int .i64 0] l).map .agg:=by rfl
@[simp] theorem yaP:(eu prog 44).bind bj=some (.agg [.int .i64 0,.int .i64 0]):=by rfl
@[simp] theorem yaQ:bD prog 48=some true∧da prog 48=some 5∧dL prog 48 0=some (3,0,1)∧dL prog 48 1=some (3,1,1)∧dL prog 48 2=some (3,2,1)∧dL prog 48 3=some (3,3,1)∧dL prog 48 4=some (3,4,1)∧ey prog 48=some [.int .i64 0,.int .i64 0,.int .i64 0,.int .i64 0,.int .i64 0]:=fR
@[simp] theorem yaR (l:List (Nat×PV)):oa prog 48 l=(gA (([(0,1),(1,1),(2,1),(3,1),(4,1)]:List (Nat×Nat))[·]?) [.int .i64 0,.int .i64 0,.int .i64 0,.int .i64 0,.int .i64 0] l).map .agg:=by rfl
@[simp] theorem yaS:(eu prog 48).bind bj=some (.agg [.int .i64 0,.int .i64 0,.int .i64 0,.int .i64 0,.int .i64 0]):=by rfl
@[simp] theorem yaT:prog.underlying 91=some (.slice 95)∧bD prog 91=some false∧da prog 91=some 1∧gO prog 91=some (95,4)∧(prog.info? 95).map (·.bytes)=some 6∧ey prog 91=some [.aI]∧(eu prog 91).bind bj=some (.aI):=fR
@[simp] theorem yaU:prog.underlying 93=some (.int .u16)∧bD prog 93=some false∧da prog 93=some 1∧ey prog 93=some [.int .u16 0]∧(eu prog 93).bind bj=some (.int .u16 0):=fR
@[simp] theorem yaV:bD prog 95=some true∧da prog 95=some 4∧dL prog 95 0=some (5,0,1)∧dL prog 95 1=some (5,1,1)∧dL prog 95 2=some (5,2,1)∧dL prog 95 3=some (93,3,1)∧ey prog 95=some [.int .u8 0,.int .u8 0,.int .u8 0,.int .u16 0]:=fR
@[simp] theorem yaW (l:List (Nat×PV)):oa prog 95 l=(gA (([(0,1),(1,1),(2,1),(3,1)]:List (Nat×Nat))[·]?) [.int .u8 0,.int .u8 0,.int .u8 0,.int .u16 0] l).map .agg:=by rfl
@[simp] theorem yaX:(eu prog 95).bind bj=some (.agg [.int .u8 0,.int .u8 0,.int .u8 0,.int .u16 0]):=by rfl
@[simp] theorem Xd:prog.underlying 132=some (.map 137 3)∧bD prog 132=some false∧da prog 132=some 1∧ey prog 132=some [.dF]∧(eu prog 132).bind bj=some (.dF):=fR
@[simp] theorem Xe:bD prog 134=some true∧da prog 134=some 12:=fR
@[simp] theorem xgz:dL prog 134 0=some (28,0,9):=by decide +kernel
@[simp] theorem xgk:dL prog 134 1=some (132,9,1):=by decide +kernel
@[simp] theorem xgc:dL prog 134 2=some (132,10,1):=by decide +kernel
@[simp] theorem xgm:dL prog 134 3=some (3,11,1):=by decide +kernel
@[simp] theorem Xf:ey prog 134=some [.int .i64 0,.int .i64 0,.int .i64 0,.int .i64 0,.int .i64 0,.aI,.aI,.aI,.aI,.dF,.dF,.int .i64 0]:=by rfl
@[simp] theorem Xg (l:List (Nat×PV)):oa prog 134 l=(gA (([(0,9),(9,1),(10,1),(11,1)]:List (Nat×Nat))[·]?) [.int .i64 0,.int .i64 0,.int .i64 0,.int .i64 0,.int .i64 0,.aI,.aI,.aI,.aI,.dF,.dF,.int .i64 0] l).map .agg:=by rfl
@[simp] theorem Xh:(eu prog 134).bind bj=some (.agg [.int .i64 0,.int .i64 0,.int .i64 0,.int .i64 0,.int .i64 0,.aI,.aI,.aI,.aI,.dF,.dF,.int .i64 0]):=by rfl
@[simp] theorem Xi:bD prog 137=some true∧da prog 137=some 2:=fR
@[simp] theorem xf1:dL prog 137 0=some (3,0,1):=by decide +kernel
@[simp] theorem xg1:dL prog 137 1=some (3,1,1):=by decide +kernel
@[simp] theorem Xj:ey prog 137=some [.int .i64 0,.int .i64 0]:=by rfl
@[simp] theorem Xk (l:List (Nat×PV)):oa prog 137 l=(gA (([(0,1),(1,1)]:List (Nat×Nat))[·]?) [.int .i64 0,.int .i64 0] l).map .agg:=by rfl
@[simp] theorem Xl:(eu prog 137).bind bj=some (.agg [.int .i64 0,.int .i64 0]):=by rfl
@[simp] theorem Xm:bD prog 143=some true∧da prog 143=some 11:=fR
@[simp] theorem xgs:dL prog 143 0=some (137,0,2):=by decide +kernel
@[simp] theorem xgn:dL prog 143 1=some (137,2,2):=by decide +kernel
@[simp] theorem xgl:dL prog 143 2=some (48,4,5):=by decide +kernel
@[simp] theorem xf0:dL prog 143 3=some (3,9,1):=by decide +kernel
@[simp] theorem xf9:dL prog 143 4=some (4,10,1):=by decide +kernel
@[simp] theorem Xn:ey prog 143=some [.int .i64 0,.int .i64 0,.int .i64 0,.int .i64 0,.int .i64 0,.int .i64 0,.int .i64 0,.int .i64 0,.int .i64 0,.int .i64 0,.bool false]:=by rfl
@[simp] theorem Xo (l:List (Nat×PV)):oa prog 143 l=(gA (([(0,2),(2,2),(4,5),(9,1),(10,1)]:List (Nat×Nat))[·]?) [.int .i64 0,.int .i64 0,.int .i64 0,.int .i64 0,.int .i64 0,.int .i64 0,.int .i64 0,.int .i64 0,.int .i64 0,.int .i64 0,.bool false] l).map .agg:=by rfl
@[simp] theorem Xp:(eu prog 143).bind bj=some (.agg [.int .i64 0,.int .i64 0,.int .i64 0,.int .i64 0,.int .i64 0,.int .i64 0,.int .i64 0,.int .i64 0,.int .i64 0,.int .i64 0,.bool false]):=by rfl
@[simp] theorem Xq:bD prog 144=some false∧da prog 144=some 1∧ey prog 144=some [.nilFunc]∧(eu prog 144).bind bj=some (.nilFunc):=fR
@[simp] theorem Xr:bD prog 146=some false∧da prog 146=some 1∧ey prog 146=some [.nilFunc]∧(eu prog 146).bind bj=some (.nilFunc):=fR
@[simp] theorem Xs:bD prog 150=some true∧da prog 150=some 2:=fR
@[simp] theorem xgd:dL prog 150 0=some (3,0,1):=by decide +kernel
@[simp] theorem xgf:dL prog 150 1=some (25,1,1):=by decide +kernel
@[simp] theorem Xt:ey prog 150=some [.int .i64 0,.aI]:=by rfl
@[simp] theorem Xu (l:List (Nat×PV)):oa prog 150 l=(gA (([(0,1),(1,1)]:List (Nat×Nat))[·]?) [.int .i64 0,.aI] l).map .agg:=by rfl
@[simp] theorem Xv:(eu prog 150).bind bj=some (.agg [.int .i64 0,.aI]):=by rfl
@[simp] theorem Xw:bD prog 154=some false∧da prog 154=some 1∧ey prog 154=some [.nilFunc]∧(eu prog 154).bind bj=some (.nilFunc):=fR
@[simp] theorem Xx:prog.underlying 155=some (.slice 160)∧bD prog 155=some false∧da prog 155=some 1∧gO prog 155=some (160,11)∧(prog.info? 160).map (·.bytes)=some 88∧ey prog 155=some [.aI]∧(eu prog 155).bind bj=some (.aI):=fR
@[simp] theorem Xy:bD prog 158=some true∧da prog 158=some 2:=fR
@[simp] theorem xia:dL prog 158 0=some (3,0,1):=by decide +kernel
@[simp] theorem xhy:dL prog 158 1=some (3,1,1):=by decide +kernel
@[simp] theorem Xz:ey prog 158=some [.int .i64 0,.int .i64 0]:=by rfl
@[simp] theorem XA (l:List (Nat×PV)):oa prog 158 l=(gA (([(0,1),(1,1)]:List (Nat×Nat))[·]?) [.int .i64 0,.int .i64 0] l).map .agg:=by rfl
@[simp] theorem XB:(eu prog 158).bind bj=some (.agg [.int .i64 0,.int .i64 0]):=by rfl
@[simp] theorem XC:bD prog 160=some true∧da prog 160=some 11:=fR
@[simp] theorem xf4:dL prog 160 0=some (158,0,2):=by decide +kernel
@[simp] theorem xgb:dL prog 160 1=some (158,2,2):=by decide +kernel
@[simp] theorem xhv:dL prog 160 2=some (3,4,1):=by decide +kernel
@[simp] theorem xfx:dL prog 160 3=some (4,5,1):=by decide +kernel
@[simp] theorem xib:dL prog 160 4=some (48,6,5):=by decide +kernel
@[simp] theorem XD:ey prog 160=some [.int .i64 0,.int .i64 0,.int .i64 0,.int .i64 0,.int .i64 0,.bool false,.int .i64 0,.int .i64 0,.int .i64 0,.int .i64 0,.int .i64 0]:=by rfl
@[simp] theorem XE (l:List (Nat×PV)):oa prog 160 l=(gA (([(0,2),(2,2),(4,1),(5,1),(6,5)]:List (Nat×Nat))[·]?) [.int .i64 0,.int .i64 0,.int .i64 0,.int .i64 0,.int .i64 0,.bool false,.int .i64 0,.int .i64 0,.int .i64 0,.int .i64 0,.int .i64 0] l).map .agg:=by rfl
@[simp] theorem XF:(eu prog 160).bind bj=some (.agg [.int .i64 0,.int .i64 0,.int .i64 0,.int .i64 0,.int .i64 0,.bool false,.int .i64 0,.int .i64 0,.int .i64 0,.int .i64 0,.int .i64 0]):=by rfl
@[simp] theorem XH:bD prog 176=some true∧da prog 176=some 3:=fR
@[simp] theorem xg4:dL prog 176 0=some (3,0,1):=by decide +kernel
@[simp] theorem xfv:dL prog 176 1=some (3,1,1):=by decide +kernel
@[simp] theorem xh2:dL prog 176 2=some (3,2,1):=by decide +kernel
@[simp] theorem XI:ey prog 176=some [.int .i64 0,.int .i64 0,.int .i64 0]:=by rfl
@[simp] theorem XJ (l:List (Nat×PV)):oa prog 176 l=(gA (([(0,1),(1,1),(2,1)]:List (Nat×Nat))[·]?) [.int .i64 0,.int .i64 0,.int .i64 0] l).map .agg:=by rfl
@[simp] theorem XK:(eu prog 176).bind bj=some (.agg [.int .i64 0,.int .i64 0,.int .i64 0]):=by rfl
@[simp] theorem XM:jg prog 177=some (5,174,1):=by decide +kernel
@[simp] theorem XN:bD prog 178=some false∧da prog 178=some 1∧ey prog 178=some [.nilFunc]∧(eu prog 178).bind bj=some (.nilFunc):=fR
@[simp] theorem XO:bD prog 187=some false∧da prog 187=some 1∧ey prog 187=some [.nilFunc]∧(eu prog 187).bind bj=some (.nilFunc):=fR
@[simp] theorem XP:bD prog 189=some false∧da prog 189=some 1∧ey prog 189=some [.nilFunc]∧(eu prog 189).bind bj=some (.nilFunc):=fR
@[simp] theorem XQ:bD prog 192=some false∧da prog 192=some 1∧ey prog 192=some [.nilFunc]∧(eu prog 192).bind bj=some (.nilFunc):=fR
@[simp] theorem XR:prog.underlying 196=some (.map 137 198)∧bD prog 196=some false∧da prog 196=some 1∧ey prog 196=some [.dF]∧(eu prog 196).bind bj=some (.dF):=fR
@[simp] theorem XS:jg prog 197=some (2,3,1):=by decide +kernel
@[simp] theorem XU:prog.underlying 198=some (.array 2 3)∧bD prog 198=some true∧da prog 198=some 2:=fR
@[simp] theorem XV:jg prog 198=some (2,3,1):=by decide +kernel
@[simp] theorem XW:ey prog 198=some [.int .i64 0,.int .i64 0]:=by rfl
@[simp] theorem XX (l:List (Nat×PV)):oa prog 198 l=(gA (fun i=>some (i*1,1)) [.int .i64 0,.int .i64 0] l).map .agg:=by rfl
@[simp] theorem XY:(eu prog 198).bind bj=some (.agg [.int .i64 0,.int .i64 0]):=by rfl
@[simp] theorem XZ:bD prog 202=some true∧da prog 202=some 5:=fR
@[simp] theorem xh0:dL prog 202 0=some (158,0,2):=by decide +kernel
@[simp] theorem xgy:dL prog 202 1=some (3,2,1):=by decide +kernel
@[simp] theorem xge:dL prog 202 2=some (25,3,1):=by decide +kernel
@[simp] theorem xhi:dL prog 202 3=some (4,4,1):=by decide +kernel
@[simp] theorem X2:ey prog 202=some [.int .i64 0,.int .i64 0,.int .i64 0,.aI,.bool false]:=by rfl
@[simp] theorem X3 (l:List (Nat×PV)):oa prog 202 l=(gA (([(0,2),(2,1),(3,1),(4,1)]:List (Nat×Nat))[·]?) [.int .i64 0,.int .i64 0,.int .i64 0,.aI,.bool false] l).map .agg:=by rfl
@[simp] theorem X4:(eu prog 202).bind bj=some (.agg [.int .i64 0,.int .i64 0,.int .i64 0,.aI,.bool false]):=by rfl
@[simp] theorem X5:bD prog 205=some true∧da prog 205=some 3:=fR
@[simp] theorem xfz:dL prog 205 0=some (25,0,1):=by decide +kernel
@[simp] theorem xg6:dL prog 205 1=some (3,1,1):=by decide +kernel
@[simp] theorem xhe:dL prog 205 2=some (4,2,1):=by decide +kernel
@[simp] theorem X6:ey prog 205=some [.aI,.int .i64 0,.bool false]:=by rfl
@[simp] theorem X7 (l:List (Nat×PV)):oa prog 205 l=(gA (([(0,1),(1,1),(2,1)]:List (Nat×Nat))[·]?) [.aI,.int .i64 0,.bool false] l).map .agg:=by rfl
@[simp] theorem X8:(eu prog 205).bind bj=some (.agg [.aI,.int .i64 0,.bool false]):=by rfl
@[simp] theorem X9:prog.underlying 210=some (.slice 9)∧bD prog 210=some false∧da prog 210=some 1∧gO prog 210=some (9,1)∧(prog.info? 9).map (·.bytes)=some 16∧ey prog 210=some [.aI]∧(eu prog 210).bind bj=some (.aI):=fR
@[simp] theorem Ya:bD prog 211=some false∧da prog 211=some 1∧ey prog 211=some [.nilFunc]∧(eu prog 211).bind bj=some (.nilFunc):=fR
@[simp] theorem Yb:prog.underlying 228=some (.int .u64)∧bD prog 228=some false∧da prog 228=some 1∧ey prog 228=some [.int .u64 0]∧(eu prog 228).bind bj=some (.int .u64 0):=fR
@[simp] theorem Yc:prog.underlying 234=some (.array 5 3)∧bD prog 234=some true∧da prog 234=some 5:=fR
@[simp] theorem Yd:jg prog 234=some (5,3,1):=by decide +kernel
@[simp] theorem Ye:ey prog 234=some [.int .i64 0,.int .i64 0,.int .i64 0,.int .i64 0,.int .i64 0]:=by rfl
@[simp] theorem Yf (l:List (Nat×PV)):oa prog 234 l=(gA (fun i=>some (i*1,1)) [.int .i64 0,.int .i64 0,.int .i64 0,.int .i64 0,.int .i64 0] l).map .agg:=by rfl
@[simp] theorem Yg:(eu prog 234).bind bj=some (.agg [.int .i64 0,.int .i64 0,.int .i64 0,.int .i64 0,.int .i64 0]):=by rfl
@[simp] theorem Yh:jg prog 235=some (7,9,1):=by decide +kernel
@[simp] theorem Yi:prog.underlying 237=some (.pointer 240)∧bD prog 237=some false∧da prog 237=some 1∧ey prog 237=some [.ft]∧(eu prog 237).bind bj=some (.ft):=fR
@[simp] theorem Yj:prog.underlying 238=some (.slice 5)∧bD prog 238=some false∧da prog 238=some 1∧gO prog 238=some (5,1)∧(prog.info? 5).map (·.bytes)=some 1∧ey prog 238=some [.aI]∧(eu prog 238).bind bj=some (.aI):=fR
@[simp] theorem Yk:bD prog 240=some true∧da prog 240=some 2:=fR
@[simp] theorem xg0:dL prog 240 0=some (237,0,1):=by decide +kernel
@[simp] theorem xhb:dL prog 240 1=some (238,1,1):=by decide +kernel
@[simp] theorem Yl:ey prog 240=some [.ft,.aI]:=by rfl
@[simp] theorem Ym (l:List (Nat×PV)):oa prog 240 l=(gA (([(0,1),(1,1)]:List (Nat×Nat))[·]?) [.ft,.aI] l).map .agg:=by rfl
@[simp] theorem Yn:(eu prog 240).bind bj=some (.agg [.ft,.aI]):=by rfl
@[simp] theorem Yo:jg prog 272=some (24,5,1):=by decide +kernel
@[simp] theorem Yp:jg prog 278=some (20,258,1):=by decide +kernel
@[simp] theorem Yq:jg prog 279=some (65,5,1):=by decide +kernel
@[simp] theorem Yr:jg prog 280=some (32,5,1):=by decide +kernel
@[simp] theorem Ys:jg prog 281=some (64,5,1):=by decide +kernel
structure gZ where
  f:Int
  t:Int
  c:Int
deriving DecidableEq
structure lj where
  at_:Int
  ws:List Int
deriving DecidableEq
structure aj where
  om:Int
  le:Int
  tw:Int
  gl:Int
  ad:Int
  mx:List gZ
  t:List Int
  g:List lj
  c:List Int
deriving DecidableEq
structure aq where
  k:Int
  a:Int
  i:Int
  l:Int
  w:Int
deriving DecidableEq
def dB (n:Int):Bool:=decide (1≤n)&&decide (n≤9999)
def kL (n:Int):Bool:=decide (1≤n)&&decide (n≤100)
def mT (pre:List gZ)(x:gZ):Bool:=dB x.f&&dB x.t&&!decide (x.f=x.t)&&kL x.c&&!(pre.any fun y=>decide (y.f=x.f)&&decide (y.t=x.t))
def mc:List gZ→List gZ→Bool
 |_,[]=>true
 |pre,x::r=>mT pre x&&mc (pre++[x]) r
def oe (c:aj):Int:=
 if kL c.om&&kL c.le&&kL c.tw&&kL c.gl&&kL c.ad then (if 20<c.mx.length then 2 else if mc [] c.mx then 0 else 1) else 1
def jr (n:Nat)(x:lj):Bool:=(decide (0≤x.at_)&&decide (x.at_≤(n:Int)))&&(decide (1≤x.ws.length)&&decide (x.ws.length≤6))&&x.ws.all dB
def bl (c:aj):Int:=
 if oe c≠0 then oe c
 else if 48<c.t.length∨48<c.c.length∨6<c.g.length then 2
 else if c.t.all dB&&c.c.all dB&&c.g.all (jr c.t.length) then 0 else 1
def ed:List gZ→Int→Int→Option Int
 |[],_,_=>none
 |x::r,f,t=>if x.f=f∧x.t=t then some x.c else ed r f t
def aJ (c:aj)(s:aq):Option (Int×Nat×List Int):=
 if 0≤s.a∧s.a≤(c.t.length:Int)∧0≤s.i then
  let a:=s.a.toNat
  if s.k=1 then (if a<c.t.length∧s.l=0 then (ed c.mx (c.t.getD a 0) s.w).map fun n=>(n,a+1,[s.w]) else none)
  else if s.k=2 then (if a<c.t.length∧s.l=0∧s.w=0 then some (c.om,a+1,[]) else none)
  else if s.k=3 then (if 1≤a∧1≤s.l∧s.l≤(c.t.length:Int) - s.a∧s.w=0∧c.t.getD (a+s.l.toNat - 1) 0=c.t.getD (a - 1) 0 then some (c.le,a+s.l.toNat,[]) else none)
  else if s.k=4 then (if 1≤s.l∧s.l≤s.a∧s.w=0 then some (c.tw,a,(c.t.drop (a - s.l.toNat)).take s.l.toNat) else none)
  else if s.k=5 then (if 0≤s.l∧s.l≤(c.g.length:Int) - 1∧s.w=0∧(c.g.getD s.l.toNat ⟨0,[]⟩).at_=s.a then some (c.gl,a,(c.g.getD s.l.toNat ⟨0,[]⟩).ws) else none)
  else if s.k=6 then (if dB s.w∧s.l=0 then some (c.ad,a,[s.w]) else none)
  else none
 else none
def hasB (c:aj)(j:Nat)(l:List Int):Bool:=decide (j+l.length≤c.c.length)&&decide ((c.c.drop j).take l.length=l)
structure aK where
  i:Nat
  j:Nat
  i':Nat
  j':Nat
  n:Int
  s:Option aq
deriving DecidableEq
def lG (c:aj)(i j:Nat):List aq:=
 (if j<c.c.length then [⟨1,i,j,0,c.c.getD j 0⟩] else [])++[⟨2,i,j,0,0⟩]++
 ((List.range (c.t.length - i)).map fun n:Nat=>⟨3,i,j,(n+1:Nat),0⟩)++((List.range i).map fun n:Nat=>⟨4,i,j,(n+1:Nat),0⟩)++
 ((List.range c.g.length).map fun n:Nat=>⟨5,i,j,n,0⟩)++(if j<c.c.length then [⟨6,i,j,0,c.c.getD j 0⟩] else [])
def stepOf (c:aj)(i j:Nat)(s:aq):Option aK:=match aJ c s with
 |some (n,i',w)=>if hasB c j w then some ⟨i,j,i',j+w.length,n,some s⟩ else none
 |none=>none
def steps (c:aj)(i j:Nat):List aK:=
 (if i<c.t.length∧j<c.c.length∧c.t.getD i 0=c.c.getD j 0 then [⟨i,j,i+1,j+1,0,none⟩] else [])++(lG c i j).filterMap (stepOf c i j)
def places (c:aj):List (Nat×Nat):=(List.range (c.t.length+1)).flatMap fun i=>(List.range (c.c.length+1)).map fun j=>(i,j)
def graph (c:aj):List aK:=(places c).flatMap fun p=>steps c p.1 p.2
abbrev lJ:=Nat→Nat→Option Int
def kJ (D:lJ)(i j:Nat)(v:Option Int):lJ:=fun a b=>if a=i∧b=j then v else D a b
def sh:Option Int→Option Int→Option Int
 |none,y=>y
 |x,none=>x
 |some a,some b=>some (min a b)
def mF (D:lJ)(x:aK):lJ:=kJ D x.i' x.j' (sh (D x.i' x.j') ((D x.i x.j).map (·+x.n)))
def start:lJ:=fun a b=>if a=0∧b=0 then some 0 else none
def zN (D:lJ)(l:List aK):lJ:=l.foldl mF D
def mg (l:List aK):lJ:=zN start l
def vj (i j i' j':Nat):Prop:=i<i'∨(i=i'∧j<j')
theorem vj.irrefl {i j:Nat}:¬vj i j i j:=fun h=>by rcases h with h|⟨_,h⟩<;>omega
structure BF (l:List aK):Prop where
  on:∀x∈l,vj x.i x.j x.i' x.j'
  up:l.Pairwise fun x y=>¬vj y.i y.j x.i x.j
theorem BF.tail {x:aK}{l:List aK}(h:BF (x::l)):BF l:=⟨fun y hy=>h.on y (List.mem_cons_of_mem _ hy),(List.pairwise_cons.1 h.up).2⟩
def Le (o:Option Int)(v:Int):Prop:=∃u,o=some u∧u≤v
theorem Le.mono {o:Option Int}{v w:Int}(h:Le o v)(hv:v≤w):Le o w:=by obtain⟨u,h1,h2⟩:=h;exact⟨u,h1,by omega⟩
theorem z0r {o p:Option Int}{v:Int}(h:o=some v):Le (sh o p) v:=by
 subst h
 cases p with
 |none=>exact⟨v,rfl,Int.le_refl _⟩
 |some w=>exact⟨min v w,rfl,by omega⟩
theorem zxb {o p:Option Int}{v:Int}(h:p=some v):Le (sh o p) v:=by
 subst h
 cases o with
 |none=>exact⟨v,rfl,Int.le_refl _⟩
 |some w=>exact⟨min w v,rfl,by omega⟩
theorem Yt {o p:Option Int}{v:Int}(h:sh o p=some v):o=some v∨p=some v:=by
 cases o with
 |none=>exact .inr h
 |some a=>
  cases p with
  |none=>exact .inl h
  |some b=>
   have h:min a b=v:=by injection h
   rcases Int.le_total a b with iL|iL
   ·exact .inl (by rw[← h];congr 1;omega)
   exact .inr (by rw[← h];congr 1;omega)
theorem z4r {D:lJ}{x:aK}{a b:Nat}{v:Int}(h:D a b=some v):Le (mF D x a b) v:=by
 unfold mF kJ
 split
 ·rename_i iL
  obtain⟨rfl,rfl⟩:=iL
  exact z0r h
 exact⟨v,h,Int.le_refl _⟩
theorem Rn:∀ {l:List aK} {D:lJ} {a b:Nat} {v:Int},Le (D a b) v→Le (zN D l a b) v
 |[],D,a,b,v,h=>h
 |x::l,D,a,b,v,h=>by
  obtain⟨u,h1,h2⟩:=h
  exact Rn (l:=l) (D:=mF D x) ((z4r h1).mono h2)
theorem zw3 {D:lJ}{x:aK}{a b:Nat}(h:¬(a=x.i'∧b=x.j')):mF D x a b=D a b:=by
 unfold mF kJ;rw[if_neg h]
theorem Yu:∀ {l:List aK} {D:lJ} {a b:Nat},(∀x∈l,¬(a=x.i'∧b=x.j'))→zN D l a b=D a b
 |[],D,a,b,_=>rfl
 |x::l,D,a,b,h=>by
  have:=Yu (l:=l) (D:=mF D x) (a:=a) (b:=b) fun y hy=>h y (List.mem_cons_of_mem _ hy)
  show zN (mF D x) l a b=D a b
  rw[this,zw3 (h x List.mem_cons_self)]
theorem Yv:∀ {l:List aK} {D:lJ},BF l→∀x∈l,∀v,zN D l x.i x.j=some v→Le (zN D l x.i' x.j') (v+x.n)
 |[],_,_,x,hx,_,_=>by cases hx
 |y::l,D,hs,x,hx,v,hv=>by
  rcases List.mem_cons.1 hx with rfl|hx
  ·have gC:∀z∈x::l,¬(x.i=z.i'∧x.j=z.j'):=fun z hz he=>by
    have h1:=hs.on z hz
    rcases List.mem_cons.1 hz with rfl|hz
    ·rw[he.1,he.2] at h1
     rw[← he.1,← he.2] at h1
     rcases h1 with h1|⟨_,h1⟩<;>omega
    have h2:=(List.pairwise_cons.1 hs.up).1 z hz
    exact h2 (by rw[he.1,he.2];exact h1)
   rw[Yu gC] at hv
   refine Rn (l:=l) (D:=mF D x) ?_
   unfold mF kJ
   rw[if_pos ⟨rfl,rfl⟩,hv]
   exact zxb rfl
  exact Yv hs.tail x hx v hv
inductive Way (L:List aK):Nat→Nat→Nat→Nat→Int→List aK→Prop where
  |nil (i j:Nat):Way L i j i j 0 []
  |cons (x:aK) (hx:x∈L) {a b:Nat} {n:Int} {l:List aK} (h:Way L x.i' x.j' a b n l):Way L x.i x.j a b (x.n+n) (x::l)
theorem Way.snoc {L:List aK}{i j a b:Nat}{n:Int}{l:List aK}(h:Way L i j a b n l):∀ {x:aK},x∈L→x.i=a→x.j=b→Way L i j x.i' x.j' (n+x.n) (l++[x]):=by
 induction h with
 |nil i j=>
  rintro x hx rfl rfl
  have:=Way.cons x hx (.nil x.i' x.j')
  rw[show (0:Int)+x.n=x.n+0 by omega]
  exact this
 |cons y hy h ih=>
  intro x hx h1 h2
  have:=Way.cons y hy (ih hx h1 h2)
  rw[Int.add_assoc]
  exact this
theorem Way.append {L:List aK}{i j a b:Nat}{n:Int}{l:List aK}(h:Way L i j a b n l):∀ {c d:Nat} {m:Int} {l':List aK},Way L a b c d m l'→Way L i j c d (n+m) (l++l'):=by
 induction h with
 |nil i j=>intro c d m l' h';rw[Int.zero_add];exact h'
 |cons y hy h ih=>
  intro c d m l' h'
  have:=Way.cons y hy (ih h')
  rw[Int.add_assoc]
  exact this
theorem Yw {L:List aK}:∀ {l:List aK} {D:lJ},(∀x∈l,x∈L)→(∀a b v,D a b=some v→∃w,Way L 0 0 a b v w)→∀a b v,zN D l a b=some v→∃w,Way L 0 0 a b v w
 |[],D,_,hD,a,b,v,h=>hD a b v h
 |x::l,D,hl,hD,a,b,v,h=>by
  refine Yw (l:=l) (D:=mF D x) (fun y hy=>hl y (List.mem_cons_of_mem _ hy)) (fun a b v hv=>?_) a b v h
  unfold mF kJ at hv
  split at hv
  ·rename_i iL
   obtain⟨rfl,rfl⟩:=iL
   rcases Yt hv with h1|h1
   ·exact hD _ _ _ h1
   cases h2:D x.i x.j with
   |none=>rw[h2] at h1;cases h1
   |some u=>
    rw[h2] at h1
    have h1:u+x.n=v:=by injection h1
    obtain⟨w,hw⟩:=hD _ _ _ h2
    exact⟨w++[x],h1▸hw.snoc (hl x List.mem_cons_self) rfl rfl⟩
  exact hD a b v hv
theorem Ux {L:List aK}{a b:Nat}{v:Int}(h:mg L a b=some v):∃w,Way L 0 0 a b v w:=
 Yw (fun x hx=>hx) (fun a b v hv=>by
  unfold start at hv
  split at hv
  ·rename_i iL
   obtain⟨rfl,rfl⟩:=iL
   injection hv with hv
   subst hv
   exact⟨[],.nil 0 0⟩
  cases hv) a b v h
theorem z1l (L:List aK):Le (mg L 0 0) 0:=Rn ⟨0,by simp[start],Int.le_refl _⟩
theorem z5l {L:List aK}(hs:BF L){i j a b:Nat}{n:Int}{w:List aK}(h:Way L i j a b n w):∀ {v:Int},Le (mg L i j) v→Le (mg L a b) (v+n):=by
 induction h with
 |nil i j=>intro v hv;rw[Int.add_zero];exact hv
 |cons x hx h ih=>
  intro v hv
  obtain⟨u,h1,h2⟩:=hv
  have:=ih (Yv hs x hx u h1)
  exact this.mono (by omega)
theorem Uw {L:List aK}(hs:BF L){a b:Nat}{n:Int}{w:List aK}(h:Way L 0 0 a b n w):Le (mg L a b) n:=by
 have:=z5l hs h (z1l L)
 rwa [Int.zero_add] at this
structure Rt (c:aj):Prop where
  om:1≤c.om∧c.om≤100
  le:1≤c.le∧c.le≤100
  tw:1≤c.tw∧c.tw≤100
  gl:1≤c.gl∧c.gl≤100
  ad:1≤c.ad∧c.ad≤100
  HI:c.mx.length≤20
  Vr:∀x∈c.mx,(1≤x.c∧x.c≤100)∧x.f≠x.t∧dB x.t=true
  mxn:∀x∈c.mx,∀y∈c.mx,x.f=y.f→x.t=y.t→x=y
  tl:c.t.length≤48
  cl:c.c.length≤48
  wc:c.g.length≤6
  tok:∀w∈c.t,dB w=true
  cok:∀w∈c.c,dB w=true
  La:∀x∈c.g,(0≤x.at_∧x.at_≤(c.t.length:Int))∧1≤x.ws.length∧x.ws.length≤6∧∀w∈x.ws,dB w=true
theorem Ro:∀ {r pre:List gZ},mc pre r=true→(∀x∈r,(1≤x.c∧x.c≤100)∧x.f≠x.t∧dB x.t=true)∧(∀x∈r,∀y∈pre,¬(y.f=x.f∧y.t=x.t))∧r.Pairwise fun x y=>¬(x.f=y.f∧x.t=y.t)
 |[],pre,_=>⟨fun x hx=>(by cases hx),fun x hx=>(by cases hx),List.Pairwise.nil⟩
 |a::r,pre,h=>by
  unfold mc at h
  rw[bS] at h
  obtain⟨h1,h2⟩:=h
  obtain⟨i1,i2,i3⟩:=Ro h2
  unfold mT kL at h1
  simp only[bS,decide_eq_true_eq,Bool.not_eq_true',decide_eq_false_iff_not,List.any_eq_false] at h1
  obtain⟨⟨⟨⟨e1,e2⟩,e3⟩,e4⟩,e5⟩:=h1
  refine⟨fun x hx=>?_,fun x hx y hy=>?_,List.pairwise_cons.2 ⟨fun y hy hh=>?_,i3⟩⟩
  ·rcases List.mem_cons.1 hx with rfl|hx
   ·exact⟨e4,e3,e2⟩
   exact i1 x hx
  ·rcases List.mem_cons.1 hx with rfl|hx
   ·have:=e5 y hy
    simpa using this
   exact i2 x hx y (List.mem_append_left _ hy)
  exact i2 y hy a (List.mem_append_right _ (List.mem_singleton.2 rfl)) hh
theorem gR {c:aj}(h:bl c=0):Rt c:=by
 unfold bl at h
 by_cases h0:oe c=0
 ·rw[if_neg (by simp[h0])] at h
  unfold oe at h0
  split at h0
  ·rename_i hc
   split at h0
   ·cases h0
   rename_i hl
   split at h0
   ·rename_i hm
    split at h
    ·cases h
    rename_i mq
    split at h
    ·rename_i hw
     simp only[bS,List.all_eq_true] at hw
     obtain⟨⟨w1,w2⟩,w3⟩:=hw
     unfold kL at hc
     simp only[bS,decide_eq_true_eq] at hc
     obtain⟨⟨⟨⟨c1,c2⟩,c3⟩,c4⟩,c5⟩:=hc
     obtain⟨m1,_,m3⟩:=Ro hm
     refine⟨c1,c2,c3,c4,c5,by omega,m1,fun x hx y hy e1 e2=>?_,by omega,by omega,by omega,w1,w2,fun x hx=>?_⟩
     ·obtain⟨i,hi,rfl⟩:=List.mem_iff_getElem.1 hx
      obtain⟨j,hj,rfl⟩:=List.mem_iff_getElem.1 hy
      rcases Nat.lt_trichotomy i j with fH|fH|fH
      ·exact absurd ⟨e1,e2⟩ ((List.pairwise_iff_getElem.1 m3) i j hi hj fH)
      ·subst fH;rfl
      exact absurd ⟨e1.symm,e2.symm⟩ ((List.pairwise_iff_getElem.1 m3) j i hj hi fH)
     have:=w3 x hx
     unfold jr at this
     simp only[bS,decide_eq_true_eq,List.all_eq_true] at this
     exact⟨this.1.1,this.1.2.1,this.1.2.2,this.2⟩
    cases h
   cases h0
  cases h0
 rw[if_pos h0] at h;exact absurd h h0
theorem LV:∀ {l:List gZ} {f t n:Int},ed l f t=some n→∃x∈l,x.f=f∧x.t=t∧x.c=n
 |[],_,_,_,h=>by cases h
 |a::r,f,t,n,h=>by
  unfold ed at h
  split at h
  ·rename_i hh;injection h with h;exact⟨a,List.mem_cons_self,hh.1,hh.2,h⟩
  obtain⟨x,hx,h1⟩:=LV h;exact⟨x,List.mem_cons_of_mem _ hx,h1⟩
theorem OU {α:Type}{l:List α}{i:Nat}{d:α}(h:i<l.length):l.getD i d∈l:=by
 rw[List.getD_eq_getElem?_getD,List.getElem?_eq_getElem h];exact List.getElem_mem h
theorem kN {c:aj}(hr:Rt c){s:aq}{n:Int}{i':Nat}{w:List Int}(h:aJ c s=some (n,i',w)) :
  (1≤n∧n≤100)∧(0≤s.a∧s.a≤(c.t.length:Int)∧0≤s.i)∧s.a.toNat≤i'∧i'≤c.t.length∧(s.a.toNat<i'∨1≤w.length)∧w.length≤48:=by
 unfold aJ at h
 split at h
 ·rename_i dx
  obtain⟨h1,h2,h3⟩:=dx
  simp only at h
  split at h
  ·split at h
   ·rename_i hk hc
    obtain⟨m,hm,he⟩:=Option.map_eq_some_iff.1 h
    injection he with e1 e2;injection e2 with e2 e3
    obtain⟨x,hx,_,_,hxc⟩:=LV hm
    have:=(hr.Vr x hx).1
    subst e1;subst e2;subst e3
    refine⟨by omega,⟨h1,h2,h3⟩,by omega,by omega,.inl (by omega),by simp⟩
   cases h
  split at h
  ·split at h
   ·rename_i hc
    injection h with h;injection h with e1 e2;injection e2 with e2 e3
    subst e1;subst e2;subst e3
    exact⟨hr.om,⟨h1,h2,h3⟩,by omega,by omega,.inl (by omega),by simp⟩
   cases h
  split at h
  ·split at h
   ·rename_i hc
    injection h with h;injection h with e1 e2;injection e2 with e2 e3
    subst e1;subst e2;subst e3
    exact⟨hr.le,⟨h1,h2,h3⟩,by omega,by omega,.inl (by omega),by simp⟩
   cases h
  split at h
  ·split at h
   ·rename_i hc
    injection h with h;injection h with e1 e2;injection e2 with e2 e3
    subst e1;subst e2;subst e3
    have:=hr.tl
    refine⟨hr.tw,⟨h1,h2,h3⟩,by omega,by omega,.inr ?_,?_⟩
    ·rw[List.length_take,List.length_drop];omega
    rw[List.length_take];omega
   cases h
  split at h
  ·split at h
   ·rename_i hc
    injection h with h;injection h with e1 e2;injection e2 with e2 e3
    subst e1;subst e2;subst e3
    have hm:=hr.La _ (OU (l:=c.g) (i:=s.l.toNat) (d:=⟨0,[]⟩) (by omega))
    exact⟨hr.gl,⟨h1,h2,h3⟩,by omega,by omega,.inr hm.2.1,by omega⟩
   cases h
  split at h
  ·split at h
   ·injection h with h;injection h with e1 e2;injection e2 with e2 e3
    subst e1;subst e2;subst e3
    exact⟨hr.ad,⟨h1,h2,h3⟩,by omega,by omega,.inr (by simp),by simp⟩
   cases h
  cases h
 cases h
theorem Et {c:aj}{i j:Nat}{s:aq}(h:s∈lG c i j):s.a=i∧s.i=j:=by
 unfold lG at h
 simp only[List.mem_append,List.mem_map,List.mem_range] at h
 rcases h with ((((h|h)|⟨n,_,rfl⟩)|⟨n,_,rfl⟩)|⟨n,_,rfl⟩)|h
 ·split at h
  ·rw[List.mem_singleton] at h;subst h;exact⟨rfl,rfl⟩
  cases h
 ·rw[List.mem_singleton] at h;subst h;exact⟨rfl,rfl⟩
 ·exact⟨rfl,rfl⟩
 ·exact⟨rfl,rfl⟩
 ·exact⟨rfl,rfl⟩
 split at h
 ·rw[List.mem_singleton] at h;subst h;exact⟨rfl,rfl⟩
 cases h
structure Md (c:aj) (i j:Nat) (x:aK):Prop where
  fi:x.i=i
  fj:x.j=j
  vc:i≤x.i'
  vd:j≤x.j'
  on:i<x.i'∨j<x.j'
  n0:0≤x.n
  n1:x.n≤100
  it:x.i'≤c.t.length
  jt:x.j'≤c.c.length
theorem Md.Wm {c:aj}{i j:Nat}{x:aK}(h:Md c i j x):vj x.i x.j x.i' x.j':=by
 have h1:=h.vc;have h2:=h.vd;have h3:=h.on
 rw[h.fi,h.fj]
 unfold vj
 omega
theorem ib {c:aj}(hr:Rt c){i j:Nat}{x:aK}(h:x∈steps c i j):Md c i j x:=by
 unfold steps at h
 rcases List.mem_append.1 h with h|h
 ·split at h
  ·rename_i hc
   rw[List.mem_singleton] at h
   subst h
   exact⟨rfl,rfl,by simp,by simp,by simp,by simp,by simp,by simp;omega,by simp;omega⟩
  cases h
 obtain⟨s,hs,he⟩:=List.mem_filterMap.1 h
 obtain⟨ha,hi⟩:=Et hs
 unfold stepOf at he
 split at he
 ·rename_i n i' w hd
  split at he
  ·rename_i hb
   injection he with he
   subst he
   obtain⟨d1,d2,d3,d4,d5,d6⟩:=kN hr hd
   unfold hasB at hb
   rw[bS,decide_eq_true_eq] at hb
   rw[ha,Int.toNat_natCast] at d3 d5
   exact⟨rfl,rfl,d3,by simp,by simp only;omega,by simp only;omega,by simp only;omega,d4,hb.1⟩
  cases he
 cases he
theorem Lx (c:aj):(places c).Pairwise fun p q=>vj p.1 p.2 q.1 q.2:=by
 unfold places
 rw[List.pairwise_flatMap]
 refine⟨fun i _=>?_,?_⟩
 ·rw[List.pairwise_map]
  exact(List.pairwise_lt_range).imp fun h=>.inr ⟨rfl,h⟩
 refine(List.pairwise_lt_range).imp fun {i i'} h p hp q hq=>?_
 obtain⟨a,_,rfl⟩:=List.mem_map.1 hp
 obtain⟨b,_,rfl⟩:=List.mem_map.1 hq
 exact .inl h
theorem Io {c:aj}{x:aK}:x∈graph c↔∃i j,i≤c.t.length∧j≤c.c.length∧x∈steps c i j:=by
 unfold graph places
 simp only[List.mem_flatMap,List.mem_map,List.mem_range]
 constructor
 ·rintro⟨p,⟨i,hi,j,hj,rfl⟩,hx⟩;exact⟨i,j,by omega,by omega,hx⟩
 rintro⟨i,j,hi,hj,hx⟩;exact⟨(i,j),⟨i,by omega,j,by omega,rfl⟩,hx⟩
theorem OX {c:aj}(hr:Rt c):BF (graph c):=by
 refine⟨fun x hx=>?_,?_⟩
 ·obtain⟨i,j,_,_,h⟩:=Io.1 hx
  exact(ib hr h).Wm
 unfold graph
 rw[List.pairwise_flatMap]
 refine⟨fun p _=>?_,(Lx c).imp fun {p q} h x hx y hy=>?_⟩
 ·refine List.pairwise_of_forall_mem_list fun x hx y hy=>?_
  have h1:=ib hr hx
  have h2:=ib hr hy
  rw[h1.fi,h1.fj,h2.fi,h2.fj]
  exact vj.irrefl
 have h1:=ib hr hx
 have h2:=ib hr hy
 rw[h1.fi,h1.fj,h2.fi,h2.fj]
 unfold vj at h ⊢
 omega
def pY (l:List gZ)(f t:Int):Option Int:=l.foldl (fun o x=>if x.f=f∧x.t=t then some x.c else o) none
theorem zzo (l:List gZ)(x:gZ)(f t:Int):pY (l++[x]) f t=if x.f=f∧x.t=t then some x.c else pY l f t:=by
 unfold pY;rw[List.foldl_append];rfl
theorem z0n {l:List gZ}{k:Nat}(h:k<l.length)(f t:Int):pY (l.take (k+1)) f t=if l[k].f=f∧l[k].t=t then some l[k].c else pY (l.take k) f t:=by
 rw[List.take_succ_eq_append_getElem h,zzo]
theorem TG {l:List gZ}{f t:Int}(h:∀x∈l,¬(x.f=f∧x.t=t)):ed l f t=none:=by
 induction l with
 |nil=>rfl
 |cons a r ih=>
  unfold ed
  rw[if_neg (h a List.mem_cons_self)]
  exact ih fun x hx=>h x (List.mem_cons_of_mem _ hx)
theorem Oe:∀ {l:List gZ} {f t:Int} (o:Option Int),(l.Pairwise fun x y=>¬(x.f=y.f∧x.t=y.t))→l.foldl (fun o x=>if x.f=f∧x.t=t then some x.c else o) o=(ed l f t).or o
 |[],f,t,o,_=>by simp[ed]
 |a::r,f,t,o,h=>by
  rw[List.pairwise_cons] at h
  rw[List.foldl_cons,Oe _ h.2]
  by_cases ha:a.f=f∧a.t=t
  ·have hn:ed r f t=none:=TG fun x hx hh=>h.1 x hx ⟨ha.1.trans hh.1.symm,ha.2.trans hh.2.symm⟩
   rw[hn,if_pos ha]
   unfold ed
   rw[if_pos ha];rfl
  rw[if_neg ha]
  conv=>rhs;unfold ed
  rw[if_neg ha]
theorem TF {c:aj}(h:bl c=0):c.mx.Pairwise fun x y=>¬(x.f=y.f∧x.t=y.t):=by
 have hm:mc [] c.mx=true:=by
  cases hm:mc [] c.mx with
  |true=>rfl
  |false=>
   exfalso
   have:oe c≠0:=by
    unfold oe
    rw[hm]
    split
    ·split
     ·decide
     simp
    decide
   unfold bl at h
   rw[if_pos this] at h
   exact this h
 exact(Ro hm).2.2
theorem z7z {c:aj}(h:bl c=0)(f t:Int):pY c.mx f t=ed c.mx f t:=by
 unfold pY
 rw[Oe none (TF h)];simp
def lL (c:aj):List aq→List Int→Nat→Int→Option (List Int×Int)
 |[],out,i,sum=>some (out++c.t.drop i,sum)
 |s::r,out,i,sum=>
  if (i:Int)≤s.a∧s.a≤(c.t.length:Int) then
   match aJ c s with
   |some (n,i',w)=>if s.i=((out++(c.t.drop i).take (s.a.toNat - i)).length:Int) then lL c r (out++(c.t.drop i).take (s.a.toNat - i)++w) i' (sum+n) else none
   |none=>none
  else none
def eE (c:aj)(l:List aq):Option (List Int×Int):=lL c l [] 0 0
def cJ (c:aj)(l:List aq):Option Int:=if 100<l.length then none else match eE c l with
 |some (o,n)=>if o=c.c then some n else none
 |none=>none
def val (bg:Int)(o:lJ)(a b:Nat):Int:=(o a b).getD bg
def bB (D:Nat→Nat→Int)(i j:Nat)(v:Int):Nat→Nat→Int:=fun a b=>if a=i∧b=j then v else D a b
def lK (o:lJ)(k:Nat):Prop:=∀a b v,o a b=some v→0≤v∧v≤100*(k:Int)
theorem lK.start:lK start 0:=fun a b v h=>by
 unfold Sl.start at h
 split at h
 ·injection h with h;subst h;omega
 cases h
theorem lK.mF {o:lJ}{k:Nat}(h:lK o k){x:aK}(h0:0≤x.n)(h1:x.n≤100):lK (mF o x) (k+1):=fun a b v hv=>by
 unfold Sl.mF kJ at hv
 split at hv
 ·rename_i iL
  rcases Yt hv with h2|h2
  ·have:=h _ _ _ h2;omega
  cases h3:o x.i x.j with
  |none=>rw[h3] at h2;cases h2
  |some u=>
   rw[h3] at h2
   have h2:u+x.n=v:=by injection h2
   have:=h _ _ _ h3
   omega
 have:=h _ _ _ hv;omega
theorem lK.foldl:∀ {l:List aK} {o:lJ} {k:Nat},lK o k→(∀x∈l,0≤x.n∧x.n≤100)→lK (zN o l) (k+l.length)
 |[],o,k,h,_=>h
 |x::l,o,k,h,hx=>by
  have h1:=hx x List.mem_cons_self
  have:=lK.foldl (l:=l) (h.mF h1.1 h1.2) fun y hy=>hx y (List.mem_cons_of_mem _ hy)
  rw[List.length_cons,show k+(l.length+1)=k+1+l.length by omega]
  exact this
theorem lK.mono {o:lJ}{k m:Nat}(h:lK o k)(hm:k≤m):lK o m:=fun a b v hv=>by have:=h a b v hv;omega
theorem F7 {bg:Int}{o:lJ}{a b:Nat}{v:Int}(h:o a b=some v):val bg o a b=v:=by unfold val;rw[h];rfl
theorem z2s {bg:Int}{o:lJ}{a b:Nat}(h:o a b=none):val bg o a b=bg:=by unfold val;rw[h];rfl
theorem Un {bg:Int}{o:lJ}{k:Nat}(h:lK o k)(hf:100*(k:Int)+100≤bg){x:aK}(h0:0≤x.n)(h1:x.n≤100):val bg (mF o x)=bB (val bg o) x.i' x.j' (min (val bg o x.i' x.j') (val bg o x.i x.j+x.n)):=by
 funext a b
 unfold val mF kJ bB
 split
 ·cases h2:o x.i' x.j' with
  |none=>
   cases h3:o x.i x.j with
   |none=>simp[sh];omega
   |some v=>have:=h _ _ _ h3;simp[sh];omega
  |some u=>
   have hu:=h _ _ _ h2
   cases h3:o x.i x.j with
   |none=>simp[sh];omega
   |some v=>simp[sh]
 rfl
theorem z2m {bg:Int}{o:lJ}{x:aK}{k:Nat}(h:lK o k)(hf:100*(k:Int)<bg)(hp:¬val bg o x.i x.j<bg):mF o x=o:=by
 have hn:o x.i x.j=none:=by
  cases h3:o x.i x.j with
  |none=>rfl
  |some v=>exfalso;rw[F7 h3] at hp;have:=h _ _ _ h3;omega
 funext a b
 unfold mF kJ
 split
 ·rename_i iL
  obtain⟨rfl,rfl⟩:=iL
  rw[hn]
  cases o x.i' x.j'<;>rfl
 rfl
theorem Mg {bg:Int}{o:lJ}{k:Nat}(h:lK o k)(hf:100*(k:Int)<bg){a b:Nat}:val bg o a b<bg↔∃v,o a b=some v:=by
 constructor
 ·intro hv
  cases ho:o a b with
  |none=>rw[z2s ho] at hv;omega
  |some v=>exact⟨v,rfl⟩
 rintro⟨v,hv⟩
 rw[F7 hv]
 have:=h _ _ _ hv
 omega
theorem zy9 (c:aj)(i j:Nat)(hi:i≤c.t.length):(lG c i j).length≤c.t.length+c.g.length+3:=by
 unfold lG
 simp only[List.length_append,List.length_map,List.length_range,List.length_singleton]
 split<;>simp<;>omega
theorem L7 (c:aj)(i j:Nat)(hi:i≤c.t.length):(steps c i j).length≤c.t.length+c.g.length+4:=by
 unfold steps
 rw[List.length_append]
 have h1:=List.length_filterMap_le (stepOf c i j) (lG c i j)
 have h2:=zy9 c i j hi
 split<;>simp<;>omega
theorem Yx {α β:Type}(f:α→List β)(m:Nat):∀(l:List α),(∀x∈l,(f x).length≤m)→(l.flatMap f).length≤l.length*m
 |[],_=>by simp
 |a::r,h=>by
  have ih:=Yx f m r fun x hx=>h x (List.mem_cons_of_mem _ hx)
  have:=h a List.mem_cons_self
  rw[List.flatMap_cons,List.length_append,List.length_cons,Nat.succ_mul]
  omega
theorem zwv (c:aj):(places c).length=(c.t.length+1)*(c.c.length+1):=by
 have:∀(n m:Nat),((List.range n).flatMap fun i=>(List.range m).map fun j=>(i,j)).length=n*m:=by
  intro n m
  induction n with
  |zero=>simp
  |succ n ih=>rw[List.range_succ,List.flatMap_append,List.length_append,ih,Nat.succ_mul];simp
 exact this _ _
theorem Il {c:aj}(hr:Rt c):(graph c).length≤139258:=by
 have h1:=Yx (fun p:Nat×Nat=>steps c p.1 p.2) (c.t.length+c.g.length+4) (places c) fun p hp=>by
  unfold places at hp
  simp only[List.mem_flatMap,List.mem_map,List.mem_range] at hp
  obtain⟨i,hi,j,hj,rfl⟩:=hp
  exact L7 c i j (by omega)
 rw[zwv] at h1
 have e1:=hr.tl;have e2:=hr.cl;have e3:=hr.wc
 have h2:(c.t.length+1)*(c.c.length+1)≤49*49:=Nat.mul_le_mul (by omega) (by omega)
 have h3:(c.t.length+1)*(c.c.length+1)*(c.t.length+c.g.length+4)≤49*49*58:=Nat.mul_le_mul h2 (by omega)
 exact Nat.le_trans h1 h3
theorem Im {c:aj}(hr:Rt c):∀x∈graph c,0≤x.n∧x.n≤100:=fun x hx=>by
 obtain⟨i,j,_,_,h⟩:=Io.1 hx
 have:=ib hr h
 exact⟨this.n0,this.n1⟩
def mW (m i:Nat):List (Nat×Nat):=(List.range m).map fun j=>(i,j)
def kC (m i j:Nat):List (Nat×Nat):=(List.range i).flatMap (mW m)++mW j i
theorem FV (m i j:Nat):kC m i (j+1)=kC m i j++[(i,j)]:=by
 unfold kC mW
 rw[List.range_succ,List.map_append,List.append_assoc];rfl
theorem FW (m i:Nat):kC m i m=kC m (i+1) 0:=by
 unfold kC
 rw[List.range_succ,List.flatMap_append]
 simp[mW]
theorem Ef (c:aj):kC (c.c.length+1) (c.t.length+1) 0=places c:=by
 unfold kC places mW
 simp
theorem Ol {m i j a b:Nat}:(a,b)∈kC m i j↔(a<i∧b<m)∨(a=i∧b<j):=by
 unfold kC mW
 simp only[List.mem_append,List.mem_flatMap,List.mem_map,List.mem_range,bG]
 constructor
 ·rintro (⟨x,hx,y,hy,rfl,rfl⟩|⟨y,hy,rfl,rfl⟩)
  ·exact .inl ⟨hx,hy⟩
  exact .inr ⟨rfl,hy⟩
 rintro (⟨h1,h2⟩|⟨rfl,h2⟩)
 ·exact .inl ⟨a,h1,b,h2,rfl,rfl⟩
 exact .inr ⟨b,h2,rfl,rfl⟩
theorem uq {c:aj}{a b:Nat}:(a,b)∈places c↔a≤c.t.length∧b≤c.c.length:=by
 rw[← Ef,Ol];omega
def ur (c:aj)(p:aK→Bool)(i j:Nat):List aK:=((kC (c.c.length+1) i j).flatMap fun q=>steps c q.1 q.2).filter p
theorem z4k (c:aj)(p:aK→Bool)(i j:Nat):ur c p i (j+1)=ur c p i j++(steps c i j).filter p:=by
 unfold ur;rw[FV,List.flatMap_append,List.filter_append];simp
theorem z9n (c:aj)(p:aK→Bool)(i:Nat):ur c p i (c.c.length+1)=ur c p (i+1) 0:=by
 unfold ur;rw[FW]
theorem zy2 (c:aj)(p:aK→Bool):ur c p (c.t.length+1) 0=(graph c).filter p:=by
 unfold ur graph;rw[Ef]
open Go Go.Am
mutual
theorem Od (vh:ai):∀ {v:PV},v.aG=true→bI vh v=some v
 |.func f xs ys,h=>by
  simp only[PV.aG,bS] at h
  simp only[bI,xM vh h.1,xM vh h.2]
 |.agg cs,h=>by simp only[PV.aG] at h;simp only[bI,xM vh h,Option.map_some]
 |.bx cs,h=>by simp only[PV.aG] at h;simp only[bI,xM vh h,Option.map_some]
 |.iface t v,h=>by simp only[PV.aG] at h;simp only[bI,h,aO]
 |.ptr ..,h=>by simp[PV.aG] at h
 |.own ..,h=>by simp[PV.aG] at h
 |.sub ..,h=>by simp[PV.aG] at h
 |.grow ..,h=>by simp[PV.aG] at h
 |.aW ..,h=>by simp[PV.aG] at h
 |.bY ..,h=>by simp[PV.aG] at h
 |.bool _,_=>by simp only[bI]
 |.int _ _,_=>by simp only[bI]
 |.str _,_=>by simp only[bI]
 |.nilFunc,_=>by simp only[bI]
 |.nilIface,_=>by simp only[bI]
 |.ft,_=>by simp only[bI]
 |.aI,_=>by simp only[bI]
 |.dF,_=>by simp only[bI]
 |.e0,_=>by simp only[bI]
 |.vec _,_=>by simp only[bI]
 |.vp _,_=>by simp only[bI]
 |.aC _,_=>by simp only[bI]
theorem xM (vh:ai):∀ {l:List PV},PV.aF l=true→b6 vh l=some l
 |[],_=>by simp only[b6]
 |v::r,h=>by
  simp only[PV.aF,bS] at h
  simp only[b6,Od vh h.1,xM vh h.2]
end
@[simp] theorem z6f (l:List Int):List.take l.length (l.map (PV.int .i64))=l.map (PV.int .i64):=List.take_of_length_le (by rw[List.length_map];exact Nat.le_refl _)
@[simp] theorem z6i (l:List Int):l.all (PV.one∘PV.int .i64)=true:=by simp[PV.one]
def eR (r v:PV):Prop:=Alt ai.empty 0 (fun _=>true) id r v
variable [bF] in
theorem aN.soft {P:Program}{f:FuncId}{args:List PV}{v:PV}(hp:aN P f args fun r=>eR r v)(hv:v.aG=true):aN P f args fun r=>r=v:=hp.alt fun r h=>⟨v,h,hv,rfl⟩
theorem oB {v:PV}(h:v.aG=true):eR v v:=.same v h
theorem zJ {l l2:List PV}(h:aD ai.empty 0 (fun _=>true) id l l2):eR (.bx l) (.bx l2):=.EY h
variable [bF] in
theorem aN.xhg {P:Program}{f:FuncId}{l r:List PV}{R:PV→Prop}(hp:aN P f (l++.vec []::r) R):aN P f (l++.aI::r) R:=fun lo g σ h aB ha s=>by
 refine hp lo g σ h aB ⟨by have:=ha.1;simpa using this,fun i v v' hv aQ=>?_⟩ s
 by_cases hi:i=l.length
 ·subst hi
  have h1:(l++PV.aI::r)[l.length]?=some .aI:=by simp
  have h2:=ha.2 _ _ v' h1 aQ
  have h3:v=.vec []:=by simpa using hv.symm
  subst h3
  cases h2 with
  |fr _ _ h=>cases h;exact .fr _ _ .fw
 refine ha.2 i v v' ?_ aQ
 rw[← hv]
 rcases Nat.lt_or_ge i l.length with h|h
 ·rw[List.getElem?_append_left h,List.getElem?_append_left h]
 rw[List.getElem?_append_right h,List.getElem?_append_right h]
 obtain⟨j,hj⟩:∃j,i - l.length=j+1:=⟨i - l.length - 1,by omega⟩
 rw[hj];rfl
theorem g48:(prog.stoodInHeld 48||prog.eqGuardType prog.depth 48)=false:=by decide +kernel
theorem n48:(match prog.underlying 48 with|some (.struct fs)=>fs.toList.map (fun f=>(f.name == "_", da prog f.type,f.type,f.offset))|_=>[])=[(false,some 1,3,0),(false,some 1,3,1),(false,some 1,3,2),(false,some 1,3,3),(false,some 1,3,4)]:=by decide +kernel
theorem fN (a0 a1 a2 a3 a4 b0 b1 b2 b3 b4:Int):dR prog 48 (.agg #[.int .i64 a0,.int .i64 a1,.int .i64 a2,.int .i64 a3,.int .i64 a4]) (.agg #[.int .i64 b0,.int .i64 b1,.int .i64 b2,.int .i64 b3,.int .i64 b4])=some (a0==b0&&a1==b1&&a2==b2&&a3==b3&&a4==b4):=by
 have hn:=n48
 have hg:=g48
 unfold dR
 simp only
 cases hu:prog.underlying 48 with
 |none=>rw[hu] at hn;simp at hn
 |some td=>
  cases td with
  |struct fs=>
   rw[hu] at hn
   simp only at hn ⊢
   rw[hg]
   simp only[bz]
   generalize fs.toList=l at hn
   rcases l with _|⟨f1,_|⟨f2,_|⟨f3,_|⟨f4,_|⟨f5,_|⟨f6,r⟩⟩⟩⟩⟩⟩
   ·simp at hn
   ·simp at hn
   ·simp at hn
   ·simp at hn
   ·simp at hn
   ·simp only[List.map_cons,List.map_nil,List.cons.injEq,bG,and_true] at hn
    obtain⟨⟨I1,I2,I3,I4⟩,⟨I5,I6,I7,I8⟩,⟨k2a,k2b,k2c,k2d⟩,⟨k3a,k3b,k3c,k3d⟩,⟨k4a,k4b,k4c,k4d⟩⟩:=hn
    simp only[vL,I1,I2,I3,I4,I5,I6,I7,I8,k2a,k2b,k2c,k2d,k3a,k3b,k3c,k3d,k4a,k4b,k4c,k4d,bz]
    have ha:bD prog 3=some false:=by decide +kernel
    have DL:prog.underlying 3=some (.int .i64):=by rfl
    simp[apart,ha,Dc,DL]
    cases a0==b0<;>cases a1==b1<;>cases a2==b2<;>cases a3==b3<;>cases a4==b4<;>rfl
   simp at hn
  |_=>rw[hu] at hn;simp at hn
theorem Rp:(prog.stoodInHeld 137||prog.eqGuardType prog.depth 137)=false:=by decide +kernel
theorem n137:(match prog.underlying 137 with|some (.struct fs)=>fs.toList.map (fun f=>(f.name == "_", da prog f.type,f.type,f.offset))|_=>[])=[(false,some 1,3,0),(false,some 1,3,1)]:=by decide +kernel
theorem pZ (a0 a1 b0 b1:Int):dR prog 137 (.agg #[.int .i64 a0,.int .i64 a1]) (.agg #[.int .i64 b0,.int .i64 b1])=some (a0==b0&&a1==b1):=by
 have hn:=n137
 have hg:=Rp
 unfold dR
 simp only
 cases hu:prog.underlying 137 with
 |none=>rw[hu] at hn;simp at hn
 |some td=>
  cases td with
  |struct fs=>
   rw[hu] at hn
   simp only at hn ⊢
   rw[hg]
   simp only[bz]
   generalize fs.toList=l at hn
   rcases l with _|⟨f1,_|⟨f2,_|⟨f3,r⟩⟩⟩
   ·simp at hn
   ·simp at hn
   ·simp only[List.map_cons,List.map_nil,List.cons.injEq,bG,and_true] at hn
    obtain⟨⟨I1,I2,I3,I4⟩,⟨I5,I6,I7,I8⟩⟩:=hn
    simp only[vL,I1,I2,I3,I4,I5,I6,I7,I8,bz]
    have ha:bD prog 3=some false:=by decide +kernel
    have DL:prog.underlying 3=some (.int .i64):=by rfl
    simp[apart,ha,Dc,DL]
    cases a0==b0<;>cases a1==b1<;>rfl
   simp at hn
  |_=>rw[hu] at hn;simp at hn
end Go.Am.Sl
end
section
namespace Go.Am
noncomputable def oK:Code→List (Array Tmp×Code×Code)
 |.seq a b=>oK a++oK b
 |.cond _ a b=>oK a++oK b
 |.block _ c=>oK c
 |.loop c=>oK c
 |.rangeFunc _ ps a b=>(ps,a,b)::(oK a++oK b)
 |.scope b=>oK b
 |_=>[]
noncomputable def xI (fn:Func)(k:Nat)(ab:a7)(j:Option Code):aM:=match fn.body with
 |some c=>match (oK c)[k]? with
  |some (ps,a,b)=>.loop fn.ntmps ps a b ab j
  |none=>.box []
 |none=>.box []
theorem mi.xI {vh:ai}{n2:Nat}{D:Nat→Bool}{ρ:Nat→Nat}{fn:Func}{k:Nat}{ab aA:a7}{x:Option Code}(h:oL ab vh n2 D ρ aA):mi vh n2 D ρ (xI fn k ab x) (xI fn k aA x):=by
 unfold Go.Am.xI
 split
 ·split
  ·exact sM.mk rfl rfl rfl rfl rfl h
  exact aD.nil
 exact aD.nil
variable [bF] in
theorem lN.vf {P:Program}{N b:Nat}{o:Oper}{next:a7→ai→Prop}{ab aA:a7}{vh aV:ai}(a:Rec b ab vh aA aV)(hc:lN P N b o next aA aV):lN P N b o next ab vh:=by
 obtain⟨D,ρ,a⟩:=a
 exact bZ.zwz D ρ a hc
end Go.Am
end
section
namespace Go.Am.Sl
def mX (c:aj)(s:aq):Bool:=match aJ c s with
 |some (_,_,w)=>hasB c s.i.toNat w
 |none=>false
def pB (c:aj)(i j:Nat):List aq:=(lG c i j).filter (mX c)
def aq.lt (a b:aq):Prop:=a.a<b.a∨(a.a=b.a∧(a.i<b.i∨(a.i=b.i∧(a.k<b.k∨(a.k=b.k∧(a.l<b.l∨(a.l=b.l∧a.w<b.w)))))))
instance (a b:aq):Decidable (a.lt b):=by unfold aq.lt;infer_instance
theorem aq.Ik (a:aq):¬a.lt a:=by unfold aq.lt;omega
theorem aq.lt_trans {a b c:aq}(h:a.lt b)(g:b.lt c):a.lt c:=by unfold aq.lt at *;omega
theorem aq.ext' {a b:aq}(h1:a.k=b.k)(h2:a.a=b.a)(h3:a.i=b.i)(h4:a.l=b.l)(h5:a.w=b.w):a=b:=by
 cases a;cases b;simp_all
theorem aq.Uk (a b:aq):a.lt b∨a=b∨b.lt a:=by
 by_cases h:a=b
 ·exact .inr (.inl h)
 have:¬(a.k=b.k∧a.a=b.a∧a.i=b.i∧a.l=b.l∧a.w=b.w):=fun⟨h1,h2,h3,h4,h5⟩=>h (aq.ext' h1 h2 h3 h4 h5)
 unfold aq.lt
 omega
def eT (l:List aq)(s:aq):List aq:=match l with
 |[]=>[s]
 |a::r=>if a.lt s then a::eT r s else if a=s then a::r else s::a::r
theorem L3 {s x:aq}:∀ {l:List aq},x∈eT l s↔x∈l∨x=s
 |[]=>by simp[eT]
 |a::r=>by
  unfold eT
  split
  ·rw[List.mem_cons,L3,List.mem_cons,or_assoc]
  split
  ·rename_i h;subst h
   constructor
   ·exact .inl
   rintro (h|rfl)
   ·exact h
   exact List.mem_cons_self
  rw[List.mem_cons]
  constructor
  ·rintro (h|h)
   ·exact .inr h
   exact .inl h
  rintro (h|h)
  ·exact .inr h
  exact .inl h
theorem Yy {s:aq}:∀ {l:List aq},l.Pairwise aq.lt→(eT l s).Pairwise aq.lt
 |[],_=>by simp[eT]
 |a::r,h=>by
  rw[List.pairwise_cons] at h
  unfold eT
  split
  ·rename_i ha
   rw[List.pairwise_cons]
   refine⟨fun x hx=>?_,Yy h.2⟩
   rcases L3.1 hx with h1|rfl
   ·exact h.1 x h1
   exact ha
  split
  ·exact List.pairwise_cons.2 h
  rename_i h1 h2
  have h3:s.lt a:=by
   rcases aq.Uk a s with h|h|h
   ·exact absurd h h1
   ·exact absurd h h2
   exact h
  rw[List.pairwise_cons]
  refine⟨fun x hx=>?_,List.pairwise_cons.2 h⟩
  rcases List.mem_cons.1 hx with rfl|hx
  ·exact h3
  exact aq.lt_trans h3 (h.1 x hx)
theorem Yz:∀ {l m:List aq},l.Pairwise aq.lt→m.Pairwise aq.lt→(∀x,x∈l↔x∈m)→l=m
 |[],[],_,_,_=>rfl
 |[],b::m,_,_,h=>by have:=(h b).2 List.mem_cons_self;cases this
 |a::l,[],_,_,h=>by have:=(h a).1 List.mem_cons_self;cases this
 |a::l,b::m,hl,hm,h=>by
  rw[List.pairwise_cons] at hl hm
  have iL:a=b:=by
   rcases List.mem_cons.1 ((h a).1 List.mem_cons_self) with h1|h1
   ·exact h1
   rcases List.mem_cons.1 ((h b).2 List.mem_cons_self) with h2|h2
   ·exact h2.symm
   exact absurd (aq.lt_trans (hm.1 a h1) (hl.1 b h2)) (aq.Ik b)
  subst iL
  congr 1
  refine Yz hl.2 hm.2 fun x=>?_
  constructor
  ·intro hx
   rcases List.mem_cons.1 ((h x).1 (List.mem_cons_of_mem _ hx)) with rfl|h1
   ·exact absurd (hl.1 _ hx) (aq.Ik _)
   exact h1
  intro hx
  rcases List.mem_cons.1 ((h x).2 (List.mem_cons_of_mem _ hx)) with rfl|h1
  ·exact absurd (hm.1 _ hx) (aq.Ik _)
  exact h1
def nc (c:aj)(i j:Nat):List aq:=
 (if j<c.c.length then [⟨1,i,j,0,c.c.getD j 0⟩,⟨6,i,j,0,c.c.getD j 0⟩] else [])++[⟨2,i,j,0,0⟩]++((List.range (c.t.length+1)).flatMap fun (k:Nat)=>[⟨3,i,j,k,0⟩,⟨4,i,j,k,0⟩])++((List.range c.g.length).map fun (k:Nat)=>⟨5,i,j,k,0⟩)
def L4 (c:aj)(i j:Nat):List aq:=((nc c i j).filter (mX c)).foldl eT []
theorem YA:∀(l a:List aq),a.Pairwise aq.lt→(l.foldl eT a).Pairwise aq.lt∧∀x,x∈l.foldl eT a↔x∈a∨x∈l
 |[],a,h=>⟨h,fun x=>by simp⟩
 |s::r,a,h=>by
  obtain⟨h1,h2⟩:=YA r (eT a s) (Yy h)
  refine⟨h1,fun x=>?_⟩
  rw[List.foldl_cons,h2,L3,List.mem_cons,or_assoc]
theorem Rq {n:Nat}{f:Nat→aq}(h:∀a b,a<b→(f a).lt (f b)):((List.range n).map f).Pairwise aq.lt:=by
 rw[List.pairwise_map]
 exact List.pairwise_lt_range.imp fun h1=>h _ _ h1
theorem UP (c:aj)(i j:Nat):(lG c i j).Pairwise aq.lt:=by
 have Ex:((List.range (c.t.length - i)).map fun (k:Nat)=>(⟨3,i,j,k+1,0⟩:aq)).Pairwise aq.lt:=Rq fun a b h=>by unfold aq.lt;simp;omega
 have hr4:((List.range i).map fun (k:Nat)=>(⟨4,i,j,k+1,0⟩:aq)).Pairwise aq.lt:=Rq fun a b h=>by unfold aq.lt;simp;omega
 have hr5:((List.range c.g.length).map fun (k:Nat)=>(⟨5,i,j,k,0⟩:aq)).Pairwise aq.lt:=Rq fun a b h=>by unfold aq.lt;simp;omega
 have j9:∀ {k k':Int} {a b c d:Int},k<k'→(⟨k,i,j,a,b⟩:aq).lt ⟨k',i,j,c,d⟩:=fun h=>by unfold aq.lt;simp;omega
 unfold lG
 generalize hA:(if j<c.c.length then [(⟨1,i,j,0,c.c.getD j 0⟩:aq)] else [])=A
 generalize hB:(if j<c.c.length then [(⟨6,i,j,0,c.c.getD j 0⟩:aq)] else [])=B
 have JG:∀x∈A,x=⟨1,i,j,0,c.c.getD j 0⟩:=fun x hx=>by
  rw[← hA] at hx;split at hx
  ·simpa using hx
  cases hx
 have JH:∀x∈B,x=⟨6,i,j,0,c.c.getD j 0⟩:=fun x hx=>by
  rw[← hB] at hx;split at hx
  ·simpa using hx
  cases hx
 have hAp:A.Pairwise aq.lt:=by rw[← hA];split<;>simp
 have hBp:B.Pairwise aq.lt:=by rw[← hB];split<;>simp
 simp only[List.pairwise_append,List.mem_append,List.mem_map,List.mem_range,List.mem_singleton]
 refine⟨⟨⟨⟨⟨hAp,by simp,?_⟩,Ex,?_⟩,hr4,?_⟩,hr5,?_⟩,hBp,?_⟩
 ·rintro x hx y rfl
  rw[JG x hx];exact j9 (by omega)
 ·rintro x (hx|rfl) y ⟨k,_,rfl⟩
  ·rw[JG x hx];exact j9 (by omega)
  exact j9 (by omega)
 ·rintro x ((hx|rfl)|⟨m,_,rfl⟩) y ⟨k,_,rfl⟩
  ·rw[JG x hx];exact j9 (by omega)
  ·exact j9 (by omega)
  exact j9 (by omega)
 ·rintro x (((hx|rfl)|⟨m,_,rfl⟩)|⟨m,_,rfl⟩) y ⟨k,_,rfl⟩
  ·rw[JG x hx];exact j9 (by omega)
  ·exact j9 (by omega)
  ·exact j9 (by omega)
  exact j9 (by omega)
 rintro x ((((hx|rfl)|⟨m,_,rfl⟩)|⟨m,_,rfl⟩)|⟨m,_,rfl⟩) y hy
 ·rw[JG x hx,JH y hy];exact j9 (by omega)
 ·rw[JH y hy];exact j9 (by omega)
 ·rw[JH y hy];exact j9 (by omega)
 ·rw[JH y hy];exact j9 (by omega)
 rw[JH y hy];exact j9 (by omega)
theorem xh1 {c:aj}{i j:Nat}{k:Int}(h:mX c ⟨3,i,j,k,0⟩=true):1≤k∧k≤(c.t.length:Int) - i:=by
 unfold mX at h
 cases hd:aJ c ⟨3,i,j,k,0⟩ with
 |none=>rw[hd] at h;cases h
 |some x=>
  unfold aJ at hd
  simp only[Int.reduceEq,if_false,if_true] at hd
  split at hd
  ·split at hd
   ·rename_i h1;exact⟨h1.2.1,h1.2.2.1⟩
   cases hd
  cases hd
theorem xh5 {c:aj}{i j:Nat}{k:Int}(h:mX c ⟨4,i,j,k,0⟩=true):1≤k∧k≤i:=by
 unfold mX at h
 cases hd:aJ c ⟨4,i,j,k,0⟩ with
 |none=>rw[hd] at h;cases h
 |some x=>
  unfold aJ at hd
  simp only[Int.reduceEq,if_false,if_true] at hd
  split at hd
  ·split at hd
   ·rename_i h1;exact⟨h1.1,h1.2.1⟩
   cases hd
  cases hd
theorem z0g (c:aj)(i j:Nat)(hi:i≤c.t.length):L4 c i j=pB c i j:=by
 obtain⟨h1,h2⟩:=YA ((nc c i j).filter (mX c)) [] List.Pairwise.nil
 refine Yz h1 ((UP c i j).filter _) fun x=>?_
 rw[show L4 c i j=((nc c i j).filter (mX c)).foldl eT [] from rfl] at *
 rw[h2,pB]
 simp only[List.not_mem_nil,false_or,List.mem_filter]
 refine and_congr_left fun hx=>?_
 unfold nc lG
 have h3:∀k:Nat,x=⟨3,i,j,k,0⟩→∃n:Nat,n<c.t.length - i∧x=⟨3,i,j,(n+1:Nat),0⟩:=fun k e=>by
  subst e
  obtain⟨a,b⟩:=xh1 hx
  exact⟨k - 1,by omega,by congr 1;omega⟩
 have h4:∀k:Nat,x=⟨4,i,j,k,0⟩→∃n:Nat,n<i∧x=⟨4,i,j,(n+1:Nat),0⟩:=fun k e=>by
  subst e
  obtain⟨a,b⟩:=xh5 hx
  exact⟨k - 1,by omega,by congr 1;omega⟩
 by_cases hj:j<c.c.length
 ·simp only[hj,if_true,List.mem_append,List.mem_flatMap,List.mem_map,List.mem_range,List.mem_cons,List.not_mem_nil,or_false]
  constructor
  ·rintro ((((h|h)|h)|⟨k,hk,h|h⟩)|⟨k,hk,h⟩)
   ·exact .inl (.inl (.inl (.inl (.inl h))))
   ·exact .inr h
   ·exact .inl (.inl (.inl (.inl (.inr h))))
   ·obtain⟨n,hn,e⟩:=h3 k h
    exact .inl (.inl (.inl (.inr ⟨n,hn,e.symm⟩)))
   ·obtain⟨n,hn,e⟩:=h4 k h
    exact .inl (.inl (.inr ⟨n,hn,e.symm⟩))
   exact .inl (.inr ⟨k,hk,h⟩)
  rintro (((((h|h)|⟨k,hk,h⟩)|⟨k,hk,h⟩)|⟨k,hk,h⟩)|h)
  ·exact .inl (.inl (.inl (.inl h)))
  ·exact .inl (.inl (.inr h))
  ·exact .inl (.inr ⟨k+1,by omega,.inl h.symm⟩)
  ·exact .inl (.inr ⟨k+1,by omega,.inr h.symm⟩)
  ·exact .inr ⟨k,hk,h⟩
  exact .inl (.inl (.inl (.inr h)))
 simp only[hj,if_false,List.mem_append,List.mem_flatMap,List.mem_map,List.mem_range,List.mem_cons,List.not_mem_nil,or_false,false_or]
 constructor
 ·rintro ((h|⟨k,hk,h|h⟩)|⟨k,hk,h⟩)
  ·exact .inl (.inl (.inl h))
  ·obtain⟨n,hn,e⟩:=h3 k h
   exact .inl (.inl (.inr ⟨n,hn,e.symm⟩))
  ·obtain⟨n,hn,e⟩:=h4 k h
   exact .inl (.inr ⟨n,hn,e.symm⟩)
  exact .inr ⟨k,hk,h⟩
 rintro (((h|⟨k,hk,h⟩)|⟨k,hk,h⟩)|⟨k,hk,h⟩)
 ·exact .inl (.inl h)
 ·exact .inl (.inr ⟨k+1,by omega,.inl h.symm⟩)
 ·exact .inl (.inr ⟨k+1,by omega,.inr h.symm⟩)
 exact .inr ⟨k,hk,h⟩
open Go Go.Am
def pl (i j:Nat):PV:=.agg [.int .i64 i,.int .i64 j]
def qR (i j:Nat):List Value:=[.int .i64 i,.int .i64 j]
def be (ps:List (Nat×Nat))(D:Nat→Nat→Int):List (PV×PV):=ps.map fun p=>(pl p.1 p.2,.int .i64 (D p.1 p.2))
theorem QA (a b i j:Nat):jj (qR a b) (qR i j)=some (decide (a=i)&&decide (b=j)):=by
 simp only[qR,jj,decide_true,aO,Bool.and_true,Int.ofNat_inj]
theorem Wj {l m:List Value}{ds:List PV}{v:PV}{r:List (PV×PV)}{s:Bool}{q:Option PV}(h1:gJ ds=some m)(h2:jj l m=some s)(h3:kB l r=some q):kB l ((.agg ds,v)::r)=some (bif s then some v else q):=by
 simp only[kB,h1,h2,h3]
theorem xJ (a b:Nat)(D:Nat→Nat→Int):∀ps:List (Nat×Nat),kB (qR a b) (be ps D)=some (if (a,b)∈ps then some (.int .i64 (D a b)) else none)
 |[]=>rfl
 |(i,j)::r=>by
  have hc:=Wj (l:=qR a b) (m:=qR i j) (ds:=[.int .i64 i,.int .i64 j]) (v:=.int .i64 (D i j)) rfl (QA a b i j) (xJ a b D r)
  refine Eq.trans hc ?_
  by_cases h1:a=i∧b=j
  ·obtain⟨rfl,rfl⟩:=h1
   simp
  have:(decide (a=i)&&decide (b=j))=false:=by
   rw[Bool.eq_false_iff];intro hh;rw[bS,decide_eq_true_eq,decide_eq_true_eq] at hh;exact h1 hh
  simp only[this,bz]
  have hm:(a,b)∈(i,j)::r↔(a,b)∈r:=by
   rw[List.mem_cons]
   constructor
   ·rintro (h|h)
    ·injection h with e1 e2;exact absurd ⟨e1,e2⟩ h1
    exact h
   exact .inr
  simp only[hm]
theorem Wl (a b i j:Nat):tS (qR a b) (pl i j)=(decide (a=i)&&decide (b=j)):=by
 have h:=QA a b i j
 unfold qR at h ⊢
 simp only[tS,pl,gJ,Option.map_some,h]
theorem HS {a b:Nat}{D:Nat→Nat→Int}{ps:List (Nat×Nat)}(h:(a,b)∈ps)(v:Int):nJ (qR a b) [.int .i64 a,.int .i64 b] (.int .i64 v) (be ps D)=some (be ps (bB D a b v)):=by
 unfold nJ
 rw[xJ,if_pos h]
 simp only[be,List.map_map]
 refine congrArg some (List.map_congr_left fun p _=>?_)
 simp only[Function.comp,Gv,Wl,bB]
 by_cases h1:a=p.1∧b=p.2
 ·obtain⟨rfl,rfl⟩:=h1
  simp[pl]
 have h2:(decide (a=p.1)&&decide (b=p.2))=false:=by
  rw[Bool.eq_false_iff];intro hh;rw[bS,decide_eq_true_eq,decide_eq_true_eq] at hh;exact h1 hh
 rw[h2,bz,if_neg fun hh=>h1 ⟨hh.1.symm,hh.2.symm⟩]
theorem HU {a b:Nat}{D:Nat→Nat→Int}{ps:List (Nat×Nat)}(h:(a,b)∉ps)(v:Int):nJ (qR a b) [.int .i64 a,.int .i64 b] (.int .i64 v) (be ps D)=some (be (ps++[(a,b)]) (bB D a b v)):=by
 unfold nJ
 rw[xJ,if_neg h]
 simp only[be,List.map_append,List.map_cons,List.map_nil]
 refine congrArg some ?_
 congr 1
 ·refine List.map_congr_left fun p hp=>?_
  have h1:¬(p.1=a∧p.2=b):=fun hh=>h (by rw[← hh.1,← hh.2];exact hp)
  simp only[bB,if_neg h1]
 simp[bB,pl]
def jA (a b:Int):Int:=if a<b then -1 else if b<a then 1 else 0
def vi:List Int→Int
 |[]=>0
 |a::r=>if a=0 then vi r else a
def oz (a b:aq):Int:=vi [jA a.a b.a,jA a.i b.i,jA a.k b.k,jA a.l b.l,jA a.w b.w]
theorem z5n {l:List Int}{i:Nat}(h:i<l.length)(hz:∀x∈l.take i,x=0)(hn:l[i]≠0):vi l=l[i]:=by
 induction l generalizing i with
 |nil=>simp at h
 |cons a r ih=>
  cases i with
  |zero=>simp only[List.getElem_cons_zero] at hn ⊢;unfold vi;rw[if_neg hn]
  |succ i=>
   have ha:a=0:=hz a (by simp)
   simp only[List.getElem_cons_succ] at hn ⊢
   unfold vi
   rw[if_pos ha]
   exact ih (by simpa using h) (fun x hx=>hz x (by simp[hx])) hn
theorem z4z {l:List Int}(hz:∀x∈l,x=0):vi l=0:=by
 induction l with
 |nil=>rfl
 |cons a r ih=>unfold vi;rw[if_pos (hz a (by simp)),ih fun x hx=>hz x (by simp[hx])]
theorem z7i {a b:Int}:jA a b<0↔a<b:=by unfold jA;split<;>(try split)<;>omega
theorem xei {a b:Int}:jA a b=0↔a=b:=by unfold jA;split<;>(try split)<;>omega
theorem z4g {a:Int}{r:List Int}:vi (a::r)<0↔a<0∨(a=0∧vi r<0):=by
 rw[show vi (a::r)=if a=0 then vi r else a from rfl]
 split<;>omega
theorem xa7 {a b:aq}:oz a b<0↔a.lt b:=by
 unfold oz aq.lt
 simp only[z4g,z7i,xei]
 simp only[vi]
 omega
def F5 (a b:aq):Bool:=!decide (b.lt a)
theorem z4e {l:List aq}(h:l.Pairwise aq.lt):l.mergeSort F5=l:=
 List.mergeSort_of_pairwise (h.imp fun {a b} iL=>by
  unfold F5
  rw[Bool.not_eq_true',decide_eq_false_iff_not]
  exact fun mG=>aq.Ik a (aq.lt_trans iL mG))
end Go.Am.Sl
end
section
namespace Go.Am
abbrev bu:=List (Nat×aM)
theorem CU (j:Nat)(L:bu):∀S:bu,bt j (S++L)=match bt j S with|some x=>some x|none=>bt j L
 |[]=>rfl
 |(i,x)::r=>by
  simp only[List.cons_append,bt,beq_eq]
  by_cases h:j=i
  ·simp[h]
  simp[h];exact CU j L r
theorem wj {i:Nat}{x:aM}:∀ {L:bu},bt i L=none→cZ i x L=L
 |[],_=>rfl
 |(j,y)::r,h=>by
  simp only[bt,beq_eq] at h
  by_cases fH:i=j
  ·simp[fH] at h
  simp only[fH,decide_false,bz] at h
  simp only[cZ,beq_eq,fH,decide_false,bz,wj h]
theorem Lh {i:Nat}:∀ {L:bu},bt i L=none→iw i L=L
 |[],_=>rfl
 |(j,y)::r,h=>by
  simp only[bt,beq_eq] at h
  by_cases fH:i=j
  ·simp[fH] at h
  simp only[fH,decide_false,bz] at h
  simp only[iw,beq_eq,fH,decide_false,bz,Lh h]
theorem Rr (i:Nat)(L:bu):∀S:bu,iw i (S++L)=iw i S++iw i L
 |[]=>rfl
 |(j,y)::r=>by
  simp only[List.cons_append,iw,beq_eq]
  by_cases fH:i=j
  ·subst fH;simp;exact Rr i L r
  simp[fH];exact Rr i L r
def bN (L L':bu):Prop:=∀j y,bt j L=some y→bt j L'=some y
theorem bN.refl (L:bu):bN L L:=fun _ _ h=>h
theorem bN.nil (L:bu):bN [] L:=fun j y h=>by simp[bt] at h
theorem bN.cons {i:Nat}{x:aM}{r L:bu}(h:bt i L=some x)(hr:bN r L):bN ((i,x)::r) L:=fun j y hy=>by
 simp only[bt,beq_eq] at hy
 by_cases hj:j=i
 ·subst hj;simp at hy;subst hy;exact h
 simp[hj] at hy;exact hr j y hy
theorem bN.skip {i:Nat}{x:aM}{L T:bu}(h:bt i L=none)(hr:bN L T):bN L ((i,x)::T):=fun j y hy=>by
 simp only[bt,beq_eq]
 by_cases hj:j=i
 ·subst hj;rw[h] at hy;cases hy
 simp[hj];exact hr j y hy
theorem bN.drop {i:Nat}{L:bu}{vh:ai}(h:bt i L=none)(hr:bN L vh.bq):bN L (vh.drop i).bq:=fun j y hy=>by
 show (vh.drop i).get j=some y
 rw[ai.NR]
 by_cases hj:j=i
 ·subst hj;rw[h] at hy;cases hy
 simp[hj];exact hr j y hy
def jZ (n:Nat)(L L':bu):Prop:=∀j,j<n→bt j L=none→bt j L'=none
theorem jZ.refl (n:Nat)(L:bu):jZ n L L:=fun _ _ h=>h
theorem jZ.mono {n m:Nat}{L L':bu}(h:jZ m L L')(hn:n≤m):jZ n L L':=fun j hj=>h j (Nat.lt_of_lt_of_le hj hn)
theorem jZ.nil (n:Nat)(L:bu):jZ n L []:=fun _ _ _=>rfl
theorem jZ.gV {n i:Nat}{x y:aM}{L r:bu}(h:bt i L=some y)(hr:jZ n L r):jZ n L ((i,x)::r):=fun j hj hn=>by
 simp only[bt,beq_eq]
 by_cases iZ:j=i
 ·subst iZ;rw[h] at hn;cases hn
 simp[iZ];exact hr j hj hn
theorem jZ.fresh {n i:Nat}{x:aM}{L r:bu}(h:n≤i)(hr:jZ n L r):jZ n L ((i,x)::r):=fun j hj hn=>by
 simp only[bt,beq_eq]
 by_cases iZ:j=i
 ·omega
 simp[iZ];exact hr j hj hn
def wK (S L:bu):Prop:=∀j x,bt j S=some x→x.live=true∧bt j L=none
theorem wK.nil (L:bu):wK [] L:=fun j x h=>by simp[bt] at h
theorem wK.cons {i:Nat}{x:aM}{S L:bu}(h1:x.live=true)(h2:bt i L=none)(h:wK S L):wK ((i,x)::S) L:=fun j y hy=>by
 simp only[bt,beq_eq] at hy
 by_cases hj:j=i
 ·subst hj;simp at hy;subst hy;exact⟨h1,h2⟩
 simp[hj] at hy;exact h j y hy
def jv (a b:a7):Prop:=∀t v,bK t a=some v→bK t b=some v
theorem jv.refl (a:a7):jv a a:=fun _ _ h=>h
theorem jv.nil (b:a7):jv [] b:=fun t v h=>by simp[bK] at h
theorem jv.cons {t:Nat}{v:PV}{r b:a7}(h:bK t b=some v)(hr:jv r b):jv ((t,v)::r) b:=fun u w hw=>by
 simp only[bK,beq_eq] at hw
 by_cases hj:u=t
 ·subst hj;simp at hw;subst hw;exact h
 simp[hj] at hw;exact hr u w hw
section
variable {P:Program} {N b:Nat} {Q Q':jd} {ab iY aA:a7} {vh cn aV:ai}
def Wk (b:Nat)(ab:a7)(vh:ai)(aA:a7)(aV:ai):Prop:=∀(N lo:Nat) (g:Fz) (σ:Sg) (h:ah) (ts:aL),VT g σ vh.next ab ts→ts.length=N→VS lo g σ vh h→b≤vh.next→∃g2 dG,dV N b lo g σ vh h ts h g2 dG aA aV
theorem Rec.wk (a:Rec b ab vh aA aV):Wk b ab vh aA aV:=by
 obtain⟨D,ρ,a⟩:=a
 exact fun N lo g σ h ts ht hn s hb=>⟨_,_,a.Rs ht hn s⟩
theorem Wk.trans (a:Wk b ab vh iY cn)(c:Wk b iY cn aA aV):Wk b ab vh aA aV:=fun N lo g σ h ts ht hn s hb=>by
 obtain⟨g1,rB,x⟩:=a N lo g σ h ts ht hn s hb
 obtain⟨g2,dG,y⟩:=c N lo g1 rB h ts x.t x.len x.s x.base
 exact⟨g2,dG,x.trans y⟩
section
variable [bF]
theorem VW.wk {c:Code}(a:Wk b ab vh aA aV)(hc:VW P N b c Q aA aV):VW P N b c Q ab vh:=fun lo g σ h ts ht hn s hb=>by
 obtain⟨g2,dG,x⟩:=a N lo g σ h ts ht hn s hb
 exact(hc lo g2 dG h ts x.t x.len x.s x.base).mono fun e bf h' hk=>qt.trans x hk
theorem lN.wk {o:Oper}{next:a7→ai→Prop}(a:Wk b ab vh aA aV)(hc:lN P N b o next aA aV):lN P N b o next ab vh:=fun lo g σ h ts ht hn s hb=>by
 obtain⟨g2,dG,x⟩:=a N lo g σ h ts ht hn s hb
 exact(hc lo g2 dG h ts x.t x.len x.s x.base).mono fun bf h' hk=>qt.trans x hk
end
theorem VS.sj {lo:Nat}{g:Fz}{σ:Sg}{h:ah}(s:VS lo g σ vh h)(hs:bN aV.bq vh.bq)(hn:vh.next≤aV.next):VS lo g σ aV h:=
 ⟨fun j y hy=>⟨Nat.lt_of_lt_of_le (s.obj j y (hs j y hy)).1 hn,(s.obj j y (hs j y hy)).2.mono (Fz.le_refl g) hn (fun _ _=>rfl) (s.obj j y (hs j y hy)).1 fun _=>rfl⟩,fun j k y z hy hz=>s.inj j k y z (hs j y hy) (hs k z hz),fun j y hy=>s.low j y (hs j y hy),s.fz,fun j y hy=>s.jU j y (hs j y hy),s.bO⟩
theorem dV.sj {lo:Nat}{g g2:Fz}{σ dG:Sg}{h h2:ah}{nr:aL}(x:dV N b lo g σ vh h nr h2 g2 dG iY cn)(ht:jv aA iY)(hs:bN aV.bq cn.bq)(hn:cn.next≤aV.next):dV N b lo g σ vh h nr h2 g2 dG aA aV:=
 ⟨fun t v hv=>(x.t t v (ht t v hv)).mono (Fz.le_refl g2) hn (fun _ _=>rfl),x.len,x.s.sj hs hn,x.le,x.agree,⟨x.f.next,x.f.gD,fun i y hy hl aP=>x.f.own i y (hs i y hy) hl aP⟩,Nat.le_trans x.base hn,x.own⟩
theorem Wk.sub (ht:jv aA ab)(hs:bN aV.bq vh.bq)(hn:vh.next≤aV.next):Wk b ab vh aA aV:=fun N lo g σ h ts h1 h2 s hb=>⟨g,σ,(dV.refl h1 h2 s hb).sj ht hs hn⟩
section
variable [bF]
theorem VW.post {c:Code}(hc:VW P N b c Q ab vh)(hq:∀e iY cn,Q e iY cn→∃aA aV,jv aA iY∧bN aV.bq cn.bq∧cn.next≤aV.next∧Q' e aA aV):VW P N b c Q' ab vh:=fun lo g σ h ts ht hn s hb=>
 (hc lo g σ h ts ht hn s hb).mono fun e bf h' ⟨g2,dG,iY,cn,x,k⟩=>by
  obtain⟨aA,aV,k1,k2,k3,k4⟩:=hq e iY cn k
  exact⟨g2,dG,aA,aV,x.sj k1 k2 k3,k4⟩
theorem dP.post {f:FuncId}{args:List PV}{R R':PV→ai→Prop}(hc:dP P f args vh R)(hq:∀v cn,R v cn→∃aV,bN aV.bq cn.bq∧cn.next≤aV.next∧R' v aV):dP P f args vh R':=fun lo g σ h aB ha s=>
 (hc lo g σ h aB ha s).mono fun r h' ⟨g2,dG,v,cn,h1,h2,h3,h4,h5,h6,h7,h8⟩=>by
  obtain⟨aV,k2,k3,k4⟩:=hq v cn h8
  exact⟨g2,dG,v,aV,h1.mono (Fz.le_refl g2) k3 (fun _ _=>rfl),h2.sj k2 k3,h3,h4,⟨h5.next,h5.gD,fun i y hy hl aP=>h5.own i y (k2 i y hy) hl aP⟩,Nat.le_trans h6 k3,h7,k4⟩
theorem VW.H6 {c:Code}{S:Type}(st:S→a7×ai)(I:S→Prop)(m:S→Nat)(s0:S)(h0:I s0)(hr:Wk b ab vh (st s0).1 (st s0).2)
  (round:∀s,I s→VW P N b c (BS (fun aU ao=>∃s',I s'∧m s'<m s∧Wk b aU ao (st s').1 (st s').2) Q) (st s).1 (st s).2):VW P N b (.loop c) Q ab vh:=
 .loop (fun k ab vh=>∃s,I s∧m s=k∧Wk b ab vh (st s).1 (st s).2) (m s0) ⟨s0,h0,rfl,hr⟩ fun k ab vh ⟨s,h1,h2,h3⟩=>by
  subst h2
  refine .wk h3 ((round s h1).mono fun e ab vh hq=>?_)
  cases e with
  |normal=>obtain⟨s',k1,k2,k3⟩:=hq;exact⟨m s',k2,s',k1,rfl,k3⟩
  |exit id=>exact hq
  |goto l=>exact hq
  |ret=>exact hq
  |panic ch=>exact hq
  |outgrown=>exact hq
theorem VW.T2 {x y:Code}{S:Type}(st:S→a7×ai)(I:S→Prop)
  (hx:VW P N b x (BS (fun aU ao=>∃s',I s'∧Wk b aU ao (st s').1 (st s').2) Q) ab vh) (hy:∀s,I s→VW P N b y Q (st s).1 (st s).2):VW P N b (.seq x y) Q ab vh:=
 .seq (hx.mono fun e ab vh hq=>by
  cases e with
  |normal=>obtain⟨s',k1,k2⟩:=hq;exact .wk k2 (hy s' k1)
  |exit id=>exact hq
  |goto l=>exact hq
  |ret=>exact hq
  |panic ch=>exact hq
  |outgrown=>exact hq)
end
theorem VS.YB {lo:Nat}{g g':Fz}{σ aR:Sg}{h h':ah}{n:Nat}{S L:bu}(s:VS lo g σ ⟨n,S++L⟩ h)(hS:wK S L)(h2:VS lo g' aR cn h')(h3:g.le g')(h4:∀i,i<n→aR i=σ i)
  (h5:VF σ ⟨n,L⟩ h aR cn h') (h6:n≤cn.next) (h7:dU g σ ⟨n,L⟩ h g'):VS lo g' aR ⟨cn.next,S++cn.bq⟩ h'∧VF σ ⟨n,S++L⟩ h aR ⟨cn.next,S++cn.bq⟩ h'∧dU g σ ⟨n,S++L⟩ h g':=by
 have gS:∀j x,bt j S=some x→(⟨n,S++L⟩:ai).get j=some x:=fun j x hj=>by
  show bt j (S++L)=_
  rw[CU,hj]
 have gL:∀j x,bt j L=some x→(⟨n,S++L⟩:ai).get j=some x:=fun j x hj=>by
  show bt j (S++L)=_
  rw[CU]
  cases hs:bt j S with
  |none=>exact hj
  |some y=>rw[(hS j y hs).2] at hj;cases hj
 have g2:∀j,(⟨cn.next,S++cn.bq⟩:ai).get j=match bt j S with|some x=>some x|Option.none=>cn.get j:=fun j=>CU j _ S
 have lt:∀j x,bt j S=some x→(σ j).1<h.next∧j<n:=fun j x hj=>⟨(s.obj j x (gS j x hj)).2.lt (hS j x hj).1,(s.obj j x (gS j x hj)).1⟩
 have cY:∀i x,bt i S=some x→∀j y,(⟨n,L⟩:ai).get j=some y→y.live=true→(σ j).1≠(σ i).1:=fun i x hi j y hy jb he=>by
  have:=s.inj j i y x (gL j y hy) (gS i x hi) jb (hS i x hi).1 he
  subst this
  have h1:=(hS j x hi).2
  rw[show bt j L=some y from hy] at h1
  cases h1
 have dd:∀i x,bt i S=some x→h'.get (σ i).1=h.get (σ i).1:=fun i x hi=>h5.gD _ (lt i x hi).1 (cY i x hi)
 have gC:∀i x,bt i S=some x→∀j z,cn.get j=some z→z.live=true→(aR j).1≠(σ i).1:=fun i x hi j z hz b7 he=>by
  obtain⟨k,u,k1,k2,k3⟩:=h5.own j z hz b7 (by rw[he];exact(lt i x hi).1)
  exact cY i x hi k u k1 k2 (k3.trans he)
 refine⟨⟨fun j z hz=>?_,fun j k z u hz hu b7 tU he=>?_,fun j z hz b7=>?_,h2.fz,fun j z hz b7=>?_,h2.bO⟩,⟨h5.next,fun o ho hn=>h5.gD o ho fun j y hy jb=>hn j y (gL j y hy) jb,fun j z hz b7 oM=>?_⟩,fun o z hz ho=>?_⟩
 ·rw[g2] at hz
  cases hs:bt j S with
  |some x=>
   rw[hs] at hz;injection hz with hz;subst hz
   exact⟨Nat.lt_of_lt_of_le (lt j x hs).2 h6,(s.obj j x (gS j x hs)).2.mono h3 h6 h4 (lt j x hs).2 fun _=>by rw[dd j x hs]⟩
  |none=>rw[hs] at hz;exact h2.obj j z hz
 ·rw[g2] at hz hu
  cases hs:bt j S with
  |some x=>
   rw[hs] at hz;injection hz with hz;subst hz
   cases gy:bt k S with
   |some y=>
    rw[gy] at hu;injection hu with hu;subst hu
    rw[h4 j (lt j x hs).2,h4 k (lt k y gy).2] at he
    exact s.inj j k x y (gS j x hs) (gS k y gy) b7 tU he
   |none=>
    rw[gy] at hu
    exact absurd (he.symm.trans (by rw[h4 j (lt j x hs).2])) (gC j x hs k u hu tU)
  |none=>
   rw[hs] at hz
   cases gy:bt k S with
   |some y=>
    rw[gy] at hu;injection hu with hu;subst hu
    exact absurd (he.trans (by rw[h4 k (lt k y gy).2])) (gC k y gy j z hz b7)
   |none=>rw[gy] at hu;exact h2.inj j k z u hz hu b7 tU he
 ·rw[g2] at hz
  cases hs:bt j S with
  |some x=>rw[hs] at hz;injection hz with hz;subst hz;rw[h4 j (lt j x hs).2];exact s.low j x (gS j x hs) b7
  |none=>rw[hs] at hz;exact h2.low j z hz b7
 ·rw[g2] at hz
  cases hs:bt j S with
  |some x=>
   rw[hs] at hz;injection hz with hz;subst hz
   rw[h4 j (lt j x hs).2]
   cases oS:g' (σ j).1 with
   |none=>rfl
   |some q=>
    rcases h7 _ q oS (lt j x hs).1 with wq|⟨k,u,k1,k2,k3⟩
    ·rw[s.jU j x (gS j x hs) b7] at wq;cases wq
    exact absurd k3 (cY j x hs k u k1 k2)
  |none=>rw[hs] at hz;exact h2.jU j z hz b7
 ·rw[g2] at hz
  cases hs:bt j S with
  |some x=>rw[hs] at hz;injection hz with hz;subst hz;exact⟨j,x,gS j x hs,b7,by rw[h4 j (lt j x hs).2]⟩
  |none=>
   rw[hs] at hz
   obtain⟨k,u,k1,k2,k3⟩:=h5.own j z hz b7 oM
   exact⟨k,u,gL k u k1,k2,k3⟩
 rcases h7 o z hz ho with wq|⟨k,u,k1,k2,k3⟩
 ·exact .inl wq
 exact .inr ⟨k,u,gL k u k1,k2,k3⟩
theorem bN.right {S L:bu}(hS:wK S L):bN L (S++L):=fun j y hy=>by
 rw[CU]
 cases hs:bt j S with
 |none=>exact hy
 |some x=>rw[(hS j x hs).2] at hy;cases hy
section
variable [bF]
theorem dP.OH {f:FuncId}{args:List PV}{R:PV→ai→Prop}{n:Nat}{S L:bu}(hS:wK S L)(hc:dP P f args ⟨n,L⟩ R):dP P f args ⟨n,S++L⟩ fun v ao=>∃cn,R v cn∧ao=⟨cn.next,S++cn.bq⟩:=fun lo g σ h aB ha s=>by
 refine(hc lo g σ h aB ha (s.sj (bN.right hS) (Nat.le_refl _))).mono fun r h' ⟨g',aR,v,cn,h1,h2,h3,h4,h5,h6,h7,h8⟩=>?_
 obtain⟨k1,k2,k3⟩:=s.YB hS h2 h3 h4 h5 h6 h7
 exact⟨g',aR,v,⟨cn.next,S++cn.bq⟩,h1,k1,h3,h4,k2,h6,k3,cn,h8,rfl⟩
theorem dP.F2 {f:FuncId}{args:List PV}{R:PV→ai→Prop}{n:Nat}{L:bu}(hc:(∀j,n≤j→bt j L=none)→dP P f args ⟨n,L⟩ R):dP P f args ⟨n,L⟩ R:=fun lo g σ h aB ha s=>
 hc (fun q hq=>by
  cases hz:bt q L with
  |none=>rfl
  |some z=>have h1:=(s.obj q z hz).1;have h2:q<n:=h1;omega) lo g σ h aB ha s
theorem VW.F2 {c:Code}{n:Nat}{L:bu}(hc:(∀j,n≤j→bt j L=none)→VW P N b c Q ab ⟨n,L⟩):VW P N b c Q ab ⟨n,L⟩:=fun lo g σ h ts ht hn s hb=>
 hc (fun q hq=>by
  cases hz:bt q L with
  |none=>rfl
  |some z=>have h1:=(s.obj q z hz).1;have h2:q<n:=h1;omega) lo g σ h ts ht hn s hb
end
theorem xP {i j:Nat}{x:aM}{r:bu}(h:bt j ((i,x)::r)=none):bt j r=none:=by
 simp only[bt,beq_eq] at h
 by_cases hj:j=i
 ·simp[hj] at h
 simpa[hj] using h
abbrev JM:=Option (Option Nat)
def JM.code:JM→Option Code
 |Option.none=>Option.none
 |some Option.none=>some .ret
 |some (some id)=>some (.exit id)
variable [bF] in
@[simp] theorem JM.zsw (j:JM):(JM.code j).isNone=j.isNone:=by rcases j with _|_|id<;>rfl
def Jmp:Exit→Option JM
 |.normal=>some Option.none
 |.ret=>some (some Option.none)
 |.exit id=>some (some (some id))
 |_=>Option.none
section
variable [bF]
def Ei (P:Program)(N0:Nat)(ps:Array Tmp)(dt body:Code)(dp:a7)(n:Nat)(L:bu)(v:PV)(K:JM→Nat→bu→Prop):Prop:=
 VW P N0 n dt (BS (VW P N0 n body fun e _ ao=>∃j L',Jmp e=some j∧bN L' ao.bq∧jZ n L L'∧K j ao.next L') fun _ _ _=>False) (mz dp (ps.toList.zip [v])) ⟨n,L⟩
def Lo (P:Program)(f:FuncId)(args:List PV)(n:Nat)(L:bu)(K:PV→Nat→bu→Prop):Prop:=dP P f args ⟨n,L⟩ fun v ao=>∃L',bN L' ao.bq∧n≤ao.next∧jZ n L L'∧K v ao.next L'
theorem Lo.OH {f:FuncId}{args:List PV}{n:Nat}{S L:bu}{K:PV→Nat→bu→Prop}(hS:wK S L)(hc:Lo P f args n L K):dP P f args ⟨n,S++L⟩ fun v ao=>∃n' L',n≤n'∧jZ n L L'∧K v n' L'∧ao=⟨n',S++L'⟩:=by
 refine(dP.OH hS hc).post fun v cn ⟨aV,⟨L',h1,h0,uv,h2⟩,h3⟩=>⟨⟨aV.next,S++L'⟩,?_,by rw[h3];exact Nat.le_refl _,_,L',h0,uv,h2,rfl⟩
 subst h3
 intro j y hy
 rw[show (⟨aV.next,S++L'⟩:ai).bq=S++L' from rfl,CU] at hy
 show bt j (S++aV.bq)=some y
 rw[CU]
 cases hs:bt j S with
 |some x=>rw[hs] at hy;exact hy
 |none=>rw[hs] at hy;exact h1 j y hy
theorem lN.T0 {o:Oper}{fo:Operand}{args:Array Operand}{aT:Array TypeId}{i N0 n:Nat}{ps:Array Tmp}{dt body:Code}{dp:a7}{v:PV}{S L:bu}{K:JM→Nat→bu→Prop}{next:a7→ai→Prop}(ho:o.op=.call ⟨.value fo,args,aT⟩)
  (hf:cC ab fo=some (.bY i)) (hl:iE ab args.toList=some [v]) (hi:bt i S=some (.loop N0 ps dt body dp none)) (hlen:1=ps.size) (gr:ps.toList.all (Nat.blt · N0)=true) (hd:iq N o.dst=true)
  (hS:wK S L) (hY:Ei P N0 ps dt body dp n L v K)
  (hk:∀(j:JM) n' L',n≤n'→jZ n L L'→(∀i,n'≤i→bt i L'=none)→K j n' L'→next (bP ab o.dst (.bool j.isNone)) ⟨n',(i,.loop N0 ps dt body dp j.code)::(iw i S++L')⟩):lN P N b o next ab ⟨n,S++L⟩:=by
 have hiL:bt i L=none:=(hS i _ hi).2
 have zI:∀j x,bt j (iw i S)=some x→x.live=true∧bt j L=Option.none:=fun j x hj=>by
  rw[NQ] at hj
  by_cases h:j=i
  ·simp[h] at hj
  simp[h] at hj;exact hS j x hj
 have YC:((⟨n,S++L⟩:ai).drop i)=⟨n,iw i S++L⟩:=by unfold ai.drop;rw[Rr,Lh hiL]
 intro lo g σ h ts ht hn s hb
 obtain⟨f',k1,k2⟩:=eO ht hf
 obtain⟨l',k3,k4⟩:=AU ht hl
 have hg:(⟨n,S++L⟩:ai).get i=some (.loop N0 ps dt body dp none):=by show bt i (S++L)=_;rw[CU,hi]
 obtain⟨dx,Lp,q1,q2,q3,q4,q5,q6⟩:=s.obj i _ hg
 have JI:f'=.func (.yield (σ i).1) #[] #[]:=by
  cases k2 with
  |fr _ _ h=>cases h
  |bY _ o a k dD hs=>rw[hs]
 subst JI
 subst q2;subst q3;subst q4
 have fc:aM.live (.loop N0 Lp.params Lp.assign Lp.body dp none)=true:=rfl
 obtain⟨sk,_⟩:=s.kill hg fc
 rw[YC] at sk
 have jh:∀t∈Lp.params.toList,t<Lp.ts.length:=fun t Ht=>by
  rw[List.all_eq_true] at gr
  rw[q5];simpa using gr t Ht
 obtain⟨e1,e2⟩:=Ru (g:=g) (σ:=σ) (n:=n) (ps:=Lp.params.toList) q6 k4 jh
 refine .yield ho k1 k3 q1 (s.low i _ hg fc) (by rw[← k4.1];simpa using hlen) ?_
 have run:=hY lo g σ (h.put (σ i).1 none) _ e1 (e2.trans q5) (sk.sj (aV:=⟨n,L⟩) (bN.right zI) (Nat.le_refl _)) (Nat.le_refl _)
 have fin:∀(jump:JM) (nr:aL) (h2:ah) (g2:Fz) (dG:Sg) (aA:a7) (aV:ai) (L':bu),dV N0 n lo g σ ⟨n,L⟩ (h.put (σ i).1 none) nr h2 g2 dG aA aV→bN L' aV.bq→jZ n L L'→K jump aV.next L'→
   qt N b lo g σ ⟨n,S++L⟩ h next (bE ts o.dst (.bool jump.code.isNone)) (h2.put (σ i).1 (some (.loop Lp jump.code))):=by
  intro jump nr h2 g2 dG aA aV L' a q9 ic hK
  have a':=a.sj (aA:=aA) (aV:=⟨aV.next,L'⟩) (jv.refl _) q9 (Nat.le_refl _)
  have sx:∀q,aV.next≤q→bt q L'=Option.none:=fun q hq=>by
   cases hz:bt q L' with
   |none=>rfl
   |some z=>have h1:=(a'.s.obj q z hz).1;have h2:q<aV.next:=h1;omega
  obtain⟨z1,z2,z3⟩:=sk.YB zI a'.s a'.le a'.agree a'.f a'.base a'.own
  have a2:dV N0 n lo g σ ⟨n,iw i S++L⟩ (h.put (σ i).1 none) nr h2 g2 dG aA ⟨aV.next,iw i S++L'⟩:=⟨a'.t,a'.len,z1,a'.le,a'.agree,z2,a'.base,z3⟩
  rw[← YC] at a2
  have cy:dG i=σ i:=a.agree i dx
  have oM:(σ i).1<h2.next:=Nat.lt_of_lt_of_le ((s.obj i _ hg).2.lt fc) a.f.next
  obtain⟨r1,r2,r3⟩:=dV.back (x':=.loop N0 Lp.params Lp.assign Lp.body dp jump.code) (y:=.loop Lp jump.code) s hg fc a2 ⟨Lp,by rw[cy,ah.dJ _ _ _ _ oM];simp,rfl,rfl,rfl,q5,q6.mono a.le a.base a.agree⟩
  obtain⟨t1,t2⟩:=sU a.le a.base a.agree ht o.dst (hn▸hd) (.fr _ _ (.bool jump.code.isNone):VR g2 dG aV.next (.bool jump.code.isNone) (.bool jump.code.isNone))
  exact⟨g2,dG,_,(⟨aV.next,iw i S++L'⟩:ai).back i (.loop N0 Lp.params Lp.assign Lp.body dp jump.code),⟨t1,t2.trans hn,r1,a.le,fun j hj=>a.agree j (Nat.lt_of_lt_of_le hj hb),r2,Nat.le_trans hb a.base,r3⟩,by have:=hk jump _ _ a.base ic sx hK;rw[← JM.zsw] at this;exact this⟩
 refine run.mono fun e jT h1 hs=>?_
 cases e with
 |normal=>
  obtain⟨g1,rB,iY,cn,a1,hW⟩:=hs
  refine(hW lo g1 rB h1 jT a1.t a1.len a1.s a1.base).mono fun e nr h2 gy=>?_
  obtain⟨g2,dG,aA,aV,a2,j,L',h3,h4,Rv,h5⟩:=gy
  cases e with
  |normal=>cases h3;exact fin Option.none _ _ _ _ _ _ _ (a1.trans a2) h4 Rv h5
  |ret=>cases h3;exact fin (some Option.none) _ _ _ _ _ _ _ (a1.trans a2) h4 Rv h5
  |exit id=>cases h3;exact fin (some (some id)) _ _ _ _ _ _ _ (a1.trans a2) h4 Rv h5
  |goto l=>cases h3
  |panic ch=>cases h3
  |outgrown=>cases h3
 |exit id=>obtain⟨_,_,_,_,_,hk⟩:=hs;exact hk.elim
 |goto l=>obtain⟨_,_,_,_,_,hk⟩:=hs;exact hk.elim
 |ret=>obtain⟨_,_,_,_,_,hk⟩:=hs;exact hk.elim
 |panic ch=>obtain⟨_,_,_,_,_,hk⟩:=hs;exact hk.elim
 |outgrown=>obtain⟨_,_,_,_,_,hk⟩:=hs;exact hk.elim
end
def lp (i N:Nat)(ps:Array Tmp)(dt body:Code)(ab:a7)(R:JM→Nat→bu→Prop):jd:=fun e _ ao=>(e=.normal∨e=.ret)∧∃(jm:JM) (L:bu),bN ((i,.loop N ps dt body ab jm.code)::L) ao.bq∧bt i L=none∧R jm ao.next L
theorem lp.mk {i N:Nat}{ps:Array Tmp}{dt body:Code}{ab aU:a7}{R:JM→Nat→bu→Prop}{e:Exit}{ao:ai}(he:e=.normal∨e=.ret)(jm:JM)(L:bu)(h1:bN ((i,.loop N ps dt body ab jm.code)::L) ao.bq)(h2:bt i L=none)(h3:R jm ao.next L):lp i N ps dt body ab R e aU ao:=⟨he,jm,L,h1,h2,h3⟩
variable [bF] in
theorem VW.Oy {i N' b':Nat}{ps:Array Tmp}{dt body c:Code}{aU:a7}{R:JM→Nat→bu→Prop}(hN:∀n L,R none n L→Q .normal ab ⟨n,L⟩)(hR:∀n L,R (some none) n L→Q .ret ab ⟨n,L⟩)(hX:∀id n L,R (some (some id)) n L→Q (.exit id) ab ⟨n,L⟩)
  (hc:VW P N' b' c (lp i N ps dt body ab R) aU vh):VW P N' b' c (YD i ab Q) aU vh:=hc.post fun e iY cn ⟨he,jm,L,h1,h2,h3⟩=>by
 refine⟨iY,⟨cn.next,(i,.loop N ps dt body ab jm.code)::L⟩,jv.refl _,h1,Nat.le_refl _,?_⟩
 have hg:(⟨cn.next,(i,.loop N ps dt body ab jm.code)::L⟩:ai).get i=some (.loop N ps dt body ab jm.code):=by show bt i _=_;simp[bt,beq_eq]
 have CT:(⟨cn.next,(i,.loop N ps dt body ab jm.code)::L⟩:ai).drop i=⟨cn.next,L⟩:=by unfold ai.drop;simp only[iw,beq_eq,decide_true,aO,Lh h2]
 have key:mD i ab Q ⟨cn.next,(i,.loop N ps dt body ab jm.code)::L⟩:=by
  rcases jm with _|_|id
  ·exact Eg hg (CT▸hN _ _ h3)
  ·exact CB hg (CT▸hR _ _ h3)
  exact xbk hg (CT▸hX _ _ _ h3)
 rcases he with rfl|rfl
 ·exact key
 exact key
end
end Go.Am
end
