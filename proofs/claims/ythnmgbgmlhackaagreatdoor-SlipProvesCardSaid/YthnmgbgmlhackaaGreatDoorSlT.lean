/-
 What is used in the proof of a statement (part SlT); no condition.
-/
import Derived.Test.YthnmgbgmlhackaaGreatDoorProg
import Derived.Test.YthnmgbgmlhackaaGreatDoorVm1
import Derived.Test.YthnmgbgmlhackaaGreatDoorVm2
set_option linter.all false
set_option maxHeartbeats 40000000
set_option maxRecDepth 100000
section
namespace Go.Am.Sl
open Go Go.Am Go.Proofs Tryz
@[simp] theorem u3:prog.underlying 3=some (.int .i64):=by rfl
theorem hU {p:Prop}(h:p:=by repeat' (first|decide +kernel|rfl|refine ⟨?_,?_⟩)):p:=h
@[simp] theorem tY3:bK prog 3=some false∧dH prog 3=some 1∧fI prog 3=some [.int .i64 0]∧(fH prog 3).bind a7=some (.int .i64 0):=hU
@[simp] theorem tY4:prog.underlying 4=some .bool∧bK prog 4=some false∧dH prog 4=some 1∧fI prog 4=some [.bool false]∧(fH prog 4).bind a7=some (.bool false):=hU
@[simp] theorem tY5:prog.underlying 5=some (.int .u8)∧bK prog 5=some false∧dH prog 5=some 1∧fI prog 5=some [.int .u8 0]∧(fH prog 5).bind a7=some (.int .u8 0):=hU
@[simp] theorem tY9:prog.underlying 9=some .string∧bK prog 9=some false∧dH prog 9=some 1∧fI prog 9=some [.str ByteArray.empty]∧(fH prog 9).bind a7=some (.str ByteArray.empty):=hU
@[simp] theorem yaR:prog.underlying 22=some (.slice 176)∧bK prog 22=some false∧dH prog 22=some 1∧jh prog 22=some (176,3)∧(prog.info? 176).map (·.bytes)=some 24∧fI prog 22=some [.aJ]∧(fH prog 22).bind a7=some (.aJ):=hU
@[simp] theorem yaS:bK prog 24=some true∧dH prog 24=some 6∧eo prog 24 0=some (3,0,1)∧eo prog 24 1=some (3,1,1)∧eo prog 24 2=some (3,2,1)∧eo prog 24 3=some (3,3,1)∧eo prog 24 4=some (3,4,1)∧eo prog 24 5=some (22,5,1)∧fI prog 24=some [.int .i64 0,.int .i64 0,.int .i64 0,.int .i64 0,.int .i64 0,.aJ]:=hU
@[simp] theorem yaT (l:List (Nat×PV)):pt prog 24 l=(fe (([(0,1),(1,1),(2,1),(3,1),(4,1),(5,1)]:List (Nat×Nat))[·]?) [.int .i64 0,.int .i64 0,.int .i64 0,.int .i64 0,.int .i64 0,.aJ] l).map .agg:=by rfl
@[simp] theorem yaU:(fH prog 24).bind a7=some (.agg [.int .i64 0,.int .i64 0,.int .i64 0,.int .i64 0,.int .i64 0,.aJ]):=by rfl
@[simp] theorem u25:prog.underlying 25=some (.slice 3):=by rfl
@[simp] theorem yaV:bK prog 25=some false∧dH prog 25=some 1∧jh prog 25=some (3,1)∧(prog.info? 3).map (·.bytes)=some 8∧fI prog 25=some [.aJ]∧(fH prog 25).bind a7=some (.aJ):=hU
@[simp] theorem u26:prog.underlying 26=some (.slice 150):=by rfl
@[simp] theorem yaW:bK prog 26=some false∧dH prog 26=some 1∧jh prog 26=some (150,2)∧(prog.info? 150).map (·.bytes)=some 32∧fI prog 26=some [.aJ]∧(fH prog 26).bind a7=some (.aJ):=hU
@[simp] theorem yaX:bK prog 28=some true∧dH prog 28=some 9∧eo prog 28 0=some (24,0,6)∧eo prog 28 1=some (25,6,1)∧eo prog 28 2=some (26,7,1)∧eo prog 28 3=some (25,8,1)∧fI prog 28=some [.int .i64 0,.int .i64 0,.int .i64 0,.int .i64 0,.int .i64 0,.aJ,.aJ,.aJ,.aJ]:=hU
@[simp] theorem yaY (l:List (Nat×PV)):pt prog 28 l=(fe (([(0,6),(6,1),(7,1),(8,1)]:List (Nat×Nat))[·]?) [.int .i64 0,.int .i64 0,.int .i64 0,.int .i64 0,.int .i64 0,.aJ,.aJ,.aJ,.aJ] l).map .agg:=by rfl
@[simp] theorem yaZ:(fH prog 28).bind a7=some (.agg [.int .i64 0,.int .i64 0,.int .i64 0,.int .i64 0,.int .i64 0,.aJ,.aJ,.aJ,.aJ]):=by rfl
@[simp] theorem ya0:prog.underlying 31=some (.slice 48)∧bK prog 31=some false∧dH prog 31=some 1∧jh prog 31=some (48,5)∧(prog.info? 48).map (·.bytes)=some 40∧fI prog 31=some [.aJ]∧(fH prog 31).bind a7=some (.aJ):=hU
@[simp] theorem ya1:prog.underlying 32=some (.slice 25)∧bK prog 32=some false∧dH prog 32=some 1∧jh prog 32=some (25,1)∧(prog.info? 25).map (·.bytes)=some 24∧fI prog 32=some [.aJ]∧(fH prog 32).bind a7=some (.aJ):=hU
@[simp] theorem ya2:bK prog 34=some true∧dH prog 34=some 3∧eo prog 34 0=some (31,0,1)∧eo prog 34 1=some (3,1,1)∧eo prog 34 2=some (32,2,1)∧fI prog 34=some [.aJ,.int .i64 0,.aJ]:=hU
@[simp] theorem ya3 (l:List (Nat×PV)):pt prog 34 l=(fe (([(0,1),(1,1),(2,1)]:List (Nat×Nat))[·]?) [.aJ,.int .i64 0,.aJ] l).map .agg:=by rfl
@[simp] theorem ya4:(fH prog 34).bind a7=some (.agg [.aJ,.int .i64 0,.aJ]):=by rfl
@[simp] theorem ya5:prog.underlying 35=some (.int .i64)∧bK prog 35=some false∧dH prog 35=some 1∧fI prog 35=some [.int .i64 0]∧(fH prog 35).bind a7=some (.int .i64 0):=hU
@[simp] theorem ya6:prog.underlying 40=some (.slice 4)∧bK prog 40=some false∧dH prog 40=some 1∧jh prog 40=some (4,1)∧(prog.info? 4).map (·.bytes)=some 1∧fI prog 40=some [.aJ]∧(fH prog 40).bind a7=some (.aJ):=hU
@[simp] theorem ya7:bK prog 44=some true∧dH prog 44=some 2∧eo prog 44 0=some (3,0,1)∧eo prog 44 1=some (3,1,1)∧fI prog 44=some [.int .i64 0,.int .i64 0]:=hU
@[simp] theorem ya8 (l:List (Nat×PV)):pt prog 44 l=(fe (([(0,1),(1,1)]:List (Nat×Nat))[·]?) [.int .i64 0,.int .i64 0] l).map .agg:=by rfl
@[simp] theorem ya9:(fH prog 44).bind a7=some (.agg [.int .i64 0,.int .i64 0]):=by rfl
@[simp] theorem yba:bK prog 48=some true∧dH prog 48=some 5∧eo prog 48 0=some (3,0,1)∧eo prog 48 1=some (3,1,1)∧eo prog 48 2=some (3,2,1)∧eo prog 48 3=some (3,3,1)∧eo prog 48 4=some (3,4,1)∧fI prog 48=some [.int .i64 0,.int .i64 0,.int .i64 0,.int .i64 0,.int .i64 0]:=hU
@[simp] theorem ybb (l:List (Nat×PV)):pt prog 48 l=(fe (([(0,1),(1,1),(2,1),(3,1),(4,1)]:List (Nat×Nat))[·]?) [.int .i64 0,.int .i64 0,.int .i64 0,.int .i64 0,.int .i64 0] l).map .agg:=by rfl
@[simp] theorem ybc:(fH prog 48).bind a7=some (.agg [.int .i64 0,.int .i64 0,.int .i64 0,.int .i64 0,.int .i64 0]):=by rfl
@[simp] theorem ybd:bK prog 52=some true∧dH prog 52=some 2∧eo prog 52 0=some (31,0,1)∧eo prog 52 1=some (35,1,1)∧fI prog 52=some [.aJ,.int .i64 0]:=hU
@[simp] theorem ybe (l:List (Nat×PV)):pt prog 52 l=(fe (([(0,1),(1,1)]:List (Nat×Nat))[·]?) [.aJ,.int .i64 0] l).map .agg:=by rfl
@[simp] theorem ybf:(fH prog 52).bind a7=some (.agg [.aJ,.int .i64 0]):=by rfl
@[simp] theorem ybg:bK prog 57=some true∧dH prog 57=some 2∧eo prog 57 0=some (3,0,1)∧eo prog 57 1=some (35,1,1)∧fI prog 57=some [.int .i64 0,.int .i64 0]:=hU
@[simp] theorem ybh (l:List (Nat×PV)):pt prog 57 l=(fe (([(0,1),(1,1)]:List (Nat×Nat))[·]?) [.int .i64 0,.int .i64 0] l).map .agg:=by rfl
@[simp] theorem ybi:(fH prog 57).bind a7=some (.agg [.int .i64 0,.int .i64 0]):=by rfl
@[simp] theorem ybj:bK prog 62=some true∧dH prog 62=some 3∧eo prog 62 0=some (44,0,2)∧eo prog 62 1=some (35,2,1)∧fI prog 62=some [.int .i64 0,.int .i64 0,.int .i64 0]:=hU
@[simp] theorem ybk (l:List (Nat×PV)):pt prog 62 l=(fe (([(0,2),(2,1)]:List (Nat×Nat))[·]?) [.int .i64 0,.int .i64 0,.int .i64 0] l).map .agg:=by rfl
@[simp] theorem ybl:(fH prog 62).bind a7=some (.agg [.int .i64 0,.int .i64 0,.int .i64 0]):=by rfl
@[simp] theorem ybm:bK prog 65=some true∧dH prog 65=some 3∧eo prog 65 0=some (25,0,1)∧eo prog 65 1=some (25,1,1)∧eo prog 65 2=some (35,2,1)∧fI prog 65=some [.aJ,.aJ,.int .i64 0]:=hU
@[simp] theorem ybn (l:List (Nat×PV)):pt prog 65 l=(fe (([(0,1),(1,1),(2,1)]:List (Nat×Nat))[·]?) [.aJ,.aJ,.int .i64 0] l).map .agg:=by rfl
@[simp] theorem ybo:(fH prog 65).bind a7=some (.agg [.aJ,.aJ,.int .i64 0]):=by rfl
@[simp] theorem Zk:prog.underlying 132=some (.map 137 3)∧bK prog 132=some false∧dH prog 132=some 1∧fI prog 132=some [.eE]∧(fH prog 132).bind a7=some (.eE):=hU
@[simp] theorem Zl:bK prog 134=some true∧dH prog 134=some 12:=hU
@[simp] theorem xmt:eo prog 134 0=some (28,0,9):=by decide +kernel
@[simp] theorem xkm:eo prog 134 1=some (132,9,1):=by decide +kernel
@[simp] theorem xl0:eo prog 134 2=some (132,10,1):=by decide +kernel
@[simp] theorem xla:eo prog 134 3=some (3,11,1):=by decide +kernel
@[simp] theorem Zm:fI prog 134=some [.int .i64 0,.int .i64 0,.int .i64 0,.int .i64 0,.int .i64 0,.aJ,.aJ,.aJ,.aJ,.eE,.eE,.int .i64 0]:=by rfl
@[simp] theorem Zn (l:List (Nat×PV)):pt prog 134 l=(fe (([(0,9),(9,1),(10,1),(11,1)]:List (Nat×Nat))[·]?) [.int .i64 0,.int .i64 0,.int .i64 0,.int .i64 0,.int .i64 0,.aJ,.aJ,.aJ,.aJ,.eE,.eE,.int .i64 0] l).map .agg:=by rfl
@[simp] theorem Zo:(fH prog 134).bind a7=some (.agg [.int .i64 0,.int .i64 0,.int .i64 0,.int .i64 0,.int .i64 0,.aJ,.aJ,.aJ,.aJ,.eE,.eE,.int .i64 0]):=by rfl
@[simp] theorem Zp:bK prog 137=some true∧dH prog 137=some 2:=hU
@[simp] theorem xmu:eo prog 137 0=some (3,0,1):=by decide +kernel
@[simp] theorem xke:eo prog 137 1=some (3,1,1):=by decide +kernel
@[simp] theorem Zq:fI prog 137=some [.int .i64 0,.int .i64 0]:=by rfl
@[simp] theorem Zr (l:List (Nat×PV)):pt prog 137 l=(fe (([(0,1),(1,1)]:List (Nat×Nat))[·]?) [.int .i64 0,.int .i64 0] l).map .agg:=by rfl
@[simp] theorem Zs:(fH prog 137).bind a7=some (.agg [.int .i64 0,.int .i64 0]):=by rfl
@[simp] theorem Zt:bK prog 143=some true∧dH prog 143=some 11:=hU
@[simp] theorem xmi:eo prog 143 0=some (137,0,2):=by decide +kernel
@[simp] theorem xl8:eo prog 143 1=some (137,2,2):=by decide +kernel
@[simp] theorem xmv:eo prog 143 2=some (48,4,5):=by decide +kernel
@[simp] theorem xmg:eo prog 143 3=some (3,9,1):=by decide +kernel
@[simp] theorem xki:eo prog 143 4=some (4,10,1):=by decide +kernel
@[simp] theorem Zu:fI prog 143=some [.int .i64 0,.int .i64 0,.int .i64 0,.int .i64 0,.int .i64 0,.int .i64 0,.int .i64 0,.int .i64 0,.int .i64 0,.int .i64 0,.bool false]:=by rfl
@[simp] theorem Zv (l:List (Nat×PV)):pt prog 143 l=(fe (([(0,2),(2,2),(4,5),(9,1),(10,1)]:List (Nat×Nat))[·]?) [.int .i64 0,.int .i64 0,.int .i64 0,.int .i64 0,.int .i64 0,.int .i64 0,.int .i64 0,.int .i64 0,.int .i64 0,.int .i64 0,.bool false] l).map .agg:=by rfl
@[simp] theorem Zw:(fH prog 143).bind a7=some (.agg [.int .i64 0,.int .i64 0,.int .i64 0,.int .i64 0,.int .i64 0,.int .i64 0,.int .i64 0,.int .i64 0,.int .i64 0,.int .i64 0,.bool false]):=by rfl
@[simp] theorem Zx:bK prog 144=some false∧dH prog 144=some 1∧fI prog 144=some [.nilFunc]∧(fH prog 144).bind a7=some (.nilFunc):=hU
@[simp] theorem Zy:bK prog 146=some false∧dH prog 146=some 1∧fI prog 146=some [.nilFunc]∧(fH prog 146).bind a7=some (.nilFunc):=hU
@[simp] theorem Zz:bK prog 150=some true∧dH prog 150=some 2:=hU
@[simp] theorem xmb:eo prog 150 0=some (3,0,1):=by decide +kernel
@[simp] theorem xnk:eo prog 150 1=some (25,1,1):=by decide +kernel
@[simp] theorem ZA:fI prog 150=some [.int .i64 0,.aJ]:=by rfl
@[simp] theorem ZB (l:List (Nat×PV)):pt prog 150 l=(fe (([(0,1),(1,1)]:List (Nat×Nat))[·]?) [.int .i64 0,.aJ] l).map .agg:=by rfl
@[simp] theorem ZC:(fH prog 150).bind a7=some (.agg [.int .i64 0,.aJ]):=by rfl
@[simp] theorem ZD:bK prog 154=some false∧dH prog 154=some 1∧fI prog 154=some [.nilFunc]∧(fH prog 154).bind a7=some (.nilFunc):=hU
@[simp] theorem ZE:prog.underlying 155=some (.slice 160)∧bK prog 155=some false∧dH prog 155=some 1∧jh prog 155=some (160,11)∧(prog.info? 160).map (·.bytes)=some 88∧fI prog 155=some [.aJ]∧(fH prog 155).bind a7=some (.aJ):=hU
@[simp] theorem ZF:bK prog 158=some true∧dH prog 158=some 2:=hU
@[simp] theorem xlr:eo prog 158 0=some (3,0,1):=by decide +kernel
@[simp] theorem xkp:eo prog 158 1=some (3,1,1):=by decide +kernel
@[simp] theorem ZG:fI prog 158=some [.int .i64 0,.int .i64 0]:=by rfl
@[simp] theorem ZH (l:List (Nat×PV)):pt prog 158 l=(fe (([(0,1),(1,1)]:List (Nat×Nat))[·]?) [.int .i64 0,.int .i64 0] l).map .agg:=by rfl
@[simp] theorem ZI:(fH prog 158).bind a7=some (.agg [.int .i64 0,.int .i64 0]):=by rfl
@[simp] theorem ZJ:bK prog 160=some true∧dH prog 160=some 11:=hU
@[simp] theorem xl7:eo prog 160 0=some (158,0,2):=by decide +kernel
@[simp] theorem xm2:eo prog 160 1=some (158,2,2):=by decide +kernel
@[simp] theorem xnb:eo prog 160 2=some (3,4,1):=by decide +kernel
@[simp] theorem xnc:eo prog 160 3=some (4,5,1):=by decide +kernel
@[simp] theorem xlg:eo prog 160 4=some (48,6,5):=by decide +kernel
@[simp] theorem ZK:fI prog 160=some [.int .i64 0,.int .i64 0,.int .i64 0,.int .i64 0,.int .i64 0,.bool false,.int .i64 0,.int .i64 0,.int .i64 0,.int .i64 0,.int .i64 0]:=by rfl
@[simp] theorem ZL (l:List (Nat×PV)):pt prog 160 l=(fe (([(0,2),(2,2),(4,1),(5,1),(6,5)]:List (Nat×Nat))[·]?) [.int .i64 0,.int .i64 0,.int .i64 0,.int .i64 0,.int .i64 0,.bool false,.int .i64 0,.int .i64 0,.int .i64 0,.int .i64 0,.int .i64 0] l).map .agg:=by rfl
@[simp] theorem ZM:(fH prog 160).bind a7=some (.agg [.int .i64 0,.int .i64 0,.int .i64 0,.int .i64 0,.int .i64 0,.bool false,.int .i64 0,.int .i64 0,.int .i64 0,.int .i64 0,.int .i64 0]):=by rfl
@[simp] theorem ZN:prog.underlying 167=some (.map 158 3)∧bK prog 167=some false∧dH prog 167=some 1∧fI prog 167=some [.eE]∧(fH prog 167).bind a7=some (.eE):=hU
@[simp] theorem ZO:bK prog 176=some true∧dH prog 176=some 3:=hU
@[simp] theorem xl2:eo prog 176 0=some (3,0,1):=by decide +kernel
@[simp] theorem xnj:eo prog 176 1=some (3,1,1):=by decide +kernel
@[simp] theorem xli:eo prog 176 2=some (3,2,1):=by decide +kernel
@[simp] theorem ZP:fI prog 176=some [.int .i64 0,.int .i64 0,.int .i64 0]:=by rfl
@[simp] theorem ZQ (l:List (Nat×PV)):pt prog 176 l=(fe (([(0,1),(1,1),(2,1)]:List (Nat×Nat))[·]?) [.int .i64 0,.int .i64 0,.int .i64 0] l).map .agg:=by rfl
@[simp] theorem ZR:(fH prog 176).bind a7=some (.agg [.int .i64 0,.int .i64 0,.int .i64 0]):=by rfl
@[simp] theorem ZS:lg prog 177=some (5,174,1):=by decide +kernel
@[simp] theorem ZT:bK prog 178=some false∧dH prog 178=some 1∧fI prog 178=some [.nilFunc]∧(fH prog 178).bind a7=some (.nilFunc):=hU
@[simp] theorem ZU:bK prog 187=some false∧dH prog 187=some 1∧fI prog 187=some [.nilFunc]∧(fH prog 187).bind a7=some (.nilFunc):=hU
@[simp] theorem ZV:bK prog 189=some false∧dH prog 189=some 1∧fI prog 189=some [.nilFunc]∧(fH prog 189).bind a7=some (.nilFunc):=hU
@[simp] theorem ZW:bK prog 192=some false∧dH prog 192=some 1∧fI prog 192=some [.nilFunc]∧(fH prog 192).bind a7=some (.nilFunc):=hU
@[simp] theorem ZX:lg prog 197=some (2,3,1):=by decide +kernel
@[simp] theorem ZY:lg prog 198=some (2,3,1):=by decide +kernel
@[simp] theorem ZZ:bK prog 202=some true∧dH prog 202=some 5:=hU
@[simp] theorem xk5:eo prog 202 0=some (158,0,2):=by decide +kernel
@[simp] theorem xmy:eo prog 202 1=some (3,2,1):=by decide +kernel
@[simp] theorem xmq:eo prog 202 2=some (25,3,1):=by decide +kernel
@[simp] theorem xkj:eo prog 202 3=some (4,4,1):=by decide +kernel
@[simp] theorem Z1:fI prog 202=some [.int .i64 0,.int .i64 0,.int .i64 0,.aJ,.bool false]:=by rfl
@[simp] theorem Z2 (l:List (Nat×PV)):pt prog 202 l=(fe (([(0,2),(2,1),(3,1),(4,1)]:List (Nat×Nat))[·]?) [.int .i64 0,.int .i64 0,.int .i64 0,.aJ,.bool false] l).map .agg:=by rfl
@[simp] theorem Z3:(fH prog 202).bind a7=some (.agg [.int .i64 0,.int .i64 0,.int .i64 0,.aJ,.bool false]):=by rfl
@[simp] theorem Z4:bK prog 205=some true∧dH prog 205=some 3:=hU
@[simp] theorem xm1:eo prog 205 0=some (25,0,1):=by decide +kernel
@[simp] theorem xlp:eo prog 205 1=some (3,1,1):=by decide +kernel
@[simp] theorem xm6:eo prog 205 2=some (4,2,1):=by decide +kernel
@[simp] theorem Z5:fI prog 205=some [.aJ,.int .i64 0,.bool false]:=by rfl
@[simp] theorem Z6 (l:List (Nat×PV)):pt prog 205 l=(fe (([(0,1),(1,1),(2,1)]:List (Nat×Nat))[·]?) [.aJ,.int .i64 0,.bool false] l).map .agg:=by rfl
@[simp] theorem Z7:(fH prog 205).bind a7=some (.agg [.aJ,.int .i64 0,.bool false]):=by rfl
@[simp] theorem Z8:prog.underlying 210=some (.slice 9)∧bK prog 210=some false∧dH prog 210=some 1∧jh prog 210=some (9,1)∧(prog.info? 9).map (·.bytes)=some 16∧fI prog 210=some [.aJ]∧(fH prog 210).bind a7=some (.aJ):=hU
@[simp] theorem Z9:bK prog 211=some false∧dH prog 211=some 1∧fI prog 211=some [.nilFunc]∧(fH prog 211).bind a7=some (.nilFunc):=hU
@[simp] theorem yaa:prog.underlying 228=some (.int .u64)∧bK prog 228=some false∧dH prog 228=some 1∧fI prog 228=some [.int .u64 0]∧(fH prog 228).bind a7=some (.int .u64 0):=hU
@[simp] theorem yab:prog.underlying 234=some (.array 5 3)∧bK prog 234=some true∧dH prog 234=some 5:=hU
@[simp] theorem yac:lg prog 234=some (5,3,1):=by decide +kernel
@[simp] theorem yad:fI prog 234=some [.int .i64 0,.int .i64 0,.int .i64 0,.int .i64 0,.int .i64 0]:=by rfl
@[simp] theorem yae (l:List (Nat×PV)):pt prog 234 l=(fe (fun i=>some (i*1,1)) [.int .i64 0,.int .i64 0,.int .i64 0,.int .i64 0,.int .i64 0] l).map .agg:=by rfl
@[simp] theorem yaf:(fH prog 234).bind a7=some (.agg [.int .i64 0,.int .i64 0,.int .i64 0,.int .i64 0,.int .i64 0]):=by rfl
@[simp] theorem yag:lg prog 235=some (7,9,1):=by decide +kernel
@[simp] theorem yah:prog.underlying 237=some (.pointer 240)∧bK prog 237=some false∧dH prog 237=some 1∧fI prog 237=some [.gD]∧(fH prog 237).bind a7=some (.gD):=hU
@[simp] theorem yai:prog.underlying 238=some (.slice 5)∧bK prog 238=some false∧dH prog 238=some 1∧jh prog 238=some (5,1)∧(prog.info? 5).map (·.bytes)=some 1∧fI prog 238=some [.aJ]∧(fH prog 238).bind a7=some (.aJ):=hU
@[simp] theorem yaj:bK prog 240=some true∧dH prog 240=some 2:=hU
@[simp] theorem xlq:eo prog 240 0=some (237,0,1):=by decide +kernel
@[simp] theorem xmx:eo prog 240 1=some (238,1,1):=by decide +kernel
@[simp] theorem yak:fI prog 240=some [.gD,.aJ]:=by rfl
@[simp] theorem yal (l:List (Nat×PV)):pt prog 240 l=(fe (([(0,1),(1,1)]:List (Nat×Nat))[·]?) [.gD,.aJ] l).map .agg:=by rfl
@[simp] theorem yam:(fH prog 240).bind a7=some (.agg [.gD,.aJ]):=by rfl
@[simp] theorem yan:lg prog 272=some (24,5,1):=by decide +kernel
@[simp] theorem yao:lg prog 278=some (20,258,1):=by decide +kernel
@[simp] theorem yap:lg prog 279=some (65,5,1):=by decide +kernel
@[simp] theorem yaq:lg prog 280=some (32,5,1):=by decide +kernel
@[simp] theorem yar:lg prog 281=some (64,5,1):=by decide +kernel
structure mD where
  f:Int
  t:Int
  c:Int
deriving DecidableEq
structure pw where
  at_:Int
  ws:List Int
deriving DecidableEq
structure aj where
  om:Int
  le:Int
  tw:Int
  gl:Int
  ad:Int
  mx:List mD
  t:List Int
  g:List pw
  c:List Int
deriving DecidableEq
structure ak where
  k:Int
  a:Int
  i:Int
  l:Int
  w:Int
deriving DecidableEq
def fB (n:Int):Bool:=decide (1≤n)&&decide (n≤9999)
def ns (n:Int):Bool:=decide (1≤n)&&decide (n≤100)
def py (pre:List mD)(x:mD):Bool:=fB x.f&&fB x.t&&!decide (x.f=x.t)&&ns x.c&&!(pre.any fun y=>decide (y.f=x.f)&&decide (y.t=x.t))
def oz:List mD→List mD→Bool
 |_,[]=>true
 |pre,x::r=>py pre x&&oz (pre++[x]) r
def q7 (c:aj):Int:=
 if ns c.om&&ns c.le&&ns c.tw&&ns c.gl&&ns c.ad then (if 20<c.mx.length then 2 else if oz [] c.mx then 0 else 1) else 1
def lB (n:Nat)(x:pw):Bool:=(decide (0≤x.at_)&&decide (x.at_≤(n:Int)))&&(decide (1≤x.ws.length)&&decide (x.ws.length≤6))&&x.ws.all fB
def aN (c:aj):Int:=
 if q7 c≠0 then q7 c
 else if 48<c.t.length∨48<c.c.length∨6<c.g.length then 2
 else if c.t.all fB&&c.c.all fB&&c.g.all (lB c.t.length) then 0 else 1
def fK:List mD→Int→Int→Option Int
 |[],_,_=>none
 |x::r,f,t=>if x.f=f∧x.t=t then some x.c else fK r f t
def aM (c:aj)(s:ak):Option (Int×Nat×List Int):=
 if 0≤s.a∧s.a≤(c.t.length:Int)∧0≤s.i then
  let a:=s.a.toNat
  if s.k=1 then (if a<c.t.length∧s.l=0 then (fK c.mx (c.t.getD a 0) s.w).map fun n=>(n,a+1,[s.w]) else none)
  else if s.k=2 then (if a<c.t.length∧s.l=0∧s.w=0 then some (c.om,a+1,[]) else none)
  else if s.k=3 then (if 1≤a∧1≤s.l∧s.l≤(c.t.length:Int) - s.a∧s.w=0∧c.t.getD (a+s.l.toNat - 1) 0=c.t.getD (a - 1) 0 then some (c.le,a+s.l.toNat,[]) else none)
  else if s.k=4 then (if 1≤s.l∧s.l≤s.a∧s.w=0 then some (c.tw,a,(c.t.drop (a - s.l.toNat)).take s.l.toNat) else none)
  else if s.k=5 then (if 0≤s.l∧s.l≤(c.g.length:Int) - 1∧s.w=0∧(c.g.getD s.l.toNat ⟨0,[]⟩).at_=s.a then some (c.gl,a,(c.g.getD s.l.toNat ⟨0,[]⟩).ws) else none)
  else if s.k=6 then (if fB s.w∧s.l=0 then some (c.ad,a,[s.w]) else none)
  else none
 else none
def hasB (c:aj)(j:Nat)(l:List Int):Bool:=decide (j+l.length≤c.c.length)&&decide ((c.c.drop j).take l.length=l)
structure ay where
  i:Nat
  j:Nat
  i':Nat
  j':Nat
  n:Int
  s:Option ak
deriving DecidableEq
def nZ (c:aj)(i j:Nat):List ak:=
 (if j<c.c.length then [⟨1,i,j,0,c.c.getD j 0⟩] else [])++[⟨2,i,j,0,0⟩]++
 ((List.range (c.t.length - i)).map fun n:Nat=>⟨3,i,j,(n+1:Nat),0⟩)++((List.range i).map fun n:Nat=>⟨4,i,j,(n+1:Nat),0⟩)++
 ((List.range c.g.length).map fun n:Nat=>⟨5,i,j,n,0⟩)++(if j<c.c.length then [⟨6,i,j,0,c.c.getD j 0⟩] else [])
def stepOf (c:aj)(i j:Nat)(s:ak):Option ay:=match aM c s with
 |some (n,i',w)=>if hasB c j w then some ⟨i,j,i',j+w.length,n,some s⟩ else none
 |none=>none
def steps (c:aj)(i j:Nat):List ay:=
 (if i<c.t.length∧j<c.c.length∧c.t.getD i 0=c.c.getD j 0 then [⟨i,j,i+1,j+1,0,none⟩] else [])++(nZ c i j).filterMap (stepOf c i j)
def places (c:aj):List (Nat×Nat):=(List.range (c.t.length+1)).flatMap fun i=>(List.range (c.c.length+1)).map fun j=>(i,j)
def graph (c:aj):List ay:=(places c).flatMap fun p=>steps c p.1 p.2
abbrev nN:=Nat→Nat→Option Int
def np (D:nN)(i j:Nat)(v:Option Int):nN:=fun a b=>if a=i∧b=j then v else D a b
def tM:Option Int→Option Int→Option Int
 |none,y=>y
 |x,none=>x
 |some a,some b=>some (min a b)
def oZ (D:nN)(x:ay):nN:=np D x.i' x.j' (tM (D x.i' x.j') ((D x.i x.j).map (·+x.n)))
def start:nN:=fun a b=>if a=0∧b=0 then some 0 else none
def A2 (D:nN)(l:List ay):nN:=l.foldl oZ D
def oD (l:List ay):nN:=A2 start l
def vM (i j i' j':Nat):Prop:=i<i'∨(i=i'∧j<j')
theorem vM.irrefl {i j:Nat}:¬vM i j i j:=fun h=>by rcases h with h|⟨_,h⟩<;>omega
structure Bk (l:List ay):Prop where
  on:∀x∈l,vM x.i x.j x.i' x.j'
  up:l.Pairwise fun x y=>¬vM y.i y.j x.i x.j
theorem Bk.tail {x:ay}{l:List ay}(h:Bk (x::l)):Bk l:=⟨fun y hy=>h.on y (List.mem_cons_of_mem _ hy),(List.pairwise_cons.1 h.up).2⟩
def Le (o:Option Int)(v:Int):Prop:=∃u,o=some u∧u≤v
theorem Le.mono {o:Option Int}{v w:Int}(h:Le o v)(hv:v≤w):Le o w:=by obtain⟨u,h1,h2⟩:=h;exact⟨u,h1,by omega⟩
theorem z2t {o p:Option Int}{v:Int}(h:o=some v):Le (tM o p) v:=by
 subst h
 cases p with
 |none=>exact⟨v,rfl,Int.le_refl _⟩
 |some w=>exact⟨min v w,rfl,by omega⟩
theorem zyt {o p:Option Int}{v:Int}(h:p=some v):Le (tM o p) v:=by
 subst h
 cases o with
 |none=>exact⟨v,rfl,Int.le_refl _⟩
 |some w=>exact⟨min w v,rfl,by omega⟩
theorem z0u {o p:Option Int}{v:Int}(h:tM o p=some v):o=some v∨p=some v:=by
 cases o with
 |none=>exact .inr h
 |some a=>
  cases p with
  |none=>exact .inl h
  |some b=>
   have h:min a b=v:=by injection h
   rcases Int.le_total a b with lN|lN
   ·exact .inl (by rw[← h];congr 1;omega)
   exact .inr (by rw[← h];congr 1;omega)
theorem z4u {D:nN}{x:ay}{a b:Nat}{v:Int}(h:D a b=some v):Le (oZ D x a b) v:=by
 unfold oZ np
 split
 ·rename_i lN
  obtain⟨rfl,rfl⟩:=lN
  exact z2t h
 exact⟨v,h,Int.le_refl _⟩
theorem Tm:∀ {l:List ay} {D:nN} {a b:Nat} {v:Int},Le (D a b) v→Le (A2 D l a b) v
 |[],D,a,b,v,h=>h
 |x::l,D,a,b,v,h=>by
  obtain⟨u,h1,h2⟩:=h
  exact Tm (l:=l) (D:=oZ D x) ((z4u h1).mono h2)
theorem zyf {D:nN}{x:ay}{a b:Nat}(h:¬(a=x.i'∧b=x.j')):oZ D x a b=D a b:=by
 unfold oZ np;rw[if_neg h]
theorem zpt:∀ {l:List ay} {D:nN} {a b:Nat},(∀x∈l,¬(a=x.i'∧b=x.j'))→A2 D l a b=D a b
 |[],D,a,b,_=>rfl
 |x::l,D,a,b,h=>by
  have:=zpt (l:=l) (D:=oZ D x) (a:=a) (b:=b) fun y hy=>h y (List.mem_cons_of_mem _ hy)
  show A2 (oZ D x) l a b=D a b
  rw[this,zyf (h x List.mem_cons_self)]
theorem zpn:∀ {l:List ay} {D:nN},Bk l→∀x∈l,∀v,A2 D l x.i x.j=some v→Le (A2 D l x.i' x.j') (v+x.n)
 |[],_,_,x,hx,_,_=>by cases hx
 |y::l,D,hs,x,hx,v,hv=>by
  rcases List.mem_cons.1 hx with rfl|hx
  ·have iK:∀z∈x::l,¬(x.i=z.i'∧x.j=z.j'):=fun z hz he=>by
    have h1:=hs.on z hz
    rcases List.mem_cons.1 hz with rfl|hz
    ·rw[he.1,he.2] at h1
     rw[← he.1,← he.2] at h1
     rcases h1 with h1|⟨_,h1⟩<;>omega
    have h2:=(List.pairwise_cons.1 hs.up).1 z hz
    exact h2 (by rw[he.1,he.2];exact h1)
   rw[zpt iK] at hv
   refine Tm (l:=l) (D:=oZ D x) ?_
   unfold oZ np
   rw[if_pos ⟨rfl,rfl⟩,hv]
   exact zyt rfl
  exact zpn hs.tail x hx v hv
inductive Way (L:List ay):Nat→Nat→Nat→Nat→Int→List ay→Prop where
  |nil (i j:Nat):Way L i j i j 0 []
  |cons (x:ay) (hx:x∈L) {a b:Nat} {n:Int} {l:List ay} (h:Way L x.i' x.j' a b n l):Way L x.i x.j a b (x.n+n) (x::l)
theorem Way.snoc {L:List ay}{i j a b:Nat}{n:Int}{l:List ay}(h:Way L i j a b n l):∀ {x:ay},x∈L→x.i=a→x.j=b→Way L i j x.i' x.j' (n+x.n) (l++[x]):=by
 induction h with
 |nil i j=>
  rintro x hx rfl rfl
  have:=Way.cons x hx (.nil x.i' x.j')
  rw[show (0:Int)+x.n=x.n+0 by omega]
  exact this
 |cons y hy h ih=>
  intro x hx h1 h2
  have:=Way.cons y hy (ih hx h1 h2)
  rw[Int.add_assoc]
  exact this
theorem Way.append {L:List ay}{i j a b:Nat}{n:Int}{l:List ay}(h:Way L i j a b n l):∀ {c d:Nat} {m:Int} {l':List ay},Way L a b c d m l'→Way L i j c d (n+m) (l++l'):=by
 induction h with
 |nil i j=>intro c d m l' h';rw[Int.zero_add];exact h'
 |cons y hy h ih=>
  intro c d m l' h'
  have:=Way.cons y hy (ih h')
  rw[Int.add_assoc]
  exact this
theorem zsx {L:List ay}:∀ {l:List ay} {D:nN},(∀x∈l,x∈L)→(∀a b v,D a b=some v→∃w,Way L 0 0 a b v w)→∀a b v,A2 D l a b=some v→∃w,Way L 0 0 a b v w
 |[],D,_,hD,a,b,v,h=>hD a b v h
 |x::l,D,hl,hD,a,b,v,h=>by
  refine zsx (l:=l) (D:=oZ D x) (fun y hy=>hl y (List.mem_cons_of_mem _ hy)) (fun a b v hv=>?_) a b v h
  unfold oZ np at hv
  split at hv
  ·rename_i lN
   obtain⟨rfl,rfl⟩:=lN
   rcases z0u hv with h1|h1
   ·exact hD _ _ _ h1
   cases h2:D x.i x.j with
   |none=>rw[h2] at h1;cases h1
   |some u=>
    rw[h2] at h1
    have h1:u+x.n=v:=by injection h1
    obtain⟨w,hw⟩:=hD _ _ _ h2
    exact⟨w++[x],h1▸hw.snoc (hl x List.mem_cons_self) rfl rfl⟩
  exact hD a b v hv
theorem QH {L:List ay}{a b:Nat}{v:Int}(h:oD L a b=some v):∃w,Way L 0 0 a b v w:=
 zsx (fun x hx=>hx) (fun a b v hv=>by
  unfold start at hv
  split at hv
  ·rename_i lN
   obtain⟨rfl,rfl⟩:=lN
   injection hv with hv
   subst hv
   exact⟨[],.nil 0 0⟩
  cases hv) a b v h
theorem z2w (L:List ay):Le (oD L 0 0) 0:=Tm ⟨0,by simp[start],Int.le_refl _⟩
theorem z6o {L:List ay}(hs:Bk L){i j a b:Nat}{n:Int}{w:List ay}(h:Way L i j a b n w):∀ {v:Int},Le (oD L i j) v→Le (oD L a b) (v+n):=by
 induction h with
 |nil i j=>intro v hv;rw[Int.add_zero];exact hv
 |cons x hx h ih=>
  intro v hv
  obtain⟨u,h1,h2⟩:=hv
  have:=ih (zpn hs x hx u h1)
  exact this.mono (by omega)
theorem Nh {L:List ay}(hs:Bk L){a b:Nat}{n:Int}{w:List ay}(h:Way L 0 0 a b n w):Le (oD L a b) n:=by
 have:=z6o hs h (z2w L)
 rwa [Int.zero_add] at this
structure Rt (c:aj):Prop where
  om:1≤c.om∧c.om≤100
  le:1≤c.le∧c.le≤100
  tw:1≤c.tw∧c.tw≤100
  gl:1≤c.gl∧c.gl≤100
  ad:1≤c.ad∧c.ad≤100
  MP:c.mx.length≤20
  Xq:∀x∈c.mx,(1≤x.c∧x.c≤100)∧x.f≠x.t∧fB x.t=true
  mxn:∀x∈c.mx,∀y∈c.mx,x.f=y.f→x.t=y.t→x=y
  tl:c.t.length≤48
  cl:c.c.length≤48
  yV:c.g.length≤6
  tok:∀w∈c.t,fB w=true
  cok:∀w∈c.c,fB w=true
  MU:∀x∈c.g,(0≤x.at_∧x.at_≤(c.t.length:Int))∧1≤x.ws.length∧x.ws.length≤6∧∀w∈x.ws,fB w=true
theorem Tn:∀ {r pre:List mD},oz pre r=true→(∀x∈r,(1≤x.c∧x.c≤100)∧x.f≠x.t∧fB x.t=true)∧(∀x∈r,∀y∈pre,¬(y.f=x.f∧y.t=x.t))∧r.Pairwise fun x y=>¬(x.f=y.f∧x.t=y.t)
 |[],pre,_=>⟨fun x hx=>(by cases hx),fun x hx=>(by cases hx),List.Pairwise.nil⟩
 |a::r,pre,h=>by
  unfold oz at h
  rw[bW] at h
  obtain⟨h1,h2⟩:=h
  obtain⟨i1,i2,i3⟩:=Tn h2
  unfold py ns at h1
  simp only[bW,decide_eq_true_eq,Bool.not_eq_true',decide_eq_false_iff_not,List.any_eq_false] at h1
  obtain⟨⟨⟨⟨e1,e2⟩,e3⟩,e4⟩,e5⟩:=h1
  refine⟨fun x hx=>?_,fun x hx y hy=>?_,List.pairwise_cons.2 ⟨fun y hy hh=>?_,i3⟩⟩
  ·rcases List.mem_cons.1 hx with rfl|hx
   ·exact⟨e4,e3,e2⟩
   exact i1 x hx
  ·rcases List.mem_cons.1 hx with rfl|hx
   ·have:=e5 y hy
    simpa using this
   exact i2 x hx y (List.mem_append_left _ hy)
  exact i2 y hy a (List.mem_append_right _ (List.mem_singleton.2 rfl)) hh
theorem fC {c:aj}(h:aN c=0):Rt c:=by
 unfold aN at h
 by_cases h0:q7 c=0
 ·rw[if_neg (by simp[h0])] at h
  unfold q7 at h0
  split at h0
  ·rename_i hc
   split at h0
   ·cases h0
   rename_i hl
   split at h0
   ·rename_i hm
    split at h
    ·cases h
    rename_i lk
    split at h
    ·rename_i hw
     simp only[bW,List.all_eq_true] at hw
     obtain⟨⟨w1,w2⟩,w3⟩:=hw
     unfold ns at hc
     simp only[bW,decide_eq_true_eq] at hc
     obtain⟨⟨⟨⟨c1,c2⟩,c3⟩,c4⟩,c5⟩:=hc
     obtain⟨m1,_,m3⟩:=Tn hm
     refine⟨c1,c2,c3,c4,c5,by omega,m1,fun x hx y hy e1 e2=>?_,by omega,by omega,by omega,w1,w2,fun x hx=>?_⟩
     ·obtain⟨i,hi,rfl⟩:=List.mem_iff_getElem.1 hx
      obtain⟨j,hj,rfl⟩:=List.mem_iff_getElem.1 hy
      rcases Nat.lt_trichotomy i j with gP|gP|gP
      ·exact absurd ⟨e1,e2⟩ ((List.pairwise_iff_getElem.1 m3) i j hi hj gP)
      ·subst gP;rfl
      exact absurd ⟨e1.symm,e2.symm⟩ ((List.pairwise_iff_getElem.1 m3) j i hj hi gP)
     have:=w3 x hx
     unfold lB at this
     simp only[bW,decide_eq_true_eq,List.all_eq_true] at this
     exact⟨this.1.1,this.1.2.1,this.1.2.2,this.2⟩
    cases h
   cases h0
  cases h0
 rw[if_pos h0] at h;exact absurd h h0
theorem NF:∀ {l:List mD} {f t n:Int},fK l f t=some n→∃x∈l,x.f=f∧x.t=t∧x.c=n
 |[],_,_,_,h=>by cases h
 |a::r,f,t,n,h=>by
  unfold fK at h
  split at h
  ·rename_i hh;injection h with h;exact⟨a,List.mem_cons_self,hh.1,hh.2,h⟩
  obtain⟨x,hx,h1⟩:=NF h;exact⟨x,List.mem_cons_of_mem _ hx,h1⟩
theorem Wv {α:Type}{l:List α}{i:Nat}{d:α}(h:i<l.length):l.getD i d∈l:=by
 rw[List.getD_eq_getElem?_getD,List.getElem?_eq_getElem h];exact List.getElem_mem h
theorem nI {c:aj}(hr:Rt c){s:ak}{n:Int}{i':Nat}{w:List Int}(h:aM c s=some (n,i',w)) :
  (1≤n∧n≤100)∧(0≤s.a∧s.a≤(c.t.length:Int)∧0≤s.i)∧s.a.toNat≤i'∧i'≤c.t.length∧(s.a.toNat<i'∨1≤w.length)∧w.length≤48:=by
 unfold aM at h
 split at h
 ·rename_i dC
  obtain⟨h1,h2,h3⟩:=dC
  simp only at h
  split at h
  ·split at h
   ·rename_i hk hc
    obtain⟨m,hm,he⟩:=Option.map_eq_some_iff.1 h
    injection he with e1 e2;injection e2 with e2 e3
    obtain⟨x,hx,_,_,FZ⟩:=NF hm
    have:=(hr.Xq x hx).1
    subst e1;subst e2;subst e3
    refine⟨by omega,⟨h1,h2,h3⟩,by omega,by omega,.inl (by omega),by simp⟩
   cases h
  split at h
  ·split at h
   ·rename_i hc
    injection h with h;injection h with e1 e2;injection e2 with e2 e3
    subst e1;subst e2;subst e3
    exact⟨hr.om,⟨h1,h2,h3⟩,by omega,by omega,.inl (by omega),by simp⟩
   cases h
  split at h
  ·split at h
   ·rename_i hc
    injection h with h;injection h with e1 e2;injection e2 with e2 e3
    subst e1;subst e2;subst e3
    exact⟨hr.le,⟨h1,h2,h3⟩,by omega,by omega,.inl (by omega),by simp⟩
   cases h
  split at h
  ·split at h
   ·rename_i hc
    injection h with h;injection h with e1 e2;injection e2 with e2 e3
    subst e1;subst e2;subst e3
    have:=hr.tl
    refine⟨hr.tw,⟨h1,h2,h3⟩,by omega,by omega,.inr ?_,?_⟩
    ·rw[List.length_take,List.length_drop];omega
    rw[List.length_take];omega
   cases h
  split at h
  ·split at h
   ·rename_i hc
    injection h with h;injection h with e1 e2;injection e2 with e2 e3
    subst e1;subst e2;subst e3
    have hm:=hr.MU _ (Wv (l:=c.g) (i:=s.l.toNat) (d:=⟨0,[]⟩) (by omega))
    exact⟨hr.gl,⟨h1,h2,h3⟩,by omega,by omega,.inr hm.2.1,by omega⟩
   cases h
  split at h
  ·split at h
   ·injection h with h;injection h with e1 e2;injection e2 with e2 e3
    subst e1;subst e2;subst e3
    exact⟨hr.ad,⟨h1,h2,h3⟩,by omega,by omega,.inr (by simp),by simp⟩
   cases h
  cases h
 cases h
theorem Ci {c:aj}{i j:Nat}{s:ak}(h:s∈nZ c i j):s.a=i∧s.i=j:=by
 unfold nZ at h
 simp only[List.mem_append,List.mem_map,List.mem_range] at h
 rcases h with ((((h|h)|⟨n,_,rfl⟩)|⟨n,_,rfl⟩)|⟨n,_,rfl⟩)|h
 ·split at h
  ·rw[List.mem_singleton] at h;subst h;exact⟨rfl,rfl⟩
  cases h
 ·rw[List.mem_singleton] at h;subst h;exact⟨rfl,rfl⟩
 ·exact⟨rfl,rfl⟩
 ·exact⟨rfl,rfl⟩
 ·exact⟨rfl,rfl⟩
 split at h
 ·rw[List.mem_singleton] at h;subst h;exact⟨rfl,rfl⟩
 cases h
structure HI (c:aj) (i j:Nat) (x:ay):Prop where
  fi:x.i=i
  fj:x.j=j
  wP:i≤x.i'
  vL:j≤x.j'
  on:i<x.i'∨j<x.j'
  n0:0≤x.n
  n1:x.n≤100
  it:x.i'≤c.t.length
  jt:x.j'≤c.c.length
theorem HI.ltp {c:aj}{i j:Nat}{x:ay}(h:HI c i j x):vM x.i x.j x.i' x.j':=by
 have h1:=h.wP;have h2:=h.vL;have h3:=h.on
 rw[h.fi,h.fj]
 unfold vM
 omega
theorem iz {c:aj}(hr:Rt c){i j:Nat}{x:ay}(h:x∈steps c i j):HI c i j x:=by
 unfold steps at h
 rcases List.mem_append.1 h with h|h
 ·split at h
  ·rename_i hc
   rw[List.mem_singleton] at h
   subst h
   exact⟨rfl,rfl,by simp,by simp,by simp,by simp,by simp,by simp;omega,by simp;omega⟩
  cases h
 obtain⟨s,hs,he⟩:=List.mem_filterMap.1 h
 obtain⟨ha,hi⟩:=Ci hs
 unfold stepOf at he
 split at he
 ·rename_i n i' w hd
  split at he
  ·rename_i hb
   injection he with he
   subst he
   obtain⟨d1,d2,d3,d4,d5,d6⟩:=nI hr hd
   unfold hasB at hb
   rw[bW,decide_eq_true_eq] at hb
   rw[ha,Int.toNat_natCast] at d3 d5
   exact⟨rfl,rfl,d3,by simp,by simp only;omega,by simp only;omega,by simp only;omega,d4,hb.1⟩
  cases he
 cases he
theorem Nf (c:aj):(places c).Pairwise fun p q=>vM p.1 p.2 q.1 q.2:=by
 unfold places
 rw[List.pairwise_flatMap]
 refine⟨fun i _=>?_,?_⟩
 ·rw[List.pairwise_map]
  exact(List.pairwise_lt_range).imp fun h=>.inr ⟨rfl,h⟩
 refine(List.pairwise_lt_range).imp fun {i i'} h p hp q hq=>?_
 obtain⟨a,_,rfl⟩:=List.mem_map.1 hp
 obtain⟨b,_,rfl⟩:=List.mem_map.1 hq
 exact .inl h
theorem HJ {c:aj}{x:ay}:x∈graph c↔∃i j,i≤c.t.length∧j≤c.c.length∧x∈steps c i j:=by
 unfold graph places
 simp only[List.mem_flatMap,List.mem_map,List.mem_range]
 constructor
 ·rintro⟨p,⟨i,hi,j,hj,rfl⟩,hx⟩;exact⟨i,j,by omega,by omega,hx⟩
 rintro⟨i,j,hi,hj,hx⟩;exact⟨(i,j),⟨i,by omega,j,by omega,rfl⟩,hx⟩
theorem JY {c:aj}(hr:Rt c):Bk (graph c):=by
 refine⟨fun x hx=>?_,?_⟩
 ·obtain⟨i,j,_,_,h⟩:=HJ.1 hx
  exact(iz hr h).ltp
 unfold graph
 rw[List.pairwise_flatMap]
 refine⟨fun p _=>?_,(Nf c).imp fun {p q} h x hx y hy=>?_⟩
 ·refine List.pairwise_of_forall_mem_list fun x hx y hy=>?_
  have h1:=iz hr hx
  have h2:=iz hr hy
  rw[h1.fi,h1.fj,h2.fi,h2.fj]
  exact vM.irrefl
 have h1:=iz hr hx
 have h2:=iz hr hy
 rw[h1.fi,h1.fj,h2.fi,h2.fj]
 unfold vM at h ⊢
 omega
def rK (l:List mD)(f t:Int):Option Int:=l.foldl (fun o x=>if x.f=f∧x.t=t then some x.c else o) none
theorem z1u (l:List mD)(x:mD)(f t:Int):rK (l++[x]) f t=if x.f=f∧x.t=t then some x.c else rK l f t:=by
 unfold rK;rw[List.foldl_append];rfl
theorem z2l {l:List mD}{k:Nat}(h:k<l.length)(f t:Int):rK (l.take (k+1)) f t=if l[k].f=f∧l[k].t=t then some l[k].c else rK (l.take k) f t:=by
 rw[List.take_succ_eq_append_getElem h,z1u]
theorem Vx {l:List mD}{f t:Int}(h:∀x∈l,¬(x.f=f∧x.t=t)):fK l f t=none:=by
 induction l with
 |nil=>rfl
 |cons a r ih=>
  unfold fK
  rw[if_neg (h a List.mem_cons_self)]
  exact ih fun x hx=>h x (List.mem_cons_of_mem _ hx)
theorem P0:∀ {l:List mD} {f t:Int} (o:Option Int),(l.Pairwise fun x y=>¬(x.f=y.f∧x.t=y.t))→l.foldl (fun o x=>if x.f=f∧x.t=t then some x.c else o) o=(fK l f t).or o
 |[],f,t,o,_=>by simp[fK]
 |a::r,f,t,o,h=>by
  rw[List.pairwise_cons] at h
  rw[List.foldl_cons,P0 _ h.2]
  by_cases ha:a.f=f∧a.t=t
  ·have hn:fK r f t=none:=Vx fun x hx hh=>h.1 x hx ⟨ha.1.trans hh.1.symm,ha.2.trans hh.2.symm⟩
   rw[hn,if_pos ha]
   unfold fK
   rw[if_pos ha];rfl
  rw[if_neg ha]
  conv=>rhs;unfold fK
  rw[if_neg ha]
theorem Vw {c:aj}(h:aN c=0):c.mx.Pairwise fun x y=>¬(x.f=y.f∧x.t=y.t):=by
 have hm:oz [] c.mx=true:=by
  cases hm:oz [] c.mx with
  |true=>rfl
  |false=>
   exfalso
   have:q7 c≠0:=by
    unfold q7
    rw[hm]
    split
    ·split
     ·decide
     simp
    decide
   unfold aN at h
   rw[if_pos this] at h
   exact this h
 exact(Tn hm).2.2
theorem xcl {c:aj}(h:aN c=0)(f t:Int):rK c.mx f t=fK c.mx f t:=by
 unfold rK
 rw[P0 none (Vw h)];simp
def oc (c:aj):List ak→List Int→Nat→Int→Option (List Int×Int)
 |[],out,i,sum=>some (out++c.t.drop i,sum)
 |s::r,out,i,sum=>
  if (i:Int)≤s.a∧s.a≤(c.t.length:Int) then
   match aM c s with
   |some (n,i',w)=>if s.i=((out++(c.t.drop i).take (s.a.toNat - i)).length:Int) then oc c r (out++(c.t.drop i).take (s.a.toNat - i)++w) i' (sum+n) else none
   |none=>none
  else none
def fu (c:aj)(l:List ak):Option (List Int×Int):=oc c l [] 0 0
def bP (c:aj)(l:List ak):Option Int:=if 100<l.length then none else match fu c l with
 |some (o,n)=>if o=c.c then some n else none
 |none=>none
def val (og:Int)(o:nN)(a b:Nat):Int:=(o a b).getD og
def bh (D:Nat→Nat→Int)(i j:Nat)(v:Int):Nat→Nat→Int:=fun a b=>if a=i∧b=j then v else D a b
def nO (o:nN)(k:Nat):Prop:=∀a b v,o a b=some v→0≤v∧v≤100*(k:Int)
theorem nO.start:nO start 0:=fun a b v h=>by
 unfold Sl.start at h
 split at h
 ·injection h with h;subst h;omega
 cases h
theorem nO.oZ {o:nN}{k:Nat}(h:nO o k){x:ay}(h0:0≤x.n)(h1:x.n≤100):nO (oZ o x) (k+1):=fun a b v hv=>by
 unfold Sl.oZ np at hv
 split at hv
 ·rename_i lN
  rcases z0u hv with h2|h2
  ·have:=h _ _ _ h2;omega
  cases h3:o x.i x.j with
  |none=>rw[h3] at h2;cases h2
  |some u=>
   rw[h3] at h2
   have h2:u+x.n=v:=by injection h2
   have:=h _ _ _ h3
   omega
 have:=h _ _ _ hv;omega
theorem nO.foldl:∀ {l:List ay} {o:nN} {k:Nat},nO o k→(∀x∈l,0≤x.n∧x.n≤100)→nO (A2 o l) (k+l.length)
 |[],o,k,h,_=>h
 |x::l,o,k,h,hx=>by
  have h1:=hx x List.mem_cons_self
  have:=nO.foldl (l:=l) (h.oZ h1.1 h1.2) fun y hy=>hx y (List.mem_cons_of_mem _ hy)
  rw[List.length_cons,show k+(l.length+1)=k+1+l.length by omega]
  exact this
theorem nO.mono {o:nN}{k m:Nat}(h:nO o k)(hm:k≤m):nO o m:=fun a b v hv=>by have:=h a b v hv;omega
theorem Ch {og:Int}{o:nN}{a b:Nat}{v:Int}(h:o a b=some v):val og o a b=v:=by unfold val;rw[h];rfl
theorem zw0 {og:Int}{o:nN}{a b:Nat}(h:o a b=none):val og o a b=og:=by unfold val;rw[h];rfl
theorem xhw {og:Int}{o:nN}{k:Nat}(h:nO o k)(hf:100*(k:Int)≤og)(a b:Nat):0≤og→0≤val og o a b∧val og o a b≤og:=fun h0=>by
 cases ho:o a b with
 |none=>rw[zw0 ho];omega
 |some v=>rw[Ch ho];have:=h a b v ho;omega
theorem Wm {og:Int}{o:nN}{k:Nat}(h:nO o k)(hf:100*(k:Int)+100≤og){x:ay}(h0:0≤x.n)(h1:x.n≤100):val og (oZ o x)=bh (val og o) x.i' x.j' (min (val og o x.i' x.j') (val og o x.i x.j+x.n)):=by
 funext a b
 unfold val oZ np bh
 split
 ·cases h2:o x.i' x.j' with
  |none=>
   cases h3:o x.i x.j with
   |none=>simp[tM];omega
   |some v=>have:=h _ _ _ h3;simp[tM];omega
  |some u=>
   have hu:=h _ _ _ h2
   cases h3:o x.i x.j with
   |none=>simp[tM];omega
   |some v=>simp[tM]
 rfl
theorem z6q {og:Int}{o:nN}{x:ay}{k:Nat}(h:nO o k)(hf:100*(k:Int)<og)(hp:¬val og o x.i x.j<og):oZ o x=o:=by
 have hn:o x.i x.j=none:=by
  cases h3:o x.i x.j with
  |none=>rfl
  |some v=>exfalso;rw[Ch h3] at hp;have:=h _ _ _ h3;omega
 funext a b
 unfold oZ np
 split
 ·rename_i lN
  obtain⟨rfl,rfl⟩:=lN
  rw[hn]
  cases o x.i' x.j'<;>rfl
 rfl
theorem Ls {og:Int}{o:nN}{k:Nat}(h:nO o k)(hf:100*(k:Int)<og){a b:Nat}:val og o a b<og↔∃v,o a b=some v:=by
 constructor
 ·intro hv
  cases ho:o a b with
  |none=>rw[zw0 ho] at hv;omega
  |some v=>exact⟨v,rfl⟩
 rintro⟨v,hv⟩
 rw[Ch hv]
 have:=h _ _ _ hv
 omega
theorem zzp (c:aj)(i j:Nat)(hi:i≤c.t.length):(nZ c i j).length≤c.t.length+c.g.length+3:=by
 unfold nZ
 simp only[List.length_append,List.length_map,List.length_range,List.length_singleton]
 split<;>simp<;>omega
theorem KF (c:aj)(i j:Nat)(hi:i≤c.t.length):(steps c i j).length≤c.t.length+c.g.length+4:=by
 unfold steps
 rw[List.length_append]
 have h1:=List.length_filterMap_le (stepOf c i j) (nZ c i j)
 have h2:=zzp c i j hi
 split<;>simp<;>omega
theorem S5 {α β:Type}(f:α→List β)(m:Nat):∀(l:List α),(∀x∈l,(f x).length≤m)→(l.flatMap f).length≤l.length*m
 |[],_=>by simp
 |a::r,h=>by
  have ih:=S5 f m r fun x hx=>h x (List.mem_cons_of_mem _ hx)
  have:=h a List.mem_cons_self
  rw[List.flatMap_cons,List.length_append,List.length_cons,Nat.succ_mul]
  omega
theorem YW (c:aj):(places c).length=(c.t.length+1)*(c.c.length+1):=by
 have:∀(n m:Nat),((List.range n).flatMap fun i=>(List.range m).map fun j=>(i,j)).length=n*m:=by
  intro n m
  induction n with
  |zero=>simp
  |succ n ih=>rw[List.range_succ,List.flatMap_append,List.length_append,ih,Nat.succ_mul];simp
 exact this _ _
theorem HL {c:aj}(hr:Rt c):(graph c).length≤139258:=by
 have h1:=S5 (fun p:Nat×Nat=>steps c p.1 p.2) (c.t.length+c.g.length+4) (places c) fun p hp=>by
  unfold places at hp
  simp only[List.mem_flatMap,List.mem_map,List.mem_range] at hp
  obtain⟨i,hi,j,hj,rfl⟩:=hp
  exact KF c i j (by omega)
 rw[YW] at h1
 have e1:=hr.tl;have e2:=hr.cl;have e3:=hr.yV
 have h2:(c.t.length+1)*(c.c.length+1)≤49*49:=Nat.mul_le_mul (by omega) (by omega)
 have h3:(c.t.length+1)*(c.c.length+1)*(c.t.length+c.g.length+4)≤49*49*58:=Nat.mul_le_mul h2 (by omega)
 exact Nat.le_trans h1 h3
theorem JW {c:aj}(hr:Rt c):∀x∈graph c,0≤x.n∧x.n≤100:=fun x hx=>by
 obtain⟨i,j,_,_,h⟩:=HJ.1 hx
 have:=iz hr h
 exact⟨this.n0,this.n1⟩
def pF (m i:Nat):List (Nat×Nat):=(List.range m).map fun j=>(i,j)
def mI (m i j:Nat):List (Nat×Nat):=(List.range i).flatMap (pF m)++pF j i
theorem Jw (m i j:Nat):mI m i (j+1)=mI m i j++[(i,j)]:=by
 unfold mI pF
 rw[List.range_succ,List.map_append,List.append_assoc];rfl
theorem Jx (m i:Nat):mI m i m=mI m (i+1) 0:=by
 unfold mI
 rw[List.range_succ,List.flatMap_append]
 simp[pF]
theorem Hx (c:aj):mI (c.c.length+1) (c.t.length+1) 0=places c:=by
 unfold mI places pF
 simp
theorem P6 {m i j a b:Nat}:(a,b)∈mI m i j↔(a<i∧b<m)∨(a=i∧b<j):=by
 unfold mI pF
 simp only[List.mem_append,List.mem_flatMap,List.mem_map,List.mem_range,bO]
 constructor
 ·rintro (⟨x,hx,y,hy,rfl,rfl⟩|⟨y,hy,rfl,rfl⟩)
  ·exact .inl ⟨hx,hy⟩
  exact .inr ⟨rfl,hy⟩
 rintro (⟨h1,h2⟩|⟨rfl,h2⟩)
 ·exact .inl ⟨a,h1,b,h2,rfl,rfl⟩
 exact .inr ⟨b,h2,rfl,rfl⟩
theorem xQ {c:aj}{a b:Nat}:(a,b)∈places c↔a≤c.t.length∧b≤c.c.length:=by
 rw[← Hx,P6];omega
def uW (c:aj)(p:ay→Bool)(i j:Nat):List ay:=((mI (c.c.length+1) i j).flatMap fun q=>steps c q.1 q.2).filter p
theorem Wb (c:aj)(p:ay→Bool)(i j:Nat):uW c p i (j+1)=uW c p i j++(steps c i j).filter p:=by
 unfold uW;rw[Jw,List.flatMap_append,List.filter_append];simp
theorem Wc (c:aj)(p:ay→Bool)(i:Nat):uW c p i (c.c.length+1)=uW c p (i+1) 0:=by
 unfold uW;rw[Jx]
theorem Wd (c:aj)(p:ay→Bool):uW c p (c.t.length+1) 0=(graph c).filter p:=by
 unfold uW graph;rw[Hx]
open Go Go.Am
mutual
theorem PZ (vh:af):∀ {v:PV},v.aD=true→bI vh v=some v
 |.func f xs ys,h=>by
  simp only[PV.aD,bW] at h
  simp only[bI,y1 vh h.1,y1 vh h.2]
 |.agg cs,h=>by simp only[PV.aD] at h;simp only[bI,y1 vh h,Option.map_some]
 |.bz cs,h=>by simp only[PV.aD] at h;simp only[bI,y1 vh h,Option.map_some]
 |.iface t v,h=>by simp only[PV.aD] at h;simp only[bI,h,aQ]
 |.ptr ..,h=>by simp[PV.aD] at h
 |.own ..,h=>by simp[PV.aD] at h
 |.sub ..,h=>by simp[PV.aD] at h
 |.grow ..,h=>by simp[PV.aD] at h
 |.a6 ..,h=>by simp[PV.aD] at h
 |.cm ..,h=>by simp[PV.aD] at h
 |.bool _,_=>by simp only[bI]
 |.int _ _,_=>by simp only[bI]
 |.str _,_=>by simp only[bI]
 |.nilFunc,_=>by simp only[bI]
 |.nilIface,_=>by simp only[bI]
 |.gD,_=>by simp only[bI]
 |.aJ,_=>by simp only[bI]
 |.eE,_=>by simp only[bI]
 |.e0,_=>by simp only[bI]
 |.vec _,_=>by simp only[bI]
 |.vp _,_=>by simp only[bI]
 |.aG _,_=>by simp only[bI]
theorem y1 (vh:af):∀ {l:List PV},PV.az l=true→bG vh l=some l
 |[],_=>by simp only[bG]
 |v::r,h=>by
  simp only[PV.az,bW] at h
  simp only[bG,PZ vh h.1,y1 vh h.2]
end
@[simp] theorem z8v (l:List Int):List.take l.length (l.map (PV.int .i64))=l.map (PV.int .i64):=List.take_of_length_le (by rw[List.length_map];exact Nat.le_refl _)
@[simp] theorem z9q (l:List Int):l.all (PV.one∘PV.int .i64)=true:=by simp[PV.one]
def ec (r v:PV):Prop:=Alt af.empty 0 (fun _=>true) id r v
variable [bE] in
theorem aI.soft {P:Program}{f:FuncId}{args:List PV}{v:PV}(hp:aI P f args fun r=>ec r v)(hv:v.aD=true):aI P f args fun r=>r=v:=hp.alt fun r h=>⟨v,h,hv,rfl⟩
theorem oF {v:PV}(h:v.aD=true):ec v v:=.same v h
theorem Js {l l2:List PV}(h:aK af.empty 0 (fun _=>true) id l l2):ec (.bz l) (.bz l2):=.GD h
variable [bE] in
theorem aI.xky {P:Program}{f:FuncId}{l r:List PV}{R:PV→Prop}(hp:aI P f (l++.vec []::r) R):aI P f (l++.aJ::r) R:=fun lo g σ h aH ha s=>by
 refine hp lo g σ h aH ⟨by have:=ha.1;simpa using this,fun i v v' hv bg=>?_⟩ s
 by_cases hi:i=l.length
 ·subst hi
  have h1:(l++PV.aJ::r)[l.length]?=some .aJ:=by simp
  have h2:=ha.2 _ _ v' h1 bg
  have h3:v=.vec []:=by simpa using hv.symm
  subst h3
  cases h2 with
  |fr _ _ h=>cases h;exact .fr _ _ .ie
 refine ha.2 i v v' ?_ bg
 rw[← hv]
 rcases Nat.lt_or_ge i l.length with h|h
 ·rw[List.getElem?_append_left h,List.getElem?_append_left h]
 rw[List.getElem?_append_right h,List.getElem?_append_right h]
 obtain⟨j,hj⟩:∃j,i - l.length=j+1:=⟨i - l.length - 1,by omega⟩
 rw[hj];rfl
theorem g48:(prog.stoodInHeld 48||prog.eqGuardType prog.depth 48)=false:=by decide +kernel
theorem n48:(match prog.underlying 48 with|some (.struct fs)=>fs.toList.map (fun f=>(f.name == "_", dH prog f.type,f.type,f.offset))|_=>[])=[(false,some 1,3,0),(false,some 1,3,1),(false,some 1,3,2),(false,some 1,3,3),(false,some 1,3,4)]:=by decide +kernel
theorem cw (a0 a1 a2 a3 a4 b0 b1 b2 b3 b4:Int):eB prog 48 (.agg #[.int .i64 a0,.int .i64 a1,.int .i64 a2,.int .i64 a3,.int .i64 a4]) (.agg #[.int .i64 b0,.int .i64 b1,.int .i64 b2,.int .i64 b3,.int .i64 b4])=some (a0==b0&&a1==b1&&a2==b2&&a3==b3&&a4==b4):=by
 have hn:=n48
 have hg:=g48
 unfold eB
 simp only
 cases hu:prog.underlying 48 with
 |none=>rw[hu] at hn;simp at hn
 |some td=>
  cases td with
  |struct fs=>
   rw[hu] at hn
   simp only at hn ⊢
   rw[hg]
   simp only[bx]
   generalize fs.toList=l at hn
   rcases l with _|⟨f1,_|⟨f2,_|⟨f3,_|⟨f4,_|⟨f5,_|⟨f6,r⟩⟩⟩⟩⟩⟩
   ·simp at hn
   ·simp at hn
   ·simp at hn
   ·simp at hn
   ·simp at hn
   ·simp only[List.map_cons,List.map_nil,List.cons.injEq,bO,and_true] at hn
    obtain⟨⟨F8,F9,Ga,Gb⟩,⟨Gc,Gd,Ge,Gf⟩,⟨k2a,k2b,k2c,k2d⟩,⟨k3a,k3b,k3c,k3d⟩,⟨k4a,k4b,k4c,k4d⟩⟩:=hn
    simp only[wg,F8,F9,Ga,Gb,Gc,Gd,Ge,Gf,k2a,k2b,k2c,k2d,k3a,k3b,k3c,k3d,k4a,k4b,k4c,k4d,bx]
    have ha:bK prog 3=some false:=by decide +kernel
    have yO:prog.underlying 3=some (.int .i64):=by rfl
    simp[apart,ha,Df,yO]
    cases a0==b0<;>cases a1==b1<;>cases a2==b2<;>cases a3==b3<;>cases a4==b4<;>rfl
   simp at hn
  |_=>rw[hu] at hn;simp at hn
theorem To:(prog.stoodInHeld 137||prog.eqGuardType prog.depth 137)=false:=by decide +kernel
theorem n137:(match prog.underlying 137 with|some (.struct fs)=>fs.toList.map (fun f=>(f.name == "_", dH prog f.type,f.type,f.offset))|_=>[])=[(false,some 1,3,0),(false,some 1,3,1)]:=by decide +kernel
theorem jU (a0 a1 b0 b1:Int):eB prog 137 (.agg #[.int .i64 a0,.int .i64 a1]) (.agg #[.int .i64 b0,.int .i64 b1])=some (a0==b0&&a1==b1):=by
 have hn:=n137
 have hg:=To
 unfold eB
 simp only
 cases hu:prog.underlying 137 with
 |none=>rw[hu] at hn;simp at hn
 |some td=>
  cases td with
  |struct fs=>
   rw[hu] at hn
   simp only at hn ⊢
   rw[hg]
   simp only[bx]
   generalize fs.toList=l at hn
   rcases l with _|⟨f1,_|⟨f2,_|⟨f3,r⟩⟩⟩
   ·simp at hn
   ·simp at hn
   ·simp only[List.map_cons,List.map_nil,List.cons.injEq,bO,and_true] at hn
    obtain⟨⟨F8,F9,Ga,Gb⟩,⟨Gc,Gd,Ge,Gf⟩⟩:=hn
    simp only[wg,F8,F9,Ga,Gb,Gc,Gd,Ge,Gf,bx]
    have ha:bK prog 3=some false:=by decide +kernel
    have yO:prog.underlying 3=some (.int .i64):=by rfl
    simp[apart,ha,Df,yO]
    cases a0==b0<;>cases a1==b1<;>rfl
   simp at hn
  |_=>rw[hu] at hn;simp at hn
end Go.Am.Sl
end
section
namespace Go.Am
noncomputable def qO:Code→List (Array Tmp×Code×Code)
 |.seq a b=>qO a++qO b
 |.cond _ a b=>qO a++qO b
 |.block _ c=>qO c
 |.loop c=>qO c
 |.rangeFunc _ ps a b=>(ps,a,b)::(qO a++qO b)
 |.scope b=>qO b
 |_=>[]
noncomputable def yZ (fn:Func)(k:Nat)(ah:bf)(j:Option Code):aO:=match fn.body with
 |some c=>match (qO c)[k]? with
  |some (ps,a,b)=>.loop fn.ntmps ps a b ah j
  |none=>.box []
 |none=>.box []
theorem oH.yZ {vh:af}{n2:Nat}{D:Nat→Bool}{ρ:Nat→Nat}{fn:Func}{k:Nat}{ah aF:bf}{x:Option Code}(h:qP ah vh n2 D ρ aF):oH vh n2 D ρ (yZ fn k ah x) (yZ fn k aF x):=by
 unfold Go.Am.yZ
 split
 ·split
  ·exact uc.mk rfl rfl rfl rfl rfl h
  exact aK.nil
 exact aK.nil
variable [bE] in
theorem oh.wT {P:Program}{N b:Nat}{o:Oper}{next:bf→af→Prop}{ah aF:bf}{vh aZ:af}(a:Rec b ah vh aF aZ)(hc:oh P N b o next aF aZ):oh P N b o next ah vh:=by
 obtain⟨D,ρ,a⟩:=a
 exact cq.zx8 D ρ a hc
end Go.Am
end
section
namespace Go.Am.Sl
def pG (c:aj)(s:ak):Bool:=match aM c s with
 |some (_,_,w)=>hasB c s.i.toNat w
 |none=>false
def rh (c:aj)(i j:Nat):List ak:=(nZ c i j).filter (pG c)
def ak.lt (a b:ak):Prop:=a.a<b.a∨(a.a=b.a∧(a.i<b.i∨(a.i=b.i∧(a.k<b.k∨(a.k=b.k∧(a.l<b.l∨(a.l=b.l∧a.w<b.w)))))))
instance (a b:ak):Decidable (a.lt b):=by unfold ak.lt;infer_instance
theorem ak.JV (a:ak):¬a.lt a:=by unfold ak.lt;omega
theorem ak.lt_trans {a b c:ak}(h:a.lt b)(g:b.lt c):a.lt c:=by unfold ak.lt at *;omega
theorem ak.ext' {a b:ak}(h1:a.k=b.k)(h2:a.a=b.a)(h3:a.i=b.i)(h4:a.l=b.l)(h5:a.w=b.w):a=b:=by
 cases a;cases b;simp_all
theorem ak.Wi (a b:ak):a.lt b∨a=b∨b.lt a:=by
 by_cases h:a=b
 ·exact .inr (.inl h)
 have:¬(a.k=b.k∧a.a=b.a∧a.i=b.i∧a.l=b.l∧a.w=b.w):=fun⟨h1,h2,h3,h4,h5⟩=>h (ak.ext' h1 h2 h3 h4 h5)
 unfold ak.lt
 omega
def eC (l:List ak)(s:ak):List ak:=match l with
 |[]=>[s]
 |a::r=>if a.lt s then a::eC r s else if a=s then a::r else s::a::r
theorem NJ {s x:ak}:∀ {l:List ak},x∈eC l s↔x∈l∨x=s
 |[]=>by simp[eC]
 |a::r=>by
  unfold eC
  split
  ·rw[List.mem_cons,NJ,List.mem_cons,or_assoc]
  split
  ·rename_i h;subst h
   constructor
   ·exact .inl
   rintro (h|rfl)
   ·exact h
   exact List.mem_cons_self
  rw[List.mem_cons]
  constructor
  ·rintro (h|h)
   ·exact .inr h
   exact .inl h
  rintro (h|h)
  ·exact .inr h
  exact .inl h
theorem znz {s:ak}:∀ {l:List ak},l.Pairwise ak.lt→(eC l s).Pairwise ak.lt
 |[],_=>by simp[eC]
 |a::r,h=>by
  rw[List.pairwise_cons] at h
  unfold eC
  split
  ·rename_i ha
   rw[List.pairwise_cons]
   refine⟨fun x hx=>?_,znz h.2⟩
   rcases NJ.1 hx with h1|rfl
   ·exact h.1 x h1
   exact ha
  split
  ·exact List.pairwise_cons.2 h
  rename_i h1 h2
  have h3:s.lt a:=by
   rcases ak.Wi a s with h|h|h
   ·exact absurd h h1
   ·exact absurd h h2
   exact h
  rw[List.pairwise_cons]
  refine⟨fun x hx=>?_,List.pairwise_cons.2 h⟩
  rcases List.mem_cons.1 hx with rfl|hx
  ·exact h3
  exact ak.lt_trans h3 (h.1 x hx)
theorem zst:∀ {l m:List ak},l.Pairwise ak.lt→m.Pairwise ak.lt→(∀x,x∈l↔x∈m)→l=m
 |[],[],_,_,_=>rfl
 |[],b::m,_,_,h=>by have:=(h b).2 List.mem_cons_self;cases this
 |a::l,[],_,_,h=>by have:=(h a).1 List.mem_cons_self;cases this
 |a::l,b::m,hl,hm,h=>by
  rw[List.pairwise_cons] at hl hm
  have lN:a=b:=by
   rcases List.mem_cons.1 ((h a).1 List.mem_cons_self) with h1|h1
   ·exact h1
   rcases List.mem_cons.1 ((h b).2 List.mem_cons_self) with h2|h2
   ·exact h2.symm
   exact absurd (ak.lt_trans (hm.1 a h1) (hl.1 b h2)) (ak.JV b)
  subst lN
  congr 1
  refine zst hl.2 hm.2 fun x=>?_
  constructor
  ·intro hx
   rcases List.mem_cons.1 ((h x).1 (List.mem_cons_of_mem _ hx)) with rfl|h1
   ·exact absurd (hl.1 _ hx) (ak.JV _)
   exact h1
  intro hx
  rcases List.mem_cons.1 ((h x).2 (List.mem_cons_of_mem _ hx)) with rfl|h1
  ·exact absurd (hm.1 _ hx) (ak.JV _)
  exact h1
def pL (c:aj)(i j:Nat):List ak:=
 (if j<c.c.length then [⟨1,i,j,0,c.c.getD j 0⟩,⟨6,i,j,0,c.c.getD j 0⟩] else [])++[⟨2,i,j,0,0⟩]++((List.range (c.t.length+1)).flatMap fun (k:Nat)=>[⟨3,i,j,k,0⟩,⟨4,i,j,k,0⟩])++((List.range c.g.length).map fun (k:Nat)=>⟨5,i,j,k,0⟩)
def NK (c:aj)(i j:Nat):List ak:=((pL c i j).filter (pG c)).foldl eC []
theorem zpl:∀(l a:List ak),a.Pairwise ak.lt→(l.foldl eC a).Pairwise ak.lt∧∀x,x∈l.foldl eC a↔x∈a∨x∈l
 |[],a,h=>⟨h,fun x=>by simp⟩
 |s::r,a,h=>by
  obtain⟨h1,h2⟩:=zpl r (eC a s) (znz h)
  refine⟨h1,fun x=>?_⟩
  rw[List.foldl_cons,h2,NJ,List.mem_cons,or_assoc]
theorem Tp {n:Nat}{f:Nat→ak}(h:∀a b,a<b→(f a).lt (f b)):((List.range n).map f).Pairwise ak.lt:=by
 rw[List.pairwise_map]
 exact List.pairwise_lt_range.imp fun h1=>h _ _ h1
theorem WM (c:aj)(i j:Nat):(nZ c i j).Pairwise ak.lt:=by
 have FV:((List.range (c.t.length - i)).map fun (k:Nat)=>(⟨3,i,j,k+1,0⟩:ak)).Pairwise ak.lt:=Tp fun a b h=>by unfold ak.lt;simp;omega
 have hr4:((List.range i).map fun (k:Nat)=>(⟨4,i,j,k+1,0⟩:ak)).Pairwise ak.lt:=Tp fun a b h=>by unfold ak.lt;simp;omega
 have hr5:((List.range c.g.length).map fun (k:Nat)=>(⟨5,i,j,k,0⟩:ak)).Pairwise ak.lt:=Tp fun a b h=>by unfold ak.lt;simp;omega
 have mu:∀ {k k':Int} {a b c d:Int},k<k'→(⟨k,i,j,a,b⟩:ak).lt ⟨k',i,j,c,d⟩:=fun h=>by unfold ak.lt;simp;omega
 unfold nZ
 generalize hA:(if j<c.c.length then [(⟨1,i,j,0,c.c.getD j 0⟩:ak)] else [])=A
 generalize hB:(if j<c.c.length then [(⟨6,i,j,0,c.c.getD j 0⟩:ak)] else [])=B
 have Lx:∀x∈A,x=⟨1,i,j,0,c.c.getD j 0⟩:=fun x hx=>by
  rw[← hA] at hx;split at hx
  ·simpa using hx
  cases hx
 have Ly:∀x∈B,x=⟨6,i,j,0,c.c.getD j 0⟩:=fun x hx=>by
  rw[← hB] at hx;split at hx
  ·simpa using hx
  cases hx
 have hAp:A.Pairwise ak.lt:=by rw[← hA];split<;>simp
 have hBp:B.Pairwise ak.lt:=by rw[← hB];split<;>simp
 simp only[List.pairwise_append,List.mem_append,List.mem_map,List.mem_range,List.mem_singleton]
 refine⟨⟨⟨⟨⟨hAp,by simp,?_⟩,FV,?_⟩,hr4,?_⟩,hr5,?_⟩,hBp,?_⟩
 ·rintro x hx y rfl
  rw[Lx x hx];exact mu (by omega)
 ·rintro x (hx|rfl) y ⟨k,_,rfl⟩
  ·rw[Lx x hx];exact mu (by omega)
  exact mu (by omega)
 ·rintro x ((hx|rfl)|⟨m,_,rfl⟩) y ⟨k,_,rfl⟩
  ·rw[Lx x hx];exact mu (by omega)
  ·exact mu (by omega)
  exact mu (by omega)
 ·rintro x (((hx|rfl)|⟨m,_,rfl⟩)|⟨m,_,rfl⟩) y ⟨k,_,rfl⟩
  ·rw[Lx x hx];exact mu (by omega)
  ·exact mu (by omega)
  ·exact mu (by omega)
  exact mu (by omega)
 rintro x ((((hx|rfl)|⟨m,_,rfl⟩)|⟨m,_,rfl⟩)|⟨m,_,rfl⟩) y hy
 ·rw[Lx x hx,Ly y hy];exact mu (by omega)
 ·rw[Ly y hy];exact mu (by omega)
 ·rw[Ly y hy];exact mu (by omega)
 ·rw[Ly y hy];exact mu (by omega)
 rw[Ly y hy];exact mu (by omega)
theorem xk1 {c:aj}{i j:Nat}{k:Int}(h:pG c ⟨3,i,j,k,0⟩=true):1≤k∧k≤(c.t.length:Int) - i:=by
 unfold pG at h
 cases hd:aM c ⟨3,i,j,k,0⟩ with
 |none=>rw[hd] at h;cases h
 |some x=>
  unfold aM at hd
  simp only[Int.reduceEq,if_false,if_true] at hd
  split at hd
  ·split at hd
   ·rename_i h1;exact⟨h1.2.1,h1.2.2.1⟩
   cases hd
  cases hd
theorem xlk {c:aj}{i j:Nat}{k:Int}(h:pG c ⟨4,i,j,k,0⟩=true):1≤k∧k≤i:=by
 unfold pG at h
 cases hd:aM c ⟨4,i,j,k,0⟩ with
 |none=>rw[hd] at h;cases h
 |some x=>
  unfold aM at hd
  simp only[Int.reduceEq,if_false,if_true] at hd
  split at hd
  ·split at hd
   ·rename_i h1;exact⟨h1.1,h1.2.1⟩
   cases hd
  cases hd
theorem z4m (c:aj)(i j:Nat)(hi:i≤c.t.length):NK c i j=rh c i j:=by
 obtain⟨h1,h2⟩:=zpl ((pL c i j).filter (pG c)) [] List.Pairwise.nil
 refine zst h1 ((WM c i j).filter _) fun x=>?_
 rw[show NK c i j=((pL c i j).filter (pG c)).foldl eC [] from rfl] at *
 rw[h2,rh]
 simp only[List.not_mem_nil,false_or,List.mem_filter]
 refine and_congr_left fun hx=>?_
 unfold pL nZ
 have h3:∀k:Nat,x=⟨3,i,j,k,0⟩→∃n:Nat,n<c.t.length - i∧x=⟨3,i,j,(n+1:Nat),0⟩:=fun k e=>by
  subst e
  obtain⟨a,b⟩:=xk1 hx
  exact⟨k - 1,by omega,by congr 1;omega⟩
 have h4:∀k:Nat,x=⟨4,i,j,k,0⟩→∃n:Nat,n<i∧x=⟨4,i,j,(n+1:Nat),0⟩:=fun k e=>by
  subst e
  obtain⟨a,b⟩:=xlk hx
  exact⟨k - 1,by omega,by congr 1;omega⟩
 by_cases hj:j<c.c.length
 ·simp only[hj,if_true,List.mem_append,List.mem_flatMap,List.mem_map,List.mem_range,List.mem_cons,List.not_mem_nil,or_false]
  constructor
  ·rintro ((((h|h)|h)|⟨k,hk,h|h⟩)|⟨k,hk,h⟩)
   ·exact .inl (.inl (.inl (.inl (.inl h))))
   ·exact .inr h
   ·exact .inl (.inl (.inl (.inl (.inr h))))
   ·obtain⟨n,hn,e⟩:=h3 k h
    exact .inl (.inl (.inl (.inr ⟨n,hn,e.symm⟩)))
   ·obtain⟨n,hn,e⟩:=h4 k h
    exact .inl (.inl (.inr ⟨n,hn,e.symm⟩))
   exact .inl (.inr ⟨k,hk,h⟩)
  rintro (((((h|h)|⟨k,hk,h⟩)|⟨k,hk,h⟩)|⟨k,hk,h⟩)|h)
  ·exact .inl (.inl (.inl (.inl h)))
  ·exact .inl (.inl (.inr h))
  ·exact .inl (.inr ⟨k+1,by omega,.inl h.symm⟩)
  ·exact .inl (.inr ⟨k+1,by omega,.inr h.symm⟩)
  ·exact .inr ⟨k,hk,h⟩
  exact .inl (.inl (.inl (.inr h)))
 simp only[hj,if_false,List.mem_append,List.mem_flatMap,List.mem_map,List.mem_range,List.mem_cons,List.not_mem_nil,or_false,false_or]
 constructor
 ·rintro ((h|⟨k,hk,h|h⟩)|⟨k,hk,h⟩)
  ·exact .inl (.inl (.inl h))
  ·obtain⟨n,hn,e⟩:=h3 k h
   exact .inl (.inl (.inr ⟨n,hn,e.symm⟩))
  ·obtain⟨n,hn,e⟩:=h4 k h
   exact .inl (.inr ⟨n,hn,e.symm⟩)
  exact .inr ⟨k,hk,h⟩
 rintro (((h|⟨k,hk,h⟩)|⟨k,hk,h⟩)|⟨k,hk,h⟩)
 ·exact .inl (.inl h)
 ·exact .inl (.inr ⟨k+1,by omega,.inl h.symm⟩)
 ·exact .inl (.inr ⟨k+1,by omega,.inr h.symm⟩)
 exact .inr ⟨k,hk,h⟩
open Go Go.Am
def pl (i j:Nat):PV:=.agg [.int .i64 i,.int .i64 j]
def Bm (i j:Nat):List Value:=[.int .i64 i,.int .i64 j]
def aR (ps:List (Nat×Nat))(D:Nat→Nat→Int):List (PV×PV):=ps.map fun p=>(pl p.1 p.2,.int .i64 (D p.1 p.2))
theorem zv0 (a b i j:Nat):lp (Bm a b) (Bm i j)=some (decide (a=i)&&decide (b=j)):=by
 simp only[Bm,lp,decide_true,aQ,Bool.and_true,Int.ofNat_inj]
theorem zud {l m:List Value}{ds:List PV}{v:PV}{r:List (PV×PV)}{s:Bool}{q:Option PV}(h1:ef ds=some m)(h2:lp l m=some s)(h3:mH l r=some q):mH l ((.agg ds,v)::r)=some (bif s then some v else q):=by
 simp only[mH,h1,h2,h3]
theorem xP (a b:Nat)(D:Nat→Nat→Int):∀ps:List (Nat×Nat),mH (Bm a b) (aR ps D)=some (if (a,b)∈ps then some (.int .i64 (D a b)) else none)
 |[]=>rfl
 |(i,j)::r=>by
  have hc:=zud (l:=Bm a b) (m:=Bm i j) (ds:=[.int .i64 i,.int .i64 j]) (v:=.int .i64 (D i j)) rfl (zv0 a b i j) (xP a b D r)
  refine Eq.trans hc ?_
  by_cases h1:a=i∧b=j
  ·obtain⟨rfl,rfl⟩:=h1
   simp
  have:(decide (a=i)&&decide (b=j))=false:=by
   rw[Bool.eq_false_iff];intro hh;rw[bW,decide_eq_true_eq,decide_eq_true_eq] at hh;exact h1 hh
  simp only[this,bx]
  have hm:(a,b)∈(i,j)::r↔(a,b)∈r:=by
   rw[List.mem_cons]
   constructor
   ·rintro (h|h)
    ·injection h with e1 e2;exact absurd ⟨e1,e2⟩ h1
    exact h
   exact .inr
  simp only[hm]
theorem xai (a b i j:Nat):vo (Bm a b) (pl i j)=(decide (a=i)&&decide (b=j)):=by
 have h:=zv0 a b i j
 unfold Bm at h ⊢
 simp only[vo,pl,ef,Option.map_some,h]
theorem Hw {a b:Nat}{D:Nat→Nat→Int}{ps:List (Nat×Nat)}(h:(a,b)∈ps)(v:Int):rO (Bm a b) [.int .i64 a,.int .i64 b] (.int .i64 v) (aR ps D)=some (aR ps (bh D a b v)):=by
 unfold rO
 rw[xP,if_pos h]
 simp only[aR,List.map_map]
 refine congrArg some (List.map_congr_left fun p _=>?_)
 simp only[Function.comp,Lz,xai,bh]
 by_cases h1:a=p.1∧b=p.2
 ·obtain⟨rfl,rfl⟩:=h1
  simp[pl]
 have h2:(decide (a=p.1)&&decide (b=p.2))=false:=by
  rw[Bool.eq_false_iff];intro hh;rw[bW,decide_eq_true_eq,decide_eq_true_eq] at hh;exact h1 hh
 rw[h2,bx,if_neg fun hh=>h1 ⟨hh.1.symm,hh.2.symm⟩]
theorem Hy {a b:Nat}{D:Nat→Nat→Int}{ps:List (Nat×Nat)}(h:(a,b)∉ps)(v:Int):rO (Bm a b) [.int .i64 a,.int .i64 b] (.int .i64 v) (aR ps D)=some (aR (ps++[(a,b)]) (bh D a b v)):=by
 unfold rO
 rw[xP,if_neg h]
 simp only[aR,List.map_append,List.map_cons,List.map_nil]
 refine congrArg some ?_
 congr 1
 ·refine List.map_congr_left fun p hp=>?_
  have h1:¬(p.1=a∧p.2=b):=fun hh=>h (by rw[← hh.1,← hh.2];exact hp)
  simp only[bh,if_neg h1]
 simp[bh,pl]
def lG (a b:Int):Int:=if a<b then -1 else if b<a then 1 else 0
def wU:List Int→Int
 |[]=>0
 |a::r=>if a=0 then wU r else a
def qD (a b:ak):Int:=wU [lG a.a b.a,lG a.i b.i,lG a.k b.k,lG a.l b.l,lG a.w b.w]
theorem z6g {l:List Int}{i:Nat}(h:i<l.length)(hz:∀x∈l.take i,x=0)(hn:l[i]≠0):wU l=l[i]:=by
 induction l generalizing i with
 |nil=>simp at h
 |cons a r ih=>
  cases i with
  |zero=>simp only[List.getElem_cons_zero] at hn ⊢;unfold wU;rw[if_neg hn]
  |succ i=>
   have ha:a=0:=hz a (by simp)
   simp only[List.getElem_cons_succ] at hn ⊢
   unfold wU
   rw[if_pos ha]
   exact ih (by simpa using h) (fun x hx=>hz x (by simp[hx])) hn
theorem z5m {l:List Int}(hz:∀x∈l,x=0):wU l=0:=by
 induction l with
 |nil=>rfl
 |cons a r ih=>unfold wU;rw[if_pos (hz a (by simp)),ih fun x hx=>hz x (by simp[hx])]
theorem xab {a b:Int}:lG a b<0↔a<b:=by unfold lG;split<;>(try split)<;>omega
theorem xfx {a b:Int}:lG a b=0↔a=b:=by unfold lG;split<;>(try split)<;>omega
theorem z7y {a:Int}{r:List Int}:wU (a::r)<0↔a<0∨(a=0∧wU r<0):=by
 rw[show wU (a::r)=if a=0 then wU r else a from rfl]
 split<;>omega
theorem xav {a b:ak}:qD a b<0↔a.lt b:=by
 unfold qD ak.lt
 simp only[z7y,xab,xfx]
 simp only[wU]
 omega
def HK (a b:ak):Bool:=!decide (b.lt a)
theorem z6k {l:List ak}(h:l.Pairwise ak.lt):l.mergeSort HK=l:=
 List.mergeSort_of_pairwise (h.imp fun {a b} lN=>by
  unfold HK
  rw[Bool.not_eq_true',decide_eq_false_iff_not]
  exact fun km=>ak.JV a (ak.lt_trans lN km))
end Go.Am.Sl
end
section
namespace Go.Am
abbrev bt:=List (Nat×aO)
theorem Er (j:Nat)(L:bt):∀S:bt,bq j (S++L)=match bq j S with|some x=>some x|none=>bq j L
 |[]=>rfl
 |(i,x)::r=>by
  simp only[List.cons_append,bq,beq_eq]
  by_cases h:j=i
  ·simp[h]
  simp[h];exact Er j L r
theorem xU {i:Nat}{x:aO}:∀ {L:bt},bq i L=none→cg i x L=L
 |[],_=>rfl
 |(j,y)::r,h=>by
  simp only[bq,beq_eq] at h
  by_cases gP:i=j
  ·simp[gP] at h
  simp only[gP,decide_false,bx] at h
  simp only[cg,beq_eq,gP,decide_false,bx,xU h]
theorem MZ {i:Nat}:∀ {L:bt},bq i L=none→gd i L=L
 |[],_=>rfl
 |(j,y)::r,h=>by
  simp only[bq,beq_eq] at h
  by_cases gP:i=j
  ·simp[gP] at h
  simp only[gP,decide_false,bx] at h
  simp only[gd,beq_eq,gP,decide_false,bx,MZ h]
theorem Tq (i:Nat)(L:bt):∀S:bt,gd i (S++L)=gd i S++gd i L
 |[]=>rfl
 |(j,y)::r=>by
  simp only[List.cons_append,gd,beq_eq]
  by_cases gP:i=j
  ·subst gP;simp;exact Tq i L r
  simp[gP];exact Tq i L r
def bV (L L':bt):Prop:=∀j y,bq j L=some y→bq j L'=some y
theorem bV.refl (L:bt):bV L L:=fun _ _ h=>h
theorem bV.nil (L:bt):bV [] L:=fun j y h=>by simp[bq] at h
theorem bV.cons {i:Nat}{x:aO}{r L:bt}(h:bq i L=some x)(hr:bV r L):bV ((i,x)::r) L:=fun j y hy=>by
 simp only[bq,beq_eq] at hy
 by_cases hj:j=i
 ·subst hj;simp at hy;subst hy;exact h
 simp[hj] at hy;exact hr j y hy
theorem bV.skip {i:Nat}{x:aO}{L T:bt}(h:bq i L=none)(hr:bV L T):bV L ((i,x)::T):=fun j y hy=>by
 simp only[bq,beq_eq]
 by_cases hj:j=i
 ·subst hj;rw[h] at hy;cases hy
 simp[hj];exact hr j y hy
theorem bV.drop {i:Nat}{L:bt}{vh:af}(h:bq i L=none)(hr:bV L vh.br):bV L (vh.drop i).br:=fun j y hy=>by
 show (vh.drop i).get j=some y
 rw[af.PB]
 by_cases hj:j=i
 ·subst hj;rw[h] at hy;cases hy
 simp[hj];exact hr j y hy
def me (n:Nat)(L L':bt):Prop:=∀j,j<n→bq j L=none→bq j L'=none
theorem me.refl (n:Nat)(L:bt):me n L L:=fun _ _ h=>h
theorem me.mono {n m:Nat}{L L':bt}(h:me m L L')(hn:n≤m):me n L L':=fun j hj=>h j (Nat.lt_of_lt_of_le hj hn)
theorem me.nil (n:Nat)(L:bt):me n L []:=fun _ _ _=>rfl
theorem me.jg {n i:Nat}{x y:aO}{L r:bt}(h:bq i L=some y)(hr:me n L r):me n L ((i,x)::r):=fun j hj hn=>by
 simp only[bq,beq_eq]
 by_cases kx:j=i
 ·subst kx;rw[h] at hn;cases hn
 simp[kx];exact hr j hj hn
theorem me.fresh {n i:Nat}{x:aO}{L r:bt}(h:n≤i)(hr:me n L r):me n L ((i,x)::r):=fun j hj hn=>by
 simp only[bq,beq_eq]
 by_cases kx:j=i
 ·omega
 simp[kx];exact hr j hj hn
def yc (S L:bt):Prop:=∀j x,bq j S=some x→x.live=true∧bq j L=none
theorem yc.nil (L:bt):yc [] L:=fun j x h=>by simp[bq] at h
theorem yc.cons {i:Nat}{x:aO}{S L:bt}(h1:x.live=true)(h2:bq i L=none)(h:yc S L):yc ((i,x)::S) L:=fun j y hy=>by
 simp only[bq,beq_eq] at hy
 by_cases hj:j=i
 ·subst hj;simp at hy;subst hy;exact⟨h1,h2⟩
 simp[hj] at hy;exact h j y hy
def lF (a b:bf):Prop:=∀t v,bC t a=some v→bC t b=some v
theorem lF.refl (a:bf):lF a a:=fun _ _ h=>h
theorem lF.nil (b:bf):lF [] b:=fun t v h=>by simp[bC] at h
theorem lF.cons {t:Nat}{v:PV}{r b:bf}(h:bC t b=some v)(hr:lF r b):lF ((t,v)::r) b:=fun u w hw=>by
 simp only[bC,beq_eq] at hw
 by_cases hj:u=t
 ·subst hj;simp at hw;subst hw;exact h
 simp[hj] at hw;exact hr u w hw
section
variable {P:Program} {N b:Nat} {Q Q':kU} {ah kv aF:bf} {vh cI aZ:af}
def Wk (b:Nat)(ah:bf)(vh:af)(aF:bf)(aZ:af):Prop:=∀(N lo:Nat) (g:Fz) (σ:Sg) (h:ai) (ts:aL),VT g σ vh.next ah ts→ts.length=N→VS lo g σ vh h→b≤vh.next→∃g2 eG,eS N b lo g σ vh h ts h g2 eG aF aZ
theorem Rec.wk (a:Rec b ah vh aF aZ):Wk b ah vh aF aZ:=by
 obtain⟨D,ρ,a⟩:=a
 exact fun N lo g σ h ts ht hn s hb=>⟨_,_,a.Ts ht hn s⟩
theorem Wk.trans (a:Wk b ah vh kv cI)(c:Wk b kv cI aF aZ):Wk b ah vh aF aZ:=fun N lo g σ h ts ht hn s hb=>by
 obtain⟨g1,s6,x⟩:=a N lo g σ h ts ht hn s hb
 obtain⟨g2,eG,y⟩:=c N lo g1 s6 h ts x.t x.len x.s x.base
 exact⟨g2,eG,x.trans y⟩
section
variable [bE]
theorem VW.wk {c:Code}(a:Wk b ah vh aF aZ)(hc:VW P N b c Q aF aZ):VW P N b c Q ah vh:=fun lo g σ h ts ht hn s hb=>by
 obtain⟨g2,eG,x⟩:=a N lo g σ h ts ht hn s hb
 exact(hc lo g2 eG h ts x.t x.len x.s x.base).mono fun e bo h' hk=>r8.trans x hk
theorem oh.wk {o:Oper}{next:bf→af→Prop}(a:Wk b ah vh aF aZ)(hc:oh P N b o next aF aZ):oh P N b o next ah vh:=fun lo g σ h ts ht hn s hb=>by
 obtain⟨g2,eG,x⟩:=a N lo g σ h ts ht hn s hb
 exact(hc lo g2 eG h ts x.t x.len x.s x.base).mono fun bo h' hk=>r8.trans x hk
end
theorem VS.tO {lo:Nat}{g:Fz}{σ:Sg}{h:ai}(s:VS lo g σ vh h)(hs:bV aZ.br vh.br)(hn:vh.next≤aZ.next):VS lo g σ aZ h:=
 ⟨fun j y hy=>⟨Nat.lt_of_lt_of_le (s.obj j y (hs j y hy)).1 hn,(s.obj j y (hs j y hy)).2.mono (Fz.le_refl g) hn (fun _ _=>rfl) (s.obj j y (hs j y hy)).1 fun _=>rfl⟩,fun j k y z hy hz=>s.inj j k y z (hs j y hy) (hs k z hz),fun j y hy=>s.low j y (hs j y hy),s.fz,fun j y hy=>s.l6 j y (hs j y hy),s.bX⟩
theorem eS.tO {lo:Nat}{g g2:Fz}{σ eG:Sg}{h h2:ai}{pY:aL}(x:eS N b lo g σ vh h pY h2 g2 eG kv cI)(ht:lF aF kv)(hs:bV aZ.br cI.br)(hn:cI.next≤aZ.next):eS N b lo g σ vh h pY h2 g2 eG aF aZ:=
 ⟨fun t v hv=>(x.t t v (ht t v hv)).mono (Fz.le_refl g2) hn (fun _ _=>rfl),x.len,x.s.tO hs hn,x.le,x.agree,⟨x.f.next,x.f.iN,fun i y hy hl a8=>x.f.own i y (hs i y hy) hl a8⟩,Nat.le_trans x.base hn,x.own⟩
theorem Wk.sub (ht:lF aF ah)(hs:bV aZ.br vh.br)(hn:vh.next≤aZ.next):Wk b ah vh aF aZ:=fun N lo g σ h ts h1 h2 s hb=>⟨g,σ,(eS.refl h1 h2 s hb).tO ht hs hn⟩
section
variable [bE]
theorem VW.post {c:Code}(hc:VW P N b c Q ah vh)(hq:∀e kv cI,Q e kv cI→∃aF aZ,lF aF kv∧bV aZ.br cI.br∧cI.next≤aZ.next∧Q' e aF aZ):VW P N b c Q' ah vh:=fun lo g σ h ts ht hn s hb=>
 (hc lo g σ h ts ht hn s hb).mono fun e bo h' ⟨g2,eG,kv,cI,x,k⟩=>by
  obtain⟨aF,aZ,k1,k2,k3,k4⟩:=hq e kv cI k
  exact⟨g2,eG,aF,aZ,x.tO k1 k2 k3,k4⟩
theorem eN.post {f:FuncId}{args:List PV}{R R':PV→af→Prop}(hc:eN P f args vh R)(hq:∀v cI,R v cI→∃aZ,bV aZ.br cI.br∧cI.next≤aZ.next∧R' v aZ):eN P f args vh R':=fun lo g σ h aH ha s=>
 (hc lo g σ h aH ha s).mono fun r h' ⟨g2,eG,v,cI,h1,h2,h3,h4,h5,h6,h7,h8⟩=>by
  obtain⟨aZ,k2,k3,k4⟩:=hq v cI h8
  exact⟨g2,eG,v,aZ,h1.mono (Fz.le_refl g2) k3 (fun _ _=>rfl),h2.tO k2 k3,h3,h4,⟨h5.next,h5.iN,fun i y hy hl a8=>h5.own i y (k2 i y hy) hl a8⟩,Nat.le_trans h6 k3,h7,k4⟩
theorem VW.JE {c:Code}{S:Type}(st:S→bf×af)(I:S→Prop)(m:S→Nat)(s0:S)(h0:I s0)(hr:Wk b ah vh (st s0).1 (st s0).2)
  (round:∀s,I s→VW P N b c (C0 (fun aY aq=>∃s',I s'∧m s'<m s∧Wk b aY aq (st s').1 (st s').2) Q) (st s).1 (st s).2):VW P N b (.loop c) Q ah vh:=
 .loop (fun k ah vh=>∃s,I s∧m s=k∧Wk b ah vh (st s).1 (st s).2) (m s0) ⟨s0,h0,rfl,hr⟩ fun k ah vh ⟨s,h1,h2,h3⟩=>by
  subst h2
  refine .wk h3 ((round s h1).mono fun e ah vh hq=>?_)
  cases e with
  |normal=>obtain⟨s',k1,k2,k3⟩:=hq;exact⟨m s',k2,s',k1,rfl,k3⟩
  |exit id=>exact hq
  |goto l=>exact hq
  |ret=>exact hq
  |panic ch=>exact hq
  |outgrown=>exact hq
theorem VW.VY {x y:Code}{S:Type}(st:S→bf×af)(I:S→Prop)
  (hx:VW P N b x (C0 (fun aY aq=>∃s',I s'∧Wk b aY aq (st s').1 (st s').2) Q) ah vh) (hy:∀s,I s→VW P N b y Q (st s).1 (st s).2):VW P N b (.seq x y) Q ah vh:=
 .seq (hx.mono fun e ah vh hq=>by
  cases e with
  |normal=>obtain⟨s',k1,k2⟩:=hq;exact .wk k2 (hy s' k1)
  |exit id=>exact hq
  |goto l=>exact hq
  |ret=>exact hq
  |panic ch=>exact hq
  |outgrown=>exact hq)
end
theorem VS.xe6 {lo:Nat}{g g':Fz}{σ aU:Sg}{h h':ai}{n:Nat}{S L:bt}(s:VS lo g σ ⟨n,S++L⟩ h)(hS:yc S L)(h2:VS lo g' aU cI h')(h3:g.le g')(h4:∀i,i<n→aU i=σ i)
  (h5:VF σ ⟨n,L⟩ h aU cI h') (h6:n≤cI.next) (h7:e9 g σ ⟨n,L⟩ h g'):VS lo g' aU ⟨cI.next,S++cI.br⟩ h'∧VF σ ⟨n,S++L⟩ h aU ⟨cI.next,S++cI.br⟩ h'∧e9 g σ ⟨n,S++L⟩ h g':=by
 have gS:∀j x,bq j S=some x→(⟨n,S++L⟩:af).get j=some x:=fun j x hj=>by
  show bq j (S++L)=_
  rw[Er,hj]
 have gL:∀j x,bq j L=some x→(⟨n,S++L⟩:af).get j=some x:=fun j x hj=>by
  show bq j (S++L)=_
  rw[Er]
  cases hs:bq j S with
  |none=>exact hj
  |some y=>rw[(hS j y hs).2] at hj;cases hj
 have g2:∀j,(⟨cI.next,S++cI.br⟩:af).get j=match bq j S with|some x=>some x|Option.none=>cI.get j:=fun j=>Er j _ S
 have lt:∀j x,bq j S=some x→(σ j).1<h.next∧j<n:=fun j x hj=>⟨(s.obj j x (gS j x hj)).2.lt (hS j x hj).1,(s.obj j x (gS j x hj)).1⟩
 have db:∀i x,bq i S=some x→∀j y,(⟨n,L⟩:af).get j=some y→y.live=true→(σ j).1≠(σ i).1:=fun i x hi j y hy kJ he=>by
  have:=s.inj j i y x (gL j y hy) (gS i x hi) kJ (hS i x hi).1 he
  subst this
  have h1:=(hS j x hi).2
  rw[show bq j L=some y from hy] at h1
  cases h1
 have dL:∀i x,bq i S=some x→h'.get (σ i).1=h.get (σ i).1:=fun i x hi=>h5.iN _ (lt i x hi).1 (db i x hi)
 have iK:∀i x,bq i S=some x→∀j z,cI.get j=some z→z.live=true→(aU j).1≠(σ i).1:=fun i x hi j z hz cz he=>by
  obtain⟨k,u,k1,k2,k3⟩:=h5.own j z hz cz (by rw[he];exact(lt i x hi).1)
  exact db i x hi k u k1 k2 (k3.trans he)
 refine⟨⟨fun j z hz=>?_,fun j k z u hz hu cz vq he=>?_,fun j z hz cz=>?_,h2.fz,fun j z hz cz=>?_,h2.bX⟩,⟨h5.next,fun o ho hn=>h5.iN o ho fun j y hy kJ=>hn j y (gL j y hy) kJ,fun j z hz cz qQ=>?_⟩,fun o z hz ho=>?_⟩
 ·rw[g2] at hz
  cases hs:bq j S with
  |some x=>
   rw[hs] at hz;injection hz with hz;subst hz
   exact⟨Nat.lt_of_lt_of_le (lt j x hs).2 h6,(s.obj j x (gS j x hs)).2.mono h3 h6 h4 (lt j x hs).2 fun _=>by rw[dL j x hs]⟩
  |none=>rw[hs] at hz;exact h2.obj j z hz
 ·rw[g2] at hz hu
  cases hs:bq j S with
  |some x=>
   rw[hs] at hz;injection hz with hz;subst hz
   cases gq:bq k S with
   |some y=>
    rw[gq] at hu;injection hu with hu;subst hu
    rw[h4 j (lt j x hs).2,h4 k (lt k y gq).2] at he
    exact s.inj j k x y (gS j x hs) (gS k y gq) cz vq he
   |none=>
    rw[gq] at hu
    exact absurd (he.symm.trans (by rw[h4 j (lt j x hs).2])) (iK j x hs k u hu vq)
  |none=>
   rw[hs] at hz
   cases gq:bq k S with
   |some y=>
    rw[gq] at hu;injection hu with hu;subst hu
    exact absurd (he.trans (by rw[h4 k (lt k y gq).2])) (iK k y gq j z hz cz)
   |none=>rw[gq] at hu;exact h2.inj j k z u hz hu cz vq he
 ·rw[g2] at hz
  cases hs:bq j S with
  |some x=>rw[hs] at hz;injection hz with hz;subst hz;rw[h4 j (lt j x hs).2];exact s.low j x (gS j x hs) cz
  |none=>rw[hs] at hz;exact h2.low j z hz cz
 ·rw[g2] at hz
  cases hs:bq j S with
  |some x=>
   rw[hs] at hz;injection hz with hz;subst hz
   rw[h4 j (lt j x hs).2]
   cases qW:g' (σ j).1 with
   |none=>rfl
   |some q=>
    rcases h7 _ q qW (lt j x hs).1 with A1|⟨k,u,k1,k2,k3⟩
    ·rw[s.l6 j x (gS j x hs) cz] at A1;cases A1
    exact absurd k3 (db j x hs k u k1 k2)
  |none=>rw[hs] at hz;exact h2.l6 j z hz cz
 ·rw[g2] at hz
  cases hs:bq j S with
  |some x=>rw[hs] at hz;injection hz with hz;subst hz;exact⟨j,x,gS j x hs,cz,by rw[h4 j (lt j x hs).2]⟩
  |none=>
   rw[hs] at hz
   obtain⟨k,u,k1,k2,k3⟩:=h5.own j z hz cz qQ
   exact⟨k,u,gL k u k1,k2,k3⟩
 rcases h7 o z hz ho with A1|⟨k,u,k1,k2,k3⟩
 ·exact .inl A1
 exact .inr ⟨k,u,gL k u k1,k2,k3⟩
theorem bV.right {S L:bt}(hS:yc S L):bV L (S++L):=fun j y hy=>by
 rw[Er]
 cases hs:bq j S with
 |none=>exact hy
 |some x=>rw[(hS j x hs).2] at hy;cases hy
section
variable [bE]
theorem eN.Qo {f:FuncId}{args:List PV}{R:PV→af→Prop}{n:Nat}{S L:bt}(hS:yc S L)(hc:eN P f args ⟨n,L⟩ R):eN P f args ⟨n,S++L⟩ fun v aq=>∃cI,R v cI∧aq=⟨cI.next,S++cI.br⟩:=fun lo g σ h aH ha s=>by
 refine(hc lo g σ h aH ha (s.tO (bV.right hS) (Nat.le_refl _))).mono fun r h' ⟨g',aU,v,cI,h1,h2,h3,h4,h5,h6,h7,h8⟩=>?_
 obtain⟨k1,k2,k3⟩:=s.xe6 hS h2 h3 h4 h5 h6 h7
 exact⟨g',aU,v,⟨cI.next,S++cI.br⟩,h1,k1,h3,h4,k2,h6,k3,cI,h8,rfl⟩
theorem eN.HE {f:FuncId}{args:List PV}{R:PV→af→Prop}{n:Nat}{L:bt}(hc:(∀j,n≤j→bq j L=none)→eN P f args ⟨n,L⟩ R):eN P f args ⟨n,L⟩ R:=fun lo g σ h aH ha s=>
 hc (fun q hq=>by
  cases hz:bq q L with
  |none=>rfl
  |some z=>have h1:=(s.obj q z hz).1;have h2:q<n:=h1;omega) lo g σ h aH ha s
theorem VW.HE {c:Code}{n:Nat}{L:bt}(hc:(∀j,n≤j→bq j L=none)→VW P N b c Q ah ⟨n,L⟩):VW P N b c Q ah ⟨n,L⟩:=fun lo g σ h ts ht hn s hb=>
 hc (fun q hq=>by
  cases hz:bq q L with
  |none=>rfl
  |some z=>have h1:=(s.obj q z hz).1;have h2:q<n:=h1;omega) lo g σ h ts ht hn s hb
end
theorem y4 {i j:Nat}{x:aO}{r:bt}(h:bq j ((i,x)::r)=none):bq j r=none:=by
 simp only[bq,beq_eq] at h
 by_cases hj:j=i
 ·simp[hj] at h
 simpa[hj] using h
abbrev JM:=Option (Option Nat)
def JM.code:JM→Option Code
 |Option.none=>Option.none
 |some Option.none=>some .ret
 |some (some id)=>some (.exit id)
variable [bE] in
@[simp] theorem JM.zu2 (j:JM):(JM.code j).isNone=j.isNone:=by rcases j with _|_|id<;>rfl
def Jmp:Exit→Option JM
 |.normal=>some Option.none
 |.ret=>some (some Option.none)
 |.exit id=>some (some (some id))
 |_=>Option.none
section
variable [bE]
def FF (P:Program)(N0:Nat)(ps:Array Tmp)(eh body:Code)(ed:bf)(n:Nat)(L:bt)(v:PV)(K:JM→Nat→bt→Prop):Prop:=
 VW P N0 n eh (C0 (VW P N0 n body fun e _ aq=>∃j L',Jmp e=some j∧bV L' aq.br∧me n L L'∧K j aq.next L') fun _ _ _=>False) (jD ed (ps.toList.zip [v])) ⟨n,L⟩
def M6 (P:Program)(f:FuncId)(args:List PV)(n:Nat)(L:bt)(K:PV→Nat→bt→Prop):Prop:=eN P f args ⟨n,L⟩ fun v aq=>∃L',bV L' aq.br∧n≤aq.next∧me n L L'∧K v aq.next L'
theorem M6.Qo {f:FuncId}{args:List PV}{n:Nat}{S L:bt}{K:PV→Nat→bt→Prop}(hS:yc S L)(hc:M6 P f args n L K):eN P f args ⟨n,S++L⟩ fun v aq=>∃n' L',n≤n'∧me n L L'∧K v n' L'∧aq=⟨n',S++L'⟩:=by
 refine(eN.Qo hS hc).post fun v cI ⟨aZ,⟨L',h1,h0,wS,h2⟩,h3⟩=>⟨⟨aZ.next,S++L'⟩,?_,by rw[h3];exact Nat.le_refl _,_,L',h0,wS,h2,rfl⟩
 subst h3
 intro j y hy
 rw[show (⟨aZ.next,S++L'⟩:af).br=S++L' from rfl,Er] at hy
 show bq j (S++aZ.br)=some y
 rw[Er]
 cases hs:bq j S with
 |some x=>rw[hs] at hy;exact hy
 |none=>rw[hs] at hy;exact h1 j y hy
theorem oh.VX {o:Oper}{fo:Operand}{args:Array Operand}{aT:Array TypeId}{i N0 n:Nat}{ps:Array Tmp}{eh body:Code}{ed:bf}{v:PV}{S L:bt}{K:JM→Nat→bt→Prop}{next:bf→af→Prop}(ho:o.op=.call ⟨.value fo,args,aT⟩)
  (hf:ct ah fo=some (.cm i)) (hl:gf ah args.toList=some [v]) (hi:bq i S=some (.loop N0 ps eh body ed none)) (hlen:1=ps.size) (iG:ps.toList.all (Nat.blt · N0)=true) (hd:jH N o.dst=true)
  (hS:yc S L) (hY:FF P N0 ps eh body ed n L v K)
  (hk:∀(j:JM) n' L',n≤n'→me n L L'→(∀i,n'≤i→bq i L'=none)→K j n' L'→next (bA ah o.dst (.bool j.isNone)) ⟨n',(i,.loop N0 ps eh body ed j.code)::(gd i S++L')⟩):oh P N b o next ah ⟨n,S++L⟩:=by
 have hiL:bq i L=none:=(hS i _ hi).2
 have P3:∀j x,bq j (gd i S)=some x→x.live=true∧bq j L=Option.none:=fun j x hj=>by
  rw[PA] at hj
  by_cases h:j=i
  ·simp[h] at hj
  simp[h] at hj;exact hS j x hj
 have hvd:((⟨n,S++L⟩:af).drop i)=⟨n,gd i S++L⟩:=by unfold af.drop;rw[Tq,MZ hiL]
 intro lo g σ h ts ht hn s hb
 obtain⟨f',k1,k2⟩:=fX ht hf
 obtain⟨l',k3,k4⟩:=BY ht hl
 have hg:(⟨n,S++L⟩:af).get i=some (.loop N0 ps eh body ed none):=by show bq i (S++L)=_;rw[Er,hi]
 obtain⟨dC,Lp,q1,q2,q3,q4,q5,q6⟩:=s.obj i _ hg
 have LA:f'=.func (.yield (σ i).1) #[] #[]:=by
  cases k2 with
  |fr _ _ h=>cases h
  |cm _ o a k dB hs=>rw[hs]
 subst LA
 subst q2;subst q3;subst q4
 have da:aO.live (.loop N0 Lp.params Lp.assign Lp.body ed none)=true:=rfl
 obtain⟨sk,_⟩:=s.kill hg da
 rw[hvd] at sk
 have ji:∀t∈Lp.params.toList,t<Lp.ts.length:=fun t I3=>by
  rw[List.all_eq_true] at iG
  rw[q5];simpa using iG t I3
 obtain⟨e1,e2⟩:=Tt (g:=g) (σ:=σ) (n:=n) (ps:=Lp.params.toList) q6 k4 ji
 refine .yield ho k1 k3 q1 (s.low i _ hg da) (by rw[← k4.1];simpa using hlen) ?_
 have run:=hY lo g σ (h.put (σ i).1 none) _ e1 (e2.trans q5) (sk.tO (aZ:=⟨n,L⟩) (bV.right P3) (Nat.le_refl _)) (Nat.le_refl _)
 have fin:∀(jump:JM) (pY:aL) (h2:ai) (g2:Fz) (eG:Sg) (aF:bf) (aZ:af) (L':bt),eS N0 n lo g σ ⟨n,L⟩ (h.put (σ i).1 none) pY h2 g2 eG aF aZ→bV L' aZ.br→me n L L'→K jump aZ.next L'→
   r8 N b lo g σ ⟨n,S++L⟩ h next (bN ts o.dst (.bool jump.code.isNone)) (h2.put (σ i).1 (some (.loop Lp jump.code))):=by
  intro jump pY h2 g2 eG aF aZ L' a sN ju hK
  have a':=a.tO (aF:=aF) (aZ:=⟨aZ.next,L'⟩) (lF.refl _) sN (Nat.le_refl _)
  have tS:∀q,aZ.next≤q→bq q L'=Option.none:=fun q hq=>by
   cases hz:bq q L' with
   |none=>rfl
   |some z=>have h1:=(a'.s.obj q z hz).1;have h2:q<aZ.next:=h1;omega
  obtain⟨z1,z2,z3⟩:=sk.xe6 P3 a'.s a'.le a'.agree a'.f a'.base a'.own
  have a2:eS N0 n lo g σ ⟨n,gd i S++L⟩ (h.put (σ i).1 none) pY h2 g2 eG aF ⟨aZ.next,gd i S++L'⟩:=⟨a'.t,a'.len,z1,a'.le,a'.agree,z2,a'.base,z3⟩
  rw[← hvd] at a2
  have cW:eG i=σ i:=a.agree i dC
  have qQ:(σ i).1<h2.next:=Nat.lt_of_lt_of_le ((s.obj i _ hg).2.lt da) a.f.next
  obtain⟨r1,r2,r3⟩:=eS.back (x':=.loop N0 Lp.params Lp.assign Lp.body ed jump.code) (y:=.loop Lp jump.code) s hg da a2 ⟨Lp,by rw[cW,ai.eT _ _ _ _ qQ];simp,rfl,rfl,rfl,q5,q6.mono a.le a.base a.agree⟩
  obtain⟨t1,t2⟩:=vt a.le a.base a.agree ht o.dst (hn▸hd) (.fr _ _ (.bool jump.code.isNone):VR g2 eG aZ.next (.bool jump.code.isNone) (.bool jump.code.isNone))
  exact⟨g2,eG,_,(⟨aZ.next,gd i S++L'⟩:af).back i (.loop N0 Lp.params Lp.assign Lp.body ed jump.code),⟨t1,t2.trans hn,r1,a.le,fun j hj=>a.agree j (Nat.lt_of_lt_of_le hj hb),r2,Nat.le_trans hb a.base,r3⟩,by have:=hk jump _ _ a.base ju tS hK;rw[← JM.zu2] at this;exact this⟩
 refine run.mono fun e mC h1 hs=>?_
 cases e with
 |normal=>
  obtain⟨g1,s6,kv,cI,a1,hW⟩:=hs
  refine(hW lo g1 s6 h1 mC a1.t a1.len a1.s a1.base).mono fun e pY h2 gq=>?_
  obtain⟨g2,eG,aF,aZ,a2,j,L',h3,h4,Tu,h5⟩:=gq
  cases e with
  |normal=>cases h3;exact fin Option.none _ _ _ _ _ _ _ (a1.trans a2) h4 Tu h5
  |ret=>cases h3;exact fin (some Option.none) _ _ _ _ _ _ _ (a1.trans a2) h4 Tu h5
  |exit id=>cases h3;exact fin (some (some id)) _ _ _ _ _ _ _ (a1.trans a2) h4 Tu h5
  |goto l=>cases h3
  |panic ch=>cases h3
  |outgrown=>cases h3
 |exit id=>obtain⟨_,_,_,_,_,hk⟩:=hs;exact hk.elim
 |goto l=>obtain⟨_,_,_,_,_,hk⟩:=hs;exact hk.elim
 |ret=>obtain⟨_,_,_,_,_,hk⟩:=hs;exact hk.elim
 |panic ch=>obtain⟨_,_,_,_,_,hk⟩:=hs;exact hk.elim
 |outgrown=>obtain⟨_,_,_,_,_,hk⟩:=hs;exact hk.elim
end
def nL (i N:Nat)(ps:Array Tmp)(eh body:Code)(ah:bf)(R:JM→Nat→bt→Prop):kU:=fun e _ aq=>(e=.normal∨e=.ret)∧∃(jm:JM) (L:bt),bV ((i,.loop N ps eh body ah jm.code)::L) aq.br∧bq i L=none∧R jm aq.next L
theorem nL.mk {i N:Nat}{ps:Array Tmp}{eh body:Code}{ah aY:bf}{R:JM→Nat→bt→Prop}{e:Exit}{aq:af}(he:e=.normal∨e=.ret)(jm:JM)(L:bt)(h1:bV ((i,.loop N ps eh body ah jm.code)::L) aq.br)(h2:bq i L=none)(h3:R jm aq.next L):nL i N ps eh body ah R e aY aq:=⟨he,jm,L,h1,h2,h3⟩
variable [bE] in
theorem VW.Qg {i N' b':Nat}{ps:Array Tmp}{eh body c:Code}{aY:bf}{R:JM→Nat→bt→Prop}(hN:∀n L,R none n L→Q .normal ah ⟨n,L⟩)(hR:∀n L,R (some none) n L→Q .ret ah ⟨n,L⟩)(hX:∀id n L,R (some (some id)) n L→Q (.exit id) ah ⟨n,L⟩)
  (hc:VW P N' b' c (nL i N ps eh body ah R) aY vh):VW P N' b' c (z8p i ah Q) aY vh:=hc.post fun e kv cI ⟨he,jm,L,h1,h2,h3⟩=>by
 refine⟨kv,⟨cI.next,(i,.loop N ps eh body ah jm.code)::L⟩,lF.refl _,h1,Nat.le_refl _,?_⟩
 have hg:(⟨cI.next,(i,.loop N ps eh body ah jm.code)::L⟩:af).get i=some (.loop N ps eh body ah jm.code):=by show bq i _=_;simp[bq,beq_eq]
 have Ih:(⟨cI.next,(i,.loop N ps eh body ah jm.code)::L⟩:af).drop i=⟨cI.next,L⟩:=by unfold af.drop;simp only[gd,beq_eq,decide_true,aQ,MZ h2]
 have key:oV i ah Q ⟨cI.next,(i,.loop N ps eh body ah jm.code)::L⟩:=by
  rcases jm with _|_|id
  ·exact FD hg (Ih▸hN _ _ h3)
  ·exact DO hg (Ih▸hR _ _ h3)
  exact xan hg (Ih▸hX _ _ _ h3)
 rcases he with rfl|rfl
 ·exact key
 exact key
end
end Go.Am
end
