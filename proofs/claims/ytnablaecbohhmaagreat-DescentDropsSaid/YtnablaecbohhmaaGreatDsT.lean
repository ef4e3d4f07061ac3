/-
  What is used in the proof of a statement (part DsT); no condition.
-/
import Derived.Test.YtnablaecbohhmaaGreatProg
import Derived.Test.YtnablaecbohhmaaGreatAm2
import Derived.Test.YtnablaecbohhmaaGreatAm3
import Derived.Test.YtnablaecbohhmaaGreatVm1
import Derived.Test.YtnablaecbohhmaaGreatVm2
set_option linter.all false
section
namespace Go.Am.Ds
open Go Go.Am Go.Proofs
set_option maxRecDepth 100000
def dd22 : List (Nat × DD) := []
theorem ok22 : FEOK Tryz.prog (22, feOf Tryz.f22 dd22) := ⟨Tryz.func22, rfl, by decide +kernel, Tryz.call22⟩
def dd23 : List (Nat × DD) := []
theorem ok23 : FEOK Tryz.prog (23, feOf Tryz.f23 dd23) := ⟨Tryz.func23, rfl, by decide +kernel, Tryz.call23⟩
def dd24 : List (Nat × DD) := [(10, ⟨[0,0,0,0,8,28,0,0,128,508,0,0,2048,8188,16383,32767,65535,131071],[5,9,13,15],[],[.op 0, .op 1, .op 2, .op 3, .op 4, .op 6, .op 7, .op 8, .op 10, .op 11, .op 12, .op 5, .ck 12, .ck 8, .op 9, .ck 12, .op 13, .op 14, .op 15, .op 16, .op 17]⟩)]
theorem ok24 : FEOK Tryz.prog (24, feOf Tryz.f24 dd24) := ⟨Tryz.func24, rfl, by decide +kernel, Tryz.call24⟩
def dd28 : List (Nat × DD) := []
theorem ok28 : FEOK Tryz.prog (28, feOf Tryz.f28 dd28) := ⟨Tryz.func28, rfl, by decide +kernel, Tryz.call28⟩
def dd30 : List (Nat × DD) := [(8, ⟨[0,0,2,0,14,30,63],[6],[],[.op 0, .op 1, .op 2, .op 3, .op 4, .op 5, .op 6]⟩)]
theorem ok30 : FEOK Tryz.prog (30, feOf Tryz.f30 dd30) := ⟨Tryz.func30, rfl, by decide +kernel, Tryz.call30⟩
def dd32 : List (Nat × DD) := [(10, ⟨[0,0,3,7,0,0,0,64,231,503,1015,2039,4095,8191,16383],[2,8],[],[.op 0, .op 1, .op 4, .op 5, .op 6, .op 7, .op 2, .ck 7, .ck 5, .op 3, .op 8, .ck 3, .op 9, .op 10, .op 11, .op 12, .op 13, .op 14]⟩)]
theorem ok32 : FEOK Tryz.prog (32, feOf Tryz.f32 dd32) := ⟨Tryz.func32, rfl, by decide +kernel, Tryz.call32⟩
def dd34 : List (Nat × DD) := [(6, ⟨[0,0,3,7,0,0,48,112,255],[],[],[.op 0, .op 1, .op 2, .op 3, .op 4, .op 5, .op 6, .op 7, .op 8]⟩)]
theorem ok34 : FEOK Tryz.prog (34, feOf Tryz.f34 dd34) := ⟨Tryz.func34, rfl, by decide +kernel, Tryz.call34⟩
def dd35 : List (Nat × DD) := []
theorem ok35 : FEOK Tryz.prog (35, feOf Tryz.f35 dd35) := ⟨Tryz.func35, rfl, by decide +kernel, Tryz.call35⟩
def dd36 : List (Nat × DD) := []
theorem ok36 : FEOK Tryz.prog (36, feOf Tryz.f36 dd36) := ⟨Tryz.func36, rfl, by decide +kernel, Tryz.call36⟩
def dd42 : List (Nat × DD) := []
theorem ok42 : FEOK Tryz.prog (42, feOf Tryz.f42 dd42) := ⟨Tryz.func42, rfl, by decide +kernel, Tryz.call42⟩
def dd44 : List (Nat × DD) := []
theorem ok44 : FEOK Tryz.prog (44, feOf Tryz.f44 dd44) := ⟨Tryz.func44, rfl, by decide +kernel, Tryz.call44⟩
def dd52 : List (Nat × DD) := [(12, ⟨[0,1,0,7,15,31,0,64,0,448,960,1984,4095],[],[],[.op 0, .op 1, .op 2, .op 3, .op 4, .op 5, .op 6, .op 7, .op 8, .op 9, .op 10, .op 11, .op 12]⟩)]
theorem ok52 : FEOK Tryz.prog (52, feOf Tryz.f52 dd52) := ⟨Tryz.func52, rfl, by decide +kernel, Tryz.call52⟩
def dd55 : List (Nat × DD) := []
theorem ok55 : FEOK Tryz.prog (55, feOf Tryz.f55 dd55) := ⟨Tryz.func55, rfl, by decide +kernel, Tryz.call55⟩
def dd63 : List (Nat × DD) := [(8, ⟨[0,1,0,4,12,28,60,127,255,511],[6,7,9],[],[.op 0, .op 1, .op 2, .op 3, .op 4, .op 5, .op 6, .ck 1, .op 7, .op 8, .op 9]⟩)]
theorem ok63 : FEOK Tryz.prog (63, feOf Tryz.f63 dd63) := ⟨Tryz.func63, rfl, by decide +kernel, Tryz.call63⟩
def dd65 : List (Nat × DD) := [(6, ⟨[0,0,3,7,0,0,48,112,255],[],[],[.op 0, .op 1, .op 2, .op 3, .op 4, .op 5, .op 6, .op 7, .op 8]⟩)]
theorem ok65 : FEOK Tryz.prog (65, feOf Tryz.f65 dd65) := ⟨Tryz.func65, rfl, by decide +kernel, Tryz.call65⟩
def dd66 : List (Nat × DD) := []
theorem ok66 : FEOK Tryz.prog (66, feOf Tryz.f66 dd66) := ⟨Tryz.func66, rfl, by decide +kernel, Tryz.call66⟩
def dd67 : List (Nat × DD) := []
theorem ok67 : FEOK Tryz.prog (67, feOf Tryz.f67 dd67) := ⟨Tryz.func67, rfl, by decide +kernel, Tryz.call67⟩
def dd81 : List (Nat × DD) := []
theorem ok81 : FEOK Tryz.prog (81, feOf Tryz.f81 dd81) := ⟨Tryz.func81, rfl, by decide +kernel, Tryz.call81⟩
def dd82 : List (Nat × DD) := []
theorem ok82 : FEOK Tryz.prog (82, feOf Tryz.f82 dd82) := ⟨Tryz.func82, rfl, by decide +kernel, Tryz.call82⟩
def dd85 : List (Nat × DD) := []
theorem ok85 : FEOK Tryz.prog (85, feOf Tryz.f85 dd85) := ⟨Tryz.func85, rfl, by decide +kernel, Tryz.call85⟩
def dd92 : List (Nat × DD) := []
theorem ok92 : FEOK Tryz.prog (92, feOf Tryz.f92 dd92) := ⟨Tryz.func92, rfl, by decide +kernel, Tryz.call92⟩
def dd93 : List (Nat × DD) := []
theorem ok93 : FEOK Tryz.prog (93, feOf Tryz.f93 dd93) := ⟨Tryz.func93, rfl, by decide +kernel, Tryz.call93⟩
def dd94 : List (Nat × DD) := [(9, ⟨[0,0,3,0,8,31,63],[6],[],[.op 0, .op 1, .op 2, .op 3, .op 4, .op 5, .op 6]⟩)]
theorem ok94 : FEOK Tryz.prog (94, feOf Tryz.f94 dd94) := ⟨Tryz.func94, rfl, by decide +kernel, Tryz.call94⟩
def dd95 : List (Nat × DD) := []
theorem ok95 : FEOK Tryz.prog (95, feOf Tryz.f95 dd95) := ⟨Tryz.func95, rfl, by decide +kernel, Tryz.call95⟩
def dd96 : List (Nat × DD) := [(2, ⟨[0,0,2,6,14,30,62,126,254,510,1022,2046,4094,8190,1023,32767],[14],[],[.op 0, .op 1, .op 2, .op 3, .op 4, .op 5, .op 6, .op 7, .op 8, .op 9, .op 10, .op 11, .op 12, .op 13, .op 14, .ck 11, .op 15]⟩)]
theorem ok96 : FEOK Tryz.prog (96, feOf Tryz.f96 dd96) := ⟨Tryz.func96, rfl, by decide +kernel, Tryz.call96⟩
def dd97 : List (Nat × DD) := []
theorem ok97 : FEOK Tryz.prog (97, feOf Tryz.f97 dd97) := ⟨Tryz.func97, rfl, by decide +kernel, Tryz.call97⟩
def dd98 : List (Nat × DD) := []
theorem ok98 : FEOK Tryz.prog (98, feOf Tryz.f98 dd98) := ⟨Tryz.func98, rfl, by decide +kernel, Tryz.call98⟩
def dd99 : List (Nat × DD) := []
theorem ok99 : FEOK Tryz.prog (99, feOf Tryz.f99 dd99) := ⟨Tryz.func99, rfl, by decide +kernel, Tryz.call99⟩
def dd100 : List (Nat × DD) := [(4, ⟨[0,0,2,7,0,0,32,127,255,511],[3,7],[],[.op 0, .op 1, .op 2, .op 4, .op 5, .op 6, .op 3, .ck 6, .ck 4, .op 7, .op 8, .op 9]⟩),(9, ⟨[0,1,0,7,15,0,32,0,224,31,1023,2047],[9],[],[.op 0, .op 1, .op 2, .op 3, .op 4, .op 5, .op 6, .op 7, .op 8, .op 9, .ck 6, .op 10, .op 11]⟩)]
theorem ok100 : FEOK Tryz.prog (100, feOf Tryz.f100 dd100) := ⟨Tryz.func100, rfl, by decide +kernel, Tryz.call100⟩
def dd101 : List (Nat × DD) := [(6, ⟨[0,1,3,7,15,0,32,96,255],[],[],[.op 0, .op 1, .op 2, .op 3, .op 4, .op 5, .op 6, .op 7, .op 8]⟩)]
theorem ok101 : FEOK Tryz.prog (101, feOf Tryz.f101 dd101) := ⟨Tryz.func101, rfl, by decide +kernel, Tryz.call101⟩
def dd105 : List (Nat × DD) := []
theorem ok105 : FEOK Tryz.prog (105, feOf Tryz.f105 dd105) := ⟨Tryz.func105, rfl, by decide +kernel, Tryz.call105⟩
def dd106 : List (Nat × DD) := []
theorem ok106 : FEOK Tryz.prog (106, feOf Tryz.f106 dd106) := ⟨Tryz.func106, rfl, by decide +kernel, Tryz.call106⟩
def dd108 : List (Nat × DD) := []
theorem ok108 : FEOK Tryz.prog (108, feOf Tryz.f108 dd108) := ⟨Tryz.func108, rfl, by decide +kernel, Tryz.call108⟩
def dd109 : List (Nat × DD) := []
theorem ok109 : FEOK Tryz.prog (109, feOf Tryz.f109 dd109) := ⟨Tryz.func109, rfl, by decide +kernel, Tryz.call109⟩
def dd113 : List (Nat × DD) := []
theorem ok113 : FEOK Tryz.prog (113, feOf Tryz.f113 dd113) := ⟨Tryz.func113, rfl, by decide +kernel, Tryz.call113⟩
def dd114 : List (Nat × DD) := []
theorem ok114 : FEOK Tryz.prog (114, feOf Tryz.f114 dd114) := ⟨Tryz.func114, rfl, by decide +kernel, Tryz.call114⟩
def dd115 : List (Nat × DD) := []
theorem ok115 : FEOK Tryz.prog (115, feOf Tryz.f115 dd115) := ⟨Tryz.func115, rfl, by decide +kernel, Tryz.call115⟩
def dd116 : List (Nat × DD) := []
theorem ok116 : FEOK Tryz.prog (116, feOf Tryz.f116 dd116) := ⟨Tryz.func116, rfl, by decide +kernel, Tryz.call116⟩
def dd117 : List (Nat × DD) := [(6, ⟨[0,1,3,0,8,31,0,64,255,223,1023,2047,4095,8191,16383],[2,5,8,10,12,14],[],[.op 0, .op 1, .op 3, .op 4, .op 6, .op 7, .op 2, .ck 7, .ck 4, .op 9, .op 5, .ck 7, .op 8, .op 10, .op 11, .op 12, .op 13, .op 14]⟩)]
theorem ok117 : FEOK Tryz.prog (117, feOf Tryz.f117 dd117) := ⟨Tryz.func117, rfl, by decide +kernel, Tryz.call117⟩
def dd118 : List (Nat × DD) := []
theorem ok118 : FEOK Tryz.prog (118, feOf Tryz.f118 dd118) := ⟨Tryz.func118, rfl, by decide +kernel, Tryz.call118⟩
def dd120 : List (Nat × DD) := []
theorem ok120 : FEOK Tryz.prog (120, feOf Tryz.f120 dd120) := ⟨Tryz.func120, rfl, by decide +kernel, Tryz.call120⟩
def dd121 : List (Nat × DD) := []
theorem ok121 : FEOK Tryz.prog (121, feOf Tryz.f121 dd121) := ⟨Tryz.func121, rfl, by decide +kernel, Tryz.call121⟩
def dd122 : List (Nat × DD) := []
theorem ok122 : FEOK Tryz.prog (122, feOf Tryz.f122 dd122) := ⟨Tryz.func122, rfl, by decide +kernel, Tryz.call122⟩
def dd123 : List (Nat × DD) := []
theorem ok123 : FEOK Tryz.prog (123, feOf Tryz.f123 dd123) := ⟨Tryz.func123, rfl, by decide +kernel, Tryz.call123⟩
def dd125 : List (Nat × DD) := []
theorem ok125 : FEOK Tryz.prog (125, feOf Tryz.f125 dd125) := ⟨Tryz.func125, rfl, by decide +kernel, Tryz.call125⟩
def dd126 : List (Nat × DD) := []
theorem ok126 : FEOK Tryz.prog (126, feOf Tryz.f126 dd126) := ⟨Tryz.func126, rfl, by decide +kernel, Tryz.call126⟩
def dd127 : List (Nat × DD) := []
theorem ok127 : FEOK Tryz.prog (127, feOf Tryz.f127 dd127) := ⟨Tryz.func127, rfl, by decide +kernel, Tryz.call127⟩
def dd130 : List (Nat × DD) := [(16, ⟨[0,1,0,4,0,28,60,127,255],[7],[],[.op 0, .op 1, .op 2, .op 3, .op 4, .op 5, .op 6, .op 7, .op 8]⟩)]
theorem ok130 : FEOK Tryz.prog (130, feOf Tryz.f130 dd130) := ⟨Tryz.func130, rfl, by decide +kernel, Tryz.call130⟩
def dd134 : List (Nat × DD) := []
theorem ok134 : FEOK Tryz.prog (134, feOf Tryz.f134 dd134) := ⟨Tryz.func134, rfl, by decide +kernel, Tryz.call134⟩
def dd140 : List (Nat × DD) := [(10, ⟨[0,1,0,7,15,0,0,96,255,0,1023],[7,8,10],[],[.op 0, .op 1, .op 2, .op 3, .op 4, .op 5, .op 6, .op 9, .op 7, .ck 4, .ck 1, .op 8, .op 10]⟩)]
theorem ok140 : FEOK Tryz.prog (140, feOf Tryz.f140 dd140) := ⟨Tryz.func140, rfl, by decide +kernel, Tryz.call140⟩
def dd144 : List (Nat × DD) := []
theorem ok144 : FEOK Tryz.prog (144, feOf Tryz.f144 dd144) := ⟨Tryz.func144, rfl, by decide +kernel, Tryz.call144⟩
def dd147 : List (Nat × DD) := [(6, ⟨[0,0,0,6,15,0,32,127,0,0,768,2047,4095],[0,4,7,11],[6],[.op 1, .op 2, .op 3, .op 5, .op 6, .op 8, .op 9, .op 10, .op 0, .op 4, .op 7, .op 11, .op 12]⟩)]
theorem ok147 : FEOK Tryz.prog (147, feOf Tryz.f147 dd147) := ⟨Tryz.func147, rfl, by decide +kernel, Tryz.call147⟩
def dd148 : List (Nat × DD) := [(22, ⟨[0,1,0,7,15,31,0,64,192,448,1023],[7,8,9,10],[],[.op 0, .op 1, .op 2, .op 3, .op 4, .op 5, .op 6, .op 7, .ck 5, .ck 1, .op 8, .ck 5, .ck 1, .op 9, .ck 5, .ck 1, .op 10]⟩)]
theorem ok148 : FEOK Tryz.prog (148, feOf Tryz.f148 dd148) := ⟨Tryz.func148, rfl, by decide +kernel, Tryz.call148⟩
def dd150 : List (Nat × DD) := []
theorem ok150 : FEOK Tryz.prog (150, feOf Tryz.f150 dd150) := ⟨Tryz.func150, rfl, by decide +kernel, Tryz.call150⟩
def dd152 : List (Nat × DD) := [(15, ⟨[0,0,0,6,14,31,63],[5],[],[.op 0, .op 1, .op 2, .op 3, .op 4, .op 5, .op 6]⟩)]
theorem ok152 : FEOK Tryz.prog (152, feOf Tryz.f152 dd152) := ⟨Tryz.func152, rfl, by decide +kernel, Tryz.call152⟩
def dd158 : List (Nat × DD) := []
theorem ok158 : FEOK Tryz.prog (158, feOf Tryz.f158 dd158) := ⟨Tryz.func158, rfl, by decide +kernel, Tryz.call158⟩
def dd159 : List (Nat × DD) := []
theorem ok159 : FEOK Tryz.prog (159, feOf Tryz.f159 dd159) := ⟨Tryz.func159, rfl, by decide +kernel, Tryz.call159⟩
def dd160 : List (Nat × DD) := []
theorem ok160 : FEOK Tryz.prog (160, feOf Tryz.f160 dd160) := ⟨Tryz.func160, rfl, by decide +kernel, Tryz.call160⟩
def dd161 : List (Nat × DD) := []
theorem ok161 : FEOK Tryz.prog (161, feOf Tryz.f161 dd161) := ⟨Tryz.func161, rfl, by decide +kernel, Tryz.call161⟩
def dd162 : List (Nat × DD) := []
theorem ok162 : FEOK Tryz.prog (162, feOf Tryz.f162 dd162) := ⟨Tryz.func162, rfl, by decide +kernel, Tryz.call162⟩
def dd163 : List (Nat × DD) := []
theorem ok163 : FEOK Tryz.prog (163, feOf Tryz.f163 dd163) := ⟨Tryz.func163, rfl, by decide +kernel, Tryz.call163⟩
def dd164 : List (Nat × DD) := []
theorem ok164 : FEOK Tryz.prog (164, feOf Tryz.f164 dd164) := ⟨Tryz.func164, rfl, by decide +kernel, Tryz.call164⟩
def dd165 : List (Nat × DD) := []
theorem ok165 : FEOK Tryz.prog (165, feOf Tryz.f165 dd165) := ⟨Tryz.func165, rfl, by decide +kernel, Tryz.call165⟩
def dd166 : List (Nat × DD) := [(5, ⟨[0,1,0,0,12,31,63,0,255],[4,8],[7],[.op 0, .op 1, .op 2, .op 3, .op 7, .op 4, .ck 1, .op 5, .op 6, .op 8]⟩)]
theorem ok166 : FEOK Tryz.prog (166, feOf Tryz.f166 dd166) := ⟨Tryz.func166, rfl, by decide +kernel, Tryz.call166⟩
def dd167 : List (Nat × DD) := []
theorem ok167 : FEOK Tryz.prog (167, feOf Tryz.f167 dd167) := ⟨Tryz.func167, rfl, by decide +kernel, Tryz.call167⟩
def dd168 : List (Nat × DD) := []
theorem ok168 : FEOK Tryz.prog (168, feOf Tryz.f168 dd168) := ⟨Tryz.func168, rfl, by decide +kernel, Tryz.call168⟩
def dd169 : List (Nat × DD) := []
theorem ok169 : FEOK Tryz.prog (169, feOf Tryz.f169 dd169) := ⟨Tryz.func169, rfl, by decide +kernel, Tryz.call169⟩
def dd170 : List (Nat × DD) := []
theorem ok170 : FEOK Tryz.prog (170, feOf Tryz.f170 dd170) := ⟨Tryz.func170, rfl, by decide +kernel, Tryz.call170⟩
def dd172 : List (Nat × DD) := [(5, ⟨[0,1,3,7,15,31,63,63,255,511,63,63,2111,6207,15423,31807,65535,131071,262143],[],[],[.op 0, .op 1, .op 2, .op 3, .op 4, .op 5, .op 6, .op 7, .op 8, .op 9, .op 10, .op 11, .op 12, .op 13, .op 14, .op 15, .op 16, .op 17, .op 18]⟩)]
theorem ok172 : FEOK Tryz.prog (172, feOf Tryz.f172 dd172) := ⟨Tryz.func172, rfl, by decide +kernel, Tryz.call172⟩
def dd173 : List (Nat × DD) := []
theorem ok173 : FEOK Tryz.prog (173, feOf Tryz.f173 dd173) := ⟨Tryz.func173, rfl, by decide +kernel, Tryz.call173⟩
def dd175 : List (Nat × DD) := []
theorem ok175 : FEOK Tryz.prog (175, feOf Tryz.f175 dd175) := ⟨Tryz.func175, rfl, by decide +kernel, Tryz.call175⟩
def dd176 : List (Nat × DD) := []
theorem ok176 : FEOK Tryz.prog (176, feOf Tryz.f176 dd176) := ⟨Tryz.func176, rfl, by decide +kernel, Tryz.call176⟩
def dd178 : List (Nat × DD) := []
theorem ok178 : FEOK Tryz.prog (178, feOf Tryz.f178 dd178) := ⟨Tryz.func178, rfl, by decide +kernel, Tryz.call178⟩
def dd179 : List (Nat × DD) := []
theorem ok179 : FEOK Tryz.prog (179, feOf Tryz.f179 dd179) := ⟨Tryz.func179, rfl, by decide +kernel, Tryz.call179⟩
def dd180 : List (Nat × DD) := []
theorem ok180 : FEOK Tryz.prog (180, feOf Tryz.f180 dd180) := ⟨Tryz.func180, rfl, by decide +kernel, Tryz.call180⟩
def dd181 : List (Nat × DD) := [(6, ⟨[0,0,3,7,0,0,48,112,255],[],[],[.op 0, .op 1, .op 2, .op 3, .op 4, .op 5, .op 6, .op 7, .op 8]⟩)]
theorem ok181 : FEOK Tryz.prog (181, feOf Tryz.f181 dd181) := ⟨Tryz.func181, rfl, by decide +kernel, Tryz.call181⟩
def dd182 : List (Nat × DD) := []
theorem ok182 : FEOK Tryz.prog (182, feOf Tryz.f182 dd182) := ⟨Tryz.func182, rfl, by decide +kernel, Tryz.call182⟩
def dd183 : List (Nat × DD) := []
theorem ok183 : FEOK Tryz.prog (183, feOf Tryz.f183 dd183) := ⟨Tryz.func183, rfl, by decide +kernel, Tryz.call183⟩
def dd184 : List (Nat × DD) := []
theorem ok184 : FEOK Tryz.prog (184, feOf Tryz.f184 dd184) := ⟨Tryz.func184, rfl, by decide +kernel, Tryz.call184⟩
def dd185 : List (Nat × DD) := []
theorem ok185 : FEOK Tryz.prog (185, feOf Tryz.f185 dd185) := ⟨Tryz.func185, rfl, by decide +kernel, Tryz.call185⟩
def dd187 : List (Nat × DD) := [(3, ⟨[0,1,0,0,8,28,63,127],[5,6],[],[.op 0, .op 1, .op 2, .op 3, .op 4, .op 5, .ck 1, .op 6, .op 7]⟩)]
theorem ok187 : FEOK Tryz.prog (187, feOf Tryz.f187 dd187) := ⟨Tryz.func187, rfl, by decide +kernel, Tryz.call187⟩
def dd188 : List (Nat × DD) := [(6, ⟨[0,1,0,4,0,28,60,124,255,511,1023,0,4095,8191],[12],[],[.op 0, .op 1, .op 2, .op 3, .op 4, .op 5, .op 6, .op 7, .op 8, .op 9, .op 10, .op 11, .op 12, .op 13]⟩)]
theorem ok188 : FEOK Tryz.prog (188, feOf Tryz.f188 dd188) := ⟨Tryz.func188, rfl, by decide +kernel, Tryz.call188⟩
def dd189 : List (Nat × DD) := []
theorem ok189 : FEOK Tryz.prog (189, feOf Tryz.f189 dd189) := ⟨Tryz.func189, rfl, by decide +kernel, Tryz.call189⟩
def dd195 : List (Nat × DD) := [(17, ⟨[0,1,3,7,7,23,63,127,7,7,775,1799,4095,8191,16383],[12],[],[.op 0, .op 1, .op 2, .op 3, .op 4, .op 5, .op 6, .op 7, .op 8, .op 9, .op 10, .op 11, .op 12, .op 13, .op 14]⟩)]
theorem ok195 : FEOK Tryz.prog (195, feOf Tryz.f195 dd195) := ⟨Tryz.func195, rfl, by decide +kernel, Tryz.call195⟩
def dd196 : List (Nat × DD) := []
theorem ok196 : FEOK Tryz.prog (196, feOf Tryz.f196 dd196) := ⟨Tryz.func196, rfl, by decide +kernel, Tryz.call196⟩
def dd197 : List (Nat × DD) := []
theorem ok197 : FEOK Tryz.prog (197, feOf Tryz.f197 dd197) := ⟨Tryz.func197, rfl, by decide +kernel, Tryz.call197⟩
def dd198 : List (Nat × DD) := []
theorem ok198 : FEOK Tryz.prog (198, feOf Tryz.f198 dd198) := ⟨Tryz.func198, rfl, by decide +kernel, Tryz.call198⟩
def dd199 : List (Nat × DD) := []
theorem ok199 : FEOK Tryz.prog (199, feOf Tryz.f199 dd199) := ⟨Tryz.func199, rfl, by decide +kernel, Tryz.call199⟩
def dd201 : List (Nat × DD) := []
theorem ok201 : FEOK Tryz.prog (201, feOf Tryz.f201 dd201) := ⟨Tryz.func201, rfl, by decide +kernel, Tryz.call201⟩
def dd202 : List (Nat × DD) := []
theorem ok202 : FEOK Tryz.prog (202, feOf Tryz.f202 dd202) := ⟨Tryz.func202, rfl, by decide +kernel, Tryz.call202⟩
def dd203 : List (Nat × DD) := []
theorem ok203 : FEOK Tryz.prog (203, feOf Tryz.f203 dd203) := ⟨Tryz.func203, rfl, by decide +kernel, Tryz.call203⟩
def dd204 : List (Nat × DD) := []
theorem ok204 : FEOK Tryz.prog (204, feOf Tryz.f204 dd204) := ⟨Tryz.func204, rfl, by decide +kernel, Tryz.call204⟩
def dd205 : List (Nat × DD) := []
theorem ok205 : FEOK Tryz.prog (205, feOf Tryz.f205 dd205) := ⟨Tryz.func205, rfl, by decide +kernel, Tryz.call205⟩
def dd207 : List (Nat × DD) := [(4, ⟨[0,0,3,7,15,15,63,127,15,15,527,1807,3855,8191,16383],[13],[],[.op 0, .op 1, .op 2, .op 3, .op 4, .op 5, .op 6, .op 7, .op 8, .op 9, .op 10, .op 11, .op 12, .op 13, .op 14]⟩),(6, ⟨[0,0,0,0,8,0,0,64,224,480,0,0,3072,7168,16355,32739,65535,131071],[15,17],[],[.op 0, .op 1, .op 2, .op 3, .op 4, .op 5, .op 6, .op 7, .op 8, .op 9, .op 10, .op 11, .op 12, .op 13, .op 14, .op 15, .op 16, .op 17]⟩)]
theorem ok207 : FEOK Tryz.prog (207, feOf Tryz.f207 dd207) := ⟨Tryz.func207, rfl, by decide +kernel, Tryz.call207⟩
def dd208 : List (Nat × DD) := [(10, ⟨[0,0,0,0,0,24,0,0,0,384,960,1984,0,0,12288,28672,65475,131011,262143,524287],[17,19],[],[.op 0, .op 1, .op 2, .op 3, .op 4, .op 5, .op 6, .op 7, .op 8, .op 9, .op 10, .op 11, .op 12, .op 13, .op 14, .op 15, .op 16, .op 17, .op 18, .op 19]⟩)]
theorem ok208 : FEOK Tryz.prog (208, feOf Tryz.f208 dd208) := ⟨Tryz.func208, rfl, by decide +kernel, Tryz.call208⟩
def dd209 : List (Nat × DD) := [(10, ⟨[0,0,0,0,0,24,0,0,0,384,960,1984,0,0,12288,28672,65475,131011,262143,524287],[17,19],[],[.op 0, .op 1, .op 2, .op 3, .op 4, .op 5, .op 6, .op 7, .op 8, .op 9, .op 10, .op 11, .op 12, .op 13, .op 14, .op 15, .op 16, .op 17, .op 18, .op 19]⟩)]
theorem ok209 : FEOK Tryz.prog (209, feOf Tryz.f209 dd209) := ⟨Tryz.func209, rfl, by decide +kernel, Tryz.call209⟩
def dd210 : List (Nat × DD) := []
theorem ok210 : FEOK Tryz.prog (210, feOf Tryz.f210 dd210) := ⟨Tryz.func210, rfl, by decide +kernel, Tryz.call210⟩
def dd211 : List (Nat × DD) := [(3, ⟨[0,0,0,0,0,0,48,112,0,0,768,1792,4083,8179,16383,32767],[13,15],[],[.op 0, .op 1, .op 2, .op 3, .op 4, .op 5, .op 6, .op 7, .op 8, .op 9, .op 10, .op 11, .op 12, .op 13, .op 14, .op 15]⟩)]
theorem ok211 : FEOK Tryz.prog (211, feOf Tryz.f211 dd211) := ⟨Tryz.func211, rfl, by decide +kernel, Tryz.call211⟩
def dd212 : List (Nat × DD) := [(5, ⟨[0,0,3,7,15,15,63,127,15,15,527,1807,3855,8191,16383,32767],[13],[],[.op 0, .op 1, .op 2, .op 3, .op 4, .op 5, .op 6, .op 7, .op 8, .op 9, .op 10, .op 11, .op 12, .op 13, .op 14, .op 15]⟩),(11, ⟨[0,0,0,0,8,0,0,64,224,480,0,0,3072,7168,16355,32739,65535,131071],[15,17],[],[.op 0, .op 1, .op 2, .op 3, .op 4, .op 5, .op 6, .op 7, .op 8, .op 9, .op 10, .op 11, .op 12, .op 13, .op 14, .op 15, .op 16, .op 17]⟩),(16, ⟨[0,0,3,7,0,0,32,112,240,511,1023],[9],[],[.op 0, .op 1, .op 2, .op 3, .op 4, .op 5, .op 6, .op 7, .op 8, .op 9, .op 10]⟩),(17, ⟨[0,0,0,0,8,0,0,64,224,480,0,0,3072,7168,16355,32739,65535,131071],[15,17],[],[.op 0, .op 1, .op 2, .op 3, .op 4, .op 5, .op 6, .op 7, .op 8, .op 9, .op 10, .op 11, .op 12, .op 13, .op 14, .op 15, .op 16, .op 17]⟩),(22, ⟨[0,0,3,7,0,0,32,112,240,511,1023],[9],[],[.op 0, .op 1, .op 2, .op 3, .op 4, .op 5, .op 6, .op 7, .op 8, .op 9, .op 10]⟩),(23, ⟨[0,0,0,0,8,0,0,64,224,480,0,0,3072,7168,16355,32739,65535,131071],[15,17],[],[.op 0, .op 1, .op 2, .op 3, .op 4, .op 5, .op 6, .op 7, .op 8, .op 9, .op 10, .op 11, .op 12, .op 13, .op 14, .op 15, .op 16, .op 17]⟩)]
theorem ok212 : FEOK Tryz.prog (212, feOf Tryz.f212 dd212) := ⟨Tryz.func212, rfl, by decide +kernel, Tryz.call212⟩
def dd213 : List (Nat × DD) := [(1, ⟨[0,0,0,0,0,0,48,112,0,0,768,1792,4083,8179,16383,32767],[13,15],[],[.op 0, .op 1, .op 2, .op 3, .op 4, .op 5, .op 6, .op 7, .op 8, .op 9, .op 10, .op 11, .op 12, .op 13, .op 14, .op 15]⟩),(3, ⟨[0,0,3,7,15,15,63,127,15,15,783,1807,4095,8191,16383],[12],[],[.op 0, .op 1, .op 2, .op 3, .op 4, .op 5, .op 6, .op 7, .op 8, .op 9, .op 10, .op 11, .op 12, .op 13, .op 14]⟩),(5, ⟨[0,0,3,7,15,15,63,127,15,15,783,1807,4095,8191],[12],[],[.op 0, .op 1, .op 2, .op 3, .op 4, .op 5, .op 6, .op 7, .op 8, .op 9, .op 10, .op 11, .op 12, .op 13]⟩),(8, ⟨[0,0,0,0,0,0,48,112,0,0,768,1792,4083,8179,16383,32767],[13,15],[],[.op 0, .op 1, .op 2, .op 3, .op 4, .op 5, .op 6, .op 7, .op 8, .op 9, .op 10, .op 11, .op 12, .op 13, .op 14, .op 15]⟩)]
theorem ok213 : FEOK Tryz.prog (213, feOf Tryz.f213 dd213) := ⟨Tryz.func213, rfl, by decide +kernel, Tryz.call213⟩
def dd214 : List (Nat × DD) := [(1, ⟨[0,0,0,0,0,0,48,112,0,0,768,1792,4083,8179,16383,32767],[13,15],[],[.op 0, .op 1, .op 2, .op 3, .op 4, .op 5, .op 6, .op 7, .op 8, .op 9, .op 10, .op 11, .op 12, .op 13, .op 14, .op 15]⟩),(3, ⟨[0,0,3,7,15,15,63,127,15,15,783,1807,4095,8191],[12],[],[.op 0, .op 1, .op 2, .op 3, .op 4, .op 5, .op 6, .op 7, .op 8, .op 9, .op 10, .op 11, .op 12, .op 13]⟩),(5, ⟨[0,0,3,7,15,15,63,127,15,15,783,1807,4095,8191,16383],[12],[],[.op 0, .op 1, .op 2, .op 3, .op 4, .op 5, .op 6, .op 7, .op 8, .op 9, .op 10, .op 11, .op 12, .op 13, .op 14]⟩),(8, ⟨[0,0,0,0,0,0,48,112,0,0,768,1792,4083,8179,16383,32767],[13,15],[],[.op 0, .op 1, .op 2, .op 3, .op 4, .op 5, .op 6, .op 7, .op 8, .op 9, .op 10, .op 11, .op 12, .op 13, .op 14, .op 15]⟩),(10, ⟨[0,0,0,0,0,0,48,112,0,0,768,1792,4083,8179,16383,32767],[13,15],[],[.op 0, .op 1, .op 2, .op 3, .op 4, .op 5, .op 6, .op 7, .op 8, .op 9, .op 10, .op 11, .op 12, .op 13, .op 14, .op 15]⟩),(13, ⟨[0,0,3,7,15,15,63,127,15,15,783,1807,4095,8191],[12],[],[.op 0, .op 1, .op 2, .op 3, .op 4, .op 5, .op 6, .op 7, .op 8, .op 9, .op 10, .op 11, .op 12, .op 13]⟩),(15, ⟨[0,0,3,7,15,15,63,127,15,15,783,1807,4095,8191,16383],[12],[],[.op 0, .op 1, .op 2, .op 3, .op 4, .op 5, .op 6, .op 7, .op 8, .op 9, .op 10, .op 11, .op 12, .op 13, .op 14]⟩),(18, ⟨[0,0,0,0,0,0,48,112,0,0,768,1792,4083,8179,16383,32767],[13,15],[],[.op 0, .op 1, .op 2, .op 3, .op 4, .op 5, .op 6, .op 7, .op 8, .op 9, .op 10, .op 11, .op 12, .op 13, .op 14, .op 15]⟩),(21, ⟨[0,0,0,0,0,0,48,112,0,0,768,1792,4083,8179,16383,32767],[13,15],[],[.op 0, .op 1, .op 2, .op 3, .op 4, .op 5, .op 6, .op 7, .op 8, .op 9, .op 10, .op 11, .op 12, .op 13, .op 14, .op 15]⟩)]
theorem ok214 : FEOK Tryz.prog (214, feOf Tryz.f214 dd214) := ⟨Tryz.func214, rfl, by decide +kernel, Tryz.call214⟩
def dd215 : List (Nat × DD) := []
theorem ok215 : FEOK Tryz.prog (215, feOf Tryz.f215 dd215) := ⟨Tryz.func215, rfl, by decide +kernel, Tryz.call215⟩
def dd216 : List (Nat × DD) := []
theorem ok216 : FEOK Tryz.prog (216, feOf Tryz.f216 dd216) := ⟨Tryz.func216, rfl, by decide +kernel, Tryz.call216⟩
def dd217 : List (Nat × DD) := []
theorem ok217 : FEOK Tryz.prog (217, feOf Tryz.f217 dd217) := ⟨Tryz.func217, rfl, by decide +kernel, Tryz.call217⟩
def dd218 : List (Nat × DD) := [(4, ⟨[0,0,3,7,15,15,15,111,239,15,15,1039,3599,7695,16383,32767,65535],[14],[],[.op 0, .op 1, .op 2, .op 3, .op 4, .op 5, .op 6, .op 7, .op 8, .op 9, .op 10, .op 11, .op 12, .op 13, .op 14, .op 15, .op 16]⟩),(6, ⟨[0,0,0,0,8,0,0,64,224,480,0,0,3072,7168,16355,32739,65535,131071],[15,17],[],[.op 0, .op 1, .op 2, .op 3, .op 4, .op 5, .op 6, .op 7, .op 8, .op 9, .op 10, .op 11, .op 12, .op 13, .op 14, .op 15, .op 16, .op 17]⟩)]
theorem ok218 : FEOK Tryz.prog (218, feOf Tryz.f218 dd218) := ⟨Tryz.func218, rfl, by decide +kernel, Tryz.call218⟩
def dd219 : List (Nat × DD) := [(5, ⟨[0,0,0,6,14,0,0,96,224,511,1023],[9],[],[.op 0, .op 1, .op 2, .op 3, .op 4, .op 5, .op 6, .op 7, .op 8, .op 9, .op 10]⟩),(11, ⟨[0,0,0,0,8,0,0,64,224,480,0,0,3072,7168,16355,32739,65535,131071],[15,17],[],[.op 0, .op 1, .op 2, .op 3, .op 4, .op 5, .op 6, .op 7, .op 8, .op 9, .op 10, .op 11, .op 12, .op 13, .op 14, .op 15, .op 16, .op 17]⟩),(17, ⟨[0,0,0,6,14,0,0,96,224,511,1023,2047],[9],[],[.op 0, .op 1, .op 2, .op 3, .op 4, .op 5, .op 6, .op 7, .op 8, .op 9, .op 10, .op 11]⟩),(23, ⟨[0,0,0,0,8,0,0,64,224,480,0,0,3072,7168,16355,32739,65535,131071],[15,17],[],[.op 0, .op 1, .op 2, .op 3, .op 4, .op 5, .op 6, .op 7, .op 8, .op 9, .op 10, .op 11, .op 12, .op 13, .op 14, .op 15, .op 16, .op 17]⟩),(35, ⟨[0,0,0,0,12,30,62,0,0,384,896,2047,4095,8191],[11],[],[.op 0, .op 1, .op 2, .op 3, .op 4, .op 5, .op 6, .op 7, .op 8, .op 9, .op 10, .op 11, .op 12, .op 13]⟩)]
theorem ok219 : FEOK Tryz.prog (219, feOf Tryz.f219 dd219) := ⟨Tryz.func219, rfl, by decide +kernel, Tryz.call219⟩
def dd220 : List (Nat × DD) := []
theorem ok220 : FEOK Tryz.prog (220, feOf Tryz.f220 dd220) := ⟨Tryz.func220, rfl, by decide +kernel, Tryz.call220⟩
def dd221 : List (Nat × DD) := [(3, ⟨[0,1,0,7,15,31,31,31,223,511,1023,31,31,31,12319,28703,63519,129055,262143,524287],[18],[],[.op 0, .op 1, .op 2, .op 3, .op 4, .op 5, .op 6, .op 7, .op 8, .op 9, .op 10, .op 11, .op 12, .op 13, .op 14, .op 15, .op 16, .op 17, .op 18, .op 19]⟩),(5, ⟨[0,0,0,6,15,31,0,0,0,384,960,1984,4095,8191],[12],[],[.op 0, .op 1, .op 2, .op 3, .op 4, .op 5, .op 6, .op 7, .op 8, .op 9, .op 10, .op 11, .op 12, .op 13]⟩),(6, ⟨[0,0,0,6,0,0,0,96,0,0,0,1536,3840,7936,0,0,0,98304,245760,507904,1048335,2096911,4194303,8388607],[21,23],[],[.op 0, .op 1, .op 2, .op 3, .op 4, .op 5, .op 6, .op 7, .op 8, .op 9, .op 10, .op 11, .op 12, .op 13, .op 14, .op 15, .op 16, .op 17, .op 18, .op 19, .op 20, .op 21, .op 22, .op 23]⟩)]
theorem ok221 : FEOK Tryz.prog (221, feOf Tryz.f221 dd221) := ⟨Tryz.func221, rfl, by decide +kernel, Tryz.call221⟩
def dd222 : List (Nat × DD) := []
theorem ok222 : FEOK Tryz.prog (222, feOf Tryz.f222 dd222) := ⟨Tryz.func222, rfl, by decide +kernel, Tryz.call222⟩
def dd223 : List (Nat × DD) := [(1, ⟨[0,1,3,0,8,24,56,127,255,511],[9],[],[.op 0, .op 1, .op 2, .op 3, .op 4, .op 5, .op 6, .op 7, .op 8, .op 9]⟩),(2, ⟨[0,1,3,0,8,24,56,127,255,511],[9],[],[.op 0, .op 1, .op 2, .op 3, .op 4, .op 5, .op 6, .op 7, .op 8, .op 9]⟩),(3, ⟨[0,1,3,0,8,24,56,127,255,511],[9],[],[.op 0, .op 1, .op 2, .op 3, .op 4, .op 5, .op 6, .op 7, .op 8, .op 9]⟩)]
theorem ok223 : FEOK Tryz.prog (223, feOf Tryz.f223 dd223) := ⟨Tryz.func223, rfl, by decide +kernel, Tryz.call223⟩
def dd224 : List (Nat × DD) := []
theorem ok224 : FEOK Tryz.prog (224, feOf Tryz.f224 dd224) := ⟨Tryz.func224, rfl, by decide +kernel, Tryz.call224⟩
def dd225 : List (Nat × DD) := []
theorem ok225 : FEOK Tryz.prog (225, feOf Tryz.f225 dd225) := ⟨Tryz.func225, rfl, by decide +kernel, Tryz.call225⟩
def dd226 : List (Nat × DD) := []
theorem ok226 : FEOK Tryz.prog (226, feOf Tryz.f226 dd226) := ⟨Tryz.func226, rfl, by decide +kernel, Tryz.call226⟩
def dd227 : List (Nat × DD) := [(1, ⟨[0,0,3,7,0,0,48,112,255],[8],[],[.op 0, .op 1, .op 2, .op 3, .op 4, .op 5, .op 6, .op 7, .op 8]⟩)]
theorem ok227 : FEOK Tryz.prog (227, feOf Tryz.f227 dd227) := ⟨Tryz.func227, rfl, by decide +kernel, Tryz.call227⟩
def dd228 : List (Nat × DD) := [(3, ⟨[0,0,0,6,0,0,0,96,0,0,0,1536,3840,7936,0,0,0,98304,245760,507904,1048335,2096911,4194303,8388607],[21,23],[],[.op 0, .op 1, .op 2, .op 3, .op 4, .op 5, .op 6, .op 7, .op 8, .op 9, .op 10, .op 11, .op 12, .op 13, .op 14, .op 15, .op 16, .op 17, .op 18, .op 19, .op 20, .op 21, .op 22, .op 23]⟩)]
theorem ok228 : FEOK Tryz.prog (228, feOf Tryz.f228 dd228) := ⟨Tryz.func228, rfl, by decide +kernel, Tryz.call228⟩
noncomputable def tabL : List (Nat × FE) := [(22, feOf Tryz.f22 dd22),(23, feOf Tryz.f23 dd23),(24, feOf Tryz.f24 dd24),(28, feOf Tryz.f28 dd28),(30, feOf Tryz.f30 dd30),(32, feOf Tryz.f32 dd32),(34, feOf Tryz.f34 dd34),(35, feOf Tryz.f35 dd35),(36, feOf Tryz.f36 dd36),(42, feOf Tryz.f42 dd42),(44, feOf Tryz.f44 dd44),(52, feOf Tryz.f52 dd52),(55, feOf Tryz.f55 dd55),(63, feOf Tryz.f63 dd63),(65, feOf Tryz.f65 dd65),(66, feOf Tryz.f66 dd66),(67, feOf Tryz.f67 dd67),(81, feOf Tryz.f81 dd81),(82, feOf Tryz.f82 dd82),(85, feOf Tryz.f85 dd85),(92, feOf Tryz.f92 dd92),(93, feOf Tryz.f93 dd93),(94, feOf Tryz.f94 dd94),(95, feOf Tryz.f95 dd95),(96, feOf Tryz.f96 dd96),(97, feOf Tryz.f97 dd97),(98, feOf Tryz.f98 dd98),(99, feOf Tryz.f99 dd99),(100, feOf Tryz.f100 dd100),(101, feOf Tryz.f101 dd101),(105, feOf Tryz.f105 dd105),(106, feOf Tryz.f106 dd106),(108, feOf Tryz.f108 dd108),(109, feOf Tryz.f109 dd109),(113, feOf Tryz.f113 dd113),(114, feOf Tryz.f114 dd114),(115, feOf Tryz.f115 dd115),(116, feOf Tryz.f116 dd116),(117, feOf Tryz.f117 dd117),(118, feOf Tryz.f118 dd118),(120, feOf Tryz.f120 dd120),(121, feOf Tryz.f121 dd121),(122, feOf Tryz.f122 dd122),(123, feOf Tryz.f123 dd123),(125, feOf Tryz.f125 dd125),(126, feOf Tryz.f126 dd126),(127, feOf Tryz.f127 dd127),(130, feOf Tryz.f130 dd130),(134, feOf Tryz.f134 dd134),(140, feOf Tryz.f140 dd140),(144, feOf Tryz.f144 dd144),(147, feOf Tryz.f147 dd147),(148, feOf Tryz.f148 dd148),(150, feOf Tryz.f150 dd150),(152, feOf Tryz.f152 dd152),(158, feOf Tryz.f158 dd158),(159, feOf Tryz.f159 dd159),(160, feOf Tryz.f160 dd160),(161, feOf Tryz.f161 dd161),(162, feOf Tryz.f162 dd162),(163, feOf Tryz.f163 dd163),(164, feOf Tryz.f164 dd164),(165, feOf Tryz.f165 dd165),(166, feOf Tryz.f166 dd166),(167, feOf Tryz.f167 dd167),(168, feOf Tryz.f168 dd168),(169, feOf Tryz.f169 dd169),(170, feOf Tryz.f170 dd170),(172, feOf Tryz.f172 dd172),(173, feOf Tryz.f173 dd173),(175, feOf Tryz.f175 dd175),(176, feOf Tryz.f176 dd176),(178, feOf Tryz.f178 dd178),(179, feOf Tryz.f179 dd179),(180, feOf Tryz.f180 dd180),(181, feOf Tryz.f181 dd181),(182, feOf Tryz.f182 dd182),(183, feOf Tryz.f183 dd183),(184, feOf Tryz.f184 dd184),(185, feOf Tryz.f185 dd185),(187, feOf Tryz.f187 dd187),(188, feOf Tryz.f188 dd188),(189, feOf Tryz.f189 dd189),(195, feOf Tryz.f195 dd195),(196, feOf Tryz.f196 dd196),(197, feOf Tryz.f197 dd197),(198, feOf Tryz.f198 dd198),(199, feOf Tryz.f199 dd199),(201, feOf Tryz.f201 dd201),(202, feOf Tryz.f202 dd202),(203, feOf Tryz.f203 dd203),(204, feOf Tryz.f204 dd204),(205, feOf Tryz.f205 dd205),(207, feOf Tryz.f207 dd207),(208, feOf Tryz.f208 dd208),(209, feOf Tryz.f209 dd209),(210, feOf Tryz.f210 dd210),(211, feOf Tryz.f211 dd211),(212, feOf Tryz.f212 dd212),(213, feOf Tryz.f213 dd213),(214, feOf Tryz.f214 dd214),(215, feOf Tryz.f215 dd215),(216, feOf Tryz.f216 dd216),(217, feOf Tryz.f217 dd217),(218, feOf Tryz.f218 dd218),(219, feOf Tryz.f219 dd219),(220, feOf Tryz.f220 dd220),(221, feOf Tryz.f221 dd221),(222, feOf Tryz.f222 dd222),(223, feOf Tryz.f223 dd223),(224, feOf Tryz.f224 dd224),(225, feOf Tryz.f225 dd225),(226, feOf Tryz.f226 dd226),(227, feOf Tryz.f227 dd227),(228, feOf Tryz.f228 dd228)]
theorem tabL_ok : ∀ p ∈ tabL, FEOK Tryz.prog p := allCons ok22 (allCons ok23 (allCons ok24 (allCons ok28 (allCons ok30 (allCons ok32 (allCons ok34 (allCons ok35 (allCons ok36 (allCons ok42 (allCons ok44 (allCons ok52 (allCons ok55 (allCons ok63 (allCons ok65 (allCons ok66 (allCons ok67 (allCons ok81 (allCons ok82 (allCons ok85 (allCons ok92 (allCons ok93 (allCons ok94 (allCons ok95 (allCons ok96 (allCons ok97 (allCons ok98 (allCons ok99 (allCons ok100 (allCons ok101 (allCons ok105 (allCons ok106 (allCons ok108 (allCons ok109 (allCons ok113 (allCons ok114 (allCons ok115 (allCons ok116 (allCons ok117 (allCons ok118 (allCons ok120 (allCons ok121 (allCons ok122 (allCons ok123 (allCons ok125 (allCons ok126 (allCons ok127 (allCons ok130 (allCons ok134 (allCons ok140 (allCons ok144 (allCons ok147 (allCons ok148 (allCons ok150 (allCons ok152 (allCons ok158 (allCons ok159 (allCons ok160 (allCons ok161 (allCons ok162 (allCons ok163 (allCons ok164 (allCons ok165 (allCons ok166 (allCons ok167 (allCons ok168 (allCons ok169 (allCons ok170 (allCons ok172 (allCons ok173 (allCons ok175 (allCons ok176 (allCons ok178 (allCons ok179 (allCons ok180 (allCons ok181 (allCons ok182 (allCons ok183 (allCons ok184 (allCons ok185 (allCons ok187 (allCons ok188 (allCons ok189 (allCons ok195 (allCons ok196 (allCons ok197 (allCons ok198 (allCons ok199 (allCons ok201 (allCons ok202 (allCons ok203 (allCons ok204 (allCons ok205 (allCons ok207 (allCons ok208 (allCons ok209 (allCons ok210 (allCons ok211 (allCons ok212 (allCons ok213 (allCons ok214 (allCons ok215 (allCons ok216 (allCons ok217 (allCons ok218 (allCons ok219 (allCons ok220 (allCons ok221 (allCons ok222 (allCons ok223 (allCons ok224 (allCons ok225 (allCons ok226 (allCons ok227 (allCons ok228 allNil))))))))))))))))))))))))))))))))))))))))))))))))))))))))))))))))))))))))))))))))))))))))))))))))))))))))))))))))))
end Go.Am.Ds
end
section
namespace Go.Am.Ds
open Go Go.Am Go.Proofs Go.Shelf
def lsort_ren : Ren where
  f := fun x => match x with
    | 5 => 159
    | 8 => 196
    | 7 => 195
    | 19 => 215
    | 20 => 216
    | 10 => 207
    | 11 => 208
    | 12 => 209
    | 13 => 210
    | 14 => 211
    | 15 => 212
    | 16 => 198
    | 17 => 213
    | 18 => 214
    | 30 => 221
    | 31 => 222
    | 32 => 223
    | 33 => 224
    | 34 => 225
    | 35 => 217
    | 40 => 227
    | n => n
  t := fun x => match x with
    | 23 => 25
    | 25 => 3
    | 3 => 3
    | 32 => 226
    | 22 => 25
    | 0 => 0
    | 44 => 143
    | 46 => 243
    | 4 => 4
    | 36 => 237
    | 35 => 236
    | 41 => 110
    | 5 => 5
    | 9 => 9
    | 53 => 247
    | 57 => 251
    | 63 => 253
    | 64 => 154
    | n => n
  g := fun n => n
theorem lsort : SlLaysM.n5 Tryz.prog lsort_ren where
  mixed := rfl
  f5 := ⟨"slices.Sort[[]int,int]", by decide, Tryz.func159⟩
  f7 := ⟨"slices.pdqsortOrdered[int]", by decide, Tryz.func195⟩
  f8 := Tryz.func196
  f10 := ⟨"slices.insertionSortOrdered[int]", by decide, Tryz.func207⟩
  f11 := ⟨"slices.heapSortOrdered[int]", by decide, Tryz.func208⟩
  f12 := ⟨"slices.breakPatternsOrdered[int]", by decide, Tryz.func209⟩
  f13 := ⟨"slices.choosePivotOrdered[int]", by decide, Tryz.func210⟩
  f14 := ⟨"slices.reverseRangeOrdered[int]", by decide, Tryz.func211⟩
  f15 := ⟨"slices.partialInsertionSortOrdered[int]", by decide, Tryz.func212⟩
  f16 := ⟨"cmp.Less[int]", by decide, Tryz.func198⟩
  f17 := ⟨"slices.partitionEqualOrdered[int]", by decide, Tryz.func213⟩
  f18 := ⟨"slices.partitionOrdered[int]", by decide, Tryz.func214⟩
  f19 := Tryz.func215
  f20 := Tryz.func216
  f30 := ⟨"slices.siftDownOrdered[int]", by decide, Tryz.func221⟩
  f31 := Tryz.func222
  f32 := Tryz.func223
  f33 := ⟨"slices.medianAdjacentOrdered[int]", by decide, Tryz.func224⟩
  f34 := ⟨"slices.medianOrdered[int]", by decide, Tryz.func225⟩
  f35 := ⟨"cmp.isNaN[int]", by decide, Tryz.func217⟩
  f40 := ⟨"slices.order2Ordered[int]", by decide, Tryz.func227⟩
  t0 := Tryz.underlying0
  a0 := Tryz.isAgg0
  z0 := Tryz.sizeOf0
  v0 := Tryz.zeroValue0
  t3 := Tryz.underlying3
  a3 := Tryz.isAgg3
  z3 := Tryz.sizeOf3
  v3 := Tryz.zeroValue3
  t4 := Tryz.underlying4
  a4 := Tryz.isAgg4
  z4 := Tryz.sizeOf4
  v4 := Tryz.zeroValue4
  t5 := Tryz.underlying5
  a5 := Tryz.isAgg5
  z5 := Tryz.sizeOf5
  v5 := Tryz.zeroValue5
  t9 := Tryz.underlying9
  a9 := Tryz.isAgg9
  z9 := Tryz.sizeOf9
  v9 := Tryz.zeroValue9
  t22 := Tryz.underlying25
  a22 := Tryz.isAgg25
  z22 := Tryz.sizeOf25
  v22 := Tryz.zeroValue25
  t23 := Tryz.underlying25
  a23 := Tryz.isAgg25
  z23 := Tryz.sizeOf25
  v23 := Tryz.zeroValue25
  t25 := Tryz.underlying3
  a25 := Tryz.isAgg3
  z25 := Tryz.sizeOf3
  v25 := Tryz.zeroValue3
  t32 := Tryz.underlying226
  a32 := Tryz.isAgg226
  z32 := Tryz.sizeOf226
  v32 := Tryz.zeroValue226
  t35 := Tryz.underlying236
  a35 := Tryz.isAgg236
  z35 := Tryz.sizeOf236
  v35 := Tryz.zeroValue236
  t36 := Tryz.underlying237
  a36 := Tryz.isAgg237
  z36 := Tryz.sizeOf237
  v36 := Tryz.zeroValue237
  t41 := Tryz.underlying110
  a41 := Tryz.isAgg110
  z41 := Tryz.sizeOf110
  v41 := Tryz.zeroValue110
  t44 := Tryz.underlying143
  a44 := Tryz.isAgg143
  z44 := Tryz.sizeOf143
  v44 := Tryz.zeroValue143
  t46 := Tryz.underlying243
  a46 := Tryz.isAgg243
  z46 := Tryz.sizeOf243
  v46 := Tryz.zeroValue243
  t53 := Tryz.underlying247
  a53 := Tryz.isAgg247
  z53 := Tryz.sizeOf247
  v53 := Tryz.zeroValue247
  t57 := Tryz.underlying251
  a57 := Tryz.isAgg251
  z57 := Tryz.sizeOf251
  v57 := Tryz.zeroValue251
  t63 := Tryz.underlying253
  a63 := Tryz.isAgg253
  z63 := Tryz.sizeOf253
  v63 := Tryz.zeroValue253
  t64 := Tryz.underlying154
  a64 := Tryz.isAgg154
  z64 := Tryz.sizeOf154
  v64 := Tryz.zeroValue154
end Go.Am.Ds
end
section
namespace Go.Am.Ds
open Go Go.Am Go.Proofs
set_option maxRecDepth 100000
set_option linter.unusedSimpArgs false
@[simp] theorem u3 : Tryz.prog.underlying 3 = some (.int .i64) := by rfl
@[simp] theorem ag3 : tagg Tryz.prog 3 = some false := by decide +kernel
@[simp] theorem sz3 : tsz Tryz.prog 3 = some 1 := by decide +kernel
@[simp] theorem ze3 : vzero Tryz.prog 3 = some [.int .i64 0] := by rfl
@[simp] theorem za3 : (azero Tryz.prog 3).bind pvcV = some (.int .i64 0) := by rfl
@[simp] theorem u4 : Tryz.prog.underlying 4 = some .bool := by rfl
@[simp] theorem ag4 : tagg Tryz.prog 4 = some false := by decide +kernel
@[simp] theorem sz4 : tsz Tryz.prog 4 = some 1 := by decide +kernel
@[simp] theorem ze4 : vzero Tryz.prog 4 = some [.bool false] := by rfl
@[simp] theorem za4 : (azero Tryz.prog 4).bind pvcV = some (.bool false) := by rfl
@[simp] theorem u5 : Tryz.prog.underlying 5 = some (.int .u8) := by rfl
@[simp] theorem ag5 : tagg Tryz.prog 5 = some false := by decide +kernel
@[simp] theorem sz5 : tsz Tryz.prog 5 = some 1 := by decide +kernel
@[simp] theorem ze5 : vzero Tryz.prog 5 = some [.int .u8 0] := by rfl
@[simp] theorem za5 : (azero Tryz.prog 5).bind pvcV = some (.int .u8 0) := by rfl
@[simp] theorem u9 : Tryz.prog.underlying 9 = some .string := by rfl
@[simp] theorem ag9 : tagg Tryz.prog 9 = some false := by decide +kernel
@[simp] theorem sz9 : tsz Tryz.prog 9 = some 1 := by decide +kernel
@[simp] theorem ze9 : vzero Tryz.prog 9 = some [.str ByteArray.empty] := by rfl
@[simp] theorem za9 : (azero Tryz.prog 9).bind pvcV = some (.str ByteArray.empty) := by rfl
@[simp] theorem u22 : Tryz.prog.underlying 22 = some (.slice 62) := by rfl
@[simp] theorem ag22 : tagg Tryz.prog 22 = some false := by decide +kernel
@[simp] theorem sz22 : tsz Tryz.prog 22 = some 1 := by decide +kernel
@[simp] theorem el22 : telem Tryz.prog 22 = some (62,7) := by decide +kernel
@[simp] theorem by22 : (Tryz.prog.info? 62).map (·.bytes) = some 104 := by decide +kernel
@[simp] theorem ze22 : vzero Tryz.prog 22 = some [.sl0] := by rfl
@[simp] theorem za22 : (azero Tryz.prog 22).bind pvcV = some (.sl0) := by rfl
@[simp] theorem ag24 : tagg Tryz.prog 24 = some true := by decide +kernel
@[simp] theorem sz24 : tsz Tryz.prog 24 = some 1 := by decide +kernel
@[simp] theorem fd24_0 : tfield Tryz.prog 24 0 = some (22,0,1) := by decide +kernel
@[simp] theorem ze24 : vzero Tryz.prog 24 = some [.sl0] := by rfl
@[simp] theorem bu24 (l : List (Nat × PV)) : vbuild Tryz.prog 24 l = (pfill (([(0,1)] : List (Nat × Nat))[·]?) [.sl0] l).map .agg := by rfl
@[simp] theorem za24 : (azero Tryz.prog 24).bind pvcV = some (.agg [.sl0]) := by rfl
@[simp] theorem u25 : Tryz.prog.underlying 25 = some (.slice 3) := by rfl
@[simp] theorem ag25 : tagg Tryz.prog 25 = some false := by decide +kernel
@[simp] theorem sz25 : tsz Tryz.prog 25 = some 1 := by decide +kernel
@[simp] theorem el25 : telem Tryz.prog 25 = some (3,1) := by decide +kernel
@[simp] theorem by25 : (Tryz.prog.info? 3).map (·.bytes) = some 8 := by decide +kernel
@[simp] theorem ze25 : vzero Tryz.prog 25 = some [.sl0] := by rfl
@[simp] theorem za25 : (azero Tryz.prog 25).bind pvcV = some (.sl0) := by rfl
@[simp] theorem u28 : Tryz.prog.underlying 28 = some (.int .i64) := by rfl
@[simp] theorem ag28 : tagg Tryz.prog 28 = some false := by decide +kernel
@[simp] theorem sz28 : tsz Tryz.prog 28 = some 1 := by decide +kernel
@[simp] theorem ze28 : vzero Tryz.prog 28 = some [.int .i64 0] := by rfl
@[simp] theorem za28 : (azero Tryz.prog 28).bind pvcV = some (.int .i64 0) := by rfl
@[simp] theorem ag32 : tagg Tryz.prog 32 = some true := by decide +kernel
@[simp] theorem sz32 : tsz Tryz.prog 32 = some 5 := by decide +kernel
@[simp] theorem fd32_0 : tfield Tryz.prog 32 0 = some (3,0,1) := by decide +kernel
@[simp] theorem fd32_1 : tfield Tryz.prog 32 1 = some (3,1,1) := by decide +kernel
@[simp] theorem fd32_2 : tfield Tryz.prog 32 2 = some (3,2,1) := by decide +kernel
@[simp] theorem fd32_3 : tfield Tryz.prog 32 3 = some (3,3,1) := by decide +kernel
@[simp] theorem fd32_4 : tfield Tryz.prog 32 4 = some (3,4,1) := by decide +kernel
@[simp] theorem ze32 : vzero Tryz.prog 32 = some [.int .i64 0, .int .i64 0, .int .i64 0, .int .i64 0, .int .i64 0] := by rfl
@[simp] theorem bu32 (l : List (Nat × PV)) : vbuild Tryz.prog 32 l = (pfill (([(0,1),(1,1),(2,1),(3,1),(4,1)] : List (Nat × Nat))[·]?) [.int .i64 0, .int .i64 0, .int .i64 0, .int .i64 0, .int .i64 0] l).map .agg := by rfl
@[simp] theorem za32 : (azero Tryz.prog 32).bind pvcV = some (.agg [.int .i64 0, .int .i64 0, .int .i64 0, .int .i64 0, .int .i64 0]) := by rfl
@[simp] theorem ag38 : tagg Tryz.prog 38 = some true := by decide +kernel
@[simp] theorem sz38 : tsz Tryz.prog 38 = some 2 := by decide +kernel
@[simp] theorem fd38_0 : tfield Tryz.prog 38 0 = some (3,0,1) := by decide +kernel
@[simp] theorem fd38_1 : tfield Tryz.prog 38 1 = some (3,1,1) := by decide +kernel
@[simp] theorem ze38 : vzero Tryz.prog 38 = some [.int .i64 0, .int .i64 0] := by rfl
@[simp] theorem bu38 (l : List (Nat × PV)) : vbuild Tryz.prog 38 l = (pfill (([(0,1),(1,1)] : List (Nat × Nat))[·]?) [.int .i64 0, .int .i64 0] l).map .agg := by rfl
@[simp] theorem za38 : (azero Tryz.prog 38).bind pvcV = some (.agg [.int .i64 0, .int .i64 0]) := by rfl
@[simp] theorem ag44 : tagg Tryz.prog 44 = some true := by decide +kernel
@[simp] theorem sz44 : tsz Tryz.prog 44 = some 3 := by decide +kernel
@[simp] theorem fd44_0 : tfield Tryz.prog 44 0 = some (3,0,1) := by decide +kernel
@[simp] theorem fd44_1 : tfield Tryz.prog 44 1 = some (3,1,1) := by decide +kernel
@[simp] theorem fd44_2 : tfield Tryz.prog 44 2 = some (28,2,1) := by decide +kernel
@[simp] theorem ze44 : vzero Tryz.prog 44 = some [.int .i64 0, .int .i64 0, .int .i64 0] := by rfl
@[simp] theorem bu44 (l : List (Nat × PV)) : vbuild Tryz.prog 44 l = (pfill (([(0,1),(1,1),(2,1)] : List (Nat × Nat))[·]?) [.int .i64 0, .int .i64 0, .int .i64 0] l).map .agg := by rfl
@[simp] theorem za44 : (azero Tryz.prog 44).bind pvcV = some (.agg [.int .i64 0, .int .i64 0, .int .i64 0]) := by rfl
@[simp] theorem ag48 : tagg Tryz.prog 48 = some true := by decide +kernel
@[simp] theorem sz48 : tsz Tryz.prog 48 = some 2 := by decide +kernel
@[simp] theorem fd48_0 : tfield Tryz.prog 48 0 = some (25,0,1) := by decide +kernel
@[simp] theorem fd48_1 : tfield Tryz.prog 48 1 = some (28,1,1) := by decide +kernel
@[simp] theorem ze48 : vzero Tryz.prog 48 = some [.sl0, .int .i64 0] := by rfl
@[simp] theorem bu48 (l : List (Nat × PV)) : vbuild Tryz.prog 48 l = (pfill (([(0,1),(1,1)] : List (Nat × Nat))[·]?) [.sl0, .int .i64 0] l).map .agg := by rfl
@[simp] theorem za48 : (azero Tryz.prog 48).bind pvcV = some (.agg [.sl0, .int .i64 0]) := by rfl
@[simp] theorem ag53 : tagg Tryz.prog 53 = some true := by decide +kernel
@[simp] theorem sz53 : tsz Tryz.prog 53 = some 2 := by decide +kernel
@[simp] theorem fd53_0 : tfield Tryz.prog 53 0 = some (3,0,1) := by decide +kernel
@[simp] theorem fd53_1 : tfield Tryz.prog 53 1 = some (28,1,1) := by decide +kernel
@[simp] theorem ze53 : vzero Tryz.prog 53 = some [.int .i64 0, .int .i64 0] := by rfl
@[simp] theorem bu53 (l : List (Nat × PV)) : vbuild Tryz.prog 53 l = (pfill (([(0,1),(1,1)] : List (Nat × Nat))[·]?) [.int .i64 0, .int .i64 0] l).map .agg := by rfl
@[simp] theorem za53 : (azero Tryz.prog 53).bind pvcV = some (.agg [.int .i64 0, .int .i64 0]) := by rfl
@[simp] theorem u57 : Tryz.prog.underlying 57 = some (.int .u16) := by rfl
@[simp] theorem ag57 : tagg Tryz.prog 57 = some false := by decide +kernel
@[simp] theorem sz57 : tsz Tryz.prog 57 = some 1 := by decide +kernel
@[simp] theorem ze57 : vzero Tryz.prog 57 = some [.int .u16 0] := by rfl
@[simp] theorem za57 : (azero Tryz.prog 57).bind pvcV = some (.int .u16 0) := by rfl
@[simp] theorem ag60 : tagg Tryz.prog 60 = some true := by decide +kernel
@[simp] theorem sz60 : tsz Tryz.prog 60 = some 2 := by decide +kernel
@[simp] theorem fd60_0 : tfield Tryz.prog 60 0 = some (3,0,1) := by decide +kernel
@[simp] theorem fd60_1 : tfield Tryz.prog 60 1 = some (3,1,1) := by decide +kernel
@[simp] theorem ze60 : vzero Tryz.prog 60 = some [.int .i64 0, .int .i64 0] := by rfl
@[simp] theorem bu60 (l : List (Nat × PV)) : vbuild Tryz.prog 60 l = (pfill (([(0,1),(1,1)] : List (Nat × Nat))[·]?) [.int .i64 0, .int .i64 0] l).map .agg := by rfl
@[simp] theorem za60 : (azero Tryz.prog 60).bind pvcV = some (.agg [.int .i64 0, .int .i64 0]) := by rfl
@[simp] theorem ag62 : tagg Tryz.prog 62 = some true := by decide +kernel
@[simp] theorem sz62 : tsz Tryz.prog 62 = some 7 := by decide +kernel
@[simp] theorem fd62_0 : tfield Tryz.prog 62 0 = some (3,0,1) := by decide +kernel
@[simp] theorem fd62_1 : tfield Tryz.prog 62 1 = some (3,1,1) := by decide +kernel
@[simp] theorem fd62_2 : tfield Tryz.prog 62 2 = some (25,2,1) := by decide +kernel
@[simp] theorem fd62_3 : tfield Tryz.prog 62 3 = some (25,3,1) := by decide +kernel
@[simp] theorem fd62_4 : tfield Tryz.prog 62 4 = some (25,4,1) := by decide +kernel
@[simp] theorem fd62_5 : tfield Tryz.prog 62 5 = some (60,5,2) := by decide +kernel
@[simp] theorem ze62 : vzero Tryz.prog 62 = some [.int .i64 0, .int .i64 0, .sl0, .sl0, .sl0, .int .i64 0, .int .i64 0] := by rfl
@[simp] theorem bu62 (l : List (Nat × PV)) : vbuild Tryz.prog 62 l = (pfill (([(0,1),(1,1),(2,1),(3,1),(4,1),(5,2)] : List (Nat × Nat))[·]?) [.int .i64 0, .int .i64 0, .sl0, .sl0, .sl0, .int .i64 0, .int .i64 0] l).map .agg := by rfl
@[simp] theorem za62 : (azero Tryz.prog 62).bind pvcV = some (.agg [.int .i64 0, .int .i64 0, .sl0, .sl0, .sl0, .int .i64 0, .int .i64 0]) := by rfl
@[simp] theorem ag67 : tagg Tryz.prog 67 = some false := by decide +kernel
@[simp] theorem sz67 : tsz Tryz.prog 67 = some 1 := by decide +kernel
@[simp] theorem ze67 : vzero Tryz.prog 67 = some [.nilFunc] := by rfl
@[simp] theorem za67 : (azero Tryz.prog 67).bind pvcV = some (.nilFunc) := by rfl
@[simp] theorem ag69 : tagg Tryz.prog 69 = some true := by decide +kernel
@[simp] theorem sz69 : tsz Tryz.prog 69 = some 2 := by decide +kernel
@[simp] theorem fd69_0 : tfield Tryz.prog 69 0 = some (24,0,1) := by decide +kernel
@[simp] theorem fd69_1 : tfield Tryz.prog 69 1 = some (28,1,1) := by decide +kernel
@[simp] theorem ze69 : vzero Tryz.prog 69 = some [.sl0, .int .i64 0] := by rfl
@[simp] theorem bu69 (l : List (Nat × PV)) : vbuild Tryz.prog 69 l = (pfill (([(0,1),(1,1)] : List (Nat × Nat))[·]?) [.sl0, .int .i64 0] l).map .agg := by rfl
@[simp] theorem za69 : (azero Tryz.prog 69).bind pvcV = some (.agg [.sl0, .int .i64 0]) := by rfl
@[simp] theorem u74 : Tryz.prog.underlying 74 = some (.slice 38) := by rfl
@[simp] theorem ag74 : tagg Tryz.prog 74 = some false := by decide +kernel
@[simp] theorem sz74 : tsz Tryz.prog 74 = some 1 := by decide +kernel
@[simp] theorem el74 : telem Tryz.prog 74 = some (38,2) := by decide +kernel
@[simp] theorem by74 : (Tryz.prog.info? 38).map (·.bytes) = some 16 := by decide +kernel
@[simp] theorem ze74 : vzero Tryz.prog 74 = some [.sl0] := by rfl
@[simp] theorem za74 : (azero Tryz.prog 74).bind pvcV = some (.sl0) := by rfl
@[simp] theorem ag83 : tagg Tryz.prog 83 = some true := by decide +kernel
@[simp] theorem sz83 : tsz Tryz.prog 83 = some 7 := by decide +kernel
@[simp] theorem fd83_0 : tfield Tryz.prog 83 0 = some (32,0,5) := by decide +kernel
@[simp] theorem fd83_1 : tfield Tryz.prog 83 1 = some (4,5,1) := by decide +kernel
@[simp] theorem fd83_2 : tfield Tryz.prog 83 2 = some (28,6,1) := by decide +kernel
@[simp] theorem ze83 : vzero Tryz.prog 83 = some [.int .i64 0, .int .i64 0, .int .i64 0, .int .i64 0, .int .i64 0, .bool false, .int .i64 0] := by rfl
@[simp] theorem bu83 (l : List (Nat × PV)) : vbuild Tryz.prog 83 l = (pfill (([(0,5),(5,1),(6,1)] : List (Nat × Nat))[·]?) [.int .i64 0, .int .i64 0, .int .i64 0, .int .i64 0, .int .i64 0, .bool false, .int .i64 0] l).map .agg := by rfl
@[simp] theorem za83 : (azero Tryz.prog 83).bind pvcV = some (.agg [.int .i64 0, .int .i64 0, .int .i64 0, .int .i64 0, .int .i64 0, .bool false, .int .i64 0]) := by rfl
@[simp] theorem u87 : Tryz.prog.underlying 87 = some (.slice 89) := by rfl
@[simp] theorem ag87 : tagg Tryz.prog 87 = some false := by decide +kernel
@[simp] theorem sz87 : tsz Tryz.prog 87 = some 1 := by decide +kernel
@[simp] theorem el87 : telem Tryz.prog 87 = some (89,5) := by decide +kernel
@[simp] theorem by87 : (Tryz.prog.info? 89).map (·.bytes) = some 5 := by decide +kernel
@[simp] theorem ze87 : vzero Tryz.prog 87 = some [.sl0] := by rfl
@[simp] theorem za87 : (azero Tryz.prog 87).bind pvcV = some (.sl0) := by rfl
@[simp] theorem ag89 : tagg Tryz.prog 89 = some true := by decide +kernel
@[simp] theorem sz89 : tsz Tryz.prog 89 = some 5 := by decide +kernel
@[simp] theorem fd89_0 : tfield Tryz.prog 89 0 = some (5,0,1) := by decide +kernel
@[simp] theorem fd89_1 : tfield Tryz.prog 89 1 = some (5,1,1) := by decide +kernel
@[simp] theorem fd89_2 : tfield Tryz.prog 89 2 = some (5,2,1) := by decide +kernel
@[simp] theorem fd89_3 : tfield Tryz.prog 89 3 = some (5,3,1) := by decide +kernel
@[simp] theorem fd89_4 : tfield Tryz.prog 89 4 = some (4,4,1) := by decide +kernel
@[simp] theorem ze89 : vzero Tryz.prog 89 = some [.int .u8 0, .int .u8 0, .int .u8 0, .int .u8 0, .bool false] := by rfl
@[simp] theorem bu89 (l : List (Nat × PV)) : vbuild Tryz.prog 89 l = (pfill (([(0,1),(1,1),(2,1),(3,1),(4,1)] : List (Nat × Nat))[·]?) [.int .u8 0, .int .u8 0, .int .u8 0, .int .u8 0, .bool false] l).map .agg := by rfl
@[simp] theorem za89 : (azero Tryz.prog 89).bind pvcV = some (.agg [.int .u8 0, .int .u8 0, .int .u8 0, .int .u8 0, .bool false]) := by rfl
@[simp] theorem ag92 : tagg Tryz.prog 92 = some true := by decide +kernel
@[simp] theorem sz92 : tsz Tryz.prog 92 = some 2 := by decide +kernel
@[simp] theorem fd92_0 : tfield Tryz.prog 92 0 = some (25,0,1) := by decide +kernel
@[simp] theorem fd92_1 : tfield Tryz.prog 92 1 = some (3,1,1) := by decide +kernel
@[simp] theorem ze92 : vzero Tryz.prog 92 = some [.sl0, .int .i64 0] := by rfl
@[simp] theorem bu92 (l : List (Nat × PV)) : vbuild Tryz.prog 92 l = (pfill (([(0,1),(1,1)] : List (Nat × Nat))[·]?) [.sl0, .int .i64 0] l).map .agg := by rfl
@[simp] theorem za92 : (azero Tryz.prog 92).bind pvcV = some (.agg [.sl0, .int .i64 0]) := by rfl
@[simp] theorem ag99 : tagg Tryz.prog 99 = some true := by decide +kernel
@[simp] theorem sz99 : tsz Tryz.prog 99 = some 2 := by decide +kernel
@[simp] theorem fd99_0 : tfield Tryz.prog 99 0 = some (74,0,1) := by decide +kernel
@[simp] theorem fd99_1 : tfield Tryz.prog 99 1 = some (28,1,1) := by decide +kernel
@[simp] theorem ze99 : vzero Tryz.prog 99 = some [.sl0, .int .i64 0] := by rfl
@[simp] theorem bu99 (l : List (Nat × PV)) : vbuild Tryz.prog 99 l = (pfill (([(0,1),(1,1)] : List (Nat × Nat))[·]?) [.sl0, .int .i64 0] l).map .agg := by rfl
@[simp] theorem za99 : (azero Tryz.prog 99).bind pvcV = some (.agg [.sl0, .int .i64 0]) := by rfl
@[simp] theorem u105 : Tryz.prog.underlying 105 = some (.slice 5) := by rfl
@[simp] theorem ag105 : tagg Tryz.prog 105 = some false := by decide +kernel
@[simp] theorem sz105 : tsz Tryz.prog 105 = some 1 := by decide +kernel
@[simp] theorem el105 : telem Tryz.prog 105 = some (5,1) := by decide +kernel
@[simp] theorem by105 : (Tryz.prog.info? 5).map (·.bytes) = some 1 := by decide +kernel
@[simp] theorem ze105 : vzero Tryz.prog 105 = some [.sl0] := by rfl
@[simp] theorem za105 : (azero Tryz.prog 105).bind pvcV = some (.sl0) := by rfl
@[simp] theorem ag114 : tagg Tryz.prog 114 = some true := by decide +kernel
@[simp] theorem sz114 : tsz Tryz.prog 114 = some 3 := by decide +kernel
@[simp] theorem fd114_0 : tfield Tryz.prog 114 0 = some (25,0,1) := by decide +kernel
@[simp] theorem fd114_1 : tfield Tryz.prog 114 1 = some (25,1,1) := by decide +kernel
@[simp] theorem fd114_2 : tfield Tryz.prog 114 2 = some (28,2,1) := by decide +kernel
@[simp] theorem ze114 : vzero Tryz.prog 114 = some [.sl0, .sl0, .int .i64 0] := by rfl
@[simp] theorem bu114 (l : List (Nat × PV)) : vbuild Tryz.prog 114 l = (pfill (([(0,1),(1,1),(2,1)] : List (Nat × Nat))[·]?) [.sl0, .sl0, .int .i64 0] l).map .agg := by rfl
@[simp] theorem za114 : (azero Tryz.prog 114).bind pvcV = some (.agg [.sl0, .sl0, .int .i64 0]) := by rfl
@[simp] theorem u121 : Tryz.prog.underlying 121 = some (.slice 189) := by rfl
@[simp] theorem ag121 : tagg Tryz.prog 121 = some false := by decide +kernel
@[simp] theorem sz121 : tsz Tryz.prog 121 = some 1 := by decide +kernel
@[simp] theorem el121 : telem Tryz.prog 121 = some (189,3) := by decide +kernel
@[simp] theorem by121 : (Tryz.prog.info? 189).map (·.bytes) = some 56 := by decide +kernel
@[simp] theorem ze121 : vzero Tryz.prog 121 = some [.sl0] := by rfl
@[simp] theorem za121 : (azero Tryz.prog 121).bind pvcV = some (.sl0) := by rfl
@[simp] theorem ag123 : tagg Tryz.prog 123 = some true := by decide +kernel
@[simp] theorem sz123 : tsz Tryz.prog 123 = some 1 := by decide +kernel
@[simp] theorem fd123_0 : tfield Tryz.prog 123 0 = some (121,0,1) := by decide +kernel
@[simp] theorem ze123 : vzero Tryz.prog 123 = some [.sl0] := by rfl
@[simp] theorem bu123 (l : List (Nat × PV)) : vbuild Tryz.prog 123 l = (pfill (([(0,1)] : List (Nat × Nat))[·]?) [.sl0] l).map .agg := by rfl
@[simp] theorem za123 : (azero Tryz.prog 123).bind pvcV = some (.agg [.sl0]) := by rfl
@[simp] theorem u139 : Tryz.prog.underlying 139 = some (.map 3 144) := by rfl
@[simp] theorem ag139 : tagg Tryz.prog 139 = some false := by decide +kernel
@[simp] theorem sz139 : tsz Tryz.prog 139 = some 1 := by decide +kernel
@[simp] theorem ky139 : tkey Tryz.prog 139 = some (3,144) := by decide +kernel
@[simp] theorem ze139 : vzero Tryz.prog 139 = some [.map0] := by rfl
@[simp] theorem za139 : (azero Tryz.prog 139).bind pvcV = some (.map0) := by rfl
@[simp] theorem u143 : Tryz.prog.underlying 143 = some (.int .u32) := by rfl
@[simp] theorem ag143 : tagg Tryz.prog 143 = some false := by decide +kernel
@[simp] theorem sz143 : tsz Tryz.prog 143 = some 1 := by decide +kernel
@[simp] theorem ze143 : vzero Tryz.prog 143 = some [.int .u32 0] := by rfl
@[simp] theorem za143 : (azero Tryz.prog 143).bind pvcV = some (.int .u32 0) := by rfl
@[simp] theorem u144 : Tryz.prog.underlying 144 = some (.int .u32) := by rfl
@[simp] theorem ag144 : tagg Tryz.prog 144 = some false := by decide +kernel
@[simp] theorem sz144 : tsz Tryz.prog 144 = some 1 := by decide +kernel
@[simp] theorem ze144 : vzero Tryz.prog 144 = some [.int .u32 0] := by rfl
@[simp] theorem za144 : (azero Tryz.prog 144).bind pvcV = some (.int .u32 0) := by rfl
@[simp] theorem u145 : Tryz.prog.underlying 145 = some (.array 3 144) := by rfl
@[simp] theorem ag145 : tagg Tryz.prog 145 = some true := by decide +kernel
@[simp] theorem sz145 : tsz Tryz.prog 145 = some 3 := by decide +kernel
@[simp] theorem ar145 : tarr Tryz.prog 145 = some (3,144,1) := by decide +kernel
@[simp] theorem ze145 : vzero Tryz.prog 145 = some [.int .u32 0, .int .u32 0, .int .u32 0] := by rfl
@[simp] theorem bu145 (l : List (Nat × PV)) : vbuild Tryz.prog 145 l = (pfill (fun i => some (i * 1,1)) [.int .u32 0, .int .u32 0, .int .u32 0] l).map .agg := by rfl
@[simp] theorem za145 : (azero Tryz.prog 145).bind pvcV = some (.agg [.int .u32 0, .int .u32 0, .int .u32 0]) := by rfl
@[simp] theorem u151 : Tryz.prog.underlying 151 = some (.pointer 62) := by rfl
@[simp] theorem ag151 : tagg Tryz.prog 151 = some false := by decide +kernel
@[simp] theorem sz151 : tsz Tryz.prog 151 = some 1 := by decide +kernel
@[simp] theorem ze151 : vzero Tryz.prog 151 = some [.ptr0] := by rfl
@[simp] theorem za151 : (azero Tryz.prog 151).bind pvcV = some (.ptr0) := by rfl
@[simp] theorem u163 : Tryz.prog.underlying 163 = some (.slice 168) := by rfl
@[simp] theorem ag163 : tagg Tryz.prog 163 = some false := by decide +kernel
@[simp] theorem sz163 : tsz Tryz.prog 163 = some 1 := by decide +kernel
@[simp] theorem el163 : telem Tryz.prog 163 = some (168,2) := by decide +kernel
@[simp] theorem by163 : (Tryz.prog.info? 168).map (·.bytes) = some 32 := by decide +kernel
@[simp] theorem ze163 : vzero Tryz.prog 163 = some [.sl0] := by rfl
@[simp] theorem za163 : (azero Tryz.prog 163).bind pvcV = some (.sl0) := by rfl
@[simp] theorem ag168 : tagg Tryz.prog 168 = some true := by decide +kernel
@[simp] theorem sz168 : tsz Tryz.prog 168 = some 2 := by decide +kernel
@[simp] theorem fd168_0 : tfield Tryz.prog 168 0 = some (25,0,1) := by decide +kernel
@[simp] theorem fd168_1 : tfield Tryz.prog 168 1 = some (3,1,1) := by decide +kernel
@[simp] theorem ze168 : vzero Tryz.prog 168 = some [.sl0, .int .i64 0] := by rfl
@[simp] theorem bu168 (l : List (Nat × PV)) : vbuild Tryz.prog 168 l = (pfill (([(0,1),(1,1)] : List (Nat × Nat))[·]?) [.sl0, .int .i64 0] l).map .agg := by rfl
@[simp] theorem za168 : (azero Tryz.prog 168).bind pvcV = some (.agg [.sl0, .int .i64 0]) := by rfl
@[simp] theorem u171 : Tryz.prog.underlying 171 = some (.map 3 4) := by rfl
@[simp] theorem ag171 : tagg Tryz.prog 171 = some false := by decide +kernel
@[simp] theorem sz171 : tsz Tryz.prog 171 = some 1 := by decide +kernel
@[simp] theorem ky171 : tkey Tryz.prog 171 = some (3,4) := by decide +kernel
@[simp] theorem ze171 : vzero Tryz.prog 171 = some [.map0] := by rfl
@[simp] theorem za171 : (azero Tryz.prog 171).bind pvcV = some (.map0) := by rfl
@[simp] theorem ag173 : tagg Tryz.prog 173 = some false := by decide +kernel
@[simp] theorem sz173 : tsz Tryz.prog 173 = some 1 := by decide +kernel
@[simp] theorem ze173 : vzero Tryz.prog 173 = some [.nilFunc] := by rfl
@[simp] theorem za173 : (azero Tryz.prog 173).bind pvcV = some (.nilFunc) := by rfl
@[simp] theorem ag174 : tagg Tryz.prog 174 = some false := by decide +kernel
@[simp] theorem sz174 : tsz Tryz.prog 174 = some 1 := by decide +kernel
@[simp] theorem ze174 : vzero Tryz.prog 174 = some [.nilFunc] := by rfl
@[simp] theorem za174 : (azero Tryz.prog 174).bind pvcV = some (.nilFunc) := by rfl
@[simp] theorem ag189 : tagg Tryz.prog 189 = some true := by decide +kernel
@[simp] theorem sz189 : tsz Tryz.prog 189 = some 3 := by decide +kernel
@[simp] theorem fd189_0 : tfield Tryz.prog 189 0 = some (3,0,1) := by decide +kernel
@[simp] theorem fd189_1 : tfield Tryz.prog 189 1 = some (25,1,1) := by decide +kernel
@[simp] theorem fd189_2 : tfield Tryz.prog 189 2 = some (25,2,1) := by decide +kernel
@[simp] theorem ze189 : vzero Tryz.prog 189 = some [.int .i64 0, .sl0, .sl0] := by rfl
@[simp] theorem bu189 (l : List (Nat × PV)) : vbuild Tryz.prog 189 l = (pfill (([(0,1),(1,1),(2,1)] : List (Nat × Nat))[·]?) [.int .i64 0, .sl0, .sl0] l).map .agg := by rfl
@[simp] theorem za189 : (azero Tryz.prog 189).bind pvcV = some (.agg [.int .i64 0, .sl0, .sl0]) := by rfl
@[simp] theorem u191 : Tryz.prog.underlying 191 = some (.slice 25) := by rfl
@[simp] theorem ag191 : tagg Tryz.prog 191 = some false := by decide +kernel
@[simp] theorem sz191 : tsz Tryz.prog 191 = some 1 := by decide +kernel
@[simp] theorem el191 : telem Tryz.prog 191 = some (25,1) := by decide +kernel
@[simp] theorem by191 : (Tryz.prog.info? 25).map (·.bytes) = some 24 := by decide +kernel
@[simp] theorem ze191 : vzero Tryz.prog 191 = some [.sl0] := by rfl
@[simp] theorem za191 : (azero Tryz.prog 191).bind pvcV = some (.sl0) := by rfl
@[simp] theorem u196 : Tryz.prog.underlying 196 = some (.array 2 3) := by rfl
@[simp] theorem ag196 : tagg Tryz.prog 196 = some true := by decide +kernel
@[simp] theorem sz196 : tsz Tryz.prog 196 = some 2 := by decide +kernel
@[simp] theorem ar196 : tarr Tryz.prog 196 = some (2,3,1) := by decide +kernel
@[simp] theorem ze196 : vzero Tryz.prog 196 = some [.int .i64 0, .int .i64 0] := by rfl
@[simp] theorem bu196 (l : List (Nat × PV)) : vbuild Tryz.prog 196 l = (pfill (fun i => some (i * 1,1)) [.int .i64 0, .int .i64 0] l).map .agg := by rfl
@[simp] theorem za196 : (azero Tryz.prog 196).bind pvcV = some (.agg [.int .i64 0, .int .i64 0]) := by rfl
@[simp] theorem ag199 : tagg Tryz.prog 199 = some false := by decide +kernel
@[simp] theorem sz199 : tsz Tryz.prog 199 = some 1 := by decide +kernel
@[simp] theorem ze199 : vzero Tryz.prog 199 = some [.nilFunc] := by rfl
@[simp] theorem za199 : (azero Tryz.prog 199).bind pvcV = some (.nilFunc) := by rfl
@[simp] theorem ag219 : tagg Tryz.prog 219 = some false := by decide +kernel
@[simp] theorem sz219 : tsz Tryz.prog 219 = some 1 := by decide +kernel
@[simp] theorem ze219 : vzero Tryz.prog 219 = some [.nilFunc] := by rfl
@[simp] theorem za219 : (azero Tryz.prog 219).bind pvcV = some (.nilFunc) := by rfl
@[simp] theorem u223 : Tryz.prog.underlying 223 = some (.map 3 3) := by rfl
@[simp] theorem ag223 : tagg Tryz.prog 223 = some false := by decide +kernel
@[simp] theorem sz223 : tsz Tryz.prog 223 = some 1 := by decide +kernel
@[simp] theorem ky223 : tkey Tryz.prog 223 = some (3,3) := by decide +kernel
@[simp] theorem ze223 : vzero Tryz.prog 223 = some [.map0] := by rfl
@[simp] theorem za223 : (azero Tryz.prog 223).bind pvcV = some (.map0) := by rfl
@[simp] theorem u226 : Tryz.prog.underlying 226 = some (.int .u64) := by rfl
@[simp] theorem ag226 : tagg Tryz.prog 226 = some false := by decide +kernel
@[simp] theorem sz226 : tsz Tryz.prog 226 = some 1 := by decide +kernel
@[simp] theorem ze226 : vzero Tryz.prog 226 = some [.int .u64 0] := by rfl
@[simp] theorem za226 : (azero Tryz.prog 226).bind pvcV = some (.int .u64 0) := by rfl
@[simp] theorem u230 : Tryz.prog.underlying 230 = some (.slice 171) := by rfl
@[simp] theorem ag230 : tagg Tryz.prog 230 = some false := by decide +kernel
@[simp] theorem sz230 : tsz Tryz.prog 230 = some 1 := by decide +kernel
@[simp] theorem el230 : telem Tryz.prog 230 = some (171,1) := by decide +kernel
@[simp] theorem by230 : (Tryz.prog.info? 171).map (·.bytes) = some 8 := by decide +kernel
@[simp] theorem ze230 : vzero Tryz.prog 230 = some [.sl0] := by rfl
@[simp] theorem za230 : (azero Tryz.prog 230).bind pvcV = some (.sl0) := by rfl
@[simp] theorem ag231 : tagg Tryz.prog 231 = some false := by decide +kernel
@[simp] theorem sz231 : tsz Tryz.prog 231 = some 1 := by decide +kernel
@[simp] theorem ze231 : vzero Tryz.prog 231 = some [.nilFunc] := by rfl
@[simp] theorem za231 : (azero Tryz.prog 231).bind pvcV = some (.nilFunc) := by rfl
@[simp] theorem ag233 : tagg Tryz.prog 233 = some false := by decide +kernel
@[simp] theorem sz233 : tsz Tryz.prog 233 = some 1 := by decide +kernel
@[simp] theorem ze233 : vzero Tryz.prog 233 = some [.nilFunc] := by rfl
@[simp] theorem za233 : (azero Tryz.prog 233).bind pvcV = some (.nilFunc) := by rfl
@[simp] theorem u236 : Tryz.prog.underlying 236 = some (.int .i64) := by rfl
@[simp] theorem ag236 : tagg Tryz.prog 236 = some false := by decide +kernel
@[simp] theorem sz236 : tsz Tryz.prog 236 = some 1 := by decide +kernel
@[simp] theorem ze236 : vzero Tryz.prog 236 = some [.int .i64 0] := by rfl
@[simp] theorem za236 : (azero Tryz.prog 236).bind pvcV = some (.int .i64 0) := by rfl
@[simp] theorem u243 : Tryz.prog.underlying 243 = some (.int .u64) := by rfl
@[simp] theorem ag243 : tagg Tryz.prog 243 = some false := by decide +kernel
@[simp] theorem sz243 : tsz Tryz.prog 243 = some 1 := by decide +kernel
@[simp] theorem ze243 : vzero Tryz.prog 243 = some [.int .u64 0] := by rfl
@[simp] theorem za243 : (azero Tryz.prog 243).bind pvcV = some (.int .u64 0) := by rfl
@[simp] theorem u247 : Tryz.prog.underlying 247 = some (.int .u64) := by rfl
@[simp] theorem ag247 : tagg Tryz.prog 247 = some false := by decide +kernel
@[simp] theorem sz247 : tsz Tryz.prog 247 = some 1 := by decide +kernel
@[simp] theorem ze247 : vzero Tryz.prog 247 = some [.int .u64 0] := by rfl
@[simp] theorem za247 : (azero Tryz.prog 247).bind pvcV = some (.int .u64 0) := by rfl
@[simp] theorem u251 : Tryz.prog.underlying 251 = some (.pointer 3) := by rfl
@[simp] theorem ag251 : tagg Tryz.prog 251 = some false := by decide +kernel
@[simp] theorem sz251 : tsz Tryz.prog 251 = some 1 := by decide +kernel
@[simp] theorem ze251 : vzero Tryz.prog 251 = some [.ptr0] := by rfl
@[simp] theorem za251 : (azero Tryz.prog 251).bind pvcV = some (.ptr0) := by rfl
end Go.Am.Ds
end
section
namespace Go.Am.Ds
open Go Go.Am Go.Proofs
theorem zz0 {p : Prop} (h : p := by decide +kernel) : p := h
theorem zz1 {p : Prop} (h : p := by simp [*] <;> first | exact ⟨rfl, rfl⟩ | exact rfl) : p := h
theorem zz2 {p : Prop} (h : p := by repeat' (first | exact trivial | refine And.intro (Exists.intro _ (And.intro rfl ?_)) ?_ | (refine Alt.same _ ?_; first | rfl | (simp [*]; done)) | exact Alt.mapv _ _ (Nat.le_of_ble_eq_true rfl) rfl | exact Alt.grow _ _ _ _ (Nat.le_of_ble_eq_true rfl) rfl | (refine Alt.growE _ _ _ _ _ ?_ (Nat.le_of_ble_eq_true rfl) rfl; simp [*]; done) | exact Alt.ptr _ _ _ (Nat.le_of_ble_eq_true rfl) rfl | exact Alt.own _ _ _ _ _ (Nat.le_of_ble_eq_true rfl) rfl | exact Alt.sl0 _ _ | exact Alt.e0 _ | exact Alt.own0 _ _ _)) : p := h
theorem zz3 {p : Prop} (h : p := by repeat' (first | exact trivial | refine And.intro (And.intro (Nat.le_of_ble_eq_true rfl) (Or.inr (And.intro rfl (Exists.intro _ (And.intro rfl ?_))))) ?_ | refine And.intro (And.intro (Nat.le_of_ble_eq_true rfl) (Or.inl (Exists.intro _ (And.intro rfl (Nat.le_of_ble_eq_true rfl))))) ?_ | rfl | exact AltL.nil | (refine congrArg (VObj.grow _) ?_; simp [*]; done) | (refine congrArg VObj.map ?_; simp [*]; done) | refine AltL.cons ?_ ?_ | (refine Alt.same _ ?_; first | rfl | (simp [*]; done)) | exact Alt.mapv _ _ (Nat.le_of_ble_eq_true rfl) rfl | exact Alt.grow _ _ _ _ (Nat.le_of_ble_eq_true rfl) rfl | (refine Alt.growE _ _ _ _ _ ?_ (Nat.le_of_ble_eq_true rfl) rfl; simp [*]; done) | exact Alt.ptr _ _ _ (Nat.le_of_ble_eq_true rfl) rfl | exact Alt.own _ _ _ _ _ (Nat.le_of_ble_eq_true rfl) rfl | exact Alt.sl0 _ _ | exact Alt.e0 _ | exact Alt.own0 _ _ _)) : p := h
theorem zz4 {p : Prop} (h : p := by simp <;> rfl) : p := h
theorem zz5 {p : Prop} (h : p := by first | omega | (simp; omega)) : p := h
theorem zz6 {p : Prop} (h : p := by repeat' (first | exact trivial | refine And.intro (Exists.intro _ (And.intro rfl ?_)) ?_ | (refine Alt.same _ ?_; first | rfl | (simp [*]; done)) | exact Alt.mapv _ _ (Nat.le_of_ble_eq_true rfl) rfl | exact Alt.grow _ _ _ _ (Nat.le_of_ble_eq_true rfl) rfl | (refine Alt.growE _ _ _ _ _ ?_ (Nat.le_of_ble_eq_true rfl) rfl; simp [*]; done) | exact Alt.ptr _ _ _ (Nat.le_of_ble_eq_true rfl) rfl | exact Alt.own _ _ _ _ _ (Nat.le_of_ble_eq_true rfl) rfl | exact Alt.sub _ _ _ _ (Nat.le_of_ble_eq_true rfl) rfl | exact Alt.yld _ _ (Nat.le_of_ble_eq_true rfl) rfl | exact Alt.sl0 _ _ | exact Alt.e0 _ | exact Alt.own0 _ _ _)) : p := h
theorem zz7 {p : Prop} (h : p := by repeat' (first | exact trivial | refine And.intro (And.intro (Nat.le_of_ble_eq_true rfl) (Or.inr (And.intro rfl (Exists.intro _ (And.intro rfl ?_))))) ?_ | refine And.intro (And.intro (Nat.le_of_ble_eq_true rfl) (Or.inl (Exists.intro _ (And.intro rfl (Nat.le_of_ble_eq_true rfl))))) ?_ | rfl | exact AltL.nil | (refine congrArg (VObj.grow _) ?_; simp [*]; done) | (refine congrArg VObj.map ?_; simp [*]; done) | (refine congrArg (VObj.arr _ _) ?_; simp [*]; done) | refine AltLp.mk rfl rfl rfl rfl rfl ?_ | refine And.intro (Exists.intro _ (And.intro rfl ?_)) ?_ | refine AltL.cons ?_ ?_ | (refine Alt.same _ ?_; first | rfl | (simp [*]; done)) | exact Alt.mapv _ _ (Nat.le_of_ble_eq_true rfl) rfl | exact Alt.grow _ _ _ _ (Nat.le_of_ble_eq_true rfl) rfl | (refine Alt.growE _ _ _ _ _ ?_ (Nat.le_of_ble_eq_true rfl) rfl; simp [*]; done) | exact Alt.ptr _ _ _ (Nat.le_of_ble_eq_true rfl) rfl | exact Alt.own _ _ _ _ _ (Nat.le_of_ble_eq_true rfl) rfl | exact Alt.sub _ _ _ _ (Nat.le_of_ble_eq_true rfl) rfl | exact Alt.yld _ _ (Nat.le_of_ble_eq_true rfl) rfl | exact Alt.sl0 _ _ | exact Alt.e0 _ | exact Alt.own0 _ _ _)) : p := h
theorem zz14 {p : Prop} (h : p := by repeat' (first | exact trivial | refine And.intro (Exists.intro _ (And.intro rfl ?_)) ?_ | (refine Alt.same _ ?_; first | rfl | (simp [*]; done)) | exact Alt.mapv _ _ (Nat.le_of_ble_eq_true rfl) rfl | exact Alt.grow _ _ _ _ (Nat.le_of_ble_eq_true rfl) rfl | (refine Alt.growE _ _ _ _ _ ?_ (Nat.le_of_ble_eq_true rfl) rfl; simp [*]; done) | exact Alt.ptr _ _ _ (Nat.le_of_ble_eq_true rfl) rfl | exact Alt.own _ _ _ _ _ (Nat.le_of_ble_eq_true rfl) rfl | exact Alt.sub _ _ _ _ (Nat.le_of_ble_eq_true rfl) rfl | exact Alt.yld _ _ (Nat.le_of_ble_eq_true rfl) rfl | exact Alt.sl0 _ _ | (refine Alt.sl0E _ _ _ ?_; simp [*]; done) | exact Alt.e0 _ | exact Alt.sl0v | exact Alt.own0 _ _ _ | (refine Alt.fgrow _ _ _ _ _ rfl rfl ?_; simp [*]; done) | (refine Alt.sl0vE ?_; simp [*] <;> rfl) | (refine Alt.ofEq rfl ?_; simp [*]; done))) : p := h
theorem zz15 {p : Prop} (h : p := by repeat' (first | exact trivial | refine And.intro (And.intro (Nat.le_of_ble_eq_true rfl) (Or.inr (And.intro rfl (Exists.intro _ (And.intro rfl ?_))))) ?_ | refine And.intro (And.intro (Nat.le_of_ble_eq_true rfl) (Or.inl (Exists.intro _ (And.intro rfl (Nat.le_of_ble_eq_true rfl))))) ?_ | refine And.intro (And.intro (Nat.le_of_ble_eq_true rfl) (Or.inl (Exists.intro _ (And.intro (congrArg (VObj.grow _) (by simp [*])) (Nat.le_of_ble_eq_true rfl))))) ?_ | rfl | exact AltL.nil | (refine congrArg (VObj.grow _) ?_; simp [*]; done) | (refine congrArg VObj.map ?_; simp [*]; done) | (refine congrArg (VObj.arr _ _) ?_; simp [*]; done) | refine AltLp.mk rfl rfl rfl rfl rfl ?_ | refine And.intro (Exists.intro _ (And.intro rfl ?_)) ?_ | refine AltL.cons ?_ ?_ | (refine Alt.same _ ?_; first | rfl | (simp [*]; done)) | exact Alt.mapv _ _ (Nat.le_of_ble_eq_true rfl) rfl | exact Alt.grow _ _ _ _ (Nat.le_of_ble_eq_true rfl) rfl | (refine Alt.growE _ _ _ _ _ ?_ (Nat.le_of_ble_eq_true rfl) rfl; simp [*]; done) | exact Alt.ptr _ _ _ (Nat.le_of_ble_eq_true rfl) rfl | exact Alt.own _ _ _ _ _ (Nat.le_of_ble_eq_true rfl) rfl | exact Alt.sub _ _ _ _ (Nat.le_of_ble_eq_true rfl) rfl | exact Alt.yld _ _ (Nat.le_of_ble_eq_true rfl) rfl | exact Alt.sl0 _ _ | (refine Alt.sl0E _ _ _ ?_; simp [*]; done) | exact Alt.e0 _ | exact Alt.sl0v | exact Alt.own0 _ _ _ | (refine Alt.fgrow _ _ _ _ _ rfl rfl ?_; simp [*]; done) | (refine Alt.sl0vE ?_; simp [*] <;> rfl) | (refine Alt.ofEq rfl ?_; simp [*]; done))) : p := h
end Go.Am.Ds
namespace Go.Am
open Go Go.Proofs
section
variable {P : Program} {N b : Nat} {K : VTs → VHeap → Prop} {vts vts' : VTs} {vh vh' : VHeap} {ops : Array Oper}
theorem VOps.rn (l r : List Nat) (k : VOps P N b ops K r vts' vh') (hd : dstsB N ops = true := by decide +kernel) (hr : vrun P N ops l vts vh = some (vts', vh') := by simp [*] <;> first | exact ⟨rfl, rfl⟩ | exact rfl) : VOps P N b ops K (l ++ r) vts vh := .run hd hr k
theorem VW.rn {Q : VPost} {id : Nat} (k : Q .normal vts' vh') (hd : dstsB N ops = true := by decide +kernel) (hr : vrun P N ops (List.range ops.size) vts vh = some (vts', vh') := by simp [*] <;> first | exact ⟨rfl, rfl⟩ | exact rfl) : VW P N b (.region id ops false) Q vts vh := .run hd hr k
end
end Go.Am
end
