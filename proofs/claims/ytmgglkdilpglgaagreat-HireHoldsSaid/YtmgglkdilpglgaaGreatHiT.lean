/-
 What is used in the proof of a statement (part HiT); no condition.
-/
import Derived.Test.YtmgglkdilpglgaaGreatProg
import Derived.ProofKit
import Derived.Test.YtmgglkdilpglgaaGreatAm2
import Derived.Test.YtmgglkdilpglgaaGreatAm3
import Derived.Test.YtmgglkdilpglgaaGreatVm1
set_option linter.all false
set_option maxHeartbeats 40000000
set_option maxRecDepth 100000
section
namespace Go.Am.Hi
open Go Go.Am Go.Proofs
def so (a n:Nat):List SItem:=(List.range' a n).map .op
def dd15:List (Nat×DD):=[(17,⟨[0,0,3,7,15,31,63,127,255,511,1023,511,4095,8191,16383,32767,32767,131071,262143,524287,1048575,2097151,4194303,8388607,16777215,33554431,67108863,134217727,134217727,134217727,134217727,2147483647,4294967295,8589934591,17179869183],[1,2,11,12,15,17,27,31],[30,29,28],(so 0 12++[.ck 10,.op 12,.op 13,.op 14,.op 16,.op 15,.ck 16]++so 17 10++[.op 28,.op 29,.op 30,.op 27]++so 31 4)⟩)]
theorem ok15:FEOK Tryz.prog (15,feOf Tryz.f15 dd15):=⟨Tryz.func15,rfl,by decide +kernel,Tryz.call15⟩
def dd16:List (Nat×DD):=[(6,⟨[0,1,3,7,15,31,0,64,192,511],[2,3,4],[],[.op 0,.op 1,.op 6,.op 7,.op 8,.op 2,.ck 8,.ck 7,.op 3,.ck 8,.ck 7,.op 4,.ck 8,.ck 7,.op 5,.op 9]⟩)]
theorem ok16:FEOK Tryz.prog (16,feOf Tryz.f16 dd16):=⟨Tryz.func16,rfl,by decide +kernel,Tryz.call16⟩
def dd18:List (Nat×DD):=[]
theorem ok18:FEOK Tryz.prog (18,feOf Tryz.f18 dd18):=⟨Tryz.func18,rfl,by decide +kernel,Tryz.call18⟩
def dd22:List (Nat×DD):=[]
theorem ok22:FEOK Tryz.prog (22,feOf Tryz.f22 dd22):=⟨Tryz.func22,rfl,by decide +kernel,Tryz.call22⟩
def dd24:List (Nat×DD):=[]
theorem ok24:FEOK Tryz.prog (24,feOf Tryz.f24 dd24):=⟨Tryz.func24,rfl,by decide +kernel,Tryz.call24⟩
def dd26:List (Nat×DD):=[(6,⟨[0,0,3,7,0,0,48,112,255],[],[],so 0 9⟩)]
theorem ok26:FEOK Tryz.prog (26,feOf Tryz.f26 dd26):=⟨Tryz.func26,rfl,by decide +kernel,Tryz.call26⟩
def dd27:List (Nat×DD):=[(6,⟨[0,0,3,7,0,0,48,112,255],[],[],so 0 9⟩)]
theorem ok27:FEOK Tryz.prog (27,feOf Tryz.f27 dd27):=⟨Tryz.func27,rfl,by decide +kernel,Tryz.call27⟩
def dd32:List (Nat×DD):=[]
theorem ok32:FEOK Tryz.prog (32,feOf Tryz.f32 dd32):=⟨Tryz.func32,rfl,by decide +kernel,Tryz.call32⟩
def dd34:List (Nat×DD):=[(9,⟨[0,0,3,7,0,16,0,112,240,511,1023,2047,2047,8191,16383,2047,34815,2047,231423,493567,1048575,2097151,4194303,8388607,4194303,33554431,67108863,4194303,138412031,4194303,943718399,2017460223,4294967295,8589934591,17179869183],[],[],so 0 35⟩),(12,⟨[0,0,3,7,0,16,0,112,240,511],[],[],so 0 10⟩)]
theorem ok34:FEOK Tryz.prog (34,feOf Tryz.f34 dd34):=⟨Tryz.func34,rfl,by decide +kernel,Tryz.call34⟩
def dd38:List (Nat×DD):=[(10,⟨[0,1,0,7,15,0,32,96,255,511,1023,2047,4095,2047,10239,2047,59391,124927,262143,524287,2047,1050623,2047,7342079,15730687,33554431,67108863],[8],[],so 0 27⟩),(15,⟨[0,1,0,7,15,0,32,0,224,480,1023,2047,4095,4095,4095,32767,4095,4095,4095,266239,4095,1839103,3936255,8388607,16777215,33554431],[15,23],[],(so 0 15++so 16 7++[.op 15,.ck 22,.ck 19,.ck 16,.op 23,.op 24,.op 25])⟩)]
theorem ok38:FEOK Tryz.prog (38,feOf Tryz.f38 dd38):=⟨Tryz.func38,rfl,by decide +kernel,Tryz.call38⟩
def dd39:List (Nat×DD):=[]
theorem ok39:FEOK Tryz.prog (39,feOf Tryz.f39 dd39):=⟨Tryz.func39,rfl,by decide +kernel,Tryz.call39⟩
def dd40:List (Nat×DD):=[(12,⟨[0,0,3,7,0,16,48,112,255,511,1023,2047,2047,8191,16383,2047,65535,131071],[8],[],so 0 18⟩),(17,⟨[0,0,3,0,0,24,56,127,255],[7],[],so 0 9⟩)]
theorem ok40:FEOK Tryz.prog (40,feOf Tryz.f40 dd40):=⟨Tryz.func40,rfl,by decide +kernel,Tryz.call40⟩
def dd42:List (Nat×DD):=[]
theorem ok42:FEOK Tryz.prog (42,feOf Tryz.f42 dd42):=⟨Tryz.func42,rfl,by decide +kernel,Tryz.call42⟩
def dd46:List (Nat×DD):=[(15,⟨[0,0,2,0,0,16,0,64,0,256,199,2047],[10,11],[],(so 0 11++[.ck 9,.ck 5,.op 11])⟩)]
theorem ok46:FEOK Tryz.prog (46,feOf Tryz.f46 dd46):=⟨Tryz.func46,rfl,by decide +kernel,Tryz.call46⟩
def dd48:List (Nat×DD):=[]
theorem ok48:FEOK Tryz.prog (48,feOf Tryz.f48 dd48):=⟨Tryz.func48,rfl,by decide +kernel,Tryz.call48⟩
def dd50:List (Nat×DD):=[(6,⟨[0,0,3,7,0,0,48,112,255,511],[8],[],so 0 10⟩)]
theorem ok50:FEOK Tryz.prog (50,feOf Tryz.f50 dd50):=⟨Tryz.func50,rfl,by decide +kernel,Tryz.call50⟩
def dd52:List (Nat×DD):=[]
theorem ok52:FEOK Tryz.prog (52,feOf Tryz.f52 dd52):=⟨Tryz.func52,rfl,by decide +kernel,Tryz.call52⟩
def dd56:List (Nat×DD):=[]
theorem ok56:FEOK Tryz.prog (56,feOf Tryz.f56 dd56):=⟨Tryz.func56,rfl,by decide +kernel,Tryz.call56⟩
def dd61:List (Nat×DD):=[(4,⟨[0,0,2,0,0,31,63,127],[2,5],[],[.op 0,.op 1,.op 3,.op 4,.op 2,.ck 0,.op 5,.op 6,.op 7]⟩)]
theorem ok61:FEOK Tryz.prog (61,feOf Tryz.f61 dd61):=⟨Tryz.func61,rfl,by decide +kernel,Tryz.call61⟩
def dd64:List (Nat×DD):=[]
theorem ok64:FEOK Tryz.prog (64,feOf Tryz.f64 dd64):=⟨Tryz.func64,rfl,by decide +kernel,Tryz.call64⟩
def dd65:List (Nat×DD):=[]
theorem ok65:FEOK Tryz.prog (65,feOf Tryz.f65 dd65):=⟨Tryz.func65,rfl,by decide +kernel,Tryz.call65⟩
def dd66:List (Nat×DD):=[]
theorem ok66:FEOK Tryz.prog (66,feOf Tryz.f66 dd66):=⟨Tryz.func66,rfl,by decide +kernel,Tryz.call66⟩
def dd67:List (Nat×DD):=[]
theorem ok67:FEOK Tryz.prog (67,feOf Tryz.f67 dd67):=⟨Tryz.func67,rfl,by decide +kernel,Tryz.call67⟩
def dd68:List (Nat×DD):=[]
theorem ok68:FEOK Tryz.prog (68,feOf Tryz.f68 dd68):=⟨Tryz.func68,rfl,by decide +kernel,Tryz.call68⟩
def dd69:List (Nat×DD):=[]
theorem ok69:FEOK Tryz.prog (69,feOf Tryz.f69 dd69):=⟨Tryz.func69,rfl,by decide +kernel,Tryz.call69⟩
def dd70:List (Nat×DD):=[]
theorem ok70:FEOK Tryz.prog (70,feOf Tryz.f70 dd70):=⟨Tryz.func70,rfl,by decide +kernel,Tryz.call70⟩
def dd71:List (Nat×DD):=[]
theorem ok71:FEOK Tryz.prog (71,feOf Tryz.f71 dd71):=⟨Tryz.func71,rfl,by decide +kernel,Tryz.call71⟩
def dd72:List (Nat×DD):=[(6,⟨[0,0,3,7,0,0,32,112,240,511],[],[],so 0 10⟩),(11,⟨[0,0,3,7,0,0,32,112,240,511],[],[],so 0 10⟩)]
theorem ok72:FEOK Tryz.prog (72,feOf Tryz.f72 dd72):=⟨Tryz.func72,rfl,by decide +kernel,Tryz.call72⟩
def dd73:List (Nat×DD):=[]
theorem ok73:FEOK Tryz.prog (73,feOf Tryz.f73 dd73):=⟨Tryz.func73,rfl,by decide +kernel,Tryz.call73⟩
def dd74:List (Nat×DD):=[]
theorem ok74:FEOK Tryz.prog (74,feOf Tryz.f74 dd74):=⟨Tryz.func74,rfl,by decide +kernel,Tryz.call74⟩
def dd75:List (Nat×DD):=[]
theorem ok75:FEOK Tryz.prog (75,feOf Tryz.f75 dd75):=⟨Tryz.func75,rfl,by decide +kernel,Tryz.call75⟩
def dd76:List (Nat×DD):=[]
theorem ok76:FEOK Tryz.prog (76,feOf Tryz.f76 dd76):=⟨Tryz.func76,rfl,by decide +kernel,Tryz.call76⟩
def dd77:List (Nat×DD):=[(11,⟨[0,1,0,4,3,19,63,127],[5,7],[],(so 0 6++[.ck 3,.op 6,.op 7])⟩)]
theorem ok77:FEOK Tryz.prog (77,feOf Tryz.f77 dd77):=⟨Tryz.func77,rfl,by decide +kernel,Tryz.call77⟩
def dd78:List (Nat×DD):=[]
theorem ok78:FEOK Tryz.prog (78,feOf Tryz.f78 dd78):=⟨Tryz.func78,rfl,by decide +kernel,Tryz.call78⟩
def dd79:List (Nat×DD):=[]
theorem ok79:FEOK Tryz.prog (79,feOf Tryz.f79 dd79):=⟨Tryz.func79,rfl,by decide +kernel,Tryz.call79⟩
def dd80:List (Nat×DD):=[]
theorem ok80:FEOK Tryz.prog (80,feOf Tryz.f80 dd80):=⟨Tryz.func80,rfl,by decide +kernel,Tryz.call80⟩
def dd85:List (Nat×DD):=[]
theorem ok85:FEOK Tryz.prog (85,feOf Tryz.f85 dd85):=⟨Tryz.func85,rfl,by decide +kernel,Tryz.call85⟩
def dd86:List (Nat×DD):=[]
theorem ok86:FEOK Tryz.prog (86,feOf Tryz.f86 dd86):=⟨Tryz.func86,rfl,by decide +kernel,Tryz.call86⟩
def dd87:List (Nat×DD):=[]
theorem ok87:FEOK Tryz.prog (87,feOf Tryz.f87 dd87):=⟨Tryz.func87,rfl,by decide +kernel,Tryz.call87⟩
def dd90:List (Nat×DD):=[]
theorem ok90:FEOK Tryz.prog (90,feOf Tryz.f90 dd90):=⟨Tryz.func90,rfl,by decide +kernel,Tryz.call90⟩
def dd93:List (Nat×DD):=[]
theorem ok93:FEOK Tryz.prog (93,feOf Tryz.f93 dd93):=⟨Tryz.func93,rfl,by decide +kernel,Tryz.call93⟩
def dd94:List (Nat×DD):=[]
theorem ok94:FEOK Tryz.prog (94,feOf Tryz.f94 dd94):=⟨Tryz.func94,rfl,by decide +kernel,Tryz.call94⟩
def dd95:List (Nat×DD):=[]
theorem ok95:FEOK Tryz.prog (95,feOf Tryz.f95 dd95):=⟨Tryz.func95,rfl,by decide +kernel,Tryz.call95⟩
def dd96:List (Nat×DD):=[(2,⟨[0,1,0,4,15,0,63],[1,6],[5,3],[.op 0,.op 2,.op 3,.op 5,.op 1,.op 4,.op 6]⟩),(23,⟨[0,1,0,0,8,0,0,0,192,0,455,1479,4095,8191],[11,13],[],(so 0 12++[.ck 4,.op 12,.op 13])⟩)]
theorem ok96:FEOK Tryz.prog (96,feOf Tryz.f96 dd96):=⟨Tryz.func96,rfl,by decide +kernel,Tryz.call96⟩
def dd97:List (Nat×DD):=[]
theorem ok97:FEOK Tryz.prog (97,feOf Tryz.f97 dd97):=⟨Tryz.func97,rfl,by decide +kernel,Tryz.call97⟩
def dd98:List (Nat×DD):=[]
theorem ok98:FEOK Tryz.prog (98,feOf Tryz.f98 dd98):=⟨Tryz.func98,rfl,by decide +kernel,Tryz.call98⟩
def dd99:List (Nat×DD):=[]
theorem ok99:FEOK Tryz.prog (99,feOf Tryz.f99 dd99):=⟨Tryz.func99,rfl,by decide +kernel,Tryz.call99⟩
def dd100:List (Nat×DD):=[(6,⟨[0,0,0,6,14,31,0,0,0,384,896,2047,4095],[5,11],[],(so 0 5++so 6 5++[.op 5,.ck 10,.op 11,.op 12])⟩),(8,⟨[0,1,3,3,3,27,59,127,3,3,3,1539,3587,8191,16383,32767,65535],[7,13],[],(so 0 7++so 8 5++[.op 7,.ck 12]++so 13 4)⟩)]
theorem ok100:FEOK Tryz.prog (100,feOf Tryz.f100 dd100):=⟨Tryz.func100,rfl,by decide +kernel,Tryz.call100⟩
def dd104:List (Nat×DD):=[]
theorem ok104:FEOK Tryz.prog (104,feOf Tryz.f104 dd104):=⟨Tryz.func104,rfl,by decide +kernel,Tryz.call104⟩
def dd105:List (Nat×DD):=[]
theorem ok105:FEOK Tryz.prog (105,feOf Tryz.f105 dd105):=⟨Tryz.func105,rfl,by decide +kernel,Tryz.call105⟩
def dd106:List (Nat×DD):=[]
theorem ok106:FEOK Tryz.prog (106,feOf Tryz.f106 dd106):=⟨Tryz.func106,rfl,by decide +kernel,Tryz.call106⟩
def dd107:List (Nat×DD):=[]
theorem ok107:FEOK Tryz.prog (107,feOf Tryz.f107 dd107):=⟨Tryz.func107,rfl,by decide +kernel,Tryz.call107⟩
def dd109:List (Nat×DD):=[]
theorem ok109:FEOK Tryz.prog (109,feOf Tryz.f109 dd109):=⟨Tryz.func109,rfl,by decide +kernel,Tryz.call109⟩
def dd110:List (Nat×DD):=[]
theorem ok110:FEOK Tryz.prog (110,feOf Tryz.f110 dd110):=⟨Tryz.func110,rfl,by decide +kernel,Tryz.call110⟩
def dd113:List (Nat×DD):=[(6,⟨[0,0,2,0,0,16,0,0,128,448,960,0,0,4096,14336,30720,65479,131015,262143,524287],[17,19],[],(so 0 18++[.ck 5,.op 18,.op 19])⟩)]
theorem ok113:FEOK Tryz.prog (113,feOf Tryz.f113 dd113):=⟨Tryz.func113,rfl,by decide +kernel,Tryz.call113⟩
def dd115:List (Nat×DD):=[]
theorem ok115:FEOK Tryz.prog (115,feOf Tryz.f115 dd115):=⟨Tryz.func115,rfl,by decide +kernel,Tryz.call115⟩
def dd116:List (Nat×DD):=[]
theorem ok116:FEOK Tryz.prog (116,feOf Tryz.f116 dd116):=⟨Tryz.func116,rfl,by decide +kernel,Tryz.call116⟩
def dd118:List (Nat×DD):=[]
theorem ok118:FEOK Tryz.prog (118,feOf Tryz.f118 dd118):=⟨Tryz.func118,rfl,by decide +kernel,Tryz.call118⟩
def dd119:List (Nat×DD):=[]
theorem ok119:FEOK Tryz.prog (119,feOf Tryz.f119 dd119):=⟨Tryz.func119,rfl,by decide +kernel,Tryz.call119⟩
def dd120:List (Nat×DD):=[]
theorem ok120:FEOK Tryz.prog (120,feOf Tryz.f120 dd120):=⟨Tryz.func120,rfl,by decide +kernel,Tryz.call120⟩
def dd121:List (Nat×DD):=[]
theorem ok121:FEOK Tryz.prog (121,feOf Tryz.f121 dd121):=⟨Tryz.func121,rfl,by decide +kernel,Tryz.call121⟩
def dd122:List (Nat×DD):=[]
theorem ok122:FEOK Tryz.prog (122,feOf Tryz.f122 dd122):=⟨Tryz.func122,rfl,by decide +kernel,Tryz.call122⟩
def dd123:List (Nat×DD):=[]
theorem ok123:FEOK Tryz.prog (123,feOf Tryz.f123 dd123):=⟨Tryz.func123,rfl,by decide +kernel,Tryz.call123⟩
def dd124:List (Nat×DD):=[]
theorem ok124:FEOK Tryz.prog (124,feOf Tryz.f124 dd124):=⟨Tryz.func124,rfl,by decide +kernel,Tryz.call124⟩
def dd125:List (Nat×DD):=[]
theorem ok125:FEOK Tryz.prog (125,feOf Tryz.f125 dd125):=⟨Tryz.func125,rfl,by decide +kernel,Tryz.call125⟩
def dd126:List (Nat×DD):=[]
theorem ok126:FEOK Tryz.prog (126,feOf Tryz.f126 dd126):=⟨Tryz.func126,rfl,by decide +kernel,Tryz.call126⟩
def dd127:List (Nat×DD):=[]
theorem ok127:FEOK Tryz.prog (127,feOf Tryz.f127 dd127):=⟨Tryz.func127,rfl,by decide +kernel,Tryz.call127⟩
def dd131:List (Nat×DD):=[]
theorem ok131:FEOK Tryz.prog (131,feOf Tryz.f131 dd131):=⟨Tryz.func131,rfl,by decide +kernel,Tryz.call131⟩
def dd132:List (Nat×DD):=[(10,⟨[0,0,3,0,0,24,56,127,255],[7],[],so 0 9⟩),(13,⟨[0,0,0,0,12,28,63,0,0,0,0,1536,3584,8191,16383],[6,13],[],(so 0 6++so 7 6++[.op 6,.ck 12,.ck 7,.op 13,.op 14])⟩),(15,⟨[0,1,3,3,3,3,51,115,255,3,3,3,3,6147,14339,32767,65535,131071,262143],[8,15],[],(so 0 8++so 9 6++[.op 8,.ck 14,.ck 9]++so 15 4)⟩)]
theorem ok132:FEOK Tryz.prog (132,feOf Tryz.f132 dd132):=⟨Tryz.func132,rfl,by decide +kernel,Tryz.call132⟩
def dd133:List (Nat×DD):=[]
theorem ok133:FEOK Tryz.prog (133,feOf Tryz.f133 dd133):=⟨Tryz.func133,rfl,by decide +kernel,Tryz.call133⟩
def dd134:List (Nat×DD):=[]
theorem ok134:FEOK Tryz.prog (134,feOf Tryz.f134 dd134):=⟨Tryz.func134,rfl,by decide +kernel,Tryz.call134⟩
def dd135:List (Nat×DD):=[]
theorem ok135:FEOK Tryz.prog (135,feOf Tryz.f135 dd135):=⟨Tryz.func135,rfl,by decide +kernel,Tryz.call135⟩
def dd136:List (Nat×DD):=[]
theorem ok136:FEOK Tryz.prog (136,feOf Tryz.f136 dd136):=⟨Tryz.func136,rfl,by decide +kernel,Tryz.call136⟩
def dd137:List (Nat×DD):=[(2,⟨[0,1,0,4,12,28,63,127],[7],[],so 0 8⟩)]
theorem ok137:FEOK Tryz.prog (137,feOf Tryz.f137 dd137):=⟨Tryz.func137,rfl,by decide +kernel,Tryz.call137⟩
def dd140:List (Nat×DD):=[]
theorem ok140:FEOK Tryz.prog (140,feOf Tryz.f140 dd140):=⟨Tryz.func140,rfl,by decide +kernel,Tryz.call140⟩
def dd141:List (Nat×DD):=[]
theorem ok141:FEOK Tryz.prog (141,feOf Tryz.f141 dd141):=⟨Tryz.func141,rfl,by decide +kernel,Tryz.call141⟩
def dd142:List (Nat×DD):=[]
theorem ok142:FEOK Tryz.prog (142,feOf Tryz.f142 dd142):=⟨Tryz.func142,rfl,by decide +kernel,Tryz.call142⟩
def dd143:List (Nat×DD):=[]
theorem ok143:FEOK Tryz.prog (143,feOf Tryz.f143 dd143):=⟨Tryz.func143,rfl,by decide +kernel,Tryz.call143⟩
def dd144:List (Nat×DD):=[]
theorem ok144:FEOK Tryz.prog (144,feOf Tryz.f144 dd144):=⟨Tryz.func144,rfl,by decide +kernel,Tryz.call144⟩
def dd145:List (Nat×DD):=[]
theorem ok145:FEOK Tryz.prog (145,feOf Tryz.f145 dd145):=⟨Tryz.func145,rfl,by decide +kernel,Tryz.call145⟩
def dd146:List (Nat×DD):=[]
theorem ok146:FEOK Tryz.prog (146,feOf Tryz.f146 dd146):=⟨Tryz.func146,rfl,by decide +kernel,Tryz.call146⟩
def dd147:List (Nat×DD):=[]
theorem ok147:FEOK Tryz.prog (147,feOf Tryz.f147 dd147):=⟨Tryz.func147,rfl,by decide +kernel,Tryz.call147⟩
def dd148:List (Nat×DD):=[]
theorem ok148:FEOK Tryz.prog (148,feOf Tryz.f148 dd148):=⟨Tryz.func148,rfl,by decide +kernel,Tryz.call148⟩
def dd149:List (Nat×DD):=[(17,⟨[0,1,3,7,7,23,63,127,7,7,775,1799,4095,8191,16383],[12],[],so 0 15⟩)]
theorem ok149:FEOK Tryz.prog (149,feOf Tryz.f149 dd149):=⟨Tryz.func149,rfl,by decide +kernel,Tryz.call149⟩
def dd150:List (Nat×DD):=[]
theorem ok150:FEOK Tryz.prog (150,feOf Tryz.f150 dd150):=⟨Tryz.func150,rfl,by decide +kernel,Tryz.call150⟩
def dd151:List (Nat×DD):=[]
theorem ok151:FEOK Tryz.prog (151,feOf Tryz.f151 dd151):=⟨Tryz.func151,rfl,by decide +kernel,Tryz.call151⟩
def dd152:List (Nat×DD):=[]
theorem ok152:FEOK Tryz.prog (152,feOf Tryz.f152 dd152):=⟨Tryz.func152,rfl,by decide +kernel,Tryz.call152⟩
def dd153:List (Nat×DD):=[(4,⟨[0,0,3,0,0,24,56,127,255],[7],[],so 0 9⟩)]
theorem ok153:FEOK Tryz.prog (153,feOf Tryz.f153 dd153):=⟨Tryz.func153,rfl,by decide +kernel,Tryz.call153⟩
def dd154:List (Nat×DD):=[]
theorem ok154:FEOK Tryz.prog (154,feOf Tryz.f154 dd154):=⟨Tryz.func154,rfl,by decide +kernel,Tryz.call154⟩
def dd155:List (Nat×DD):=[]
theorem ok155:FEOK Tryz.prog (155,feOf Tryz.f155 dd155):=⟨Tryz.func155,rfl,by decide +kernel,Tryz.call155⟩
def dd156:List (Nat×DD):=[]
theorem ok156:FEOK Tryz.prog (156,feOf Tryz.f156 dd156):=⟨Tryz.func156,rfl,by decide +kernel,Tryz.call156⟩
def dd157:List (Nat×DD):=[]
theorem ok157:FEOK Tryz.prog (157,feOf Tryz.f157 dd157):=⟨Tryz.func157,rfl,by decide +kernel,Tryz.call157⟩
def dd158:List (Nat×DD):=[]
theorem ok158:FEOK Tryz.prog (158,feOf Tryz.f158 dd158):=⟨Tryz.func158,rfl,by decide +kernel,Tryz.call158⟩
def dd159:List (Nat×DD):=[]
theorem ok159:FEOK Tryz.prog (159,feOf Tryz.f159 dd159):=⟨Tryz.func159,rfl,by decide +kernel,Tryz.call159⟩
def dd160:List (Nat×DD):=[]
theorem ok160:FEOK Tryz.prog (160,feOf Tryz.f160 dd160):=⟨Tryz.func160,rfl,by decide +kernel,Tryz.call160⟩
def dd161:List (Nat×DD):=[]
theorem ok161:FEOK Tryz.prog (161,feOf Tryz.f161 dd161):=⟨Tryz.func161,rfl,by decide +kernel,Tryz.call161⟩
def dd162:List (Nat×DD):=[(3,⟨[0,1,3,7,0,16,0,64,192,448,0,1024,4032,8128,0,16384,49152,131008,262143],[13,17,18],[16],(so 0 13++[.op 14,.op 15,.op 16,.op 13,.ck 15,.ck 5,.ck 3,.op 17,.ck 5,.ck 3,.op 18])⟩)]
theorem ok162:FEOK Tryz.prog (162,feOf Tryz.f162 dd162):=⟨Tryz.func162,rfl,by decide +kernel,Tryz.call162⟩
def dd163:List (Nat×DD):=[(1,⟨[0,1,3,7,0,16,63,127,255,255,511,2047],[],[],so 0 12⟩),(3,⟨[0,1,3,7,0,16,63,127],[],[],so 0 8⟩),(4,⟨[0,1,3,7,15,31,63,127,255,511,1023,2047,4095,8191,2047,18431,65535,131071,262143,524287],[19],[],so 0 20⟩),(6,⟨[0,1,3,7,0,16,0,64,255],[8],[],so 0 9⟩),(7,⟨[0,1,3,7,0,16,0,64,0,256,0,1024,0,4096,0,16384,49152,126976,262080,524287],[19],[],so 0 20⟩)]
theorem ok163:FEOK Tryz.prog (163,feOf Tryz.f163 dd163):=⟨Tryz.func163,rfl,by decide +kernel,Tryz.call163⟩
def dd164:List (Nat×DD):=[(3,⟨[0,1,3,7,0,16,63],[6],[],so 0 7⟩),(4,⟨[0,1,3,7,0,16,63],[6],[],so 0 7⟩)]
theorem ok164:FEOK Tryz.prog (164,feOf Tryz.f164 dd164):=⟨Tryz.func164,rfl,by decide +kernel,Tryz.call164⟩
def dd165:List (Nat×DD):=[(5,⟨[0,1,3,7,0,16,0,64,192,448,0,1024,0,0,1023,17407,54271,122879,253951,524287],[14,16,17,19],[],(so 0 15++[.ck 13,.ck 12,.ck 11,.op 15,.op 16,.ck 13,.ck 11,.op 17,.ck 13,.op 18,.op 19])⟩),(6,⟨[0,1,3,7,0,16,0,64,192,448,0,1024,0,4096,0,16384,1023,66559,209919,475135,999423,2097151],[16,18,19,21],[],(so 0 17++[.ck 15,.ck 13,.ck 11,.op 17,.op 18,.ck 15,.ck 11,.op 19,.ck 15,.op 20,.op 21])⟩)]
theorem ok165:FEOK Tryz.prog (165,feOf Tryz.f165 dd165):=⟨Tryz.func165,rfl,by decide +kernel,Tryz.call165⟩
def dd166:List (Nat×DD):=[]
theorem ok166:FEOK Tryz.prog (166,feOf Tryz.f166 dd166):=⟨Tryz.func166,rfl,by decide +kernel,Tryz.call166⟩
def dd167:List (Nat×DD):=[]
theorem ok167:FEOK Tryz.prog (167,feOf Tryz.f167 dd167):=⟨Tryz.func167,rfl,by decide +kernel,Tryz.call167⟩
def dd168:List (Nat×DD):=[]
theorem ok168:FEOK Tryz.prog (168,feOf Tryz.f168 dd168):=⟨Tryz.func168,rfl,by decide +kernel,Tryz.call168⟩
def dd169:List (Nat×DD):=[]
theorem ok169:FEOK Tryz.prog (169,feOf Tryz.f169 dd169):=⟨Tryz.func169,rfl,by decide +kernel,Tryz.call169⟩
def dd170:List (Nat×DD):=[]
theorem ok170:FEOK Tryz.prog (170,feOf Tryz.f170 dd170):=⟨Tryz.func170,rfl,by decide +kernel,Tryz.call170⟩
def dd171:List (Nat×DD):=[(4,⟨[0,0,3,7,15,15,63,127,15,15,527,1807,3855,8191,16383],[13],[],so 0 15⟩),(6,⟨[0,0,0,0,8,0,0,64,224,480,0,0,3072,7168,16355,32739,65535,131071],[15,17],[],so 0 18⟩)]
theorem ok171:FEOK Tryz.prog (171,feOf Tryz.f171 dd171):=⟨Tryz.func171,rfl,by decide +kernel,Tryz.call171⟩
def dd172:List (Nat×DD):=[(10,⟨[0,0,0,0,0,24,0,0,0,384,960,1984,0,0,12288,28672,65475,131011,262143,524287],[17,19],[],so 0 20⟩)]
theorem ok172:FEOK Tryz.prog (172,feOf Tryz.f172 dd172):=⟨Tryz.func172,rfl,by decide +kernel,Tryz.call172⟩
def dd173:List (Nat×DD):=[(10,⟨[0,0,0,0,0,24,0,0,0,384,960,1984,0,0,12288,28672,65475,131011,262143,524287],[17,19],[],so 0 20⟩)]
theorem ok173:FEOK Tryz.prog (173,feOf Tryz.f173 dd173):=⟨Tryz.func173,rfl,by decide +kernel,Tryz.call173⟩
def dd174:List (Nat×DD):=[]
theorem ok174:FEOK Tryz.prog (174,feOf Tryz.f174 dd174):=⟨Tryz.func174,rfl,by decide +kernel,Tryz.call174⟩
def dd175:List (Nat×DD):=[(3,⟨[0,0,0,0,0,0,48,112,0,0,768,1792,4083,8179,16383,32767],[13,15],[],so 0 16⟩)]
theorem ok175:FEOK Tryz.prog (175,feOf Tryz.f175 dd175):=⟨Tryz.func175,rfl,by decide +kernel,Tryz.call175⟩
def dd176:List (Nat×DD):=[(5,⟨[0,0,3,7,15,15,63,127,15,15,527,1807,3855,8191,16383,32767],[13],[],so 0 16⟩),(11,⟨[0,0,0,0,8,0,0,64,224,480,0,0,3072,7168,16355,32739,65535,131071],[15,17],[],so 0 18⟩),(16,⟨[0,0,3,7,0,0,32,112,240,511,1023],[9],[],so 0 11⟩),(17,⟨[0,0,0,0,8,0,0,64,224,480,0,0,3072,7168,16355,32739,65535,131071],[15,17],[],so 0 18⟩),(22,⟨[0,0,3,7,0,0,32,112,240,511,1023],[9],[],so 0 11⟩),(23,⟨[0,0,0,0,8,0,0,64,224,480,0,0,3072,7168,16355,32739,65535,131071],[15,17],[],so 0 18⟩)]
theorem ok176:FEOK Tryz.prog (176,feOf Tryz.f176 dd176):=⟨Tryz.func176,rfl,by decide +kernel,Tryz.call176⟩
def dd177:List (Nat×DD):=[]
theorem ok177:FEOK Tryz.prog (177,feOf Tryz.f177 dd177):=⟨Tryz.func177,rfl,by decide +kernel,Tryz.call177⟩
def dd178:List (Nat×DD):=[(1,⟨[0,0,0,0,0,0,48,112,0,0,768,1792,4083,8179,16383,32767],[13,15],[],so 0 16⟩),(3,⟨[0,0,3,7,15,15,63,127,15,15,783,1807,4095,8191,16383],[12],[],so 0 15⟩),(5,⟨[0,0,3,7,15,15,63,127,15,15,783,1807,4095,8191],[12],[],so 0 14⟩),(8,⟨[0,0,0,0,0,0,48,112,0,0,768,1792,4083,8179,16383,32767],[13,15],[],so 0 16⟩)]
theorem ok178:FEOK Tryz.prog (178,feOf Tryz.f178 dd178):=⟨Tryz.func178,rfl,by decide +kernel,Tryz.call178⟩
def dd179:List (Nat×DD):=[(1,⟨[0,0,0,0,0,0,48,112,0,0,768,1792,4083,8179,16383,32767],[13,15],[],so 0 16⟩),(3,⟨[0,0,3,7,15,15,63,127,15,15,783,1807,4095,8191],[12],[],so 0 14⟩),(5,⟨[0,0,3,7,15,15,63,127,15,15,783,1807,4095,8191,16383],[12],[],so 0 15⟩),(8,⟨[0,0,0,0,0,0,48,112,0,0,768,1792,4083,8179,16383,32767],[13,15],[],so 0 16⟩),(10,⟨[0,0,0,0,0,0,48,112,0,0,768,1792,4083,8179,16383,32767],[13,15],[],so 0 16⟩),(13,⟨[0,0,3,7,15,15,63,127,15,15,783,1807,4095,8191],[12],[],so 0 14⟩),(15,⟨[0,0,3,7,15,15,63,127,15,15,783,1807,4095,8191,16383],[12],[],so 0 15⟩),(18,⟨[0,0,0,0,0,0,48,112,0,0,768,1792,4083,8179,16383,32767],[13,15],[],so 0 16⟩),(21,⟨[0,0,0,0,0,0,48,112,0,0,768,1792,4083,8179,16383,32767],[13,15],[],so 0 16⟩)]
theorem ok179:FEOK Tryz.prog (179,feOf Tryz.f179 dd179):=⟨Tryz.func179,rfl,by decide +kernel,Tryz.call179⟩
def dd180:List (Nat×DD):=[]
theorem ok180:FEOK Tryz.prog (180,feOf Tryz.f180 dd180):=⟨Tryz.func180,rfl,by decide +kernel,Tryz.call180⟩
def dd181:List (Nat×DD):=[]
theorem ok181:FEOK Tryz.prog (181,feOf Tryz.f181 dd181):=⟨Tryz.func181,rfl,by decide +kernel,Tryz.call181⟩
def dd182:List (Nat×DD):=[]
theorem ok182:FEOK Tryz.prog (182,feOf Tryz.f182 dd182):=⟨Tryz.func182,rfl,by decide +kernel,Tryz.call182⟩
def dd183:List (Nat×DD):=[(4,⟨[0,0,3,7,15,15,15,111,239,15,15,1039,3599,7695,16383,32767,65535],[14],[],so 0 17⟩),(6,⟨[0,0,0,0,8,0,0,64,224,480,0,0,3072,7168,16355,32739,65535,131071],[15,17],[],so 0 18⟩)]
theorem ok183:FEOK Tryz.prog (183,feOf Tryz.f183 dd183):=⟨Tryz.func183,rfl,by decide +kernel,Tryz.call183⟩
def dd184:List (Nat×DD):=[(5,⟨[0,0,0,6,14,0,0,96,224,511,1023],[9],[],so 0 11⟩),(11,⟨[0,0,0,0,8,0,0,64,224,480,0,0,3072,7168,16355,32739,65535,131071],[15,17],[],so 0 18⟩),(17,⟨[0,0,0,6,14,0,0,96,224,511,1023,2047],[9],[],so 0 12⟩),(23,⟨[0,0,0,0,8,0,0,64,224,480,0,0,3072,7168,16355,32739,65535,131071],[15,17],[],so 0 18⟩),(35,⟨[0,0,0,0,12,30,62,0,0,384,896,2047,4095,8191],[11],[],so 0 14⟩)]
theorem ok184:FEOK Tryz.prog (184,feOf Tryz.f184 dd184):=⟨Tryz.func184,rfl,by decide +kernel,Tryz.call184⟩
def dd185:List (Nat×DD):=[(1,⟨[0,1,3,7,0,0,32,96,224,0,992,2016,0,8160,16383],[11,13,14],[],(so 0 11++[.op 12,.op 11,.ck 3,.op 13,.ck 3,.op 14])⟩)]
theorem ok185:FEOK Tryz.prog (185,feOf Tryz.f185 dd185):=⟨Tryz.func185,rfl,by decide +kernel,Tryz.call185⟩
def dd186:List (Nat×DD):=[(3,⟨[0,1,0,7,15,31,31,31,223,511,1023,31,31,31,12319,28703,63519,129055,262143,524287],[18],[],so 0 20⟩),(5,⟨[0,0,0,6,15,31,0,0,0,384,960,1984,4095,8191],[12],[],so 0 14⟩),(6,⟨[0,0,0,6,0,0,0,96,0,0,0,1536,3840,7936,0,0,0,98304,245760,507904,1048335,2096911,4194303,8388607],[21,23],[],so 0 24⟩)]
theorem ok186:FEOK Tryz.prog (186,feOf Tryz.f186 dd186):=⟨Tryz.func186,rfl,by decide +kernel,Tryz.call186⟩
def dd187:List (Nat×DD):=[]
theorem ok187:FEOK Tryz.prog (187,feOf Tryz.f187 dd187):=⟨Tryz.func187,rfl,by decide +kernel,Tryz.call187⟩
def dd188:List (Nat×DD):=[(1,⟨[0,1,3,0,8,24,56,127,255,511],[9],[],so 0 10⟩),(2,⟨[0,1,3,0,8,24,56,127,255,511],[9],[],so 0 10⟩),(3,⟨[0,1,3,0,8,24,56,127,255,511],[9],[],so 0 10⟩)]
theorem ok188:FEOK Tryz.prog (188,feOf Tryz.f188 dd188):=⟨Tryz.func188,rfl,by decide +kernel,Tryz.call188⟩
def dd189:List (Nat×DD):=[]
theorem ok189:FEOK Tryz.prog (189,feOf Tryz.f189 dd189):=⟨Tryz.func189,rfl,by decide +kernel,Tryz.call189⟩
def dd190:List (Nat×DD):=[]
theorem ok190:FEOK Tryz.prog (190,feOf Tryz.f190 dd190):=⟨Tryz.func190,rfl,by decide +kernel,Tryz.call190⟩
def dd191:List (Nat×DD):=[]
theorem ok191:FEOK Tryz.prog (191,feOf Tryz.f191 dd191):=⟨Tryz.func191,rfl,by decide +kernel,Tryz.call191⟩
def dd192:List (Nat×DD):=[]
theorem ok192:FEOK Tryz.prog (192,feOf Tryz.f192 dd192):=⟨Tryz.func192,rfl,by decide +kernel,Tryz.call192⟩
def dd193:List (Nat×DD):=[(1,⟨[0,0,3,7,0,0,48,112,255],[8],[],so 0 9⟩)]
theorem ok193:FEOK Tryz.prog (193,feOf Tryz.f193 dd193):=⟨Tryz.func193,rfl,by decide +kernel,Tryz.call193⟩
def dd194:List (Nat×DD):=[(3,⟨[0,0,0,6,0,0,0,96,0,0,0,1536,3840,7936,0,0,0,98304,245760,507904,1048335,2096911,4194303,8388607],[21,23],[],so 0 24⟩)]
theorem ok194:FEOK Tryz.prog (194,feOf Tryz.f194 dd194):=⟨Tryz.func194,rfl,by decide +kernel,Tryz.call194⟩
noncomputable def tabL:List (Nat×FE):=[(15,feOf Tryz.f15 dd15),(16,feOf Tryz.f16 dd16),(18,feOf Tryz.f18 dd18),(22,feOf Tryz.f22 dd22),(24,feOf Tryz.f24 dd24),(26,feOf Tryz.f26 dd26),(27,feOf Tryz.f27 dd27),(32,feOf Tryz.f32 dd32),(34,feOf Tryz.f34 dd34),(38,feOf Tryz.f38 dd38),(39,feOf Tryz.f39 dd39),(40,feOf Tryz.f40 dd40),(42,feOf Tryz.f42 dd42),(46,feOf Tryz.f46 dd46),(48,feOf Tryz.f48 dd48),(50,feOf Tryz.f50 dd50),(52,feOf Tryz.f52 dd52),(56,feOf Tryz.f56 dd56),(61,feOf Tryz.f61 dd61),(64,feOf Tryz.f64 dd64),(65,feOf Tryz.f65 dd65),(66,feOf Tryz.f66 dd66),(67,feOf Tryz.f67 dd67),(68,feOf Tryz.f68 dd68),(69,feOf Tryz.f69 dd69),(70,feOf Tryz.f70 dd70),(71,feOf Tryz.f71 dd71),(72,feOf Tryz.f72 dd72),(73,feOf Tryz.f73 dd73),(74,feOf Tryz.f74 dd74),(75,feOf Tryz.f75 dd75),(76,feOf Tryz.f76 dd76),(77,feOf Tryz.f77 dd77),(78,feOf Tryz.f78 dd78),(79,feOf Tryz.f79 dd79),(80,feOf Tryz.f80 dd80),(85,feOf Tryz.f85 dd85),(86,feOf Tryz.f86 dd86),(87,feOf Tryz.f87 dd87),(90,feOf Tryz.f90 dd90),(93,feOf Tryz.f93 dd93),(94,feOf Tryz.f94 dd94),(95,feOf Tryz.f95 dd95),(96,feOf Tryz.f96 dd96),(97,feOf Tryz.f97 dd97),(98,feOf Tryz.f98 dd98),(99,feOf Tryz.f99 dd99),(100,feOf Tryz.f100 dd100),(104,feOf Tryz.f104 dd104),(105,feOf Tryz.f105 dd105),(106,feOf Tryz.f106 dd106),(107,feOf Tryz.f107 dd107),(109,feOf Tryz.f109 dd109),(110,feOf Tryz.f110 dd110),(113,feOf Tryz.f113 dd113),(115,feOf Tryz.f115 dd115),(116,feOf Tryz.f116 dd116),(118,feOf Tryz.f118 dd118),(119,feOf Tryz.f119 dd119),(120,feOf Tryz.f120 dd120),(121,feOf Tryz.f121 dd121),(122,feOf Tryz.f122 dd122),(123,feOf Tryz.f123 dd123),(124,feOf Tryz.f124 dd124),(125,feOf Tryz.f125 dd125),(126,feOf Tryz.f126 dd126),(127,feOf Tryz.f127 dd127),(131,feOf Tryz.f131 dd131),(132,feOf Tryz.f132 dd132),(133,feOf Tryz.f133 dd133),(134,feOf Tryz.f134 dd134),(135,feOf Tryz.f135 dd135),(136,feOf Tryz.f136 dd136),(137,feOf Tryz.f137 dd137),(140,feOf Tryz.f140 dd140),(141,feOf Tryz.f141 dd141),(142,feOf Tryz.f142 dd142),(143,feOf Tryz.f143 dd143),(144,feOf Tryz.f144 dd144),(145,feOf Tryz.f145 dd145),(146,feOf Tryz.f146 dd146),(147,feOf Tryz.f147 dd147),(148,feOf Tryz.f148 dd148),(149,feOf Tryz.f149 dd149),(150,feOf Tryz.f150 dd150),(151,feOf Tryz.f151 dd151),(152,feOf Tryz.f152 dd152),(153,feOf Tryz.f153 dd153),(154,feOf Tryz.f154 dd154),(155,feOf Tryz.f155 dd155),(156,feOf Tryz.f156 dd156),(157,feOf Tryz.f157 dd157),(158,feOf Tryz.f158 dd158),(159,feOf Tryz.f159 dd159),(160,feOf Tryz.f160 dd160),(161,feOf Tryz.f161 dd161),(162,feOf Tryz.f162 dd162),(163,feOf Tryz.f163 dd163),(164,feOf Tryz.f164 dd164),(165,feOf Tryz.f165 dd165),(166,feOf Tryz.f166 dd166),(167,feOf Tryz.f167 dd167),(168,feOf Tryz.f168 dd168),(169,feOf Tryz.f169 dd169),(170,feOf Tryz.f170 dd170),(171,feOf Tryz.f171 dd171),(172,feOf Tryz.f172 dd172),(173,feOf Tryz.f173 dd173),(174,feOf Tryz.f174 dd174),(175,feOf Tryz.f175 dd175),(176,feOf Tryz.f176 dd176),(177,feOf Tryz.f177 dd177),(178,feOf Tryz.f178 dd178),(179,feOf Tryz.f179 dd179),(180,feOf Tryz.f180 dd180),(181,feOf Tryz.f181 dd181),(182,feOf Tryz.f182 dd182),(183,feOf Tryz.f183 dd183),(184,feOf Tryz.f184 dd184),(185,feOf Tryz.f185 dd185),(186,feOf Tryz.f186 dd186),(187,feOf Tryz.f187 dd187),(188,feOf Tryz.f188 dd188),(189,feOf Tryz.f189 dd189),(190,feOf Tryz.f190 dd190),(191,feOf Tryz.f191 dd191),(192,feOf Tryz.f192 dd192),(193,feOf Tryz.f193 dd193),(194,feOf Tryz.f194 dd194)]
theorem tabL_ok:∀p∈tabL,FEOK Tryz.prog p:=allCons ok15 (allCons ok16 (allCons ok18 (allCons ok22 (allCons ok24 (allCons ok26 (allCons ok27 (allCons ok32 (allCons ok34 (allCons ok38 (allCons ok39 (allCons ok40 (allCons ok42 (allCons ok46 (allCons ok48 (allCons ok50 (allCons ok52 (allCons ok56 (allCons ok61 (allCons ok64 (allCons ok65 (allCons ok66 (allCons ok67 (allCons ok68 (allCons ok69 (allCons ok70 (allCons ok71 (allCons ok72 (allCons ok73 (allCons ok74 (allCons ok75 (allCons ok76 (allCons ok77 (allCons ok78 (allCons ok79 (allCons ok80 (allCons ok85 (allCons ok86 (allCons ok87 (allCons ok90 (allCons ok93 (allCons ok94 (allCons ok95 (allCons ok96 (allCons ok97 (allCons ok98 (allCons ok99 (allCons ok100 (allCons ok104 (allCons ok105 (allCons ok106 (allCons ok107 (allCons ok109 (allCons ok110 (allCons ok113 (allCons ok115 (allCons ok116 (allCons ok118 (allCons ok119 (allCons ok120 (allCons ok121 (allCons ok122 (allCons ok123 (allCons ok124 (allCons ok125 (allCons ok126 (allCons ok127 (allCons ok131 (allCons ok132 (allCons ok133 (allCons ok134 (allCons ok135 (allCons ok136 (allCons ok137 (allCons ok140 (allCons ok141 (allCons ok142 (allCons ok143 (allCons ok144 (allCons ok145 (allCons ok146 (allCons ok147 (allCons ok148 (allCons ok149 (allCons ok150 (allCons ok151 (allCons ok152 (allCons ok153 (allCons ok154 (allCons ok155 (allCons ok156 (allCons ok157 (allCons ok158 (allCons ok159 (allCons ok160 (allCons ok161 (allCons ok162 (allCons ok163 (allCons ok164 (allCons ok165 (allCons ok166 (allCons ok167 (allCons ok168 (allCons ok169 (allCons ok170 (allCons ok171 (allCons ok172 (allCons ok173 (allCons ok174 (allCons ok175 (allCons ok176 (allCons ok177 (allCons ok178 (allCons ok179 (allCons ok180 (allCons ok181 (allCons ok182 (allCons ok183 (allCons ok184 (allCons ok185 (allCons ok186 (allCons ok187 (allCons ok188 (allCons ok189 (allCons ok190 (allCons ok191 (allCons ok192 (allCons ok193 (allCons ok194 allNil))))))))))))))))))))))))))))))))))))))))))))))))))))))))))))))))))))))))))))))))))))))))))))))))))))))))))))))))))))))))))))))))
end Go.Am.Hi
end
section
namespace Go.Am.Hi
open Go Go.Am Go.Proofs Go.Shelf
def lsort_ren:Ren where
  f := fun x => match x with
    |5=>98
    |8=>150
    |7=>149
    |19=>180
    |20=>181
    |10=>171
    |11=>172
    |12=>173
    |13=>174
    |14=>175
    |15=>176
    |16=>177
    |17=>178
    |18=>179
    |30=>186
    |31=>187
    |32=>188
    |33=>189
    |34=>190
    |35=>157
    |40=>193
    |n=>n
  t := fun x => match x with
    |23=>22
    |25=>3
    |3=>3
    |32=>206
    |22=>22
    |0=>0
    |44=>227
    |46=>229
    |4=>4
    |36=>221
    |35=>220
    |41=>57
    |5=>5
    |9=>9
    |53=>233
    |57=>237
    |63=>239
    |64=>240
    |n=>n
  g:=fun n=>n
theorem lsort:SlLaysM.n5 Tryz.prog lsort_ren where
  mixed:=rfl
  f5:=⟨ "slices.Sort[[]int,int]", by decide,Tryz.func98⟩
  f7:=⟨ "slices.pdqsortOrdered[int]", by decide,Tryz.func149⟩
  f8:=Tryz.func150
  f10:=⟨ "slices.insertionSortOrdered[int]", by decide,Tryz.func171⟩
  f11:=⟨ "slices.heapSortOrdered[int]", by decide,Tryz.func172⟩
  f12:=⟨ "slices.breakPatternsOrdered[int]", by decide,Tryz.func173⟩
  f13:=⟨ "slices.choosePivotOrdered[int]", by decide,Tryz.func174⟩
  f14:=⟨ "slices.reverseRangeOrdered[int]", by decide,Tryz.func175⟩
  f15:=⟨ "slices.partialInsertionSortOrdered[int]", by decide,Tryz.func176⟩
  f16:=⟨ "cmp.Less[int]", by decide,Tryz.func177⟩
  f17:=⟨ "slices.partitionEqualOrdered[int]", by decide,Tryz.func178⟩
  f18:=⟨ "slices.partitionOrdered[int]", by decide,Tryz.func179⟩
  f19:=Tryz.func180
  f20:=Tryz.func181
  f30:=⟨ "slices.siftDownOrdered[int]", by decide,Tryz.func186⟩
  f31:=Tryz.func187
  f32:=Tryz.func188
  f33:=⟨ "slices.medianAdjacentOrdered[int]", by decide,Tryz.func189⟩
  f34:=⟨ "slices.medianOrdered[int]", by decide,Tryz.func190⟩
  f35:=⟨ "cmp.isNaN[int]", by decide,Tryz.func157⟩
  f40:=⟨ "slices.order2Ordered[int]", by decide,Tryz.func193⟩
  t0:=Tryz.underlying0
  a0:=Tryz.isAgg0
  z0:=Tryz.sizeOf0
  v0:=Tryz.zeroValue0
  t3:=Tryz.underlying3
  a3:=Tryz.isAgg3
  z3:=Tryz.sizeOf3
  v3:=Tryz.zeroValue3
  t4:=Tryz.underlying4
  a4:=Tryz.isAgg4
  z4:=Tryz.sizeOf4
  v4:=Tryz.zeroValue4
  t5:=Tryz.underlying5
  a5:=Tryz.isAgg5
  z5:=Tryz.sizeOf5
  v5:=Tryz.zeroValue5
  t9:=Tryz.underlying9
  a9:=Tryz.isAgg9
  z9:=Tryz.sizeOf9
  v9:=Tryz.zeroValue9
  t22:=Tryz.underlying22
  a22:=Tryz.isAgg22
  z22:=Tryz.sizeOf22
  v22:=Tryz.zeroValue22
  t23:=Tryz.underlying22
  a23:=Tryz.isAgg22
  z23:=Tryz.sizeOf22
  v23:=Tryz.zeroValue22
  t25:=Tryz.underlying3
  a25:=Tryz.isAgg3
  z25:=Tryz.sizeOf3
  v25:=Tryz.zeroValue3
  t32:=Tryz.underlying206
  a32:=Tryz.isAgg206
  z32:=Tryz.sizeOf206
  v32:=Tryz.zeroValue206
  t35:=Tryz.underlying220
  a35:=Tryz.isAgg220
  z35:=Tryz.sizeOf220
  v35:=Tryz.zeroValue220
  t36:=Tryz.underlying221
  a36:=Tryz.isAgg221
  z36:=Tryz.sizeOf221
  v36:=Tryz.zeroValue221
  t41:=Tryz.underlying57
  a41:=Tryz.isAgg57
  z41:=Tryz.sizeOf57
  v41:=Tryz.zeroValue57
  t44:=Tryz.underlying227
  a44:=Tryz.isAgg227
  z44:=Tryz.sizeOf227
  v44:=Tryz.zeroValue227
  t46:=Tryz.underlying229
  a46:=Tryz.isAgg229
  z46:=Tryz.sizeOf229
  v46:=Tryz.zeroValue229
  t53:=Tryz.underlying233
  a53:=Tryz.isAgg233
  z53:=Tryz.sizeOf233
  v53:=Tryz.zeroValue233
  t57:=Tryz.underlying237
  a57:=Tryz.isAgg237
  z57:=Tryz.sizeOf237
  v57:=Tryz.zeroValue237
  t63:=Tryz.underlying239
  a63:=Tryz.isAgg239
  z63:=Tryz.sizeOf239
  v63:=Tryz.zeroValue239
  t64:=Tryz.underlying240
  a64:=Tryz.isAgg240
  z64:=Tryz.sizeOf240
  v64:=Tryz.zeroValue240
end Go.Am.Hi
end
section
namespace Go.Am.Hi
open Go Go.Am Go.Proofs
@[simp] theorem u3:Tryz.prog.underlying 3=some (.int .i64):=by rfl
@[simp] theorem ag3:tagg Tryz.prog 3=some false:=by decide +kernel
@[simp] theorem sz3:tsz Tryz.prog 3=some 1:=by decide +kernel
@[simp] theorem ze3:vzero Tryz.prog 3=some [.int .i64 0]:=by rfl
@[simp] theorem za3:(azero Tryz.prog 3).bind pvcV=some (.int .i64 0):=by rfl
@[simp] theorem u4:Tryz.prog.underlying 4=some .bool:=by rfl
@[simp] theorem ag4:tagg Tryz.prog 4=some false:=by decide +kernel
@[simp] theorem sz4:tsz Tryz.prog 4=some 1:=by decide +kernel
@[simp] theorem ze4:vzero Tryz.prog 4=some [.bool false]:=by rfl
@[simp] theorem za4:(azero Tryz.prog 4).bind pvcV=some (.bool false):=by rfl
@[simp] theorem u5:Tryz.prog.underlying 5=some (.int .u8):=by rfl
@[simp] theorem ag5:tagg Tryz.prog 5=some false:=by decide +kernel
@[simp] theorem sz5:tsz Tryz.prog 5=some 1:=by decide +kernel
@[simp] theorem ze5:vzero Tryz.prog 5=some [.int .u8 0]:=by rfl
@[simp] theorem za5:(azero Tryz.prog 5).bind pvcV=some (.int .u8 0):=by rfl
@[simp] theorem u9:Tryz.prog.underlying 9=some .string:=by rfl
@[simp] theorem ag9:tagg Tryz.prog 9=some false:=by decide +kernel
@[simp] theorem sz9:tsz Tryz.prog 9=some 1:=by decide +kernel
@[simp] theorem ze9:vzero Tryz.prog 9=some [.str ByteArray.empty]:=by rfl
@[simp] theorem za9:(azero Tryz.prog 9).bind pvcV=some (.str ByteArray.empty):=by rfl
@[simp] theorem ag20:tagg Tryz.prog 20=some false:=by decide +kernel
@[simp] theorem sz20:tsz Tryz.prog 20=some 1:=by decide +kernel
@[simp] theorem ze20:vzero Tryz.prog 20=some [.nilIface]:=by rfl
@[simp] theorem za20:(azero Tryz.prog 20).bind pvcV=some (.nilIface):=by rfl
@[simp] theorem u22:Tryz.prog.underlying 22=some (.slice 3):=by rfl
@[simp] theorem ag22:tagg Tryz.prog 22=some false:=by decide +kernel
@[simp] theorem sz22:tsz Tryz.prog 22=some 1:=by decide +kernel
@[simp] theorem el22:telem Tryz.prog 22=some (3,1):=by decide +kernel
@[simp] theorem by22:(Tryz.prog.info? 3).map (·.bytes)=some 8:=by decide +kernel
@[simp] theorem ze22:vzero Tryz.prog 22=some [.sl0]:=by rfl
@[simp] theorem za22:(azero Tryz.prog 22).bind pvcV=some (.sl0):=by rfl
@[simp] theorem u23:Tryz.prog.underlying 23=some (.slice 137):=by rfl
@[simp] theorem ag23:tagg Tryz.prog 23=some false:=by decide +kernel
@[simp] theorem sz23:tsz Tryz.prog 23=some 1:=by decide +kernel
@[simp] theorem el23:telem Tryz.prog 23=some (137,6):=by decide +kernel
@[simp] theorem by23:(Tryz.prog.info? 137).map (·.bytes)=some 48:=by decide +kernel
@[simp] theorem ze23:vzero Tryz.prog 23=some [.sl0]:=by rfl
@[simp] theorem za23:(azero Tryz.prog 23).bind pvcV=some (.sl0):=by rfl
@[simp] theorem ag25:tagg Tryz.prog 25=some true:=by decide +kernel
@[simp] theorem sz25:tsz Tryz.prog 25=some 3:=by decide +kernel
@[simp] theorem fd25_0:tfield Tryz.prog 25 0=some (22,0,1):=by decide +kernel
@[simp] theorem fd25_1:tfield Tryz.prog 25 1=some (3,1,1):=by decide +kernel
@[simp] theorem fd25_2:tfield Tryz.prog 25 2=some (23,2,1):=by decide +kernel
@[simp] theorem ze25:vzero Tryz.prog 25=some [.sl0,.int .i64 0,.sl0]:=by rfl
@[simp] theorem bu25 (l:List (Nat×PV)):vbuild Tryz.prog 25 l=(pfill (([(0,1),(1,1),(2,1)]:List (Nat×Nat))[·]?) [.sl0,.int .i64 0,.sl0] l).map .agg:=by rfl
@[simp] theorem za25:(azero Tryz.prog 25).bind pvcV=some (.agg [.sl0,.int .i64 0,.sl0]):=by rfl
@[simp] theorem u28:Tryz.prog.underlying 28=some (.int .i64):=by rfl
@[simp] theorem ag28:tagg Tryz.prog 28=some false:=by decide +kernel
@[simp] theorem sz28:tsz Tryz.prog 28=some 1:=by decide +kernel
@[simp] theorem ze28:vzero Tryz.prog 28=some [.int .i64 0]:=by rfl
@[simp] theorem za28:(azero Tryz.prog 28).bind pvcV=some (.int .i64 0):=by rfl
@[simp] theorem ag32:tagg Tryz.prog 32=some true:=by decide +kernel
@[simp] theorem sz32:tsz Tryz.prog 32=some 2:=by decide +kernel
@[simp] theorem fd32_0:tfield Tryz.prog 32 0=some (28,0,1):=by decide +kernel
@[simp] theorem fd32_1:tfield Tryz.prog 32 1=some (3,1,1):=by decide +kernel
@[simp] theorem ze32:vzero Tryz.prog 32=some [.int .i64 0,.int .i64 0]:=by rfl
@[simp] theorem bu32 (l:List (Nat×PV)):vbuild Tryz.prog 32 l=(pfill (([(0,1),(1,1)]:List (Nat×Nat))[·]?) [.int .i64 0,.int .i64 0] l).map .agg:=by rfl
@[simp] theorem za32:(azero Tryz.prog 32).bind pvcV=some (.agg [.int .i64 0,.int .i64 0]):=by rfl
@[simp] theorem u34:Tryz.prog.underlying 34=some (.slice 56):=by rfl
@[simp] theorem ag34:tagg Tryz.prog 34=some false:=by decide +kernel
@[simp] theorem sz34:tsz Tryz.prog 34=some 1:=by decide +kernel
@[simp] theorem el34:telem Tryz.prog 34=some (56,4):=by decide +kernel
@[simp] theorem by34:(Tryz.prog.info? 56).map (·.bytes)=some 32:=by decide +kernel
@[simp] theorem ze34:vzero Tryz.prog 34=some [.sl0]:=by rfl
@[simp] theorem za34:(azero Tryz.prog 34).bind pvcV=some (.sl0):=by rfl
@[simp] theorem ag38:tagg Tryz.prog 38=some true:=by decide +kernel
@[simp] theorem sz38:tsz Tryz.prog 38=some 2:=by decide +kernel
@[simp] theorem fd38_0:tfield Tryz.prog 38 0=some (34,0,1):=by decide +kernel
@[simp] theorem fd38_1:tfield Tryz.prog 38 1=some (28,1,1):=by decide +kernel
@[simp] theorem ze38:vzero Tryz.prog 38=some [.sl0,.int .i64 0]:=by rfl
@[simp] theorem bu38 (l:List (Nat×PV)):vbuild Tryz.prog 38 l=(pfill (([(0,1),(1,1)]:List (Nat×Nat))[·]?) [.sl0,.int .i64 0] l).map .agg:=by rfl
@[simp] theorem za38:(azero Tryz.prog 38).bind pvcV=some (.agg [.sl0,.int .i64 0]):=by rfl
@[simp] theorem ag45:tagg Tryz.prog 45=some true:=by decide +kernel
@[simp] theorem sz45:tsz Tryz.prog 45=some 2:=by decide +kernel
@[simp] theorem fd45_0:tfield Tryz.prog 45 0=some (22,0,1):=by decide +kernel
@[simp] theorem fd45_1:tfield Tryz.prog 45 1=some (28,1,1):=by decide +kernel
@[simp] theorem ze45:vzero Tryz.prog 45=some [.sl0,.int .i64 0]:=by rfl
@[simp] theorem bu45 (l:List (Nat×PV)):vbuild Tryz.prog 45 l=(pfill (([(0,1),(1,1)]:List (Nat×Nat))[·]?) [.sl0,.int .i64 0] l).map .agg:=by rfl
@[simp] theorem za45:(azero Tryz.prog 45).bind pvcV=some (.agg [.sl0,.int .i64 0]):=by rfl
@[simp] theorem u52:Tryz.prog.underlying 52=some (.int .u16):=by rfl
@[simp] theorem ag52:tagg Tryz.prog 52=some false:=by decide +kernel
@[simp] theorem sz52:tsz Tryz.prog 52=some 1:=by decide +kernel
@[simp] theorem ze52:vzero Tryz.prog 52=some [.int .u16 0]:=by rfl
@[simp] theorem za52:(azero Tryz.prog 52).bind pvcV=some (.int .u16 0):=by rfl
@[simp] theorem u53:Tryz.prog.underlying 53=some (.map 3 3):=by rfl
@[simp] theorem ag53:tagg Tryz.prog 53=some false:=by decide +kernel
@[simp] theorem sz53:tsz Tryz.prog 53=some 1:=by decide +kernel
@[simp] theorem ky53:tkey Tryz.prog 53=some (3,3):=by decide +kernel
@[simp] theorem ze53:vzero Tryz.prog 53=some [.map0]:=by rfl
@[simp] theorem za53:(azero Tryz.prog 53).bind pvcV=some (.map0):=by rfl
@[simp] theorem u54:Tryz.prog.underlying 54=some (.map 3 4):=by rfl
@[simp] theorem ag54:tagg Tryz.prog 54=some false:=by decide +kernel
@[simp] theorem sz54:tsz Tryz.prog 54=some 1:=by decide +kernel
@[simp] theorem ky54:tkey Tryz.prog 54=some (3,4):=by decide +kernel
@[simp] theorem ze54:vzero Tryz.prog 54=some [.map0]:=by rfl
@[simp] theorem za54:(azero Tryz.prog 54).bind pvcV=some (.map0):=by rfl
@[simp] theorem ag56:tagg Tryz.prog 56=some true:=by decide +kernel
@[simp] theorem sz56:tsz Tryz.prog 56=some 4:=by decide +kernel
@[simp] theorem fd56_0:tfield Tryz.prog 56 0=some (3,0,1):=by decide +kernel
@[simp] theorem fd56_1:tfield Tryz.prog 56 1=some (3,1,1):=by decide +kernel
@[simp] theorem fd56_2:tfield Tryz.prog 56 2=some (3,2,1):=by decide +kernel
@[simp] theorem fd56_3:tfield Tryz.prog 56 3=some (3,3,1):=by decide +kernel
@[simp] theorem ze56:vzero Tryz.prog 56=some [.int .i64 0,.int .i64 0,.int .i64 0,.int .i64 0]:=by rfl
@[simp] theorem bu56 (l:List (Nat×PV)):vbuild Tryz.prog 56 l=(pfill (([(0,1),(1,1),(2,1),(3,1)]:List (Nat×Nat))[·]?) [.int .i64 0,.int .i64 0,.int .i64 0,.int .i64 0] l).map .agg:=by rfl
@[simp] theorem za56:(azero Tryz.prog 56).bind pvcV=some (.agg [.int .i64 0,.int .i64 0,.int .i64 0,.int .i64 0]):=by rfl
@[simp] theorem u60:Tryz.prog.underlying 60=some (.slice 22):=by rfl
@[simp] theorem ag60:tagg Tryz.prog 60=some false:=by decide +kernel
@[simp] theorem sz60:tsz Tryz.prog 60=some 1:=by decide +kernel
@[simp] theorem el60:telem Tryz.prog 60=some (22,1):=by decide +kernel
@[simp] theorem by60:(Tryz.prog.info? 22).map (·.bytes)=some 24:=by decide +kernel
@[simp] theorem ze60:vzero Tryz.prog 60=some [.sl0]:=by rfl
@[simp] theorem za60:(azero Tryz.prog 60).bind pvcV=some (.sl0):=by rfl
@[simp] theorem ag62:tagg Tryz.prog 62=some true:=by decide +kernel
@[simp] theorem sz62:tsz Tryz.prog 62=some 1:=by decide +kernel
@[simp] theorem fd62_0:tfield Tryz.prog 62 0=some (60,0,1):=by decide +kernel
@[simp] theorem ze62:vzero Tryz.prog 62=some [.sl0]:=by rfl
@[simp] theorem bu62 (l:List (Nat×PV)):vbuild Tryz.prog 62 l=(pfill (([(0,1)]:List (Nat×Nat))[·]?) [.sl0] l).map .agg:=by rfl
@[simp] theorem za62:(azero Tryz.prog 62).bind pvcV=some (.agg [.sl0]):=by rfl
@[simp] theorem ag67:tagg Tryz.prog 67=some true:=by decide +kernel
@[simp] theorem sz67:tsz Tryz.prog 67=some 2:=by decide +kernel
@[simp] theorem fd67_0:tfield Tryz.prog 67 0=some (22,0,1):=by decide +kernel
@[simp] theorem fd67_1:tfield Tryz.prog 67 1=some (22,1,1):=by decide +kernel
@[simp] theorem ze67:vzero Tryz.prog 67=some [.sl0,.sl0]:=by rfl
@[simp] theorem bu67 (l:List (Nat×PV)):vbuild Tryz.prog 67 l=(pfill (([(0,1),(1,1)]:List (Nat×Nat))[·]?) [.sl0,.sl0] l).map .agg:=by rfl
@[simp] theorem za67:(azero Tryz.prog 67).bind pvcV=some (.agg [.sl0,.sl0]):=by rfl
@[simp] theorem u79:Tryz.prog.underlying 79=some (.slice 178):=by rfl
@[simp] theorem ag79:tagg Tryz.prog 79=some false:=by decide +kernel
@[simp] theorem sz79:tsz Tryz.prog 79=some 1:=by decide +kernel
@[simp] theorem el79:telem Tryz.prog 79=some (178,2):=by decide +kernel
@[simp] theorem by79:(Tryz.prog.info? 178).map (·.bytes)=some 16:=by decide +kernel
@[simp] theorem ze79:vzero Tryz.prog 79=some [.sl0]:=by rfl
@[simp] theorem za79:(azero Tryz.prog 79).bind pvcV=some (.sl0):=by rfl
@[simp] theorem u80:Tryz.prog.underlying 80=some (.slice 99):=by rfl
@[simp] theorem ag80:tagg Tryz.prog 80=some false:=by decide +kernel
@[simp] theorem sz80:tsz Tryz.prog 80=some 1:=by decide +kernel
@[simp] theorem el80:telem Tryz.prog 80=some (99,2):=by decide +kernel
@[simp] theorem by80:(Tryz.prog.info? 99).map (·.bytes)=some 16:=by decide +kernel
@[simp] theorem ze80:vzero Tryz.prog 80=some [.sl0]:=by rfl
@[simp] theorem za80:(azero Tryz.prog 80).bind pvcV=some (.sl0):=by rfl
@[simp] theorem ag84:tagg Tryz.prog 84=some true:=by decide +kernel
@[simp] theorem sz84:tsz Tryz.prog 84=some 2:=by decide +kernel
@[simp] theorem fd84_0:tfield Tryz.prog 84 0=some (60,0,1):=by decide +kernel
@[simp] theorem fd84_1:tfield Tryz.prog 84 1=some (28,1,1):=by decide +kernel
@[simp] theorem ze84:vzero Tryz.prog 84=some [.sl0,.int .i64 0]:=by rfl
@[simp] theorem bu84 (l:List (Nat×PV)):vbuild Tryz.prog 84 l=(pfill (([(0,1),(1,1)]:List (Nat×Nat))[·]?) [.sl0,.int .i64 0] l).map .agg:=by rfl
@[simp] theorem za84:(azero Tryz.prog 84).bind pvcV=some (.agg [.sl0,.int .i64 0]):=by rfl
@[simp] theorem ag91:tagg Tryz.prog 91=some true:=by decide +kernel
@[simp] theorem sz91:tsz Tryz.prog 91=some 3:=by decide +kernel
@[simp] theorem fd91_0:tfield Tryz.prog 91 0=some (22,0,1):=by decide +kernel
@[simp] theorem fd91_1:tfield Tryz.prog 91 1=some (3,1,1):=by decide +kernel
@[simp] theorem fd91_2:tfield Tryz.prog 91 2=some (28,2,1):=by decide +kernel
@[simp] theorem ze91:vzero Tryz.prog 91=some [.sl0,.int .i64 0,.int .i64 0]:=by rfl
@[simp] theorem bu91 (l:List (Nat×PV)):vbuild Tryz.prog 91 l=(pfill (([(0,1),(1,1),(2,1)]:List (Nat×Nat))[·]?) [.sl0,.int .i64 0,.int .i64 0] l).map .agg:=by rfl
@[simp] theorem za91:(azero Tryz.prog 91).bind pvcV=some (.agg [.sl0,.int .i64 0,.int .i64 0]):=by rfl
@[simp] theorem ag99:tagg Tryz.prog 99=some true:=by decide +kernel
@[simp] theorem sz99:tsz Tryz.prog 99=some 2:=by decide +kernel
@[simp] theorem fd99_0:tfield Tryz.prog 99 0=some (3,0,1):=by decide +kernel
@[simp] theorem fd99_1:tfield Tryz.prog 99 1=some (3,1,1):=by decide +kernel
@[simp] theorem ze99:vzero Tryz.prog 99=some [.int .i64 0,.int .i64 0]:=by rfl
@[simp] theorem bu99 (l:List (Nat×PV)):vbuild Tryz.prog 99 l=(pfill (([(0,1),(1,1)]:List (Nat×Nat))[·]?) [.int .i64 0,.int .i64 0] l).map .agg:=by rfl
@[simp] theorem za99:(azero Tryz.prog 99).bind pvcV=some (.agg [.int .i64 0,.int .i64 0]):=by rfl
@[simp] theorem u101:Tryz.prog.underlying 101=some (.slice 121):=by rfl
@[simp] theorem ag101:tagg Tryz.prog 101=some false:=by decide +kernel
@[simp] theorem sz101:tsz Tryz.prog 101=some 1:=by decide +kernel
@[simp] theorem el101:telem Tryz.prog 101=some (121,2):=by decide +kernel
@[simp] theorem by101:(Tryz.prog.info? 121).map (·.bytes)=some 16:=by decide +kernel
@[simp] theorem ze101:vzero Tryz.prog 101=some [.sl0]:=by rfl
@[simp] theorem za101:(azero Tryz.prog 101).bind pvcV=some (.sl0):=by rfl
@[simp] theorem ag105:tagg Tryz.prog 105=some true:=by decide +kernel
@[simp] theorem sz105:tsz Tryz.prog 105=some 2:=by decide +kernel
@[simp] theorem fd105_0:tfield Tryz.prog 105 0=some (101,0,1):=by decide +kernel
@[simp] theorem fd105_1:tfield Tryz.prog 105 1=some (28,1,1):=by decide +kernel
@[simp] theorem ze105:vzero Tryz.prog 105=some [.sl0,.int .i64 0]:=by rfl
@[simp] theorem bu105 (l:List (Nat×PV)):vbuild Tryz.prog 105 l=(pfill (([(0,1),(1,1)]:List (Nat×Nat))[·]?) [.sl0,.int .i64 0] l).map .agg:=by rfl
@[simp] theorem za105:(azero Tryz.prog 105).bind pvcV=some (.agg [.sl0,.int .i64 0]):=by rfl
@[simp] theorem ag113:tagg Tryz.prog 113=some true:=by decide +kernel
@[simp] theorem sz113:tsz Tryz.prog 113=some 2:=by decide +kernel
@[simp] theorem fd113_0:tfield Tryz.prog 113 0=some (4,0,1):=by decide +kernel
@[simp] theorem fd113_1:tfield Tryz.prog 113 1=some (28,1,1):=by decide +kernel
@[simp] theorem ze113:vzero Tryz.prog 113=some [.bool false,.int .i64 0]:=by rfl
@[simp] theorem bu113 (l:List (Nat×PV)):vbuild Tryz.prog 113 l=(pfill (([(0,1),(1,1)]:List (Nat×Nat))[·]?) [.bool false,.int .i64 0] l).map .agg:=by rfl
@[simp] theorem za113:(azero Tryz.prog 113).bind pvcV=some (.agg [.bool false,.int .i64 0]):=by rfl
@[simp] theorem ag116:tagg Tryz.prog 116=some true:=by decide +kernel
@[simp] theorem sz116:tsz Tryz.prog 116=some 2:=by decide +kernel
@[simp] theorem fd116_0:tfield Tryz.prog 116 0=some (62,0,1):=by decide +kernel
@[simp] theorem fd116_1:tfield Tryz.prog 116 1=some (28,1,1):=by decide +kernel
@[simp] theorem ze116:vzero Tryz.prog 116=some [.sl0,.int .i64 0]:=by rfl
@[simp] theorem bu116 (l:List (Nat×PV)):vbuild Tryz.prog 116 l=(pfill (([(0,1),(1,1)]:List (Nat×Nat))[·]?) [.sl0,.int .i64 0] l).map .agg:=by rfl
@[simp] theorem za116:(azero Tryz.prog 116).bind pvcV=some (.agg [.sl0,.int .i64 0]):=by rfl
@[simp] theorem ag121:tagg Tryz.prog 121=some true:=by decide +kernel
@[simp] theorem sz121:tsz Tryz.prog 121=some 2:=by decide +kernel
@[simp] theorem fd121_0:tfield Tryz.prog 121 0=some (3,0,1):=by decide +kernel
@[simp] theorem fd121_1:tfield Tryz.prog 121 1=some (3,1,1):=by decide +kernel
@[simp] theorem ze121:vzero Tryz.prog 121=some [.int .i64 0,.int .i64 0]:=by rfl
@[simp] theorem bu121 (l:List (Nat×PV)):vbuild Tryz.prog 121 l=(pfill (([(0,1),(1,1)]:List (Nat×Nat))[·]?) [.int .i64 0,.int .i64 0] l).map .agg:=by rfl
@[simp] theorem za121:(azero Tryz.prog 121).bind pvcV=some (.agg [.int .i64 0,.int .i64 0]):=by rfl
@[simp] theorem ag128:tagg Tryz.prog 128=some false:=by decide +kernel
@[simp] theorem sz128:tsz Tryz.prog 128=some 1:=by decide +kernel
@[simp] theorem ze128:vzero Tryz.prog 128=some [.nilFunc]:=by rfl
@[simp] theorem za128:(azero Tryz.prog 128).bind pvcV=some (.nilFunc):=by rfl
@[simp] theorem ag133:tagg Tryz.prog 133=some false:=by decide +kernel
@[simp] theorem sz133:tsz Tryz.prog 133=some 1:=by decide +kernel
@[simp] theorem ze133:vzero Tryz.prog 133=some [.nilFunc]:=by rfl
@[simp] theorem za133:(azero Tryz.prog 133).bind pvcV=some (.nilFunc):=by rfl
@[simp] theorem ag137:tagg Tryz.prog 137=some true:=by decide +kernel
@[simp] theorem sz137:tsz Tryz.prog 137=some 6:=by decide +kernel
@[simp] theorem fd137_0:tfield Tryz.prog 137 0=some (3,0,1):=by decide +kernel
@[simp] theorem fd137_1:tfield Tryz.prog 137 1=some (3,1,1):=by decide +kernel
@[simp] theorem fd137_2:tfield Tryz.prog 137 2=some (3,2,1):=by decide +kernel
@[simp] theorem fd137_3:tfield Tryz.prog 137 3=some (3,3,1):=by decide +kernel
@[simp] theorem fd137_4:tfield Tryz.prog 137 4=some (3,4,1):=by decide +kernel
@[simp] theorem fd137_5:tfield Tryz.prog 137 5=some (3,5,1):=by decide +kernel
@[simp] theorem ze137:vzero Tryz.prog 137=some [.int .i64 0,.int .i64 0,.int .i64 0,.int .i64 0,.int .i64 0,.int .i64 0]:=by rfl
@[simp] theorem bu137 (l:List (Nat×PV)):vbuild Tryz.prog 137 l=(pfill (([(0,1),(1,1),(2,1),(3,1),(4,1),(5,1)]:List (Nat×Nat))[·]?) [.int .i64 0,.int .i64 0,.int .i64 0,.int .i64 0,.int .i64 0,.int .i64 0] l).map .agg:=by rfl
@[simp] theorem za137:(azero Tryz.prog 137).bind pvcV=some (.agg [.int .i64 0,.int .i64 0,.int .i64 0,.int .i64 0,.int .i64 0,.int .i64 0]):=by rfl
@[simp] theorem ag139:tagg Tryz.prog 139=some false:=by decide +kernel
@[simp] theorem sz139:tsz Tryz.prog 139=some 1:=by decide +kernel
@[simp] theorem ze139:vzero Tryz.prog 139=some [.nilFunc]:=by rfl
@[simp] theorem za139:(azero Tryz.prog 139).bind pvcV=some (.nilFunc):=by rfl
@[simp] theorem u140:Tryz.prog.underlying 140=some (.pointer 161):=by rfl
@[simp] theorem ag140:tagg Tryz.prog 140=some false:=by decide +kernel
@[simp] theorem sz140:tsz Tryz.prog 140=some 1:=by decide +kernel
@[simp] theorem ze140:vzero Tryz.prog 140=some [.ptr0]:=by rfl
@[simp] theorem za140:(azero Tryz.prog 140).bind pvcV=some (.ptr0):=by rfl
@[simp] theorem ag145:tagg Tryz.prog 145=some true:=by decide +kernel
@[simp] theorem sz145:tsz Tryz.prog 145=some 3:=by decide +kernel
@[simp] theorem fd145_0:tfield Tryz.prog 145 0=some (34,0,1):=by decide +kernel
@[simp] theorem fd145_1:tfield Tryz.prog 145 1=some (60,1,1):=by decide +kernel
@[simp] theorem fd145_2:tfield Tryz.prog 145 2=some (3,2,1):=by decide +kernel
@[simp] theorem ze145:vzero Tryz.prog 145=some [.sl0,.sl0,.int .i64 0]:=by rfl
@[simp] theorem bu145 (l:List (Nat×PV)):vbuild Tryz.prog 145 l=(pfill (([(0,1),(1,1),(2,1)]:List (Nat×Nat))[·]?) [.sl0,.sl0,.int .i64 0] l).map .agg:=by rfl
@[simp] theorem za145:(azero Tryz.prog 145).bind pvcV=some (.agg [.sl0,.sl0,.int .i64 0]):=by rfl
@[simp] theorem ag153:tagg Tryz.prog 153=some false:=by decide +kernel
@[simp] theorem sz153:tsz Tryz.prog 153=some 1:=by decide +kernel
@[simp] theorem ze153:vzero Tryz.prog 153=some [.nilFunc]:=by rfl
@[simp] theorem za153:(azero Tryz.prog 153).bind pvcV=some (.nilFunc):=by rfl
@[simp] theorem u158:Tryz.prog.underlying 158=some (.map 3 56):=by rfl
@[simp] theorem ag158:tagg Tryz.prog 158=some false:=by decide +kernel
@[simp] theorem sz158:tsz Tryz.prog 158=some 1:=by decide +kernel
@[simp] theorem ky158:tkey Tryz.prog 158=some (3,56):=by decide +kernel
@[simp] theorem ze158:vzero Tryz.prog 158=some [.map0]:=by rfl
@[simp] theorem za158:(azero Tryz.prog 158).bind pvcV=some (.map0):=by rfl
@[simp] theorem u159:Tryz.prog.underlying 159=some (.map 3 22):=by rfl
@[simp] theorem ag159:tagg Tryz.prog 159=some false:=by decide +kernel
@[simp] theorem sz159:tsz Tryz.prog 159=some 1:=by decide +kernel
@[simp] theorem ky159:tkey Tryz.prog 159=some (3,22):=by decide +kernel
@[simp] theorem ze159:vzero Tryz.prog 159=some [.map0]:=by rfl
@[simp] theorem za159:(azero Tryz.prog 159).bind pvcV=some (.map0):=by rfl
@[simp] theorem ag161:tagg Tryz.prog 161=some true:=by decide +kernel
@[simp] theorem sz161:tsz Tryz.prog 161=some 4:=by decide +kernel
@[simp] theorem fd161_0:tfield Tryz.prog 161 0=some (3,0,1):=by decide +kernel
@[simp] theorem fd161_1:tfield Tryz.prog 161 1=some (158,1,1):=by decide +kernel
@[simp] theorem fd161_2:tfield Tryz.prog 161 2=some (53,2,1):=by decide +kernel
@[simp] theorem fd161_3:tfield Tryz.prog 161 3=some (159,3,1):=by decide +kernel
@[simp] theorem ze161:vzero Tryz.prog 161=some [.int .i64 0,.map0,.map0,.map0]:=by rfl
@[simp] theorem bu161 (l:List (Nat×PV)):vbuild Tryz.prog 161 l=(pfill (([(0,1),(1,1),(2,1),(3,1)]:List (Nat×Nat))[·]?) [.int .i64 0,.map0,.map0,.map0] l).map .agg:=by rfl
@[simp] theorem za161:(azero Tryz.prog 161).bind pvcV=some (.agg [.int .i64 0,.map0,.map0,.map0]):=by rfl
@[simp] theorem ag175:tagg Tryz.prog 175=some false:=by decide +kernel
@[simp] theorem sz175:tsz Tryz.prog 175=some 1:=by decide +kernel
@[simp] theorem ze175:vzero Tryz.prog 175=some [.nilFunc]:=by rfl
@[simp] theorem za175:(azero Tryz.prog 175).bind pvcV=some (.nilFunc):=by rfl
@[simp] theorem ag178:tagg Tryz.prog 178=some true:=by decide +kernel
@[simp] theorem sz178:tsz Tryz.prog 178=some 2:=by decide +kernel
@[simp] theorem fd178_0:tfield Tryz.prog 178 0=some (3,0,1):=by decide +kernel
@[simp] theorem fd178_1:tfield Tryz.prog 178 1=some (3,1,1):=by decide +kernel
@[simp] theorem ze178:vzero Tryz.prog 178=some [.int .i64 0,.int .i64 0]:=by rfl
@[simp] theorem bu178 (l:List (Nat×PV)):vbuild Tryz.prog 178 l=(pfill (([(0,1),(1,1)]:List (Nat×Nat))[·]?) [.int .i64 0,.int .i64 0] l).map .agg:=by rfl
@[simp] theorem za178:(azero Tryz.prog 178).bind pvcV=some (.agg [.int .i64 0,.int .i64 0]):=by rfl
@[simp] theorem ag180:tagg Tryz.prog 180=some false:=by decide +kernel
@[simp] theorem sz180:tsz Tryz.prog 180=some 1:=by decide +kernel
@[simp] theorem ze180:vzero Tryz.prog 180=some [.nilFunc]:=by rfl
@[simp] theorem za180:(azero Tryz.prog 180).bind pvcV=some (.nilFunc):=by rfl
@[simp] theorem ag182:tagg Tryz.prog 182=some false:=by decide +kernel
@[simp] theorem sz182:tsz Tryz.prog 182=some 1:=by decide +kernel
@[simp] theorem ze182:vzero Tryz.prog 182=some [.nilFunc]:=by rfl
@[simp] theorem za182:(azero Tryz.prog 182).bind pvcV=some (.nilFunc):=by rfl
@[simp] theorem ag185:tagg Tryz.prog 185=some false:=by decide +kernel
@[simp] theorem sz185:tsz Tryz.prog 185=some 1:=by decide +kernel
@[simp] theorem ze185:vzero Tryz.prog 185=some [.nilFunc]:=by rfl
@[simp] theorem za185:(azero Tryz.prog 185).bind pvcV=some (.nilFunc):=by rfl
@[simp] theorem ag193:tagg Tryz.prog 193=some true:=by decide +kernel
@[simp] theorem sz193:tsz Tryz.prog 193=some 0:=by decide +kernel
@[simp] theorem ze193:vzero Tryz.prog 193=some []:=by rfl
@[simp] theorem bu193 (l:List (Nat×PV)):vbuild Tryz.prog 193 l=(pfill (([]:List (Nat×Nat))[·]?) [] l).map .agg:=by rfl
@[simp] theorem za193:(azero Tryz.prog 193).bind pvcV=some (.agg []):=by rfl
@[simp] theorem ag195:tagg Tryz.prog 195=some false:=by decide +kernel
@[simp] theorem sz195:tsz Tryz.prog 195=some 1:=by decide +kernel
@[simp] theorem ze195:vzero Tryz.prog 195=some [.nilFunc]:=by rfl
@[simp] theorem za195:(azero Tryz.prog 195).bind pvcV=some (.nilFunc):=by rfl
@[simp] theorem u206:Tryz.prog.underlying 206=some (.int .u64):=by rfl
@[simp] theorem ag206:tagg Tryz.prog 206=some false:=by decide +kernel
@[simp] theorem sz206:tsz Tryz.prog 206=some 1:=by decide +kernel
@[simp] theorem ze206:vzero Tryz.prog 206=some [.int .u64 0]:=by rfl
@[simp] theorem za206:(azero Tryz.prog 206).bind pvcV=some (.int .u64 0):=by rfl
@[simp] theorem u210:Tryz.prog.underlying 210=some (.slice 4):=by rfl
@[simp] theorem ag210:tagg Tryz.prog 210=some false:=by decide +kernel
@[simp] theorem sz210:tsz Tryz.prog 210=some 1:=by decide +kernel
@[simp] theorem el210:telem Tryz.prog 210=some (4,1):=by decide +kernel
@[simp] theorem by210:(Tryz.prog.info? 4).map (·.bytes)=some 1:=by decide +kernel
@[simp] theorem ze210:vzero Tryz.prog 210=some [.sl0]:=by rfl
@[simp] theorem za210:(azero Tryz.prog 210).bind pvcV=some (.sl0):=by rfl
@[simp] theorem u216:Tryz.prog.underlying 216=some (.map 3 195):=by rfl
@[simp] theorem ag216:tagg Tryz.prog 216=some false:=by decide +kernel
@[simp] theorem sz216:tsz Tryz.prog 216=some 1:=by decide +kernel
@[simp] theorem ky216:tkey Tryz.prog 216=some (3,195):=by decide +kernel
@[simp] theorem ze216:vzero Tryz.prog 216=some [.map0]:=by rfl
@[simp] theorem za216:(azero Tryz.prog 216).bind pvcV=some (.map0):=by rfl
@[simp] theorem u220:Tryz.prog.underlying 220=some (.int .i64):=by rfl
@[simp] theorem ag220:tagg Tryz.prog 220=some false:=by decide +kernel
@[simp] theorem sz220:tsz Tryz.prog 220=some 1:=by decide +kernel
@[simp] theorem ze220:vzero Tryz.prog 220=some [.int .i64 0]:=by rfl
@[simp] theorem za220:(azero Tryz.prog 220).bind pvcV=some (.int .i64 0):=by rfl
@[simp] theorem u227:Tryz.prog.underlying 227=some (.int .u32):=by rfl
@[simp] theorem ag227:tagg Tryz.prog 227=some false:=by decide +kernel
@[simp] theorem sz227:tsz Tryz.prog 227=some 1:=by decide +kernel
@[simp] theorem ze227:vzero Tryz.prog 227=some [.int .u32 0]:=by rfl
@[simp] theorem za227:(azero Tryz.prog 227).bind pvcV=some (.int .u32 0):=by rfl
@[simp] theorem u229:Tryz.prog.underlying 229=some (.int .u64):=by rfl
@[simp] theorem ag229:tagg Tryz.prog 229=some false:=by decide +kernel
@[simp] theorem sz229:tsz Tryz.prog 229=some 1:=by decide +kernel
@[simp] theorem ze229:vzero Tryz.prog 229=some [.int .u64 0]:=by rfl
@[simp] theorem za229:(azero Tryz.prog 229).bind pvcV=some (.int .u64 0):=by rfl
@[simp] theorem u233:Tryz.prog.underlying 233=some (.int .u64):=by rfl
@[simp] theorem ag233:tagg Tryz.prog 233=some false:=by decide +kernel
@[simp] theorem sz233:tsz Tryz.prog 233=some 1:=by decide +kernel
@[simp] theorem ze233:vzero Tryz.prog 233=some [.int .u64 0]:=by rfl
@[simp] theorem za233:(azero Tryz.prog 233).bind pvcV=some (.int .u64 0):=by rfl
@[simp] theorem u237:Tryz.prog.underlying 237=some (.pointer 3):=by rfl
@[simp] theorem ag237:tagg Tryz.prog 237=some false:=by decide +kernel
@[simp] theorem sz237:tsz Tryz.prog 237=some 1:=by decide +kernel
@[simp] theorem ze237:vzero Tryz.prog 237=some [.ptr0]:=by rfl
@[simp] theorem za237:(azero Tryz.prog 237).bind pvcV=some (.ptr0):=by rfl
end Go.Am.Hi
end
section
namespace Go.Am.Hi
open Go Go.Am Go.Proofs
theorem quiet136:Quiet Tryz.prog 136 2:=by
 refine⟨Tryz.call136,fun F hF hro n cargs w hsz=>?_⟩
 obtain⟨a0,a1,rfl⟩:∃a0 a1,cargs=#[a0,a1]:=by
  obtain⟨l⟩:=cargs
  match l,hsz with
  |[a,b],_=>exact⟨a,b,rfl⟩
 have hall:∀f,F.fn f:=hF.fn
 refine callsDIn_of_wpSIn Tryz.func136 rfl (hF.fn 136) fun c₀ cs hu=>?_
 apply wpSIn_seq
 apply wpSIn_region
 simp[wpOpsSIn,go_sem,recoverD,hu,Tryz.ntmps136,Exit.thenS,hall]
 apply wpSIn_seq
 apply wpSIn_region
 simp[wpOpsSIn,go_sem,recoverD,hu,Tryz.ntmps136,Exit.thenS,hall]
 refine wpSIn_cond (t:=false) (by simp[Act.eval,Array.replicate]) ?_
 simp only[Bool.false_eq_true,if_false]
 refine wpSIn_of_wpIn hro (wpIn_skip ?_)
 cases c₀
 simp_all[bodyPostS,results,Tryz.results136]
end Go.Am.Hi
end
