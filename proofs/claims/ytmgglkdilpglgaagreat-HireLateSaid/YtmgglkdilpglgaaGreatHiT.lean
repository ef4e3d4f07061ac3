/-
 What is used in the proof of a statement (part HiT); no condition.
-/
import Derived.Test.YtmgglkdilpglgaaGreatProg
import Derived.ProofKit
import Derived.Test.YtmgglkdilpglgaaGreatAm2
import Derived.Test.YtmgglkdilpglgaaGreatAm3
import Derived.Test.YtmgglkdilpglgaaGreatVm1
set_option linter.all false
set_option maxHeartbeats 40000000
set_option maxRecDepth 100000
section
namespace Go.Am.Hi
open Go Go.Am Go.Proofs Tryz
def so (a n:Nat):List zd7:=(List.range' a n).map .op
def dd15:List (Nat×DD):=[(17,⟨[0,0,3,7,15,31,63,127,255,511,1023,511,4095,8191,16383,32767,32767,131071,262143,524287,1048575,2097151,4194303,8388607,16777215,33554431,67108863,134217727,134217727,134217727,134217727,2147483647,4294967295,8589934591,17179869183],[1,2,11,12,15,17,27,31],[30,29,28],(so 0 12++[.ck 10,.op 12,.op 13,.op 14,.op 16,.op 15,.ck 16]++so 17 10++[.op 28,.op 29,.op 30,.op 27]++so 31 4)⟩)]
theorem ok15:FEOK prog (15,feOf f15 dd15):=⟨func15,rfl,by decide +kernel,call15⟩
def dd16:List (Nat×DD):=[(6,⟨[0,1,3,7,15,31,0,64,192,511],[2,3,4],[],[.op 0,.op 1,.op 6,.op 7,.op 8,.op 2,.ck 8,.ck 7,.op 3,.ck 8,.ck 7,.op 4,.ck 8,.ck 7,.op 5,.op 9]⟩)]
theorem ok16:FEOK prog (16,feOf f16 dd16):=⟨func16,rfl,by decide +kernel,call16⟩
def dd18:List (Nat×DD):=[]
theorem ok18:FEOK prog (18,feOf f18 dd18):=⟨func18,rfl,by decide +kernel,call18⟩
def dd22:List (Nat×DD):=[]
theorem ok22:FEOK prog (22,feOf f22 dd22):=⟨func22,rfl,by decide +kernel,call22⟩
def dd24:List (Nat×DD):=[]
theorem ok24:FEOK prog (24,feOf f24 dd24):=⟨func24,rfl,by decide +kernel,call24⟩
def dd26:List (Nat×DD):=[(6,⟨[0,0,3,7,0,0,48,112,255],[],[],so 0 9⟩)]
theorem ok26:FEOK prog (26,feOf f26 dd26):=⟨func26,rfl,by decide +kernel,call26⟩
def dd27:List (Nat×DD):=[(6,⟨[0,0,3,7,0,0,48,112,255],[],[],so 0 9⟩)]
theorem ok27:FEOK prog (27,feOf f27 dd27):=⟨func27,rfl,by decide +kernel,call27⟩
def dd32:List (Nat×DD):=[]
theorem ok32:FEOK prog (32,feOf f32 dd32):=⟨func32,rfl,by decide +kernel,call32⟩
def dd34:List (Nat×DD):=[(9,⟨[0,0,3,7,0,16,0,112,240,511,1023,2047,2047,8191,16383,2047,34815,2047,231423,493567,1048575,2097151,4194303,8388607,4194303,33554431,67108863,4194303,138412031,4194303,943718399,2017460223,4294967295,8589934591,17179869183],[],[],so 0 35⟩),(12,⟨[0,0,3,7,0,16,0,112,240,511],[],[],so 0 10⟩)]
theorem ok34:FEOK prog (34,feOf f34 dd34):=⟨func34,rfl,by decide +kernel,call34⟩
def dd38:List (Nat×DD):=[(10,⟨[0,1,0,7,15,0,32,96,255,511,1023,2047,4095,2047,10239,2047,59391,124927,262143,524287,2047,1050623,2047,7342079,15730687,33554431,67108863],[8],[],so 0 27⟩),(15,⟨[0,1,0,7,15,0,32,0,224,480,1023,2047,4095,4095,4095,32767,4095,4095,4095,266239,4095,1839103,3936255,8388607,16777215,33554431],[15,23],[],(so 0 15++so 16 7++[.op 15,.ck 22,.ck 19,.ck 16,.op 23,.op 24,.op 25])⟩)]
theorem ok38:FEOK prog (38,feOf f38 dd38):=⟨func38,rfl,by decide +kernel,call38⟩
def dd39:List (Nat×DD):=[]
theorem ok39:FEOK prog (39,feOf f39 dd39):=⟨func39,rfl,by decide +kernel,call39⟩
def dd40:List (Nat×DD):=[(12,⟨[0,0,3,7,0,16,48,112,255,511,1023,2047,2047,8191,16383,2047,65535,131071],[8],[],so 0 18⟩),(17,⟨[0,0,3,0,0,24,56,127,255],[7],[],so 0 9⟩)]
theorem ok40:FEOK prog (40,feOf f40 dd40):=⟨func40,rfl,by decide +kernel,call40⟩
def dd42:List (Nat×DD):=[]
theorem ok42:FEOK prog (42,feOf f42 dd42):=⟨func42,rfl,by decide +kernel,call42⟩
def dd46:List (Nat×DD):=[(15,⟨[0,0,2,0,0,16,0,64,0,256,199,2047],[10,11],[],(so 0 11++[.ck 9,.ck 5,.op 11])⟩)]
theorem ok46:FEOK prog (46,feOf f46 dd46):=⟨func46,rfl,by decide +kernel,call46⟩
def dd48:List (Nat×DD):=[]
theorem ok48:FEOK prog (48,feOf f48 dd48):=⟨func48,rfl,by decide +kernel,call48⟩
def dd50:List (Nat×DD):=[(6,⟨[0,0,3,7,0,0,48,112,255,511],[8],[],so 0 10⟩)]
theorem ok50:FEOK prog (50,feOf f50 dd50):=⟨func50,rfl,by decide +kernel,call50⟩
def dd52:List (Nat×DD):=[]
theorem ok52:FEOK prog (52,feOf f52 dd52):=⟨func52,rfl,by decide +kernel,call52⟩
def dd56:List (Nat×DD):=[]
theorem ok56:FEOK prog (56,feOf f56 dd56):=⟨func56,rfl,by decide +kernel,call56⟩
def dd61:List (Nat×DD):=[(4,⟨[0,0,2,0,0,31,63,127],[2,5],[],[.op 0,.op 1,.op 3,.op 4,.op 2,.ck 0,.op 5,.op 6,.op 7]⟩)]
theorem ok61:FEOK prog (61,feOf f61 dd61):=⟨func61,rfl,by decide +kernel,call61⟩
def dd64:List (Nat×DD):=[]
theorem ok64:FEOK prog (64,feOf f64 dd64):=⟨func64,rfl,by decide +kernel,call64⟩
def dd65:List (Nat×DD):=[]
theorem ok65:FEOK prog (65,feOf f65 dd65):=⟨func65,rfl,by decide +kernel,call65⟩
def dd66:List (Nat×DD):=[]
theorem ok66:FEOK prog (66,feOf f66 dd66):=⟨func66,rfl,by decide +kernel,call66⟩
def dd67:List (Nat×DD):=[]
theorem ok67:FEOK prog (67,feOf f67 dd67):=⟨func67,rfl,by decide +kernel,call67⟩
def dd68:List (Nat×DD):=[]
theorem ok68:FEOK prog (68,feOf f68 dd68):=⟨func68,rfl,by decide +kernel,call68⟩
def dd69:List (Nat×DD):=[]
theorem ok69:FEOK prog (69,feOf f69 dd69):=⟨func69,rfl,by decide +kernel,call69⟩
def dd70:List (Nat×DD):=[]
theorem ok70:FEOK prog (70,feOf f70 dd70):=⟨func70,rfl,by decide +kernel,call70⟩
def dd71:List (Nat×DD):=[]
theorem ok71:FEOK prog (71,feOf f71 dd71):=⟨func71,rfl,by decide +kernel,call71⟩
def dd72:List (Nat×DD):=[(6,⟨[0,0,3,7,0,0,32,112,240,511],[],[],so 0 10⟩),(11,⟨[0,0,3,7,0,0,32,112,240,511],[],[],so 0 10⟩)]
theorem ok72:FEOK prog (72,feOf f72 dd72):=⟨func72,rfl,by decide +kernel,call72⟩
def dd73:List (Nat×DD):=[]
theorem ok73:FEOK prog (73,feOf f73 dd73):=⟨func73,rfl,by decide +kernel,call73⟩
def dd74:List (Nat×DD):=[]
theorem ok74:FEOK prog (74,feOf f74 dd74):=⟨func74,rfl,by decide +kernel,call74⟩
def dd75:List (Nat×DD):=[]
theorem ok75:FEOK prog (75,feOf f75 dd75):=⟨func75,rfl,by decide +kernel,call75⟩
def dd76:List (Nat×DD):=[]
theorem ok76:FEOK prog (76,feOf f76 dd76):=⟨func76,rfl,by decide +kernel,call76⟩
def dd77:List (Nat×DD):=[(11,⟨[0,1,0,4,3,19,63,127],[5,7],[],(so 0 6++[.ck 3,.op 6,.op 7])⟩)]
theorem ok77:FEOK prog (77,feOf f77 dd77):=⟨func77,rfl,by decide +kernel,call77⟩
def dd78:List (Nat×DD):=[]
theorem ok78:FEOK prog (78,feOf f78 dd78):=⟨func78,rfl,by decide +kernel,call78⟩
def dd79:List (Nat×DD):=[]
theorem ok79:FEOK prog (79,feOf f79 dd79):=⟨func79,rfl,by decide +kernel,call79⟩
def dd80:List (Nat×DD):=[]
theorem ok80:FEOK prog (80,feOf f80 dd80):=⟨func80,rfl,by decide +kernel,call80⟩
def dd85:List (Nat×DD):=[]
theorem ok85:FEOK prog (85,feOf f85 dd85):=⟨func85,rfl,by decide +kernel,call85⟩
def dd86:List (Nat×DD):=[]
theorem ok86:FEOK prog (86,feOf f86 dd86):=⟨func86,rfl,by decide +kernel,call86⟩
def dd87:List (Nat×DD):=[]
theorem ok87:FEOK prog (87,feOf f87 dd87):=⟨func87,rfl,by decide +kernel,call87⟩
def dd90:List (Nat×DD):=[]
theorem ok90:FEOK prog (90,feOf f90 dd90):=⟨func90,rfl,by decide +kernel,call90⟩
def dd93:List (Nat×DD):=[]
theorem ok93:FEOK prog (93,feOf f93 dd93):=⟨func93,rfl,by decide +kernel,call93⟩
def dd94:List (Nat×DD):=[]
theorem ok94:FEOK prog (94,feOf f94 dd94):=⟨func94,rfl,by decide +kernel,call94⟩
def dd95:List (Nat×DD):=[]
theorem ok95:FEOK prog (95,feOf f95 dd95):=⟨func95,rfl,by decide +kernel,call95⟩
def dd96:List (Nat×DD):=[(2,⟨[0,1,0,4,15,0,63],[1,6],[5,3],[.op 0,.op 2,.op 3,.op 5,.op 1,.op 4,.op 6]⟩),(23,⟨[0,1,0,0,8,0,0,0,192,0,455,1479,4095,8191],[11,13],[],(so 0 12++[.ck 4,.op 12,.op 13])⟩)]
theorem ok96:FEOK prog (96,feOf f96 dd96):=⟨func96,rfl,by decide +kernel,call96⟩
def dd97:List (Nat×DD):=[]
theorem ok97:FEOK prog (97,feOf f97 dd97):=⟨func97,rfl,by decide +kernel,call97⟩
def dd98:List (Nat×DD):=[]
theorem ok98:FEOK prog (98,feOf f98 dd98):=⟨func98,rfl,by decide +kernel,call98⟩
def dd99:List (Nat×DD):=[]
theorem ok99:FEOK prog (99,feOf f99 dd99):=⟨func99,rfl,by decide +kernel,call99⟩
def z7k:List (Nat×DD):=[(6,⟨[0,0,0,6,14,31,0,0,0,384,896,2047,4095],[5,11],[],(so 0 5++so 6 5++[.op 5,.ck 10,.op 11,.op 12])⟩),(8,⟨[0,1,3,3,3,27,59,127,3,3,3,1539,3587,8191,16383,32767,65535],[7,13],[],(so 0 7++so 8 5++[.op 7,.ck 12]++so 13 4)⟩)]
theorem xb7:FEOK prog (100,feOf f100 z7k):=⟨func100,rfl,by decide +kernel,call100⟩
def z5u:List (Nat×DD):=[]
theorem xbt:FEOK prog (104,feOf f104 z5u):=⟨func104,rfl,by decide +kernel,call104⟩
def z9h:List (Nat×DD):=[]
theorem xe7:FEOK prog (105,feOf f105 z9h):=⟨func105,rfl,by decide +kernel,call105⟩
def xak:List (Nat×DD):=[]
theorem xep:FEOK prog (106,feOf f106 xak):=⟨func106,rfl,by decide +kernel,call106⟩
def z7s:List (Nat×DD):=[]
theorem xcm:FEOK prog (107,feOf f107 z7s):=⟨func107,rfl,by decide +kernel,call107⟩
def z5k:List (Nat×DD):=[]
theorem xfi:FEOK prog (109,feOf f109 z5k):=⟨func109,rfl,by decide +kernel,call109⟩
def z6e:List (Nat×DD):=[]
theorem xee:FEOK prog (110,feOf f110 z6e):=⟨func110,rfl,by decide +kernel,call110⟩
def z5q:List (Nat×DD):=[(6,⟨[0,0,2,0,0,16,0,0,128,448,960,0,0,4096,14336,30720,65479,131015,262143,524287],[17,19],[],(so 0 18++[.ck 5,.op 18,.op 19])⟩)]
theorem xc6:FEOK prog (113,feOf f113 z5q):=⟨func113,rfl,by decide +kernel,call113⟩
def xaz:List (Nat×DD):=[]
theorem xd4:FEOK prog (115,feOf f115 xaz):=⟨func115,rfl,by decide +kernel,call115⟩
def z6k:List (Nat×DD):=[]
theorem xce:FEOK prog (116,feOf f116 z6k):=⟨func116,rfl,by decide +kernel,call116⟩
def z7n:List (Nat×DD):=[]
theorem xd7:FEOK prog (118,feOf f118 z7n):=⟨func118,rfl,by decide +kernel,call118⟩
def xav:List (Nat×DD):=[]
theorem xcl:FEOK prog (119,feOf f119 xav):=⟨func119,rfl,by decide +kernel,call119⟩
def z8i:List (Nat×DD):=[]
theorem xd8:FEOK prog (120,feOf f120 z8i):=⟨func120,rfl,by decide +kernel,call120⟩
def z9j:List (Nat×DD):=[]
theorem xdb:FEOK prog (121,feOf f121 z9j):=⟨func121,rfl,by decide +kernel,call121⟩
def z6n:List (Nat×DD):=[]
theorem xdr:FEOK prog (122,feOf f122 z6n):=⟨func122,rfl,by decide +kernel,call122⟩
def z7h:List (Nat×DD):=[]
theorem xdx:FEOK prog (123,feOf f123 z7h):=⟨func123,rfl,by decide +kernel,call123⟩
def xa0:List (Nat×DD):=[]
theorem xfl:FEOK prog (124,feOf f124 xa0):=⟨func124,rfl,by decide +kernel,call124⟩
def z9c:List (Nat×DD):=[]
theorem xc2:FEOK prog (125,feOf f125 z9c):=⟨func125,rfl,by decide +kernel,call125⟩
def z7x:List (Nat×DD):=[]
theorem xfc:FEOK prog (126,feOf f126 z7x):=⟨func126,rfl,by decide +kernel,call126⟩
def xax:List (Nat×DD):=[]
theorem xdl:FEOK prog (127,feOf f127 xax):=⟨func127,rfl,by decide +kernel,call127⟩
def z8l:List (Nat×DD):=[]
theorem xct:FEOK prog (131,feOf f131 z8l):=⟨func131,rfl,by decide +kernel,call131⟩
def xat:List (Nat×DD):=[(10,⟨[0,0,3,0,0,24,56,127,255],[7],[],so 0 9⟩),(13,⟨[0,0,0,0,12,28,63,0,0,0,0,1536,3584,8191,16383],[6,13],[],(so 0 6++so 7 6++[.op 6,.ck 12,.ck 7,.op 13,.op 14])⟩),(15,⟨[0,1,3,3,3,3,51,115,255,3,3,3,3,6147,14339,32767,65535,131071,262143],[8,15],[],(so 0 8++so 9 6++[.op 8,.ck 14,.ck 9]++so 15 4)⟩)]
theorem xcx:FEOK prog (132,feOf f132 xat):=⟨func132,rfl,by decide +kernel,call132⟩
def z7p:List (Nat×DD):=[]
theorem xbi:FEOK prog (133,feOf f133 z7p):=⟨func133,rfl,by decide +kernel,call133⟩
def z7w:List (Nat×DD):=[]
theorem xer:FEOK prog (134,feOf f134 z7w):=⟨func134,rfl,by decide +kernel,call134⟩
def z9i:List (Nat×DD):=[]
theorem xej:FEOK prog (135,feOf f135 z9i):=⟨func135,rfl,by decide +kernel,call135⟩
def z8f:List (Nat×DD):=[]
theorem xdq:FEOK prog (136,feOf f136 z8f):=⟨func136,rfl,by decide +kernel,call136⟩
def xau:List (Nat×DD):=[(2,⟨[0,1,0,4,12,28,63,127],[7],[],so 0 8⟩)]
theorem xex:FEOK prog (137,feOf f137 xau):=⟨func137,rfl,by decide +kernel,call137⟩
def z6u:List (Nat×DD):=[]
theorem xc1:FEOK prog (140,feOf f140 z6u):=⟨func140,rfl,by decide +kernel,call140⟩
def z8g:List (Nat×DD):=[]
theorem xc4:FEOK prog (141,feOf f141 z8g):=⟨func141,rfl,by decide +kernel,call141⟩
def z8s:List (Nat×DD):=[]
theorem xdn:FEOK prog (142,feOf f142 z8s):=⟨func142,rfl,by decide +kernel,call142⟩
def z8z:List (Nat×DD):=[]
theorem xfd:FEOK prog (143,feOf f143 z8z):=⟨func143,rfl,by decide +kernel,call143⟩
def z9o:List (Nat×DD):=[]
theorem xdw:FEOK prog (144,feOf f144 z9o):=⟨func144,rfl,by decide +kernel,call144⟩
def xar:List (Nat×DD):=[]
theorem xfn:FEOK prog (145,feOf f145 xar):=⟨func145,rfl,by decide +kernel,call145⟩
def xa1:List (Nat×DD):=[]
theorem xe5:FEOK prog (146,feOf f146 xa1):=⟨func146,rfl,by decide +kernel,call146⟩
def xac:List (Nat×DD):=[]
theorem xdk:FEOK prog (147,feOf f147 xac):=⟨func147,rfl,by decide +kernel,call147⟩
def z6v:List (Nat×DD):=[]
theorem xft:FEOK prog (148,feOf f148 z6v):=⟨func148,rfl,by decide +kernel,call148⟩
def xaj:List (Nat×DD):=[(17,⟨[0,1,3,7,7,23,63,127,7,7,775,1799,4095,8191,16383],[12],[],so 0 15⟩)]
theorem xca:FEOK prog (149,feOf f149 xaj):=⟨func149,rfl,by decide +kernel,call149⟩
def z9a:List (Nat×DD):=[]
theorem xcc:FEOK prog (150,feOf f150 z9a):=⟨func150,rfl,by decide +kernel,call150⟩
def z6g:List (Nat×DD):=[]
theorem xbs:FEOK prog (151,feOf f151 z6g):=⟨func151,rfl,by decide +kernel,call151⟩
def z6b:List (Nat×DD):=[]
theorem xcq:FEOK prog (152,feOf f152 z6b):=⟨func152,rfl,by decide +kernel,call152⟩
def z7e:List (Nat×DD):=[(4,⟨[0,0,3,0,0,24,56,127,255],[7],[],so 0 9⟩)]
theorem xbo:FEOK prog (153,feOf f153 z7e):=⟨func153,rfl,by decide +kernel,call153⟩
def z5y:List (Nat×DD):=[]
theorem xc3:FEOK prog (154,feOf f154 z5y):=⟨func154,rfl,by decide +kernel,call154⟩
def z8n:List (Nat×DD):=[]
theorem xc5:FEOK prog (155,feOf f155 z8n):=⟨func155,rfl,by decide +kernel,call155⟩
def z9z:List (Nat×DD):=[]
theorem xb1:FEOK prog (156,feOf f156 z9z):=⟨func156,rfl,by decide +kernel,call156⟩
def z8u:List (Nat×DD):=[]
theorem xc8:FEOK prog (157,feOf f157 z8u):=⟨func157,rfl,by decide +kernel,call157⟩
def xam:List (Nat×DD):=[]
theorem xen:FEOK prog (158,feOf f158 xam):=⟨func158,rfl,by decide +kernel,call158⟩
def z9v:List (Nat×DD):=[]
theorem xdt:FEOK prog (159,feOf f159 z9v):=⟨func159,rfl,by decide +kernel,call159⟩
def z9x:List (Nat×DD):=[]
theorem xfr:FEOK prog (160,feOf f160 z9x):=⟨func160,rfl,by decide +kernel,call160⟩
def z8o:List (Nat×DD):=[]
theorem xds:FEOK prog (161,feOf f161 z8o):=⟨func161,rfl,by decide +kernel,call161⟩
def xas:List (Nat×DD):=[(3,⟨[0,1,3,7,0,16,0,64,192,448,0,1024,4032,8128,0,16384,49152,131008,262143],[13,17,18],[16],(so 0 13++[.op 14,.op 15,.op 16,.op 13,.ck 15,.ck 5,.ck 3,.op 17,.ck 5,.ck 3,.op 18])⟩)]
theorem xey:FEOK prog (162,feOf f162 xas):=⟨func162,rfl,by decide +kernel,call162⟩
def z7f:List (Nat×DD):=[(1,⟨[0,1,3,7,0,16,63,127,255,255,511,2047],[],[],so 0 12⟩),(3,⟨[0,1,3,7,0,16,63,127],[],[],so 0 8⟩),(4,⟨[0,1,3,7,15,31,63,127,255,511,1023,2047,4095,8191,2047,18431,65535,131071,262143,524287],[19],[],so 0 20⟩),(6,⟨[0,1,3,7,0,16,0,64,255],[8],[],so 0 9⟩),(7,⟨[0,1,3,7,0,16,0,64,0,256,0,1024,0,4096,0,16384,49152,126976,262080,524287],[19],[],so 0 20⟩)]
theorem xdj:FEOK prog (163,feOf f163 z7f):=⟨func163,rfl,by decide +kernel,call163⟩
def z5s:List (Nat×DD):=[(3,⟨[0,1,3,7,0,16,63],[6],[],so 0 7⟩),(4,⟨[0,1,3,7,0,16,63],[6],[],so 0 7⟩)]
theorem xb2:FEOK prog (164,feOf f164 z5s):=⟨func164,rfl,by decide +kernel,call164⟩
def xai:List (Nat×DD):=[(5,⟨[0,1,3,7,0,16,0,64,192,448,0,1024,0,0,1023,17407,54271,122879,253951,524287],[14,16,17,19],[],(so 0 15++[.ck 13,.ck 12,.ck 11,.op 15,.op 16,.ck 13,.ck 11,.op 17,.ck 13,.op 18,.op 19])⟩),(6,⟨[0,1,3,7,0,16,0,64,192,448,0,1024,0,4096,0,16384,1023,66559,209919,475135,999423,2097151],[16,18,19,21],[],(so 0 17++[.ck 15,.ck 13,.ck 11,.op 17,.op 18,.ck 15,.ck 11,.op 19,.ck 15,.op 20,.op 21])⟩)]
theorem xeu:FEOK prog (165,feOf f165 xai):=⟨func165,rfl,by decide +kernel,call165⟩
def z7m:List (Nat×DD):=[]
theorem xe1:FEOK prog (166,feOf f166 z7m):=⟨func166,rfl,by decide +kernel,call166⟩
def z7l:List (Nat×DD):=[]
theorem xfh:FEOK prog (167,feOf f167 z7l):=⟨func167,rfl,by decide +kernel,call167⟩
def z5o:List (Nat×DD):=[]
theorem xfg:FEOK prog (168,feOf f168 z5o):=⟨func168,rfl,by decide +kernel,call168⟩
def z6x:List (Nat×DD):=[]
theorem xcz:FEOK prog (169,feOf f169 z6x):=⟨func169,rfl,by decide +kernel,call169⟩
def z8h:List (Nat×DD):=[]
theorem xea:FEOK prog (170,feOf f170 z8h):=⟨func170,rfl,by decide +kernel,call170⟩
def z7g:List (Nat×DD):=[(4,⟨[0,0,3,7,15,15,63,127,15,15,527,1807,3855,8191,16383],[13],[],so 0 15⟩),(6,⟨[0,0,0,0,8,0,0,64,224,480,0,0,3072,7168,16355,32739,65535,131071],[15,17],[],so 0 18⟩)]
theorem xe8:FEOK prog (171,feOf f171 z7g):=⟨func171,rfl,by decide +kernel,call171⟩
def z7q:List (Nat×DD):=[(10,⟨[0,0,0,0,0,24,0,0,0,384,960,1984,0,0,12288,28672,65475,131011,262143,524287],[17,19],[],so 0 20⟩)]
theorem xd5:FEOK prog (172,feOf f172 z7q):=⟨func172,rfl,by decide +kernel,call172⟩
def xap:List (Nat×DD):=[(10,⟨[0,0,0,0,0,24,0,0,0,384,960,1984,0,0,12288,28672,65475,131011,262143,524287],[17,19],[],so 0 20⟩)]
theorem xew:FEOK prog (173,feOf f173 xap):=⟨func173,rfl,by decide +kernel,call173⟩
def z6q:List (Nat×DD):=[]
theorem xc7:FEOK prog (174,feOf f174 z6q):=⟨func174,rfl,by decide +kernel,call174⟩
def z8v:List (Nat×DD):=[(3,⟨[0,0,0,0,0,0,48,112,0,0,768,1792,4083,8179,16383,32767],[13,15],[],so 0 16⟩)]
theorem xfs:FEOK prog (175,feOf f175 z8v):=⟨func175,rfl,by decide +kernel,call175⟩
def z9f:List (Nat×DD):=[(5,⟨[0,0,3,7,15,15,63,127,15,15,527,1807,3855,8191,16383,32767],[13],[],so 0 16⟩),(11,⟨[0,0,0,0,8,0,0,64,224,480,0,0,3072,7168,16355,32739,65535,131071],[15,17],[],so 0 18⟩),(16,⟨[0,0,3,7,0,0,32,112,240,511,1023],[9],[],so 0 11⟩),(17,⟨[0,0,0,0,8,0,0,64,224,480,0,0,3072,7168,16355,32739,65535,131071],[15,17],[],so 0 18⟩),(22,⟨[0,0,3,7,0,0,32,112,240,511,1023],[9],[],so 0 11⟩),(23,⟨[0,0,0,0,8,0,0,64,224,480,0,0,3072,7168,16355,32739,65535,131071],[15,17],[],so 0 18⟩)]
theorem xcb:FEOK prog (176,feOf f176 z9f):=⟨func176,rfl,by decide +kernel,call176⟩
def z8r:List (Nat×DD):=[]
theorem xfk:FEOK prog (177,feOf f177 z8r):=⟨func177,rfl,by decide +kernel,call177⟩
def xa5:List (Nat×DD):=[(1,⟨[0,0,0,0,0,0,48,112,0,0,768,1792,4083,8179,16383,32767],[13,15],[],so 0 16⟩),(3,⟨[0,0,3,7,15,15,63,127,15,15,783,1807,4095,8191,16383],[12],[],so 0 15⟩),(5,⟨[0,0,3,7,15,15,63,127,15,15,783,1807,4095,8191],[12],[],so 0 14⟩),(8,⟨[0,0,0,0,0,0,48,112,0,0,768,1792,4083,8179,16383,32767],[13,15],[],so 0 16⟩)]
theorem xek:FEOK prog (178,feOf f178 xa5):=⟨func178,rfl,by decide +kernel,call178⟩
def z6d:List (Nat×DD):=[(1,⟨[0,0,0,0,0,0,48,112,0,0,768,1792,4083,8179,16383,32767],[13,15],[],so 0 16⟩),(3,⟨[0,0,3,7,15,15,63,127,15,15,783,1807,4095,8191],[12],[],so 0 14⟩),(5,⟨[0,0,3,7,15,15,63,127,15,15,783,1807,4095,8191,16383],[12],[],so 0 15⟩),(8,⟨[0,0,0,0,0,0,48,112,0,0,768,1792,4083,8179,16383,32767],[13,15],[],so 0 16⟩),(10,⟨[0,0,0,0,0,0,48,112,0,0,768,1792,4083,8179,16383,32767],[13,15],[],so 0 16⟩),(13,⟨[0,0,3,7,15,15,63,127,15,15,783,1807,4095,8191],[12],[],so 0 14⟩),(15,⟨[0,0,3,7,15,15,63,127,15,15,783,1807,4095,8191,16383],[12],[],so 0 15⟩),(18,⟨[0,0,0,0,0,0,48,112,0,0,768,1792,4083,8179,16383,32767],[13,15],[],so 0 16⟩),(21,⟨[0,0,0,0,0,0,48,112,0,0,768,1792,4083,8179,16383,32767],[13,15],[],so 0 16⟩)]
theorem xbk:FEOK prog (179,feOf f179 z6d):=⟨func179,rfl,by decide +kernel,call179⟩
def xaw:List (Nat×DD):=[]
theorem xcn:FEOK prog (180,feOf f180 xaw):=⟨func180,rfl,by decide +kernel,call180⟩
def z7b:List (Nat×DD):=[]
theorem xck:FEOK prog (181,feOf f181 z7b):=⟨func181,rfl,by decide +kernel,call181⟩
def z7v:List (Nat×DD):=[]
theorem xdy:FEOK prog (182,feOf f182 z7v):=⟨func182,rfl,by decide +kernel,call182⟩
def z6j:List (Nat×DD):=[(4,⟨[0,0,3,7,15,15,15,111,239,15,15,1039,3599,7695,16383,32767,65535],[14],[],so 0 17⟩),(6,⟨[0,0,0,0,8,0,0,64,224,480,0,0,3072,7168,16355,32739,65535,131071],[15,17],[],so 0 18⟩)]
theorem xdh:FEOK prog (183,feOf f183 z6j):=⟨func183,rfl,by decide +kernel,call183⟩
def z5p:List (Nat×DD):=[(5,⟨[0,0,0,6,14,0,0,96,224,511,1023],[9],[],so 0 11⟩),(11,⟨[0,0,0,0,8,0,0,64,224,480,0,0,3072,7168,16355,32739,65535,131071],[15,17],[],so 0 18⟩),(17,⟨[0,0,0,6,14,0,0,96,224,511,1023,2047],[9],[],so 0 12⟩),(23,⟨[0,0,0,0,8,0,0,64,224,480,0,0,3072,7168,16355,32739,65535,131071],[15,17],[],so 0 18⟩),(35,⟨[0,0,0,0,12,30,62,0,0,384,896,2047,4095,8191],[11],[],so 0 14⟩)]
theorem xfu:FEOK prog (184,feOf f184 z5p):=⟨func184,rfl,by decide +kernel,call184⟩
def xa2:List (Nat×DD):=[(1,⟨[0,1,3,7,0,0,32,96,224,0,992,2016,0,8160,16383],[11,13,14],[],(so 0 11++[.op 12,.op 11,.ck 3,.op 13,.ck 3,.op 14])⟩)]
theorem xdm:FEOK prog (185,feOf f185 xa2):=⟨func185,rfl,by decide +kernel,call185⟩
def z5l:List (Nat×DD):=[(3,⟨[0,1,0,7,15,31,31,31,223,511,1023,31,31,31,12319,28703,63519,129055,262143,524287],[18],[],so 0 20⟩),(5,⟨[0,0,0,6,15,31,0,0,0,384,960,1984,4095,8191],[12],[],so 0 14⟩),(6,⟨[0,0,0,6,0,0,0,96,0,0,0,1536,3840,7936,0,0,0,98304,245760,507904,1048335,2096911,4194303,8388607],[21,23],[],so 0 24⟩)]
theorem xef:FEOK prog (186,feOf f186 z5l):=⟨func186,rfl,by decide +kernel,call186⟩
def xal:List (Nat×DD):=[]
theorem xcv:FEOK prog (187,feOf f187 xal):=⟨func187,rfl,by decide +kernel,call187⟩
def z5z:List (Nat×DD):=[(1,⟨[0,1,3,0,8,24,56,127,255,511],[9],[],so 0 10⟩),(2,⟨[0,1,3,0,8,24,56,127,255,511],[9],[],so 0 10⟩),(3,⟨[0,1,3,0,8,24,56,127,255,511],[9],[],so 0 10⟩)]
theorem xes:FEOK prog (188,feOf f188 z5z):=⟨func188,rfl,by decide +kernel,call188⟩
def z8p:List (Nat×DD):=[]
theorem xeo:FEOK prog (189,feOf f189 z8p):=⟨func189,rfl,by decide +kernel,call189⟩
def z7r:List (Nat×DD):=[]
theorem xbz:FEOK prog (190,feOf f190 z7r):=⟨func190,rfl,by decide +kernel,call190⟩
def z6z:List (Nat×DD):=[]
theorem xcd:FEOK prog (191,feOf f191 z6z):=⟨func191,rfl,by decide +kernel,call191⟩
def z6s:List (Nat×DD):=[]
theorem xd6:FEOK prog (192,feOf f192 z6s):=⟨func192,rfl,by decide +kernel,call192⟩
def z6w:List (Nat×DD):=[(1,⟨[0,0,3,7,0,0,48,112,255],[8],[],so 0 9⟩)]
theorem xd2:FEOK prog (193,feOf f193 z6w):=⟨func193,rfl,by decide +kernel,call193⟩
def xa4:List (Nat×DD):=[(3,⟨[0,0,0,6,0,0,0,96,0,0,0,1536,3840,7936,0,0,0,98304,245760,507904,1048335,2096911,4194303,8388607],[21,23],[],so 0 24⟩)]
theorem xb8:FEOK prog (194,feOf f194 xa4):=⟨func194,rfl,by decide +kernel,call194⟩
noncomputable def tabL:List (Nat×FE):=[(15,feOf f15 dd15),(16,feOf f16 dd16),(18,feOf f18 dd18),(22,feOf f22 dd22),(24,feOf f24 dd24),(26,feOf f26 dd26),(27,feOf f27 dd27),(32,feOf f32 dd32),(34,feOf f34 dd34),(38,feOf f38 dd38),(39,feOf f39 dd39),(40,feOf f40 dd40),(42,feOf f42 dd42),(46,feOf f46 dd46),(48,feOf f48 dd48),(50,feOf f50 dd50),(52,feOf f52 dd52),(56,feOf f56 dd56),(61,feOf f61 dd61),(64,feOf f64 dd64),(65,feOf f65 dd65),(66,feOf f66 dd66),(67,feOf f67 dd67),(68,feOf f68 dd68),(69,feOf f69 dd69),(70,feOf f70 dd70),(71,feOf f71 dd71),(72,feOf f72 dd72),(73,feOf f73 dd73),(74,feOf f74 dd74),(75,feOf f75 dd75),(76,feOf f76 dd76),(77,feOf f77 dd77),(78,feOf f78 dd78),(79,feOf f79 dd79),(80,feOf f80 dd80),(85,feOf f85 dd85),(86,feOf f86 dd86),(87,feOf f87 dd87),(90,feOf f90 dd90),(93,feOf f93 dd93),(94,feOf f94 dd94),(95,feOf f95 dd95),(96,feOf f96 dd96),(97,feOf f97 dd97),(98,feOf f98 dd98),(99,feOf f99 dd99),(100,feOf f100 z7k),(104,feOf f104 z5u),(105,feOf f105 z9h),(106,feOf f106 xak),(107,feOf f107 z7s),(109,feOf f109 z5k),(110,feOf f110 z6e),(113,feOf f113 z5q),(115,feOf f115 xaz),(116,feOf f116 z6k),(118,feOf f118 z7n),(119,feOf f119 xav),(120,feOf f120 z8i),(121,feOf f121 z9j),(122,feOf f122 z6n),(123,feOf f123 z7h),(124,feOf f124 xa0),(125,feOf f125 z9c),(126,feOf f126 z7x),(127,feOf f127 xax),(131,feOf f131 z8l),(132,feOf f132 xat),(133,feOf f133 z7p),(134,feOf f134 z7w),(135,feOf f135 z9i),(136,feOf f136 z8f),(137,feOf f137 xau),(140,feOf f140 z6u),(141,feOf f141 z8g),(142,feOf f142 z8s),(143,feOf f143 z8z),(144,feOf f144 z9o),(145,feOf f145 xar),(146,feOf f146 xa1),(147,feOf f147 xac),(148,feOf f148 z6v),(149,feOf f149 xaj),(150,feOf f150 z9a),(151,feOf f151 z6g),(152,feOf f152 z6b),(153,feOf f153 z7e),(154,feOf f154 z5y),(155,feOf f155 z8n),(156,feOf f156 z9z),(157,feOf f157 z8u),(158,feOf f158 xam),(159,feOf f159 z9v),(160,feOf f160 z9x),(161,feOf f161 z8o),(162,feOf f162 xas),(163,feOf f163 z7f),(164,feOf f164 z5s),(165,feOf f165 xai),(166,feOf f166 z7m),(167,feOf f167 z7l),(168,feOf f168 z5o),(169,feOf f169 z6x),(170,feOf f170 z8h),(171,feOf f171 z7g),(172,feOf f172 z7q),(173,feOf f173 xap),(174,feOf f174 z6q),(175,feOf f175 z8v),(176,feOf f176 z9f),(177,feOf f177 z8r),(178,feOf f178 xa5),(179,feOf f179 z6d),(180,feOf f180 xaw),(181,feOf f181 z7b),(182,feOf f182 z7v),(183,feOf f183 z6j),(184,feOf f184 z5p),(185,feOf f185 xa2),(186,feOf f186 z5l),(187,feOf f187 xal),(188,feOf f188 z5z),(189,feOf f189 z8p),(190,feOf f190 z7r),(191,feOf f191 z6z),(192,feOf f192 z6s),(193,feOf f193 z6w),(194,feOf f194 xa4)]
theorem zr2:∀p∈tabL,FEOK prog p:=zad ok15 (zad ok16 (zad ok18 (zad ok22 (zad ok24 (zad ok26 (zad ok27 (zad ok32 (zad ok34 (zad ok38 (zad ok39 (zad ok40 (zad ok42 (zad ok46 (zad ok48 (zad ok50 (zad ok52 (zad ok56 (zad ok61 (zad ok64 (zad ok65 (zad ok66 (zad ok67 (zad ok68 (zad ok69 (zad ok70 (zad ok71 (zad ok72 (zad ok73 (zad ok74 (zad ok75 (zad ok76 (zad ok77 (zad ok78 (zad ok79 (zad ok80 (zad ok85 (zad ok86 (zad ok87 (zad ok90 (zad ok93 (zad ok94 (zad ok95 (zad ok96 (zad ok97 (zad ok98 (zad ok99 (zad xb7 (zad xbt (zad xe7 (zad xep (zad xcm (zad xfi (zad xee (zad xc6 (zad xd4 (zad xce (zad xd7 (zad xcl (zad xd8 (zad xdb (zad xdr (zad xdx (zad xfl (zad xc2 (zad xfc (zad xdl (zad xct (zad xcx (zad xbi (zad xer (zad xej (zad xdq (zad xex (zad xc1 (zad xc4 (zad xdn (zad xfd (zad xdw (zad xfn (zad xe5 (zad xdk (zad xft (zad xca (zad xcc (zad xbs (zad xcq (zad xbo (zad xc3 (zad xc5 (zad xb1 (zad xc8 (zad xen (zad xdt (zad xfr (zad xds (zad xey (zad xdj (zad xb2 (zad xeu (zad xe1 (zad xfh (zad xfg (zad xcz (zad xea (zad xe8 (zad xd5 (zad xew (zad xc7 (zad xfs (zad xcb (zad xfk (zad xek (zad xbk (zad xcn (zad xck (zad xdy (zad xdh (zad xfu (zad xdm (zad xef (zad xcv (zad xes (zad xeo (zad xbz (zad xcd (zad xd6 (zad xd2 (zad xb8 z1v))))))))))))))))))))))))))))))))))))))))))))))))))))))))))))))))))))))))))))))))))))))))))))))))))))))))))))))))))))))))))))))))
end Go.Am.Hi
end
section
namespace Go.Am.Hi
open Go Go.Am Go.Proofs Tryz Go.Shelf
def zyc:Ren where
  f := fun x => match x with
    |5=>98
    |8=>150
    |7=>149
    |19=>180
    |20=>181
    |10=>171
    |11=>172
    |12=>173
    |13=>174
    |14=>175
    |15=>176
    |16=>177
    |17=>178
    |18=>179
    |30=>186
    |31=>187
    |32=>188
    |33=>189
    |34=>190
    |35=>157
    |40=>193
    |n=>n
  t := fun x => match x with
    |23=>22
    |25=>3
    |3=>3
    |32=>206
    |22=>22
    |0=>0
    |44=>227
    |46=>229
    |4=>4
    |36=>221
    |35=>220
    |41=>57
    |5=>5
    |9=>9
    |53=>233
    |57=>237
    |63=>239
    |64=>240
    |n=>n
  g:=fun n=>n
theorem z2t:SlLaysM.n5 prog zyc where
  mixed:=rfl
  f5:=⟨ "slices.Sort[[]int,int]", by decide,func98⟩
  f7:=⟨ "slices.pdqsortOrdered[int]", by decide,func149⟩
  f8:=func150
  f10:=⟨ "slices.insertionSortOrdered[int]", by decide,func171⟩
  f11:=⟨ "slices.heapSortOrdered[int]", by decide,func172⟩
  f12:=⟨ "slices.breakPatternsOrdered[int]", by decide,func173⟩
  f13:=⟨ "slices.choosePivotOrdered[int]", by decide,func174⟩
  f14:=⟨ "slices.reverseRangeOrdered[int]", by decide,func175⟩
  f15:=⟨ "slices.partialInsertionSortOrdered[int]", by decide,func176⟩
  f16:=⟨ "cmp.Less[int]", by decide,func177⟩
  f17:=⟨ "slices.partitionEqualOrdered[int]", by decide,func178⟩
  f18:=⟨ "slices.partitionOrdered[int]", by decide,func179⟩
  f19:=func180
  f20:=func181
  f30:=⟨ "slices.siftDownOrdered[int]", by decide,func186⟩
  f31:=func187
  f32:=func188
  f33:=⟨ "slices.medianAdjacentOrdered[int]", by decide,func189⟩
  f34:=⟨ "slices.medianOrdered[int]", by decide,func190⟩
  f35:=⟨ "cmp.isNaN[int]", by decide,func157⟩
  f40:=⟨ "slices.order2Ordered[int]", by decide,func193⟩
  t0:=underlying0
  a0:=isAgg0
  z0:=sizeOf0
  v0:=zeroValue0
  t3:=underlying3
  a3:=isAgg3
  z3:=sizeOf3
  v3:=zeroValue3
  t4:=underlying4
  a4:=isAgg4
  z4:=sizeOf4
  v4:=zeroValue4
  t5:=underlying5
  a5:=isAgg5
  z5:=sizeOf5
  v5:=zeroValue5
  t9:=underlying9
  a9:=isAgg9
  z9:=sizeOf9
  v9:=zeroValue9
  t22:=underlying22
  a22:=isAgg22
  z22:=sizeOf22
  v22:=zeroValue22
  t23:=underlying22
  a23:=isAgg22
  z23:=sizeOf22
  v23:=zeroValue22
  t25:=underlying3
  a25:=isAgg3
  z25:=sizeOf3
  v25:=zeroValue3
  t32:=underlying206
  a32:=isAgg206
  z32:=sizeOf206
  v32:=zeroValue206
  t35:=underlying220
  a35:=isAgg220
  z35:=sizeOf220
  v35:=zeroValue220
  t36:=underlying221
  a36:=isAgg221
  z36:=sizeOf221
  v36:=zeroValue221
  t41:=underlying57
  a41:=isAgg57
  z41:=sizeOf57
  v41:=zeroValue57
  t44:=underlying227
  a44:=isAgg227
  z44:=sizeOf227
  v44:=zeroValue227
  t46:=underlying229
  a46:=isAgg229
  z46:=sizeOf229
  v46:=zeroValue229
  t53:=underlying233
  a53:=isAgg233
  z53:=sizeOf233
  v53:=zeroValue233
  t57:=underlying237
  a57:=isAgg237
  z57:=sizeOf237
  v57:=zeroValue237
  t63:=underlying239
  a63:=isAgg239
  z63:=sizeOf239
  v63:=zeroValue239
  t64:=underlying240
  a64:=isAgg240
  z64:=sizeOf240
  v64:=zeroValue240
end Go.Am.Hi
end
section
namespace Go.Am.Hi
open Go Go.Am Go.Proofs Tryz
@[simp] theorem u3:prog.underlying 3=some (.int .i64):=by rfl
@[simp] theorem ag3:tagg prog 3=some false:=by decide +kernel
@[simp] theorem sz3:tsz prog 3=some 1:=by decide +kernel
@[simp] theorem ze3:zbm prog 3=some [.int .i64 0]:=by rfl
@[simp] theorem za3:(zbu prog 3).bind pvcV=some (.int .i64 0):=by rfl
@[simp] theorem u4:prog.underlying 4=some .bool:=by rfl
@[simp] theorem ag4:tagg prog 4=some false:=by decide +kernel
@[simp] theorem sz4:tsz prog 4=some 1:=by decide +kernel
@[simp] theorem ze4:zbm prog 4=some [.bool false]:=by rfl
@[simp] theorem za4:(zbu prog 4).bind pvcV=some (.bool false):=by rfl
@[simp] theorem u5:prog.underlying 5=some (.int .u8):=by rfl
@[simp] theorem ag5:tagg prog 5=some false:=by decide +kernel
@[simp] theorem sz5:tsz prog 5=some 1:=by decide +kernel
@[simp] theorem ze5:zbm prog 5=some [.int .u8 0]:=by rfl
@[simp] theorem za5:(zbu prog 5).bind pvcV=some (.int .u8 0):=by rfl
@[simp] theorem u9:prog.underlying 9=some .string:=by rfl
@[simp] theorem ag9:tagg prog 9=some false:=by decide +kernel
@[simp] theorem sz9:tsz prog 9=some 1:=by decide +kernel
@[simp] theorem ze9:zbm prog 9=some [.str ByteArray.empty]:=by rfl
@[simp] theorem za9:(zbu prog 9).bind pvcV=some (.str ByteArray.empty):=by rfl
@[simp] theorem ag20:tagg prog 20=some false:=by decide +kernel
@[simp] theorem sz20:tsz prog 20=some 1:=by decide +kernel
@[simp] theorem ze20:zbm prog 20=some [.nilIface]:=by rfl
@[simp] theorem za20:(zbu prog 20).bind pvcV=some (.nilIface):=by rfl
@[simp] theorem u22:prog.underlying 22=some (.slice 3):=by rfl
@[simp] theorem ag22:tagg prog 22=some false:=by decide +kernel
@[simp] theorem sz22:tsz prog 22=some 1:=by decide +kernel
@[simp] theorem el22:zct prog 22=some (3,1):=by decide +kernel
@[simp] theorem by22:(prog.info? 3).map (·.bytes)=some 8:=by decide +kernel
@[simp] theorem ze22:zbm prog 22=some [.sl0]:=by rfl
@[simp] theorem za22:(zbu prog 22).bind pvcV=some (.sl0):=by rfl
@[simp] theorem u23:prog.underlying 23=some (.slice 137):=by rfl
@[simp] theorem ag23:tagg prog 23=some false:=by decide +kernel
@[simp] theorem sz23:tsz prog 23=some 1:=by decide +kernel
@[simp] theorem el23:zct prog 23=some (137,6):=by decide +kernel
@[simp] theorem by23:(prog.info? 137).map (·.bytes)=some 48:=by decide +kernel
@[simp] theorem ze23:zbm prog 23=some [.sl0]:=by rfl
@[simp] theorem za23:(zbu prog 23).bind pvcV=some (.sl0):=by rfl
@[simp] theorem ag25:tagg prog 25=some true:=by decide +kernel
@[simp] theorem sz25:tsz prog 25=some 3:=by decide +kernel
@[simp] theorem fd25_0:za6 prog 25 0=some (22,0,1):=by decide +kernel
@[simp] theorem fd25_1:za6 prog 25 1=some (3,1,1):=by decide +kernel
@[simp] theorem fd25_2:za6 prog 25 2=some (23,2,1):=by decide +kernel
@[simp] theorem ze25:zbm prog 25=some [.sl0,.int .i64 0,.sl0]:=by rfl
@[simp] theorem bu25 (l:List (Nat×PV)):zdu prog 25 l=(zc4 (([(0,1),(1,1),(2,1)]:List (Nat×Nat))[·]?) [.sl0,.int .i64 0,.sl0] l).map .agg:=by rfl
@[simp] theorem za25:(zbu prog 25).bind pvcV=some (.agg [.sl0,.int .i64 0,.sl0]):=by rfl
@[simp] theorem u28:prog.underlying 28=some (.int .i64):=by rfl
@[simp] theorem ag28:tagg prog 28=some false:=by decide +kernel
@[simp] theorem sz28:tsz prog 28=some 1:=by decide +kernel
@[simp] theorem ze28:zbm prog 28=some [.int .i64 0]:=by rfl
@[simp] theorem za28:(zbu prog 28).bind pvcV=some (.int .i64 0):=by rfl
@[simp] theorem ag32:tagg prog 32=some true:=by decide +kernel
@[simp] theorem sz32:tsz prog 32=some 2:=by decide +kernel
@[simp] theorem fd32_0:za6 prog 32 0=some (28,0,1):=by decide +kernel
@[simp] theorem fd32_1:za6 prog 32 1=some (3,1,1):=by decide +kernel
@[simp] theorem ze32:zbm prog 32=some [.int .i64 0,.int .i64 0]:=by rfl
@[simp] theorem bu32 (l:List (Nat×PV)):zdu prog 32 l=(zc4 (([(0,1),(1,1)]:List (Nat×Nat))[·]?) [.int .i64 0,.int .i64 0] l).map .agg:=by rfl
@[simp] theorem za32:(zbu prog 32).bind pvcV=some (.agg [.int .i64 0,.int .i64 0]):=by rfl
@[simp] theorem u34:prog.underlying 34=some (.slice 56):=by rfl
@[simp] theorem ag34:tagg prog 34=some false:=by decide +kernel
@[simp] theorem sz34:tsz prog 34=some 1:=by decide +kernel
@[simp] theorem el34:zct prog 34=some (56,4):=by decide +kernel
@[simp] theorem by34:(prog.info? 56).map (·.bytes)=some 32:=by decide +kernel
@[simp] theorem ze34:zbm prog 34=some [.sl0]:=by rfl
@[simp] theorem za34:(zbu prog 34).bind pvcV=some (.sl0):=by rfl
@[simp] theorem ag38:tagg prog 38=some true:=by decide +kernel
@[simp] theorem sz38:tsz prog 38=some 2:=by decide +kernel
@[simp] theorem fd38_0:za6 prog 38 0=some (34,0,1):=by decide +kernel
@[simp] theorem fd38_1:za6 prog 38 1=some (28,1,1):=by decide +kernel
@[simp] theorem ze38:zbm prog 38=some [.sl0,.int .i64 0]:=by rfl
@[simp] theorem bu38 (l:List (Nat×PV)):zdu prog 38 l=(zc4 (([(0,1),(1,1)]:List (Nat×Nat))[·]?) [.sl0,.int .i64 0] l).map .agg:=by rfl
@[simp] theorem za38:(zbu prog 38).bind pvcV=some (.agg [.sl0,.int .i64 0]):=by rfl
@[simp] theorem ag45:tagg prog 45=some true:=by decide +kernel
@[simp] theorem sz45:tsz prog 45=some 2:=by decide +kernel
@[simp] theorem fd45_0:za6 prog 45 0=some (22,0,1):=by decide +kernel
@[simp] theorem fd45_1:za6 prog 45 1=some (28,1,1):=by decide +kernel
@[simp] theorem ze45:zbm prog 45=some [.sl0,.int .i64 0]:=by rfl
@[simp] theorem bu45 (l:List (Nat×PV)):zdu prog 45 l=(zc4 (([(0,1),(1,1)]:List (Nat×Nat))[·]?) [.sl0,.int .i64 0] l).map .agg:=by rfl
@[simp] theorem za45:(zbu prog 45).bind pvcV=some (.agg [.sl0,.int .i64 0]):=by rfl
@[simp] theorem u52:prog.underlying 52=some (.int .u16):=by rfl
@[simp] theorem ag52:tagg prog 52=some false:=by decide +kernel
@[simp] theorem sz52:tsz prog 52=some 1:=by decide +kernel
@[simp] theorem ze52:zbm prog 52=some [.int .u16 0]:=by rfl
@[simp] theorem za52:(zbu prog 52).bind pvcV=some (.int .u16 0):=by rfl
@[simp] theorem u53:prog.underlying 53=some (.map 3 3):=by rfl
@[simp] theorem ag53:tagg prog 53=some false:=by decide +kernel
@[simp] theorem sz53:tsz prog 53=some 1:=by decide +kernel
@[simp] theorem ky53:tkey prog 53=some (3,3):=by decide +kernel
@[simp] theorem ze53:zbm prog 53=some [.map0]:=by rfl
@[simp] theorem za53:(zbu prog 53).bind pvcV=some (.map0):=by rfl
@[simp] theorem u54:prog.underlying 54=some (.map 3 4):=by rfl
@[simp] theorem ag54:tagg prog 54=some false:=by decide +kernel
@[simp] theorem sz54:tsz prog 54=some 1:=by decide +kernel
@[simp] theorem ky54:tkey prog 54=some (3,4):=by decide +kernel
@[simp] theorem ze54:zbm prog 54=some [.map0]:=by rfl
@[simp] theorem za54:(zbu prog 54).bind pvcV=some (.map0):=by rfl
@[simp] theorem ag56:tagg prog 56=some true:=by decide +kernel
@[simp] theorem sz56:tsz prog 56=some 4:=by decide +kernel
@[simp] theorem fd56_0:za6 prog 56 0=some (3,0,1):=by decide +kernel
@[simp] theorem fd56_1:za6 prog 56 1=some (3,1,1):=by decide +kernel
@[simp] theorem fd56_2:za6 prog 56 2=some (3,2,1):=by decide +kernel
@[simp] theorem fd56_3:za6 prog 56 3=some (3,3,1):=by decide +kernel
@[simp] theorem ze56:zbm prog 56=some [.int .i64 0,.int .i64 0,.int .i64 0,.int .i64 0]:=by rfl
@[simp] theorem bu56 (l:List (Nat×PV)):zdu prog 56 l=(zc4 (([(0,1),(1,1),(2,1),(3,1)]:List (Nat×Nat))[·]?) [.int .i64 0,.int .i64 0,.int .i64 0,.int .i64 0] l).map .agg:=by rfl
@[simp] theorem za56:(zbu prog 56).bind pvcV=some (.agg [.int .i64 0,.int .i64 0,.int .i64 0,.int .i64 0]):=by rfl
@[simp] theorem u60:prog.underlying 60=some (.slice 22):=by rfl
@[simp] theorem ag60:tagg prog 60=some false:=by decide +kernel
@[simp] theorem sz60:tsz prog 60=some 1:=by decide +kernel
@[simp] theorem el60:zct prog 60=some (22,1):=by decide +kernel
@[simp] theorem by60:(prog.info? 22).map (·.bytes)=some 24:=by decide +kernel
@[simp] theorem ze60:zbm prog 60=some [.sl0]:=by rfl
@[simp] theorem za60:(zbu prog 60).bind pvcV=some (.sl0):=by rfl
@[simp] theorem ag62:tagg prog 62=some true:=by decide +kernel
@[simp] theorem sz62:tsz prog 62=some 1:=by decide +kernel
@[simp] theorem fd62_0:za6 prog 62 0=some (60,0,1):=by decide +kernel
@[simp] theorem ze62:zbm prog 62=some [.sl0]:=by rfl
@[simp] theorem bu62 (l:List (Nat×PV)):zdu prog 62 l=(zc4 (([(0,1)]:List (Nat×Nat))[·]?) [.sl0] l).map .agg:=by rfl
@[simp] theorem za62:(zbu prog 62).bind pvcV=some (.agg [.sl0]):=by rfl
@[simp] theorem ag67:tagg prog 67=some true:=by decide +kernel
@[simp] theorem sz67:tsz prog 67=some 2:=by decide +kernel
@[simp] theorem fd67_0:za6 prog 67 0=some (22,0,1):=by decide +kernel
@[simp] theorem fd67_1:za6 prog 67 1=some (22,1,1):=by decide +kernel
@[simp] theorem ze67:zbm prog 67=some [.sl0,.sl0]:=by rfl
@[simp] theorem bu67 (l:List (Nat×PV)):zdu prog 67 l=(zc4 (([(0,1),(1,1)]:List (Nat×Nat))[·]?) [.sl0,.sl0] l).map .agg:=by rfl
@[simp] theorem za67:(zbu prog 67).bind pvcV=some (.agg [.sl0,.sl0]):=by rfl
@[simp] theorem u79:prog.underlying 79=some (.slice 178):=by rfl
@[simp] theorem ag79:tagg prog 79=some false:=by decide +kernel
@[simp] theorem sz79:tsz prog 79=some 1:=by decide +kernel
@[simp] theorem el79:zct prog 79=some (178,2):=by decide +kernel
@[simp] theorem by79:(prog.info? 178).map (·.bytes)=some 16:=by decide +kernel
@[simp] theorem ze79:zbm prog 79=some [.sl0]:=by rfl
@[simp] theorem za79:(zbu prog 79).bind pvcV=some (.sl0):=by rfl
@[simp] theorem u80:prog.underlying 80=some (.slice 99):=by rfl
@[simp] theorem ag80:tagg prog 80=some false:=by decide +kernel
@[simp] theorem sz80:tsz prog 80=some 1:=by decide +kernel
@[simp] theorem el80:zct prog 80=some (99,2):=by decide +kernel
@[simp] theorem by80:(prog.info? 99).map (·.bytes)=some 16:=by decide +kernel
@[simp] theorem ze80:zbm prog 80=some [.sl0]:=by rfl
@[simp] theorem za80:(zbu prog 80).bind pvcV=some (.sl0):=by rfl
@[simp] theorem ag84:tagg prog 84=some true:=by decide +kernel
@[simp] theorem sz84:tsz prog 84=some 2:=by decide +kernel
@[simp] theorem fd84_0:za6 prog 84 0=some (60,0,1):=by decide +kernel
@[simp] theorem fd84_1:za6 prog 84 1=some (28,1,1):=by decide +kernel
@[simp] theorem ze84:zbm prog 84=some [.sl0,.int .i64 0]:=by rfl
@[simp] theorem bu84 (l:List (Nat×PV)):zdu prog 84 l=(zc4 (([(0,1),(1,1)]:List (Nat×Nat))[·]?) [.sl0,.int .i64 0] l).map .agg:=by rfl
@[simp] theorem za84:(zbu prog 84).bind pvcV=some (.agg [.sl0,.int .i64 0]):=by rfl
@[simp] theorem ag91:tagg prog 91=some true:=by decide +kernel
@[simp] theorem sz91:tsz prog 91=some 3:=by decide +kernel
@[simp] theorem fd91_0:za6 prog 91 0=some (22,0,1):=by decide +kernel
@[simp] theorem fd91_1:za6 prog 91 1=some (3,1,1):=by decide +kernel
@[simp] theorem fd91_2:za6 prog 91 2=some (28,2,1):=by decide +kernel
@[simp] theorem ze91:zbm prog 91=some [.sl0,.int .i64 0,.int .i64 0]:=by rfl
@[simp] theorem bu91 (l:List (Nat×PV)):zdu prog 91 l=(zc4 (([(0,1),(1,1),(2,1)]:List (Nat×Nat))[·]?) [.sl0,.int .i64 0,.int .i64 0] l).map .agg:=by rfl
@[simp] theorem za91:(zbu prog 91).bind pvcV=some (.agg [.sl0,.int .i64 0,.int .i64 0]):=by rfl
@[simp] theorem ag99:tagg prog 99=some true:=by decide +kernel
@[simp] theorem sz99:tsz prog 99=some 2:=by decide +kernel
@[simp] theorem fd99_0:za6 prog 99 0=some (3,0,1):=by decide +kernel
@[simp] theorem fd99_1:za6 prog 99 1=some (3,1,1):=by decide +kernel
@[simp] theorem ze99:zbm prog 99=some [.int .i64 0,.int .i64 0]:=by rfl
@[simp] theorem bu99 (l:List (Nat×PV)):zdu prog 99 l=(zc4 (([(0,1),(1,1)]:List (Nat×Nat))[·]?) [.int .i64 0,.int .i64 0] l).map .agg:=by rfl
@[simp] theorem za99:(zbu prog 99).bind pvcV=some (.agg [.int .i64 0,.int .i64 0]):=by rfl
@[simp] theorem u101:prog.underlying 101=some (.slice 121):=by rfl
@[simp] theorem ag101:tagg prog 101=some false:=by decide +kernel
@[simp] theorem sz101:tsz prog 101=some 1:=by decide +kernel
@[simp] theorem el101:zct prog 101=some (121,2):=by decide +kernel
@[simp] theorem by101:(prog.info? 121).map (·.bytes)=some 16:=by decide +kernel
@[simp] theorem ze101:zbm prog 101=some [.sl0]:=by rfl
@[simp] theorem za101:(zbu prog 101).bind pvcV=some (.sl0):=by rfl
@[simp] theorem ag105:tagg prog 105=some true:=by decide +kernel
@[simp] theorem sz105:tsz prog 105=some 2:=by decide +kernel
@[simp] theorem xdv:za6 prog 105 0=some (101,0,1):=by decide +kernel
@[simp] theorem xev:za6 prog 105 1=some (28,1,1):=by decide +kernel
@[simp] theorem ze105:zbm prog 105=some [.sl0,.int .i64 0]:=by rfl
@[simp] theorem bu105 (l:List (Nat×PV)):zdu prog 105 l=(zc4 (([(0,1),(1,1)]:List (Nat×Nat))[·]?) [.sl0,.int .i64 0] l).map .agg:=by rfl
@[simp] theorem za105:(zbu prog 105).bind pvcV=some (.agg [.sl0,.int .i64 0]):=by rfl
@[simp] theorem ag113:tagg prog 113=some true:=by decide +kernel
@[simp] theorem sz113:tsz prog 113=some 2:=by decide +kernel
@[simp] theorem xe9:za6 prog 113 0=some (4,0,1):=by decide +kernel
@[simp] theorem xb3:za6 prog 113 1=some (28,1,1):=by decide +kernel
@[simp] theorem ze113:zbm prog 113=some [.bool false,.int .i64 0]:=by rfl
@[simp] theorem bu113 (l:List (Nat×PV)):zdu prog 113 l=(zc4 (([(0,1),(1,1)]:List (Nat×Nat))[·]?) [.bool false,.int .i64 0] l).map .agg:=by rfl
@[simp] theorem za113:(zbu prog 113).bind pvcV=some (.agg [.bool false,.int .i64 0]):=by rfl
@[simp] theorem ag116:tagg prog 116=some true:=by decide +kernel
@[simp] theorem sz116:tsz prog 116=some 2:=by decide +kernel
@[simp] theorem xem:za6 prog 116 0=some (62,0,1):=by decide +kernel
@[simp] theorem xe4:za6 prog 116 1=some (28,1,1):=by decide +kernel
@[simp] theorem ze116:zbm prog 116=some [.sl0,.int .i64 0]:=by rfl
@[simp] theorem bu116 (l:List (Nat×PV)):zdu prog 116 l=(zc4 (([(0,1),(1,1)]:List (Nat×Nat))[·]?) [.sl0,.int .i64 0] l).map .agg:=by rfl
@[simp] theorem za116:(zbu prog 116).bind pvcV=some (.agg [.sl0,.int .i64 0]):=by rfl
@[simp] theorem ag121:tagg prog 121=some true:=by decide +kernel
@[simp] theorem sz121:tsz prog 121=some 2:=by decide +kernel
@[simp] theorem xez:za6 prog 121 0=some (3,0,1):=by decide +kernel
@[simp] theorem xfo:za6 prog 121 1=some (3,1,1):=by decide +kernel
@[simp] theorem ze121:zbm prog 121=some [.int .i64 0,.int .i64 0]:=by rfl
@[simp] theorem bu121 (l:List (Nat×PV)):zdu prog 121 l=(zc4 (([(0,1),(1,1)]:List (Nat×Nat))[·]?) [.int .i64 0,.int .i64 0] l).map .agg:=by rfl
@[simp] theorem za121:(zbu prog 121).bind pvcV=some (.agg [.int .i64 0,.int .i64 0]):=by rfl
@[simp] theorem ag128:tagg prog 128=some false:=by decide +kernel
@[simp] theorem sz128:tsz prog 128=some 1:=by decide +kernel
@[simp] theorem ze128:zbm prog 128=some [.nilFunc]:=by rfl
@[simp] theorem za128:(zbu prog 128).bind pvcV=some (.nilFunc):=by rfl
@[simp] theorem ag133:tagg prog 133=some false:=by decide +kernel
@[simp] theorem sz133:tsz prog 133=some 1:=by decide +kernel
@[simp] theorem ze133:zbm prog 133=some [.nilFunc]:=by rfl
@[simp] theorem za133:(zbu prog 133).bind pvcV=some (.nilFunc):=by rfl
@[simp] theorem ag137:tagg prog 137=some true:=by decide +kernel
@[simp] theorem sz137:tsz prog 137=some 6:=by decide +kernel
@[simp] theorem xfx:za6 prog 137 0=some (3,0,1):=by decide +kernel
@[simp] theorem xdg:za6 prog 137 1=some (3,1,1):=by decide +kernel
@[simp] theorem xec:za6 prog 137 2=some (3,2,1):=by decide +kernel
@[simp] theorem xde:za6 prog 137 3=some (3,3,1):=by decide +kernel
@[simp] theorem xch:za6 prog 137 4=some (3,4,1):=by decide +kernel
@[simp] theorem xd1:za6 prog 137 5=some (3,5,1):=by decide +kernel
@[simp] theorem ze137:zbm prog 137=some [.int .i64 0,.int .i64 0,.int .i64 0,.int .i64 0,.int .i64 0,.int .i64 0]:=by rfl
@[simp] theorem bu137 (l:List (Nat×PV)):zdu prog 137 l=(zc4 (([(0,1),(1,1),(2,1),(3,1),(4,1),(5,1)]:List (Nat×Nat))[·]?) [.int .i64 0,.int .i64 0,.int .i64 0,.int .i64 0,.int .i64 0,.int .i64 0] l).map .agg:=by rfl
@[simp] theorem za137:(zbu prog 137).bind pvcV=some (.agg [.int .i64 0,.int .i64 0,.int .i64 0,.int .i64 0,.int .i64 0,.int .i64 0]):=by rfl
@[simp] theorem ag139:tagg prog 139=some false:=by decide +kernel
@[simp] theorem sz139:tsz prog 139=some 1:=by decide +kernel
@[simp] theorem ze139:zbm prog 139=some [.nilFunc]:=by rfl
@[simp] theorem za139:(zbu prog 139).bind pvcV=some (.nilFunc):=by rfl
@[simp] theorem u140:prog.underlying 140=some (.pointer 161):=by rfl
@[simp] theorem ag140:tagg prog 140=some false:=by decide +kernel
@[simp] theorem sz140:tsz prog 140=some 1:=by decide +kernel
@[simp] theorem ze140:zbm prog 140=some [.ptr0]:=by rfl
@[simp] theorem za140:(zbu prog 140).bind pvcV=some (.ptr0):=by rfl
@[simp] theorem ag145:tagg prog 145=some true:=by decide +kernel
@[simp] theorem sz145:tsz prog 145=some 3:=by decide +kernel
@[simp] theorem xbq:za6 prog 145 0=some (34,0,1):=by decide +kernel
@[simp] theorem xbw:za6 prog 145 1=some (60,1,1):=by decide +kernel
@[simp] theorem xff:za6 prog 145 2=some (3,2,1):=by decide +kernel
@[simp] theorem ze145:zbm prog 145=some [.sl0,.sl0,.int .i64 0]:=by rfl
@[simp] theorem bu145 (l:List (Nat×PV)):zdu prog 145 l=(zc4 (([(0,1),(1,1),(2,1)]:List (Nat×Nat))[·]?) [.sl0,.sl0,.int .i64 0] l).map .agg:=by rfl
@[simp] theorem za145:(zbu prog 145).bind pvcV=some (.agg [.sl0,.sl0,.int .i64 0]):=by rfl
@[simp] theorem ag153:tagg prog 153=some false:=by decide +kernel
@[simp] theorem sz153:tsz prog 153=some 1:=by decide +kernel
@[simp] theorem ze153:zbm prog 153=some [.nilFunc]:=by rfl
@[simp] theorem za153:(zbu prog 153).bind pvcV=some (.nilFunc):=by rfl
@[simp] theorem u158:prog.underlying 158=some (.map 3 56):=by rfl
@[simp] theorem ag158:tagg prog 158=some false:=by decide +kernel
@[simp] theorem sz158:tsz prog 158=some 1:=by decide +kernel
@[simp] theorem ky158:tkey prog 158=some (3,56):=by decide +kernel
@[simp] theorem ze158:zbm prog 158=some [.map0]:=by rfl
@[simp] theorem za158:(zbu prog 158).bind pvcV=some (.map0):=by rfl
@[simp] theorem u159:prog.underlying 159=some (.map 3 22):=by rfl
@[simp] theorem ag159:tagg prog 159=some false:=by decide +kernel
@[simp] theorem sz159:tsz prog 159=some 1:=by decide +kernel
@[simp] theorem ky159:tkey prog 159=some (3,22):=by decide +kernel
@[simp] theorem ze159:zbm prog 159=some [.map0]:=by rfl
@[simp] theorem za159:(zbu prog 159).bind pvcV=some (.map0):=by rfl
@[simp] theorem ag161:tagg prog 161=some true:=by decide +kernel
@[simp] theorem sz161:tsz prog 161=some 4:=by decide +kernel
@[simp] theorem xfp:za6 prog 161 0=some (3,0,1):=by decide +kernel
@[simp] theorem xbg:za6 prog 161 1=some (158,1,1):=by decide +kernel
@[simp] theorem xfb:za6 prog 161 2=some (53,2,1):=by decide +kernel
@[simp] theorem xc9:za6 prog 161 3=some (159,3,1):=by decide +kernel
@[simp] theorem ze161:zbm prog 161=some [.int .i64 0,.map0,.map0,.map0]:=by rfl
@[simp] theorem bu161 (l:List (Nat×PV)):zdu prog 161 l=(zc4 (([(0,1),(1,1),(2,1),(3,1)]:List (Nat×Nat))[·]?) [.int .i64 0,.map0,.map0,.map0] l).map .agg:=by rfl
@[simp] theorem za161:(zbu prog 161).bind pvcV=some (.agg [.int .i64 0,.map0,.map0,.map0]):=by rfl
@[simp] theorem ag175:tagg prog 175=some false:=by decide +kernel
@[simp] theorem sz175:tsz prog 175=some 1:=by decide +kernel
@[simp] theorem ze175:zbm prog 175=some [.nilFunc]:=by rfl
@[simp] theorem za175:(zbu prog 175).bind pvcV=some (.nilFunc):=by rfl
@[simp] theorem ag178:tagg prog 178=some true:=by decide +kernel
@[simp] theorem sz178:tsz prog 178=some 2:=by decide +kernel
@[simp] theorem xbp:za6 prog 178 0=some (3,0,1):=by decide +kernel
@[simp] theorem xbl:za6 prog 178 1=some (3,1,1):=by decide +kernel
@[simp] theorem ze178:zbm prog 178=some [.int .i64 0,.int .i64 0]:=by rfl
@[simp] theorem bu178 (l:List (Nat×PV)):zdu prog 178 l=(zc4 (([(0,1),(1,1)]:List (Nat×Nat))[·]?) [.int .i64 0,.int .i64 0] l).map .agg:=by rfl
@[simp] theorem za178:(zbu prog 178).bind pvcV=some (.agg [.int .i64 0,.int .i64 0]):=by rfl
@[simp] theorem ag180:tagg prog 180=some false:=by decide +kernel
@[simp] theorem sz180:tsz prog 180=some 1:=by decide +kernel
@[simp] theorem ze180:zbm prog 180=some [.nilFunc]:=by rfl
@[simp] theorem za180:(zbu prog 180).bind pvcV=some (.nilFunc):=by rfl
@[simp] theorem ag182:tagg prog 182=some false:=by decide +kernel
@[simp] theorem sz182:tsz prog 182=some 1:=by decide +kernel
@[simp] theorem ze182:zbm prog 182=some [.nilFunc]:=by rfl
@[simp] theorem za182:(zbu prog 182).bind pvcV=some (.nilFunc):=by rfl
@[simp] theorem ag185:tagg prog 185=some false:=by decide +kernel
@[simp] theorem sz185:tsz prog 185=some 1:=by decide +kernel
@[simp] theorem ze185:zbm prog 185=some [.nilFunc]:=by rfl
@[simp] theorem za185:(zbu prog 185).bind pvcV=some (.nilFunc):=by rfl
@[simp] theorem ag193:tagg prog 193=some true:=by decide +kernel
@[simp] theorem sz193:tsz prog 193=some 0:=by decide +kernel
@[simp] theorem ze193:zbm prog 193=some []:=by rfl
@[simp] theorem bu193 (l:List (Nat×PV)):zdu prog 193 l=(zc4 (([]:List (Nat×Nat))[·]?) [] l).map .agg:=by rfl
@[simp] theorem za193:(zbu prog 193).bind pvcV=some (.agg []):=by rfl
@[simp] theorem ag195:tagg prog 195=some false:=by decide +kernel
@[simp] theorem sz195:tsz prog 195=some 1:=by decide +kernel
@[simp] theorem ze195:zbm prog 195=some [.nilFunc]:=by rfl
@[simp] theorem za195:(zbu prog 195).bind pvcV=some (.nilFunc):=by rfl
@[simp] theorem u206:prog.underlying 206=some (.int .u64):=by rfl
@[simp] theorem ag206:tagg prog 206=some false:=by decide +kernel
@[simp] theorem sz206:tsz prog 206=some 1:=by decide +kernel
@[simp] theorem ze206:zbm prog 206=some [.int .u64 0]:=by rfl
@[simp] theorem za206:(zbu prog 206).bind pvcV=some (.int .u64 0):=by rfl
@[simp] theorem u210:prog.underlying 210=some (.slice 4):=by rfl
@[simp] theorem ag210:tagg prog 210=some false:=by decide +kernel
@[simp] theorem sz210:tsz prog 210=some 1:=by decide +kernel
@[simp] theorem el210:zct prog 210=some (4,1):=by decide +kernel
@[simp] theorem by210:(prog.info? 4).map (·.bytes)=some 1:=by decide +kernel
@[simp] theorem ze210:zbm prog 210=some [.sl0]:=by rfl
@[simp] theorem za210:(zbu prog 210).bind pvcV=some (.sl0):=by rfl
@[simp] theorem u216:prog.underlying 216=some (.map 3 195):=by rfl
@[simp] theorem ag216:tagg prog 216=some false:=by decide +kernel
@[simp] theorem sz216:tsz prog 216=some 1:=by decide +kernel
@[simp] theorem ky216:tkey prog 216=some (3,195):=by decide +kernel
@[simp] theorem ze216:zbm prog 216=some [.map0]:=by rfl
@[simp] theorem za216:(zbu prog 216).bind pvcV=some (.map0):=by rfl
@[simp] theorem u220:prog.underlying 220=some (.int .i64):=by rfl
@[simp] theorem ag220:tagg prog 220=some false:=by decide +kernel
@[simp] theorem sz220:tsz prog 220=some 1:=by decide +kernel
@[simp] theorem ze220:zbm prog 220=some [.int .i64 0]:=by rfl
@[simp] theorem za220:(zbu prog 220).bind pvcV=some (.int .i64 0):=by rfl
@[simp] theorem u227:prog.underlying 227=some (.int .u32):=by rfl
@[simp] theorem ag227:tagg prog 227=some false:=by decide +kernel
@[simp] theorem sz227:tsz prog 227=some 1:=by decide +kernel
@[simp] theorem ze227:zbm prog 227=some [.int .u32 0]:=by rfl
@[simp] theorem za227:(zbu prog 227).bind pvcV=some (.int .u32 0):=by rfl
@[simp] theorem u229:prog.underlying 229=some (.int .u64):=by rfl
@[simp] theorem ag229:tagg prog 229=some false:=by decide +kernel
@[simp] theorem sz229:tsz prog 229=some 1:=by decide +kernel
@[simp] theorem ze229:zbm prog 229=some [.int .u64 0]:=by rfl
@[simp] theorem za229:(zbu prog 229).bind pvcV=some (.int .u64 0):=by rfl
@[simp] theorem u233:prog.underlying 233=some (.int .u64):=by rfl
@[simp] theorem ag233:tagg prog 233=some false:=by decide +kernel
@[simp] theorem sz233:tsz prog 233=some 1:=by decide +kernel
@[simp] theorem ze233:zbm prog 233=some [.int .u64 0]:=by rfl
@[simp] theorem za233:(zbu prog 233).bind pvcV=some (.int .u64 0):=by rfl
@[simp] theorem u237:prog.underlying 237=some (.pointer 3):=by rfl
@[simp] theorem ag237:tagg prog 237=some false:=by decide +kernel
@[simp] theorem sz237:tsz prog 237=some 1:=by decide +kernel
@[simp] theorem ze237:zbm prog 237=some [.ptr0]:=by rfl
@[simp] theorem za237:(zbu prog 237).bind pvcV=some (.ptr0):=by rfl
end Go.Am.Hi
end
section
namespace Go.Am.Hi
open Go Go.Am Go.Proofs Tryz
theorem zt1:zsg prog 136 2:=by
 refine⟨call136,fun F hF hro n cargs w hsz=>?_⟩
 obtain⟨a0,a1,rfl⟩:∃a0 a1,cargs=#[a0,a1]:=by
  obtain⟨l⟩:=cargs
  match l,hsz with
  |[a,b],_=>exact⟨a,b,rfl⟩
 have hall:∀f,F.fn f:=hF.fn
 refine callsDIn_of_wpSIn func136 rfl (hF.fn 136) fun c₀ cs hu=>?_
 apply wpSIn_seq
 apply wpSIn_region
 simp[wpOpsSIn,go_sem,recoverD,hu,ntmps136,Exit.thenS,hall]
 apply wpSIn_seq
 apply wpSIn_region
 simp[wpOpsSIn,go_sem,recoverD,hu,ntmps136,Exit.thenS,hall]
 refine wpSIn_cond (t:=false) (by simp[Act.eval,Array.replicate]) ?_
 simp only[Bool.false_eq_true,if_false]
 refine wpSIn_of_wpIn hro (wpIn_skip ?_)
 cases c₀
 simp_all[bodyPostS,results,results136]
end Go.Am.Hi
end
