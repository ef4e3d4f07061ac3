/-
 What is used in the proof of a statement (part DsT); no condition.
-/
import Derived.Test.YtnablaecbohhmaaGreatProg
import Derived.Test.YtnablaecbohhmaaGreatAm2
import Derived.Test.YtnablaecbohhmaaGreatAm3
import Derived.Test.YtnablaecbohhmaaGreatVm1
set_option linter.all false
set_option maxHeartbeats 40000000
set_option maxRecDepth 100000
section
namespace Go.Am.Ds
open Go Go.Am Go.Proofs Tryz
def so (a n:Nat):List zfl:=(List.range' a n).map .op
def dd22:List (Nat×DD):=[]
theorem ok22:FEOK prog (22,feOf f22 dd22):=⟨func22,rfl,by decide +kernel,call22⟩
def dd23:List (Nat×DD):=[]
theorem ok23:FEOK prog (23,feOf f23 dd23):=⟨func23,rfl,by decide +kernel,call23⟩
def dd24:List (Nat×DD):=[(10,⟨[0,0,0,0,8,28,0,0,128,508,0,0,2048,8188,16383,32767,65535,131071],[5,9,13,15],[],(so 0 5++[.op 6,.op 7,.op 8,.op 10,.op 11,.op 12,.op 5,.ck 12,.ck 8,.op 9,.ck 12]++so 13 5)⟩)]
theorem ok24:FEOK prog (24,feOf f24 dd24):=⟨func24,rfl,by decide +kernel,call24⟩
def dd28:List (Nat×DD):=[]
theorem ok28:FEOK prog (28,feOf f28 dd28):=⟨func28,rfl,by decide +kernel,call28⟩
def dd30:List (Nat×DD):=[(8,⟨[0,0,2,0,14,30,63],[6],[],so 0 7⟩)]
theorem ok30:FEOK prog (30,feOf f30 dd30):=⟨func30,rfl,by decide +kernel,call30⟩
def dd32:List (Nat×DD):=[(10,⟨[0,0,3,7,0,0,0,64,231,503,1015,2039,4095,8191,16383],[2,8],[],([.op 0,.op 1]++so 4 4++[.op 2,.ck 7,.ck 5,.op 3,.op 8,.ck 3]++so 9 6)⟩)]
theorem ok32:FEOK prog (32,feOf f32 dd32):=⟨func32,rfl,by decide +kernel,call32⟩
def dd34:List (Nat×DD):=[(6,⟨[0,0,3,7,0,0,48,112,255],[],[],so 0 9⟩)]
theorem ok34:FEOK prog (34,feOf f34 dd34):=⟨func34,rfl,by decide +kernel,call34⟩
def dd35:List (Nat×DD):=[]
theorem ok35:FEOK prog (35,feOf f35 dd35):=⟨func35,rfl,by decide +kernel,call35⟩
def dd36:List (Nat×DD):=[]
theorem ok36:FEOK prog (36,feOf f36 dd36):=⟨func36,rfl,by decide +kernel,call36⟩
def dd42:List (Nat×DD):=[]
theorem ok42:FEOK prog (42,feOf f42 dd42):=⟨func42,rfl,by decide +kernel,call42⟩
def dd44:List (Nat×DD):=[]
theorem ok44:FEOK prog (44,feOf f44 dd44):=⟨func44,rfl,by decide +kernel,call44⟩
def dd52:List (Nat×DD):=[(12,⟨[0,1,0,7,15,31,0,64,0,448,960,1984,4095],[],[],so 0 13⟩)]
theorem ok52:FEOK prog (52,feOf f52 dd52):=⟨func52,rfl,by decide +kernel,call52⟩
def dd55:List (Nat×DD):=[]
theorem ok55:FEOK prog (55,feOf f55 dd55):=⟨func55,rfl,by decide +kernel,call55⟩
def dd63:List (Nat×DD):=[(8,⟨[0,1,0,4,12,28,60,127,255,511],[6,7,9],[],(so 0 7++[.ck 1,.op 7,.op 8,.op 9])⟩)]
theorem ok63:FEOK prog (63,feOf f63 dd63):=⟨func63,rfl,by decide +kernel,call63⟩
def dd65:List (Nat×DD):=[(6,⟨[0,0,3,7,0,0,48,112,255],[],[],so 0 9⟩)]
theorem ok65:FEOK prog (65,feOf f65 dd65):=⟨func65,rfl,by decide +kernel,call65⟩
def dd66:List (Nat×DD):=[]
theorem ok66:FEOK prog (66,feOf f66 dd66):=⟨func66,rfl,by decide +kernel,call66⟩
def dd67:List (Nat×DD):=[]
theorem ok67:FEOK prog (67,feOf f67 dd67):=⟨func67,rfl,by decide +kernel,call67⟩
def dd81:List (Nat×DD):=[]
theorem ok81:FEOK prog (81,feOf f81 dd81):=⟨func81,rfl,by decide +kernel,call81⟩
def dd82:List (Nat×DD):=[]
theorem ok82:FEOK prog (82,feOf f82 dd82):=⟨func82,rfl,by decide +kernel,call82⟩
def dd85:List (Nat×DD):=[]
theorem ok85:FEOK prog (85,feOf f85 dd85):=⟨func85,rfl,by decide +kernel,call85⟩
def dd92:List (Nat×DD):=[]
theorem ok92:FEOK prog (92,feOf f92 dd92):=⟨func92,rfl,by decide +kernel,call92⟩
def dd93:List (Nat×DD):=[]
theorem ok93:FEOK prog (93,feOf f93 dd93):=⟨func93,rfl,by decide +kernel,call93⟩
def dd94:List (Nat×DD):=[(9,⟨[0,0,3,0,8,31,63],[6],[],so 0 7⟩)]
theorem ok94:FEOK prog (94,feOf f94 dd94):=⟨func94,rfl,by decide +kernel,call94⟩
def dd95:List (Nat×DD):=[]
theorem ok95:FEOK prog (95,feOf f95 dd95):=⟨func95,rfl,by decide +kernel,call95⟩
def dd96:List (Nat×DD):=[(2,⟨[0,0,2,6,14,30,62,126,254,510,1022,2046,4094,8190,1023,32767],[14],[],(so 0 15++[.ck 11,.op 15])⟩)]
theorem ok96:FEOK prog (96,feOf f96 dd96):=⟨func96,rfl,by decide +kernel,call96⟩
def dd97:List (Nat×DD):=[]
theorem ok97:FEOK prog (97,feOf f97 dd97):=⟨func97,rfl,by decide +kernel,call97⟩
def dd98:List (Nat×DD):=[]
theorem ok98:FEOK prog (98,feOf f98 dd98):=⟨func98,rfl,by decide +kernel,call98⟩
def dd99:List (Nat×DD):=[]
theorem ok99:FEOK prog (99,feOf f99 dd99):=⟨func99,rfl,by decide +kernel,call99⟩
def z8z:List (Nat×DD):=[(4,⟨[0,0,2,7,0,0,32,127,255,511],[3,7],[],[.op 0,.op 1,.op 2,.op 4,.op 5,.op 6,.op 3,.ck 6,.ck 4,.op 7,.op 8,.op 9]⟩),(9,⟨[0,1,0,7,15,0,32,0,224,31,1023,2047],[9],[],(so 0 10++[.ck 6,.op 10,.op 11])⟩)]
theorem xff:FEOK prog (100,feOf f100 z8z):=⟨func100,rfl,by decide +kernel,call100⟩
def z6v:List (Nat×DD):=[(6,⟨[0,1,3,7,15,0,32,96,255],[],[],so 0 9⟩)]
theorem xcp:FEOK prog (101,feOf f101 z6v):=⟨func101,rfl,by decide +kernel,call101⟩
def z8k:List (Nat×DD):=[]
theorem xes:FEOK prog (105,feOf f105 z8k):=⟨func105,rfl,by decide +kernel,call105⟩
def z7e:List (Nat×DD):=[]
theorem xeu:FEOK prog (106,feOf f106 z7e):=⟨func106,rfl,by decide +kernel,call106⟩
def z6q:List (Nat×DD):=[]
theorem xcm:FEOK prog (108,feOf f108 z6q):=⟨func108,rfl,by decide +kernel,call108⟩
def z6p:List (Nat×DD):=[]
theorem xcz:FEOK prog (109,feOf f109 z6p):=⟨func109,rfl,by decide +kernel,call109⟩
def z6x:List (Nat×DD):=[]
theorem xdu:FEOK prog (113,feOf f113 z6x):=⟨func113,rfl,by decide +kernel,call113⟩
def z9e:List (Nat×DD):=[]
theorem xea:FEOK prog (114,feOf f114 z9e):=⟨func114,rfl,by decide +kernel,call114⟩
def z6u:List (Nat×DD):=[]
theorem xcd:FEOK prog (115,feOf f115 z6u):=⟨func115,rfl,by decide +kernel,call115⟩
def xap:List (Nat×DD):=[]
theorem xdq:FEOK prog (116,feOf f116 xap):=⟨func116,rfl,by decide +kernel,call116⟩
def xbp:List (Nat×DD):=[(6,⟨[0,1,3,0,8,31,0,64,255,223,1023,2047,4095,8191,16383],[2,5,8,10,12,14],[],([.op 0,.op 1,.op 3,.op 4,.op 6,.op 7,.op 2,.ck 7,.ck 4,.op 9,.op 5,.ck 7,.op 8]++so 10 5)⟩)]
theorem xfi:FEOK prog (117,feOf f117 xbp):=⟨func117,rfl,by decide +kernel,call117⟩
def xao:List (Nat×DD):=[]
theorem xcw:FEOK prog (118,feOf f118 xao):=⟨func118,rfl,by decide +kernel,call118⟩
def z8u:List (Nat×DD):=[]
theorem xdb:FEOK prog (120,feOf f120 z8u):=⟨func120,rfl,by decide +kernel,call120⟩
def z7r:List (Nat×DD):=[]
theorem xby:FEOK prog (121,feOf f121 z7r):=⟨func121,rfl,by decide +kernel,call121⟩
def z7s:List (Nat×DD):=[]
theorem xek:FEOK prog (122,feOf f122 z7s):=⟨func122,rfl,by decide +kernel,call122⟩
def xbf:List (Nat×DD):=[]
theorem xdl:FEOK prog (123,feOf f123 xbf):=⟨func123,rfl,by decide +kernel,call123⟩
def z8x:List (Nat×DD):=[]
theorem xdv:FEOK prog (125,feOf f125 z8x):=⟨func125,rfl,by decide +kernel,call125⟩
def xbb:List (Nat×DD):=[]
theorem xc5:FEOK prog (126,feOf f126 xbb):=⟨func126,rfl,by decide +kernel,call126⟩
def xas:List (Nat×DD):=[]
theorem xdc:FEOK prog (127,feOf f127 xas):=⟨func127,rfl,by decide +kernel,call127⟩
def xa3:List (Nat×DD):=[(16,⟨[0,1,0,4,0,28,60,127,255],[7],[],so 0 9⟩)]
theorem xey:FEOK prog (130,feOf f130 xa3):=⟨func130,rfl,by decide +kernel,call130⟩
def xay:List (Nat×DD):=[]
theorem xcf:FEOK prog (134,feOf f134 xay):=⟨func134,rfl,by decide +kernel,call134⟩
def z6o:List (Nat×DD):=[(10,⟨[0,1,0,7,15,0,0,96,255,0,1023],[7,8,10],[],(so 0 7++[.op 9,.op 7,.ck 4,.ck 1,.op 8,.op 10])⟩)]
theorem xfb:FEOK prog (140,feOf f140 z6o):=⟨func140,rfl,by decide +kernel,call140⟩
def z8r:List (Nat×DD):=[]
theorem xdg:FEOK prog (144,feOf f144 z8r):=⟨func144,rfl,by decide +kernel,call144⟩
def xbc:List (Nat×DD):=[(6,⟨[0,0,0,6,15,0,32,127,0,0,768,2047,4095],[0,4,7,11],[6],[.op 1,.op 2,.op 3,.op 5,.op 6,.op 8,.op 9,.op 10,.op 0,.op 4,.op 7,.op 11,.op 12]⟩)]
theorem xb9:FEOK prog (147,feOf f147 xbc):=⟨func147,rfl,by decide +kernel,call147⟩
def xa1:List (Nat×DD):=[(22,⟨[0,1,0,7,15,31,0,64,192,448,1023],[7,8,9,10],[],(so 0 8++[.ck 5,.ck 1,.op 8,.ck 5,.ck 1,.op 9,.ck 5,.ck 1,.op 10])⟩)]
theorem xfc:FEOK prog (148,feOf f148 xa1):=⟨func148,rfl,by decide +kernel,call148⟩
def xba:List (Nat×DD):=[]
theorem xfl:FEOK prog (150,feOf f150 xba):=⟨func150,rfl,by decide +kernel,call150⟩
def z6t:List (Nat×DD):=[(15,⟨[0,0,0,6,14,31,63],[5],[],so 0 7⟩)]
theorem xep:FEOK prog (152,feOf f152 z6t):=⟨func152,rfl,by decide +kernel,call152⟩
def xbg:List (Nat×DD):=[]
theorem xc7:FEOK prog (158,feOf f158 xbg):=⟨func158,rfl,by decide +kernel,call158⟩
def z6m:List (Nat×DD):=[]
theorem xcg:FEOK prog (159,feOf f159 z6m):=⟨func159,rfl,by decide +kernel,call159⟩
def xaa:List (Nat×DD):=[]
theorem xd7:FEOK prog (160,feOf f160 xaa):=⟨func160,rfl,by decide +kernel,call160⟩
def z8p:List (Nat×DD):=[]
theorem xeh:FEOK prog (161,feOf f161 z8p):=⟨func161,rfl,by decide +kernel,call161⟩
def xax:List (Nat×DD):=[]
theorem xc4:FEOK prog (162,feOf f162 xax):=⟨func162,rfl,by decide +kernel,call162⟩
def z8n:List (Nat×DD):=[]
theorem xc9:FEOK prog (163,feOf f163 z8n):=⟨func163,rfl,by decide +kernel,call163⟩
def z7x:List (Nat×DD):=[]
theorem xe6:FEOK prog (164,feOf f164 z7x):=⟨func164,rfl,by decide +kernel,call164⟩
def z7u:List (Nat×DD):=[]
theorem xb7:FEOK prog (165,feOf f165 z7u):=⟨func165,rfl,by decide +kernel,call165⟩
def z7n:List (Nat×DD):=[(5,⟨[0,1,0,0,12,31,63,0,255],[4,8],[7],(so 0 4++[.op 7,.op 4,.ck 1,.op 5,.op 6,.op 8])⟩)]
theorem xd4:FEOK prog (166,feOf f166 z7n):=⟨func166,rfl,by decide +kernel,call166⟩
def xar:List (Nat×DD):=[]
theorem xcl:FEOK prog (167,feOf f167 xar):=⟨func167,rfl,by decide +kernel,call167⟩
def xa4:List (Nat×DD):=[]
theorem xej:FEOK prog (168,feOf f168 xa4):=⟨func168,rfl,by decide +kernel,call168⟩
def z8s:List (Nat×DD):=[]
theorem xed:FEOK prog (169,feOf f169 z8s):=⟨func169,rfl,by decide +kernel,call169⟩
def z6w:List (Nat×DD):=[]
theorem xex:FEOK prog (170,feOf f170 z6w):=⟨func170,rfl,by decide +kernel,call170⟩
def z8e:List (Nat×DD):=[(5,⟨[0,1,3,7,15,31,63,63,255,511,63,63,2111,6207,15423,31807,65535,131071,262143],[],[],so 0 19⟩)]
theorem xce:FEOK prog (172,feOf f172 z8e):=⟨func172,rfl,by decide +kernel,call172⟩
def z8d:List (Nat×DD):=[]
theorem xe2:FEOK prog (173,feOf f173 z8d):=⟨func173,rfl,by decide +kernel,call173⟩
def z9a:List (Nat×DD):=[]
theorem xd8:FEOK prog (175,feOf f175 z9a):=⟨func175,rfl,by decide +kernel,call175⟩
def xae:List (Nat×DD):=[]
theorem xfe:FEOK prog (176,feOf f176 xae):=⟨func176,rfl,by decide +kernel,call176⟩
def z7t:List (Nat×DD):=[]
theorem xdn:FEOK prog (178,feOf f178 z7t):=⟨func178,rfl,by decide +kernel,call178⟩
def xbn:List (Nat×DD):=[]
theorem xcj:FEOK prog (179,feOf f179 xbn):=⟨func179,rfl,by decide +kernel,call179⟩
def xa9:List (Nat×DD):=[]
theorem xd0:FEOK prog (180,feOf f180 xa9):=⟨func180,rfl,by decide +kernel,call180⟩
def z9c:List (Nat×DD):=[(6,⟨[0,0,3,7,0,0,48,112,255],[],[],so 0 9⟩)]
theorem xck:FEOK prog (181,feOf f181 z9c):=⟨func181,rfl,by decide +kernel,call181⟩
def z9s:List (Nat×DD):=[]
theorem xc2:FEOK prog (182,feOf f182 z9s):=⟨func182,rfl,by decide +kernel,call182⟩
def z7m:List (Nat×DD):=[]
theorem xdo:FEOK prog (183,feOf f183 z7m):=⟨func183,rfl,by decide +kernel,call183⟩
def xak:List (Nat×DD):=[]
theorem xe1:FEOK prog (184,feOf f184 xak):=⟨func184,rfl,by decide +kernel,call184⟩
def z7f:List (Nat×DD):=[]
theorem xb8:FEOK prog (185,feOf f185 z7f):=⟨func185,rfl,by decide +kernel,call185⟩
def z9l:List (Nat×DD):=[(3,⟨[0,1,0,0,8,28,63,127],[5,6],[],(so 0 6++[.ck 1,.op 6,.op 7])⟩)]
theorem xco:FEOK prog (187,feOf f187 z9l):=⟨func187,rfl,by decide +kernel,call187⟩
def z7y:List (Nat×DD):=[(6,⟨[0,1,0,4,0,28,60,124,255,511,1023,0,4095,8191],[12],[],so 0 14⟩)]
theorem xb4:FEOK prog (188,feOf f188 z7y):=⟨func188,rfl,by decide +kernel,call188⟩
def z9k:List (Nat×DD):=[]
theorem xb5:FEOK prog (189,feOf f189 z9k):=⟨func189,rfl,by decide +kernel,call189⟩
def z9r:List (Nat×DD):=[(17,⟨[0,1,3,7,7,23,63,127,7,7,775,1799,4095,8191,16383],[12],[],so 0 15⟩)]
theorem xfa:FEOK prog (195,feOf f195 z9r):=⟨func195,rfl,by decide +kernel,call195⟩
def z7q:List (Nat×DD):=[]
theorem xei:FEOK prog (196,feOf f196 z7q):=⟨func196,rfl,by decide +kernel,call196⟩
def z7h:List (Nat×DD):=[]
theorem xdm:FEOK prog (197,feOf f197 z7h):=⟨func197,rfl,by decide +kernel,call197⟩
def z8v:List (Nat×DD):=[]
theorem xfd:FEOK prog (198,feOf f198 z8v):=⟨func198,rfl,by decide +kernel,call198⟩
def z9n:List (Nat×DD):=[]
theorem xe4:FEOK prog (199,feOf f199 z9n):=⟨func199,rfl,by decide +kernel,call199⟩
def xbl:List (Nat×DD):=[]
theorem xb6:FEOK prog (201,feOf f201 xbl):=⟨func201,rfl,by decide +kernel,call201⟩
def xai:List (Nat×DD):=[]
theorem xb2:FEOK prog (202,feOf f202 xai):=⟨func202,rfl,by decide +kernel,call202⟩
def z9y:List (Nat×DD):=[]
theorem xew:FEOK prog (203,feOf f203 z9y):=⟨func203,rfl,by decide +kernel,call203⟩
def z7d:List (Nat×DD):=[]
theorem xbz:FEOK prog (204,feOf f204 z7d):=⟨func204,rfl,by decide +kernel,call204⟩
def z7a:List (Nat×DD):=[]
theorem xc6:FEOK prog (205,feOf f205 z7a):=⟨func205,rfl,by decide +kernel,call205⟩
def z8q:List (Nat×DD):=[(4,⟨[0,0,3,7,15,15,63,127,15,15,527,1807,3855,8191,16383],[13],[],so 0 15⟩),(6,⟨[0,0,0,0,8,0,0,64,224,480,0,0,3072,7168,16355,32739,65535,131071],[15,17],[],so 0 18⟩)]
theorem xef:FEOK prog (207,feOf f207 z8q):=⟨func207,rfl,by decide +kernel,call207⟩
def z9u:List (Nat×DD):=[(10,⟨[0,0,0,0,0,24,0,0,0,384,960,1984,0,0,12288,28672,65475,131011,262143,524287],[17,19],[],so 0 20⟩)]
theorem xcn:FEOK prog (208,feOf f208 z9u):=⟨func208,rfl,by decide +kernel,call208⟩
def xat:List (Nat×DD):=[(10,⟨[0,0,0,0,0,24,0,0,0,384,960,1984,0,0,12288,28672,65475,131011,262143,524287],[17,19],[],so 0 20⟩)]
theorem xd2:FEOK prog (209,feOf f209 xat):=⟨func209,rfl,by decide +kernel,call209⟩
def xaz:List (Nat×DD):=[]
theorem xds:FEOK prog (210,feOf f210 xaz):=⟨func210,rfl,by decide +kernel,call210⟩
def z6k:List (Nat×DD):=[(3,⟨[0,0,0,0,0,0,48,112,0,0,768,1792,4083,8179,16383,32767],[13,15],[],so 0 16⟩)]
theorem xfg:FEOK prog (211,feOf f211 z6k):=⟨func211,rfl,by decide +kernel,call211⟩
def xa6:List (Nat×DD):=[(5,⟨[0,0,3,7,15,15,63,127,15,15,527,1807,3855,8191,16383,32767],[13],[],so 0 16⟩),(11,⟨[0,0,0,0,8,0,0,64,224,480,0,0,3072,7168,16355,32739,65535,131071],[15,17],[],so 0 18⟩),(16,⟨[0,0,3,7,0,0,32,112,240,511,1023],[9],[],so 0 11⟩),(17,⟨[0,0,0,0,8,0,0,64,224,480,0,0,3072,7168,16355,32739,65535,131071],[15,17],[],so 0 18⟩),(22,⟨[0,0,3,7,0,0,32,112,240,511,1023],[9],[],so 0 11⟩),(23,⟨[0,0,0,0,8,0,0,64,224,480,0,0,3072,7168,16355,32739,65535,131071],[15,17],[],so 0 18⟩)]
theorem xca:FEOK prog (212,feOf f212 xa6):=⟨func212,rfl,by decide +kernel,call212⟩
def xbd:List (Nat×DD):=[(1,⟨[0,0,0,0,0,0,48,112,0,0,768,1792,4083,8179,16383,32767],[13,15],[],so 0 16⟩),(3,⟨[0,0,3,7,15,15,63,127,15,15,783,1807,4095,8191,16383],[12],[],so 0 15⟩),(5,⟨[0,0,3,7,15,15,63,127,15,15,783,1807,4095,8191],[12],[],so 0 14⟩),(8,⟨[0,0,0,0,0,0,48,112,0,0,768,1792,4083,8179,16383,32767],[13,15],[],so 0 16⟩)]
theorem xec:FEOK prog (213,feOf f213 xbd):=⟨func213,rfl,by decide +kernel,call213⟩
def xbi:List (Nat×DD):=[(1,⟨[0,0,0,0,0,0,48,112,0,0,768,1792,4083,8179,16383,32767],[13,15],[],so 0 16⟩),(3,⟨[0,0,3,7,15,15,63,127,15,15,783,1807,4095,8191],[12],[],so 0 14⟩),(5,⟨[0,0,3,7,15,15,63,127,15,15,783,1807,4095,8191,16383],[12],[],so 0 15⟩),(8,⟨[0,0,0,0,0,0,48,112,0,0,768,1792,4083,8179,16383,32767],[13,15],[],so 0 16⟩),(10,⟨[0,0,0,0,0,0,48,112,0,0,768,1792,4083,8179,16383,32767],[13,15],[],so 0 16⟩),(13,⟨[0,0,3,7,15,15,63,127,15,15,783,1807,4095,8191],[12],[],so 0 14⟩),(15,⟨[0,0,3,7,15,15,63,127,15,15,783,1807,4095,8191,16383],[12],[],so 0 15⟩),(18,⟨[0,0,0,0,0,0,48,112,0,0,768,1792,4083,8179,16383,32767],[13,15],[],so 0 16⟩),(21,⟨[0,0,0,0,0,0,48,112,0,0,768,1792,4083,8179,16383,32767],[13,15],[],so 0 16⟩)]
theorem xda:FEOK prog (214,feOf f214 xbi):=⟨func214,rfl,by decide +kernel,call214⟩
def z6l:List (Nat×DD):=[]
theorem xen:FEOK prog (215,feOf f215 z6l):=⟨func215,rfl,by decide +kernel,call215⟩
def z7w:List (Nat×DD):=[]
theorem xb3:FEOK prog (216,feOf f216 z7w):=⟨func216,rfl,by decide +kernel,call216⟩
def xbo:List (Nat×DD):=[]
theorem xcb:FEOK prog (217,feOf f217 xbo):=⟨func217,rfl,by decide +kernel,call217⟩
def z9z:List (Nat×DD):=[(4,⟨[0,0,3,7,15,15,15,111,239,15,15,1039,3599,7695,16383,32767,65535],[14],[],so 0 17⟩),(6,⟨[0,0,0,0,8,0,0,64,224,480,0,0,3072,7168,16355,32739,65535,131071],[15,17],[],so 0 18⟩)]
theorem xe3:FEOK prog (218,feOf f218 z9z):=⟨func218,rfl,by decide +kernel,call218⟩
def z9h:List (Nat×DD):=[(5,⟨[0,0,0,6,14,0,0,96,224,511,1023],[9],[],so 0 11⟩),(11,⟨[0,0,0,0,8,0,0,64,224,480,0,0,3072,7168,16355,32739,65535,131071],[15,17],[],so 0 18⟩),(17,⟨[0,0,0,6,14,0,0,96,224,511,1023,2047],[9],[],so 0 12⟩),(23,⟨[0,0,0,0,8,0,0,64,224,480,0,0,3072,7168,16355,32739,65535,131071],[15,17],[],so 0 18⟩),(35,⟨[0,0,0,0,12,30,62,0,0,384,896,2047,4095,8191],[11],[],so 0 14⟩)]
theorem xet:FEOK prog (219,feOf f219 z9h):=⟨func219,rfl,by decide +kernel,call219⟩
def xa2:List (Nat×DD):=[]
theorem xez:FEOK prog (220,feOf f220 xa2):=⟨func220,rfl,by decide +kernel,call220⟩
def xau:List (Nat×DD):=[(3,⟨[0,1,0,7,15,31,31,31,223,511,1023,31,31,31,12319,28703,63519,129055,262143,524287],[18],[],so 0 20⟩),(5,⟨[0,0,0,6,15,31,0,0,0,384,960,1984,4095,8191],[12],[],so 0 14⟩),(6,⟨[0,0,0,6,0,0,0,96,0,0,0,1536,3840,7936,0,0,0,98304,245760,507904,1048335,2096911,4194303,8388607],[21,23],[],so 0 24⟩)]
theorem xct:FEOK prog (221,feOf f221 xau):=⟨func221,rfl,by decide +kernel,call221⟩
def xaj:List (Nat×DD):=[]
theorem xfk:FEOK prog (222,feOf f222 xaj):=⟨func222,rfl,by decide +kernel,call222⟩
def z6n:List (Nat×DD):=[(1,⟨[0,1,3,0,8,24,56,127,255,511],[9],[],so 0 10⟩),(2,⟨[0,1,3,0,8,24,56,127,255,511],[9],[],so 0 10⟩),(3,⟨[0,1,3,0,8,24,56,127,255,511],[9],[],so 0 10⟩)]
theorem xcq:FEOK prog (223,feOf f223 z6n):=⟨func223,rfl,by decide +kernel,call223⟩
def z7v:List (Nat×DD):=[]
theorem xd9:FEOK prog (224,feOf f224 z7v):=⟨func224,rfl,by decide +kernel,call224⟩
def z9f:List (Nat×DD):=[]
theorem xdr:FEOK prog (225,feOf f225 z9f):=⟨func225,rfl,by decide +kernel,call225⟩
def xaf:List (Nat×DD):=[]
theorem xdz:FEOK prog (226,feOf f226 xaf):=⟨func226,rfl,by decide +kernel,call226⟩
def z8y:List (Nat×DD):=[(1,⟨[0,0,3,7,0,0,48,112,255],[8],[],so 0 9⟩)]
theorem xcu:FEOK prog (227,feOf f227 z8y):=⟨func227,rfl,by decide +kernel,call227⟩
def z7l:List (Nat×DD):=[(3,⟨[0,0,0,6,0,0,0,96,0,0,0,1536,3840,7936,0,0,0,98304,245760,507904,1048335,2096911,4194303,8388607],[21,23],[],so 0 24⟩)]
theorem xdy:FEOK prog (228,feOf f228 z7l):=⟨func228,rfl,by decide +kernel,call228⟩
noncomputable def tabL:List (Nat×FE):=[(22,feOf f22 dd22),(23,feOf f23 dd23),(24,feOf f24 dd24),(28,feOf f28 dd28),(30,feOf f30 dd30),(32,feOf f32 dd32),(34,feOf f34 dd34),(35,feOf f35 dd35),(36,feOf f36 dd36),(42,feOf f42 dd42),(44,feOf f44 dd44),(52,feOf f52 dd52),(55,feOf f55 dd55),(63,feOf f63 dd63),(65,feOf f65 dd65),(66,feOf f66 dd66),(67,feOf f67 dd67),(81,feOf f81 dd81),(82,feOf f82 dd82),(85,feOf f85 dd85),(92,feOf f92 dd92),(93,feOf f93 dd93),(94,feOf f94 dd94),(95,feOf f95 dd95),(96,feOf f96 dd96),(97,feOf f97 dd97),(98,feOf f98 dd98),(99,feOf f99 dd99),(100,feOf f100 z8z),(101,feOf f101 z6v),(105,feOf f105 z8k),(106,feOf f106 z7e),(108,feOf f108 z6q),(109,feOf f109 z6p),(113,feOf f113 z6x),(114,feOf f114 z9e),(115,feOf f115 z6u),(116,feOf f116 xap),(117,feOf f117 xbp),(118,feOf f118 xao),(120,feOf f120 z8u),(121,feOf f121 z7r),(122,feOf f122 z7s),(123,feOf f123 xbf),(125,feOf f125 z8x),(126,feOf f126 xbb),(127,feOf f127 xas),(130,feOf f130 xa3),(134,feOf f134 xay),(140,feOf f140 z6o),(144,feOf f144 z8r),(147,feOf f147 xbc),(148,feOf f148 xa1),(150,feOf f150 xba),(152,feOf f152 z6t),(158,feOf f158 xbg),(159,feOf f159 z6m),(160,feOf f160 xaa),(161,feOf f161 z8p),(162,feOf f162 xax),(163,feOf f163 z8n),(164,feOf f164 z7x),(165,feOf f165 z7u),(166,feOf f166 z7n),(167,feOf f167 xar),(168,feOf f168 xa4),(169,feOf f169 z8s),(170,feOf f170 z6w),(172,feOf f172 z8e),(173,feOf f173 z8d),(175,feOf f175 z9a),(176,feOf f176 xae),(178,feOf f178 z7t),(179,feOf f179 xbn),(180,feOf f180 xa9),(181,feOf f181 z9c),(182,feOf f182 z9s),(183,feOf f183 z7m),(184,feOf f184 xak),(185,feOf f185 z7f),(187,feOf f187 z9l),(188,feOf f188 z7y),(189,feOf f189 z9k),(195,feOf f195 z9r),(196,feOf f196 z7q),(197,feOf f197 z7h),(198,feOf f198 z8v),(199,feOf f199 z9n),(201,feOf f201 xbl),(202,feOf f202 xai),(203,feOf f203 z9y),(204,feOf f204 z7d),(205,feOf f205 z7a),(207,feOf f207 z8q),(208,feOf f208 z9u),(209,feOf f209 xat),(210,feOf f210 xaz),(211,feOf f211 z6k),(212,feOf f212 xa6),(213,feOf f213 xbd),(214,feOf f214 xbi),(215,feOf f215 z6l),(216,feOf f216 z7w),(217,feOf f217 xbo),(218,feOf f218 z9z),(219,feOf f219 z9h),(220,feOf f220 xa2),(221,feOf f221 xau),(222,feOf f222 xaj),(223,feOf f223 z6n),(224,feOf f224 z7v),(225,feOf f225 z9f),(226,feOf f226 xaf),(227,feOf f227 z8y),(228,feOf f228 z7l)]
theorem zwu:∀p∈tabL,FEOK prog p:=zae ok22 (zae ok23 (zae ok24 (zae ok28 (zae ok30 (zae ok32 (zae ok34 (zae ok35 (zae ok36 (zae ok42 (zae ok44 (zae ok52 (zae ok55 (zae ok63 (zae ok65 (zae ok66 (zae ok67 (zae ok81 (zae ok82 (zae ok85 (zae ok92 (zae ok93 (zae ok94 (zae ok95 (zae ok96 (zae ok97 (zae ok98 (zae ok99 (zae xff (zae xcp (zae xes (zae xeu (zae xcm (zae xcz (zae xdu (zae xea (zae xcd (zae xdq (zae xfi (zae xcw (zae xdb (zae xby (zae xek (zae xdl (zae xdv (zae xc5 (zae xdc (zae xey (zae xcf (zae xfb (zae xdg (zae xb9 (zae xfc (zae xfl (zae xep (zae xc7 (zae xcg (zae xd7 (zae xeh (zae xc4 (zae xc9 (zae xe6 (zae xb7 (zae xd4 (zae xcl (zae xej (zae xed (zae xex (zae xce (zae xe2 (zae xd8 (zae xfe (zae xdn (zae xcj (zae xd0 (zae xck (zae xc2 (zae xdo (zae xe1 (zae xb8 (zae xco (zae xb4 (zae xb5 (zae xfa (zae xei (zae xdm (zae xfd (zae xe4 (zae xb6 (zae xb2 (zae xew (zae xbz (zae xc6 (zae xef (zae xcn (zae xd2 (zae xds (zae xfg (zae xca (zae xec (zae xda (zae xen (zae xb3 (zae xcb (zae xe3 (zae xet (zae xez (zae xct (zae xfk (zae xcq (zae xd9 (zae xdr (zae xdz (zae xcu (zae xdy z1w))))))))))))))))))))))))))))))))))))))))))))))))))))))))))))))))))))))))))))))))))))))))))))))))))))))))))))))))))
end Go.Am.Ds
end
section
namespace Go.Am.Ds
open Go Go.Am Go.Proofs Tryz Go.Shelf
def zwp:Ren where
  f := fun x => match x with
    |5=>159
    |8=>196
    |7=>195
    |19=>215
    |20=>216
    |10=>207
    |11=>208
    |12=>209
    |13=>210
    |14=>211
    |15=>212
    |16=>198
    |17=>213
    |18=>214
    |30=>221
    |31=>222
    |32=>223
    |33=>224
    |34=>225
    |35=>217
    |40=>227
    |n=>n
  t := fun x => match x with
    |23=>25
    |25=>3
    |3=>3
    |32=>226
    |22=>25
    |0=>0
    |44=>143
    |46=>243
    |4=>4
    |36=>237
    |35=>236
    |41=>110
    |5=>5
    |9=>9
    |53=>247
    |57=>251
    |63=>253
    |64=>154
    |n=>n
  g:=fun n=>n
theorem z3g:SlLaysM.n5 prog zwp where
  mixed:=rfl
  f5:=⟨ "slices.Sort[[]int,int]", by decide,func159⟩
  f7:=⟨ "slices.pdqsortOrdered[int]", by decide,func195⟩
  f8:=func196
  f10:=⟨ "slices.insertionSortOrdered[int]", by decide,func207⟩
  f11:=⟨ "slices.heapSortOrdered[int]", by decide,func208⟩
  f12:=⟨ "slices.breakPatternsOrdered[int]", by decide,func209⟩
  f13:=⟨ "slices.choosePivotOrdered[int]", by decide,func210⟩
  f14:=⟨ "slices.reverseRangeOrdered[int]", by decide,func211⟩
  f15:=⟨ "slices.partialInsertionSortOrdered[int]", by decide,func212⟩
  f16:=⟨ "cmp.Less[int]", by decide,func198⟩
  f17:=⟨ "slices.partitionEqualOrdered[int]", by decide,func213⟩
  f18:=⟨ "slices.partitionOrdered[int]", by decide,func214⟩
  f19:=func215
  f20:=func216
  f30:=⟨ "slices.siftDownOrdered[int]", by decide,func221⟩
  f31:=func222
  f32:=func223
  f33:=⟨ "slices.medianAdjacentOrdered[int]", by decide,func224⟩
  f34:=⟨ "slices.medianOrdered[int]", by decide,func225⟩
  f35:=⟨ "cmp.isNaN[int]", by decide,func217⟩
  f40:=⟨ "slices.order2Ordered[int]", by decide,func227⟩
  t0:=underlying0
  a0:=isAgg0
  z0:=sizeOf0
  v0:=zeroValue0
  t3:=underlying3
  a3:=isAgg3
  z3:=sizeOf3
  v3:=zeroValue3
  t4:=underlying4
  a4:=isAgg4
  z4:=sizeOf4
  v4:=zeroValue4
  t5:=underlying5
  a5:=isAgg5
  z5:=sizeOf5
  v5:=zeroValue5
  t9:=underlying9
  a9:=isAgg9
  z9:=sizeOf9
  v9:=zeroValue9
  t22:=underlying25
  a22:=isAgg25
  z22:=sizeOf25
  v22:=zeroValue25
  t23:=underlying25
  a23:=isAgg25
  z23:=sizeOf25
  v23:=zeroValue25
  t25:=underlying3
  a25:=isAgg3
  z25:=sizeOf3
  v25:=zeroValue3
  t32:=underlying226
  a32:=isAgg226
  z32:=sizeOf226
  v32:=zeroValue226
  t35:=underlying236
  a35:=isAgg236
  z35:=sizeOf236
  v35:=zeroValue236
  t36:=underlying237
  a36:=isAgg237
  z36:=sizeOf237
  v36:=zeroValue237
  t41:=underlying110
  a41:=isAgg110
  z41:=sizeOf110
  v41:=zeroValue110
  t44:=underlying143
  a44:=isAgg143
  z44:=sizeOf143
  v44:=zeroValue143
  t46:=underlying243
  a46:=isAgg243
  z46:=sizeOf243
  v46:=zeroValue243
  t53:=underlying247
  a53:=isAgg247
  z53:=sizeOf247
  v53:=zeroValue247
  t57:=underlying251
  a57:=isAgg251
  z57:=sizeOf251
  v57:=zeroValue251
  t63:=underlying253
  a63:=isAgg253
  z63:=sizeOf253
  v63:=zeroValue253
  t64:=underlying154
  a64:=isAgg154
  z64:=sizeOf154
  v64:=zeroValue154
end Go.Am.Ds
end
section
namespace Go.Am.Ds
open Go Go.Am Go.Proofs Tryz
@[simp] theorem u3:prog.underlying 3=some (.int .i64):=by rfl
@[simp] theorem ag3:tagg prog 3=some false:=by decide +kernel
@[simp] theorem sz3:tsz prog 3=some 1:=by decide +kernel
@[simp] theorem ze3:zb1 prog 3=some [.int .i64 0]:=by rfl
@[simp] theorem za3:(zb9 prog 3).bind pvcV=some (.int .i64 0):=by rfl
@[simp] theorem u4:prog.underlying 4=some .bool:=by rfl
@[simp] theorem ag4:tagg prog 4=some false:=by decide +kernel
@[simp] theorem sz4:tsz prog 4=some 1:=by decide +kernel
@[simp] theorem ze4:zb1 prog 4=some [.bool false]:=by rfl
@[simp] theorem za4:(zb9 prog 4).bind pvcV=some (.bool false):=by rfl
@[simp] theorem u5:prog.underlying 5=some (.int .u8):=by rfl
@[simp] theorem ag5:tagg prog 5=some false:=by decide +kernel
@[simp] theorem sz5:tsz prog 5=some 1:=by decide +kernel
@[simp] theorem ze5:zb1 prog 5=some [.int .u8 0]:=by rfl
@[simp] theorem za5:(zb9 prog 5).bind pvcV=some (.int .u8 0):=by rfl
@[simp] theorem u9:prog.underlying 9=some .string:=by rfl
@[simp] theorem ag9:tagg prog 9=some false:=by decide +kernel
@[simp] theorem sz9:tsz prog 9=some 1:=by decide +kernel
@[simp] theorem ze9:zb1 prog 9=some [.str ByteArray.empty]:=by rfl
@[simp] theorem za9:(zb9 prog 9).bind pvcV=some (.str ByteArray.empty):=by rfl
@[simp] theorem u22:prog.underlying 22=some (.slice 62):=by rfl
@[simp] theorem ag22:tagg prog 22=some false:=by decide +kernel
@[simp] theorem sz22:tsz prog 22=some 1:=by decide +kernel
@[simp] theorem el22:zc8 prog 22=some (62,7):=by decide +kernel
@[simp] theorem by22:(prog.info? 62).map (·.bytes)=some 104:=by decide +kernel
@[simp] theorem ze22:zb1 prog 22=some [.sl0]:=by rfl
@[simp] theorem za22:(zb9 prog 22).bind pvcV=some (.sl0):=by rfl
@[simp] theorem ag24:tagg prog 24=some true:=by decide +kernel
@[simp] theorem sz24:tsz prog 24=some 1:=by decide +kernel
@[simp] theorem fd24_0:zbk prog 24 0=some (22,0,1):=by decide +kernel
@[simp] theorem ze24:zb1 prog 24=some [.sl0]:=by rfl
@[simp] theorem bu24 (l:List (Nat×PV)):zed prog 24 l=(zca (([(0,1)]:List (Nat×Nat))[·]?) [.sl0] l).map .agg:=by rfl
@[simp] theorem za24:(zb9 prog 24).bind pvcV=some (.agg [.sl0]):=by rfl
@[simp] theorem u25:prog.underlying 25=some (.slice 3):=by rfl
@[simp] theorem ag25:tagg prog 25=some false:=by decide +kernel
@[simp] theorem sz25:tsz prog 25=some 1:=by decide +kernel
@[simp] theorem el25:zc8 prog 25=some (3,1):=by decide +kernel
@[simp] theorem by25:(prog.info? 3).map (·.bytes)=some 8:=by decide +kernel
@[simp] theorem ze25:zb1 prog 25=some [.sl0]:=by rfl
@[simp] theorem za25:(zb9 prog 25).bind pvcV=some (.sl0):=by rfl
@[simp] theorem u28:prog.underlying 28=some (.int .i64):=by rfl
@[simp] theorem ag28:tagg prog 28=some false:=by decide +kernel
@[simp] theorem sz28:tsz prog 28=some 1:=by decide +kernel
@[simp] theorem ze28:zb1 prog 28=some [.int .i64 0]:=by rfl
@[simp] theorem za28:(zb9 prog 28).bind pvcV=some (.int .i64 0):=by rfl
@[simp] theorem ag32:tagg prog 32=some true:=by decide +kernel
@[simp] theorem sz32:tsz prog 32=some 5:=by decide +kernel
@[simp] theorem fd32_0:zbk prog 32 0=some (3,0,1):=by decide +kernel
@[simp] theorem fd32_1:zbk prog 32 1=some (3,1,1):=by decide +kernel
@[simp] theorem fd32_2:zbk prog 32 2=some (3,2,1):=by decide +kernel
@[simp] theorem fd32_3:zbk prog 32 3=some (3,3,1):=by decide +kernel
@[simp] theorem fd32_4:zbk prog 32 4=some (3,4,1):=by decide +kernel
@[simp] theorem ze32:zb1 prog 32=some [.int .i64 0,.int .i64 0,.int .i64 0,.int .i64 0,.int .i64 0]:=by rfl
@[simp] theorem bu32 (l:List (Nat×PV)):zed prog 32 l=(zca (([(0,1),(1,1),(2,1),(3,1),(4,1)]:List (Nat×Nat))[·]?) [.int .i64 0,.int .i64 0,.int .i64 0,.int .i64 0,.int .i64 0] l).map .agg:=by rfl
@[simp] theorem za32:(zb9 prog 32).bind pvcV=some (.agg [.int .i64 0,.int .i64 0,.int .i64 0,.int .i64 0,.int .i64 0]):=by rfl
@[simp] theorem ag38:tagg prog 38=some true:=by decide +kernel
@[simp] theorem sz38:tsz prog 38=some 2:=by decide +kernel
@[simp] theorem fd38_0:zbk prog 38 0=some (3,0,1):=by decide +kernel
@[simp] theorem fd38_1:zbk prog 38 1=some (3,1,1):=by decide +kernel
@[simp] theorem ze38:zb1 prog 38=some [.int .i64 0,.int .i64 0]:=by rfl
@[simp] theorem bu38 (l:List (Nat×PV)):zed prog 38 l=(zca (([(0,1),(1,1)]:List (Nat×Nat))[·]?) [.int .i64 0,.int .i64 0] l).map .agg:=by rfl
@[simp] theorem za38:(zb9 prog 38).bind pvcV=some (.agg [.int .i64 0,.int .i64 0]):=by rfl
@[simp] theorem ag44:tagg prog 44=some true:=by decide +kernel
@[simp] theorem sz44:tsz prog 44=some 3:=by decide +kernel
@[simp] theorem fd44_0:zbk prog 44 0=some (3,0,1):=by decide +kernel
@[simp] theorem fd44_1:zbk prog 44 1=some (3,1,1):=by decide +kernel
@[simp] theorem fd44_2:zbk prog 44 2=some (28,2,1):=by decide +kernel
@[simp] theorem ze44:zb1 prog 44=some [.int .i64 0,.int .i64 0,.int .i64 0]:=by rfl
@[simp] theorem bu44 (l:List (Nat×PV)):zed prog 44 l=(zca (([(0,1),(1,1),(2,1)]:List (Nat×Nat))[·]?) [.int .i64 0,.int .i64 0,.int .i64 0] l).map .agg:=by rfl
@[simp] theorem za44:(zb9 prog 44).bind pvcV=some (.agg [.int .i64 0,.int .i64 0,.int .i64 0]):=by rfl
@[simp] theorem ag48:tagg prog 48=some true:=by decide +kernel
@[simp] theorem sz48:tsz prog 48=some 2:=by decide +kernel
@[simp] theorem fd48_0:zbk prog 48 0=some (25,0,1):=by decide +kernel
@[simp] theorem fd48_1:zbk prog 48 1=some (28,1,1):=by decide +kernel
@[simp] theorem ze48:zb1 prog 48=some [.sl0,.int .i64 0]:=by rfl
@[simp] theorem bu48 (l:List (Nat×PV)):zed prog 48 l=(zca (([(0,1),(1,1)]:List (Nat×Nat))[·]?) [.sl0,.int .i64 0] l).map .agg:=by rfl
@[simp] theorem za48:(zb9 prog 48).bind pvcV=some (.agg [.sl0,.int .i64 0]):=by rfl
@[simp] theorem ag53:tagg prog 53=some true:=by decide +kernel
@[simp] theorem sz53:tsz prog 53=some 2:=by decide +kernel
@[simp] theorem fd53_0:zbk prog 53 0=some (3,0,1):=by decide +kernel
@[simp] theorem fd53_1:zbk prog 53 1=some (28,1,1):=by decide +kernel
@[simp] theorem ze53:zb1 prog 53=some [.int .i64 0,.int .i64 0]:=by rfl
@[simp] theorem bu53 (l:List (Nat×PV)):zed prog 53 l=(zca (([(0,1),(1,1)]:List (Nat×Nat))[·]?) [.int .i64 0,.int .i64 0] l).map .agg:=by rfl
@[simp] theorem za53:(zb9 prog 53).bind pvcV=some (.agg [.int .i64 0,.int .i64 0]):=by rfl
@[simp] theorem u57:prog.underlying 57=some (.int .u16):=by rfl
@[simp] theorem ag57:tagg prog 57=some false:=by decide +kernel
@[simp] theorem sz57:tsz prog 57=some 1:=by decide +kernel
@[simp] theorem ze57:zb1 prog 57=some [.int .u16 0]:=by rfl
@[simp] theorem za57:(zb9 prog 57).bind pvcV=some (.int .u16 0):=by rfl
@[simp] theorem ag60:tagg prog 60=some true:=by decide +kernel
@[simp] theorem sz60:tsz prog 60=some 2:=by decide +kernel
@[simp] theorem fd60_0:zbk prog 60 0=some (3,0,1):=by decide +kernel
@[simp] theorem fd60_1:zbk prog 60 1=some (3,1,1):=by decide +kernel
@[simp] theorem ze60:zb1 prog 60=some [.int .i64 0,.int .i64 0]:=by rfl
@[simp] theorem bu60 (l:List (Nat×PV)):zed prog 60 l=(zca (([(0,1),(1,1)]:List (Nat×Nat))[·]?) [.int .i64 0,.int .i64 0] l).map .agg:=by rfl
@[simp] theorem za60:(zb9 prog 60).bind pvcV=some (.agg [.int .i64 0,.int .i64 0]):=by rfl
@[simp] theorem ag62:tagg prog 62=some true:=by decide +kernel
@[simp] theorem sz62:tsz prog 62=some 7:=by decide +kernel
@[simp] theorem fd62_0:zbk prog 62 0=some (3,0,1):=by decide +kernel
@[simp] theorem fd62_1:zbk prog 62 1=some (3,1,1):=by decide +kernel
@[simp] theorem fd62_2:zbk prog 62 2=some (25,2,1):=by decide +kernel
@[simp] theorem fd62_3:zbk prog 62 3=some (25,3,1):=by decide +kernel
@[simp] theorem fd62_4:zbk prog 62 4=some (25,4,1):=by decide +kernel
@[simp] theorem fd62_5:zbk prog 62 5=some (60,5,2):=by decide +kernel
@[simp] theorem ze62:zb1 prog 62=some [.int .i64 0,.int .i64 0,.sl0,.sl0,.sl0,.int .i64 0,.int .i64 0]:=by rfl
@[simp] theorem bu62 (l:List (Nat×PV)):zed prog 62 l=(zca (([(0,1),(1,1),(2,1),(3,1),(4,1),(5,2)]:List (Nat×Nat))[·]?) [.int .i64 0,.int .i64 0,.sl0,.sl0,.sl0,.int .i64 0,.int .i64 0] l).map .agg:=by rfl
@[simp] theorem za62:(zb9 prog 62).bind pvcV=some (.agg [.int .i64 0,.int .i64 0,.sl0,.sl0,.sl0,.int .i64 0,.int .i64 0]):=by rfl
@[simp] theorem ag67:tagg prog 67=some false:=by decide +kernel
@[simp] theorem sz67:tsz prog 67=some 1:=by decide +kernel
@[simp] theorem ze67:zb1 prog 67=some [.nilFunc]:=by rfl
@[simp] theorem za67:(zb9 prog 67).bind pvcV=some (.nilFunc):=by rfl
@[simp] theorem ag69:tagg prog 69=some true:=by decide +kernel
@[simp] theorem sz69:tsz prog 69=some 2:=by decide +kernel
@[simp] theorem fd69_0:zbk prog 69 0=some (24,0,1):=by decide +kernel
@[simp] theorem fd69_1:zbk prog 69 1=some (28,1,1):=by decide +kernel
@[simp] theorem ze69:zb1 prog 69=some [.sl0,.int .i64 0]:=by rfl
@[simp] theorem bu69 (l:List (Nat×PV)):zed prog 69 l=(zca (([(0,1),(1,1)]:List (Nat×Nat))[·]?) [.sl0,.int .i64 0] l).map .agg:=by rfl
@[simp] theorem za69:(zb9 prog 69).bind pvcV=some (.agg [.sl0,.int .i64 0]):=by rfl
@[simp] theorem u74:prog.underlying 74=some (.slice 38):=by rfl
@[simp] theorem ag74:tagg prog 74=some false:=by decide +kernel
@[simp] theorem sz74:tsz prog 74=some 1:=by decide +kernel
@[simp] theorem el74:zc8 prog 74=some (38,2):=by decide +kernel
@[simp] theorem by74:(prog.info? 38).map (·.bytes)=some 16:=by decide +kernel
@[simp] theorem ze74:zb1 prog 74=some [.sl0]:=by rfl
@[simp] theorem za74:(zb9 prog 74).bind pvcV=some (.sl0):=by rfl
@[simp] theorem ag83:tagg prog 83=some true:=by decide +kernel
@[simp] theorem sz83:tsz prog 83=some 7:=by decide +kernel
@[simp] theorem fd83_0:zbk prog 83 0=some (32,0,5):=by decide +kernel
@[simp] theorem fd83_1:zbk prog 83 1=some (4,5,1):=by decide +kernel
@[simp] theorem fd83_2:zbk prog 83 2=some (28,6,1):=by decide +kernel
@[simp] theorem ze83:zb1 prog 83=some [.int .i64 0,.int .i64 0,.int .i64 0,.int .i64 0,.int .i64 0,.bool false,.int .i64 0]:=by rfl
@[simp] theorem bu83 (l:List (Nat×PV)):zed prog 83 l=(zca (([(0,5),(5,1),(6,1)]:List (Nat×Nat))[·]?) [.int .i64 0,.int .i64 0,.int .i64 0,.int .i64 0,.int .i64 0,.bool false,.int .i64 0] l).map .agg:=by rfl
@[simp] theorem za83:(zb9 prog 83).bind pvcV=some (.agg [.int .i64 0,.int .i64 0,.int .i64 0,.int .i64 0,.int .i64 0,.bool false,.int .i64 0]):=by rfl
@[simp] theorem u87:prog.underlying 87=some (.slice 89):=by rfl
@[simp] theorem ag87:tagg prog 87=some false:=by decide +kernel
@[simp] theorem sz87:tsz prog 87=some 1:=by decide +kernel
@[simp] theorem el87:zc8 prog 87=some (89,5):=by decide +kernel
@[simp] theorem by87:(prog.info? 89).map (·.bytes)=some 5:=by decide +kernel
@[simp] theorem ze87:zb1 prog 87=some [.sl0]:=by rfl
@[simp] theorem za87:(zb9 prog 87).bind pvcV=some (.sl0):=by rfl
@[simp] theorem ag89:tagg prog 89=some true:=by decide +kernel
@[simp] theorem sz89:tsz prog 89=some 5:=by decide +kernel
@[simp] theorem fd89_0:zbk prog 89 0=some (5,0,1):=by decide +kernel
@[simp] theorem fd89_1:zbk prog 89 1=some (5,1,1):=by decide +kernel
@[simp] theorem fd89_2:zbk prog 89 2=some (5,2,1):=by decide +kernel
@[simp] theorem fd89_3:zbk prog 89 3=some (5,3,1):=by decide +kernel
@[simp] theorem fd89_4:zbk prog 89 4=some (4,4,1):=by decide +kernel
@[simp] theorem ze89:zb1 prog 89=some [.int .u8 0,.int .u8 0,.int .u8 0,.int .u8 0,.bool false]:=by rfl
@[simp] theorem bu89 (l:List (Nat×PV)):zed prog 89 l=(zca (([(0,1),(1,1),(2,1),(3,1),(4,1)]:List (Nat×Nat))[·]?) [.int .u8 0,.int .u8 0,.int .u8 0,.int .u8 0,.bool false] l).map .agg:=by rfl
@[simp] theorem za89:(zb9 prog 89).bind pvcV=some (.agg [.int .u8 0,.int .u8 0,.int .u8 0,.int .u8 0,.bool false]):=by rfl
@[simp] theorem ag92:tagg prog 92=some true:=by decide +kernel
@[simp] theorem sz92:tsz prog 92=some 2:=by decide +kernel
@[simp] theorem fd92_0:zbk prog 92 0=some (25,0,1):=by decide +kernel
@[simp] theorem fd92_1:zbk prog 92 1=some (3,1,1):=by decide +kernel
@[simp] theorem ze92:zb1 prog 92=some [.sl0,.int .i64 0]:=by rfl
@[simp] theorem bu92 (l:List (Nat×PV)):zed prog 92 l=(zca (([(0,1),(1,1)]:List (Nat×Nat))[·]?) [.sl0,.int .i64 0] l).map .agg:=by rfl
@[simp] theorem za92:(zb9 prog 92).bind pvcV=some (.agg [.sl0,.int .i64 0]):=by rfl
@[simp] theorem ag99:tagg prog 99=some true:=by decide +kernel
@[simp] theorem sz99:tsz prog 99=some 2:=by decide +kernel
@[simp] theorem fd99_0:zbk prog 99 0=some (74,0,1):=by decide +kernel
@[simp] theorem fd99_1:zbk prog 99 1=some (28,1,1):=by decide +kernel
@[simp] theorem ze99:zb1 prog 99=some [.sl0,.int .i64 0]:=by rfl
@[simp] theorem bu99 (l:List (Nat×PV)):zed prog 99 l=(zca (([(0,1),(1,1)]:List (Nat×Nat))[·]?) [.sl0,.int .i64 0] l).map .agg:=by rfl
@[simp] theorem za99:(zb9 prog 99).bind pvcV=some (.agg [.sl0,.int .i64 0]):=by rfl
@[simp] theorem u105:prog.underlying 105=some (.slice 5):=by rfl
@[simp] theorem ag105:tagg prog 105=some false:=by decide +kernel
@[simp] theorem sz105:tsz prog 105=some 1:=by decide +kernel
@[simp] theorem el105:zc8 prog 105=some (5,1):=by decide +kernel
@[simp] theorem by105:(prog.info? 5).map (·.bytes)=some 1:=by decide +kernel
@[simp] theorem ze105:zb1 prog 105=some [.sl0]:=by rfl
@[simp] theorem za105:(zb9 prog 105).bind pvcV=some (.sl0):=by rfl
@[simp] theorem ag114:tagg prog 114=some true:=by decide +kernel
@[simp] theorem sz114:tsz prog 114=some 3:=by decide +kernel
@[simp] theorem xer:zbk prog 114 0=some (25,0,1):=by decide +kernel
@[simp] theorem xdh:zbk prog 114 1=some (25,1,1):=by decide +kernel
@[simp] theorem xee:zbk prog 114 2=some (28,2,1):=by decide +kernel
@[simp] theorem ze114:zb1 prog 114=some [.sl0,.sl0,.int .i64 0]:=by rfl
@[simp] theorem bu114 (l:List (Nat×PV)):zed prog 114 l=(zca (([(0,1),(1,1),(2,1)]:List (Nat×Nat))[·]?) [.sl0,.sl0,.int .i64 0] l).map .agg:=by rfl
@[simp] theorem za114:(zb9 prog 114).bind pvcV=some (.agg [.sl0,.sl0,.int .i64 0]):=by rfl
@[simp] theorem u121:prog.underlying 121=some (.slice 189):=by rfl
@[simp] theorem ag121:tagg prog 121=some false:=by decide +kernel
@[simp] theorem sz121:tsz prog 121=some 1:=by decide +kernel
@[simp] theorem el121:zc8 prog 121=some (189,3):=by decide +kernel
@[simp] theorem by121:(prog.info? 189).map (·.bytes)=some 56:=by decide +kernel
@[simp] theorem ze121:zb1 prog 121=some [.sl0]:=by rfl
@[simp] theorem za121:(zb9 prog 121).bind pvcV=some (.sl0):=by rfl
@[simp] theorem ag123:tagg prog 123=some true:=by decide +kernel
@[simp] theorem sz123:tsz prog 123=some 1:=by decide +kernel
@[simp] theorem xe9:zbk prog 123 0=some (121,0,1):=by decide +kernel
@[simp] theorem ze123:zb1 prog 123=some [.sl0]:=by rfl
@[simp] theorem bu123 (l:List (Nat×PV)):zed prog 123 l=(zca (([(0,1)]:List (Nat×Nat))[·]?) [.sl0] l).map .agg:=by rfl
@[simp] theorem za123:(zb9 prog 123).bind pvcV=some (.agg [.sl0]):=by rfl
@[simp] theorem u139:prog.underlying 139=some (.map 3 144):=by rfl
@[simp] theorem ag139:tagg prog 139=some false:=by decide +kernel
@[simp] theorem sz139:tsz prog 139=some 1:=by decide +kernel
@[simp] theorem xan:tkey prog 139=some (3,144):=by decide +kernel
@[simp] theorem ze139:zb1 prog 139=some [.map0]:=by rfl
@[simp] theorem za139:(zb9 prog 139).bind pvcV=some (.map0):=by rfl
@[simp] theorem u143:prog.underlying 143=some (.int .u32):=by rfl
@[simp] theorem ag143:tagg prog 143=some false:=by decide +kernel
@[simp] theorem sz143:tsz prog 143=some 1:=by decide +kernel
@[simp] theorem ze143:zb1 prog 143=some [.int .u32 0]:=by rfl
@[simp] theorem za143:(zb9 prog 143).bind pvcV=some (.int .u32 0):=by rfl
@[simp] theorem u144:prog.underlying 144=some (.int .u32):=by rfl
@[simp] theorem ag144:tagg prog 144=some false:=by decide +kernel
@[simp] theorem sz144:tsz prog 144=some 1:=by decide +kernel
@[simp] theorem ze144:zb1 prog 144=some [.int .u32 0]:=by rfl
@[simp] theorem za144:(zb9 prog 144).bind pvcV=some (.int .u32 0):=by rfl
@[simp] theorem u145:prog.underlying 145=some (.array 3 144):=by rfl
@[simp] theorem ag145:tagg prog 145=some true:=by decide +kernel
@[simp] theorem sz145:tsz prog 145=some 3:=by decide +kernel
@[simp] theorem ar145:tarr prog 145=some (3,144,1):=by decide +kernel
@[simp] theorem ze145:zb1 prog 145=some [.int .u32 0,.int .u32 0,.int .u32 0]:=by rfl
@[simp] theorem bu145 (l:List (Nat×PV)):zed prog 145 l=(zca (fun i=>some (i*1,1)) [.int .u32 0,.int .u32 0,.int .u32 0] l).map .agg:=by rfl
@[simp] theorem za145:(zb9 prog 145).bind pvcV=some (.agg [.int .u32 0,.int .u32 0,.int .u32 0]):=by rfl
@[simp] theorem u151:prog.underlying 151=some (.pointer 62):=by rfl
@[simp] theorem ag151:tagg prog 151=some false:=by decide +kernel
@[simp] theorem sz151:tsz prog 151=some 1:=by decide +kernel
@[simp] theorem ze151:zb1 prog 151=some [.ptr0]:=by rfl
@[simp] theorem za151:(zb9 prog 151).bind pvcV=some (.ptr0):=by rfl
@[simp] theorem u163:prog.underlying 163=some (.slice 168):=by rfl
@[simp] theorem ag163:tagg prog 163=some false:=by decide +kernel
@[simp] theorem sz163:tsz prog 163=some 1:=by decide +kernel
@[simp] theorem el163:zc8 prog 163=some (168,2):=by decide +kernel
@[simp] theorem by163:(prog.info? 168).map (·.bytes)=some 32:=by decide +kernel
@[simp] theorem ze163:zb1 prog 163=some [.sl0]:=by rfl
@[simp] theorem za163:(zb9 prog 163).bind pvcV=some (.sl0):=by rfl
@[simp] theorem ag168:tagg prog 168=some true:=by decide +kernel
@[simp] theorem sz168:tsz prog 168=some 2:=by decide +kernel
@[simp] theorem xd5:zbk prog 168 0=some (25,0,1):=by decide +kernel
@[simp] theorem xbx:zbk prog 168 1=some (3,1,1):=by decide +kernel
@[simp] theorem ze168:zb1 prog 168=some [.sl0,.int .i64 0]:=by rfl
@[simp] theorem bu168 (l:List (Nat×PV)):zed prog 168 l=(zca (([(0,1),(1,1)]:List (Nat×Nat))[·]?) [.sl0,.int .i64 0] l).map .agg:=by rfl
@[simp] theorem za168:(zb9 prog 168).bind pvcV=some (.agg [.sl0,.int .i64 0]):=by rfl
@[simp] theorem u171:prog.underlying 171=some (.map 3 4):=by rfl
@[simp] theorem ag171:tagg prog 171=some false:=by decide +kernel
@[simp] theorem sz171:tsz prog 171=some 1:=by decide +kernel
@[simp] theorem ky171:tkey prog 171=some (3,4):=by decide +kernel
@[simp] theorem ze171:zb1 prog 171=some [.map0]:=by rfl
@[simp] theorem za171:(zb9 prog 171).bind pvcV=some (.map0):=by rfl
@[simp] theorem ag173:tagg prog 173=some false:=by decide +kernel
@[simp] theorem sz173:tsz prog 173=some 1:=by decide +kernel
@[simp] theorem ze173:zb1 prog 173=some [.nilFunc]:=by rfl
@[simp] theorem za173:(zb9 prog 173).bind pvcV=some (.nilFunc):=by rfl
@[simp] theorem ag174:tagg prog 174=some false:=by decide +kernel
@[simp] theorem sz174:tsz prog 174=some 1:=by decide +kernel
@[simp] theorem ze174:zb1 prog 174=some [.nilFunc]:=by rfl
@[simp] theorem za174:(zb9 prog 174).bind pvcV=some (.nilFunc):=by rfl
@[simp] theorem ag189:tagg prog 189=some true:=by decide +kernel
@[simp] theorem sz189:tsz prog 189=some 3:=by decide +kernel
@[simp] theorem xcr:zbk prog 189 0=some (3,0,1):=by decide +kernel
@[simp] theorem xdi:zbk prog 189 1=some (25,1,1):=by decide +kernel
@[simp] theorem xdk:zbk prog 189 2=some (25,2,1):=by decide +kernel
@[simp] theorem ze189:zb1 prog 189=some [.int .i64 0,.sl0,.sl0]:=by rfl
@[simp] theorem bu189 (l:List (Nat×PV)):zed prog 189 l=(zca (([(0,1),(1,1),(2,1)]:List (Nat×Nat))[·]?) [.int .i64 0,.sl0,.sl0] l).map .agg:=by rfl
@[simp] theorem za189:(zb9 prog 189).bind pvcV=some (.agg [.int .i64 0,.sl0,.sl0]):=by rfl
@[simp] theorem u191:prog.underlying 191=some (.slice 25):=by rfl
@[simp] theorem ag191:tagg prog 191=some false:=by decide +kernel
@[simp] theorem sz191:tsz prog 191=some 1:=by decide +kernel
@[simp] theorem el191:zc8 prog 191=some (25,1):=by decide +kernel
@[simp] theorem by191:(prog.info? 25).map (·.bytes)=some 24:=by decide +kernel
@[simp] theorem ze191:zb1 prog 191=some [.sl0]:=by rfl
@[simp] theorem za191:(zb9 prog 191).bind pvcV=some (.sl0):=by rfl
@[simp] theorem u196:prog.underlying 196=some (.array 2 3):=by rfl
@[simp] theorem ag196:tagg prog 196=some true:=by decide +kernel
@[simp] theorem sz196:tsz prog 196=some 2:=by decide +kernel
@[simp] theorem ar196:tarr prog 196=some (2,3,1):=by decide +kernel
@[simp] theorem ze196:zb1 prog 196=some [.int .i64 0,.int .i64 0]:=by rfl
@[simp] theorem bu196 (l:List (Nat×PV)):zed prog 196 l=(zca (fun i=>some (i*1,1)) [.int .i64 0,.int .i64 0] l).map .agg:=by rfl
@[simp] theorem za196:(zb9 prog 196).bind pvcV=some (.agg [.int .i64 0,.int .i64 0]):=by rfl
@[simp] theorem ag199:tagg prog 199=some false:=by decide +kernel
@[simp] theorem sz199:tsz prog 199=some 1:=by decide +kernel
@[simp] theorem ze199:zb1 prog 199=some [.nilFunc]:=by rfl
@[simp] theorem za199:(zb9 prog 199).bind pvcV=some (.nilFunc):=by rfl
@[simp] theorem ag219:tagg prog 219=some false:=by decide +kernel
@[simp] theorem sz219:tsz prog 219=some 1:=by decide +kernel
@[simp] theorem ze219:zb1 prog 219=some [.nilFunc]:=by rfl
@[simp] theorem za219:(zb9 prog 219).bind pvcV=some (.nilFunc):=by rfl
@[simp] theorem u223:prog.underlying 223=some (.map 3 3):=by rfl
@[simp] theorem ag223:tagg prog 223=some false:=by decide +kernel
@[simp] theorem sz223:tsz prog 223=some 1:=by decide +kernel
@[simp] theorem ky223:tkey prog 223=some (3,3):=by decide +kernel
@[simp] theorem ze223:zb1 prog 223=some [.map0]:=by rfl
@[simp] theorem za223:(zb9 prog 223).bind pvcV=some (.map0):=by rfl
@[simp] theorem u226:prog.underlying 226=some (.int .u64):=by rfl
@[simp] theorem ag226:tagg prog 226=some false:=by decide +kernel
@[simp] theorem sz226:tsz prog 226=some 1:=by decide +kernel
@[simp] theorem ze226:zb1 prog 226=some [.int .u64 0]:=by rfl
@[simp] theorem za226:(zb9 prog 226).bind pvcV=some (.int .u64 0):=by rfl
@[simp] theorem u230:prog.underlying 230=some (.slice 171):=by rfl
@[simp] theorem ag230:tagg prog 230=some false:=by decide +kernel
@[simp] theorem sz230:tsz prog 230=some 1:=by decide +kernel
@[simp] theorem el230:zc8 prog 230=some (171,1):=by decide +kernel
@[simp] theorem by230:(prog.info? 171).map (·.bytes)=some 8:=by decide +kernel
@[simp] theorem ze230:zb1 prog 230=some [.sl0]:=by rfl
@[simp] theorem za230:(zb9 prog 230).bind pvcV=some (.sl0):=by rfl
@[simp] theorem ag231:tagg prog 231=some false:=by decide +kernel
@[simp] theorem sz231:tsz prog 231=some 1:=by decide +kernel
@[simp] theorem ze231:zb1 prog 231=some [.nilFunc]:=by rfl
@[simp] theorem za231:(zb9 prog 231).bind pvcV=some (.nilFunc):=by rfl
@[simp] theorem ag233:tagg prog 233=some false:=by decide +kernel
@[simp] theorem sz233:tsz prog 233=some 1:=by decide +kernel
@[simp] theorem ze233:zb1 prog 233=some [.nilFunc]:=by rfl
@[simp] theorem za233:(zb9 prog 233).bind pvcV=some (.nilFunc):=by rfl
@[simp] theorem u236:prog.underlying 236=some (.int .i64):=by rfl
@[simp] theorem ag236:tagg prog 236=some false:=by decide +kernel
@[simp] theorem sz236:tsz prog 236=some 1:=by decide +kernel
@[simp] theorem ze236:zb1 prog 236=some [.int .i64 0]:=by rfl
@[simp] theorem za236:(zb9 prog 236).bind pvcV=some (.int .i64 0):=by rfl
@[simp] theorem u243:prog.underlying 243=some (.int .u64):=by rfl
@[simp] theorem ag243:tagg prog 243=some false:=by decide +kernel
@[simp] theorem sz243:tsz prog 243=some 1:=by decide +kernel
@[simp] theorem ze243:zb1 prog 243=some [.int .u64 0]:=by rfl
@[simp] theorem za243:(zb9 prog 243).bind pvcV=some (.int .u64 0):=by rfl
@[simp] theorem u247:prog.underlying 247=some (.int .u64):=by rfl
@[simp] theorem ag247:tagg prog 247=some false:=by decide +kernel
@[simp] theorem sz247:tsz prog 247=some 1:=by decide +kernel
@[simp] theorem ze247:zb1 prog 247=some [.int .u64 0]:=by rfl
@[simp] theorem za247:(zb9 prog 247).bind pvcV=some (.int .u64 0):=by rfl
@[simp] theorem u251:prog.underlying 251=some (.pointer 3):=by rfl
@[simp] theorem ag251:tagg prog 251=some false:=by decide +kernel
@[simp] theorem sz251:tsz prog 251=some 1:=by decide +kernel
@[simp] theorem ze251:zb1 prog 251=some [.ptr0]:=by rfl
@[simp] theorem za251:(zb9 prog 251).bind pvcV=some (.ptr0):=by rfl
end Go.Am.Ds
end
