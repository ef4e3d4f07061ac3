/-
 What is used in the proof of a statement (part DsT); no condition.
-/
import Derived.Test.YtnablaecbohhmaaGreatProg
import Derived.Test.YtnablaecbohhmaaGreatAm2
import Derived.Test.YtnablaecbohhmaaGreatAm3
import Derived.Test.YtnablaecbohhmaaGreatVm1
set_option linter.all false
set_option maxHeartbeats 40000000
set_option maxRecDepth 100000
section
namespace Go.Am.Ds
open Go Go.Am Go.Proofs Tryz
def so (a n:Nat):List zfn:=(List.range' a n).map .op
def dd22:List (Nat×DD):=[]
theorem ok22:FEOK prog (22,feOf f22 dd22):=⟨func22,rfl,by decide +kernel,call22⟩
def dd23:List (Nat×DD):=[]
theorem ok23:FEOK prog (23,feOf f23 dd23):=⟨func23,rfl,by decide +kernel,call23⟩
def dd24:List (Nat×DD):=[(10,⟨[0,0,0,0,8,28,0,0,128,508,0,0,2048,8188,16383,32767,65535,131071],[5,9,13,15],[],(so 0 5++[.op 6,.op 7,.op 8,.op 10,.op 11,.op 12,.op 5,.ck 12,.ck 8,.op 9,.ck 12]++so 13 5)⟩)]
theorem ok24:FEOK prog (24,feOf f24 dd24):=⟨func24,rfl,by decide +kernel,call24⟩
def dd28:List (Nat×DD):=[]
theorem ok28:FEOK prog (28,feOf f28 dd28):=⟨func28,rfl,by decide +kernel,call28⟩
def dd30:List (Nat×DD):=[(8,⟨[0,0,2,0,14,30,63],[6],[],so 0 7⟩)]
theorem ok30:FEOK prog (30,feOf f30 dd30):=⟨func30,rfl,by decide +kernel,call30⟩
def dd32:List (Nat×DD):=[(10,⟨[0,0,3,7,0,0,0,64,231,503,1015,2039,4095,8191,16383],[2,8],[],([.op 0,.op 1]++so 4 4++[.op 2,.ck 7,.ck 5,.op 3,.op 8,.ck 3]++so 9 6)⟩)]
theorem ok32:FEOK prog (32,feOf f32 dd32):=⟨func32,rfl,by decide +kernel,call32⟩
def dd34:List (Nat×DD):=[(6,⟨[0,0,3,7,0,0,48,112,255],[],[],so 0 9⟩)]
theorem ok34:FEOK prog (34,feOf f34 dd34):=⟨func34,rfl,by decide +kernel,call34⟩
def dd35:List (Nat×DD):=[]
theorem ok35:FEOK prog (35,feOf f35 dd35):=⟨func35,rfl,by decide +kernel,call35⟩
def dd36:List (Nat×DD):=[]
theorem ok36:FEOK prog (36,feOf f36 dd36):=⟨func36,rfl,by decide +kernel,call36⟩
def dd42:List (Nat×DD):=[]
theorem ok42:FEOK prog (42,feOf f42 dd42):=⟨func42,rfl,by decide +kernel,call42⟩
def dd44:List (Nat×DD):=[]
theorem ok44:FEOK prog (44,feOf f44 dd44):=⟨func44,rfl,by decide +kernel,call44⟩
def dd52:List (Nat×DD):=[(12,⟨[0,1,0,7,15,31,0,64,0,448,960,1984,4095],[],[],so 0 13⟩)]
theorem ok52:FEOK prog (52,feOf f52 dd52):=⟨func52,rfl,by decide +kernel,call52⟩
def dd55:List (Nat×DD):=[]
theorem ok55:FEOK prog (55,feOf f55 dd55):=⟨func55,rfl,by decide +kernel,call55⟩
def dd63:List (Nat×DD):=[(8,⟨[0,1,0,4,12,28,60,127,255,511],[6,7,9],[],(so 0 7++[.ck 1,.op 7,.op 8,.op 9])⟩)]
theorem ok63:FEOK prog (63,feOf f63 dd63):=⟨func63,rfl,by decide +kernel,call63⟩
def dd65:List (Nat×DD):=[(6,⟨[0,0,3,7,0,0,48,112,255],[],[],so 0 9⟩)]
theorem ok65:FEOK prog (65,feOf f65 dd65):=⟨func65,rfl,by decide +kernel,call65⟩
def dd66:List (Nat×DD):=[]
theorem ok66:FEOK prog (66,feOf f66 dd66):=⟨func66,rfl,by decide +kernel,call66⟩
def dd67:List (Nat×DD):=[]
theorem ok67:FEOK prog (67,feOf f67 dd67):=⟨func67,rfl,by decide +kernel,call67⟩
def dd81:List (Nat×DD):=[]
theorem ok81:FEOK prog (81,feOf f81 dd81):=⟨func81,rfl,by decide +kernel,call81⟩
def dd82:List (Nat×DD):=[]
theorem ok82:FEOK prog (82,feOf f82 dd82):=⟨func82,rfl,by decide +kernel,call82⟩
def dd85:List (Nat×DD):=[]
theorem ok85:FEOK prog (85,feOf f85 dd85):=⟨func85,rfl,by decide +kernel,call85⟩
def dd92:List (Nat×DD):=[]
theorem ok92:FEOK prog (92,feOf f92 dd92):=⟨func92,rfl,by decide +kernel,call92⟩
def dd93:List (Nat×DD):=[]
theorem ok93:FEOK prog (93,feOf f93 dd93):=⟨func93,rfl,by decide +kernel,call93⟩
def dd94:List (Nat×DD):=[(9,⟨[0,0,3,0,8,31,63],[6],[],so 0 7⟩)]
theorem ok94:FEOK prog (94,feOf f94 dd94):=⟨func94,rfl,by decide +kernel,call94⟩
def dd95:List (Nat×DD):=[]
theorem ok95:FEOK prog (95,feOf f95 dd95):=⟨func95,rfl,by decide +kernel,call95⟩
def dd96:List (Nat×DD):=[(2,⟨[0,0,2,6,14,30,62,126,254,510,1022,2046,4094,8190,1023,32767],[14],[],(so 0 15++[.ck 11,.op 15])⟩)]
theorem ok96:FEOK prog (96,feOf f96 dd96):=⟨func96,rfl,by decide +kernel,call96⟩
def dd97:List (Nat×DD):=[]
theorem ok97:FEOK prog (97,feOf f97 dd97):=⟨func97,rfl,by decide +kernel,call97⟩
def dd98:List (Nat×DD):=[]
theorem ok98:FEOK prog (98,feOf f98 dd98):=⟨func98,rfl,by decide +kernel,call98⟩
def dd99:List (Nat×DD):=[]
theorem ok99:FEOK prog (99,feOf f99 dd99):=⟨func99,rfl,by decide +kernel,call99⟩
def xb9:List (Nat×DD):=[(4,⟨[0,0,2,7,0,0,32,127,255,511],[3,7],[],[.op 0,.op 1,.op 2,.op 4,.op 5,.op 6,.op 3,.ck 6,.ck 4,.op 7,.op 8,.op 9]⟩),(9,⟨[0,1,0,7,15,0,32,0,224,31,1023,2047],[9],[],(so 0 10++[.ck 6,.op 10,.op 11])⟩)]
theorem xgm:FEOK prog (100,feOf f100 xb9):=⟨func100,rfl,by decide +kernel,call100⟩
def xdw:List (Nat×DD):=[(6,⟨[0,1,3,7,15,0,32,96,255],[],[],so 0 9⟩)]
theorem xg6:FEOK prog (101,feOf f101 xdw):=⟨func101,rfl,by decide +kernel,call101⟩
def xcr:List (Nat×DD):=[]
theorem xgw:FEOK prog (105,feOf f105 xcr):=⟨func105,rfl,by decide +kernel,call105⟩
def xca:List (Nat×DD):=[]
theorem xhk:FEOK prog (106,feOf f106 xca):=⟨func106,rfl,by decide +kernel,call106⟩
def xdn:List (Nat×DD):=[]
theorem xi4:FEOK prog (108,feOf f108 xdn):=⟨func108,rfl,by decide +kernel,call108⟩
def xb5:List (Nat×DD):=[]
theorem xgz:FEOK prog (109,feOf f109 xb5):=⟨func109,rfl,by decide +kernel,call109⟩
def xem:List (Nat×DD):=[]
theorem xfw:FEOK prog (113,feOf f113 xem):=⟨func113,rfl,by decide +kernel,call113⟩
def xe3:List (Nat×DD):=[]
theorem xhl:FEOK prog (114,feOf f114 xe3):=⟨func114,rfl,by decide +kernel,call114⟩
def xc2:List (Nat×DD):=[]
theorem xgc:FEOK prog (115,feOf f115 xc2):=⟨func115,rfl,by decide +kernel,call115⟩
def xfc:List (Nat×DD):=[]
theorem xhw:FEOK prog (116,feOf f116 xfc):=⟨func116,rfl,by decide +kernel,call116⟩
def xfg:List (Nat×DD):=[(6,⟨[0,1,3,0,8,31,0,64,255,223,1023,2047,4095,8191,16383],[2,5,8,10,12,14],[],([.op 0,.op 1,.op 3,.op 4,.op 6,.op 7,.op 2,.ck 7,.ck 4,.op 9,.op 5,.ck 7,.op 8]++so 10 5)⟩)]
theorem xja:FEOK prog (117,feOf f117 xfg):=⟨func117,rfl,by decide +kernel,call117⟩
def xc4:List (Nat×DD):=[]
theorem xfy:FEOK prog (118,feOf f118 xc4):=⟨func118,rfl,by decide +kernel,call118⟩
def xeu:List (Nat×DD):=[]
theorem xiy:FEOK prog (120,feOf f120 xeu):=⟨func120,rfl,by decide +kernel,call120⟩
def xdo:List (Nat×DD):=[]
theorem xhc:FEOK prog (121,feOf f121 xdo):=⟨func121,rfl,by decide +kernel,call121⟩
def xcm:List (Nat×DD):=[]
theorem xh8:FEOK prog (122,feOf f122 xcm):=⟨func122,rfl,by decide +kernel,call122⟩
def xcy:List (Nat×DD):=[]
theorem xjb:FEOK prog (123,feOf f123 xcy):=⟨func123,rfl,by decide +kernel,call123⟩
def xb4:List (Nat×DD):=[]
theorem xih:FEOK prog (125,feOf f125 xb4):=⟨func125,rfl,by decide +kernel,call125⟩
def xdz:List (Nat×DD):=[]
theorem xg4:FEOK prog (126,feOf f126 xdz):=⟨func126,rfl,by decide +kernel,call126⟩
def xds:List (Nat×DD):=[]
theorem xim:FEOK prog (127,feOf f127 xds):=⟨func127,rfl,by decide +kernel,call127⟩
def xb1:List (Nat×DD):=[(16,⟨[0,1,0,4,0,28,60,127,255],[7],[],so 0 9⟩)]
theorem xgy:FEOK prog (130,feOf f130 xb1):=⟨func130,rfl,by decide +kernel,call130⟩
def xef:List (Nat×DD):=[]
theorem xi6:FEOK prog (134,feOf f134 xef):=⟨func134,rfl,by decide +kernel,call134⟩
def xa9:List (Nat×DD):=[(10,⟨[0,1,0,7,15,0,0,96,255,0,1023],[7,8,10],[],(so 0 7++[.op 9,.op 7,.ck 4,.ck 1,.op 8,.op 10])⟩)]
theorem xhs:FEOK prog (140,feOf f140 xa9):=⟨func140,rfl,by decide +kernel,call140⟩
def xbd:List (Nat×DD):=[]
theorem xfu:FEOK prog (144,feOf f144 xbd):=⟨func144,rfl,by decide +kernel,call144⟩
def xcu:List (Nat×DD):=[(6,⟨[0,0,0,6,15,0,32,127,0,0,768,2047,4095],[0,4,7,11],[6],[.op 1,.op 2,.op 3,.op 5,.op 6,.op 8,.op 9,.op 10,.op 0,.op 4,.op 7,.op 11,.op 12]⟩)]
theorem xh5:FEOK prog (147,feOf f147 xcu):=⟨func147,rfl,by decide +kernel,call147⟩
def xco:List (Nat×DD):=[(22,⟨[0,1,0,7,15,31,0,64,192,448,1023],[7,8,9,10],[],(so 0 8++[.ck 5,.ck 1,.op 8,.ck 5,.ck 1,.op 9,.ck 5,.ck 1,.op 10])⟩)]
theorem xi1:FEOK prog (148,feOf f148 xco):=⟨func148,rfl,by decide +kernel,call148⟩
def xew:List (Nat×DD):=[]
theorem xib:FEOK prog (150,feOf f150 xew):=⟨func150,rfl,by decide +kernel,call150⟩
def xci:List (Nat×DD):=[(15,⟨[0,0,0,6,14,31,63],[5],[],so 0 7⟩)]
theorem xiu:FEOK prog (152,feOf f152 xci):=⟨func152,rfl,by decide +kernel,call152⟩
def xfj:List (Nat×DD):=[]
theorem xg2:FEOK prog (158,feOf f158 xfj):=⟨func158,rfl,by decide +kernel,call158⟩
def xdm:List (Nat×DD):=[]
theorem xjc:FEOK prog (159,feOf f159 xdm):=⟨func159,rfl,by decide +kernel,call159⟩
def xcw:List (Nat×DD):=[]
theorem xgd:FEOK prog (160,feOf f160 xcw):=⟨func160,rfl,by decide +kernel,call160⟩
def xcn:List (Nat×DD):=[]
theorem xiz:FEOK prog (161,feOf f161 xcn):=⟨func161,rfl,by decide +kernel,call161⟩
def xby:List (Nat×DD):=[]
theorem xhq:FEOK prog (162,feOf f162 xby):=⟨func162,rfl,by decide +kernel,call162⟩
def xff:List (Nat×DD):=[]
theorem xfz:FEOK prog (163,feOf f163 xff):=⟨func163,rfl,by decide +kernel,call163⟩
def xdg:List (Nat×DD):=[]
theorem xgx:FEOK prog (164,feOf f164 xdg):=⟨func164,rfl,by decide +kernel,call164⟩
def xe6:List (Nat×DD):=[]
theorem xi7:FEOK prog (165,feOf f165 xe6):=⟨func165,rfl,by decide +kernel,call165⟩
def xb0:List (Nat×DD):=[(5,⟨[0,1,0,0,12,31,63,0,255],[4,8],[7],(so 0 4++[.op 7,.op 4,.ck 1,.op 5,.op 6,.op 8])⟩)]
theorem xir:FEOK prog (166,feOf f166 xb0):=⟨func166,rfl,by decide +kernel,call166⟩
def xd2:List (Nat×DD):=[]
theorem xfs:FEOK prog (167,feOf f167 xd2):=⟨func167,rfl,by decide +kernel,call167⟩
def xbv:List (Nat×DD):=[]
theorem xh6:FEOK prog (168,feOf f168 xbv):=⟨func168,rfl,by decide +kernel,call168⟩
def xdy:List (Nat×DD):=[]
theorem xh7:FEOK prog (169,feOf f169 xdy):=⟨func169,rfl,by decide +kernel,call169⟩
def xd7:List (Nat×DD):=[]
theorem xhb:FEOK prog (170,feOf f170 xd7):=⟨func170,rfl,by decide +kernel,call170⟩
def xc9:List (Nat×DD):=[(5,⟨[0,1,3,7,15,31,63,63,255,511,63,63,2111,6207,15423,31807,65535,131071,262143],[],[],so 0 19⟩)]
theorem xhj:FEOK prog (172,feOf f172 xc9):=⟨func172,rfl,by decide +kernel,call172⟩
def xe9:List (Nat×DD):=[]
theorem xg8:FEOK prog (173,feOf f173 xe9):=⟨func173,rfl,by decide +kernel,call173⟩
def xdd:List (Nat×DD):=[]
theorem xig:FEOK prog (175,feOf f175 xdd):=⟨func175,rfl,by decide +kernel,call175⟩
def xbw:List (Nat×DD):=[]
theorem xgb:FEOK prog (176,feOf f176 xbw):=⟨func176,rfl,by decide +kernel,call176⟩
def xck:List (Nat×DD):=[]
theorem xh3:FEOK prog (178,feOf f178 xck):=⟨func178,rfl,by decide +kernel,call178⟩
def xbj:List (Nat×DD):=[]
theorem xgs:FEOK prog (179,feOf f179 xbj):=⟨func179,rfl,by decide +kernel,call179⟩
def xcl:List (Nat×DD):=[]
theorem xgl:FEOK prog (180,feOf f180 xcl):=⟨func180,rfl,by decide +kernel,call180⟩
def xbo:List (Nat×DD):=[(6,⟨[0,0,3,7,0,0,48,112,255],[],[],so 0 9⟩)]
theorem xgt:FEOK prog (181,feOf f181 xbo):=⟨func181,rfl,by decide +kernel,call181⟩
def xcz:List (Nat×DD):=[]
theorem xiw:FEOK prog (182,feOf f182 xcz):=⟨func182,rfl,by decide +kernel,call182⟩
def xd6:List (Nat×DD):=[]
theorem xg3:FEOK prog (183,feOf f183 xd6):=⟨func183,rfl,by decide +kernel,call183⟩
def xdk:List (Nat×DD):=[]
theorem xhf:FEOK prog (184,feOf f184 xdk):=⟨func184,rfl,by decide +kernel,call184⟩
def xfi:List (Nat×DD):=[]
theorem xhx:FEOK prog (185,feOf f185 xfi):=⟨func185,rfl,by decide +kernel,call185⟩
def xei:List (Nat×DD):=[(3,⟨[0,1,0,0,8,28,63,127],[5,6],[],(so 0 6++[.ck 1,.op 6,.op 7])⟩)]
theorem xf8:FEOK prog (187,feOf f187 xei):=⟨func187,rfl,by decide +kernel,call187⟩
def xdx:List (Nat×DD):=[(6,⟨[0,1,0,4,0,28,60,124,255,511,1023,0,4095,8191],[12],[],so 0 14⟩)]
theorem xgh:FEOK prog (188,feOf f188 xdx):=⟨func188,rfl,by decide +kernel,call188⟩
def xb2:List (Nat×DD):=[]
theorem xha:FEOK prog (189,feOf f189 xb2):=⟨func189,rfl,by decide +kernel,call189⟩
def xbk:List (Nat×DD):=[(17,⟨[0,1,3,7,7,23,63,127,7,7,775,1799,4095,8191,16383],[12],[],so 0 15⟩)]
theorem xf1:FEOK prog (195,feOf f195 xbk):=⟨func195,rfl,by decide +kernel,call195⟩
def xb6:List (Nat×DD):=[]
theorem xic:FEOK prog (196,feOf f196 xb6):=⟨func196,rfl,by decide +kernel,call196⟩
def xd9:List (Nat×DD):=[]
theorem xga:FEOK prog (197,feOf f197 xd9):=⟨func197,rfl,by decide +kernel,call197⟩
def xe1:List (Nat×DD):=[]
theorem xia:FEOK prog (198,feOf f198 xe1):=⟨func198,rfl,by decide +kernel,call198⟩
def xcx:List (Nat×DD):=[]
theorem xiv:FEOK prog (199,feOf f199 xcx):=⟨func199,rfl,by decide +kernel,call199⟩
def xfd:List (Nat×DD):=[]
theorem xhd:FEOK prog (201,feOf f201 xfd):=⟨func201,rfl,by decide +kernel,call201⟩
def xex:List (Nat×DD):=[]
theorem xhn:FEOK prog (202,feOf f202 xex):=⟨func202,rfl,by decide +kernel,call202⟩
def xbr:List (Nat×DD):=[]
theorem xit:FEOK prog (203,feOf f203 xbr):=⟨func203,rfl,by decide +kernel,call203⟩
def xcf:List (Nat×DD):=[]
theorem xhm:FEOK prog (204,feOf f204 xcf):=⟨func204,rfl,by decide +kernel,call204⟩
def xe4:List (Nat×DD):=[]
theorem xh1:FEOK prog (205,feOf f205 xe4):=⟨func205,rfl,by decide +kernel,call205⟩
def xdp:List (Nat×DD):=[(4,⟨[0,0,3,7,15,15,63,127,15,15,527,1807,3855,8191,16383],[13],[],so 0 15⟩),(6,⟨[0,0,0,0,8,0,0,64,224,480,0,0,3072,7168,16355,32739,65535,131071],[15,17],[],so 0 18⟩)]
theorem xf2:FEOK prog (207,feOf f207 xdp):=⟨func207,rfl,by decide +kernel,call207⟩
def xer:List (Nat×DD):=[(10,⟨[0,0,0,0,0,24,0,0,0,384,960,1984,0,0,12288,28672,65475,131011,262143,524287],[17,19],[],so 0 20⟩)]
theorem xhg:FEOK prog (208,feOf f208 xer):=⟨func208,rfl,by decide +kernel,call208⟩
def xc5:List (Nat×DD):=[(10,⟨[0,0,0,0,0,24,0,0,0,384,960,1984,0,0,12288,28672,65475,131011,262143,524287],[17,19],[],so 0 20⟩)]
theorem xhy:FEOK prog (209,feOf f209 xc5):=⟨func209,rfl,by decide +kernel,call209⟩
def xel:List (Nat×DD):=[]
theorem xgu:FEOK prog (210,feOf f210 xel):=⟨func210,rfl,by decide +kernel,call210⟩
def xbq:List (Nat×DD):=[(3,⟨[0,0,0,0,0,0,48,112,0,0,768,1792,4083,8179,16383,32767],[13,15],[],so 0 16⟩)]
theorem xi5:FEOK prog (211,feOf f211 xbq):=⟨func211,rfl,by decide +kernel,call211⟩
def xa8:List (Nat×DD):=[(5,⟨[0,0,3,7,15,15,63,127,15,15,527,1807,3855,8191,16383,32767],[13],[],so 0 16⟩),(11,⟨[0,0,0,0,8,0,0,64,224,480,0,0,3072,7168,16355,32739,65535,131071],[15,17],[],so 0 18⟩),(16,⟨[0,0,3,7,0,0,32,112,240,511,1023],[9],[],so 0 11⟩),(17,⟨[0,0,0,0,8,0,0,64,224,480,0,0,3072,7168,16355,32739,65535,131071],[15,17],[],so 0 18⟩),(22,⟨[0,0,3,7,0,0,32,112,240,511,1023],[9],[],so 0 11⟩),(23,⟨[0,0,0,0,8,0,0,64,224,480,0,0,3072,7168,16355,32739,65535,131071],[15,17],[],so 0 18⟩)]
theorem xgo:FEOK prog (212,feOf f212 xa8):=⟨func212,rfl,by decide +kernel,call212⟩
def xdf:List (Nat×DD):=[(1,⟨[0,0,0,0,0,0,48,112,0,0,768,1792,4083,8179,16383,32767],[13,15],[],so 0 16⟩),(3,⟨[0,0,3,7,15,15,63,127,15,15,783,1807,4095,8191,16383],[12],[],so 0 15⟩),(5,⟨[0,0,3,7,15,15,63,127,15,15,783,1807,4095,8191],[12],[],so 0 14⟩),(8,⟨[0,0,0,0,0,0,48,112,0,0,768,1792,4083,8179,16383,32767],[13,15],[],so 0 16⟩)]
theorem xfr:FEOK prog (213,feOf f213 xdf):=⟨func213,rfl,by decide +kernel,call213⟩
def xd1:List (Nat×DD):=[(1,⟨[0,0,0,0,0,0,48,112,0,0,768,1792,4083,8179,16383,32767],[13,15],[],so 0 16⟩),(3,⟨[0,0,3,7,15,15,63,127,15,15,783,1807,4095,8191],[12],[],so 0 14⟩),(5,⟨[0,0,3,7,15,15,63,127,15,15,783,1807,4095,8191,16383],[12],[],so 0 15⟩),(8,⟨[0,0,0,0,0,0,48,112,0,0,768,1792,4083,8179,16383,32767],[13,15],[],so 0 16⟩),(10,⟨[0,0,0,0,0,0,48,112,0,0,768,1792,4083,8179,16383,32767],[13,15],[],so 0 16⟩),(13,⟨[0,0,3,7,15,15,63,127,15,15,783,1807,4095,8191],[12],[],so 0 14⟩),(15,⟨[0,0,3,7,15,15,63,127,15,15,783,1807,4095,8191,16383],[12],[],so 0 15⟩),(18,⟨[0,0,0,0,0,0,48,112,0,0,768,1792,4083,8179,16383,32767],[13,15],[],so 0 16⟩),(21,⟨[0,0,0,0,0,0,48,112,0,0,768,1792,4083,8179,16383,32767],[13,15],[],so 0 16⟩)]
theorem xf5:FEOK prog (214,feOf f214 xd1):=⟨func214,rfl,by decide +kernel,call214⟩
def xdq:List (Nat×DD):=[]
theorem xil:FEOK prog (215,feOf f215 xdq):=⟨func215,rfl,by decide +kernel,call215⟩
def xey:List (Nat×DD):=[]
theorem xij:FEOK prog (216,feOf f216 xey):=⟨func216,rfl,by decide +kernel,call216⟩
def xee:List (Nat×DD):=[]
theorem xip:FEOK prog (217,feOf f217 xee):=⟨func217,rfl,by decide +kernel,call217⟩
def xdr:List (Nat×DD):=[(4,⟨[0,0,3,7,15,15,15,111,239,15,15,1039,3599,7695,16383,32767,65535],[14],[],so 0 17⟩),(6,⟨[0,0,0,0,8,0,0,64,224,480,0,0,3072,7168,16355,32739,65535,131071],[15,17],[],so 0 18⟩)]
theorem xg7:FEOK prog (218,feOf f218 xdr):=⟨func218,rfl,by decide +kernel,call218⟩
def xbz:List (Nat×DD):=[(5,⟨[0,0,0,6,14,0,0,96,224,511,1023],[9],[],so 0 11⟩),(11,⟨[0,0,0,0,8,0,0,64,224,480,0,0,3072,7168,16355,32739,65535,131071],[15,17],[],so 0 18⟩),(17,⟨[0,0,0,6,14,0,0,96,224,511,1023,2047],[9],[],so 0 12⟩),(23,⟨[0,0,0,0,8,0,0,64,224,480,0,0,3072,7168,16355,32739,65535,131071],[15,17],[],so 0 18⟩),(35,⟨[0,0,0,0,12,30,62,0,0,384,896,2047,4095,8191],[11],[],so 0 14⟩)]
theorem xg5:FEOK prog (219,feOf f219 xbz):=⟨func219,rfl,by decide +kernel,call219⟩
def xep:List (Nat×DD):=[]
theorem xh2:FEOK prog (220,feOf f220 xep):=⟨func220,rfl,by decide +kernel,call220⟩
def xfa:List (Nat×DD):=[(3,⟨[0,1,0,7,15,31,31,31,223,511,1023,31,31,31,12319,28703,63519,129055,262143,524287],[18],[],so 0 20⟩),(5,⟨[0,0,0,6,15,31,0,0,0,384,960,1984,4095,8191],[12],[],so 0 14⟩),(6,⟨[0,0,0,6,0,0,0,96,0,0,0,1536,3840,7936,0,0,0,98304,245760,507904,1048335,2096911,4194303,8388607],[21,23],[],so 0 24⟩)]
theorem xhh:FEOK prog (221,feOf f221 xfa):=⟨func221,rfl,by decide +kernel,call221⟩
def xdt:List (Nat×DD):=[]
theorem xgq:FEOK prog (222,feOf f222 xdt):=⟨func222,rfl,by decide +kernel,call222⟩
def xcv:List (Nat×DD):=[(1,⟨[0,1,3,0,8,24,56,127,255,511],[9],[],so 0 10⟩),(2,⟨[0,1,3,0,8,24,56,127,255,511],[9],[],so 0 10⟩),(3,⟨[0,1,3,0,8,24,56,127,255,511],[9],[],so 0 10⟩)]
theorem xg9:FEOK prog (223,feOf f223 xcv):=⟨func223,rfl,by decide +kernel,call223⟩
def xeg:List (Nat×DD):=[]
theorem xge:FEOK prog (224,feOf f224 xeg):=⟨func224,rfl,by decide +kernel,call224⟩
def xd5:List (Nat×DD):=[]
theorem xf7:FEOK prog (225,feOf f225 xd5):=⟨func225,rfl,by decide +kernel,call225⟩
def xdb:List (Nat×DD):=[]
theorem xi0:FEOK prog (226,feOf f226 xdb):=⟨func226,rfl,by decide +kernel,call226⟩
def xc6:List (Nat×DD):=[(1,⟨[0,0,3,7,0,0,48,112,255],[8],[],so 0 9⟩)]
theorem xht:FEOK prog (227,feOf f227 xc6):=⟨func227,rfl,by decide +kernel,call227⟩
def xbb:List (Nat×DD):=[(3,⟨[0,0,0,6,0,0,0,96,0,0,0,1536,3840,7936,0,0,0,98304,245760,507904,1048335,2096911,4194303,8388607],[21,23],[],so 0 24⟩)]
theorem xhv:FEOK prog (228,feOf f228 xbb):=⟨func228,rfl,by decide +kernel,call228⟩
noncomputable def tabL:List (Nat×FE):=[(22,feOf f22 dd22),(23,feOf f23 dd23),(24,feOf f24 dd24),(28,feOf f28 dd28),(30,feOf f30 dd30),(32,feOf f32 dd32),(34,feOf f34 dd34),(35,feOf f35 dd35),(36,feOf f36 dd36),(42,feOf f42 dd42),(44,feOf f44 dd44),(52,feOf f52 dd52),(55,feOf f55 dd55),(63,feOf f63 dd63),(65,feOf f65 dd65),(66,feOf f66 dd66),(67,feOf f67 dd67),(81,feOf f81 dd81),(82,feOf f82 dd82),(85,feOf f85 dd85),(92,feOf f92 dd92),(93,feOf f93 dd93),(94,feOf f94 dd94),(95,feOf f95 dd95),(96,feOf f96 dd96),(97,feOf f97 dd97),(98,feOf f98 dd98),(99,feOf f99 dd99),(100,feOf f100 xb9),(101,feOf f101 xdw),(105,feOf f105 xcr),(106,feOf f106 xca),(108,feOf f108 xdn),(109,feOf f109 xb5),(113,feOf f113 xem),(114,feOf f114 xe3),(115,feOf f115 xc2),(116,feOf f116 xfc),(117,feOf f117 xfg),(118,feOf f118 xc4),(120,feOf f120 xeu),(121,feOf f121 xdo),(122,feOf f122 xcm),(123,feOf f123 xcy),(125,feOf f125 xb4),(126,feOf f126 xdz),(127,feOf f127 xds),(130,feOf f130 xb1),(134,feOf f134 xef),(140,feOf f140 xa9),(144,feOf f144 xbd),(147,feOf f147 xcu),(148,feOf f148 xco),(150,feOf f150 xew),(152,feOf f152 xci),(158,feOf f158 xfj),(159,feOf f159 xdm),(160,feOf f160 xcw),(161,feOf f161 xcn),(162,feOf f162 xby),(163,feOf f163 xff),(164,feOf f164 xdg),(165,feOf f165 xe6),(166,feOf f166 xb0),(167,feOf f167 xd2),(168,feOf f168 xbv),(169,feOf f169 xdy),(170,feOf f170 xd7),(172,feOf f172 xc9),(173,feOf f173 xe9),(175,feOf f175 xdd),(176,feOf f176 xbw),(178,feOf f178 xck),(179,feOf f179 xbj),(180,feOf f180 xcl),(181,feOf f181 xbo),(182,feOf f182 xcz),(183,feOf f183 xd6),(184,feOf f184 xdk),(185,feOf f185 xfi),(187,feOf f187 xei),(188,feOf f188 xdx),(189,feOf f189 xb2),(195,feOf f195 xbk),(196,feOf f196 xb6),(197,feOf f197 xd9),(198,feOf f198 xe1),(199,feOf f199 xcx),(201,feOf f201 xfd),(202,feOf f202 xex),(203,feOf f203 xbr),(204,feOf f204 xcf),(205,feOf f205 xe4),(207,feOf f207 xdp),(208,feOf f208 xer),(209,feOf f209 xc5),(210,feOf f210 xel),(211,feOf f211 xbq),(212,feOf f212 xa8),(213,feOf f213 xdf),(214,feOf f214 xd1),(215,feOf f215 xdq),(216,feOf f216 xey),(217,feOf f217 xee),(218,feOf f218 xdr),(219,feOf f219 xbz),(220,feOf f220 xep),(221,feOf f221 xfa),(222,feOf f222 xdt),(223,feOf f223 xcv),(224,feOf f224 xeg),(225,feOf f225 xd5),(226,feOf f226 xdb),(227,feOf f227 xc6),(228,feOf f228 xbb)]
theorem zzz:∀p∈tabL,FEOK prog p:=zaf ok22 (zaf ok23 (zaf ok24 (zaf ok28 (zaf ok30 (zaf ok32 (zaf ok34 (zaf ok35 (zaf ok36 (zaf ok42 (zaf ok44 (zaf ok52 (zaf ok55 (zaf ok63 (zaf ok65 (zaf ok66 (zaf ok67 (zaf ok81 (zaf ok82 (zaf ok85 (zaf ok92 (zaf ok93 (zaf ok94 (zaf ok95 (zaf ok96 (zaf ok97 (zaf ok98 (zaf ok99 (zaf xgm (zaf xg6 (zaf xgw (zaf xhk (zaf xi4 (zaf xgz (zaf xfw (zaf xhl (zaf xgc (zaf xhw (zaf xja (zaf xfy (zaf xiy (zaf xhc (zaf xh8 (zaf xjb (zaf xih (zaf xg4 (zaf xim (zaf xgy (zaf xi6 (zaf xhs (zaf xfu (zaf xh5 (zaf xi1 (zaf xib (zaf xiu (zaf xg2 (zaf xjc (zaf xgd (zaf xiz (zaf xhq (zaf xfz (zaf xgx (zaf xi7 (zaf xir (zaf xfs (zaf xh6 (zaf xh7 (zaf xhb (zaf xhj (zaf xg8 (zaf xig (zaf xgb (zaf xh3 (zaf xgs (zaf xgl (zaf xgt (zaf xiw (zaf xg3 (zaf xhf (zaf xhx (zaf xf8 (zaf xgh (zaf xha (zaf xf1 (zaf xic (zaf xga (zaf xia (zaf xiv (zaf xhd (zaf xhn (zaf xit (zaf xhm (zaf xh1 (zaf xf2 (zaf xhg (zaf xhy (zaf xgu (zaf xi5 (zaf xgo (zaf xfr (zaf xf5 (zaf xil (zaf xij (zaf xip (zaf xg7 (zaf xg5 (zaf xh2 (zaf xhh (zaf xgq (zaf xg9 (zaf xge (zaf xf7 (zaf xi0 (zaf xht (zaf xhv z6g))))))))))))))))))))))))))))))))))))))))))))))))))))))))))))))))))))))))))))))))))))))))))))))))))))))))))))))))))
end Go.Am.Ds
end
section
namespace Go.Am.Ds
open Go Go.Am Go.Proofs Tryz Go.Shelf
def zzw:Ren where
  f := fun x => match x with
    |5=>159
    |8=>196
    |7=>195
    |19=>215
    |20=>216
    |10=>207
    |11=>208
    |12=>209
    |13=>210
    |14=>211
    |15=>212
    |16=>198
    |17=>213
    |18=>214
    |30=>221
    |31=>222
    |32=>223
    |33=>224
    |34=>225
    |35=>217
    |40=>227
    |n=>n
  t := fun x => match x with
    |23=>25
    |25=>3
    |3=>3
    |32=>226
    |22=>25
    |0=>0
    |44=>143
    |46=>243
    |4=>4
    |36=>237
    |35=>236
    |41=>110
    |5=>5
    |9=>9
    |53=>247
    |57=>251
    |63=>253
    |64=>154
    |n=>n
  g:=fun n=>n
theorem z5n:SlLaysM.n5 prog zzw where
  mixed:=rfl
  f5:=⟨ "slices.Sort[[]int,int]", by decide,func159⟩
  f7:=⟨ "slices.pdqsortOrdered[int]", by decide,func195⟩
  f8:=func196
  f10:=⟨ "slices.insertionSortOrdered[int]", by decide,func207⟩
  f11:=⟨ "slices.heapSortOrdered[int]", by decide,func208⟩
  f12:=⟨ "slices.breakPatternsOrdered[int]", by decide,func209⟩
  f13:=⟨ "slices.choosePivotOrdered[int]", by decide,func210⟩
  f14:=⟨ "slices.reverseRangeOrdered[int]", by decide,func211⟩
  f15:=⟨ "slices.partialInsertionSortOrdered[int]", by decide,func212⟩
  f16:=⟨ "cmp.Less[int]", by decide,func198⟩
  f17:=⟨ "slices.partitionEqualOrdered[int]", by decide,func213⟩
  f18:=⟨ "slices.partitionOrdered[int]", by decide,func214⟩
  f19:=func215
  f20:=func216
  f30:=⟨ "slices.siftDownOrdered[int]", by decide,func221⟩
  f31:=func222
  f32:=func223
  f33:=⟨ "slices.medianAdjacentOrdered[int]", by decide,func224⟩
  f34:=⟨ "slices.medianOrdered[int]", by decide,func225⟩
  f35:=⟨ "cmp.isNaN[int]", by decide,func217⟩
  f40:=⟨ "slices.order2Ordered[int]", by decide,func227⟩
  t0:=underlying0
  a0:=isAgg0
  z0:=sizeOf0
  v0:=zeroValue0
  t3:=underlying3
  a3:=isAgg3
  z3:=sizeOf3
  v3:=zeroValue3
  t4:=underlying4
  a4:=isAgg4
  z4:=sizeOf4
  v4:=zeroValue4
  t5:=underlying5
  a5:=isAgg5
  z5:=sizeOf5
  v5:=zeroValue5
  t9:=underlying9
  a9:=isAgg9
  z9:=sizeOf9
  v9:=zeroValue9
  t22:=underlying25
  a22:=isAgg25
  z22:=sizeOf25
  v22:=zeroValue25
  t23:=underlying25
  a23:=isAgg25
  z23:=sizeOf25
  v23:=zeroValue25
  t25:=underlying3
  a25:=isAgg3
  z25:=sizeOf3
  v25:=zeroValue3
  t32:=underlying226
  a32:=isAgg226
  z32:=sizeOf226
  v32:=zeroValue226
  t35:=underlying236
  a35:=isAgg236
  z35:=sizeOf236
  v35:=zeroValue236
  t36:=underlying237
  a36:=isAgg237
  z36:=sizeOf237
  v36:=zeroValue237
  t41:=underlying110
  a41:=isAgg110
  z41:=sizeOf110
  v41:=zeroValue110
  t44:=underlying143
  a44:=isAgg143
  z44:=sizeOf143
  v44:=zeroValue143
  t46:=underlying243
  a46:=isAgg243
  z46:=sizeOf243
  v46:=zeroValue243
  t53:=underlying247
  a53:=isAgg247
  z53:=sizeOf247
  v53:=zeroValue247
  t57:=underlying251
  a57:=isAgg251
  z57:=sizeOf251
  v57:=zeroValue251
  t63:=underlying253
  a63:=isAgg253
  z63:=sizeOf253
  v63:=zeroValue253
  t64:=underlying154
  a64:=isAgg154
  z64:=sizeOf154
  v64:=zeroValue154
end Go.Am.Ds
end
section
namespace Go.Am.Ds
open Go Go.Am Go.Proofs Tryz
@[simp] theorem u3:prog.underlying 3=some (.int .i64):=by rfl
@[simp] theorem ag3:tagg prog 3=some false:=by decide +kernel
@[simp] theorem sz3:tsz prog 3=some 1:=by decide +kernel
@[simp] theorem ze3:zbt prog 3=some [.int .i64 0]:=by rfl
@[simp] theorem za3:(zb5 prog 3).bind pvcV=some (.int .i64 0):=by rfl
@[simp] theorem u4:prog.underlying 4=some .bool:=by rfl
@[simp] theorem ag4:tagg prog 4=some false:=by decide +kernel
@[simp] theorem sz4:tsz prog 4=some 1:=by decide +kernel
@[simp] theorem ze4:zbt prog 4=some [.bool false]:=by rfl
@[simp] theorem za4:(zb5 prog 4).bind pvcV=some (.bool false):=by rfl
@[simp] theorem u5:prog.underlying 5=some (.int .u8):=by rfl
@[simp] theorem ag5:tagg prog 5=some false:=by decide +kernel
@[simp] theorem sz5:tsz prog 5=some 1:=by decide +kernel
@[simp] theorem ze5:zbt prog 5=some [.int .u8 0]:=by rfl
@[simp] theorem za5:(zb5 prog 5).bind pvcV=some (.int .u8 0):=by rfl
@[simp] theorem u9:prog.underlying 9=some .string:=by rfl
@[simp] theorem ag9:tagg prog 9=some false:=by decide +kernel
@[simp] theorem sz9:tsz prog 9=some 1:=by decide +kernel
@[simp] theorem ze9:zbt prog 9=some [.str ByteArray.empty]:=by rfl
@[simp] theorem za9:(zb5 prog 9).bind pvcV=some (.str ByteArray.empty):=by rfl
@[simp] theorem u22:prog.underlying 22=some (.slice 62):=by rfl
@[simp] theorem ag22:tagg prog 22=some false:=by decide +kernel
@[simp] theorem sz22:tsz prog 22=some 1:=by decide +kernel
@[simp] theorem el22:zdc prog 22=some (62,7):=by decide +kernel
@[simp] theorem by22:(prog.info? 62).map (·.bytes)=some 104:=by decide +kernel
@[simp] theorem ze22:zbt prog 22=some [.sl0]:=by rfl
@[simp] theorem za22:(zb5 prog 22).bind pvcV=some (.sl0):=by rfl
@[simp] theorem ag24:tagg prog 24=some true:=by decide +kernel
@[simp] theorem sz24:tsz prog 24=some 1:=by decide +kernel
@[simp] theorem fd24_0:zbe prog 24 0=some (22,0,1):=by decide +kernel
@[simp] theorem ze24:zbt prog 24=some [.sl0]:=by rfl
@[simp] theorem bu24 (l:List (Nat×PV)):zeb prog 24 l=(zcf (([(0,1)]:List (Nat×Nat))[·]?) [.sl0] l).map .agg:=by rfl
@[simp] theorem za24:(zb5 prog 24).bind pvcV=some (.agg [.sl0]):=by rfl
@[simp] theorem u25:prog.underlying 25=some (.slice 3):=by rfl
@[simp] theorem ag25:tagg prog 25=some false:=by decide +kernel
@[simp] theorem sz25:tsz prog 25=some 1:=by decide +kernel
@[simp] theorem el25:zdc prog 25=some (3,1):=by decide +kernel
@[simp] theorem by25:(prog.info? 3).map (·.bytes)=some 8:=by decide +kernel
@[simp] theorem ze25:zbt prog 25=some [.sl0]:=by rfl
@[simp] theorem za25:(zb5 prog 25).bind pvcV=some (.sl0):=by rfl
@[simp] theorem u28:prog.underlying 28=some (.int .i64):=by rfl
@[simp] theorem ag28:tagg prog 28=some false:=by decide +kernel
@[simp] theorem sz28:tsz prog 28=some 1:=by decide +kernel
@[simp] theorem ze28:zbt prog 28=some [.int .i64 0]:=by rfl
@[simp] theorem za28:(zb5 prog 28).bind pvcV=some (.int .i64 0):=by rfl
@[simp] theorem ag32:tagg prog 32=some true:=by decide +kernel
@[simp] theorem sz32:tsz prog 32=some 5:=by decide +kernel
@[simp] theorem fd32_0:zbe prog 32 0=some (3,0,1):=by decide +kernel
@[simp] theorem fd32_1:zbe prog 32 1=some (3,1,1):=by decide +kernel
@[simp] theorem fd32_2:zbe prog 32 2=some (3,2,1):=by decide +kernel
@[simp] theorem fd32_3:zbe prog 32 3=some (3,3,1):=by decide +kernel
@[simp] theorem fd32_4:zbe prog 32 4=some (3,4,1):=by decide +kernel
@[simp] theorem ze32:zbt prog 32=some [.int .i64 0,.int .i64 0,.int .i64 0,.int .i64 0,.int .i64 0]:=by rfl
@[simp] theorem bu32 (l:List (Nat×PV)):zeb prog 32 l=(zcf (([(0,1),(1,1),(2,1),(3,1),(4,1)]:List (Nat×Nat))[·]?) [.int .i64 0,.int .i64 0,.int .i64 0,.int .i64 0,.int .i64 0] l).map .agg:=by rfl
@[simp] theorem za32:(zb5 prog 32).bind pvcV=some (.agg [.int .i64 0,.int .i64 0,.int .i64 0,.int .i64 0,.int .i64 0]):=by rfl
@[simp] theorem ag38:tagg prog 38=some true:=by decide +kernel
@[simp] theorem sz38:tsz prog 38=some 2:=by decide +kernel
@[simp] theorem fd38_0:zbe prog 38 0=some (3,0,1):=by decide +kernel
@[simp] theorem fd38_1:zbe prog 38 1=some (3,1,1):=by decide +kernel
@[simp] theorem ze38:zbt prog 38=some [.int .i64 0,.int .i64 0]:=by rfl
@[simp] theorem bu38 (l:List (Nat×PV)):zeb prog 38 l=(zcf (([(0,1),(1,1)]:List (Nat×Nat))[·]?) [.int .i64 0,.int .i64 0] l).map .agg:=by rfl
@[simp] theorem za38:(zb5 prog 38).bind pvcV=some (.agg [.int .i64 0,.int .i64 0]):=by rfl
@[simp] theorem ag44:tagg prog 44=some true:=by decide +kernel
@[simp] theorem sz44:tsz prog 44=some 3:=by decide +kernel
@[simp] theorem fd44_0:zbe prog 44 0=some (3,0,1):=by decide +kernel
@[simp] theorem fd44_1:zbe prog 44 1=some (3,1,1):=by decide +kernel
@[simp] theorem fd44_2:zbe prog 44 2=some (28,2,1):=by decide +kernel
@[simp] theorem ze44:zbt prog 44=some [.int .i64 0,.int .i64 0,.int .i64 0]:=by rfl
@[simp] theorem bu44 (l:List (Nat×PV)):zeb prog 44 l=(zcf (([(0,1),(1,1),(2,1)]:List (Nat×Nat))[·]?) [.int .i64 0,.int .i64 0,.int .i64 0] l).map .agg:=by rfl
@[simp] theorem za44:(zb5 prog 44).bind pvcV=some (.agg [.int .i64 0,.int .i64 0,.int .i64 0]):=by rfl
@[simp] theorem ag48:tagg prog 48=some true:=by decide +kernel
@[simp] theorem sz48:tsz prog 48=some 2:=by decide +kernel
@[simp] theorem fd48_0:zbe prog 48 0=some (25,0,1):=by decide +kernel
@[simp] theorem fd48_1:zbe prog 48 1=some (28,1,1):=by decide +kernel
@[simp] theorem ze48:zbt prog 48=some [.sl0,.int .i64 0]:=by rfl
@[simp] theorem bu48 (l:List (Nat×PV)):zeb prog 48 l=(zcf (([(0,1),(1,1)]:List (Nat×Nat))[·]?) [.sl0,.int .i64 0] l).map .agg:=by rfl
@[simp] theorem za48:(zb5 prog 48).bind pvcV=some (.agg [.sl0,.int .i64 0]):=by rfl
@[simp] theorem ag53:tagg prog 53=some true:=by decide +kernel
@[simp] theorem sz53:tsz prog 53=some 2:=by decide +kernel
@[simp] theorem fd53_0:zbe prog 53 0=some (3,0,1):=by decide +kernel
@[simp] theorem fd53_1:zbe prog 53 1=some (28,1,1):=by decide +kernel
@[simp] theorem ze53:zbt prog 53=some [.int .i64 0,.int .i64 0]:=by rfl
@[simp] theorem bu53 (l:List (Nat×PV)):zeb prog 53 l=(zcf (([(0,1),(1,1)]:List (Nat×Nat))[·]?) [.int .i64 0,.int .i64 0] l).map .agg:=by rfl
@[simp] theorem za53:(zb5 prog 53).bind pvcV=some (.agg [.int .i64 0,.int .i64 0]):=by rfl
@[simp] theorem u57:prog.underlying 57=some (.int .u16):=by rfl
@[simp] theorem ag57:tagg prog 57=some false:=by decide +kernel
@[simp] theorem sz57:tsz prog 57=some 1:=by decide +kernel
@[simp] theorem ze57:zbt prog 57=some [.int .u16 0]:=by rfl
@[simp] theorem za57:(zb5 prog 57).bind pvcV=some (.int .u16 0):=by rfl
@[simp] theorem ag60:tagg prog 60=some true:=by decide +kernel
@[simp] theorem sz60:tsz prog 60=some 2:=by decide +kernel
@[simp] theorem fd60_0:zbe prog 60 0=some (3,0,1):=by decide +kernel
@[simp] theorem fd60_1:zbe prog 60 1=some (3,1,1):=by decide +kernel
@[simp] theorem ze60:zbt prog 60=some [.int .i64 0,.int .i64 0]:=by rfl
@[simp] theorem bu60 (l:List (Nat×PV)):zeb prog 60 l=(zcf (([(0,1),(1,1)]:List (Nat×Nat))[·]?) [.int .i64 0,.int .i64 0] l).map .agg:=by rfl
@[simp] theorem za60:(zb5 prog 60).bind pvcV=some (.agg [.int .i64 0,.int .i64 0]):=by rfl
@[simp] theorem ag62:tagg prog 62=some true:=by decide +kernel
@[simp] theorem sz62:tsz prog 62=some 7:=by decide +kernel
@[simp] theorem fd62_0:zbe prog 62 0=some (3,0,1):=by decide +kernel
@[simp] theorem fd62_1:zbe prog 62 1=some (3,1,1):=by decide +kernel
@[simp] theorem fd62_2:zbe prog 62 2=some (25,2,1):=by decide +kernel
@[simp] theorem fd62_3:zbe prog 62 3=some (25,3,1):=by decide +kernel
@[simp] theorem fd62_4:zbe prog 62 4=some (25,4,1):=by decide +kernel
@[simp] theorem fd62_5:zbe prog 62 5=some (60,5,2):=by decide +kernel
@[simp] theorem ze62:zbt prog 62=some [.int .i64 0,.int .i64 0,.sl0,.sl0,.sl0,.int .i64 0,.int .i64 0]:=by rfl
@[simp] theorem bu62 (l:List (Nat×PV)):zeb prog 62 l=(zcf (([(0,1),(1,1),(2,1),(3,1),(4,1),(5,2)]:List (Nat×Nat))[·]?) [.int .i64 0,.int .i64 0,.sl0,.sl0,.sl0,.int .i64 0,.int .i64 0] l).map .agg:=by rfl
@[simp] theorem za62:(zb5 prog 62).bind pvcV=some (.agg [.int .i64 0,.int .i64 0,.sl0,.sl0,.sl0,.int .i64 0,.int .i64 0]):=by rfl
@[simp] theorem ag67:tagg prog 67=some false:=by decide +kernel
@[simp] theorem sz67:tsz prog 67=some 1:=by decide +kernel
@[simp] theorem ze67:zbt prog 67=some [.nilFunc]:=by rfl
@[simp] theorem za67:(zb5 prog 67).bind pvcV=some (.nilFunc):=by rfl
@[simp] theorem ag69:tagg prog 69=some true:=by decide +kernel
@[simp] theorem sz69:tsz prog 69=some 2:=by decide +kernel
@[simp] theorem fd69_0:zbe prog 69 0=some (24,0,1):=by decide +kernel
@[simp] theorem fd69_1:zbe prog 69 1=some (28,1,1):=by decide +kernel
@[simp] theorem ze69:zbt prog 69=some [.sl0,.int .i64 0]:=by rfl
@[simp] theorem bu69 (l:List (Nat×PV)):zeb prog 69 l=(zcf (([(0,1),(1,1)]:List (Nat×Nat))[·]?) [.sl0,.int .i64 0] l).map .agg:=by rfl
@[simp] theorem za69:(zb5 prog 69).bind pvcV=some (.agg [.sl0,.int .i64 0]):=by rfl
@[simp] theorem u74:prog.underlying 74=some (.slice 38):=by rfl
@[simp] theorem ag74:tagg prog 74=some false:=by decide +kernel
@[simp] theorem sz74:tsz prog 74=some 1:=by decide +kernel
@[simp] theorem el74:zdc prog 74=some (38,2):=by decide +kernel
@[simp] theorem by74:(prog.info? 38).map (·.bytes)=some 16:=by decide +kernel
@[simp] theorem ze74:zbt prog 74=some [.sl0]:=by rfl
@[simp] theorem za74:(zb5 prog 74).bind pvcV=some (.sl0):=by rfl
@[simp] theorem ag83:tagg prog 83=some true:=by decide +kernel
@[simp] theorem sz83:tsz prog 83=some 7:=by decide +kernel
@[simp] theorem fd83_0:zbe prog 83 0=some (32,0,5):=by decide +kernel
@[simp] theorem fd83_1:zbe prog 83 1=some (4,5,1):=by decide +kernel
@[simp] theorem fd83_2:zbe prog 83 2=some (28,6,1):=by decide +kernel
@[simp] theorem ze83:zbt prog 83=some [.int .i64 0,.int .i64 0,.int .i64 0,.int .i64 0,.int .i64 0,.bool false,.int .i64 0]:=by rfl
@[simp] theorem bu83 (l:List (Nat×PV)):zeb prog 83 l=(zcf (([(0,5),(5,1),(6,1)]:List (Nat×Nat))[·]?) [.int .i64 0,.int .i64 0,.int .i64 0,.int .i64 0,.int .i64 0,.bool false,.int .i64 0] l).map .agg:=by rfl
@[simp] theorem za83:(zb5 prog 83).bind pvcV=some (.agg [.int .i64 0,.int .i64 0,.int .i64 0,.int .i64 0,.int .i64 0,.bool false,.int .i64 0]):=by rfl
@[simp] theorem u87:prog.underlying 87=some (.slice 89):=by rfl
@[simp] theorem ag87:tagg prog 87=some false:=by decide +kernel
@[simp] theorem sz87:tsz prog 87=some 1:=by decide +kernel
@[simp] theorem el87:zdc prog 87=some (89,5):=by decide +kernel
@[simp] theorem by87:(prog.info? 89).map (·.bytes)=some 5:=by decide +kernel
@[simp] theorem ze87:zbt prog 87=some [.sl0]:=by rfl
@[simp] theorem za87:(zb5 prog 87).bind pvcV=some (.sl0):=by rfl
@[simp] theorem ag89:tagg prog 89=some true:=by decide +kernel
@[simp] theorem sz89:tsz prog 89=some 5:=by decide +kernel
@[simp] theorem fd89_0:zbe prog 89 0=some (5,0,1):=by decide +kernel
@[simp] theorem fd89_1:zbe prog 89 1=some (5,1,1):=by decide +kernel
@[simp] theorem fd89_2:zbe prog 89 2=some (5,2,1):=by decide +kernel
@[simp] theorem fd89_3:zbe prog 89 3=some (5,3,1):=by decide +kernel
@[simp] theorem fd89_4:zbe prog 89 4=some (4,4,1):=by decide +kernel
@[simp] theorem ze89:zbt prog 89=some [.int .u8 0,.int .u8 0,.int .u8 0,.int .u8 0,.bool false]:=by rfl
@[simp] theorem bu89 (l:List (Nat×PV)):zeb prog 89 l=(zcf (([(0,1),(1,1),(2,1),(3,1),(4,1)]:List (Nat×Nat))[·]?) [.int .u8 0,.int .u8 0,.int .u8 0,.int .u8 0,.bool false] l).map .agg:=by rfl
@[simp] theorem za89:(zb5 prog 89).bind pvcV=some (.agg [.int .u8 0,.int .u8 0,.int .u8 0,.int .u8 0,.bool false]):=by rfl
@[simp] theorem ag92:tagg prog 92=some true:=by decide +kernel
@[simp] theorem sz92:tsz prog 92=some 2:=by decide +kernel
@[simp] theorem fd92_0:zbe prog 92 0=some (25,0,1):=by decide +kernel
@[simp] theorem fd92_1:zbe prog 92 1=some (3,1,1):=by decide +kernel
@[simp] theorem ze92:zbt prog 92=some [.sl0,.int .i64 0]:=by rfl
@[simp] theorem bu92 (l:List (Nat×PV)):zeb prog 92 l=(zcf (([(0,1),(1,1)]:List (Nat×Nat))[·]?) [.sl0,.int .i64 0] l).map .agg:=by rfl
@[simp] theorem za92:(zb5 prog 92).bind pvcV=some (.agg [.sl0,.int .i64 0]):=by rfl
@[simp] theorem ag99:tagg prog 99=some true:=by decide +kernel
@[simp] theorem sz99:tsz prog 99=some 2:=by decide +kernel
@[simp] theorem fd99_0:zbe prog 99 0=some (74,0,1):=by decide +kernel
@[simp] theorem fd99_1:zbe prog 99 1=some (28,1,1):=by decide +kernel
@[simp] theorem ze99:zbt prog 99=some [.sl0,.int .i64 0]:=by rfl
@[simp] theorem bu99 (l:List (Nat×PV)):zeb prog 99 l=(zcf (([(0,1),(1,1)]:List (Nat×Nat))[·]?) [.sl0,.int .i64 0] l).map .agg:=by rfl
@[simp] theorem za99:(zb5 prog 99).bind pvcV=some (.agg [.sl0,.int .i64 0]):=by rfl
@[simp] theorem u105:prog.underlying 105=some (.slice 5):=by rfl
@[simp] theorem ag105:tagg prog 105=some false:=by decide +kernel
@[simp] theorem sz105:tsz prog 105=some 1:=by decide +kernel
@[simp] theorem el105:zdc prog 105=some (5,1):=by decide +kernel
@[simp] theorem by105:(prog.info? 5).map (·.bytes)=some 1:=by decide +kernel
@[simp] theorem ze105:zbt prog 105=some [.sl0]:=by rfl
@[simp] theorem za105:(zb5 prog 105).bind pvcV=some (.sl0):=by rfl
@[simp] theorem ag114:tagg prog 114=some true:=by decide +kernel
@[simp] theorem sz114:tsz prog 114=some 3:=by decide +kernel
@[simp] theorem xgg:zbe prog 114 0=some (25,0,1):=by decide +kernel
@[simp] theorem xhi:zbe prog 114 1=some (25,1,1):=by decide +kernel
@[simp] theorem xik:zbe prog 114 2=some (28,2,1):=by decide +kernel
@[simp] theorem ze114:zbt prog 114=some [.sl0,.sl0,.int .i64 0]:=by rfl
@[simp] theorem bu114 (l:List (Nat×PV)):zeb prog 114 l=(zcf (([(0,1),(1,1),(2,1)]:List (Nat×Nat))[·]?) [.sl0,.sl0,.int .i64 0] l).map .agg:=by rfl
@[simp] theorem za114:(zb5 prog 114).bind pvcV=some (.agg [.sl0,.sl0,.int .i64 0]):=by rfl
@[simp] theorem u121:prog.underlying 121=some (.slice 189):=by rfl
@[simp] theorem ag121:tagg prog 121=some false:=by decide +kernel
@[simp] theorem sz121:tsz prog 121=some 1:=by decide +kernel
@[simp] theorem el121:zdc prog 121=some (189,3):=by decide +kernel
@[simp] theorem by121:(prog.info? 189).map (·.bytes)=some 56:=by decide +kernel
@[simp] theorem ze121:zbt prog 121=some [.sl0]:=by rfl
@[simp] theorem za121:(zb5 prog 121).bind pvcV=some (.sl0):=by rfl
@[simp] theorem ag123:tagg prog 123=some true:=by decide +kernel
@[simp] theorem sz123:tsz prog 123=some 1:=by decide +kernel
@[simp] theorem xhe:zbe prog 123 0=some (121,0,1):=by decide +kernel
@[simp] theorem ze123:zbt prog 123=some [.sl0]:=by rfl
@[simp] theorem bu123 (l:List (Nat×PV)):zeb prog 123 l=(zcf (([(0,1)]:List (Nat×Nat))[·]?) [.sl0] l).map .agg:=by rfl
@[simp] theorem za123:(zb5 prog 123).bind pvcV=some (.agg [.sl0]):=by rfl
@[simp] theorem u139:prog.underlying 139=some (.map 3 144):=by rfl
@[simp] theorem ag139:tagg prog 139=some false:=by decide +kernel
@[simp] theorem sz139:tsz prog 139=some 1:=by decide +kernel
@[simp] theorem xcg:tkey prog 139=some (3,144):=by decide +kernel
@[simp] theorem ze139:zbt prog 139=some [.map0]:=by rfl
@[simp] theorem za139:(zb5 prog 139).bind pvcV=some (.map0):=by rfl
@[simp] theorem u143:prog.underlying 143=some (.int .u32):=by rfl
@[simp] theorem ag143:tagg prog 143=some false:=by decide +kernel
@[simp] theorem sz143:tsz prog 143=some 1:=by decide +kernel
@[simp] theorem ze143:zbt prog 143=some [.int .u32 0]:=by rfl
@[simp] theorem za143:(zb5 prog 143).bind pvcV=some (.int .u32 0):=by rfl
@[simp] theorem u144:prog.underlying 144=some (.int .u32):=by rfl
@[simp] theorem ag144:tagg prog 144=some false:=by decide +kernel
@[simp] theorem sz144:tsz prog 144=some 1:=by decide +kernel
@[simp] theorem ze144:zbt prog 144=some [.int .u32 0]:=by rfl
@[simp] theorem za144:(zb5 prog 144).bind pvcV=some (.int .u32 0):=by rfl
@[simp] theorem u145:prog.underlying 145=some (.array 3 144):=by rfl
@[simp] theorem ag145:tagg prog 145=some true:=by decide +kernel
@[simp] theorem sz145:tsz prog 145=some 3:=by decide +kernel
@[simp] theorem ar145:tarr prog 145=some (3,144,1):=by decide +kernel
@[simp] theorem ze145:zbt prog 145=some [.int .u32 0,.int .u32 0,.int .u32 0]:=by rfl
@[simp] theorem bu145 (l:List (Nat×PV)):zeb prog 145 l=(zcf (fun i=>some (i*1,1)) [.int .u32 0,.int .u32 0,.int .u32 0] l).map .agg:=by rfl
@[simp] theorem za145:(zb5 prog 145).bind pvcV=some (.agg [.int .u32 0,.int .u32 0,.int .u32 0]):=by rfl
@[simp] theorem u151:prog.underlying 151=some (.pointer 62):=by rfl
@[simp] theorem ag151:tagg prog 151=some false:=by decide +kernel
@[simp] theorem sz151:tsz prog 151=some 1:=by decide +kernel
@[simp] theorem ze151:zbt prog 151=some [.ptr0]:=by rfl
@[simp] theorem za151:(zb5 prog 151).bind pvcV=some (.ptr0):=by rfl
@[simp] theorem u163:prog.underlying 163=some (.slice 168):=by rfl
@[simp] theorem ag163:tagg prog 163=some false:=by decide +kernel
@[simp] theorem sz163:tsz prog 163=some 1:=by decide +kernel
@[simp] theorem el163:zdc prog 163=some (168,2):=by decide +kernel
@[simp] theorem by163:(prog.info? 168).map (·.bytes)=some 32:=by decide +kernel
@[simp] theorem ze163:zbt prog 163=some [.sl0]:=by rfl
@[simp] theorem za163:(zb5 prog 163).bind pvcV=some (.sl0):=by rfl
@[simp] theorem ag168:tagg prog 168=some true:=by decide +kernel
@[simp] theorem sz168:tsz prog 168=some 2:=by decide +kernel
@[simp] theorem xhu:zbe prog 168 0=some (25,0,1):=by decide +kernel
@[simp] theorem xfv:zbe prog 168 1=some (3,1,1):=by decide +kernel
@[simp] theorem ze168:zbt prog 168=some [.sl0,.int .i64 0]:=by rfl
@[simp] theorem bu168 (l:List (Nat×PV)):zeb prog 168 l=(zcf (([(0,1),(1,1)]:List (Nat×Nat))[·]?) [.sl0,.int .i64 0] l).map .agg:=by rfl
@[simp] theorem za168:(zb5 prog 168).bind pvcV=some (.agg [.sl0,.int .i64 0]):=by rfl
@[simp] theorem u171:prog.underlying 171=some (.map 3 4):=by rfl
@[simp] theorem ag171:tagg prog 171=some false:=by decide +kernel
@[simp] theorem sz171:tsz prog 171=some 1:=by decide +kernel
@[simp] theorem ky171:tkey prog 171=some (3,4):=by decide +kernel
@[simp] theorem ze171:zbt prog 171=some [.map0]:=by rfl
@[simp] theorem za171:(zb5 prog 171).bind pvcV=some (.map0):=by rfl
@[simp] theorem ag173:tagg prog 173=some false:=by decide +kernel
@[simp] theorem sz173:tsz prog 173=some 1:=by decide +kernel
@[simp] theorem ze173:zbt prog 173=some [.nilFunc]:=by rfl
@[simp] theorem za173:(zb5 prog 173).bind pvcV=some (.nilFunc):=by rfl
@[simp] theorem ag174:tagg prog 174=some false:=by decide +kernel
@[simp] theorem sz174:tsz prog 174=some 1:=by decide +kernel
@[simp] theorem ze174:zbt prog 174=some [.nilFunc]:=by rfl
@[simp] theorem za174:(zb5 prog 174).bind pvcV=some (.nilFunc):=by rfl
@[simp] theorem ag189:tagg prog 189=some true:=by decide +kernel
@[simp] theorem sz189:tsz prog 189=some 3:=by decide +kernel
@[simp] theorem xgr:zbe prog 189 0=some (3,0,1):=by decide +kernel
@[simp] theorem xf0:zbe prog 189 1=some (25,1,1):=by decide +kernel
@[simp] theorem xio:zbe prog 189 2=some (25,2,1):=by decide +kernel
@[simp] theorem ze189:zbt prog 189=some [.int .i64 0,.sl0,.sl0]:=by rfl
@[simp] theorem bu189 (l:List (Nat×PV)):zeb prog 189 l=(zcf (([(0,1),(1,1),(2,1)]:List (Nat×Nat))[·]?) [.int .i64 0,.sl0,.sl0] l).map .agg:=by rfl
@[simp] theorem za189:(zb5 prog 189).bind pvcV=some (.agg [.int .i64 0,.sl0,.sl0]):=by rfl
@[simp] theorem u191:prog.underlying 191=some (.slice 25):=by rfl
@[simp] theorem ag191:tagg prog 191=some false:=by decide +kernel
@[simp] theorem sz191:tsz prog 191=some 1:=by decide +kernel
@[simp] theorem el191:zdc prog 191=some (25,1):=by decide +kernel
@[simp] theorem by191:(prog.info? 25).map (·.bytes)=some 24:=by decide +kernel
@[simp] theorem ze191:zbt prog 191=some [.sl0]:=by rfl
@[simp] theorem za191:(zb5 prog 191).bind pvcV=some (.sl0):=by rfl
@[simp] theorem u196:prog.underlying 196=some (.array 2 3):=by rfl
@[simp] theorem ag196:tagg prog 196=some true:=by decide +kernel
@[simp] theorem sz196:tsz prog 196=some 2:=by decide +kernel
@[simp] theorem ar196:tarr prog 196=some (2,3,1):=by decide +kernel
@[simp] theorem ze196:zbt prog 196=some [.int .i64 0,.int .i64 0]:=by rfl
@[simp] theorem bu196 (l:List (Nat×PV)):zeb prog 196 l=(zcf (fun i=>some (i*1,1)) [.int .i64 0,.int .i64 0] l).map .agg:=by rfl
@[simp] theorem za196:(zb5 prog 196).bind pvcV=some (.agg [.int .i64 0,.int .i64 0]):=by rfl
@[simp] theorem ag199:tagg prog 199=some false:=by decide +kernel
@[simp] theorem sz199:tsz prog 199=some 1:=by decide +kernel
@[simp] theorem ze199:zbt prog 199=some [.nilFunc]:=by rfl
@[simp] theorem za199:(zb5 prog 199).bind pvcV=some (.nilFunc):=by rfl
@[simp] theorem ag219:tagg prog 219=some false:=by decide +kernel
@[simp] theorem sz219:tsz prog 219=some 1:=by decide +kernel
@[simp] theorem ze219:zbt prog 219=some [.nilFunc]:=by rfl
@[simp] theorem za219:(zb5 prog 219).bind pvcV=some (.nilFunc):=by rfl
@[simp] theorem u223:prog.underlying 223=some (.map 3 3):=by rfl
@[simp] theorem ag223:tagg prog 223=some false:=by decide +kernel
@[simp] theorem sz223:tsz prog 223=some 1:=by decide +kernel
@[simp] theorem ky223:tkey prog 223=some (3,3):=by decide +kernel
@[simp] theorem ze223:zbt prog 223=some [.map0]:=by rfl
@[simp] theorem za223:(zb5 prog 223).bind pvcV=some (.map0):=by rfl
@[simp] theorem u226:prog.underlying 226=some (.int .u64):=by rfl
@[simp] theorem ag226:tagg prog 226=some false:=by decide +kernel
@[simp] theorem sz226:tsz prog 226=some 1:=by decide +kernel
@[simp] theorem ze226:zbt prog 226=some [.int .u64 0]:=by rfl
@[simp] theorem za226:(zb5 prog 226).bind pvcV=some (.int .u64 0):=by rfl
@[simp] theorem u230:prog.underlying 230=some (.slice 171):=by rfl
@[simp] theorem ag230:tagg prog 230=some false:=by decide +kernel
@[simp] theorem sz230:tsz prog 230=some 1:=by decide +kernel
@[simp] theorem el230:zdc prog 230=some (171,1):=by decide +kernel
@[simp] theorem by230:(prog.info? 171).map (·.bytes)=some 8:=by decide +kernel
@[simp] theorem ze230:zbt prog 230=some [.sl0]:=by rfl
@[simp] theorem za230:(zb5 prog 230).bind pvcV=some (.sl0):=by rfl
@[simp] theorem ag231:tagg prog 231=some false:=by decide +kernel
@[simp] theorem sz231:tsz prog 231=some 1:=by decide +kernel
@[simp] theorem ze231:zbt prog 231=some [.nilFunc]:=by rfl
@[simp] theorem za231:(zb5 prog 231).bind pvcV=some (.nilFunc):=by rfl
@[simp] theorem ag233:tagg prog 233=some false:=by decide +kernel
@[simp] theorem sz233:tsz prog 233=some 1:=by decide +kernel
@[simp] theorem ze233:zbt prog 233=some [.nilFunc]:=by rfl
@[simp] theorem za233:(zb5 prog 233).bind pvcV=some (.nilFunc):=by rfl
@[simp] theorem u236:prog.underlying 236=some (.int .i64):=by rfl
@[simp] theorem ag236:tagg prog 236=some false:=by decide +kernel
@[simp] theorem sz236:tsz prog 236=some 1:=by decide +kernel
@[simp] theorem ze236:zbt prog 236=some [.int .i64 0]:=by rfl
@[simp] theorem za236:(zb5 prog 236).bind pvcV=some (.int .i64 0):=by rfl
@[simp] theorem u243:prog.underlying 243=some (.int .u64):=by rfl
@[simp] theorem ag243:tagg prog 243=some false:=by decide +kernel
@[simp] theorem sz243:tsz prog 243=some 1:=by decide +kernel
@[simp] theorem ze243:zbt prog 243=some [.int .u64 0]:=by rfl
@[simp] theorem za243:(zb5 prog 243).bind pvcV=some (.int .u64 0):=by rfl
@[simp] theorem u247:prog.underlying 247=some (.int .u64):=by rfl
@[simp] theorem ag247:tagg prog 247=some false:=by decide +kernel
@[simp] theorem sz247:tsz prog 247=some 1:=by decide +kernel
@[simp] theorem ze247:zbt prog 247=some [.int .u64 0]:=by rfl
@[simp] theorem za247:(zb5 prog 247).bind pvcV=some (.int .u64 0):=by rfl
@[simp] theorem u251:prog.underlying 251=some (.pointer 3):=by rfl
@[simp] theorem ag251:tagg prog 251=some false:=by decide +kernel
@[simp] theorem sz251:tsz prog 251=some 1:=by decide +kernel
@[simp] theorem ze251:zbt prog 251=some [.ptr0]:=by rfl
@[simp] theorem za251:(zb5 prog 251).bind pvcV=some (.ptr0):=by rfl
end Go.Am.Ds
end
