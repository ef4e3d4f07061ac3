/-
 What is used in the proof of a statement (part HmB); no condition.
-/
import Derived.Test.YtmgglkdilpglgaaGreatHiZ
import Derived.Test.YtmgglkdilpglgaaGreatVm2
import Derived.Test.YtmgglkdilpglgaaGreatHiT
import Derived.Test.YtmgglkdilpglgaaGreatHmA
set_option linter.all false
set_option maxHeartbeats 40000000
set_option maxRecDepth 100000
section
namespace Go.Am.Hi
open Go Go.Am Go.Proofs Tryz
attribute [local simp] vrun zbg zc6 vop vopA zc7 zab.back hidI hidF zgd bm Nat.testBit_eq_decide_div_mod_eq za1 zca zeg vO zcv vlen zdw zcz zjh zbo zbb zfu vbox zcw ziq zet zh4 zfr zbz zfs zb0 zft zcu zfx zdx zc8 vbnd zfa vidx zd1 zh1 zbt zd0 zfv zhu zjr zj2 vbin vsc vsc1 vscs vscl zdh aint zfj zhf zcd zew zjf pvcV pvc pvcs tput tget zc5 zab.get zab.alloc zab.put zab.drop zab.empty zbl vput zhp zbj zc4 zgg chunk List.range List.range.loop zbd zef zbn frz frzL PV.isF PV.allF PV.scal PV.allS retP subT zil PV.one PV.ids PV.idsL ze8 beq_eq zdn zed
attribute [local simp] zax zat zaz
theorem z5m (d:Int)(t:Tu)(x:List (Int×He))(y:List (Int×Int))(q:List (Int×List Int))(hq:alk q t.p=none){z:Int}(hy:alk y t.p=some z):zbh prog 163 [.ptr 3 0,encT t] (dH 8 d (mpG zah x) (mpG (PV.int .i64) y) (mpG ints q)) zb4 fun vh'=>DAt vh' d x y q:=by
 unfold dH encT
 obtain⟨u,hu⟩:∃u,(alk x t.s).getD ⟨0,0,0,0⟩=u:=⟨_,rfl⟩
 obtain⟨bb,hb⟩:∃b,(alk x t.s).isSome=b:=⟨_,rfl⟩
 refine .zag func163 rfl rfl ?_
 refine .sr ?_
 refine .seq ?_
 refine .drawn (ms:=[0,1,3,7,0,16,63,127,255,255,511,2047]) (W:=[]) (items:=[.op 0,.op 1,.op 2,.op 3,.op 4,.op 5,.op 6,.op 7,.op 8,.op 9,.op 10,.op 11]) rfl zz0 zz0 zz0 ?_
 iterate 12 refine .rx ?_
 refine .done (.seq ?_)
 refine .zac [0,1,2,3,4,5,6,7,8,9] rfl zz0 ?_
 refine .rn [0,1,2] _ ?_
 refine .step rfl rfl (.za2 rfl rfl rfl call158 (by decide) (zfz rfl rfl) (p158 d t.s x y q) (by rintro _ rfl<;>first|(simp;done)|rfl) ?_)
 rintro _ rfl
 rw[hu,hb]
 refine .rn [4,5,6,7,8,9] [] ?_
 refine .done (.seq ?_)
 refine .drawn (ms:=[0,1,3,7,0,16,63,127]) (W:=[]) (items:=[.op 0,.op 1,.op 2,.op 3,.op 4,.op 5,.op 6,.op 7]) rfl zz0 zz0 zz0 ?_
 iterate 8 refine .rx ?_
 refine .done (.seq ?_)
 refine .zli (pv:=zb4) (k:=19) (ms:=[0,1,3,7,15,31,63,127,255,511,1023,2047,4095,8191,2047,18431,65535,131071,262143,524287]) (W:=[19]) (ms0:=[0,1,3,7,15,31,63,127,255,511,1023,2047,4095,8191,2047,18431,65535,131071,262143]) (W0:=[]) (items:=[.op 0,.op 1,.op 2,.op 3,.op 4,.op 5,.op 6,.op 7,.op 8,.op 9,.op 10,.op 11,.op 12,.op 13,.op 14,.op 15,.op 16,.op 17,.op 18]) rfl zz0 zz0 zz0 zz0 rfl rfl rfl zz0 ?_
 iterate 3 refine .rx ?_
 iterate 2 refine .ux ?_
 iterate 2 refine .rx ?_
 iterate 11 refine .ux ?_
 refine .rx ?_
 refine .done ?_
 refine zc0.call rfl rfl rfl call167 ((zjc _ _ (by first|rfl|simp[*])).mono ?_)
 rintro _ rfl
 exact⟨rfl,rfl,rfl,rfl,rfl⟩
theorem z9m (d:Int)(t:Tu)(x:List (Int×He))(y:List (Int×Int))(q:List (Int×List Int))(hq:alk q t.p=none)(hy:alk y t.p=none){u:He}(hx:alk x t.s=some u):zbh prog 163 [.ptr 3 0,encT t] (dH 8 d (mpG zah x) (mpG (PV.int .i64) y) (mpG ints q)) zb4 fun vh'=>DAt vh' d x y q:=by
 unfold dH encT
 refine .zag func163 rfl rfl ?_
 refine .sr ?_
 refine .seq ?_
 refine .drawn (ms:=[0,1,3,7,0,16,63,127,255,255,511,2047]) (W:=[]) (items:=[.op 0,.op 1,.op 2,.op 3,.op 4,.op 5,.op 6,.op 7,.op 8,.op 9,.op 10,.op 11]) rfl zz0 zz0 zz0 ?_
 iterate 12 refine .rx ?_
 refine .done (.seq ?_)
 refine .zac [0,1,2,3,4,5,6,7,8,9] rfl zz0 ?_
 refine .rn [0,1,2] _ ?_
 refine .step rfl rfl (.za2 rfl rfl rfl call158 (by decide) (zfz rfl rfl) (p158 d t.s x y q) (by rintro _ rfl<;>first|(simp;done)|rfl) ?_)
 rintro _ rfl
 rw[hx]
 simp only[Option.getD_some,Option.isSome_some]
 refine .rn [4,5,6,7,8,9] [] ?_
 refine .done (.seq ?_)
 refine .drawn (ms:=[0,1,3,7,0,16,63,127]) (W:=[]) (items:=[.op 0,.op 1,.op 2,.op 3,.op 4,.op 5,.op 6,.op 7]) rfl zz0 zz0 zz0 ?_
 iterate 8 refine .rx ?_
 refine .done (.seq ?_)
 refine .zli (pv:=zb4) (k:=19) (ms:=[0,1,3,7,15,31,63,127,255,511,1023,2047,4095,8191,2047,18431,65535,131071,262143,524287]) (W:=[19]) (ms0:=[0,1,3,7,15,31,63,127,255,511,1023,2047,4095,8191,2047,18431,65535,131071,262143]) (W0:=[]) (items:=[.op 0,.op 1,.op 2,.op 3,.op 4,.op 5,.op 6,.op 7,.op 8,.op 9,.op 10,.op 11,.op 12,.op 13,.op 14,.op 15,.op 16,.op 17,.op 18]) rfl zz0 zz0 zz0 zz0 rfl rfl rfl zz0 ?_
 iterate 7 refine .rx ?_
 iterate 11 refine .ux ?_
 refine .rx ?_
 refine .done ?_
 refine zc0.call rfl rfl rfl call167 ((zjc _ _ (by first|rfl|simp[*])).mono ?_)
 rintro _ rfl
 exact⟨rfl,rfl,rfl,rfl,rfl⟩
theorem z6l (d:Int)(t:Tu)(x:List (Int×He))(y:List (Int×Int))(q:List (Int×List Int)){l:List Int}(hq:alk q t.p=some l){z:Int}(hy:alk y t.p=some z):zbh prog 163 [.ptr 3 0,encT t] (dH 8 d (mpG zah x) (mpG (PV.int .i64) y) (mpG ints q)) zb4 fun vh'=>DAt vh' d x y q:=by
 unfold dH encT
 obtain⟨u,hu⟩:∃u,(alk x t.s).getD ⟨0,0,0,0⟩=u:=⟨_,rfl⟩
 obtain⟨bb,hb⟩:∃b,(alk x t.s).isSome=b:=⟨_,rfl⟩
 refine .zag func163 rfl rfl ?_
 refine .sr ?_
 refine .seq ?_
 refine .drawn (ms:=[0,1,3,7,0,16,63,127,255,255,511,2047]) (W:=[]) (items:=[.op 0,.op 1,.op 2,.op 3,.op 4,.op 5,.op 6,.op 7,.op 8,.op 9,.op 10,.op 11]) rfl zz0 zz0 zz0 ?_
 iterate 12 refine .rx ?_
 refine .done (.seq ?_)
 refine .zac [0,1,2,3,4,5,6,7,8,9] rfl zz0 ?_
 refine .rn [0,1,2] _ ?_
 refine .step rfl rfl (.za2 rfl rfl rfl call158 (by decide) (zfz rfl rfl) (p158 d t.s x y q) (by rintro _ rfl<;>first|(simp;done)|rfl) ?_)
 rintro _ rfl
 rw[hu,hb]
 refine .rn [4,5,6,7,8,9] [] ?_
 refine .done (.seq ?_)
 refine .drawn (ms:=[0,1,3,7,0,16,63,127]) (W:=[]) (items:=[.op 0,.op 1,.op 2,.op 3,.op 4,.op 5,.op 6,.op 7]) rfl zz0 zz0 zz0 ?_
 iterate 8 refine .rx ?_
 refine .done (.seq ?_)
 refine .zli (pv:=zb4) (k:=19) (ms:=[0,1,3,7,15,31,63,127,255,511,1023,2047,4095,8191,2047,18431,65535,131071,262143,524287]) (W:=[19]) (ms0:=[0,1,3,7,15,31,63,127,255,511,1023,2047,4095,8191,2047,18431,65535,131071,262143]) (W0:=[]) (items:=[.op 0,.op 1,.op 2,.op 3,.op 4,.op 5,.op 6,.op 7,.op 8,.op 9,.op 10,.op 11,.op 12,.op 13,.op 14,.op 15,.op 16,.op 17,.op 18]) rfl zz0 zz0 zz0 zz0 rfl rfl rfl zz0 ?_
 iterate 3 refine .rx ?_
 iterate 2 refine .ux ?_
 iterate 2 refine .rx ?_
 iterate 11 refine .ux ?_
 refine .rx ?_
 refine .done ?_
 refine zc0.call rfl rfl rfl call167 ((zjc _ _ (by first|rfl|simp[*])).mono ?_)
 rintro _ rfl
 exact⟨rfl,rfl,rfl,rfl,rfl⟩
theorem z5v (d:Int)(t:Tu)(x:List (Int×He))(y:List (Int×Int))(q:List (Int×List Int)){l:List Int}(hq:alk q t.p=some l)(hy:alk y t.p=none){u:He}(hx:alk x t.s=some u):zbh prog 163 [.ptr 3 0,encT t] (dH 8 d (mpG zah x) (mpG (PV.int .i64) y) (mpG ints q)) zb4 fun vh'=>DAt vh' d x y q:=by
 unfold dH encT
 refine .zag func163 rfl rfl ?_
 refine .sr ?_
 refine .seq ?_
 refine .drawn (ms:=[0,1,3,7,0,16,63,127,255,255,511,2047]) (W:=[]) (items:=[.op 0,.op 1,.op 2,.op 3,.op 4,.op 5,.op 6,.op 7,.op 8,.op 9,.op 10,.op 11]) rfl zz0 zz0 zz0 ?_
 iterate 12 refine .rx ?_
 refine .done (.seq ?_)
 refine .zac [0,1,2,3,4,5,6,7,8,9] rfl zz0 ?_
 refine .rn [0,1,2] _ ?_
 refine .step rfl rfl (.za2 rfl rfl rfl call158 (by decide) (zfz rfl rfl) (p158 d t.s x y q) (by rintro _ rfl<;>first|(simp;done)|rfl) ?_)
 rintro _ rfl
 rw[hx]
 simp only[Option.getD_some,Option.isSome_some]
 refine .rn [4,5,6,7,8,9] [] ?_
 refine .done (.seq ?_)
 refine .drawn (ms:=[0,1,3,7,0,16,63,127]) (W:=[]) (items:=[.op 0,.op 1,.op 2,.op 3,.op 4,.op 5,.op 6,.op 7]) rfl zz0 zz0 zz0 ?_
 iterate 8 refine .rx ?_
 refine .done (.seq ?_)
 refine .zli (pv:=zb4) (k:=19) (ms:=[0,1,3,7,15,31,63,127,255,511,1023,2047,4095,8191,2047,18431,65535,131071,262143,524287]) (W:=[19]) (ms0:=[0,1,3,7,15,31,63,127,255,511,1023,2047,4095,8191,2047,18431,65535,131071,262143]) (W0:=[]) (items:=[.op 0,.op 1,.op 2,.op 3,.op 4,.op 5,.op 6,.op 7,.op 8,.op 9,.op 10,.op 11,.op 12,.op 13,.op 14,.op 15,.op 16,.op 17,.op 18]) rfl zz0 zz0 zz0 zz0 rfl rfl rfl zz0 ?_
 iterate 7 refine .rx ?_
 iterate 11 refine .ux ?_
 refine .rx ?_
 refine .done ?_
 refine zc0.call rfl rfl rfl call167 ((zjc _ _ (by first|rfl|simp[*])).mono ?_)
 rintro _ rfl
 exact⟨rfl,rfl,rfl,rfl,rfl⟩
theorem xcg (d:Int)(t:Tu)(x:List (Int×He))(y:List (Int×Int))(q:List (Int×List Int)){a:Int}{r:List Int}(hq:alk q t.p=some (a::r))(hlr:r.length+1<4294967296)(hy:alk y t.p=none)(hx:alk x t.s=none)(ha:¬a=t.s):zbh prog 163 [.ptr 3 0,encT t] (dH 8 d (mpG zah x) (mpG (PV.int .i64) y) (mpG ints q)) zb4 fun vh'=>DAt vh' d x y q:=by
 unfold dH encT
 have hl0:¬((r.length:Int)+1=0):=by omega
 refine .zag func163 rfl rfl ?_
 refine .sr ?_
 refine .seq ?_
 refine .drawn (ms:=[0,1,3,7,0,16,63,127,255,255,511,2047]) (W:=[]) (items:=[.op 0,.op 1,.op 2,.op 3,.op 4,.op 5,.op 6,.op 7,.op 8,.op 9,.op 10,.op 11]) rfl zz0 zz0 zz0 ?_
 iterate 12 refine .rx ?_
 refine .done (.seq ?_)
 refine .zac [0,1,2,3,4,5,6,7,8,9] rfl zz0 ?_
 refine .rn [0,1,2] _ ?_
 refine .step rfl rfl (.za2 rfl rfl rfl call158 (by decide) (zfz rfl rfl) (p158 d t.s x y q) (by rintro _ rfl<;>first|(simp;done)|rfl) ?_)
 rintro _ rfl
 rw[hx]
 simp only[Option.getD_none,Option.isSome_none]
 refine .rn [4,5,6,7,8,9] [] ?_
 refine .done (.seq ?_)
 refine .drawn (ms:=[0,1,3,7,0,16,63,127]) (W:=[]) (items:=[.op 0,.op 1,.op 2,.op 3,.op 4,.op 5,.op 6,.op 7]) rfl zz0 zz0 zz0 ?_
 iterate 8 refine .rx ?_
 refine .done (.seq ?_)
 refine .zli (pv:=zb4) (k:=19) (ms:=[0,1,3,7,15,31,63,127,255,511,1023,2047,4095,8191,2047,18431,65535,131071,262143,524287]) (W:=[19]) (ms0:=[0,1,3,7,15,31,63,127,255,511,1023,2047,4095,8191,2047,18431,65535,131071,262143]) (W0:=[]) (items:=[.op 0,.op 1,.op 2,.op 3,.op 4,.op 5,.op 6,.op 7,.op 8,.op 9,.op 10,.op 11,.op 12,.op 13,.op 14,.op 15,.op 16,.op 17,.op 18]) rfl zz0 zz0 zz0 zz0 rfl rfl rfl zz0 ?_
 iterate 19 refine .rx ?_
 refine .done ?_
 refine zc0.call rfl rfl rfl call167 ((zjc _ _ (by first|rfl|simp[*])).mono ?_)
 rintro _ rfl
 exact⟨rfl,rfl,rfl,rfl,rfl⟩
theorem p165 (d:Int)(t:Tu)(x:List (Int×He))(y:List (Int×Int))(q:List (Int×List Int))(hl:∀p l,alk q p=some l→l.length<4294967296)(u z:He)(hu:alk x t.s=some u)(hv:alk x t.o=some z)(hso:¬t.o=t.s)(huv:¬u.p=z.p){yu yv:Int}(hyu:alk y u.p=some yu)(hyv:alk y z.p=some yv)(h1:t.s∉(alk q z.p).getD [])(h2:t.o∉(alk q u.p).getD []):zar prog 165 [.ptr 3 0,encT t] (dH 8 d (mpG zah x) (mpG (PV.int .i64) y) (mpG ints q)) fun v vh'=>v=.tup []∧DAt vh' d (aset (aset x t.s ⟨z.p,u.s,u.a,u.b⟩) t.o ⟨u.p,z.s,z.a,z.b⟩) (aset (aset y z.p t.s) u.p t.o) q:=by
 unfold dH
 unfold encT
 have hX1:zjx .i64 t.s (.agg [.int .i64 z.p,.int .i64 u.s,.int .i64 u.a,.int .i64 u.b]) (mpG zah x)=some (mpG zah (aset x t.s ⟨z.p,u.s,u.a,u.b⟩)):=zat (f:=zah) t.s ⟨z.p,u.s,u.a,u.b⟩ x
 have hX2:∀k,zjx .i64 t.o (.agg [.int .i64 u.p,.int .i64 z.s,.int .i64 z.a,.int .i64 z.b]) (mpG zah k)=some (mpG zah (aset k t.o ⟨u.p,z.s,z.a,z.b⟩)):=fun k=>zat (f:=zah) t.o ⟨u.p,z.s,z.a,z.b⟩ k
 have hv2:∀e,alk (aset x t.s e) t.o=some z:=fun e=>by rw[zcp,if_neg hso,hv]
 have hyu2:∀e,alk (aset y z.p e) u.p=some yu:=fun e=>by rw[zcp,if_neg huv,hyu]
 have hd1:decide (t.s∈(alk q z.p).getD [])=false:=by simpa using h1
 have hd2:decide (t.o∈(alk q u.p).getD [])=false:=by simpa using h2
 refine .zag func165 rfl rfl ?_
 refine .sr ?_
 refine .seq ?_
 refine .zac [0,1,2,3,4,5,6,7,8,9] rfl zz0 ?_
 refine .rn [0,1,2] _ ?_
 refine .step rfl rfl (.za2 rfl rfl rfl call158 (by decide) (zfz rfl rfl) (p158 d t.s x y q) (by rintro _ rfl<;>first|(simp;done)|rfl) ?_)
 rintro _ rfl
 rw[hu]
 simp only[Option.getD_some,Option.isSome_some]
 refine .rn [4,5,6,7,8,9] [] ?_
 refine .done (.seq ?_)
 refine .zac [0,1,2,3,4,5,6,7,8,9] rfl zz0 ?_
 refine .rn [0,1,2] _ ?_
 refine .step rfl rfl (.za2 rfl rfl rfl call158 (by decide) (zfz rfl rfl) (p158 d t.o x y q) (by rintro _ rfl<;>first|(simp;done)|rfl) ?_)
 rintro _ rfl
 rw[hv]
 simp only[Option.getD_some,Option.isSome_some]
 refine .rn [4,5,6,7,8,9] [] ?_
 refine .done (.seq ?_)
 refine .zac [0,1,2,3,4,5,6,7,8,9,10,11,12,13,14,15,16,17,18,19,20,21,22] rfl zz0 ?_
 refine .rn [0,1] _ ?_
 refine .split (t:=23) rfl (fun c23=>?_) (fun c23=>?_)
 ·first|cases c23|cases bnt c23|cases bnf c23|try rw[c23]
  try simp at c23
  refine .rn [2,3,4] _ ?_
  refine .split (t:=26) rfl (fun c26=>?_) (fun c26=>?_)
  ·first|cases c26|cases bnt c26|cases bnf c26|try rw[c26]
   try simp at c26
   refine .rn [5,6,7,8,9] _ ?_
   refine .step rfl rfl (.za2 rfl rfl rfl call160 (by decide) (zj4 rfl rfl) (p160 d t.s z.p x y q (hl z.p)) (by rintro _ rfl<;>first|(simp;done)|rfl) ?_)
   rintro _ rfl
   rw[hd1]
   refine .rn [11,12,13] _ ?_
   refine .split (t:=35) rfl (fun c35=>?_) (fun c35=>?_)
   ·first|cases c35|cases bnt c35|cases bnf c35|try rw[c35]
    try simp at c35
    refine .rn [14,15,16,17,18] _ ?_
    refine .step rfl rfl (.za2 rfl rfl rfl call160 (by decide) (zj4 rfl rfl) (p160 d t.o u.p x y q (hl u.p)) (by rintro _ rfl<;>first|(simp;done)|rfl) ?_)
    rintro _ rfl
    rw[hd2]
    refine .rn [20,21] _ ?_
    refine .pc rfl rfl rfl rfl rfl call167 (zkd _ (by simp)) ?_
    refine .done (.sr ?_)
    refine .seq ?_
    refine .drawn (ms:=[0,1,3,7,0,16,0,64,192,448,0,1024,0,0,1023,17407,54271,122879,253951,524287]) (W:=[14,16,17,19]) (items:=[.op 0,.op 1,.op 2,.op 3,.op 4,.op 5,.op 6,.op 7,.op 8,.op 9,.op 10,.op 11,.op 12,.op 13,.op 14,.ck 13,.ck 12,.ck 11,.op 15,.op 16,.ck 13,.ck 11,.op 17,.ck 13,.op 18,.op 19]) rfl zz0 zz0 zz0 ?_
    iterate 14 refine .rx ?_
    refine .wr rfl rfl (by decide) (.redo (todo':=[13,12,11]) (.mapEntry rfl rfl rfl rfl rfl zz1 (by decide) fun born14=>?_))
    refine⟨⟨⟨by decide +kernel,_,_,_,rfl,rfl,rfl,rfl,zz1⟩,⟨⟨by decide +kernel,_,_,_,rfl,rfl,rfl,rfl,zz1⟩,⟨⟨by decide +kernel,_,_,_,rfl,rfl,rfl,rfl,zz1⟩,trivial⟩⟩⟩,?_⟩
    refine .ck rfl zz0 ?_
    refine .ck rfl zz0 ?_
    refine .ck rfl zz0 ?_
    refine .rx ?_
    refine .wr rfl rfl (by decide) (.redo (todo':=[13,11]) (.entryStore rfl rfl rfl rfl rfl rfl zz1 zz1 rfl ?_))
    refine⟨⟨⟨by decide +kernel,_,_,_,rfl,rfl,rfl,rfl,zz1⟩,⟨⟨by decide +kernel,_,_,_,rfl,rfl,rfl,rfl,zz1⟩,trivial⟩⟩,?_⟩
    refine .ck rfl zz0 ?_
    refine .ck rfl zz0 ?_
    refine .wr rfl rfl (by decide) (.redo (todo':=[13]) (.mapEntry rfl rfl rfl rfl rfl zz1 (by decide) fun born17=>?_))
    refine⟨⟨⟨by decide +kernel,_,_,_,rfl,rfl,rfl,rfl,zz1⟩,trivial⟩,?_⟩
    refine .ck rfl zz0 ?_
    refine .rx ?_
    refine .wr rfl rfl (by decide) (.redo (todo':=[]) (.entryStore rfl rfl rfl rfl rfl rfl zz1 zz1 rfl ?_))
    refine⟨trivial,?_⟩
    refine .done ?_
    refine .drawn (ms:=[0,1,3,7,0,16,0,64,192,448,0,1024,0,4096,0,16384,1023,66559,209919,475135,999423,2097151]) (W:=[16,18,19,21]) (items:=[.op 0,.op 1,.op 2,.op 3,.op 4,.op 5,.op 6,.op 7,.op 8,.op 9,.op 10,.op 11,.op 12,.op 13,.op 14,.op 15,.op 16,.ck 15,.ck 13,.ck 11,.op 17,.op 18,.ck 15,.ck 11,.op 19,.ck 15,.op 20,.op 21]) rfl zz0 zz0 zz0 ?_
    iterate 16 refine .rx ?_
    refine .wr rfl rfl (by decide) (.redo (todo':=[15,13,11]) (.mapEntry rfl rfl rfl rfl rfl zz1 (by decide) fun born16=>?_))
    refine⟨⟨⟨by decide +kernel,_,_,_,rfl,rfl,rfl,rfl,zz1⟩,⟨⟨by decide +kernel,_,_,_,rfl,rfl,rfl,rfl,zz1⟩,⟨⟨by decide +kernel,_,_,_,rfl,rfl,rfl,rfl,zz1⟩,trivial⟩⟩⟩,?_⟩
    refine .ck rfl zz0 ?_
    refine .ck rfl zz0 ?_
    refine .ck rfl zz0 ?_
    refine .rx ?_
    refine .wr rfl rfl (by decide) (.redo (todo':=[15,11]) (.entryStore rfl rfl rfl rfl rfl rfl zz1 zz1 rfl ?_))
    refine⟨⟨⟨by decide +kernel,_,_,_,rfl,rfl,rfl,rfl,zz1⟩,⟨⟨by decide +kernel,_,_,_,rfl,rfl,rfl,rfl,zz1⟩,trivial⟩⟩,?_⟩
    refine .ck rfl zz0 ?_
    refine .ck rfl zz0 ?_
    refine .wr rfl rfl (by decide) (.redo (todo':=[15]) (.mapEntry rfl rfl rfl rfl rfl zz1 (by decide) fun born19=>?_))
    refine⟨⟨⟨by decide +kernel,_,_,_,rfl,rfl,rfl,rfl,zz1⟩,trivial⟩,?_⟩
    refine .ck rfl zz0 ?_
    refine .rx ?_
    refine .wr rfl rfl (by decide) (.redo (todo':=[]) (.entryStore rfl rfl rfl rfl rfl rfl zz1 zz1 rfl ?_))
    refine⟨trivial,?_⟩
    refine .done ?_
    exact⟨[],rfl,rfl,rfl,rfl,rfl,rfl⟩
   first|cases c35|cases bnt c35|cases bnf c35|try rw[c35]
   try simp at c35
  first|cases c26|cases bnt c26|cases bnf c26|try rw[c26]
  try simp at c26
 first|cases c23|cases bnt c23|cases bnf c23|try rw[c23]
 try simp at c23
theorem xd9 (d:Int)(t:Tu)(x:List (Int×He))(y:List (Int×Int))(q:List (Int×List Int))(hl:∀p l,alk q p=some l→l.length<4294967296)(hu:alk x t.s=none):zbh prog 165 [.ptr 3 0,encT t] (dH 8 d (mpG zah x) (mpG (PV.int .i64) y) (mpG ints q)) zb4 fun vh'=>DAt vh' d x y q:=by
 unfold dH encT
 obtain⟨z,hz⟩:∃z,(alk x t.o).getD ⟨0,0,0,0⟩=z:=⟨_,rfl⟩
 obtain⟨bz,hbz⟩:∃b,(alk x t.o).isSome=b:=⟨_,rfl⟩
 refine .zag func165 rfl rfl ?_
 refine .sr ?_
 refine .seq ?_
 refine .zac [0,1,2,3,4,5,6,7,8,9] rfl zz0 ?_
 refine .rn [0,1,2] _ ?_
 refine .step rfl rfl (.za2 rfl rfl rfl call158 (by decide) (zfz rfl rfl) (p158 d t.s x y q) (by rintro _ rfl<;>first|(simp;done)|rfl) ?_)
 rintro _ rfl
 rw[hu]
 simp only[Option.getD_none,Option.isSome_none]
 refine .rn [4,5,6,7,8,9] [] ?_
 refine .done (.seq ?_)
 refine .zac [0,1,2,3,4,5,6,7,8,9] rfl zz0 ?_
 refine .rn [0,1,2] _ ?_
 refine .step rfl rfl (.za2 rfl rfl rfl call158 (by decide) (zfz rfl rfl) (p158 d t.o x y q) (by rintro _ rfl<;>first|(simp;done)|rfl) ?_)
 rintro _ rfl
 rw[hz,hbz]
 refine .rn [4,5,6,7,8,9] [] ?_
 refine .done (.seq ?_)
 refine VW.zfk (pv:=zb4) (l:=[0,1,2,3,4,5,6,7,8,9,10,11,12,13,14,15,16,17,18,19,20,21]) (k:=22) zz0 rfl rfl rfl ?_
 refine .rn [0,1,2,3,4,5,6,7,8,9,10,11,12,13,14,15,16,17,18,19,20,21] [] ?_
 refine .done ?_
 refine zc0.call rfl rfl rfl call167 ((zjc _ _ rfl).mono ?_)
 rintro _ rfl
 exact⟨rfl,rfl,rfl,rfl,rfl⟩
theorem xe0 (d:Int)(t:Tu)(x:List (Int×He))(y:List (Int×Int))(q:List (Int×List Int))(hl:∀p l,alk q p=some l→l.length<4294967296){u:He}(hu:alk x t.s=some u)(hv:alk x t.o=none):zbh prog 165 [.ptr 3 0,encT t] (dH 8 d (mpG zah x) (mpG (PV.int .i64) y) (mpG ints q)) zb4 fun vh'=>DAt vh' d x y q:=by
 unfold dH encT
 refine .zag func165 rfl rfl ?_
 refine .sr ?_
 refine .seq ?_
 refine .zac [0,1,2,3,4,5,6,7,8,9] rfl zz0 ?_
 refine .rn [0,1,2] _ ?_
 refine .step rfl rfl (.za2 rfl rfl rfl call158 (by decide) (zfz rfl rfl) (p158 d t.s x y q) (by rintro _ rfl<;>first|(simp;done)|rfl) ?_)
 rintro _ rfl
 rw[hu]
 simp only[Option.getD_some,Option.isSome_some]
 refine .rn [4,5,6,7,8,9] [] ?_
 refine .done (.seq ?_)
 refine .zac [0,1,2,3,4,5,6,7,8,9] rfl zz0 ?_
 refine .rn [0,1,2] _ ?_
 refine .step rfl rfl (.za2 rfl rfl rfl call158 (by decide) (zfz rfl rfl) (p158 d t.o x y q) (by rintro _ rfl<;>first|(simp;done)|rfl) ?_)
 rintro _ rfl
 rw[hv]
 simp only[Option.getD_none,Option.isSome_none]
 refine .rn [4,5,6,7,8,9] [] ?_
 refine .done (.seq ?_)
 refine VW.zfk (pv:=zb4) (l:=[0,1,2,3,4,5,6,7,8,9,10,11,12,13,14,15,16,17,18,19,20,21]) (k:=22) zz0 rfl rfl rfl ?_
 refine .rn [0,1,2,3,4,5,6,7,8,9,10,11,12,13,14,15,16,17,18,19,20,21] [] ?_
 refine .done ?_
 refine zc0.call rfl rfl rfl call167 ((zjc _ _ rfl).mono ?_)
 rintro _ rfl
 exact⟨rfl,rfl,rfl,rfl,rfl⟩
theorem xcu (d:Int)(t:Tu)(x:List (Int×He))(y:List (Int×Int))(q:List (Int×List Int))(hl:∀p l,alk q p=some l→l.length<4294967296){u z:He}(hu:alk x t.s=some u)(hv:alk x t.o=some z)(h1:t.s∈(alk q z.p).getD []):zbh prog 165 [.ptr 3 0,encT t] (dH 8 d (mpG zah x) (mpG (PV.int .i64) y) (mpG ints q)) zb4 fun vh'=>DAt vh' d x y q:=by
 unfold dH encT
 have hd1:decide (t.s∈(alk q z.p).getD [])=true:=by simpa using h1
 refine .zag func165 rfl rfl ?_
 refine .sr ?_
 refine .seq ?_
 refine .zac [0,1,2,3,4,5,6,7,8,9] rfl zz0 ?_
 refine .rn [0,1,2] _ ?_
 refine .step rfl rfl (.za2 rfl rfl rfl call158 (by decide) (zfz rfl rfl) (p158 d t.s x y q) (by rintro _ rfl<;>first|(simp;done)|rfl) ?_)
 rintro _ rfl
 rw[hu]
 simp only[Option.getD_some,Option.isSome_some]
 refine .rn [4,5,6,7,8,9] [] ?_
 refine .done (.seq ?_)
 refine .zac [0,1,2,3,4,5,6,7,8,9] rfl zz0 ?_
 refine .rn [0,1,2] _ ?_
 refine .step rfl rfl (.za2 rfl rfl rfl call158 (by decide) (zfz rfl rfl) (p158 d t.o x y q) (by rintro _ rfl<;>first|(simp;done)|rfl) ?_)
 rintro _ rfl
 rw[hv]
 simp only[Option.getD_some,Option.isSome_some]
 refine .rn [4,5,6,7,8,9] [] ?_
 refine .done (.seq ?_)
 refine VW.zfk (pv:=zb4) (l:=[0,1,2,3,4,5,6,7,8,9,10,11,12,13,14,15,16,17,18,19,20,21]) (k:=22) zz0 rfl rfl rfl ?_
 refine .rn [0,1,2,3,4,5,6,7,8,9] _ ?_
 refine .step rfl rfl (.za2 rfl rfl rfl call160 (by decide) (zj4 rfl rfl) (p160 d t.s z.p x y q (hl z.p)) (by rintro _ rfl<;>first|(simp;done)|rfl) ?_)
 rintro _ rfl
 rw[hd1]
 refine .rn [11,12,13,14,15,16,17,18,19,20,21] [] ?_
 refine .done ?_
 refine zc0.call rfl rfl rfl call167 ((zjc _ _ rfl).mono ?_)
 rintro _ rfl
 exact⟨rfl,rfl,rfl,rfl,rfl⟩
theorem xda (d:Int)(t:Tu)(x:List (Int×He))(y:List (Int×Int))(q:List (Int×List Int))(hl:∀p l,alk q p=some l→l.length<4294967296){u z:He}(hu:alk x t.s=some u)(hv:alk x t.o=some z)(h1:t.s∉(alk q z.p).getD [])(h2:t.o∈(alk q u.p).getD []):zbh prog 165 [.ptr 3 0,encT t] (dH 8 d (mpG zah x) (mpG (PV.int .i64) y) (mpG ints q)) zb4 fun vh'=>DAt vh' d x y q:=by
 unfold dH encT
 have hd1:decide (t.s∈(alk q z.p).getD [])=false:=by simpa using h1
 have hd2:decide (t.o∈(alk q u.p).getD [])=true:=by simpa using h2
 refine .zag func165 rfl rfl ?_
 refine .sr ?_
 refine .seq ?_
 refine .zac [0,1,2,3,4,5,6,7,8,9] rfl zz0 ?_
 refine .rn [0,1,2] _ ?_
 refine .step rfl rfl (.za2 rfl rfl rfl call158 (by decide) (zfz rfl rfl) (p158 d t.s x y q) (by rintro _ rfl<;>first|(simp;done)|rfl) ?_)
 rintro _ rfl
 rw[hu]
 simp only[Option.getD_some,Option.isSome_some]
 refine .rn [4,5,6,7,8,9] [] ?_
 refine .done (.seq ?_)
 refine .zac [0,1,2,3,4,5,6,7,8,9] rfl zz0 ?_
 refine .rn [0,1,2] _ ?_
 refine .step rfl rfl (.za2 rfl rfl rfl call158 (by decide) (zfz rfl rfl) (p158 d t.o x y q) (by rintro _ rfl<;>first|(simp;done)|rfl) ?_)
 rintro _ rfl
 rw[hv]
 simp only[Option.getD_some,Option.isSome_some]
 refine .rn [4,5,6,7,8,9] [] ?_
 refine .done (.seq ?_)
 refine VW.zfk (pv:=zb4) (l:=[0,1,2,3,4,5,6,7,8,9,10,11,12,13,14,15,16,17,18,19,20,21]) (k:=22) zz0 rfl rfl rfl ?_
 refine .rn [0,1,2,3,4,5,6,7,8,9] _ ?_
 refine .step rfl rfl (.za2 rfl rfl rfl call160 (by decide) (zj4 rfl rfl) (p160 d t.s z.p x y q (hl z.p)) (by rintro _ rfl<;>first|(simp;done)|rfl) ?_)
 rintro _ rfl
 rw[hd1]
 refine .rn [11,12,13,14,15,16,17,18] _ ?_
 refine .step rfl rfl (.za2 rfl rfl rfl call160 (by decide) (zj4 rfl rfl) (p160 d t.o u.p x y q (hl u.p)) (by rintro _ rfl<;>first|(simp;done)|rfl) ?_)
 rintro _ rfl
 rw[hd2]
 refine .rn [20,21] [] ?_
 refine .done ?_
 refine zc0.call rfl rfl rfl call167 ((zjc _ _ rfl).mono ?_)
 rintro _ rfl
 exact⟨rfl,rfl,rfl,rfl,rfl⟩
theorem DAt.back {vh:zab}{d:Int}{x:List (Int×He)}{y:List (Int×Int)}{q:List (Int×List Int)}(h:DAt vh d x y q){i:Nat}(z:VObj)(hi:3<i):DAt (vh.back i z) d x y q:=
 ⟨by rw[zab.zbw,if_neg (by omega)];exact h.h3,by rw[zab.zbw,if_neg (by omega)];exact h.h2,by rw[zab.zbw,if_neg (by omega)];exact h.h1,by rw[zab.zbw,if_neg (by omega)];exact h.h0⟩
theorem z0q {vh:zab}{d:Int}{x:List (Int×He)}{y:List (Int×Int)}{q:List (Int×List Int)}(h:DAt vh d x y q)(u w:VObj):∀j z,(⟨vh.next,[(6,w),(3,.box [.int .i64 d,.mapv 0,.mapv 1,.mapv 2]),(2,.map (mpG ints q)),(1,.map (mpG (PV.int .i64) y)),(0,.map (mpG zah x))]⟩:zab).get j=some z→((vh.back 7 u).back 6 w).get j=some z:=by
 intro j z hz
 rw[zab.zbw,zab.zbw]
 simp only[zab.get,zbl,beq_eq] at hz
 by_cases h6:j=6
 ·subst h6;simpa using hz
 by_cases h3:j=3
 ·subst h3;simp at hz;subst hz;rw[if_neg (by decide),if_neg (by decide)];exact h.h3
 by_cases h2:j=2
 ·subst h2;simp at hz;subst hz;rw[if_neg (by decide),if_neg (by decide)];exact h.h2
 by_cases h1:j=1
 ·subst h1;simp at hz;subst hz;rw[if_neg (by decide),if_neg (by decide)];exact h.h1
 by_cases h0:j=0
 ·subst h0;simp at hz;subst hz;rw[if_neg (by decide),if_neg (by decide)];exact h.h0
 simp[h6,h3,h2,h1,h0] at hz
def z6a:List (PV×PV):=[(.int .i64 1,.func 162 [.ptr 3 0] []),(.int .i64 2,.func 163 [.ptr 3 0] []),(.int .i64 3,.func 164 [.ptr 3 0] []),(.int .i64 4,.func 165 [.ptr 3 0] []),(.int .i64 5,.func 166 [.ptr 3 0] [])]
theorem zw6 (d:Int)(t:Tu)(x:List (Int×He))(y:List (Int×Int))(q:List (Int×List Int))(f:FuncId)(hcf:∀cs w,(callFunc f cs).run prog w=.ok (.enter f cs) w)(hfi:zgy .i64 t.k z6a=some (some (.func f [.ptr 3 0] [])))(hday:d≤t.d){x':List (Int×He)}{y':List (Int×Int)}{q':List (Int×List Int)}(hm:zar prog f [.ptr 3 0,encT t] (dH 8 d (mpG zah x) (mpG (PV.int .i64) y) (mpG ints q)) fun v vh'=>v=.tup []∧DAt vh' d x' y' q'):zar prog 137 [.ptr 3 0,encT t] (dH 6 d (mpG zah x) (mpG (PV.int .i64) y) (mpG ints q)) fun v vh'=>v=.tup []∧DAt vh' t.d x' y' q':=by
 unfold dH encT
 refine .zag func137 rfl rfl ?_
 refine .sr ?_
 refine .seq ?_
 refine .zac [0,1,2,3,4,5,6,7,8,9,10,11,12,13,14,15,16,17] rfl zz0 ?_
 refine .rn [0,1,2] _ ?_
 refine .step rfl rfl (.zec rfl rfl rfl rfl rfl rfl rfl rfl (by decide) ?_)
 refine .rn [4,5] _ ?_
 refine .step rfl rfl (.zec rfl rfl rfl rfl rfl rfl rfl rfl (by decide) ?_)
 refine .rn [7,8] _ ?_
 refine .step rfl rfl (.zec rfl rfl rfl rfl rfl rfl rfl rfl (by decide) ?_)
 refine .rn [10,11] _ ?_
 refine .step rfl rfl (.zec rfl rfl rfl rfl rfl rfl rfl rfl (by decide) ?_)
 refine .rn [13,14] _ ?_
 refine .step rfl rfl (.zec rfl rfl rfl rfl rfl rfl rfl rfl (by decide) ?_)
 refine .rn [16,17] [] ?_
 refine .done (.seq ?_)
 refine .drawn (ms:=[0,1,0,4,12,28,63,127]) (W:=[7]) (items:=[.op 0,.op 1,.op 2,.op 3,.op 4,.op 5,.op 6,.op 7]) rfl zz0 zz0 zz0 ?_
 iterate 7 refine .rx ?_
 refine .wp rfl rfl rfl rfl rfl call167 (zkd _ (by simp[*])) ?_
 refine .done (.seq ?_)
 refine .zac [0,1,2,3,4,5] rfl zz0 ?_
 refine .rn [0,1,2] _ ?_
 refine .step rfl rfl (.zwo rfl rfl rfl rfl rfl rfl hfi (by decide) ?_)
 refine .rn [4] _ ?_
 refine .step rfl rfl (.call rfl rfl rfl hcf (by decide) ((zar.frame (i:=6) rfl rfl (zar.frame (i:=7) rfl rfl hm)).mono ?_))
 rintro _ _ ⟨_,⟨vh1,⟨rfl,hD⟩,rfl⟩,rfl⟩
 refine .done ?_
 refine VW.forget (z0q hD _ _) rfl ?_
 refine .rn ?_
 exact⟨[],rfl,rfl,rfl,rfl,rfl,rfl⟩
theorem zyb (d:Int)(t:Tu)(x:List (Int×He))(y:List (Int×Int))(q:List (Int×List Int))(f:FuncId)(hcf:∀cs w,(callFunc f cs).run prog w=.ok (.enter f cs) w)(hfi:zgy .i64 t.k z6a=some (some (.func f [.ptr 3 0] [])))(hday:d≤t.d)(hm:zbh prog f [.ptr 3 0,encT t] (dH 8 d (mpG zah x) (mpG (PV.int .i64) y) (mpG ints q)) zb4 fun vh'=>DAt vh' d x y q):zbh prog 137 [.ptr 3 0,encT t] (dH 6 d (mpG zah x) (mpG (PV.int .i64) y) (mpG ints q)) zb4 fun vh'=>DAt vh' d x y q:=by
 unfold dH encT
 refine .zag func137 rfl rfl ?_
 refine .sr ?_
 refine .seq ?_
 refine .zac [0,1,2,3,4,5,6,7,8,9,10,11,12,13,14,15,16,17] rfl zz0 ?_
 refine .rn [0,1,2] _ ?_
 refine .step rfl rfl (.zec rfl rfl rfl rfl rfl rfl rfl rfl (by decide) ?_)
 refine .rn [4,5] _ ?_
 refine .step rfl rfl (.zec rfl rfl rfl rfl rfl rfl rfl rfl (by decide) ?_)
 refine .rn [7,8] _ ?_
 refine .step rfl rfl (.zec rfl rfl rfl rfl rfl rfl rfl rfl (by decide) ?_)
 refine .rn [10,11] _ ?_
 refine .step rfl rfl (.zec rfl rfl rfl rfl rfl rfl rfl rfl (by decide) ?_)
 refine .rn [13,14] _ ?_
 refine .step rfl rfl (.zec rfl rfl rfl rfl rfl rfl rfl rfl (by decide) ?_)
 refine .rn [16,17] [] ?_
 refine .done (.seq ?_)
 refine .drawn (ms:=[0,1,0,4,12,28,63,127]) (W:=[7]) (items:=[.op 0,.op 1,.op 2,.op 3,.op 4,.op 5,.op 6,.op 7]) rfl zz0 zz0 zz0 ?_
 iterate 7 refine .rx ?_
 refine .wp rfl rfl rfl rfl rfl call167 (zkd _ (by simp[*])) ?_
 refine .done (.seq ?_)
 refine VW.zfk (pv:=zb4) (l:=[0,1,2,3,4]) (k:=5) zz0 rfl rfl rfl ?_
 refine .rn [0,1,2] _ ?_
 refine .step rfl rfl (.zwo rfl rfl rfl rfl rfl rfl hfi (by decide) ?_)
 refine .rn [4] [] ?_
 refine .done ?_
 refine zc0.call rfl rfl rfl hcf ((zbh.frame (i:=6) rfl rfl (zbh.frame (i:=7) rfl rfl hm)).mono ?_)
 rintro _ ⟨_,⟨vh1,hD,rfl⟩,rfl⟩
 exact⟨rfl,hD.back _ (by decide) |>.back _ (by decide)⟩
theorem z1e (d:Int)(t:Tu)(x:List (Int×He))(y:List (Int×Int))(q:List (Int×List Int))(hk:t.k=1)(hday:d≤t.d){x':List (Int×He)}{y':List (Int×Int)}{q':List (Int×List Int)}(hm:zar prog 162 [.ptr 3 0,encT t] (dH 8 d (mpG zah x) (mpG (PV.int .i64) y) (mpG ints q)) fun v vh'=>v=.tup []∧DAt vh' d x' y' q'):zar prog 137 [.ptr 3 0,encT t] (dH 6 d (mpG zah x) (mpG (PV.int .i64) y) (mpG ints q)) fun v vh'=>v=.tup []∧DAt vh' t.d x' y' q':=zw6 d t x y q 162 call162 (by rw[hk];rfl) hday hm
theorem z1n (d:Int)(t:Tu)(x:List (Int×He))(y:List (Int×Int))(q:List (Int×List Int))(hk:t.k=1)(hday:d≤t.d)(hm:zbh prog 162 [.ptr 3 0,encT t] (dH 8 d (mpG zah x) (mpG (PV.int .i64) y) (mpG ints q)) zb4 fun vh'=>DAt vh' d x y q):zbh prog 137 [.ptr 3 0,encT t] (dH 6 d (mpG zah x) (mpG (PV.int .i64) y) (mpG ints q)) zb4 fun vh'=>DAt vh' d x y q:=zyb d t x y q 162 call162 (by rw[hk];rfl) hday hm
theorem z1o (d:Int)(t:Tu)(x:List (Int×He))(y:List (Int×Int))(q:List (Int×List Int))(hk:t.k=2)(hday:d≤t.d){x':List (Int×He)}{y':List (Int×Int)}{q':List (Int×List Int)}(hm:zar prog 163 [.ptr 3 0,encT t] (dH 8 d (mpG zah x) (mpG (PV.int .i64) y) (mpG ints q)) fun v vh'=>v=.tup []∧DAt vh' d x' y' q'):zar prog 137 [.ptr 3 0,encT t] (dH 6 d (mpG zah x) (mpG (PV.int .i64) y) (mpG ints q)) fun v vh'=>v=.tup []∧DAt vh' t.d x' y' q':=zw6 d t x y q 163 call163 (by rw[hk];rfl) hday hm
theorem z8e (d:Int)(t:Tu)(x:List (Int×He))(y:List (Int×Int))(q:List (Int×List Int))(hk:t.k=2)(hday:d≤t.d)(hm:zbh prog 163 [.ptr 3 0,encT t] (dH 8 d (mpG zah x) (mpG (PV.int .i64) y) (mpG ints q)) zb4 fun vh'=>DAt vh' d x y q):zbh prog 137 [.ptr 3 0,encT t] (dH 6 d (mpG zah x) (mpG (PV.int .i64) y) (mpG ints q)) zb4 fun vh'=>DAt vh' d x y q:=zyb d t x y q 163 call163 (by rw[hk];rfl) hday hm
theorem z5r (d:Int)(t:Tu)(x:List (Int×He))(y:List (Int×Int))(q:List (Int×List Int))(hk:t.k=3)(hday:d≤t.d){x':List (Int×He)}{y':List (Int×Int)}{q':List (Int×List Int)}(hm:zar prog 164 [.ptr 3 0,encT t] (dH 8 d (mpG zah x) (mpG (PV.int .i64) y) (mpG ints q)) fun v vh'=>v=.tup []∧DAt vh' d x' y' q'):zar prog 137 [.ptr 3 0,encT t] (dH 6 d (mpG zah x) (mpG (PV.int .i64) y) (mpG ints q)) fun v vh'=>v=.tup []∧DAt vh' t.d x' y' q':=zw6 d t x y q 164 call164 (by rw[hk];rfl) hday hm
theorem xad (d:Int)(t:Tu)(x:List (Int×He))(y:List (Int×Int))(q:List (Int×List Int))(hk:t.k=3)(hday:d≤t.d)(hm:zbh prog 164 [.ptr 3 0,encT t] (dH 8 d (mpG zah x) (mpG (PV.int .i64) y) (mpG ints q)) zb4 fun vh'=>DAt vh' d x y q):zbh prog 137 [.ptr 3 0,encT t] (dH 6 d (mpG zah x) (mpG (PV.int .i64) y) (mpG ints q)) zb4 fun vh'=>DAt vh' d x y q:=zyb d t x y q 164 call164 (by rw[hk];rfl) hday hm
theorem z8a (d:Int)(t:Tu)(x:List (Int×He))(y:List (Int×Int))(q:List (Int×List Int))(hk:t.k=4)(hday:d≤t.d){x':List (Int×He)}{y':List (Int×Int)}{q':List (Int×List Int)}(hm:zar prog 165 [.ptr 3 0,encT t] (dH 8 d (mpG zah x) (mpG (PV.int .i64) y) (mpG ints q)) fun v vh'=>v=.tup []∧DAt vh' d x' y' q'):zar prog 137 [.ptr 3 0,encT t] (dH 6 d (mpG zah x) (mpG (PV.int .i64) y) (mpG ints q)) fun v vh'=>v=.tup []∧DAt vh' t.d x' y' q':=zw6 d t x y q 165 call165 (by rw[hk];rfl) hday hm
theorem z7y (d:Int)(t:Tu)(x:List (Int×He))(y:List (Int×Int))(q:List (Int×List Int))(hk:t.k=4)(hday:d≤t.d)(hm:zbh prog 165 [.ptr 3 0,encT t] (dH 8 d (mpG zah x) (mpG (PV.int .i64) y) (mpG ints q)) zb4 fun vh'=>DAt vh' d x y q):zbh prog 137 [.ptr 3 0,encT t] (dH 6 d (mpG zah x) (mpG (PV.int .i64) y) (mpG ints q)) zb4 fun vh'=>DAt vh' d x y q:=zyb d t x y q 165 call165 (by rw[hk];rfl) hday hm
theorem z8k (d:Int)(t:Tu)(x:List (Int×He))(y:List (Int×Int))(q:List (Int×List Int))(hk:t.k=5)(hday:d≤t.d){x':List (Int×He)}{y':List (Int×Int)}{q':List (Int×List Int)}(hm:zar prog 166 [.ptr 3 0,encT t] (dH 8 d (mpG zah x) (mpG (PV.int .i64) y) (mpG ints q)) fun v vh'=>v=.tup []∧DAt vh' d x' y' q'):zar prog 137 [.ptr 3 0,encT t] (dH 6 d (mpG zah x) (mpG (PV.int .i64) y) (mpG ints q)) fun v vh'=>v=.tup []∧DAt vh' t.d x' y' q':=zw6 d t x y q 166 call166 (by rw[hk];rfl) hday hm
theorem z9w (d:Int)(t:Tu)(x:List (Int×He))(y:List (Int×Int))(q:List (Int×List Int))(hk:t.k=5)(hday:d≤t.d)(hm:zbh prog 166 [.ptr 3 0,encT t] (dH 8 d (mpG zah x) (mpG (PV.int .i64) y) (mpG ints q)) zb4 fun vh'=>DAt vh' d x y q):zbh prog 137 [.ptr 3 0,encT t] (dH 6 d (mpG zah x) (mpG (PV.int .i64) y) (mpG ints q)) zb4 fun vh'=>DAt vh' d x y q:=zyb d t x y q 166 call166 (by rw[hk];rfl) hday hm
theorem xd3 (d:Int)(t:Tu)(x:List (Int×He))(y:List (Int×Int))(q:List (Int×List Int))(hday:t.d<d):zbh prog 137 [.ptr 3 0,encT t] (dH 6 d (mpG zah x) (mpG (PV.int .i64) y) (mpG ints q)) zb4 fun vh'=>DAt vh' d x y q:=by
 unfold dH encT
 refine .zag func137 rfl rfl ?_
 refine .sr ?_
 refine .seq ?_
 refine .zac [0,1,2,3,4,5,6,7,8,9,10,11,12,13,14,15,16,17] rfl zz0 ?_
 refine .rn [0,1,2] _ ?_
 refine .step rfl rfl (.zec rfl rfl rfl rfl rfl rfl rfl rfl (by decide) ?_)
 refine .rn [4,5] _ ?_
 refine .step rfl rfl (.zec rfl rfl rfl rfl rfl rfl rfl rfl (by decide) ?_)
 refine .rn [7,8] _ ?_
 refine .step rfl rfl (.zec rfl rfl rfl rfl rfl rfl rfl rfl (by decide) ?_)
 refine .rn [10,11] _ ?_
 refine .step rfl rfl (.zec rfl rfl rfl rfl rfl rfl rfl rfl (by decide) ?_)
 refine .rn [13,14] _ ?_
 refine .step rfl rfl (.zec rfl rfl rfl rfl rfl rfl rfl rfl (by decide) ?_)
 refine .rn [16,17] [] ?_
 refine .done (.seq ?_)
 refine VW.zli (pv:=zb4) (k:=7) (ms:=[0,1,0,4,12,28,63,127]) (W:=[7]) (ms0:=[0,1,0,4,12,28,63]) (W0:=[]) (items:=[.op 0,.op 1,.op 2,.op 3,.op 4,.op 5,.op 6]) rfl zz0 zz0 zz0 zz0 rfl rfl rfl zz0 ?_
 iterate 7 refine .rx ?_
 refine .done ?_
 refine zc0.call rfl rfl rfl call167 ((zjc _ _ (by simp[hday])).mono ?_)
 rintro _ rfl
 exact⟨rfl,rfl,rfl,rfl,rfl⟩
end Go.Am.Hi
end
section
namespace Go.Am.Hi
open Go Go.Am Go.Proofs Tryz
structure Dk where
  d:Int
  x:List (Int×He)
  y:List (Int×Int)
  q:List (Int×List Int)
def Dk.line (D:Dk)(p:Int):List Int:=(alk D.q p).getD []
def zf3 (D:Dk)(t:Tu):Option Dk:=
 if t.d<D.d then none
 else if t.k=1 then
  match alk D.x t.s with
  |some u=>if u.p=t.p∨t.s∈D.line t.p then none else some ⟨t.d,D.x,D.y,aset D.q t.p (D.line t.p++[t.s])⟩
  |none=>if t.s∈D.line t.p then none else some ⟨t.d,D.x,D.y,aset D.q t.p (D.line t.p++[t.s])⟩
 else if t.k=2 then
  match alk D.y t.p,alk D.x t.s with
  |none,none=>match D.line t.p with
   |[]=>some ⟨t.d,aset D.x t.s ⟨t.p,t.s,t.d,t.d+7*t.w⟩,aset D.y t.p t.s,aset D.q t.p (outS (D.line t.p) t.s)⟩
   |a::_=>if a=t.s then some ⟨t.d,aset D.x t.s ⟨t.p,t.s,t.d,t.d+7*t.w⟩,aset D.y t.p t.s,aset D.q t.p (outS (D.line t.p) t.s)⟩ else none
  |_,_=>none
 else if t.k=3 then
  match alk D.x t.s with
  |some u=>if u.p=t.p then some ⟨t.d,adl D.x t.s,adl D.y t.p,D.q⟩ else none
  |none=>none
 else if t.k=4 then
  match alk D.x t.s,alk D.x t.o with
  |some u,some z=>if t.s∈D.line z.p∨t.o∈D.line u.p then none
   else some ⟨t.d,aset (aset D.x t.s ⟨z.p,u.s,u.a,u.b⟩) t.o ⟨u.p,z.s,z.a,z.b⟩,aset (aset D.y z.p t.s) u.p t.o,D.q⟩
  |_,_=>none
 else if t.k=5 then
  if t.s∈D.line t.p then some ⟨t.d,D.x,D.y,aset D.q t.p (outS (D.line t.p) t.s)⟩ else none
 else none
structure znk (t:Tu):Prop where
  k:t.k=1∨t.k=2∨t.k=3∨t.k=4∨t.k=5
  d:0≤t.d∧t.d≤730
  w:t.k=2→0≤t.w∧t.w≤40
  o:t.k=4→¬t.o=t.s
structure Inv (D:Dk) (n:Nat):Prop where
  xy:∀s u,alk D.x s=some u→alk D.y u.p=some s∧u.s=s
  yx:∀p s,alk D.y p=some s→∃u,alk D.x s=some u∧u.p=p
  len:∀p l,alk D.q p=some l→l.length≤n
theorem Inv.line {D:Dk}{n:Nat}(h:Inv D n)(p:Int):(D.line p).length≤n:=by
 unfold Dk.line
 cases hq:alk D.q p with
 |none=>simp
 |some l=>exact h.len p l hq
theorem Inv.start:Inv ⟨0,[],[],[]⟩ 0:=⟨fun s u h=>by simp[alk] at h,fun p s h=>by simp[alk] at h,fun p l h=>by simp[alk] at h⟩
theorem zqd (l:List Int)(s:Int):(outS l s).length≤l.length:=List.length_filter_le _ _
theorem Inv.setq {D:Dk}{n m:Nat}(h:Inv D n){d p:Int}{l:List Int}(hl:l.length≤m)(hn:n≤m):Inv ⟨d,D.x,D.y,aset D.q p l⟩ m:=
 ⟨h.xy,h.yx,fun p' l' h'=>by
  rw[zcp] at h'
  by_cases hp:p'=p
  ·rw[if_pos hp] at h';injection h' with h';subst h';exact hl
  rw[if_neg hp] at h';exact Nat.le_trans (h.len p' l' h') hn⟩
theorem ztl {D:Dk}{n:Nat}(h:Inv D n){t:Tu}(hy:alk D.y t.p=none)(hx:alk D.x t.s=none):Inv ⟨t.d,aset D.x t.s ⟨t.p,t.s,t.d,t.d+7*t.w⟩,aset D.y t.p t.s,aset D.q t.p (outS (D.line t.p) t.s)⟩ (n+1):=by
 have h1:=Inv.setq (d:=t.d) (p:=t.p) (l:=outS (D.line t.p) t.s) h (Nat.le_trans (zqd _ _) (Nat.le_trans (h.line t.p) (Nat.le_succ n))) (Nat.le_succ n)
 refine⟨fun s u hs=>?_,fun p s hp=>?_,h1.len⟩
 ·rw[zcp] at hs ⊢
  by_cases he:s=t.s
  ·rw[if_pos he] at hs;injection hs with hs;subst hs;exact⟨by simp[he],he.symm⟩
  rw[if_neg he] at hs
  obtain⟨h2,h3⟩:=h.xy s u hs
  have:¬u.p=t.p:=fun hh=>by rw[hh,hy] at h2;cases h2
  exact⟨by simp only[if_neg this];exact h2,h3⟩
 rw[zcp] at hp
 by_cases he:p=t.p
 ·rw[if_pos he] at hp;injection hp with hp;subst hp;exact⟨⟨t.p,t.s,t.d,t.d+7*t.w⟩,by rw[zcp,if_pos rfl],he.symm⟩
 rw[if_neg he] at hp
 obtain⟨u,h2,h3⟩:=h.yx p s hp
 have:¬s=t.s:=fun hh=>by rw[hh,hx] at h2;cases h2
 exact⟨u,by rw[zcp,if_neg this];exact h2,h3⟩
theorem zzj {D:Dk}{n:Nat}(h:Inv D n){t:Tu}{u:He}(hu:alk D.x t.s=some u)(hp:u.p=t.p):Inv ⟨t.d,adl D.x t.s,adl D.y t.p,D.q⟩ (n+1):=by
 refine⟨fun s z hs=>?_,fun p s hps=>?_,fun p l hl=>Nat.le_trans (h.len p l hl) (Nat.le_succ n)⟩
 ·rw[zih] at hs ⊢
  by_cases he:s=t.s
  ·rw[if_pos he] at hs;cases hs
  rw[if_neg he] at hs
  obtain⟨h2,h3⟩:=h.xy s z hs
  have:¬z.p=t.p:=fun hh=>by
   rw[hh,← hp,(h.xy t.s u hu).1] at h2;injection h2 with h2;exact he h2.symm
  exact⟨by simp only[if_neg this];exact h2,h3⟩
 rw[zih] at hps
 by_cases he:p=t.p
 ·rw[if_pos he] at hps;cases hps
 rw[if_neg he] at hps
 obtain⟨z,h2,h3⟩:=h.yx p s hps
 have:¬s=t.s:=fun hh=>by
  rw[hh,hu] at h2;injection h2 with h2;subst h2;exact he (h3.symm.trans hp)
 exact⟨z,by rw[zih,if_neg this];exact h2,h3⟩
theorem zyt {D:Dk}{n:Nat}(h:Inv D n){s o:Int}{u z:He}(hu:alk D.x s=some u)(hz:alk D.x o=some z)(hso:¬o=s):¬u.p=z.p:=fun hh=>by
 have h1:=(h.xy s u hu).1
 have h2:=(h.xy o z hz).1
 rw[hh,h2] at h1;injection h1 with h1;exact hso h1
theorem z1c {D:Dk}{n:Nat}(h:Inv D n){t:Tu}{u z:He}(hu:alk D.x t.s=some u)(hz:alk D.x t.o=some z)(hso:¬t.o=t.s):Inv ⟨t.d,aset (aset D.x t.s ⟨z.p,u.s,u.a,u.b⟩) t.o ⟨u.p,z.s,z.a,z.b⟩,aset (aset D.y z.p t.s) u.p t.o,D.q⟩ (n+1):=by
 have hne:=zyt h hu hz hso
 have hu2:=h.xy t.s u hu
 have hz2:=h.xy t.o z hz
 refine⟨fun s v hs=>?_,fun p s hps=>?_,fun p l hl=>Nat.le_trans (h.len p l hl) (Nat.le_succ n)⟩
 ·simp only[zcp] at hs ⊢
  by_cases he:s=t.o
  ·rw[if_pos he] at hs;injection hs with hs;subst hs
   exact⟨by simp[he],by simp[he,hz2.2]⟩
  rw[if_neg he] at hs
  by_cases he2:s=t.s
  ·rw[if_pos he2] at hs;injection hs with hs;subst hs
   have:¬z.p=u.p:=fun hh=>hne hh.symm
   exact⟨by simp[he2,this],by simp[he2,hu2.2]⟩
  rw[if_neg he2] at hs
  obtain⟨h2,h3⟩:=h.xy s v hs
  have n1:¬v.p=u.p:=fun hh=>by rw[hh,hu2.1] at h2;injection h2 with h2;exact he2 h2.symm
  have n2:¬v.p=z.p:=fun hh=>by rw[hh,hz2.1] at h2;injection h2 with h2;exact he h2.symm
  exact⟨by simp only[if_neg n1,if_neg n2];exact h2,h3⟩
 simp only[zcp] at hps ⊢
 by_cases he:p=u.p
 ·rw[if_pos he] at hps;injection hps with hps;subst hps
  exact⟨⟨u.p,z.s,z.a,z.b⟩,by simp,he.symm⟩
 rw[if_neg he] at hps
 by_cases he2:p=z.p
 ·rw[if_pos he2] at hps;injection hps with hps;subst hps
  have:¬t.s=t.o:=fun hh=>hso hh.symm
  exact⟨⟨z.p,u.s,u.a,u.b⟩,by simp[this],he2.symm⟩
 rw[if_neg he2] at hps
 obtain⟨v,h2,h3⟩:=h.yx p s hps
 have n1:¬s=t.o:=fun hh=>by
  rw[hh,hz] at h2;injection h2 with h2;subst h2;exact he2 h3.symm
 have n2:¬s=t.s:=fun hh=>by
  rw[hh,hu] at h2;injection h2 with h2;subst h2;exact he h3.symm
 exact⟨v,by simp only[if_neg n1,if_neg n2];exact h2,h3⟩
theorem zkb {D D':Dk}{n:Nat}(h:Inv D n){t:Tu}(ht:znk t)(hs:zf3 D t=some D'):Inv D' (n+1)∧D'.d=t.d∧D.d≤t.d:=by
 unfold zf3 at hs
 split at hs
 ·cases hs
 rename_i hd
 refine⟨?_,?_,by omega⟩
 ·split at hs
  ·split at hs
   ·split at hs
    ·cases hs
    injection hs with hs;subst hs;exact h.setq (by simp only[List.length_append,List.length_cons,List.length_nil];have:=h.line t.p;omega) (Nat.le_succ n)
   split at hs
   ·cases hs
   injection hs with hs;subst hs;exact h.setq (by simp only[List.length_append,List.length_cons,List.length_nil];have:=h.line t.p;omega) (Nat.le_succ n)
  split at hs
  ·split at hs
   ·rename_i hy hx
    split at hs
    ·injection hs with hs;subst hs;exact ztl h hy hx
    split at hs
    ·injection hs with hs;subst hs;exact ztl h hy hx
    cases hs
   cases hs
  split at hs
  ·split at hs
   ·rename_i u hu
    split at hs
    ·rename_i hp
     injection hs with hs;subst hs;exact zzj h hu hp
    cases hs
   cases hs
  split at hs
  ·rename_i hk
   split at hs
   ·rename_i u z hu hz
    split at hs
    ·cases hs
    injection hs with hs;subst hs;exact z1c h hu hz (ht.o hk)
   cases hs
  split at hs
  ·split at hs
   ·injection hs with hs;subst hs
    exact h.setq (Nat.le_trans (zqd _ _) (Nat.le_trans (h.line t.p) (Nat.le_succ n))) (Nat.le_succ n)
   cases hs
  cases hs
 repeat' split at hs
 all_goals first|cases hs;done|(injection hs with hs;subst hs;rfl)
def zvp (n:Nat)(D:Dk):zab:=dH n D.d (mpG zah D.x) (mpG (PV.int .i64) D.y) (mpG ints D.q)
def zlm (vh:zab)(D:Dk):Prop:=DAt vh D.d D.x D.y D.q
theorem pDo {D D':Dk}{n:Nat}(h:Inv D n)(hn:n<2147483648){t:Tu}(ht:znk t)(hs:zf3 D t=some D'):zar prog 137 [.ptr 3 0,encT t] (zvp 6 D) fun v vh'=>v=.tup []∧zlm vh' D':=by
 have hl:∀p l,alk D.q p=some l→l.length<4294967290:=fun p l hl=>by have:=h.len p l hl;omega
 have hl2:∀p l,alk D.q p=some l→l.length<4294967296:=fun p l hl=>by have:=h.len p l hl;omega
 unfold zf3 at hs
 split at hs
 ·cases hs
 rename_i hd
 have hd:D.d≤t.d:=by omega
 split at hs
 ·rename_i hk
  split at hs
  ·rename_i u hu
   split at hs
   ·cases hs
   rename_i hno
   injection hs with hs;subst hs
   exact z1e _ t _ _ _ hk hd (p162 _ t _ _ _ hl (fun u' hu' hp=>hno (.inl (by rw[hu] at hu';injection hu' with hu';subst hu';exact hp))) (fun hm=>hno (.inr hm)))
  rename_i hu
  split at hs
  ·cases hs
  rename_i hno
  injection hs with hs;subst hs
  exact z1e _ t _ _ _ hk hd (p162 _ t _ _ _ hl (fun u' hu' hp=>by rw[hu] at hu';cases hu') hno)
 split at hs
 ·rename_i hk
  split at hs
  ·rename_i hy hx
   split at hs
   ·rename_i hq
    injection hs with hs;subst hs
    exact z1o _ t _ _ _ hk hd (p163 _ t _ _ _ hl2 ht.d (ht.w hk) hy hx (fun a r hh=>by have hq':(alk D.q t.p).getD []=[]:=hq;rw[hq'] at hh;cases hh))
   rename_i a r hq
   split at hs
   ·rename_i ha
    injection hs with hs;subst hs
    exact z1o _ t _ _ _ hk hd (p163 _ t _ _ _ hl2 ht.d (ht.w hk) hy hx (fun a' r' hh=>by have hq':(alk D.q t.p).getD []=a::r:=hq;rw[hq'] at hh;injection hh with h1 h2;subst h1;exact ha))
   cases hs
  cases hs
 split at hs
 ·rename_i hk
  split at hs
  ·rename_i u hu
   split at hs
   ·rename_i hp
    injection hs with hs;subst hs
    exact z5r _ t _ _ _ hk hd (p164 _ t _ _ _ u hu hp)
   cases hs
  cases hs
 split at hs
 ·rename_i hk
  split at hs
  ·rename_i u z hu hz
   split at hs
   ·cases hs
   rename_i hno
   injection hs with hs;subst hs
   exact z8a _ t _ _ _ hk hd (p165 _ t _ _ _ hl2 u z hu hz (ht.o hk) (zyt h hu hz (ht.o hk)) (h.xy _ _ hu).1 (h.xy _ _ hz).1 (fun hm=>hno (.inl hm)) (fun hm=>hno (.inr hm)))
  cases hs
 split at hs
 ·rename_i hk
  split at hs
  ·rename_i hm
   injection hs with hs;subst hs
   exact z8k _ t _ _ _ hk hd (p166 _ t _ _ _ hl2 hm)
  cases hs
 cases hs
theorem xDo {D:Dk}{n:Nat}(h:Inv D n)(hn:n<2147483648){t:Tu}(ht:znk t)(hs:zf3 D t=none):zbh prog 137 [.ptr 3 0,encT t] (zvp 6 D) zb4 fun vh'=>zlm vh' D:=by
 have hl2:∀p l,alk D.q p=some l→l.length<4294967296:=fun p l hl=>by have:=h.len p l hl;omega
 unfold zf3 at hs
 split at hs
 ·rename_i hd;exact xd3 _ t _ _ _ hd
 rename_i hd
 have hd:D.d≤t.d:=by omega
 split at hs
 ·rename_i hk
  split at hs
  ·rename_i u hu
   split at hs
   ·rename_i hno
    refine z1n _ t _ _ _ hk hd (x162 _ t _ _ _ hl2 ?_)
    rcases hno with h1|h1
    ·exact .inl ⟨u,hu,h1⟩
    exact .inr h1
   cases hs
  rename_i hu
  split at hs
  ·rename_i hno
   exact z1n _ t _ _ _ hk hd (x162 _ t _ _ _ hl2 (.inr hno))
  cases hs
 split at hs
 ·rename_i hk
  refine z8e _ t _ _ _ hk hd ?_
  cases hy:alk D.y t.p with
  |some z=>
   cases hq:alk D.q t.p with
   |none=>exact z5m _ t _ _ _ hq hy
   |some l=>exact z6l _ t _ _ _ hq hy
  |none=>
   cases hx:alk D.x t.s with
   |some u=>
    cases hq:alk D.q t.p with
    |none=>exact z9m _ t _ _ _ hq hy hx
    |some l=>exact z5v _ t _ _ _ hq hy hx
   |none=>
    rw[hy,hx] at hs
    simp only at hs
    cases hq:alk D.q t.p with
    |none=>
     have:D.line t.p=[]:=by unfold Dk.line;rw[hq];rfl
     rw[this] at hs;cases hs
    |some l=>
     have hL:D.line t.p=l:=by unfold Dk.line;rw[hq];rfl
     rw[hL] at hs
     cases l with
     |nil=>cases hs
     |cons a r=>
      simp only at hs
      split at hs
      ·cases hs
      rename_i ha
      exact xcg _ t _ _ _ hq (hl2 _ _ hq) hy hx ha
 split at hs
 ·rename_i hk
  refine xad _ t _ _ _ hk hd (x164 _ t _ _ _ fun u hu hp=>?_)
  rw[hu] at hs;simp only[if_pos hp] at hs;cases hs
 split at hs
 ·rename_i hk
  refine z7y _ t _ _ _ hk hd ?_
  cases hu:alk D.x t.s with
  |none=>exact xd9 _ t _ _ _ hl2 hu
  |some u=>
   cases hz:alk D.x t.o with
   |none=>exact xe0 _ t _ _ _ hl2 hu hz
   |some z=>
    rw[hu,hz] at hs
    simp only at hs
    split at hs
    ·rename_i hno
     by_cases h1:t.s∈(alk D.q z.p).getD []
     ·exact xcu _ t _ _ _ hl2 hu hz h1
     rcases hno with h2|h2
     ·exact absurd h2 h1
     exact xda _ t _ _ _ hl2 hu hz h1 h2
    cases hs
 split at hs
 ·rename_i hk
  split at hs
  ·cases hs
  rename_i hm
  exact z9w _ t _ _ _ hk hd (x166 _ t _ _ _ hl2 hm)
 rename_i h1 h2 h3 h4 h5
 rcases ht.k with h|h|h|h|h<;>contradiction
end Go.Am.Hi
end
section
namespace Go.Am.Hi
open Go Go.Am Go.Proofs Tryz
attribute [local simp] vrun zbg zc6 vop vopA zc7 zab.back hidI hidF zgd bm Nat.testBit_eq_decide_div_mod_eq za1 zca zeg vO zcv vlen zdw zcz zjh zbo zbb zfu vbox zcw ziq zet zh4 zfr zbz zfs zb0 zft zcu zfx zdx zc8 vbnd zfa vidx zd1 zh1 zbt zd0 zfv zhu zjr zj2 vbin vsc vsc1 vscs vscl zdh aint zfj zhf zcd zew zjf pvcV pvc pvcs tput tget zc5 zab.get zab.alloc zab.put zab.drop zab.empty zbl vput zhp zbj zc4 zgg chunk List.range List.range.loop zbd zef zbn frz frzL PV.isF PV.allF PV.scal PV.allS retP subT zil PV.one PV.ids PV.idsL ze8 beq_eq zdn zed
attribute [local simp] zax zat zaz
theorem zzc {vh:zab}{D:Dk}{a i:Int}(h5:vh.get 5=some (.box [.int .i64 i]))(h4:vh.get 4=some (.box [.int .i64 a]))(h:zlm vh D):∀j z,(⟨vh.next,[(5,.box [.int .i64 i]),(4,.box [.int .i64 a]),(3,.box [.int .i64 D.d,.mapv 0,.mapv 1,.mapv 2]),(2,.map (mpG ints D.q)),(1,.map (mpG (PV.int .i64) D.y)),(0,.map (mpG zah D.x))]⟩:zab).get j=some z→vh.get j=some z:=by
 intro j z hz
 simp only[zab.get,zbl,beq_eq] at hz
 by_cases e5:j=5
 ·subst e5;simp at hz;subst hz;exact h5
 by_cases e4:j=4
 ·subst e4;simp at hz;subst hz;exact h4
 by_cases e3:j=3
 ·subst e3;simp at hz;subst hz;exact h.h3
 by_cases e2:j=2
 ·subst e2;simp at hz;subst hz;exact h.h2
 by_cases e1:j=1
 ·subst e1;simp at hz;subst hz;exact h.h1
 by_cases e0:j=0
 ·subst e0;simp at hz;subst hz;exact h.h0
 simp[e5,e4,e3,e2,e1,e0] at hz
theorem zhz.forget {P:Program}{f:FuncId}{args:List PV}{vh vh2:zab}{pv:Value}{T:zab→Prop}(hs:∀j y,vh2.get j=some y→vh.get j=some y)(hn:vh2.next=vh.next)(hc:zhz P f args vh2 pv T):zhz P f args vh pv T:=fun lo g σ h args' ha s=>by
 have s2:VS lo g σ vh2 h:=⟨fun j y hy=>by rw[hn];exact s.obj j y (hs j y hy),fun j k y z hy hz=>s.inj j k y z (hs j y hy) (hs k z hz),fun j y hy=>s.low j y (hs j y hy),s.fz,fun j y hy=>s.dis j y (hs j y hy),s.lole⟩
 refine(hc lo g σ h args' (by rw[hn];exact ha) s2).mono ?_
 intro h' ⟨g',σ',vh',k1,k2,k3,k4,k5,k6,k7⟩
 refine⟨g',σ',vh',k1,k2,fun i hi=>k3 i (by rw[hn];exact hi),?_,by rw[← hn];exact k5,?_,k7⟩
 ·exact VF.trans ⟨Nat.le_refl _,fun _ _ _=>rfl,fun i x hx hlx _=>⟨i,x,hs i x hx,hlx,rfl⟩⟩ k4
 intro o x hx ho
 rcases k6 o x hx ho with h1|⟨i,y,h1,h2,h3⟩
 ·exact .inl h1
 exact .inr ⟨i,y,hs i y h1,h2,h3⟩
theorem zbh.nx {P:Program}{f:FuncId}{args:List PV}{vh:zab}{pv:Value}{X:zab→Prop}(hc:zbh P f args vh pv X):zbh P f args vh pv fun vh'=>X vh'∧vh.next≤vh'.next:=fun lo g σ h args' ha s=>
 (hc lo g σ h args' ha s).mono fun _ ⟨g',σ',vh',h1,h2,h3,h4,h5,h6,h7⟩=>⟨g',σ',vh',h1,h2,h3,h4,h5,h6,h7,h5⟩
theorem zhz.mono {P:Program}{f:FuncId}{args:List PV}{vh:zab}{pv:Value}{T T':zab→Prop}(hc:zhz P f args vh pv T)(ht:∀vh,T vh→T' vh):zhz P f args vh pv T':=fun lo g σ h args' ha s=>(hc lo g σ h args' ha s).mono fun _=>VPan.mono ht
theorem xdf (n:Nat)(hn:6≤n)(a i:Int)(D:Dk):zhz prog 136 [.ptr 5 0,.ptr 4 0] ⟨n,[(5,.box [.int .i64 i]),(4,.box [.int .i64 a]),(3,.box [.int .i64 D.d,.mapv 0,.mapv 1,.mapv 2]),(2,.map (mpG ints D.q)),(1,.map (mpG (PV.int .i64) D.y)),(0,.map (mpG zah D.x))]⟩ zb4 fun vh'=>vh'.get 4=some (.box [.int .i64 i])∧zlm vh' D:=by
 obtain⟨ms,U20⟩:=U20
 have n5:¬5=n:=by omega
 have n4:¬4=n:=by omega
 have n3:¬3=n:=by omega
 have n2:¬2=n:=by omega
 have n1:¬1=n:=by omega
 have n0:¬0=n:=by omega
 have m4:¬n=4:=by omega
 have m5:¬n=5:=by omega
 have m3:¬n=3:=by omega
 have m2:¬n=2:=by omega
 have m1:¬n=1:=by omega
 have m0:¬n=0:=by omega
 have b5:Nat.beq 5 n=false:=by rw[beq_eq];simpa using n5
 have b4:Nat.beq 4 n=false:=by rw[beq_eq];simpa using n4
 refine .zag (pvv:=z2j) func136 rfl rfl rfl rfl rfl rfl rfl rfl (by decide) (by decide) z0u z2p rfl ?_
 unfold z2j
 refine .seq ?_
 refine .zac [0,1] rfl zz0 ?_
 refine .rn [0] _ ?_
 refine .step rfl rfl (.z2g ⟨_,rfl⟩ U20 rfl rfl (by decide) ?_)
 refine .done (.zgb rfl (.seq (.seq ?_)))
 refine .zac [0,1,2,3,4,5,6,7] rfl zz0 ?_
 refine .rn [0] _ ?_
 refine .step rfl rfl (.z2f rfl U193 rfl (by decide) ?_)
 refine .rn [2,3,4,5,6,7] [] ?_
 refine .done (.seq ?_)
 refine .zac [0,1] rfl zz0 ?_
 refine .rn [0,1] [] ?_
 refine .done (.zjd rfl (.skip ?_))
 refine .zac [0,1] rfl zz0 ?_
 refine .rn [0,1] [] ?_
 refine .done ?_
 refine⟨⟨_,by simp;rfl⟩,?_,?_,?_,?_,?_⟩<;>simp[zab.get,zbl,vput,beq_eq, *]
def zc9:Dk→List Tu→Nat→Dk×Int
 |D,[],_=>(D,-1)
 |D,t::r,i=>match zf3 D t with
  |none=>(D,i)
  |some D'=>zc9 D' r (i+1)
def z8c (n:Nat)(a i:Int)(D:Dk):zab:=⟨n,[(5,.box [.int .i64 i]),(4,.box [.int .i64 a]),(3,.box [.int .i64 D.d,.mapv 0,.mapv 1,.mapv 2]),(2,.map (mpG ints D.q)),(1,.map (mpG (PV.int .i64) D.y)),(0,.map (mpG zah D.x))]⟩
theorem zrk {vh1:zab}{D:Dk}(h:zlm vh1 D)(a i:Int):∀j z,(⟨vh1.next,[(5,.box [.int .i64 i]),(4,.box [.int .i64 a]),(3,.box [.int .i64 D.d,.mapv 0,.mapv 1,.mapv 2]),(2,.map (mpG ints D.q)),(1,.map (mpG (PV.int .i64) D.y)),(0,.map (mpG zah D.x))]⟩:zab).get j=some z→((vh1.back 5 (.box [.int .i64 i])).back 4 (.box [.int .i64 a])).get j=some z:=by
 refine zzc (vh:=(vh1.back 5 (.box [.int .i64 i])).back 4 (.box [.int .i64 a])) ?_ ?_ ((DAt.back (DAt.back h _ (by decide)) _ (by decide)))
 ·rw[zab.zbw,zab.zbw];rfl
 rw[zab.zbw];rfl
theorem p79 (D:Dk)(ts:List Tu)(n0:Nat)(hI:Inv D n0)(hn0:n0+ts.length<2147483648)(hf:∀t∈ts,znk t):zar prog 79 [.ptr 3 0,.vec (ts.map encT)] (zvp 4 D) fun v vh'=>v=.int .i64 (zc9 D ts 0).2∧zlm vh' (zc9 D ts 0).1:=by
 unfold zvp dH
 refine .zmg (pv:=zb4) (pre:=[(0,_),(1,_),(2,_)]) (id:=3) (k:=1) (l:=[0]) func79 rfl rfl rfl rfl rfl rfl zz0 ?_
 refine .rn [0] [] ?_
 refine .done ?_
 refine .rn [0] [] ?_
 refine .done ?_
 refine .rn [0,1] [] ?_
 refine .done ?_
 refine .rn [0] [] ?_
 refine .done ?_
 refine⟨136,[],[.ptr 5 0,.ptr 4 0],rfl,zt1,?_⟩
 refine .seq (.block ?_)
 refine .zb5 (fun s:Nat×Dk=>([(0,.ptr 3 0),(1,.vec (ts.map encT)),(4,.ptr 4 0),(5,.ptr 5 0)],z8c 6 (-1) s.1 s.2)) (fun s=>s.1≤ts.length∧Inv s.2 (n0+s.1)∧zc9 D ts 0=zc9 s.2 (ts.drop s.1) s.1) (fun s=>ts.length - s.1) (0,D) ⟨Nat.zero_le _,hI,rfl⟩ (.mk [] [] zz8 zz9 rfl rfl rfl) ?_
 rintro⟨k,E⟩ ⟨hk,hE,hp⟩
 simp only at hk hE hp ⊢
 refine .seq (.seq ?_)
 unfold z8c
 refine .rn ?_
 refine .cs ?_ ?_<;>intro c10
 ·try simp at c10
  have hw1:=wr1 k
  have hdr:ts.drop k=ts[k]::ts.drop (k+1):=List.drop_eq_getElem_cons c10
  have hft:=hf ts[k] (List.getElem_mem c10)
  rw[hdr] at hp
  refine .skip (.seq (.block ?_))
  cases hs:zf3 E ts[k] with
  |some E'=>
   have hp:zc9 D ts 0=zc9 E' (ts.drop (k+1)) (k+1):=by rw[hp];simp only[zc9,hs]
   refine .zac [0,1,2,3,4,5] rfl zz0 ?_
   refine .rn [0,1,2,3,4] _ ?_
   refine .step rfl rfl (.call rfl rfl rfl call137 (by decide) ((zar.frame (i:=4) rfl rfl (zar.frame (i:=5) rfl rfl (pDo hE (by omega) hft hs))).mono ?_))
   rintro _ _ ⟨_,⟨vh1,⟨rfl,hD⟩,rfl⟩,rfl⟩
   refine .done ?_
   refine VW.forget (zrk hD _ _) rfl ?_
   refine .rn ?_
   exact⟨(k+1,E'),⟨c10,(zkb hE hft hs).1,hp⟩,zz3,(.mk [] [] zz8 zz9 rfl rfl rfl)⟩
  |none=>
   have hp:zc9 D ts 0=(E,(k:Int)):=by rw[hp];simp only[zc9,hs]
   refine VW.zfk (pv:=zb4) (l:=[0,1,2,3,4]) (k:=5) zz0 rfl rfl rfl ?_
   refine .rn [0,1,2,3,4] [] ?_
   refine .done ?_
   refine zc0.call rfl rfl rfl call137 ((zbh.frame (i:=4) rfl rfl (zbh.frame (i:=5) rfl rfl (zbh.nx (xDo hE (by omega) hft hs)))).mono ?_)
   rintro _ ⟨_,⟨vh1,⟨hD,hnx⟩,rfl⟩,rfl⟩
   refine⟨rfl,zhz.forget (zrk hD _ _) rfl (zhz.mono (xdf _ hnx _ _ _) ?_)⟩
   rintro vh' ⟨h4,hD'⟩
   rw[hp]
   have h4':zbl 4 vh'.objs=some (.box [.int .i64 k]):=h4
   exact⟨_,(by simp[h4']<;>rfl),rfl,hD'⟩
 try simp at c10
 have hk:k=ts.length:=by omega
 have hp:zc9 D ts 0=(E,-1):=by rw[hp,List.drop_of_length_le (by omega)];rfl
 refine .exit (.sr ?_)
 refine .ret ?_
 rw[hp]
 exact⟨_,zz2,rfl,rfl,rfl,rfl,rfl⟩
end Go.Am.Hi
end
