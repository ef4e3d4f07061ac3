/-
 What is used in the proof of a statement (part HnX); no condition.
-/
import Derived.Test.YtmgglkdilpglgaaGreatHiZ
import Derived.Test.YtmgglkdilpglgaaGreatVm2
import Derived.Test.YtmgglkdilpglgaaGreatHiT
import Derived.Test.YtmgglkdilpglgaaGreatHnW
import Derived.Test.YtmgglkdilpglgaaGreatHiS
set_option linter.all false
set_option maxHeartbeats 40000000
set_option maxRecDepth 100000
section
namespace Go.Am.Hi
open Go Go.Am Go.Proofs Tryz
attribute [local simp] vrun zbg zc6 vop vopA zc7 zab.back hidI hidF zgd bm Nat.testBit_eq_decide_div_mod_eq za1 zca zeg vO zcv vlen zdw zcz zjh zbo zbb zfu vbox zcw ziq zet zh4 zfr zbz zfs zb0 zft zcu zfx zdx zc8 vbnd zfa vidx zd1 zh1 zbt zd0 zfv zhu zjr zj2 vbin vsc vsc1 vscs vscl zdh aint zfj zhf zcd zew zjf pvcV pvc pvcs tput tget zc5 zab.get zab.alloc zab.put zab.drop zab.empty zbl vput zhp zbj zc4 zgg chunk List.range List.range.loop zbd zef zbn frz frzL PV.isF PV.allF PV.scal PV.allS retP subT zil PV.one PV.ids PV.idsL ze8 beq_eq zdn zed
attribute [local simp] zax zat zaz
attribute [local simp ↓ high] zyz zph
theorem p84h (R:Reg)(S:Rst)(t:Tu)(n:Nat)(hR:RO R)(hS:SIv R S n)(hn:n<1000)(hf:zbc R t)(hk:t.k=2):zao prog 84 [encR R,encS S,encT t] fun r=>r=.tup [encS (zcj R S t).1,.bool (zcj R S t).2]:=by
 have hp:t.p∈R.ps:=by rcases hf.2.2.2.2 with⟨_,h,_⟩|⟨_,h,_⟩|⟨h,_⟩<;>first|exact h|omega
 obtain⟨i,L,hi,hiw,hL,hsL,hLn⟩:=at_p hS hp
 have hL2:S.ws[i]=L:=(List.getElem?_eq_some_iff.1 hL).2
 obtain⟨s,hs,hsl,hsE⟩:=at_s hS hf.2.2.1 hf.2.2.2.1
 obtain⟨u,hu⟩:∃u,sHe S t.s=u:=⟨_,rfl⟩
 rw[hu] at hsE
 have hsE2:S.hs[s]=u:=(List.getElem?_eq_some_iff.1 hsE).2
 have hpl:=hR.pl
 have h24:R.ps.length<4294967296:=by omega
 have hwl:=hS.wl
 have hhl:=hS.hl
 have hsc:=hR.s2
 have hsc1:=hR.s1
 have hh:S.hs.length<4294967296:=by omega
 have hw:S.ws.length<4294967296:=by omega
 have hh0:0<S.hs.length:=by omega
 have hl:∀l∈S.ws,l.length<4294967296:=fun l h=>by have:=hS.ln l h;omega
 have hw0:0<S.ws.length:=by omega
 have hLl:L.length<4294967296:=by omega
 have hi1:i+1≤S.ws.length:=hiw
 have hspl:=z1i hiw (outS L s)
 obtain⟨ws2,hws2⟩:∃ws2,S.ws.set i (outS L s)=ws2:=⟨_,rfl⟩
 have htk:List.take S.ws.length (List.map wQ ws2)=List.map wQ ws2:=by rw[List.take_of_length_le];rw[← hws2];simp
 have hle2:S.ws.length≤ws2.length:=by rw[← hws2];simp
 have hne:¬S.ws=[]:=fun h=>by rw[h] at hw0;exact absurd hw0 (by decide)
 rw[hws2] at hspl
 have hs4:s*4+4≤S.hs.length*4:=by omega
 have hs5:s*4+1≤S.hs.length*4:=by omega
 have hs6:s*4≤S.hs.length*4:=by omega
 have hat:=zq3 hsl
 rw[hsE2] at hat
 have hat2:=(List.getElem?_eq_some_iff.1 hat).2
 have hpart:=zf2 hsl
 rw[hsE2] at hpart
 have hset:=zm7 hsl (⟨t.p,s,t.d,t.d+7*t.w⟩)
 obtain⟨hs2,hhs2⟩:∃hs2,S.hs.set s (⟨t.p,s,t.d,t.d+7*t.w⟩)=hs2:=⟨_,rfl⟩
 rw[hhs2] at hset
 have hl2:hs2.length=S.hs.length:=by rw[← hhs2];simp
 have hch:=zhi hs2
 rw[hl2] at hch
 unfold chunk at hch
 rw[xf1] at hch
 unfold List.range at hch
 have hle3:S.hs.length*4≤hs2.length*4:=by omega
 have hhne:¬S.hs=[]:=fun h=>by rw[h] at hh0;exact absurd hh0 (by decide)
 obtain⟨hd1,hd2,_,_,hd3⟩:=hf
 obtain⟨hw1,hw2⟩:1≤t.w∧t.w≤40:=by rcases hd3 with⟨h|h|h,_⟩|⟨_,_,h,h',_⟩|⟨h,_⟩<;>first|omega|exact⟨h,h'⟩
 have hv1:IntKind.i64.wrap (7*t.w)=7*t.w:=wrap64 (by omega) (by omega)
 have hv2:IntKind.i64.wrap (t.d+7*t.w)=t.d+7*t.w:=wrap64 (by omega) (by omega)
 have h92:zao prog 92 [.agg [.vec (S.hs.map zah),.vec (S.ws.map wQ),.int .i64 t.d],.int .i64 t.p] fun r=>r=.int .i64 (hld S t.p):=p92 ⟨S.hs,S.ws,t.d⟩ t.p hh
 rw[xag hk hi hsL hs hu,hws2,hhs2]
 obtain⟨q,hq⟩:∃q,hld S t.p=q:=⟨_,rfl⟩
 rw[hq] at h92 ⊢
 obtain⟨b1,hb1⟩:∃b,decide (q<0)=b:=⟨_,rfl⟩
 obtain⟨b2,hb2⟩:∃b,(u.p==0)=b:=⟨_,rfl⟩
 rw[show decide (u.p=0)=(u.p==0) from rfl,hb1,hb2]
 have hch0:=zhi S.hs
 unfold chunk at hch0
 rw[xf1] at hch0
 unfold List.range at hch0
 have hwk:List.take S.ws.length (List.map wQ S.ws)=List.map wQ S.ws:=by rw[List.take_of_length_le];simp
 have hcop:=zzv S hh hw hl
 clear hwl hhl hl2
 unfold encR encT
 refine .zag func84 rfl rfl ?_
 rcases L with _|⟨b,r⟩
 ·
  refine .sr ?_
  refine .seq ?_
  refine .zac [0,1,2,3] rfl zz0 ?_
  refine .rn [0] _ ?_
  refine .step rfl rfl (.call rfl rfl rfl call138 (by decide) (((hcop _ _ _ _)).mono ?_))
  rintro _ _ ⟨rfl,rfl⟩
  refine .rn [2,3] [] ?_
  refine .done (.seq (.seq ?_))
  refine .rec (vts2:=[(3,.ptr 0 0),(4,.ptr 1 0),(5,.ptr 2 0),(6,.ptr 3 0),(7,.bool false),(8,.ptr 9 0)]) (vh2:=⟨10,[(9,.box [.sub 7 0 S.hs.length,.sub 8 0 S.ws.length,.int .i64 S.dy]),(8,.arr false 1 (S.ws.map wQ)),(7,.arr true 4 (heC S.hs)),(3,.box [.sl0,.sl0,.int .i64 0]),(2,.box [.int .i64 2,.int .i64 t.d,.int .i64 s,.int .i64 t.p,.int .i64 t.w,.int .i64 t.o]),(1,.box [.vec (S.hs.map zah),.vec (S.ws.map wQ),.int .i64 S.dy]),(0,.box [ints R.ps,.int .i64 R.sc,turns R.ts])]⟩) (.mk [] [] zz20 zz21 rfl rfl rfl) ?_
  refine .rn ?_
  refine .cs ?_ ?_<;>intro c19
  ·try simp at c19
   refine .sr ?_
   refine .ret ?_
   refine⟨_,_,zz2,(by simp[*]<;>rfl),?_⟩
   rw[if_pos c19];rfl
  try simp at c19
  refine .skip (.sr ?_)
  refine .seq (.sr ?_)
  refine .cs ?_ ?_<;>intro c26
  ·try simp at c26
  try simp at c26
  refine .skip (.seq ?_)
  refine .zac [0,1,2,3,4] rfl zz0 ?_
  refine .rn [0,1,2] _ ?_
  refine .pc rfl rfl rfl rfl rfl call81 (p81 R t.p h24) ?_
  refine .rn [4] [] ?_
  refine .done (.seq ?_)
  refine .drawn (ms:=[0,1,0,7,15,0,32,127,255]) (W:=[7]) (items:=[.op 0,.op 1,.op 2,.op 3,.op 4,.op 5,.op 6,.op 7,.op 8]) rfl zz0 zz0 zz0 ?_
  iterate 7 refine .rx ?_
  refine .wp rfl rfl rfl rfl rfl call107 (zn5 _ s hLl) ?_
  refine .rx ?_
  refine .done (.seq ?_)
  refine .drawn (ms:=[0,1,0,4,15,31,63,0,128,511,1023]) (W:=[]) (items:=[.op 0,.op 1,.op 2,.op 3,.op 4,.op 5,.op 6,.op 7,.op 8,.op 9,.op 10]) rfl zz0 zz0 zz0 ?_
  iterate 11 refine .rx ?_
  refine .done (.sr ?_)
  refine .seq (.sr ?_)
  refine .block (.sr ?_)
  refine .cs ?_ ?_<;>intro c57
  ·try simp at c57
  try simp at c57
  refine .sr ?_
  refine .cs ?_ ?_<;>intro c78
  ·try simp at c78
  try simp at c78
  refine .sr ?_
  refine .cs ?_ ?_<;>intro c93
  ·try simp at c93
  try simp at c93
  refine .sr ?_
  refine .cs ?_ ?_<;>intro c102
  ·try simp at c102
   refine .seq ?_
   refine .drawn (ms:=[0,0,2,7,15,31,63,127,63,319,1023,2047,4095,8191,16383,32767,65535,131071,65535,524287,1048575,2097151,4194303,8388607,16777215,33554431,16777215,134217727,268435455,536870911,1073741823,16777215,2164260863,8589934591,17179869183,34359738367,68719476735]) (W:=[3]) (items:=[.op 0,.op 1,.op 2,.op 3,.op 4,.op 5,.op 6,.op 7,.op 8,.op 9,.op 10,.op 11,.op 12,.op 13,.op 14,.op 15,.op 16,.op 17,.op 18,.op 19,.op 20,.op 21,.op 22,.op 23,.op 24,.op 25,.op 26,.op 27,.op 28,.op 29,.op 30,.op 31,.op 32,.op 33,.op 34,.op 35,.op 36]) rfl zz0 zz0 zz0 ?_
   iterate 3 refine .rx ?_
   refine .wr rfl rfl (by decide) (.borrow rfl rfl rfl call92 (by decide) (by first|(simp<;>rfl)|(simp[*]<;>rfl)|(simp[*];done)) (h92) (by rintro _ rfl<;>first|(simp;done)|rfl) ?_)
   rintro _ rfl
   iterate 2 refine .rx ?_
   refine .split (t:=109) rfl (fun c109=>?_) (fun c109=>?_)
   ·first|cases c109|cases bnt c109|cases bnf c109|try rw[c109]
    try simp at c109
    iterate 10 refine .rx ?_
    refine .split (t:=119) rfl (fun c119=>?_) (fun c119=>?_)
    ·first|cases c119|cases bnt c119|cases bnf c119|try rw[c119]
     try simp at c119
     iterate 8 refine .rx ?_
     refine .split (t:=127) rfl (fun c127=>?_) (fun c127=>?_)
     ·first|cases c127|cases bnt c127|cases bnf c127|try rw[c127]
      try simp at c127
      iterate 10 refine .ux ?_
      iterate 3 refine .rx ?_
      refine .done (.sr ?_)
      refine .drawn (ms:=[0,1,0,0,8,0,56,120,0,256,1016,2047,4095]) (W:=[10,12]) (items:=[.op 0,.op 1,.op 2,.op 3,.op 4,.op 5,.op 6,.op 7,.op 8,.op 9,.op 10,.ck 1,.op 11,.op 12]) rfl zz0 zz0 zz0 ?_
      iterate 10 refine .rx ?_
      refine .wp rfl rfl rfl rfl rfl call103 (zq1 _ s hLl) ?_
      refine .ck rfl zz0 ?_
      refine .rx ?_
      refine .wv ?_
      refine .done (.sr ?_)
      refine .ret ?_
      refine⟨_,_,zz2,(by simp[*]<;>rfl),?_⟩
      rw[if_neg (by omega)];simp[encS]<;>simp_all
     first|cases c127|cases bnt c127|cases bnf c127|try rw[c127]
     try simp at c127
    first|cases c119|cases bnt c119|cases bnf c119|try rw[c119]
    try simp at c119
    iterate 19 refine .ux ?_
    iterate 2 refine .rx ?_
    refine .done (.sr ?_)
    refine .drawn (ms:=[0,1,0,0,8,0,56,120,0,256,1016,2047,4095]) (W:=[10,12]) (items:=[.op 0,.op 1,.op 2,.op 3,.op 4,.op 5,.op 6,.op 7,.op 8,.op 9,.op 10,.ck 1,.op 11,.op 12]) rfl zz0 zz0 zz0 ?_
    iterate 10 refine .rx ?_
    refine .wp rfl rfl rfl rfl rfl call103 (zq1 _ s hLl) ?_
    refine .ck rfl zz0 ?_
    refine .rx ?_
    refine .wv ?_
    refine .done (.sr ?_)
    refine .ret ?_
    refine⟨_,_,zz2,(by simp[*]<;>rfl),?_⟩
    rw[if_neg (by omega)];simp[encS]<;>simp_all
   first|cases c109|cases bnt c109|cases bnf c109|try rw[c109]
   try simp at c109
   iterate 8 refine .ux ?_
   iterate 2 refine .rx ?_
   iterate 19 refine .ux ?_
   iterate 2 refine .rx ?_
   refine .done (.sr ?_)
   refine .drawn (ms:=[0,1,0,0,8,0,56,120,0,256,1016,2047,4095]) (W:=[10,12]) (items:=[.op 0,.op 1,.op 2,.op 3,.op 4,.op 5,.op 6,.op 7,.op 8,.op 9,.op 10,.ck 1,.op 11,.op 12]) rfl zz0 zz0 zz0 ?_
   iterate 10 refine .rx ?_
   refine .wp rfl rfl rfl rfl rfl call103 (zq1 _ s hLl) ?_
   refine .ck rfl zz0 ?_
   refine .rx ?_
   refine .wv ?_
   refine .done (.sr ?_)
   refine .ret ?_
   refine⟨_,_,zz2,(by simp[*]<;>rfl),?_⟩
   rw[if_neg (by omega)];simp[encS]<;>simp_all
  try simp at c102
 ·
  have hq1:wQ (b::r)=.vec ((b::r).map (.int .i64)):=if_neg (by simp)
  obtain⟨b4,hb4⟩:∃v,(b==(s:Int))=v:=⟨_,rfl⟩
  have hb5:decide (List.head? (b::r)=some (s:Int))=b4:=by rw[List.head?_cons,← hb4];exact decide_eq_decide.2 (by simp)
  rw[hb5]
  refine .sr ?_
  refine .seq ?_
  refine .zac [0,1,2,3] rfl zz0 ?_
  refine .rn [0] _ ?_
  refine .step rfl rfl (.call rfl rfl rfl call138 (by decide) (((hcop _ _ _ _)).mono ?_))
  rintro _ _ ⟨rfl,rfl⟩
  refine .rn [2,3] [] ?_
  refine .done (.seq (.seq ?_))
  refine .rec (vts2:=[(3,.ptr 0 0),(4,.ptr 1 0),(5,.ptr 2 0),(6,.ptr 3 0),(7,.bool false),(8,.ptr 9 0)]) (vh2:=⟨10,[(9,.box [.sub 7 0 S.hs.length,.sub 8 0 S.ws.length,.int .i64 S.dy]),(8,.arr false 1 (S.ws.map wQ)),(7,.arr true 4 (heC S.hs)),(3,.box [.sl0,.sl0,.int .i64 0]),(2,.box [.int .i64 2,.int .i64 t.d,.int .i64 s,.int .i64 t.p,.int .i64 t.w,.int .i64 t.o]),(1,.box [.vec (S.hs.map zah),.vec (S.ws.map wQ),.int .i64 S.dy]),(0,.box [ints R.ps,.int .i64 R.sc,turns R.ts])]⟩) (.mk [] [] zz20 zz21 rfl rfl rfl) ?_
  refine .rn ?_
  refine .cs ?_ ?_<;>intro c19
  ·try simp at c19
   refine .sr ?_
   refine .ret ?_
   refine⟨_,_,zz2,(by simp[*]<;>rfl),?_⟩
   rw[if_pos c19];rfl
  try simp at c19
  refine .skip (.sr ?_)
  refine .seq (.sr ?_)
  refine .cs ?_ ?_<;>intro c26
  ·try simp at c26
  try simp at c26
  refine .skip (.seq ?_)
  refine .zac [0,1,2,3,4] rfl zz0 ?_
  refine .rn [0,1,2] _ ?_
  refine .pc rfl rfl rfl rfl rfl call81 (p81 R t.p h24) ?_
  refine .rn [4] [] ?_
  refine .done (.seq ?_)
  refine .drawn (ms:=[0,1,0,7,15,0,32,127,255]) (W:=[7]) (items:=[.op 0,.op 1,.op 2,.op 3,.op 4,.op 5,.op 6,.op 7,.op 8]) rfl zz0 zz0 zz0 ?_
  iterate 7 refine .rx ?_
  refine .wp rfl rfl rfl rfl rfl call107 (zn5 _ s hLl) ?_
  refine .rx ?_
  refine .done (.seq ?_)
  refine .drawn (ms:=[0,1,0,4,15,31,63,0,128,511,1023]) (W:=[]) (items:=[.op 0,.op 1,.op 2,.op 3,.op 4,.op 5,.op 6,.op 7,.op 8,.op 9,.op 10]) rfl zz0 zz0 zz0 ?_
  iterate 11 refine .rx ?_
  refine .done (.sr ?_)
  refine .seq (.sr ?_)
  refine .block (.sr ?_)
  refine .cs ?_ ?_<;>intro c57
  ·try simp at c57
  try simp at c57
  refine .sr ?_
  refine .cs ?_ ?_<;>intro c78
  ·try simp at c78
  try simp at c78
  refine .sr ?_
  refine .cs ?_ ?_<;>intro c93
  ·try simp at c93
  try simp at c93
  refine .sr ?_
  refine .cs ?_ ?_<;>intro c102
  ·try simp at c102
   refine .seq ?_
   refine .drawn (ms:=[0,0,2,7,15,31,63,127,63,319,1023,2047,4095,8191,16383,32767,65535,131071,65535,524287,1048575,2097151,4194303,8388607,16777215,33554431,16777215,134217727,268435455,536870911,1073741823,16777215,2164260863,8589934591,17179869183,34359738367,68719476735]) (W:=[3]) (items:=[.op 0,.op 1,.op 2,.op 3,.op 4,.op 5,.op 6,.op 7,.op 8,.op 9,.op 10,.op 11,.op 12,.op 13,.op 14,.op 15,.op 16,.op 17,.op 18,.op 19,.op 20,.op 21,.op 22,.op 23,.op 24,.op 25,.op 26,.op 27,.op 28,.op 29,.op 30,.op 31,.op 32,.op 33,.op 34,.op 35,.op 36]) rfl zz0 zz0 zz0 ?_
   iterate 3 refine .rx ?_
   refine .wr rfl rfl (by decide) (.borrow rfl rfl rfl call92 (by decide) (by first|(simp<;>rfl)|(simp[*]<;>rfl)|(simp[*];done)) (h92) (by rintro _ rfl<;>first|(simp;done)|rfl) ?_)
   rintro _ rfl
   iterate 2 refine .rx ?_
   refine .split (t:=109) rfl (fun c109=>?_) (fun c109=>?_)
   ·first|cases c109|cases bnt c109|cases bnf c109|try rw[c109]
    try simp at c109
    iterate 10 refine .rx ?_
    refine .split (t:=119) rfl (fun c119=>?_) (fun c119=>?_)
    ·first|cases c119|cases bnt c119|cases bnf c119|try rw[c119]
     try simp at c119
     iterate 8 refine .rx ?_
     refine .split (t:=127) rfl (fun c127=>?_) (fun c127=>?_)
     ·first|cases c127|cases bnt c127|cases bnf c127|try rw[c127]
      try simp at c127
     first|cases c127|cases bnt c127|cases bnf c127|try rw[c127]
     try simp at c127
     iterate 13 refine .rx ?_
     refine .done (.sr ?_)
     refine .drawn (ms:=[0,1,0,0,8,0,56,120,0,256,1016,2047,4095]) (W:=[10,12]) (items:=[.op 0,.op 1,.op 2,.op 3,.op 4,.op 5,.op 6,.op 7,.op 8,.op 9,.op 10,.ck 1,.op 11,.op 12]) rfl zz0 zz0 zz0 ?_
     iterate 10 refine .rx ?_
     refine .wp rfl rfl rfl rfl rfl call103 (zq1 _ s hLl) ?_
     refine .ck rfl zz0 ?_
     refine .rx ?_
     refine .wv ?_
     refine .done (.sr ?_)
     refine .ret ?_
     refine⟨_,_,zz2,(by simp[*]<;>rfl),?_⟩
     rw[if_neg (by omega)];simp[encS]<;>simp_all
    first|cases c119|cases bnt c119|cases bnf c119|try rw[c119]
    try simp at c119
    iterate 19 refine .ux ?_
    iterate 2 refine .rx ?_
    refine .done (.sr ?_)
    refine .drawn (ms:=[0,1,0,0,8,0,56,120,0,256,1016,2047,4095]) (W:=[10,12]) (items:=[.op 0,.op 1,.op 2,.op 3,.op 4,.op 5,.op 6,.op 7,.op 8,.op 9,.op 10,.ck 1,.op 11,.op 12]) rfl zz0 zz0 zz0 ?_
    iterate 10 refine .rx ?_
    refine .wp rfl rfl rfl rfl rfl call103 (zq1 _ s hLl) ?_
    refine .ck rfl zz0 ?_
    refine .rx ?_
    refine .wv ?_
    refine .done (.sr ?_)
    refine .ret ?_
    refine⟨_,_,zz2,(by simp[*]<;>rfl),?_⟩
    rw[if_neg (by omega)];simp[encS]<;>simp_all
   first|cases c109|cases bnt c109|cases bnf c109|try rw[c109]
   try simp at c109
   iterate 8 refine .ux ?_
   iterate 2 refine .rx ?_
   iterate 19 refine .ux ?_
   iterate 2 refine .rx ?_
   refine .done (.sr ?_)
   refine .drawn (ms:=[0,1,0,0,8,0,56,120,0,256,1016,2047,4095]) (W:=[10,12]) (items:=[.op 0,.op 1,.op 2,.op 3,.op 4,.op 5,.op 6,.op 7,.op 8,.op 9,.op 10,.ck 1,.op 11,.op 12]) rfl zz0 zz0 zz0 ?_
   iterate 10 refine .rx ?_
   refine .wp rfl rfl rfl rfl rfl call103 (zq1 _ s hLl) ?_
   refine .ck rfl zz0 ?_
   refine .rx ?_
   refine .wv ?_
   refine .done (.sr ?_)
   refine .ret ?_
   refine⟨_,_,zz2,(by simp[*]<;>rfl),?_⟩
   rw[if_neg (by omega)];simp[encS]<;>simp_all
  try simp at c102
attribute [local simp] zab.only zu9 zab.zld
theorem z5n {R:Reg}{S:Rst}{t:Tu}(hk:t.k=1){i s:Nat}{u:He}{L:List Int}(hi:plc R t.p=i)(hL:sWt S (i:Int)=L)(hs:t.s=s)(hu:sHe S t.s=u):zcj R S t=if t.d<S.dy then (S,false) else (⟨S.hs,S.ws.set i (L++[(s:Int)]),t.d⟩,!(u.p==t.p)&&!decide ((s:Int)∈L)):=by
 unfold zcj
 rw[hu]
 simp[hk,hs,hi,hL]
 rfl
theorem z0p {S:Rst}{i:Nat}{L:List Int}(h:i<S.ws.length)(v:PV):(livW S i L).take i++v::(livW S i L).drop (i+1)=(S.ws.map wQ).set i v:=by
 unfold livW
 rw[List.take_set_of_le (Nat.le_refl i),List.drop_set_of_lt (Nat.lt_succ_self i),List.set_eq_take_append_cons_drop,if_pos (by simpa using h)]
theorem fgF {vh:zab}{n2:Nat}{D:Nat→Bool}{ρ:Nat→Nat}{ws:List (List Int)}{i j m:Nat}{l:List Int}(hD:D j=true)(hg:vh.get j=some (.grow 1 (l.map (.int .i64))))(hm:l.length=m):AltL vh n2 D ρ ((ws.map wQ).set i (.grow j m true)) ((ws.set i l).map wQ):=by
 subst hm
 refine⟨by simp,fun k v v2 h1 h2=>?_⟩
 rw[List.getElem?_set] at h1
 rw[List.map_set,List.getElem?_set] at h2
 by_cases hik:i=k
 ·rw[if_pos hik] at h1 h2
  split at h1
  ·rename_i hl
   rw[if_pos hl] at h2
   injection h1 with h1;injection h2 with h2
   subst h1;subst h2
   exact z2r hD hg
  cases h1
 rw[if_neg hik] at h1 h2
 rw[h1] at h2;injection h2 with h2;subst h2
 obtain⟨l',_,rfl⟩:=List.mem_map.1 (List.mem_of_getElem? h1)
 exact .same _ (zw7 l')
theorem p84a (R:Reg)(S:Rst)(t:Tu)(n:Nat)(hR:RO R)(hS:SIv R S n)(hn:n<1000)(hf:zbc R t)(hk:t.k=1):zao prog 84 [encR R,encS S,encT t] fun r=>r=.tup [encS (zcj R S t).1,.bool (zcj R S t).2]:=by
 have hp:t.p∈R.ps:=by rcases hf.2.2.2.2 with⟨_,h,_⟩|⟨_,h,_⟩|⟨h,_⟩<;>first|exact h|omega
 obtain⟨i,L,hi,hiw,hL,hsL,hLn⟩:=at_p hS hp
 have hL2:S.ws[i]=L:=(List.getElem?_eq_some_iff.1 hL).2
 obtain⟨s,hs,hsl,hsE⟩:=at_s hS hf.2.2.1 hf.2.2.2.1
 obtain⟨u,hu⟩:∃u,sHe S t.s=u:=⟨_,rfl⟩
 rw[hu] at hsE
 have hsE2:S.hs[s]=u:=(List.getElem?_eq_some_iff.1 hsE).2
 have hpl:=hR.pl
 have h24:R.ps.length<4294967296:=by omega
 have hwl:=hS.wl
 have hhl:=hS.hl
 have hsc:=hR.s2
 have hsc1:=hR.s1
 have hh:S.hs.length<4294967296:=by omega
 have hw:S.ws.length<4294967296:=by omega
 have hh0:0<S.hs.length:=by omega
 have hl:∀l∈S.ws,l.length<4294967296:=fun l h=>by have:=hS.ln l h;omega
 have hw0:0<S.ws.length:=by omega
 have hLl:L.length<4294967296:=by omega
 have hi1:i+1≤S.ws.length:=hiw
 have hspl:=z0p (L:=L) hiw (.grow 12 (L.length+1) true)
 obtain⟨ws2,hws2⟩:∃ws2,S.ws.set i (L++[(s:Int)])=ws2:=⟨_,rfl⟩
 have htk:List.take S.ws.length (List.map wQ ws2)=List.map wQ ws2:=by rw[List.take_of_length_le];rw[← hws2];simp
 have hle2:S.ws.length≤ws2.length:=by rw[← hws2];simp
 have hne:¬S.ws=[]:=fun h=>by rw[h] at hw0;exact absurd hw0 (by decide)
 have hfg:∀(vh:zab) (n2:Nat) (D:Nat→Bool) (ρ:Nat→Nat),D 12=true→vh.get 12=some (.grow 1 (List.map (PV.int IntKind.i64) L++[.int .i64 s]))→AltO vh n2 D ρ (.box ((S.ws.map wQ).set i (.grow 12 (L.length+1) true))) (.arr false 1 (ws2.map wQ)):=fun vh n2 D ρ h1 h2=>⟨by decide,by rw[← hws2];exact fgF h1 (by rw[h2];simp) (by simp),by simp⟩
 have hLm:(livW S i L)[i]?=some (.grow 9 L.length true):=by unfold livW;rw[List.getElem?_set_self (by simpa using hiw)]
 have hLm2:=(List.getElem?_eq_some_iff.1 hLm).2
 have hll:=zi1 S i L
 have hL9:L.length+1≤4294967296:=by omega
 rw[z5n hk hi hsL hs hu,hws2]
 have hcop:=xfq S i L hL hh hw hl
 clear hwl hhl
 unfold encR encT
 refine .zag func84 rfl rfl ?_
 refine .sr ?_
 refine .seq ?_
 refine .zac [0,1,2,3] rfl zz0 ?_
 refine .rn [0] _ ?_
 refine .step rfl rfl (.call rfl rfl rfl call138 (by decide) (((hcop _ _ _ _)).mono ?_))
 rintro _ _ ⟨rfl,rfl⟩
 refine .rn [2,3] [] ?_
 refine .done (.seq (.seq ?_))
 refine .rec (vts2:=[(3,.ptr 0 0),(4,.ptr 1 0),(5,.ptr 2 0),(6,.ptr 3 0),(7,.bool false),(8,.ptr 10 0)]) (vh2:=⟨11,[(10,.box [.vec (S.hs.map zah),.sub 8 0 S.ws.length,.int .i64 S.dy]),(9,.grow 1 (L.map (.int .i64))),(8,.box (livW S i L)),(3,.box [.sl0,.sl0,.int .i64 0]),(2,.box [.int .i64 1,.int .i64 t.d,.int .i64 s,.int .i64 t.p,.int .i64 t.w,.int .i64 t.o]),(1,.box [.vec (S.hs.map zah),.vec (S.ws.map wQ),.int .i64 S.dy]),(0,.box [ints R.ps,.int .i64 R.sc,turns R.ts])]⟩) (.mk [7] [] zz20 zz21 rfl rfl rfl) ?_
 refine .rn ?_
 refine .cs ?_ ?_<;>intro c19
 ·try simp at c19
  refine .sr ?_
  refine .ret ?_
  refine⟨_,_,zz2,(by simp[*]<;>rfl),?_⟩
  rw[if_pos c19];rfl
 try simp at c19
 refine .skip (.sr ?_)
 refine .seq (.sr ?_)
 refine .cs ?_ ?_<;>intro c26
 ·try simp at c26
 try simp at c26
 refine .skip (.seq ?_)
 refine .zac [0,1,2,3,4] rfl zz0 ?_
 refine .rn [0,1,2] _ ?_
 refine .pc rfl rfl rfl rfl rfl call81 (p81 R t.p h24) ?_
 refine .rn [4] [] ?_
 refine .done (.seq ?_)
 refine .drawn (ms:=[0,1,0,7,15,0,32,127,255]) (W:=[7]) (items:=[.op 0,.op 1,.op 2,.op 3,.op 4,.op 5,.op 6,.op 7,.op 8]) rfl zz0 zz0 zz0 ?_
 iterate 7 refine .rx ?_
 refine .wr rfl rfl (by decide) (.borrow rfl rfl rfl call107 (by decide) (by first|(simp<;>rfl)|(simp[*]<;>rfl)|(simp[*];done)) (p107 L s hLl) (by rintro _ rfl<;>first|(simp;done)|rfl) ?_)
 rintro _ rfl
 refine .rx ?_
 refine .done (.seq ?_)
 refine .drawn (ms:=[0,1,0,4,15,31,63,0,128,511,1023]) (W:=[]) (items:=[.op 0,.op 1,.op 2,.op 3,.op 4,.op 5,.op 6,.op 7,.op 8,.op 9,.op 10]) rfl zz0 zz0 zz0 ?_
 iterate 11 refine .rx ?_
 refine .done (.sr ?_)
 refine .seq (.sr ?_)
 refine .block (.sr ?_)
 refine .cs ?_ ?_<;>intro c57
 ·try simp at c57
  refine .seq ?_
  refine .zac [0,1,2,3,4,5,6] rfl zz0 ?_
  refine .rn [0,1,2] _ ?_
  refine .split (t:=61) rfl (fun c61=>?_) (fun c61=>?_)
  ·try rw[c61]
   try simp at c61
   refine .rn [3,4,5,6] [] ?_
   refine .done ?_
   refine .drawn (ms:=[0,1,0,0,8,0,56,120,0,256,768,2040,4095,8191]) (W:=[10,11,13]) (items:=[.op 0,.op 1,.op 2,.op 3,.op 4,.op 5,.op 6,.op 7,.op 8,.op 9,.op 10,.ck 7,.ck 4,.ck 1,.op 11,.ck 1,.op 12,.op 13]) rfl zz0 zz0 zz0 ?_
   iterate 10 refine .rx ?_
   refine .wv ?_
   refine .ck rfl zz0 ?_
   refine .ck rfl zz0 ?_
   refine .ck rfl zz0 ?_
   refine .wr rfl rfl (by decide) (.vopK [9,11] (todo':=[1]) zz1 zz1 (by decide) (⟨⟨by decide +kernel,_,_,rfl,zz1⟩,trivial⟩) zz0 ?_)
   refine .ck rfl zz0 ?_
   refine .rx ?_
   refine .wv ?_
   refine .done (.seq ?_)
   refine .rec (vts2:=[(6,.ptr 3 0),(8,.ptr 10 0),(12,.bool (!decide ((s:Int)∈L)))]) (vh2:=⟨13,[(10,.box [.vec (S.hs.map zah),.sub 8 0 S.ws.length,.int .i64 t.d]),(8,.arr false 1 (ws2.map wQ)),(3,.box [.sl0,.sl0,.int .i64 0]),(2,.box [.int .i64 1,.int .i64 t.d,.int .i64 s,.int .i64 t.p,.int .i64 t.w,.int .i64 t.o]),(1,.box [.vec (S.hs.map zah),.vec (S.ws.map wQ),.int .i64 S.dy]),(0,.box [ints R.ps,.int .i64 R.sc,turns R.ts])]⟩) (.mk [12] [] zz20 zz21 rfl rfl rfl) ?_
   refine .rn ?_
   refine .ret ?_
   refine⟨_,_,zz2,(by simp[*]<;>rfl),?_⟩
   rw[if_neg (by omega)];simp[encS]<;>simp_all
  try rw[c61]
  try simp at c61
  refine .rn [3,4,5,6] [] ?_
  refine .done ?_
  refine .drawn (ms:=[0,1,0,0,8,0,56,120,0,256,768,2040,4095,8191]) (W:=[10,11,13]) (items:=[.op 0,.op 1,.op 2,.op 3,.op 4,.op 5,.op 6,.op 7,.op 8,.op 9,.op 10,.ck 7,.ck 4,.ck 1,.op 11,.ck 1,.op 12,.op 13]) rfl zz0 zz0 zz0 ?_
  iterate 10 refine .rx ?_
  refine .wv ?_
  refine .ck rfl zz0 ?_
  refine .ck rfl zz0 ?_
  refine .ck rfl zz0 ?_
  refine .wr rfl rfl (by decide) (.vopK [9,11] (todo':=[1]) zz1 zz1 (by decide) (⟨⟨by decide +kernel,_,_,rfl,zz1⟩,trivial⟩) zz0 ?_)
  refine .ck rfl zz0 ?_
  refine .rx ?_
  refine .wv ?_
  refine .done (.seq ?_)
  refine .rec (vts2:=[(6,.ptr 3 0),(8,.ptr 10 0),(12,.bool (false))]) (vh2:=⟨13,[(10,.box [.vec (S.hs.map zah),.sub 8 0 S.ws.length,.int .i64 t.d]),(8,.arr false 1 (ws2.map wQ)),(3,.box [.sl0,.sl0,.int .i64 0]),(2,.box [.int .i64 1,.int .i64 t.d,.int .i64 s,.int .i64 t.p,.int .i64 t.w,.int .i64 t.o]),(1,.box [.vec (S.hs.map zah),.vec (S.ws.map wQ),.int .i64 S.dy]),(0,.box [ints R.ps,.int .i64 R.sc,turns R.ts])]⟩) (.mk [12] [] zz20 zz21 rfl rfl rfl) ?_
  refine .rn ?_
  refine .ret ?_
  refine⟨_,_,zz2,(by simp[*]<;>rfl),?_⟩
  rw[if_neg (by omega)];simp[encS]<;>simp_all
 try simp at c57
def swpR (R:Reg)(S:Rst)(t:Tu):List He×Bool:=
 if (sHe S t.s).p=0∨(sHe S t.o).p=0 then (S.hs,false)
 else if t.s∈sWt S (plc R (sHe S t.o).p)∨t.o∈sWt S (plc R (sHe S t.s).p) then (S.hs,false)
 else ((S.hs.set t.s.toNat { sHe S t.s with p:=(sHe S t.o).p }).set t.o.toNat { sHe S t.o with p:=(sHe S t.s).p },true)
theorem z9g {R:Reg}{S:Rst}{t:Tu}(hk:t.k=4):zcj R S t=if t.d<S.dy then (S,false) else (⟨(swpR R S t).1,S.ws,t.d⟩,(swpR R S t).2):=by
 unfold zcj swpR
 simp only[hk,if_true]
 split
 ·rfl
 split
 ·rfl
 split<;>rfl
theorem zuu {hs:List He}{k:Nat}(h:k<hs.length){u:He}(hu:hs[k]=u)(v:Int):(heC hs).take (k*4)++.int .i64 v::(heC hs).drop (k*4+1)=heC (hs.set k { u with p:=v }):=by
 have:=zs9 h v
 unfold zbj at this
 rw[hu] at this
 simpa using this
theorem p139 (R:Reg)(S:Rst)(t:Tu)(n:Nat)(hR:RO R)(hS:SIv R S n)(hn:n<1000)(hf:zbc R t)(hk:t.k=4):zar prog 139 [encR R,.agg [.sub 7 0 S.hs.length,.vec (S.ws.map wQ),.int .i64 t.d],encT t] ⟨10,[(7,.arr true 4 (heC S.hs))]⟩ fun v vh'=>v=.tup [.agg [.sub 7 0 S.hs.length,.vec (S.ws.map wQ),.int .i64 t.d],.bool (swpR R S t).2]∧vh'.get 7=some (.arr true 4 (heC (swpR R S t).1)):=by
 obtain⟨ho1,ho2,hos⟩:0≤t.o∧t.o≤R.sc - 1∧¬t.o=t.s:=by rcases hf.2.2.2.2 with⟨h|h|h,_⟩|⟨h,_⟩|⟨_,h,h',h'',_⟩<;>first|omega|exact⟨h,h',h''⟩
 obtain⟨s,hs,hsl,hsE⟩:=at_s hS hf.2.2.1 hf.2.2.2.1
 obtain⟨u,hu⟩:∃u,sHe S t.s=u:=⟨_,rfl⟩
 rw[hu] at hsE
 have hsE2:S.hs[s]=u:=(List.getElem?_eq_some_iff.1 hsE).2
 have hpl:=hR.pl
 have h24:R.ps.length<4294967296:=by omega
 have hwl:=hS.wl
 have hhl:=hS.hl
 have hsc:=hR.s2
 have hsc1:=hR.s1
 have hh:S.hs.length<4294967296:=by omega
 have hw:S.ws.length<4294967296:=by omega
 have hh0:0<S.hs.length:=by omega
 have hl:∀l∈S.ws,l.length<4294967296:=fun l h=>by have:=hS.ln l h;omega
 obtain⟨o,ho,hol,hoE⟩:=at_s hS ho1 ho2
 obtain⟨z,hz⟩:∃z,sHe S t.o=z:=⟨_,rfl⟩
 rw[hz] at hoE
 have hoE2:S.hs[o]=z:=(List.getElem?_eq_some_iff.1 hoE).2
 have hup:=hS.hp u (List.mem_of_getElem? hsE)
 have hzp:=hS.hp z (List.mem_of_getElem? hoE)
 have hos2:¬s=o:=by omega
 have hs4:s*4+4≤S.hs.length*4:=by omega
 have hs5:s*4+1≤S.hs.length*4:=by omega
 have hs6:s*4≤S.hs.length*4:=by omega
 have hat:=zq3 hsl
 rw[hsE2] at hat
 have hat2:=(List.getElem?_eq_some_iff.1 hat).2
 have hpart:=zf2 hsl
 rw[hsE2] at hpart
 have ho4:o*4+4≤S.hs.length*4:=by omega
 have ho5:o*4+1≤S.hs.length*4:=by omega
 have ho6:o*4≤S.hs.length*4:=by omega
 have hbt:=zq3 hol
 rw[hoE2] at hbt
 have hbt2:=(List.getElem?_eq_some_iff.1 hbt).2
 have hqart:=zf2 hol
 rw[hoE2] at hqart
 have hset1:=zuu hsl hsE2 z.p
 obtain⟨hs1,hhs1⟩:∃l,S.hs.set s { u with p:=z.p }=l:=⟨_,rfl⟩
 rw[hhs1] at hset1
 have hl1:hs1.length=S.hs.length:=by rw[← hhs1];simp
 have ho7:o*4+1≤hs1.length*4:=by omega
 have hs1o:hs1[o]=z:=by simp only[← hhs1];rw[List.getElem_set_ne hos2];exact hoE2
 have hset2:=zuu (hs:=hs1) (by omega) hs1o u.p
 obtain⟨hs2,hhs2⟩:∃l,hs1.set o { z with p:=u.p }=l:=⟨_,rfl⟩
 rw[hhs2] at hset2
 unfold encR encT swpR
 rw[hu,hz,hs,ho,Int.toNat_natCast,Int.toNat_natCast,hhs1,hhs2]
 clear hwl hhl hl1 hs1o
 refine .zag func139 rfl rfl ?_
 refine .sr ?_
 refine .sr ?_
 refine .sr ?_
 refine .seq (.seq ?_)
 refine .zac [0,1,2,3,4,5,6,7] rfl zz0 ?_
 refine .rn [0,1,2,3] _ ?_
 refine .split (t:=27) rfl (fun c27=>?_) (fun c27=>?_)
 ·try rw[c27]
  try simp at c27
  refine .rn [4,5,6,7] [] ?_
  refine .done (.zgb rfl (.sr ?_))
  refine .ret ?_
  exact⟨_,zz2,by simp_all,by simp_all[zab.get,zbl]⟩
 try rw[c27]
 try simp at c27
 have c27:¬u.p=0:=by simpa using c27
 obtain⟨j,M,hj,hjw,hM,hsM,hMn⟩:=at_p hS (hup.resolve_left c27)
 have hM2:S.ws[j]=M:=(List.getElem?_eq_some_iff.1 hM).2
 have hMl:M.length<4294967296:=by omega
 refine .rn [4,5,6,7] [] ?_
 refine .done ?_
 refine .cs ?_ ?_<;>intro c31
 ·try simp at c31
  refine .sr ?_
  refine .ret ?_
  exact⟨_,zz2,by simp_all,by simp_all[zab.get,zbl]⟩
 try simp at c31
 have c31:¬z.p=0:=by simpa using c31
 obtain⟨i,L,hi,hiw,hL,hsL,hLn⟩:=at_p hS (hzp.resolve_left c31)
 have hL2:S.ws[i]=L:=(List.getElem?_eq_some_iff.1 hL).2
 have hLl:L.length<4294967296:=by omega
 rw[hi,hj,hsL,hsM]
 refine .skip (.seq ?_)
 refine .drawn (ms:=[0,1,0,0,8,28,63,127,0,256,1023,2047]) (W:=[5,10]) (items:=[.op 0,.op 1,.op 2,.op 3,.op 4,.op 8,.op 9,.op 5,.ck 9,.ck 1,.op 6,.op 7,.op 10,.op 11]) rfl zz0 zz0 zz0 ?_
 iterate 7 refine .rx ?_
 refine .wp rfl rfl rfl rfl rfl call81 (p81 R z.p h24) ?_
 refine .ck rfl zz0 ?_
 refine .ck rfl zz0 ?_
 iterate 2 refine .rx ?_
 refine .wp rfl rfl rfl rfl rfl call107 (zn5 L s hLl) ?_
 refine .rx ?_
 refine .done (.seq ?_)
 refine .drawn (ms:=[0,1,0,0,8,28,63,127,0,256,1023,2047]) (W:=[5,10]) (items:=[.op 0,.op 1,.op 2,.op 3,.op 4,.op 8,.op 9,.op 5,.ck 9,.ck 1,.op 6,.op 7,.op 10,.op 11]) rfl zz0 zz0 zz0 ?_
 iterate 7 refine .rx ?_
 refine .wp rfl rfl rfl rfl rfl call81 (p81 R u.p h24) ?_
 refine .ck rfl zz0 ?_
 refine .ck rfl zz0 ?_
 iterate 2 refine .rx ?_
 refine .wp rfl rfl rfl rfl rfl call107 (zn5 M o hMl) ?_
 refine .rx ?_
 refine .done (.seq (.seq ?_))
 refine .zac [0,1,2,3] rfl zz0 ?_
 refine .rn [0,1] _ ?_
 refine .split (t:=56) rfl (fun c56=>?_) (fun c56=>?_)
 ·try rw[c56]
  try simp at c56
  refine .rn [2,3] [] ?_
  refine .done (.zgb rfl (.sr ?_))
  refine .ret ?_
  exact⟨_,zz2,by simp_all,by simp_all[zab.get,zbl]⟩
 try rw[c56]
 try simp at c56
 refine .rn [2,3] [] ?_
 refine .done ?_
 refine .cs ?_ ?_<;>intro c58
 ·try simp at c58
  refine .sr ?_
  refine .ret ?_
  exact⟨_,zz2,by simp_all,by simp_all[zab.get,zbl]⟩
 try simp at c58
 refine .skip (.sr ?_)
 refine .sr ?_
 refine .sr ?_
 refine .ret ?_
 exact⟨_,zz2,by simp_all,by simp_all[zab.get,zbl]⟩
theorem xcy (R:Reg)(S:Rst)(t:Tu)(n:Nat)(hR:RO R)(hS:SIv R S n)(hn:n<1000)(hf:zbc R t)(hk:t.k=4)(e a b c d:List PV):zar prog 139 [encR R,.agg [.sub 7 0 S.hs.length,.vec (S.ws.map wQ),.int .i64 t.d],encT t]
  ⟨10,[(9,.box e),(7,.arr true 4 (heC S.hs)),(3,.box a),(2,.box b),(1,.box c),(0,.box d)]⟩ fun v vh'=>v=.tup [.agg [.sub 7 0 S.hs.length,.vec (S.ws.map wQ),.int .i64 t.d],.bool (swpR R S t).2]∧
  ∃m,vh'=⟨m,[(9,.box e),(7,.arr true 4 (heC (swpR R S t).1)),(3,.box a),(2,.box b),(1,.box c),(0,.box d)]⟩:=by
 refine zar.only (zar.frame (i:=0) rfl rfl (zar.frame (i:=1) rfl rfl (zar.frame (i:=2) rfl rfl (zar.frame (i:=3) rfl rfl (zar.frame (i:=9) rfl rfl (p139 R S t n hR hS hn hf hk)))))) ?_
 rintro v _ ⟨_,⟨_,⟨_,⟨_,⟨vh1,⟨rfl,h7⟩,rfl⟩,rfl⟩,rfl⟩,rfl⟩,rfl⟩
 obtain⟨vh2,k1,k2,k3⟩:=sub5 (vh1:=vh1.back 9 (.box e)) (n:=vh1.next) (a:=.box a) (b:=.box b) (c:=.box c) (d:=.box d) rfl (l:=[(9,.box e),(7,.arr true 4 (heC (swpR R S t).1))]) (fun j z hz=>by
  rw[zab.zbw]
  simp only[zab.get,zbl,beq_eq] at hz
  by_cases e9:j=9
  ·subst e9;simp at hz;subst hz;exact⟨by omega,by simp⟩
  by_cases e7:j=7
  ·subst e7;simp at hz;subst hz;exact⟨by omega,by rw[if_neg (by decide)];exact h7⟩
  simp[e9,e7] at hz)
 exact⟨vh2,k1,k2,rfl,_,k3⟩
theorem zzk (R:Reg)(S:Rst)(t:Tu):(swpR R S t).1.length=S.hs.length:=by
 unfold swpR
 split
 ·rfl
 split
 ·rfl
 simp
theorem p84s (R:Reg)(S:Rst)(t:Tu)(n:Nat)(hR:RO R)(hS:SIv R S n)(hn:n<1000)(hf:zbc R t)(hk:t.k=4):zao prog 84 [encR R,encS S,encT t] fun r=>r=.tup [encS (zcj R S t).1,.bool (zcj R S t).2]:=by
 obtain⟨ho1,ho2,hos⟩:0≤t.o∧t.o≤R.sc - 1∧¬t.o=t.s:=by rcases hf.2.2.2.2 with⟨h|h|h,_⟩|⟨h,_⟩|⟨_,h,h',h'',_⟩<;>first|omega|exact⟨h,h',h''⟩
 obtain⟨s,hs,hsl,hsE⟩:=at_s hS hf.2.2.1 hf.2.2.2.1
 obtain⟨u,hu⟩:∃u,sHe S t.s=u:=⟨_,rfl⟩
 rw[hu] at hsE
 have hsE2:S.hs[s]=u:=(List.getElem?_eq_some_iff.1 hsE).2
 have hpl:=hR.pl
 have h24:R.ps.length<4294967296:=by omega
 have hwl:=hS.wl
 have hhl:=hS.hl
 have hsc:=hR.s2
 have hsc1:=hR.s1
 have hh:S.hs.length<4294967296:=by omega
 have hw:S.ws.length<4294967296:=by omega
 have hh0:0<S.hs.length:=by omega
 have hl:∀l∈S.ws,l.length<4294967296:=fun l h=>by have:=hS.ln l h;omega
 obtain⟨o,ho,hol,hoE⟩:=at_s hS ho1 ho2
 have hsw:=zzk R S t
 have hcop:=zzv S hh hw hl
 have hswp:=xcy R S t n hR hS hn hf hk
 rw[z9g hk]
 obtain⟨hs2,hhs2⟩:∃l,(swpR R S t).1=l:=⟨_,rfl⟩
 obtain⟨b2,hb2⟩:∃l,(swpR R S t).2=l:=⟨_,rfl⟩
 rw[hhs2] at hsw
 rw[hhs2,hb2] at hswp ⊢
 have hch:=zhi hs2
 rw[hsw] at hch
 unfold chunk at hch
 rw[xf1] at hch
 unfold List.range at hch
 have hle3:S.hs.length*4≤hs2.length*4:=by omega
 have hhne:¬S.hs=[]:=fun h=>by rw[h] at hh0;exact absurd hh0 (by decide)
 clear hwl hhl hsw
 unfold encT at hswp
 unfold encR at hswp
 rw[hk,hs,ho] at hswp
 unfold encR encT
 refine .zag func84 rfl rfl ?_
 refine .sr ?_
 refine .seq ?_
 refine .zac [0,1,2,3] rfl zz0 ?_
 refine .rn [0] _ ?_
 refine .step rfl rfl (.call rfl rfl rfl call138 (by decide) (((hcop _ _ _ _)).mono ?_))
 rintro _ _ ⟨rfl,rfl⟩
 refine .rn [2,3] [] ?_
 refine .done (.seq (.seq ?_))
 refine .rec (vts2:=[(3,.ptr 0 0),(4,.ptr 1 0),(5,.ptr 2 0),(6,.ptr 3 0),(7,.bool false),(8,.ptr 9 0)]) (vh2:=⟨10,[(9,.box [.sub 7 0 S.hs.length,.vec (S.ws.map wQ),.int .i64 S.dy]),(7,.arr true 4 (heC S.hs)),(3,.box [.sl0,.sl0,.int .i64 0]),(2,.box [.int .i64 4,.int .i64 t.d,.int .i64 s,.int .i64 t.p,.int .i64 t.w,.int .i64 o]),(1,.box [.vec (S.hs.map zah),.vec (S.ws.map wQ),.int .i64 S.dy]),(0,.box [ints R.ps,.int .i64 R.sc,turns R.ts])]⟩) (.mk [8] [] zz20 zz21 rfl rfl rfl) ?_
 refine .rn ?_
 refine .cs ?_ ?_<;>intro c19
 ·try simp at c19
  refine .sr ?_
  refine .ret ?_
  refine⟨_,_,zz2,zz2,?_⟩
  rw[if_pos c19];rfl
 try simp at c19
 refine .skip (.sr ?_)
 refine .seq (.sr ?_)
 refine .cs ?_ ?_<;>intro c26
 ·try simp at c26
  refine .seq ?_
  refine .zac [0,1,2,3,4,5,6,7] rfl zz0 ?_
  refine .rn [0,1,2] _ ?_
  refine .step rfl rfl (.call rfl rfl rfl call139 (by decide) (((hswp _ _ _ _ _)).mono ?_))
  rintro _ _ ⟨rfl,m,rfl⟩
  refine .rn [4,5,6,7] [] ?_
  refine .done (.ret ?_)
  refine⟨_,_,zz2,(by simp[*]<;>rfl),?_⟩
  rw[if_neg (by omega)];rfl
 try simp at c26
theorem p84 (R:Reg)(S:Rst)(t:Tu)(n:Nat)(hR:RO R)(hS:SIv R S n)(hn:n<1000)(hf:zbc R t):zao prog 84 [encR R,encS S,encT t] fun r=>r=.tup [encS (zcj R S t).1,.bool (zcj R S t).2]:=by
 have hk:t.k=1∨t.k=2∨t.k=3∨t.k=4∨t.k=5:=by rcases hf.2.2.2.2 with⟨h|h|h,_⟩|⟨h,_⟩|⟨h,_⟩<;>simp[h]
 rcases hk with hk|hk|hk|hk|hk
 ·exact p84a R S t n hR hS hn hf hk
 ·exact p84h R S t n hR hS hn hf hk
 ·exact p84b R S t n hR hS hn hf hk
 ·exact p84s R S t n hR hS hn hf hk
 exact p84q R S t n hR hS hn hf hk
theorem SIv.step {R:Reg}{S:Rst}{t:Tu}{n:Nat}(hR:RO R)(h:SIv R S n)(hf:zbc R t):SIv R (zcj R S t).1 (n+1):=by
 have up:SIv R S (n+1):=⟨h.hl,h.wl,fun l hl=>Nat.le_succ_of_le (h.ln l hl),h.hp⟩
 have day:∀d,SIv R ⟨S.hs,S.ws,d⟩ (n+1):=fun d=>⟨up.hl,up.wl,up.ln,up.hp⟩
 have wset:∀(hs:List He) (i:Nat) (l:List Int) (d:Int),(hs.length:Int)=R.sc→(∀u∈hs,u.p=0∨u.p∈R.ps)→l.length≤n+1→SIv R ⟨hs,S.ws.set i l,d⟩ (n+1):=fun hs i l d h1 h2 h3=>
  ⟨h1,by simpa using up.wl,fun x hx=>by
   rcases List.mem_or_eq_of_mem_set hx with hx|rfl
   ·exact up.ln x hx
   exact h3,h2⟩
 have hset:∀(s:Nat) (u:He),u.p=0∨u.p∈R.ps→(((S.hs.set s u).length:Nat):Int)=R.sc∧∀v∈S.hs.set s u,v.p=0∨v.p∈R.ps:=fun s u hu=>⟨by simpa using h.hl,fun v hv=>by
  rcases List.mem_or_eq_of_mem_set hv with hv|rfl
  ·exact h.hp v hv
  exact hu⟩
 have sW:∀i,(sWt S i).length≤n:=fun i=>by
  unfold sWt
  cases hg:S.ws[i.toNat]? with
  |none=>exact Nat.zero_le _
  |some l=>exact h.ln l (List.mem_of_getElem? hg)
 have sO:∀i s,(outS (sWt S i) s).length≤n+1:=fun i s=>Nat.le_trans (zqd _ _) (Nat.le_succ_of_le (sW i))
 have sH:∀s,(sHe S s).p=0∨(sHe S s).p∈R.ps:=fun s=>by
  unfold sHe
  cases hg:S.hs[s.toNat]? with
  |none=>exact .inl rfl
  |some l=>exact h.hp l (List.mem_of_getElem? hg)
 unfold zcj
 split
 ·exact up
 split
 ·split
  ·exact day _
  split
  ·exact day _
  refine⟨by simpa using h.hl,up.wl,up.ln,fun v hv=>?_⟩
  rcases List.mem_or_eq_of_mem_set hv with hv|rfl
  ·exact(hset _ _ (by exact sH t.o)).2 v hv
  exact sH t.s
 rename_i hk4
 have hp:t.p∈R.ps:=by rcases hf.2.2.2.2 with⟨_,h,_⟩|⟨_,h,_⟩|⟨h,_⟩<;>first|exact h|omega
 split
 ·exact wset _ _ _ _ h.hl h.hp (by rw[List.length_append];have:=sW (plc R t.p);simp;omega)
 split
 ·exact wset _ _ _ _ h.hl h.hp (sO _ _)
 split
 ·obtain⟨h1,h2⟩:=hset t.s.toNat ⟨0,0,0,0⟩ (.inl rfl)
  exact⟨h1,up.wl,up.ln,h2⟩
 split
 ·obtain⟨h1,h2⟩:=hset t.s.toNat ⟨t.p,t.s,t.d,t.d+7*t.w⟩ (.inr hp)
  exact wset _ _ _ _ h1 h2 (sO _ _)
 exact day _
theorem SIv.beg {R:Reg}(hR:RO R):SIv R (beg R) 0:=⟨by have:=hR.s1;simp[Hi.beg];omega,by simp[Hi.beg],fun l hl=>by simp[Hi.beg] at hl;simp[hl.2],fun u hu=>.inl (by simp[Hi.beg] at hu;simp[hu.2])⟩
theorem z1s {R:Reg}{k:Nat}(h:k<R.ps.length):plc R R.ps[k]<k↔R.ps[k]∈R.ps.take k:=by
 obtain⟨i,h1,h2⟩:=ztj (List.getElem_mem h)
 have h3:=zo2 (fun x=>decide (x=R.ps[k])) R.ps 0 i (by have:plc R R.ps[k]=_:=h1;unfold plc at this;rw[this];simp)
 rw[h1]
 constructor
 ·intro hlt
  have hi:i<(R.ps.take k).length:=by rw[List.length_take];omega
  have:(R.ps.take k)[i]=R.ps[k]:=by rw[List.getElem_take];exact(List.getElem?_eq_some_iff.1 h2).2
  rw[← this];exact List.getElem_mem hi
 intro hm
 obtain⟨j,hj,he⟩:=List.getElem_of_mem hm
 rw[List.length_take] at hj
 rw[List.getElem_take] at he
 by_cases hij:i≤j
 ·omega
 exfalso
 have hjt:j<(R.ps.take i).length:=by rw[List.length_take];omega
 have:=h3.1 R.ps[j] (by rw[← List.getElem_take (h:=hjt)];exact List.getElem_mem hjt)
 simp[he] at this
theorem z3r {l:List Int}{k:Nat}(h:k<l.length)(hn:(l.take k).Nodup)(hx:l[k]∉l.take k):(l.take (k+1)).Nodup:=by
 rw[List.take_succ_eq_append_getElem h,List.nodup_append]
 exact⟨hn,by simp,fun a ha b hb e=>by simp at hb;subst hb;subst e;exact hx ha⟩
theorem z8d {l:List Int}{k:Nat}(h:k<l.length)(hx:l[k]∈l.take k):¬l.Nodup:=fun hn=>by
 have h2:=hn.sublist (List.take_sublist (k+1) l)
 rw[List.take_succ_eq_append_getElem h,List.nodup_append] at h2
 exact h2.2.2 _ hx _ (List.mem_singleton.2 rfl) rfl
theorem z0z {l:List Int}{k:Nat}(h:k<l.length)(hb:∀a∈l.take k,zjv a=false)(hx:zjv l[k]=false):∀a∈l.take (k+1),zjv a=false:=fun a ha=>by
 rw[List.take_succ_eq_append_getElem h,List.mem_append,List.mem_singleton] at ha
 rcases ha with ha|rfl
 ·exact hb a ha
 exact hx
theorem z8b {R:Reg}(h1:R.ps≠[])(h2:∀a∈R.ps,zjv a=false)(h3:1≤R.sc∧R.sc≤16):¬(R.ps=[]∨R.ps.any zjv=true∨¬(1≤R.sc∧R.sc≤16)):=by
 rintro (h|h|h)
 ·exact h1 h
 ·rw[List.any_eq_true] at h;obtain⟨x,h4,h5⟩:=h;rw[h2 x h4] at h5;cases h5
 exact h h3
theorem zi0 {R:Reg}{e:Int}(h:regE R=e)(he:¬e=0):chkR R=(e,-1):=by
 unfold chkR
 rw[h,if_neg he]
theorem z2h {R:Reg}{S:Rst}{k:Nat}(h:k<R.ts.length):chkF R S (R.ts.drop k) k=if zbk R R.ts[k] then (if (zcj R S R.ts[k]).2 then chkF R (zcj R S R.ts[k]).1 (R.ts.drop (k+1)) (k+1) else (4,(k:Int))) else (7,(k:Int)):=by
 rw[List.drop_eq_getElem_cons h];rfl
theorem p17 (R:Reg)(hl1:R.ps.length<4294967296)(hl2:R.ts.length<4294967296):zao prog 17 [encR R] fun r=>r=.agg [.int .i64 (chkR R).1,.int .i64 (chkR R).2]:=by
 unfold encR
 refine .zag func17 rfl rfl ?_
 refine .sr ?_
 refine .seq (.seq ?_)
 refine .zac [0,1,2,3,4,5,6,7,8,9] rfl zz0 ?_
 refine .rn [0,1,2,3,4] _ ?_
 refine .split (t:=14) rfl (fun c14=>?_) (fun c14=>?_)
 ·try rw[c14]
  try simp at c14
  refine .rn [5,6,7,8,9] [] ?_
  refine .done (.zgb rfl (.sr ?_))
  refine .ret ?_
  refine⟨_,_,zz2,zz2,?_⟩
  rw[zi0 (e:=2) (by unfold regE;rw[if_pos (by omega)]) (by decide)]
 try rw[c14]
 try simp at c14
 refine .rn [5,6,7,8,9] [] ?_
 refine .done ?_
 refine .cs ?_ ?_<;>intro c19
 ·try simp at c19
  refine .sr ?_
  refine .ret ?_
  refine⟨_,_,zz2,zz2,?_⟩
  rw[zi0 (e:=2) (by unfold regE;rw[if_pos (by omega)]) (by decide)]
 try simp at c19
 refine .skip (.seq (.seq ?_))
 refine .zac [0,1,2,3,4,5,6,7,8,9] rfl zz0 ?_
 refine .rn [0,1,2,3,4] _ ?_
 refine .split (t:=25) rfl (fun c25=>?_) (fun c25=>?_)
 ·try rw[c25]
  try simp at c25
  refine .rn [5,6,7,8,9] [] ?_
  refine .done (.zgb rfl (.sr ?_))
  refine .ret ?_
  refine⟨_,_,zz2,zz2,?_⟩
  rw[zi0 (e:=1) (by unfold regE;rw[if_neg (by omega),if_pos (.inl (by simpa using c25))]) (by decide)]
 try rw[c25]
 try simp at c25
 refine .rn [5,6] _ ?_
 refine .pc rfl rfl rfl rfl rfl call80 (p80 _ _ _) ?_
 refine .rn [8,9] [] ?_
 refine .done ?_
 refine .cs ?_ ?_<;>intro c30
 ·try simp at c30
  refine .sr ?_
  refine .ret ?_
  refine⟨_,_,zz2,zz2,?_⟩
  rw[zi0 (e:=1) (by unfold regE;rw[if_neg (by omega),if_pos (.inr (.inr (by simp at c30 ⊢;omega)))]) (by decide)]
 try simp at c30
 have hsc:1≤R.sc∧R.sc≤16:=by simpa using c30
 refine .skip (.seq (.sr ?_))
 refine .block ?_
 refine .zb5 (fun k:Nat=>([(1,.vp [ints R.ps,.int .i64 R.sc,turns R.ts]),(2,.ptr 1 0),(3,.int .i64 k)],⟨2,[(1,.box [.int .i64 0,.int .i64 0])]⟩)) (fun k=>k≤R.ps.length∧∀a∈R.ps.take k,zjv a=false) (fun k=>R.ps.length - k) 0 ⟨by simp,by simp⟩ (.mk [0] [] zz10 zz11 rfl rfl rfl) ?_
 rintro k ⟨hk,hb⟩
 simp only at hk hb ⊢
 refine .seq (.sr ?_)
 refine .cs ?_ ?_<;>intro c36
 ·try simp at c36
  have hw2:=wr1 k
  refine .skip (.seq (.block (.seq ?_)))
  refine .zac [0,1,2,3,4,5,6] rfl zz0 ?_
  refine .rn [0,1,2,3,4] _ ?_
  refine .pc rfl rfl rfl rfl rfl call80 (p80 R.ps[k] 1 1099511627776) ?_
  refine .rn [6] [] ?_
  refine .done ?_
  refine .cs ?_ ?_<;>intro c45
  ·try simp at c45
   refine .sr ?_
   refine .ret ?_
   refine⟨_,_,zz2,zz2,?_⟩
   rw[zi0 (e:=1) (by unfold regE;rw[if_neg (by omega),if_pos (.inr (.inl (List.any_eq_true.2 ⟨_,List.getElem_mem c36,by unfold zjv;simp at c45 ⊢;omega⟩)))]) (by decide)]
  try simp at c45
  have hb2:zjv R.ps[k]=false:=by unfold zjv;simp at c45 ⊢;omega
  refine .skip (.rn ?_)
  refine⟨k+1,⟨zz3,z0z c36 hb hb2⟩,zz3,(.mk [] [] zz8 zz9 rfl rfl rfl)⟩
 try simp at c36
 have hk2:k=R.ps.length:=by omega
 subst hk2
 rw[List.take_length] at hb
 refine .exit (.seq (.sr ?_))
 refine .block ?_
 refine .zb5 (fun k:Nat=>([(1,.vp [ints R.ps,.int .i64 R.sc,turns R.ts]),(2,.ptr 1 0),(4,.int .i64 k)],⟨2,[(1,.box [.int .i64 0,.int .i64 0])]⟩)) (fun k=>k≤R.ps.length∧(R.ps.take k).Nodup) (fun k=>R.ps.length - k) 0 ⟨by simp,by simp⟩ (.mk [] [] zz8 zz9 rfl rfl rfl) ?_
 rintro k ⟨hk,hnd⟩
 simp only at hk hnd ⊢
 refine .seq (.sr ?_)
 refine .cs ?_ ?_<;>intro c51
 ·try simp at c51
  have hw2:=wr1 k
  refine .skip (.seq (.block (.seq ?_)))
  refine .drawn (ms:=[0,0,2,0,14,30,63,0,255]) (W:=[6]) (items:=[.op 0,.op 1,.op 2,.op 3,.op 4,.op 5,.op 7,.op 6,.op 8]) rfl zz0 zz0 zz0 ?_
  iterate 7 refine .rx ?_
  refine .wp rfl rfl rfl rfl rfl call81 (p81 R R.ps[k] hl1) ?_
  refine .rx ?_
  refine .done ?_
  refine .cs ?_ ?_<;>intro c62
  ·try simp at c62
   have c62:plc R R.ps[k]<k:=by simpa using c62
   refine .sr ?_
   refine .ret ?_
   refine⟨_,_,zz2,zz2,?_⟩
   rw[zi0 (e:=6) (by unfold regE;rw[if_neg (by omega),if_neg (z8b (List.ne_nil_of_length_pos (by omega)) hb hsc),if_neg (z8d c51 ((z1s c51).1 c62))]) (by decide)]
  try simp at c62
  have c62:¬plc R R.ps[k]<k:=by simpa using c62
  refine .skip (.rn ?_)
  refine⟨k+1,⟨zz3,z3r c51 hnd (fun h=>c62 ((z1s c51).2 h))⟩,zz3,(.mk [] [] zz8 zz9 rfl rfl rfl)⟩
 try simp at c51
 have hk2:k=R.ps.length:=by omega
 rw[hk2,List.take_length] at hnd
 have hnb:=z8b (R:=R) (by simpa using c25) hb hsc
 have hE:regE R=0:=by unfold regE;rw[if_neg (by omega),if_neg hnb,if_pos hnd]
 obtain⟨_,q2,q3,q4,q5,q6,_⟩:=zlk hE
 have hR:RO R:=⟨q2,q3,q4,q5⟩
 rw[z2x hE]
 refine .exit (.seq ?_)
 refine .zac [0,1,2,3] rfl zz0 ?_
 refine .rn [0] _ ?_
 refine .pc rfl rfl rfl rfl rfl call82 (p82 R hsc hl1) ?_
 refine .rn [2,3] [] ?_
 refine .done (.seq (.sr ?_))
 refine .block ?_
 refine .zb5 (fun s:Nat×Rst=>([(1,.vp [ints R.ps,.int .i64 R.sc,turns R.ts]),(2,.ptr 1 0),(5,.ptr 2 0),(6,.int .i64 s.1)],⟨3,[(2,.box [.vec (s.2.hs.map zah),.vec (s.2.ws.map wQ),.int .i64 s.2.dy]),(1,.box [.int .i64 0,.int .i64 0])]⟩)) (fun s=>s.1≤R.ts.length∧SIv R s.2 s.1∧chkF R s.2 (R.ts.drop s.1) s.1=chkF R (beg R) R.ts 0) (fun s=>R.ts.length - s.1) (0,beg R) ⟨by simp,SIv.beg hR,by simp⟩ (.mk [] [] zz8 zz9 rfl rfl rfl) ?_
 rintro⟨k,S⟩ ⟨hk,hS,hr⟩
 simp only at hk hS hr ⊢
 refine .seq (.sr ?_)
 refine .cs ?_ ?_<;>intro c70
 ·try simp at c70
  have hw2:=wr1 k
  rw[z2h c70] at hr
  unfold turns
  obtain⟨t,ht⟩:∃t,R.ts[k]=t:=⟨_,rfl⟩
  rw[ht] at hr
  refine .skip (.seq (.block (.seq ?_)))
  refine .drawn (ms:=[0,0,2,0,14,30,63,127]) (W:=[6]) (items:=[.op 0,.op 1,.op 2,.op 3,.op 4,.op 5,.op 6,.op 7]) rfl zz0 zz0 zz0 ?_
  iterate 6 refine .rx ?_
  refine .wp rfl rfl rfl rfl rfl call83 (p83 R t hsc hl1) ?_
  refine .rx ?_
  refine .done (.seq (.sr ?_))
  refine .cs ?_ ?_<;>intro c81
  ·try simp at c81
   refine .sr ?_
   refine .ret ?_
   refine⟨_,_,zz2,zz2,?_⟩
   rw[← hr,if_neg (by simpa using c81)]
  try simp at c81
  have hf:zbc R t:=of_decide_eq_true c81
  obtain⟨S2,hS2⟩:∃S2,(zcj R S t).1=S2:=⟨_,rfl⟩
  obtain⟨b2,hb2⟩:∃b2,(zcj R S t).2=b2:=⟨_,rfl⟩
  have hst:=p84 R S t k hR hS (by omega) hf
  have hSn:=hS.step hR hf
  rw[hS2] at hSn
  rw[hS2,hb2] at hst hr
  rw[if_pos c81] at hr
  refine .skip (.seq ?_)
  refine .zmd (ms:=[0,0,0,4,0,28,60,127,255,511,511,0,3071,8191]) (W:=[7,12]) (As:=[11]) (items:=[.op 0,.op 1,.op 2,.op 3,.op 4,.op 5,.op 6,.op 11,.op 7,.op 8,.op 9,.op 10,.op 12,.op 13]) rfl zz0 zz0 zz0 zz0 (by decide) ?_
  iterate 7 refine .rf ?_
  refine .al rfl rfl (by decide) (by decide) (by decide) (by decide) zz1 ?_
  refine .wr rfl rfl (by decide) (.pure rfl rfl rfl call84 (by decide) (hst) (by first|rfl|simp[*]) ?_)
  rintro _ rfl
  iterate 3 refine .rf ?_
  refine .wr rfl rfl (by decide) (.vop zz1 (by decide) ?_)
  refine .rf ?_
  refine .done (.seq (.sr ?_))
  refine .cs ?_ ?_<;>intro c96
  ·try simp at c96
   refine .sr ?_
   refine .ret ?_
   refine⟨_,_,zz2,zz2,?_⟩
   rw[← hr,if_neg (by simpa using c96)]
  try simp at c96
  refine .skip (.rn ?_)
  refine .rn ?_
  refine⟨(k+1,S2),⟨zz3,hSn,by rw[← hr,if_pos c96]⟩,zz3,(.mk [] [] zz8 zz9 rfl rfl rfl)⟩
 try simp at c70
 refine .exit (.sr ?_)
 refine .ret ?_
 refine⟨_,_,zz2,zz2,?_⟩
 rw[← hr,show k=R.ts.length by omega,List.drop_length];rfl
def rbeh (R:Reg)(day:Int):Rst:=behS R day (beg R) R.ts
theorem z2v {R:Reg}{day:Int}{S:Rst}{k:Nat}(h:k<R.ts.length):behS R day S (R.ts.drop k)=if R.ts[k].d≤day then behS R day (zcj R S R.ts[k]).1 (R.ts.drop (k+1)) else behS R day S (R.ts.drop (k+1)):=by
 rw[List.drop_eq_getElem_cons h];rfl
theorem SIv.le {R:Reg}{S:Rst}{n m:Nat}(h:SIv R S n)(hnm:n≤m):SIv R S m:=⟨h.hl,h.wl,fun l hl=>Nat.le_trans (h.ln l hl) hnm,h.hp⟩
theorem SIv.beh {R:Reg}(hR:RO R)(day:Int):∀(ts:List Tu) (S:Rst) (n:Nat),SIv R S n→(∀t∈ts,zbc R t)→SIv R (behS R day S ts) (n+ts.length)
 |[],S,n,h,_=>h
 |t::r,S,n,h,hf=>by
  simp only[behS]
  split
  ·exact(SIv.beh hR day r _ (n+1) (h.step hR (hf t (List.mem_cons_self ..))) fun t ht=>hf t (List.mem_cons_of_mem _ ht)).le (by simp only[List.length_cons];omega)
  exact(SIv.beh hR day r _ n h fun t ht=>hf t (List.mem_cons_of_mem _ ht)).le (by simp only[List.length_cons];omega)
theorem zn2 {R:Reg}(h:(chkR R).1=0):RO R:=by
 obtain⟨_,q2,q3,q4,q5,_⟩:=zlk (zmv h).1
 exact⟨q2,q3,q4,q5⟩
theorem zmc {R:Reg}(h:(chkR R).1=0)(day:Int):SIv R (rbeh R day) 120:=by
 have h1:=zmv h
 obtain⟨_,_,_,_,_,q6,_⟩:=zlk h1.1
 exact(SIv.beh (zn2 h) day R.ts _ 0 (SIv.beg (zn2 h)) fun t ht=>of_decide_eq_true (h1.2.1 t ht)).le (by omega)
def askE (R:Reg)(id day:Int):Int:=if (chkR R).1=0 then (if ¬id=0∧plc R id<0 then 5 else if 0≤day∧day≤730 then 0 else 1) else (chkR R).1
theorem ztq (R:Reg)(day:Int):askE R 0 day=onE R day:=by
 unfold askE onE
 simp
theorem p89 (R:Reg)(day:Int)(hl1:R.ps.length<4294967296)(hl2:R.ts.length<4294967296)(h:(chkR R).1=0):zao prog 89 [encR R,.int .i64 day] fun r=>r=encS (rbeh R day):=by
 have hR:=zn2 h
 have hsc:1≤R.sc∧R.sc≤16:=⟨hR.s1,hR.s2⟩
 have hff:=(zmv h).2.1
 have q6:=(zlk (zmv h).1).2.2.2.2.2.1
 unfold encR rbeh
 refine .zag func89 rfl rfl ?_
 refine .sr ?_
 refine .seq ?_
 refine .zac [0,1,2,3] rfl zz0 ?_
 refine .rn [0] _ ?_
 refine .pc rfl rfl rfl rfl rfl call82 (p82 R hsc hl1) ?_
 refine .rn [2,3] [] ?_
 refine .done (.seq (.sr ?_))
 refine .block ?_
 refine .zb5 (fun s:Nat×Rst=>([(1,.int .i64 day),(2,.ptr 0 0),(4,.ptr 1 0),(5,.ptr 2 0),(6,.int .i64 s.1)],⟨3,[(2,.box [.vec (s.2.hs.map zah),.vec (s.2.ws.map wQ),.int .i64 s.2.dy]),(1,.box [.sl0,.sl0,.int .i64 0]),(0,.box [ints R.ps,.int .i64 R.sc,turns R.ts])]⟩)) (fun s=>s.1≤R.ts.length∧SIv R s.2 s.1∧behS R day s.2 (R.ts.drop s.1)=behS R day (beg R) R.ts) (fun s=>R.ts.length - s.1) (0,beg R) ⟨by simp,SIv.beg hR,by simp⟩ (.mk [] [] zz8 zz9 rfl rfl rfl) ?_
 rintro⟨k,S⟩ ⟨hk,hS,hr⟩
 simp only at hk hS hr ⊢
 refine .seq (.sr ?_)
 refine .cs ?_ ?_<;>intro c13
 ·try simp at c13
  have hw2:=wr1 k
  rw[z2v c13] at hr
  unfold turns
  obtain⟨t,ht⟩:∃t,R.ts[k]=t:=⟨_,rfl⟩
  have hf:zbc R t:=by rw[← ht];exact of_decide_eq_true (hff _ (List.getElem_mem c13))
  rw[ht] at hr
  refine .skip (.seq (.block (.sr ?_)))
  refine .cs ?_ ?_<;>intro c23
  ·try simp at c23
   obtain⟨S2,hS2⟩:∃S2,(zcj R S t).1=S2:=⟨_,rfl⟩
   obtain⟨b2,hb2⟩:∃b2,(zcj R S t).2=b2:=⟨_,rfl⟩
   have hst:=p84 R S t k hR hS (by omega) hf
   have hSn:=hS.step hR hf
   have hdd:t.d≤day:=by simpa[ht] using c23
   rw[hS2] at hSn
   rw[hS2,hb2] at hst
   rw[hS2,if_pos hdd] at hr
   refine .drawn (ms:=[0,0,0,4,0,28,60,127,255,511,511,1023]) (W:=[7,11]) (items:=[.op 0,.op 1,.op 2,.op 3,.op 4,.op 5,.op 6,.op 7,.op 8,.op 9,.op 10,.op 11]) rfl zz0 zz0 zz0 ?_
   iterate 7 refine .rx ?_
   refine .wp rfl rfl rfl rfl rfl call84 (hst) ?_
   iterate 3 refine .rx ?_
   refine .wv ?_
   refine .done (.rn ?_)
   refine⟨(k+1,S2),⟨zz3,hSn,hr⟩,zz3,(.mk [] [] zz8 zz9 rfl rfl rfl)⟩
  try simp at c23
  have hdd:¬t.d≤day:=by simpa[ht] using c23
  rw[if_neg hdd] at hr
  refine .skip (.rn ?_)
  refine⟨(k+1,S),⟨zz3,hS.le (Nat.le_succ k),hr⟩,zz3,(.mk [] [] zz8 zz9 rfl rfl rfl)⟩
 try simp at c13
 refine .exit (.sr ?_)
 refine .ret ?_
 refine⟨_,_,zz2,zz2,?_⟩
 rw[← hr,show k=R.ts.length by omega,List.drop_length];rfl
theorem p88 (R:Reg)(id day:Int)(hl1:R.ps.length<4294967296)(hl2:R.ts.length<4294967296):zao prog 88 [encR R,.int .i64 id,.int .i64 day] fun r=>r=.int .i64 (askE R id day):=by
 unfold encR askE
 refine .zag func88 rfl rfl ?_
 refine .sr ?_
 refine .seq ?_
 refine .zac [0,1,2,3] rfl zz0 ?_
 refine .rn [0] _ ?_
 refine .pc rfl rfl rfl rfl rfl call17 (p17 R hl1 hl2) ?_
 refine .rn [2,3] [] ?_
 refine .done (.seq (.sr ?_))
 refine .cs ?_ ?_<;>intro c12
 ·try simp at c12
  refine .sr ?_
  refine .ret ?_
  refine⟨_,_,zz2,zz2,?_⟩
  simp_all
 try simp at c12
 refine .skip (.seq (.seq ?_))
 refine .zac [0,1,2,3,4,5,6,7] rfl zz0 ?_
 refine .rn [0,1,2] _ ?_
 refine .split (t:=17) rfl (fun c17=>?_) (fun c17=>?_)
 ·try rw[c17]
  try simp at c17
  refine .rn [3,4] _ ?_
  refine .pc rfl rfl rfl rfl rfl call81 (p81 R id hl1) ?_
  refine .rn [6,7] [] ?_
  refine .done ?_
  refine .cs ?_ ?_<;>intro c22
  ·try simp at c22
   refine .sr ?_
   refine .ret ?_
   refine⟨_,_,zz2,zz2,?_⟩
   simp_all
  try simp at c22
  refine .skip (.seq (.seq ?_))
  refine .zac [0,1,2] rfl zz0 ?_
  refine .rn [0] _ ?_
  refine .pc rfl rfl rfl rfl rfl call80 (p80 _ _ _) ?_
  refine .rn [2] [] ?_
  refine .done ?_
  refine .cs ?_ ?_<;>intro c25
  ·try simp at c25
   refine .sr ?_
   refine .ret ?_
   refine⟨_,_,zz2,zz2,?_⟩
   rw[if_pos (by simpa using c12),if_neg (by omega),if_neg (by omega)]
  try simp at c25
  refine .skip (.sr ?_)
  refine .ret ?_
  refine⟨_,_,zz2,zz2,?_⟩
  rw[if_pos (by simpa using c12),if_neg (by omega),if_pos (by simpa using c25)]
 try rw[c17]
 try simp at c17
 refine .rn [3,4,5,6,7] [] ?_
 refine .done (.zjd rfl (.skip (.seq (.seq ?_))))
 refine .zac [0,1,2] rfl zz0 ?_
 refine .rn [0] _ ?_
 refine .pc rfl rfl rfl rfl rfl call80 (p80 _ _ _) ?_
 refine .rn [2] [] ?_
 refine .done ?_
 refine .cs ?_ ?_<;>intro c25
 ·try simp at c25
  refine .sr ?_
  refine .ret ?_
  refine⟨_,_,zz2,zz2,?_⟩
  rw[if_pos (by simpa using c12),if_neg (by omega),if_neg (by omega)]
 try simp at c25
 refine .skip (.sr ?_)
 refine .ret ?_
 refine⟨_,_,zz2,zz2,?_⟩
 rw[if_pos (by simpa using c12),if_neg (by omega),if_pos (by simpa using c25)]
attribute [local simp] zax zat zaz eq56
def zj8 (R:Reg)(day:Int):List He:=if onE R day=0 then zfm (behD R day) else []
theorem zig {R:Reg}(h:(chkR R).1=0)(day:Int):∃m,Both R (behD R day) (rbeh R day) m:=z4k h day
theorem zqk {R:Reg}(h:(chkR R).1=0)(day:Int):(rbeh R day).hs.filter (fun u=>!decide (u.p=0))=zfm (behD R day):=by
 obtain⟨m,b⟩:=zig h day
 exact zz4 b (zoh h day).2 (zn2 h).p1
theorem Both.z1t {R:Reg}{D:Dk}{S:Rst}{n:Nat}(b:Both R D S n){id:Int}(hp:1≤id):(hld S id<0∧alk D.y id=none)∨∃s:Nat,hld S id=s∧alk D.y id=some (s:Int):=by
 have hsc:=b.i4.sc
 have h1:=b.a.hld b.i b.i4.sc (p:=id) hp
 cases hy:alk D.y id with
 |none=>
  rw[hy] at h1
  exact .inl ⟨by simpa using h1,rfl⟩
 |some s=>
  rw[hy] at h1
  have hge:¬hld S id<0:=by simpa using h1
  rcases zg9 (fun u:He=>decide (u.p=id)) S.hs with h|⟨i,h2,h3,h4⟩
  ·exact absurd (show hld S id = -1 from h) (by omega)
  refine .inr ⟨i,h3,?_⟩
  have h5:=b.a.hs i h2
  rw[h5] at h4
  simp only[Option.map_eq_map,Option.map_some,xfy,decide_eq_true_eq] at h4
  cases hx:alk D.x i with
  |none=>rw[hx] at h4;simp at h4;omega
  |some u=>
   rw[hx] at h4
   have h4:u.p=id:=h4
   have h6:=(b.i.xy _ _ hx).1
   rw[h4,hy] at h6
   rw[h6]
theorem zl9 {R:Reg}{day:Int}(h:onE R day=0):(chkR R).1=0:=zgu h
theorem zol {p:He→Bool}{l:List He}{k:Nat}(h:k<l.length):(l.take (k+1)).filter p=(l.take k).filter p++(if p l[k] then [l[k]] else []):=by
 rw[List.take_succ_eq_append_getElem h,List.filter_append]
 cases hp:p l[k]<;>simp[hp]
theorem z3q {vh:zab}{n2:Nat}{D:Nat→Bool}{ρ:Nat→Nat}(l:List Int):Alt vh n2 D ρ (wQ l) (ints l):=by
 unfold wQ
 split
 ·rename_i h;subst h;exact .sl0v
 exact .same _ rfl
theorem p26 (a:List He)(hl:a.length<4294967296):zao prog 26 [zer a,zer a] fun r=>r=.bool true:=by
 unfold zer
 refine .zag func26 rfl rfl ?_
 refine .sr ?_
 refine .seq (.sr ?_)
 refine .cs ?_ ?_<;>intro c10
 ·try simp at c10
 try simp at c10
 refine .skip (.seq (.sr ?_))
 refine .block ?_
 refine .zb5 (fun s:Nat=>([(0,.vec (a.map zah)),(1,.vec (a.map zah)),(5,.int .i64 s)],zab.empty)) (fun s=>s≤a.length) (fun s=>a.length - s) 0 (by simp) (.pure (by simp[*]) (by simp)) ?_
 rintro i hi
 simp only at hi ⊢
 refine .seq (.sr ?_)
 refine .cs ?_ ?_<;>intro c14
 ·try simp at c14
  have hw2:=wr1 i
  refine .skip (.seq (.block (.seq ?_)))
  refine .drawn (ms:=[0,0,3,7,0,0,48,112,255]) (W:=[]) (items:=[.op 0,.op 1,.op 2,.op 3,.op 4,.op 5,.op 6,.op 7,.op 8]) rfl zz0 zz0 zz0 ?_
  iterate 9 refine .rx ?_
  refine .done ?_
  refine .cs ?_ ?_<;>intro c25
  ·try simp at c25
  try simp at c25
  refine .skip (.rn ?_)
  refine⟨i+1,zz3,zz3,.pure (by simp[*]) (by simp)⟩
 try simp at c14
 refine .exit (.sr ?_)
 refine .ret ?_
 refine⟨_,_,zz2,zz2,?_⟩
 first|rfl|(simp[*];done)|(simp_all;done)
theorem p19 (R:Reg)(day:Int)(hl1:R.ps.length<4294967296)(hl2:R.ts.length<4294967296):zao prog 19 [encR R,.int .i64 day] fun r=>r=.agg [if onE R day=0 then zer (zj8 R day) else .sl0,.int .i64 (onE R day)]:=by
 have ha:=ztq R day
 have h88:=p88 R 0 day hl1 hl2
 rw[ha] at h88
 unfold encR
 refine .zag func19 rfl rfl ?_
 refine .sr ?_
 refine .seq ?_
 refine .zac [0,1,2,3] rfl zz0 ?_
 refine .rn [0,1] _ ?_
 refine .pc rfl rfl rfl rfl rfl call88 (h88) ?_
 refine .rn [3] [] ?_
 refine .done (.seq (.sr ?_))
 refine .cs ?_ ?_<;>intro c13
 ·try simp at c13
  refine .sr ?_
  refine .ret ?_
  refine⟨_,_,zz2,zz2,?_⟩
  rw[if_neg c13]
 try simp at c13
 have hc:=zl9 c13
 have hS:=zmc hc day
 have hR:=zn2 hc
 have hhl:(rbeh R day).hs.length≤16:=by have:=hS.hl;have:=hR.s2;omega
 have hF:=zqk hc day
 have h89:=p89 R day hl1 hl2 hc
 obtain⟨S,hSe⟩:∃S,rbeh R day=S:=⟨_,rfl⟩
 rw[hSe] at hhl hF h89
 refine .skip (.sr ?_)
 refine .seq ?_
 refine .zac [0,1,2,3,4] rfl zz0 ?_
 refine .rn [0,1] _ ?_
 refine .pc rfl rfl rfl rfl rfl call89 (h89) ?_
 refine .rn [3,4] [] ?_
 refine .done (.seq (.sr ?_))
 refine .block ?_
 refine .zb5 (fun k:Nat=>([(4,.ptr 1 0),(6,.ptr 2 0),(7,.ptr 3 0),(8,.int .i64 k)],⟨5,[(4,.grow 4 (((S.hs.take k).filter fun u=>!decide (u.p=0)).map zah)),(3,.box [.vec (S.hs.map zah),.vec (S.ws.map wQ),.int .i64 S.dy]),(2,.box [.grow 4 ((S.hs.take k).filter fun u=>!decide (u.p=0)).length true,.int .i64 0]),(1,.box [.sl0,.int .i64 0])]⟩)) (fun k=>k≤S.hs.length) (fun k=>S.hs.length - k) 0 (by simp) (.mk [] [] zz8 zz9 rfl rfl rfl) ?_
 rintro k hk
 simp only at hk ⊢
 obtain⟨L,hL⟩:∃L,((S.hs.take k).filter fun u=>!decide (u.p=0))=L:=⟨_,rfl⟩
 have hLl:L.length≤k:=by rw[← hL];exact Nat.le_trans (List.length_filter_le _ _) (by rw[List.length_take];omega)
 have hL2:L.length+1≤4294967296:=by omega
 rw[hL]
 refine .seq (.sr ?_)
 refine .cs ?_ ?_<;>intro c24
 ·try simp at c24
  have hw2:=wr1 k
  have hFt:=zol (p:=fun u=>!decide (u.p=0)) c24
  rw[hL] at hFt
  refine .skip (.seq (.block (.sr ?_)))
  refine .cs ?_ ?_<;>intro c33
  ·try simp at c33
   have hF2:((S.hs.take (k+1)).filter fun u=>!decide (u.p=0))=L++[S.hs[k]]:=by rw[hFt];simp_all
   have hE:zah S.hs[k]=.agg [.int .i64 S.hs[k].p,.int .i64 S.hs[k].s,.int .i64 S.hs[k].a,.int .i64 S.hs[k].b]:=rfl
   clear hFt
   refine .drawn (ms:=[0,1,0,4,0,28,60,124,255,511,1023]) (W:=[7,8,10]) (items:=[.op 0,.op 1,.op 2,.op 3,.op 4,.op 5,.op 6,.op 7,.ck 1,.op 8,.op 9,.op 10]) rfl zz0 zz0 zz0 ?_
   iterate 7 refine .rx ?_
   refine .wv ?_
   refine .ck rfl zz0 ?_
   refine .wv ?_
   refine .rx ?_
   refine .wv ?_
   refine .done (.rn ?_)
   refine⟨k+1,zz3,zz3,(.mk [] [(4,6)] zz8 zz9 rfl rfl rfl)⟩
  try simp at c33
  have hF2:((S.hs.take (k+1)).filter fun u=>!decide (u.p=0))=L:=by rw[hFt];simp_all
  clear hFt
  refine .skip (.rn ?_)
  refine⟨k+1,zz3,zz3,(.mk [] [] zz8 zz9 rfl rfl rfl)⟩
 try simp at c24
 have hk2:k=S.hs.length:=by omega
 rw[hk2,List.take_length,hF] at hL
 refine .exit (.sr ?_)
 refine .ret ?_
 refine⟨_,_,zz2,zz2,?_⟩
 rw[if_pos (by simpa using c13)]
 unfold zj8
 rw[if_pos (by simpa using c13),hL]
 simp[zer];exact c13.symm
theorem zv0 (R:Reg)(day:Int)(vh:zab)(n2:Nat)(D:Nat→Bool)(ρ:Nat→Nat):Alt vh n2 D ρ (if onE R day=0 then zer (zj8 R day) else .sl0) (zer (zj8 R day)):=by
 by_cases h:onE R day=0
 ·rw[if_pos h];exact .same _ (zmn _)
 rw[if_neg h]
 have:zj8 R day=[]:=by unfold zj8;rw[if_neg h]
 rw[this];exact .sl0v
theorem p19s (R:Reg)(day:Int)(hl1:R.ps.length<4294967296)(hl2:R.ts.length<4294967296):zao prog 19 [encR R,.int .i64 day] fun r=>r=.agg [zer (zj8 R day),.int .i64 (onE R day)]:=
 (p19 R day hl1 hl2).alt fun r h=>⟨_,by subst h;exact .agg' (.cons (zv0 _ _ _ _ _ _) (.cons (.same _ rfl) .nil)),by simp[PV.isF,PV.allF],rfl⟩
def fewB (R:Reg):Bool:=decide (R.ps.length≤30)&&(decide (R.ts.length≤30)||(decide (120<R.ts.length)&&decide (R.ts.length≤130)))
theorem zre {R:Reg}(day:Int):(zj8 R day).length<4294967296:=by
 unfold zj8
 split
 ·rename_i h
  have:=(zoh (zl9 h) day).2.ln
  rw[zfi];omega
 simp
theorem p14 (R:Reg)(hl1:R.ps.length<4611686018427387904)(hl2:R.ts.length<4611686018427387904):zao prog 14 [encR R] fun r=>r=.bool (fewB R):=by
 unfold encR fewB
 refine .zag func14 rfl rfl ?_
 refine .sr ?_
 refine .seq ?_
 refine .zac [0,1,2,3,4,5,6,7,8,9,10,11,12,13,14,15,16,17,18,19,20,21,22] rfl zz0 ?_
 refine .rn [0,1,2,3,4] _ ?_
 refine .split (t:=7) rfl (fun c7=>?_) (fun c7=>?_)
 ·try rw[c7]
  try simp at c7
  refine .rn [5,6,7,8,9] _ ?_
  refine .split (t:=12) rfl (fun c12=>?_) (fun c12=>?_)
  ·try rw[c12]
   try simp at c12
   refine .rn [10,11,12,13,14,15,16,17,18,19,20,21,22] [] ?_
   refine .done (.ret ?_)
   refine⟨_,_,zz2,zz2,?_⟩
   refine congrArg PV.bool ?_
   rw[Bool.eq_iff_iff];simp_all<;>omega
  try rw[c12]
  try simp at c12
  refine .rn [10,11,12,13,14] _ ?_
  refine .split (t:=17) rfl (fun c17=>?_) (fun c17=>?_)
  ·try rw[c17]
   try simp at c17
   refine .rn [15,16,17,18,19,20,21,22] [] ?_
   refine .done (.ret ?_)
   refine⟨_,_,zz2,zz2,?_⟩
   refine congrArg PV.bool ?_
   rw[Bool.eq_iff_iff];simp_all<;>omega
  try rw[c17]
  try simp at c17
  refine .rn [15,16,17,18,19,20,21,22] [] ?_
  refine .done (.ret ?_)
  refine⟨_,_,zz2,zz2,?_⟩
  refine congrArg PV.bool ?_
  rw[Bool.eq_iff_iff];simp_all<;>omega
 try rw[c7]
 try simp at c7
 refine .rn [5,6,7,8,9,10,11,12,13,14,15,16,17,18,19,20,21,22] [] ?_
 refine .done (.ret ?_)
 refine⟨_,_,zz2,zz2,?_⟩
 refine congrArg PV.bool ?_
 rw[Bool.eq_iff_iff];simp_all<;>omega
def posR (O:List He)(x:He):Nat→Nat
 |0=>0
 |j+1=>if x.b<((O[j]?).getD ⟨0,0,0,0⟩).b then posR O x j else j+1
def insR (O:List He)(x:He):List He:=O.take (posR O x O.length)++x::O.drop (posR O x O.length)
def srtR (l:List He):List He:=l.foldl insR []
theorem z0r (O:List He)(x:He):(insR O x).length=O.length+1:=by
 have h:=congrArg List.length (List.take_append_drop (posR O x O.length) O)
 rw[List.length_append] at h
 unfold insR
 rw[List.length_append,List.length_cons]
 omega
theorem zqx (l:List He)(x:He):srtR (l++[x])=insR (srtR l) x:=by unfold srtR;rw[List.foldl_append];rfl
theorem zqj:∀(l a:List He),(l.foldl insR a).length=a.length+l.length
 |[],a=>by simp
 |x::r,a=>by rw[List.foldl_cons,zqj r,z0r];simp;omega
theorem zkj (l:List He):(srtR l).length=l.length:=by unfold srtR;rw[zqj];simp
def mvR (O:List He)(x:He)(j:Nat)(T:List He):List He:=O.take j++x::(O.drop j++T)
theorem z2u {O:List He}{x:He}{j:Nat}{T:List He}:(mvR O x j T).length=O.length+1+T.length:=by
 have h:=congrArg List.length (List.take_append_drop j O)
 rw[List.length_append] at h
 unfold mvR
 simp only[List.length_append,List.length_cons]
 omega
theorem z8t {O:List He}{x:He}{j:Nat}{T:List He}(h:j≤O.length):(mvR O x j T)[j]?=some x:=by
 unfold mvR
 rw[List.getElem?_append_right (by rw[List.length_take];omega),List.length_take,show j - min j O.length=0 by omega]
 rfl
theorem z4n {O:List He}{x:He}{j:Nat}{T:List He}(h0:0<j)(h:j≤O.length):(mvR O x j T)[j - 1]?=O[j - 1]?:=by
 unfold mvR
 rw[List.getElem?_append_left (by rw[List.length_take];omega),List.getElem?_take,if_pos (by omega)]
theorem zzn {O:List He}{x:He}{j:Nat}{T:List He}{o:He}(h0:0<j)(h:j≤O.length)(ho:O[j - 1]?=some o):((mvR O x j T).set j o).set (j - 1) x=mvR O x (j - 1) T:=by
 obtain⟨k,rfl⟩:∃k,j=k+1:=⟨j - 1,by omega⟩
 simp only[Nat.add_sub_cancel] at ho ⊢
 obtain⟨hk,hok⟩:=List.getElem?_eq_some_iff.1 ho
 have e1:O.take (k+1)=O.take k++[o]:=by rw[List.take_succ_eq_append_getElem hk,hok]
 have e2:O.drop k=o::O.drop (k+1):=by rw[List.drop_eq_getElem_cons hk,hok]
 have hl:(O.take k).length=k:=by rw[List.length_take];omega
 unfold mvR
 rw[e1,e2]
 generalize O.take k=A at hl ⊢
 subst hl
 simp[List.set_append]
theorem xel {O:List He}{x:He}{T:List He}:mvR O x O.length T=O++x::T:=by
 unfold mvR;rw[List.take_length,List.drop_length];rfl
theorem zxs {O:List He}{x:He}{T:List He}:mvR O x (posR O x O.length) T=insR O x++T:=by unfold mvR insR;simp
def cmp3 (a b:Int):Int:=if a<b then -1 else if b<a then 1 else 0
theorem z3k {a b:Int}:cmp3 a b<0↔a<b:=by
 unfold cmp3
 split
 ·simp_all
 split<;>simp_all
theorem zwi {O:List He}{x o:He}{j:Nat}(h0:0<j)(ho:O[j - 1]?=some o)(h:x.b<o.b):posR O x j=posR O x (j - 1):=by
 obtain⟨k,rfl⟩:∃k,j=k+1:=⟨j - 1,by omega⟩
 simp only[Nat.add_sub_cancel] at ho ⊢
 simp only[posR,ho,Option.getD_some,h,if_true]
theorem zql {O:List He}{x o:He}{j:Nat}(h0:0<j)(ho:O[j - 1]?=some o)(h:¬x.b<o.b):posR O x j=j:=by
 obtain⟨k,rfl⟩:∃k,j=k+1:=⟨j - 1,by omega⟩
 simp only[Nat.add_sub_cancel] at ho
 simp only[posR,ho,Option.getD_some,h,if_false]
theorem p157 (n:Int):zao prog 157 [.int .i64 n] fun r=>r=.bool false:=by
 refine .zag func157 rfl rfl ?_
 refine .sr ?_
 refine .sr ?_
 refine .ret ?_
 refine⟨_,_,zz2,zz2,?_⟩
 first|rfl|(simp[*];done)|(simp_all;done)
theorem p122 (a b:Int):zao prog 122 [.int .i64 a,.int .i64 b] fun r=>r=.int .i64 (cmp3 a b):=by
 unfold cmp3
 refine .zag func122 rfl rfl ?_
 refine .sr ?_
 refine .seq ?_
 refine .zac [0,1,2] rfl zz0 ?_
 refine .rn [0] _ ?_
 refine .pc rfl rfl rfl rfl rfl call157 (p157 _) ?_
 refine .rn [2] [] ?_
 refine .done (.seq ?_)
 refine .zac [0,1,2] rfl zz0 ?_
 refine .rn [0] _ ?_
 refine .pc rfl rfl rfl rfl rfl call157 (p157 _) ?_
 refine .rn [2] [] ?_
 refine .done (.seq (.sr ?_))
 refine .cs ?_ ?_<;>intro c11
 ·try simp at c11
 try simp at c11
 refine .skip (.seq (.sr ?_))
 refine .cs ?_ ?_<;>intro c13
 ·try simp at c13
 try simp at c13
 refine .skip (.seq (.sr ?_))
 refine .cs ?_ ?_<;>intro c16
 ·try simp at c16
  refine .sr ?_
  refine .ret ?_
  refine⟨_,_,zz2,zz2,?_⟩
  simp_all<;>omega
 try simp at c16
 refine .skip (.seq (.sr ?_))
 refine .cs ?_ ?_<;>intro c19
 ·try simp at c19
  refine .sr ?_
  refine .ret ?_
  refine⟨_,_,zz2,zz2,?_⟩
  simp_all<;>omega
 try simp at c19
 refine .skip (.sr ?_)
 refine .ret ?_
 refine⟨_,_,zz2,zz2,?_⟩
 simp_all<;>omega
theorem p121 (x o:He):zao prog 121 [zah x,zah o] fun r=>r=.int .i64 (cmp3 x.b o.b):=by
 unfold zah
 refine .zag func121 rfl rfl ?_
 refine .sr ?_
 refine .seq ?_
 refine .zac [0,1,2,3,4,5] rfl zz0 ?_
 refine .rn [0,1,2,3] _ ?_
 refine .pc rfl rfl rfl rfl rfl call122 (p122 x.b o.b) ?_
 refine .rn [5] [] ?_
 refine .done (.ret ?_)
 refine⟨_,_,zz2,zz2,?_⟩
 first|rfl|(simp[*];done)|(simp_all;done)
theorem p119 (x:He)(day:Int):zao prog 119 [zah x,.vp [.int .i64 day]] fun r=>r=.bool (decide (day≤x.b)):=by
 unfold zah
 refine .zag func119 rfl rfl ?_
 refine .sr ?_
 refine .sr ?_
 refine .ret ?_
 refine⟨_,_,zz2,zz2,?_⟩
 first|rfl|(simp[*];done)|(simp_all;done)
theorem p183 (cs:List He)(m:Nat)(hm:m≤cs.length)(hl:cs.length<4294967296):zar prog 183 [.sub 0 0 m,.int .i64 0,.int .i64 m,.func 121 [] []] ⟨1,[(0,.arr true 4 (heC cs))]⟩ fun v vh'=>v=.tup []∧vh'.get 0=some (.arr true 4 (heC (srtR (cs.take m)++cs.drop m))):=by
 refine .zag func183 rfl rfl ?_
 refine .sr ?_
 refine .block ?_
 refine .zb5 (fun i:Nat=>([(0,.sub 0 0 m),(1,.int .i64 0),(2,.int .i64 m),(3,.func 121 [] []),(8,.int .i64 i)],⟨1,[(0,.arr true 4 (heC (srtR (cs.take i)++cs.drop i)))]⟩)) (fun i=>1≤i∧(i≤m∨i=1)) (fun i=>m - i) 1 ⟨by omega,.inr rfl⟩ (by have e:srtR (cs.take 1)++cs.drop 1=cs:=(by cases cs<;>simp[srtR,insR,posR]);simp only[e];exact(.mk [] [] (by repeat' (first|exact trivial|refine And.intro (Exists.intro _ (And.intro rfl ?_)) ?_|(refine Alt.same _ ?_;first|rfl|(simp[*];done))|exact Alt.mapv _ _ (xf0 rfl) rfl|exact Alt.grow _ _ _ _ (xf0 rfl) rfl|(refine Alt.zn4 _ _ _ _ _ ?_ (xf0 rfl) rfl;simp[*];done)|exact Alt.ptr _ _ _ (xf0 rfl) rfl|exact Alt.own _ _ _ _ _ (xf0 rfl) rfl|exact Alt.sub _ _ _ _ (xf0 rfl) rfl|exact Alt.yld _ _ (xf0 rfl) rfl|exact Alt.sl0 _ _|(refine Alt.sl0E _ _ _ ?_;simp[*];done)|exact Alt.e0 _|exact Alt.func' AltL.nil (AltL.cons (Alt.ptr _ _ _ (xf0 rfl) rfl) AltL.nil)|exact Alt.sl0v|exact Alt.own0 _ _ _|(refine Alt.fgrow _ _ _ _ _ rfl rfl ?_;simp[*];done)|exact Alt.fown _ _ _ _ _ _ _ _ rfl rfl rfl|exact Alt.fmap _ _ rfl rfl|(refine Alt.zn9 ?_;simp[*]<;>rfl)|(refine Alt.ofEq rfl ?_;simp[*];done))) (by repeat' (first|exact trivial|refine And.intro (And.intro (xf0 rfl) (Or.inr (And.intro rfl (Exists.intro _ (And.intro rfl ?_))))) ?_|refine And.intro (And.intro (xf0 rfl) (Or.inl (Exists.intro _ (And.intro rfl (xf0 rfl))))) ?_|refine And.intro (And.intro (xf0 rfl) (Or.inl (Exists.intro _ (And.intro (congrArg (VObj.grow _) (by simp[*])) (xf0 rfl))))) ?_|rfl|exact AltL.nil|(refine congrArg (VObj.grow _) ?_;simp[*];done)|(refine congrArg VObj.map ?_;simp[*];done)|(refine congrArg (VObj.arr _ _) ?_;simp[*];done)|refine zr1.mk rfl rfl rfl rfl rfl ?_|refine And.intro (Exists.intro _ (And.intro rfl ?_)) ?_|refine AltL.cons ?_ ?_|(refine Alt.same _ ?_;first|rfl|(simp[*];done))|exact Alt.mapv _ _ (xf0 rfl) rfl|exact Alt.grow _ _ _ _ (xf0 rfl) rfl|(refine Alt.zn4 _ _ _ _ _ ?_ (xf0 rfl) rfl;simp[*];done)|exact Alt.ptr _ _ _ (xf0 rfl) rfl|exact Alt.own _ _ _ _ _ (xf0 rfl) rfl|exact Alt.sub _ _ _ _ (xf0 rfl) rfl|exact Alt.yld _ _ (xf0 rfl) rfl|exact Alt.sl0 _ _|(refine Alt.sl0E _ _ _ ?_;simp[*];done)|exact Alt.e0 _|exact Alt.func' AltL.nil (AltL.cons (Alt.ptr _ _ _ (xf0 rfl) rfl) AltL.nil)|exact Alt.sl0v|exact Alt.own0 _ _ _|(refine Alt.fgrow _ _ _ _ _ rfl rfl ?_;simp[*];done)|exact Alt.fown _ _ _ _ _ _ _ _ rfl rfl rfl|exact Alt.fmap _ _ rfl rfl|(refine Alt.zn9 ?_;simp[*]<;>rfl)|(refine Alt.ofEq rfl ?_;simp[*];done))) rfl rfl rfl)) ?_
 rintro i ⟨hi1,him⟩
 simp only at hi1 him ⊢
 refine .seq (.sr ?_)
 refine .cs ?_ ?_<;>intro c14
 ·try simp at c14
  have hw2:=wr1 i
  have hic:i<cs.length:=by omega
  obtain⟨O,hO⟩:∃O,srtR (cs.take i)=O:=⟨_,rfl⟩
  have hOl:O.length=i:=by rw[← hO,zkj,List.length_take];omega
  obtain⟨x,hx⟩:∃x,cs[i]=x:=⟨_,rfl⟩
  obtain⟨T,hT⟩:∃T,cs.drop (i+1)=T:=⟨_,rfl⟩
  have hTl:T.length+i+1=cs.length:=by rw[← hT,List.length_drop];omega
  have hst:srtR (cs.take i)++cs.drop i=mvR O x i T:=by rw[List.drop_eq_getElem_cons hic,hx,hT,hO,← hOl,xel]
  have hnx:srtR (cs.take (i+1))++cs.drop (i+1)=insR O x++T:=by rw[List.take_succ_eq_append_getElem hic,zqx,hO,hx,hT]
  rw[hst]
  clear hst hO
  refine .skip (.seq (.block (.sr ?_)))
  refine .block ?_
  refine .zb5 (fun j:Nat=>([(0,.sub 0 0 m),(1,.int .i64 0),(2,.int .i64 m),(3,.func 121 [] []),(8,.int .i64 i),(9,.int .i64 j)],⟨1,[(0,.arr true 4 (heC (mvR O x j T)))]⟩)) (fun j=>j≤i∧posR O x j=posR O x O.length) (fun j=>j) i ⟨Nat.le_refl _,by rw[hOl]⟩ (.mk [] [] zz8 zz9 rfl rfl rfl) ?_
  rintro j ⟨hji,hpj⟩
  simp only at hji hpj ⊢
  rcases Nat.eq_zero_or_pos j with rfl|h0j
  ·skip
   refine .seq (.seq ?_)
   refine .drawn (ms:=[0,0,3,7,15,15,15,111,239,15,15,1039,3599,7695,16383,32767,65535]) (W:=[14]) (items:=[.op 0,.op 1,.op 2,.op 3,.op 4,.op 5,.op 6,.op 7,.op 8,.op 9,.op 10,.op 11,.op 12,.op 13,.op 14,.op 15,.op 16]) rfl zz0 zz0 zz0 ?_
   iterate 4 refine .rx ?_
   refine .split (t:=21) rfl (fun c21=>?_) (fun c21=>?_)
   ·first|cases c21|cases bnt c21|cases bnf c21|try rw[c21]
    try simp at c21
   first|cases c21|cases bnt c21|cases bnf c21|try rw[c21]
   try simp at c21
   iterate 12 refine .ux ?_
   refine .rx ?_
   refine .done (.zjd rfl (.exit (.rn ?_)))
   refine⟨i+1,⟨zz3,zz3⟩,zz3,by rw[hnx];have e:mvR O x 0 T=insR O x++T:=(by rw[← zxs,← hpj];rfl);rw[e];exact(.mk [] [] zz8 zz9 rfl rfl rfl)⟩
  skip
  refine .seq (.seq ?_)
  have hw3:IntKind.i64.wrap ((j:Int) - 1)=((j - 1:Nat):Int):=by rw[wrap64 (by omega) (by omega)];omega
  have hj1:j - 1<m:=by omega
  have hjm:j<m:=by omega
  have hCl:=z2u (O:=O) (x:=x) (j:=j) (T:=T)
  obtain⟨o,ho⟩:∃o,O[j - 1]?=some o:=⟨O[j - 1],List.getElem?_eq_getElem (by omega)⟩
  have hgx:=z8t (O:=O) (x:=x) (T:=T) (show j≤O.length by omega)
  have hgo:=z4n (O:=O) (x:=x) (T:=T) h0j (show j≤O.length by omega)
  rw[ho] at hgo
  have hsw:=zzn (x:=x) (T:=T) h0j (show j≤O.length by omega) ho
  obtain⟨C,hC⟩:∃C,mvR O x j T=C:=⟨_,rfl⟩
  rw[hC] at hgx hgo hsw hCl ⊢
  obtain⟨hjl,hgx2⟩:=List.getElem?_eq_some_iff.1 hgx
  obtain⟨hjl1,hgo2⟩:=List.getElem?_eq_some_iff.1 hgo
  have hpx:=zf2 hjl
  rw[hgx2] at hpx
  have hpo:=zf2 hjl1
  rw[hgo2] at hpo
  have hb1:j*4+4≤C.length*4:=by omega
  have hb2:(j - 1)*4+4≤C.length*4:=by omega
  have hset1:=zm7 hjl o
  obtain⟨C1,hC1⟩:∃C1,C.set j o=C1:=⟨_,rfl⟩
  have hC1l:C1.length=C.length:=by rw[← hC1];simp
  have hb3:(j - 1)*4+4≤C1.length*4:=by omega
  rw[hC1] at hset1 hsw
  have hset2:=zm7 (hs:=C1) (show j - 1<C1.length by omega) x
  rw[hsw] at hset2
  obtain⟨v,hv⟩:∃v,cmp3 x.b o.b=v:=⟨_,rfl⟩
  have hvl:=z3k (a:=x.b) (b:=o.b)
  rw[hv] at hvl
  have h121:=p121 x o
  rw[hv] at h121
  unfold zah at h121
  obtain⟨bv,hbv⟩:∃bv,decide (v<0)=bv:=⟨_,rfl⟩
  clear hCl hC1l
  refine .drawn (ms:=[0,0,3,7,15,15,15,111,239,15,15,1039,3599,7695,16383,32767,65535]) (W:=[14]) (items:=[.op 0,.op 1,.op 2,.op 3,.op 4,.op 5,.op 6,.op 7,.op 8,.op 9,.op 10,.op 11,.op 12,.op 13,.op 14,.op 15,.op 16]) rfl zz0 zz0 zz0 ?_
  iterate 4 refine .rx ?_
  refine .split (t:=21) rfl (fun c21=>?_) (fun c21=>?_)
  ·first|cases c21|cases bnt c21|cases bnf c21|try rw[c21]
   try simp at c21
   iterate 10 refine .rx ?_
   refine .wp rfl rfl rfl rfl rfl call121 (h121) ?_
   iterate 2 refine .rx ?_
   refine .done ?_
   refine .cs ?_ ?_<;>intro c34
   ·try simp at c34
    refine .skip (.seq (.block ?_))
    refine .drawn (ms:=[0,0,0,0,8,0,0,64,224,480,0,0,3072,7168,16355,32739,65535,131071]) (W:=[15,17]) (items:=[.op 0,.op 1,.op 2,.op 3,.op 4,.op 5,.op 6,.op 7,.op 8,.op 9,.op 10,.op 11,.op 12,.op 13,.op 14,.op 15,.op 16,.op 17]) rfl zz0 zz0 zz0 ?_
    iterate 15 refine .rx ?_
    refine .wv ?_
    refine .rx ?_
    refine .wv ?_
    refine .done (.rn ?_)
    refine⟨j - 1,⟨zz3,(zwi h0j ho (by simpa using c34)).symm.trans hpj⟩,zz3,(.mk [] [] zz8 zz9 rfl rfl rfl)⟩
   try simp at c34
   refine .exit (.rn ?_)
   refine⟨i+1,⟨zz3,zz3⟩,zz3,by rw[hnx];have e:C=insR O x++T:=(by rw[← hC,← zxs,← hpj,zql h0j ho (by simpa using c34)]);rw[e];exact(.mk [] [] zz8 zz9 rfl rfl rfl)⟩
  first|cases c21|cases bnt c21|cases bnf c21|try rw[c21]
  try simp at c21
 try simp at c14
 refine .exit ?_
 refine⟨_,zz2,rfl,?_⟩
 have e:srtR (cs.take i)++cs.drop i=srtR (cs.take m)++cs.drop m:=by
  rcases him with h|h
  ·rw[show i=m by omega]
  subst h
  have c1:m=0∨m=1:=by omega
  rcases c1 with rfl|rfl
  ·cases cs<;>simp[srtR,insR,posR]
  rfl
 rw[e];rfl
theorem zwl (a b:List He):heC (a++b)=heC a++heC b:=by unfold heC;rw[List.flatMap_append]
theorem zpa:∀(l:List He) (k:Nat),(heC l).take (k*4)=heC (l.take k)
 |[],k=>by simp[heC]
 |a::r,0=>by simp[heC]
 |a::r,k+1=>by
  rw[zfh,show (k+1)*4=k*4+1+1+1+1 by omega]
  simp only[List.take_succ_cons,zfh]
  rw[zpa r k]
theorem zuf:∀(l:List He) (k:Nat),(heC l).drop (k*4)=heC (l.drop k)
 |[],k=>by simp[heC]
 |a::r,0=>by simp
 |a::r,k+1=>by
  rw[zfh,show (k+1)*4=k*4+1+1+1+1 by omega,List.drop_succ_cons]
  simp only[List.drop_succ_cons]
  rw[zuf r k]
theorem p155 (l:List He)(p:He→Bool)(f:FuncId)(xs ys:List PV)(hl:l.length<4294967296)(hx:PV.allF xs=true)(hy:PV.allF ys=true)(hcf:∀cs w,(callFunc f cs).run prog w=.ok (.enter f cs) w)(hp:∀a∈l,zao prog f (xs++[zah a]++ys) fun r=>r=.bool (p a)):zao prog 155 [zer l,.func f xs ys] fun r=>r=.int .i64 (idxF p 0 l):=by
 unfold zer
 refine .zag func155 rfl rfl ?_
 refine .sr ?_
 refine .seq (.sr ?_)
 refine .block ?_
 refine .zb5 (fun s:Nat=>([(0,.vec (l.map zah)),(1,.func f xs ys),(7,.int .i64 l.length),(8,.int .i64 s)],zab.empty)) (fun s=>s≤l.length∧idxF p s (l.drop s)=idxF p 0 l) (fun s=>l.length - s) 0 ⟨by simp,by simp⟩ (.pure (by simp[*]) (by simp)) ?_
 rintro i ⟨hi,hr⟩
 simp only at hi hr ⊢
 refine .sr ?_
 refine .seq ?_
 refine .cs ?_ ?_<;>intro c9
 ·try simp at c9
  have hw2:=wr1 i
  rw[zg7 p l i c9] at hr
  have hp:=hp l[i] (List.getElem_mem c9)
  unfold zah at hp
  refine .skip (.seq (.block (.sr ?_)))
  refine .seq ?_
  refine .zac [0,1,2,3,4,5] rfl zz0 ?_
  refine .rn [0,1,2,3,4] _ ?_
  refine .step rfl rfl (.pure rfl rfl rfl hcf (by decide) (hp) (by first|rfl|simp[*]) ?_)
  rintro _ rfl
  refine .done ?_
  refine .cs ?_ ?_<;>intro c16
  ·try simp at c16
   refine .sr ?_
   refine .ret ?_
   refine⟨_,_,zz2,zz2,?_⟩
   rw[← hr,if_pos c16]
  try simp at c16
  refine .skip (.rn ?_)
  refine⟨i+1,⟨zz3,?_⟩,zz3,.pure (by simp[*]) (by simp)⟩
  rw[← hr,if_neg (by simp[c16])]
 try simp at c9
 have:i=l.length:=by omega
 refine .exit (.sr ?_)
 refine .ret ?_
 refine⟨_,_,zz2,zz2,?_⟩
 rw[← hr,this,List.drop_length];rfl
theorem z3g (n:Nat):(List.replicate n [PV.int .i64 0,.int .i64 0,.int .i64 0,.int .i64 0]).flatten=heC (List.replicate n ⟨0,0,0,0⟩):=by
 induction n with
 |zero=>rfl
 |succ n ih=>rw[List.replicate_succ,List.replicate_succ,List.flatten_cons,ih,zfh];rfl
theorem p118 (l:List He)(p:He→Bool)(f:FuncId)(xs ys:List PV)(hl:l.length<4294967296)(hne:0<l.length)(hx:PV.allF xs=true)(hy:PV.allF ys=true)(hcf:∀cs w,(callFunc f cs).run prog w=.ok (.enter f cs) w)(hp:∀a∈l,zao prog f (xs++[zah a]++ys) fun r=>r=.bool (p a)):zar prog 118 [.sub 0 0 l.length,.func f xs ys] ⟨1,[(0,.arr true 4 (heC l))]⟩ fun v vh'=>∃m,∃cs:List He,(v=.sub 0 0 m∨v=.vec []∧m=0)∧vh'.get 0=some (.arr true 4 (heC cs))∧(cs.take m=(l.filter fun a=>!p a)∧m=(l.filter fun a=>!p a).length∧m≤cs.length∧cs.length=l.length):=by
 have hl0:¬l=[]:=by rintro rfl;simp at hne
 have hxz:∀vh,frzL vh xs=some xs:=fun vh=>zf9 vh hx
 have hyz:∀vh,frzL vh ys=some ys:=fun vh=>zf9 vh hy
 have hch:=zhi l
 unfold chunk at hch
 rw[xf1] at hch
 unfold List.range at hch
 refine .zag func118 rfl rfl ?_
 refine .sr ?_
 refine .seq ?_
 refine .zac [0,1,2,3] rfl zz0 ?_
 refine .rn [0,1] _ ?_
 refine .step rfl rfl (.borrow rfl rfl rfl call155 (by decide) (by first|(simp<;>rfl)|(simp[*]<;>rfl)|(simp[*];done)) (p155 l p f xs ys hl hx hy hcf hp) (by rintro _ rfl<;>first|(simp;done)|rfl) ?_)
 rintro _ rfl
 refine .rn [3] [] ?_
 refine .done (.seq (.sr ?_))
 refine .cs ?_ ?_<;>intro c12
 ·try simp at c12
  refine .sr ?_
  refine .ret ?_
  refine⟨_,zz2,l.length,l,.inl rfl,rfl,?_⟩
  rw[zl2 p l 0 c12,List.take_length]
  exact⟨rfl,rfl,Nat.le_refl _,rfl⟩
 try simp at c12
 obtain⟨i0,hi0,hie,hp0,hbef⟩:=zi2 p l 0 c12
 rw[Nat.zero_add] at hie
 have hw1:=wr1 i0
 refine .skip (.seq (.sr ?_))
 refine .block ?_
 refine .zb5 (fun st:Nat×Nat×List He=>([(0,.sub 0 0 l.length),(1,.func f xs ys),(5,.int .i64 st.1),(6,.int .i64 st.2.1)],⟨1,[(0,.arr true 4 (heC st.2.2))]⟩)) (fun st=>st.2.2.length=l.length∧st.1<st.2.1∧st.2.1≤l.length∧st.2.2.take st.1=(l.take st.2.1).filter (fun a=>!p a)∧st.2.2.drop st.2.1=l.drop st.2.1) (fun st=>l.length - st.2.1) (i0,i0+1,l) ⟨rfl,by simp,hi0,by rw[List.take_succ_eq_append_getElem hi0,List.filter_append,hbef];simp[hp0],rfl⟩ (.mk [] [] zz8 zz9 rfl rfl rfl) ?_
 rintro⟨i,j,cs⟩ ⟨hcl,hij,hjl,htk,hdr⟩
 simp only at hcl hij hjl htk hdr ⊢
 refine .seq (.sr ?_)
 refine .cs ?_ ?_<;>intro c19
 ·try simp at c19
  have hw2:=wr1 j
  have hw3:=wr1 i
  obtain⟨a,ha⟩:∃a,l[j]=a:=⟨_,rfl⟩
  have hj:cs[j]?=some a:=by rw[zjw hdr];simp[c19,ha]
  obtain⟨hjc,hcj⟩:=List.getElem?_eq_some_iff.1 hj
  have hpa:=zf2 hjc
  rw[hcj] at hpa
  have hb1:j*4+4≤l.length*4:=by omega
  have hil:i<l.length:=by omega
  have hb2:i*4+4≤l.length*4:=by omega
  have hset:=zm7 (hs:=cs) (show i<cs.length by omega) a
  obtain⟨cs2,hcs2⟩:∃c,cs.set i a=c:=⟨_,rfl⟩
  rw[hcs2] at hset
  have hp:=hp l[j] (List.getElem_mem c19)
  rw[ha] at hp
  unfold zah at hp
  refine .skip (.seq (.block (.sr ?_)))
  refine .seq ?_
  refine .zac [0,1,2,3] rfl zz0 ?_
  refine .rn [0,1] _ ?_
  refine .step rfl rfl (.pure rfl rfl rfl hcf (by decide) (hp) (by first|rfl|simp[*]) ?_)
  rintro _ rfl
  refine .rn [3] [] ?_
  refine .done ?_
  refine .cs ?_ ?_<;>intro c29
  ·try simp at c29
   refine .sr ?_
   refine .rn ?_
   refine .rn ?_
   refine⟨(i+1,j+1,cs2),⟨by simp only;rw[← hcs2];simp[hcl],by simp;omega,c19,?_,?_⟩,zz3,(.mk [] [] zz8 zz9 rfl rfl rfl)⟩
   ·simp only
    rw[← hcs2,List.take_succ_eq_append_getElem (by simp;omega),List.take_set_of_le (Nat.le_refl i),htk,List.take_succ_eq_append_getElem c19,List.filter_append,ha]
    simp[c29]
   simp only
   rw[← hcs2,List.drop_set_of_lt (by omega)]
   exact zej hdr
  try simp at c29
  refine .skip (.rn ?_)
  refine⟨(i,j+1,cs),⟨hcl,by simp;omega,c19,?_,zej hdr⟩,zz3,(.mk [] [] zz8 zz9 rfl rfl rfl)⟩
  simp only
  rw[htk,List.take_succ_eq_append_getElem c19,List.filter_append,ha]
  simp[c29]
 try simp at c19
 have hjn:j=l.length:=by omega
 obtain⟨m,hm⟩:∃m,l.length - i=m+1:=⟨l.length - i - 1,by omega⟩
 have hin:¬l.length=i:=by omega
 have hil:i≤l.length:=by omega
 have him:i+(m+1)≤l.length:=by omega
 have hb3:i*4+(m+1)*4≤l.length*4:=by omega
 refine .exit (.sr ?_)
 refine .sr ?_
 refine .ret ?_
 rw[hjn,List.take_length] at htk
 have e0:(l.filter fun a=>!p a).length=i:=by rw[← htk,List.length_take];omega
 refine⟨_,zz2,i,cs.take i++List.replicate (m+1) ⟨0,0,0,0⟩++cs.drop (i+(m+1)),?_,?_,?_⟩
 ·by_cases hi0:i=0
  ·exact .inr ⟨by simp[hi0],hi0⟩
  exact .inl (by simp[hi0])
 ·rw[zwl,zwl,← zpa,← zuf,← z3g]
  simp[Nat.add_mul]
 refine⟨?_,e0.symm,by simp;omega,by simp;omega⟩
 rw[List.append_assoc,List.take_left' (by rw[List.length_take];omega),htk]
theorem zyv (l:List He):(heC l).all PV.isInt=true:=by
 unfold heC
 rw[List.all_flatMap]
 simp[PV.isInt]
theorem xbh {vh':zab}{x:VObj}(h:vh'.get 0=some x):∀j y,(⟨vh'.next,[(0,x)]⟩:zab).get j=some y→vh'.get j=some y:=fun j y hj=>by
 simp only[zab.get,zbl,beq_eq] at hj
 by_cases h0:j=0
 ·subst h0;simp at hj;subst hj;exact h
 simp[h0] at hj
theorem xbx (cs:List He)(m:Nat)(hm:m≤cs.length)(hl:cs.length<4294967296):zar prog 183 [.sub 0 0 m,.int .i64 0,.int .i64 m,.func 121 [] []] ⟨1,[(0,.arr true 4 (heC cs))]⟩ fun v vh'=>v=.tup []∧∃n,vh'=⟨n,[(0,.arr true 4 (heC (srtR (cs.take m)++cs.drop m)))]⟩:=
 zar.only (p183 cs m hm hl) fun v vh' ⟨h1,h2⟩=>⟨_,xbh h2,rfl,h1,_,rfl⟩
theorem p156 (cs:List He)(m:Nat)(hm:m≤cs.length)(hm2:m<20)(hl:cs.length<4294967296):zar prog 156 [.sub 0 0 m,.int .i64 m,.func 121 [] []] ⟨1,[(0,.arr true 4 (heC cs))]⟩ fun v vh'=>v=.tup []∧vh'.get 0=some (.arr true 4 (heC (srtR (cs.take m)++cs.drop m))):=by
 refine .zag func156 rfl rfl ?_
 refine .sr ?_
 refine .sr ?_
 refine .seq (.block ?_)
 refine .zb5 (fun _:Unit=>([(0,.sub 0 0 m),(1,.int .i64 m),(2,.func 121 [] []),(6,.int .i64 20),(7,.int .i64 0),(8,.int .i64 20)],⟨1,[(0,.arr true 4 (heC cs))]⟩)) (fun _=>True) (fun _=>0) () trivial (.mk [] [] zz8 zz9 rfl rfl rfl) ?_
 rintro _ _
 simp only
 refine .seq (.sr ?_)
 refine .cs ?_ ?_<;>intro c13
 ·try simp at c13
  exfalso;omega
 try simp at c13
 refine .exit (.seq ?_)
 refine .zac [0,1,2,3,4] rfl zz0 ?_
 refine .rn [0,1,2,3] _ ?_
 refine .step rfl rfl (.call rfl rfl rfl call183 (by decide) (((xbx cs m hm hl)).mono ?_))
 rintro _ _ ⟨rfl,n,rfl⟩
 refine .done (.block ?_)
 refine .zb5 (fun _:Unit=>([(0,.sub 0 0 m),(1,.int .i64 m),(2,.func 121 [] []),(6,.int .i64 20)],⟨1,[(0,.arr true 4 (heC (srtR (cs.take m)++cs.drop m)))]⟩)) (fun _=>True) (fun _=>0) () trivial (.mk [] [] zz8 zz9 rfl rfl rfl) ?_
 rintro _ _
 simp only
 refine .seq (.sr ?_)
 refine .cs ?_ ?_<;>intro c30
 ·try simp at c30
  exfalso;omega
 try simp at c30
 refine .exit ?_
 exact⟨_,zz2,rfl,rfl⟩
theorem xeh  : zao prog 183 [.vec [],.int .i64 0,.int .i64 0,.func 121 [] []] fun r=>r=.tup []:=by
 refine .zag func183 rfl rfl ?_
 refine .sr ?_
 refine .block ?_
 refine .zb5 (fun _:Unit=>([(0,.vec []),(1,.int .i64 0),(2,.int .i64 0),(3,.func 121 [] []),(8,.int .i64 1)],⟨0,[]⟩)) (fun _=>True) (fun _=>0) () trivial (.mk [] [] zz8 zz9 rfl rfl rfl) ?_
 rintro _ _
 simp only
 refine .seq (.sr ?_)
 refine .cs ?_ ?_<;>intro c14
 ·try simp at c14
 try simp at c14
 refine .exit ?_
 refine⟨_,_,zz2,zz2,?_⟩
 first|rfl|(simp[*];done)|(simp_all;done)
theorem xb9  : zao prog 156 [.vec [],.int .i64 0,.func 121 [] []] fun r=>r=.tup []:=by
 refine .zag func156 rfl rfl ?_
 refine .sr ?_
 refine .sr ?_
 refine .seq (.block ?_)
 refine .zb5 (fun _:Unit=>([(0,.vec []),(1,.int .i64 0),(2,.func 121 [] []),(6,.int .i64 20),(7,.int .i64 0),(8,.int .i64 20)],⟨0,[]⟩)) (fun _=>True) (fun _=>0) () trivial (.mk [] [] zz8 zz9 rfl rfl rfl) ?_
 rintro _ _
 simp only
 refine .seq (.sr ?_)
 refine .cs ?_ ?_<;>intro c13
 ·try simp at c13
 try simp at c13
 refine .exit (.seq ?_)
 refine .zac [0,1,2,3,4] rfl zz0 ?_
 refine .rn [0,1,2,3] _ ?_
 refine .pc rfl rfl rfl rfl rfl call183 (xeh) ?_
 refine .done (.block ?_)
 refine .zb5 (fun _:Unit=>([(0,.vec []),(1,.int .i64 0),(2,.func 121 [] []),(6,.int .i64 20)],⟨0,[]⟩)) (fun _=>True) (fun _=>0) () trivial (.mk [] [] zz8 zz9 rfl rfl rfl) ?_
 rintro _ _
 simp only
 refine .seq (.sr ?_)
 refine .cs ?_ ?_<;>intro c30
 ·try simp at c30
 try simp at c30
 refine .exit ?_
 refine⟨_,_,zz2,zz2,?_⟩
 first|rfl|(simp[*];done)|(simp_all;done)
theorem z7c  : zao prog 120 [.vec [],.func 121 [] []] fun r=>r=.tup []:=by
 refine .zag func120 rfl rfl ?_
 refine .zac [0,1,2,3,4] rfl zz0 ?_
 refine .rn [0,1,2,3] _ ?_
 refine .pc rfl rfl rfl rfl rfl call156 (xb9) ?_
 refine .done ?_
 refine⟨_,_,zz2,zz2,?_⟩
 first|rfl|(simp[*];done)|(simp_all;done)
theorem p120 (cs:List He)(m:Nat)(hm:m≤cs.length)(hm2:m<20)(hl:cs.length<4294967296):zar prog 120 [.sub 0 0 m,.func 121 [] []] ⟨1,[(0,.arr true 4 (heC cs))]⟩ fun v vh'=>v=.tup []∧vh'.get 0=some (.arr true 4 (heC (srtR (cs.take m)++cs.drop m))):=by
 refine .zag func120 rfl rfl ?_
 refine .zac [0,1,2,3,4] rfl zz0 ?_
 refine .rn [0,1,2,3] _ ?_
 refine .step rfl rfl (.call rfl rfl rfl call156 (by decide) (((p156 cs m hm hm2 hl)).mono ?_))
 rintro _ vh1 ⟨rfl,hg⟩
 refine .done ?_
 exact⟨_,zz2,rfl,hg⟩
theorem xfj (f:FuncId)(xs ys:List PV)(hx:PV.allF xs=true)(hy:PV.allF ys=true)(hcf:∀cs w,(callFunc f cs).run prog w=.ok (.enter f cs) w):zao prog 118 [.vec [],.func f xs ys] fun r=>r=.vec []:=by
 refine .zag func118 rfl rfl ?_
 refine .sr ?_
 refine .seq ?_
 refine .zac [0,1,2,3] rfl zz0 ?_
 refine .rn [0,1] _ ?_
 refine .pc rfl rfl rfl rfl rfl call155 ((p155 [] (fun _=>true) f xs ys (by simp) hx hy hcf (fun a h=>by cases h))) ?_
 refine .rn [3] [] ?_
 refine .done (.seq (.sr ?_))
 refine .cs ?_ ?_<;>intro c12
 ·try simp at c12
  refine .sr ?_
  refine .ret ?_
  refine⟨_,_,zz2,zz2,?_⟩
  first|rfl|(simp[*];done)|(simp_all;done)
 try simp at c12
 exact absurd rfl c12
theorem p86g (D:Dk)(hn:D.x.length<1000000)(hnd:(D.x.map (·.1)).Nodup)(hz:0<D.x.length):zar prog 86 [.func 142 [] [.vp [dkD D]]] zab.empty fun v vh'=>∃i nl,v=.grow i D.x.length nl∧vh'.get i=some (.grow 4 ((zfm D).map zah)):=by
 refine .zag func86 rfl rfl ?_
 refine .sr ?_
 refine .seq ?_
 refine .zac [0,1,2] rfl zz0 ?_
 refine .rn [0] _ ?_
 refine .step rfl rfl (.call rfl rfl rfl call141 (by decide) (((p141 D hn hnd hz)).mono ?_))
 rintro _ vh1 ⟨i,nl,rfl,hg⟩
 refine .rn [2] [] ?_
 refine .done (.ret ?_)
 exact⟨_,zz2,i,nl,rfl,hg⟩
def zob (R:Reg)(day:Int):List He:=if onE R day=0 then srtR ((zfm (behD R day)).filter fun u=>!decide (day≤u.b)) else []
theorem z0k {vh:zab}{i:Nat}{C:List He}(hg:vh.get i=some (.arr true 4 (heC C))){m:Nat}(hm:m≤C.length)(h0:0<m):frz vh (.sub i 0 m)=some (.vec ((C.take m).map zah)):=by
 have h1:Nat.beq m 0=false:=by rw[beq_eq];simp;omega
 have hl:(C.take m).length=m:=by rw[List.length_take];omega
 have h2:=zhi (C.take m)
 rw[hl,← zpa] at h2
 have h3:chunk true 4 m (heC C)=chunk true 4 m ((heC C).take (m*4)):=by
  unfold chunk
  rw[xf1,xf1]
  refine List.map_congr_left fun k hk=>?_
  have hk:=List.mem_range.1 hk
  rw[List.drop_take,List.take_take,show min 4 (m*4 - k*4)=4 by omega]
 rw[← h3] at h2
 have h5:m*4≤C.length*4:=by omega
 simp only[frz,h1,xf2,hg,zcz,beq_eq,zdn,List.drop_zero,h2,z2y]
 simp[h5]
theorem zz5 {vh:zab}{a b a2 b2:PV}(ha:frz vh a=some a2)(hb:frz vh b=some b2):frz vh (.tup [a,b])=some (.tup [a2,b2]):=by
 simp only[frz,frzL,ha,hb];rfl
theorem zvg {vh:zab}{F cs:List He}{m:Nat}(hm:F.length=m)(hml:m≤cs.length)(hg:vh.get 2=some (.arr true 4 (heC (srtR F++cs.drop m)))):frz vh (.sub 2 0 m)=some (zer (srtR F)):=by
 rcases Nat.eq_zero_or_pos m with h0|h0
 ·subst h0
  have:F=[]:=List.eq_nil_of_length_eq_zero hm
  subst this;rfl
 rw[z0k hg (by rw[List.length_append,zkj];omega) h0,List.take_left' (by rw[zkj,hm])];rfl
theorem zyl (H:List He)(h0:0<H.length)(n:Nat)(hn:n=H.length)(day:Int)(x:VObj):AltS 0 (fun i=>[1].contains i) (rho [(0,2)]) (zc5 0 [.grow 2 n false,.func 119 [] [.ptr 1 0]]) ⟨3,[(2,.grow 4 (H.map zah)),(1,.box [.int .i64 day]),(0,x)]⟩ (zc5 0 [.sub 0 0 n,.func 119 [] [.vp [.int .i64 day]]]) ⟨1,[(0,.arr true 4 (heC H))]⟩:=by
 subst hn
 refine zpj [1] [(0,2)] ?_ ?_ rfl rfl rfl
 ·repeat' (first|exact trivial|refine And.intro (Exists.intro _ (And.intro rfl ?_)) ?_|exact Alt.growS 2 0 H.length false 4 _ Nat.zero_lt_one rfl rfl (by simp) h0|exact Alt.func' AltL.nil (AltL.cons (Alt.fptr 1 0 [.int .i64 day] rfl rfl rfl (Nat.zero_le _)) AltL.nil))
 exact⟨⟨xf0 rfl,Or.inr ⟨rfl,_,rfl,zr5 h0 _ _ _ _⟩⟩,trivial⟩
theorem zx3 (C:List He)(m:Nat)(x y:VObj):AltS 0 (fun i=>[].contains i) (rho [(0,2)]) (zc5 0 [.sub 2 0 m,.func 121 [] []]) ⟨3,[(2,.arr true 4 (heC C)),(1,x),(0,y)]⟩ (zc5 0 [.sub 0 0 m,.func 121 [] []]) ⟨1,[(0,.arr true 4 (heC C))]⟩:=by
 refine zpj [] [(0,2)] ?_ ?_ rfl rfl rfl
 ·repeat' (first|exact trivial|refine And.intro (Exists.intro _ (And.intro rfl ?_)) ?_|exact Alt.sub 2 0 0 m Nat.zero_lt_one rfl|exact Alt.same _ rfl)
 exact⟨⟨xf0 rfl,Or.inr ⟨rfl,_,rfl,rfl⟩⟩,trivial⟩
theorem zvo (H:List He)(h0:0<H.length):(VObj.grow 4 (H.map zah)).live=true:=by
 cases H with
 |nil=>simp at h0
 |cons a r=>rfl
theorem xeg (l:List He)(day:Int)(n:Nat)(hn:n=l.length)(hl:l.length<4294967296)(hne:0<l.length):zar prog 118 [.sub 0 0 n,.func 119 [] [.vp [.int .i64 day]]] ⟨1,[(0,.arr true 4 (heC l))]⟩ fun v vh'=>∃m,∃C:List PV,(v=.sub 0 0 m∨v=.vec []∧m=0)∧vh'.get 0=some (.arr true 4 C)∧C.all PV.isInt=true∧
  ∃cs:List He,C=heC cs∧cs.take m=(l.filter fun u=>!decide (day≤u.b))∧m=(l.filter fun u=>!decide (day≤u.b)).length∧m≤cs.length∧cs.length=l.length:=by
 subst hn
 refine(p118 l (fun u=>decide (day≤u.b)) 119 [] [.vp [.int .i64 day]] hl hne rfl rfl call119 (fun u _=>p119 u day)).mono ?_
 rintro v vh' ⟨m,cs,h1,h2,h3⟩
 exact⟨m,heC cs,h1,h2,zyv cs,cs,rfl,h3⟩
theorem xfa (cs:List He)(m:Nat)(hm:m≤cs.length)(hm2:m<20)(hl:cs.length<4294967296):zar prog 120 [.sub 0 0 m,.func 121 [] []] ⟨1,[(0,.arr true 4 (heC cs))]⟩ fun v vh'=>∃k,∃C:List PV,(v=.sub 0 0 k∨v=.tup []∧k=0)∧vh'.get 0=some (.arr true 4 C)∧C.all PV.isInt=true∧
  (k=0∧C=heC (srtR (cs.take m)++cs.drop m)):=by
 refine(p120 cs m hm hm2 hl).mono ?_
 rintro v vh' ⟨rfl,h2⟩
 exact⟨0,_,.inr ⟨rfl,rfl⟩,h2,zyv _,rfl,rfl⟩
theorem p52x (R:Reg)(day:Int)(hl1:R.ps.length<4294967296)(hl2:R.ts.length<4294967296)(h:¬onE R day=0):zao prog 52 [encR R,.int .i64 day] fun r=>r=.tup [.sl0,.int .i64 (onE R day)]:=by
 have hp:=p85 R day hl1 hl2
 refine .zag func52 rfl rfl ?_
 refine .sr ?_
 refine .seq ?_
 refine .zac [0,1,2,3,4,5,6,7] rfl zz0 ?_
 refine .rn [0,1] _ ?_
 refine .pc rfl rfl rfl rfl rfl call85 (hp) ?_
 refine .rn [3,4,5,6,7] [] ?_
 refine .done (.seq (.sr ?_))
 refine .cs ?_ ?_<;>intro c16
 ·try simp at c16
  refine .sr ?_
  refine .ret ?_
  refine⟨_,_,zz2,zz2,?_⟩
  first|rfl|(simp[*];done)|(simp_all;done)
 try simp at c16
 exact absurd c16 h
theorem p52a (R:Reg)(day:Int)(D:Dk)(hp:zao prog 85 [encR R,.int .i64 day] fun r=>r=.tup [dkD D,.int .i64 0])(hdn:D.x.length<1000000)(hnd:(D.x.map (·.1)).Nodup)(hx:zfm D=[]):zao prog 52 [encR R,.int .i64 day] fun r=>r=.tup [zer [],.int .i64 0]:=by
 unfold encR at hp ⊢
 have h86:=p86x D hdn hnd
 rw[hx] at h86
 unfold zer at h86
 refine .zag func52 rfl rfl ?_
 refine .sr ?_
 refine .seq ?_
 refine .zac [0,1,2,3,4,5,6,7] rfl zz0 ?_
 refine .rn [0,1] _ ?_
 refine .pc rfl rfl rfl rfl rfl call85 (hp) ?_
 refine .rn [3,4,5,6,7] [] ?_
 refine .done (.seq (.sr ?_))
 refine .cs ?_ ?_<;>intro c16
 ·try simp at c16
 try simp at c16
 refine .skip (.seq ?_)
 refine .rec (vts2:=[(3,.vp [.int .i64 day]),(6,dkD D)]) (vh2:=⟨0,[]⟩) (.mk [1] [] zz10 zz11 rfl rfl rfl) ?_
 refine .zac [0,1,2,3,4,5] rfl zz0 ?_
 refine .rn [0] _ ?_
 refine .pc rfl rfl rfl rfl rfl call87 (p87 D) ?_
 refine .pc rfl rfl rfl rfl rfl call86 (h86) ?_
 refine .rn [3] _ ?_
 refine .pc rfl rfl rfl rfl rfl call118 (xfj 119 [] [.vp [.int .i64 day]] rfl rfl call119) ?_
 refine .rn [5] [] ?_
 refine .done (.seq ?_)
 refine .zac [0,1] rfl zz0 ?_
 refine .rn [0] _ ?_
 refine .pc rfl rfl rfl rfl rfl call120 (z7c) ?_
 refine .done (.sr ?_)
 refine .ret ?_
 refine⟨_,_,zz2,zz2,?_⟩
 first|rfl|(simp[*];done)|(simp_all;done)
theorem p52b (R:Reg)(day:Int)(D:Dk)(hp:zao prog 85 [encR R,.int .i64 day] fun r=>r=.tup [dkD D,.int .i64 0])(hdn:D.x.length<20)(hnd:(D.x.map (·.1)).Nodup)(hz:0<D.x.length):zao prog 52 [encR R,.int .i64 day] fun r=>r=.tup [zer (srtR ((zfm D).filter fun u=>!decide (day≤u.b))),.int .i64 0]:=by
 unfold encR at hp ⊢
 have hHl:=zfi D
 have h86:=p86g D (by omega) hnd hz
 obtain⟨H,hH⟩:∃H,zfm D=H:=⟨_,rfl⟩
 rw[hH] at h86 hHl ⊢
 refine .zag func52 rfl rfl ?_
 refine .sr ?_
 refine .seq ?_
 refine .zac [0,1,2,3,4,5,6,7] rfl zz0 ?_
 refine .rn [0,1] _ ?_
 refine .pc rfl rfl rfl rfl rfl call85 (hp) ?_
 refine .rn [3,4,5,6,7] [] ?_
 refine .done (.seq (.sr ?_))
 refine .cs ?_ ?_<;>intro c16
 ·try simp at c16
 try simp at c16
 refine .skip (.seq ?_)
 refine .zac [0,1,2,3,4,5] rfl zz0 ?_
 refine .rn [0] _ ?_
 refine .pc rfl rfl rfl rfl rfl call87 (p87 D) ?_
 refine .step rfl rfl (.call rfl rfl rfl call86 (by decide) (((zar.fresh' (by simp[hHl]) h86 (by simp[PV.allF,PV.isF]) hz)).mono ?_))
 rintro _ _ ⟨rfl,rfl⟩
 refine .rn [3] _ ?_
 refine .step rfl rfl (.call rfl rfl rfl call118 (by decide) (((zar.z1z (i:=2) (.inl rfl) rfl (zvo H (by omega)) (zyl H (by omega) D.x.length hHl.symm day _) rfl (xeg H day D.x.length hHl.symm (by omega) (by omega)))).mono ?_))
 rintro v _ ⟨m,C,hv,rfl,cs,rfl,hcs,hm,hml,hcl⟩
 have hm2:m<20:=by rw[hm];exact Nat.lt_of_le_of_lt (List.length_filter_le _ _) (by omega)
 obtain⟨F,hF⟩:∃F,(H.filter fun u=>!decide (day≤u.b))=F:=⟨_,rfl⟩
 rw[hF] at hm hcs ⊢
 replace hm:=hm.symm
 rcases hv with rfl|⟨rfl,rfl⟩
 ·skip
  refine .rn [5] [] ?_
  refine .done (.seq ?_)
  refine .zac [0,1] rfl zz0 ?_
  refine .rn [0] _ ?_
  refine .step rfl rfl (.call rfl rfl rfl call120 (by decide) (((zar.z1z (i:=2) (.inr rfl) rfl rfl (zx3 cs m _ _) rfl (xfa cs m hml hm2 (by omega)))).mono ?_))
  rintro w _ ⟨k,C,hw,rfl,rfl,rfl⟩
  refine .done (.sr ?_)
  refine .ret ?_
  exact⟨_,.tup [zer (srtR F),.int .i64 0],zz2,zz5 (zvg hm hml rfl) rfl,rfl⟩
 skip
 refine .rn [5] [] ?_
 refine .done (.seq ?_)
 refine .zac [0,1] rfl zz0 ?_
 refine .rn [0] _ ?_
 refine .pc rfl rfl rfl rfl rfl call120 (z7c) ?_
 refine .done (.sr ?_)
 refine .ret ?_
 refine⟨_,_,zz2,zz2,?_⟩
 have hF0:F=[]:=List.eq_nil_of_length_eq_zero (by omega)
 rw[hF0];rfl
theorem p52 (R:Reg)(day:Int)(hl1:R.ps.length<4294967296)(hl2:R.ts.length<4294967296):zao prog 52 [encR R,.int .i64 day] fun r=>r=.tup [zer (zob R day),.int .i64 (onE R day)]:=by
 have hp:=p85 R day hl1 hl2
 by_cases h:onE R day=0
 ·have hb:=zoh (zgu h) day
  have hV:onV R day=dkD (behD R day):=by unfold onV;rw[if_pos h]
  have hLk:zob R day=srtR ((zfm (behD R day)).filter fun u=>!decide (day≤u.b)):=by unfold zob;rw[if_pos h]
  rw[hV,h] at hp
  rw[hLk,h]
  have hS:=zmc (zgu h) day
  have hln:(behD R day).x.length<20:=by
   have h1:=congrArg List.length (zqk (zgu h) day)
   rw[zfi] at h1
   have h2:=List.length_filter_le (fun u:He=>!decide (u.p=0)) (rbeh R day).hs
   have h3:=hS.hl
   have h4:=(zn2 (zgu h)).s2
   omega
  rcases Nat.eq_zero_or_pos (behD R day).x.length with hz|hz
  ·have hx:zfm (behD R day)=[]:=List.eq_nil_of_length_eq_zero (by rw[zfi,hz])
   rw[hx]
   exact p52a R day _ hp (by omega) hb.2.nd hx
  exact p52b R day _ hp hln hb.2.nd hz
 refine(p52x R day hl1 hl2 h).alt fun r hr=>⟨_,?_,?_,rfl⟩
 ·subst hr
  have:zob R day=[]:=by unfold zob;rw[if_neg h]
  rw[this]
  exact .tup' (.cons .sl0v (.cons (.same _ rfl) .nil))
 simp[PV.isF,PV.allF]
theorem ztc (R:Reg)(day:Int):zob R day=srtR ((zj8 R day).filter fun u=>!decide (day≤u.b)):=by
 unfold zob zj8
 split
 ·rfl
 rfl
theorem p53 (R:Reg)(day:Int)(hl1:R.ps.length<4294967296)(hl2:R.ts.length<4294967296):zao prog 53 [encR R,.int .i64 day] fun r=>r=.agg [zer (zob R day),.int .i64 (onE R day)]:=by
 have h19:=p19s R day hl1 hl2
 have hHl:=zre (R:=R) day
 have hK:¬onE R day=0→zj8 R day=[]:=fun h=>by unfold zj8;rw[if_neg h]
 rw[ztc]
 unfold encR
 obtain⟨H,hH⟩:∃H,zj8 R day=H:=⟨_,rfl⟩
 obtain⟨e,he⟩:∃e,onE R day=e:=⟨_,rfl⟩
 rw[hH,he] at h19
 rw[hH,he] at hK
 rw[hH,he]
 rw[hH] at hHl
 clear hH he
 refine .zag func53 rfl rfl ?_
 refine .sr ?_
 refine .seq ?_
 refine .zac [0,1,2,3,4] rfl zz0 ?_
 refine .rn [0,1] _ ?_
 refine .pc rfl rfl rfl rfl rfl call19 (h19) ?_
 refine .rn [3,4] [] ?_
 refine .done (.seq (.sr ?_))
 refine .cs ?_ ?_<;>intro c15
 ·try simp at c15
  refine .sr ?_
  refine .ret ?_
  refine⟨_,_,zz2,zz2,?_⟩
  rw[hK c15];rfl
 try simp at c15
 obtain⟨q,hq⟩:∃q:He→Bool,(fun u=>!decide (day≤u.b))=q:=⟨_,rfl⟩
 have hqa:∀u,q u = !decide (day≤u.b):=fun u=>by rw[← hq]
 rw[hq]
 clear hq
 refine .skip (.sr ?_)
 refine .seq (.sr ?_)
 refine .block ?_
 refine .zb5 (fun k:Nat=>([(1,.int .i64 day),(4,.ptr 1 0),(5,.ptr 2 0),(6,.ptr 3 0),(7,.int .i64 k)],⟨4,[(3,.box [zer (srtR ((H.take k).filter q)),.int .i64 0]),(2,.box [zer H,.int .i64 e]),(1,.box [.sl0,.int .i64 0])]⟩)) (fun k=>k≤H.length) (fun k=>H.length - k) 0 (by simp) (.mk [] [] zz8 zz9 rfl rfl rfl) ?_
 rintro k hk
 simp only at hk ⊢
 unfold zer
 obtain⟨O,hO⟩:∃O,srtR ((H.take k).filter q)=O:=⟨_,rfl⟩
 have hOl:O.length≤k:=by rw[← hO,zkj];exact Nat.le_trans (List.length_filter_le _ _) (by rw[List.length_take];omega)
 rw[hO]
 refine .seq (.sr ?_)
 refine .cs ?_ ?_<;>intro c22
 ·try simp at c22
  have hw2:=wr1 k
  have hFt:=zol (p:=q) c22
  rw[hqa] at hFt
  obtain⟨x,hx⟩:∃x,H[k]=x:=⟨_,rfl⟩
  rw[hx] at hFt
  refine .skip (.seq (.block (.seq (.sr ?_))))
  refine .cs ?_ ?_<;>intro c32
  ·try simp at c32
   have hn:srtR ((H.take (k+1)).filter q)=O:=by rw[hFt];simp_all
   clear hFt
   refine .exit (.rn ?_)
   refine⟨k+1,zz3,zz3,by rw[hn];exact(.mk [] [] zz8 zz9 rfl rfl rfl)⟩
  try simp at c32
  have hn:srtR ((H.take (k+1)).filter q)=insR O x:=by
   rw[hFt,if_pos (by simp_all),zqx,hO]
  have hb1:O.length≤4294967294:=by omega
  clear hFt
  refine .skip (.sr ?_)
  refine .seq (.block ?_)
  refine .zb5 (fun j:Nat=>([(1,.int .i64 day),(4,.ptr 1 0),(5,.ptr 2 0),(6,.ptr 3 0),(7,.int .i64 k),(8,.int .i64 j)],⟨4,[(3,.box [.vec (O.map zah),.int .i64 0]),(2,.box [.vec (H.map zah),.int .i64 0]),(1,.box [.sl0,.int .i64 0])]⟩)) (fun j=>j≤O.length∧posR O x j=posR O x O.length) (fun j=>j) O.length ⟨Nat.le_refl _,rfl⟩ (.mk [] [] zz8 zz9 rfl rfl rfl) ?_
  rintro j ⟨hji,hpj⟩
  simp only at hji hpj ⊢
  rcases Nat.eq_zero_or_pos j with rfl|h0j
  ·skip
   refine .seq (.seq ?_)
   refine .drawn (ms:=[0,1,3,7,15,7,39,103,255,511,1023,7,2055,7,14343,30727,63495,131071,262143]) (W:=[]) (items:=[.op 0,.op 1,.op 2,.op 3,.op 4,.op 5,.op 6,.op 7,.op 8,.op 9,.op 10,.op 11,.op 12,.op 13,.op 14,.op 15,.op 16,.op 17,.op 18]) rfl zz0 zz0 zz0 ?_
   iterate 3 refine .rx ?_
   refine .split (t:=38) rfl (fun c38=>?_) (fun c38=>?_)
   ·first|cases c38|cases bnt c38|cases bnf c38|try rw[c38]
    try simp at c38
   first|cases c38|cases bnt c38|cases bnf c38|try rw[c38]
   try simp at c38
   iterate 15 refine .ux ?_
   refine .rx ?_
   refine .done (.zjd rfl (.exit (.sr ?_)))
   refine .seq ?_
   have htA:List.take O.length (List.map zah O)=List.map zah O:=by rw[← List.length_map (f:=zah)];exact List.take_length
   have hb2:O.length+1≤4294967296:=by omega
   have hcm:1+O.length=O.length+1:=Nat.add_comm _ _
   have hins:insR O x=x::O:=by unfold insR;rw[← hpj];simp[posR]
   have hnE:List.map zah (insR O x)=.agg [.int .i64 x.p,.int .i64 x.s,.int .i64 x.a,.int .i64 x.b]::List.map zah O:=by rw[hins];rfl
   refine .rn ?_
   refine .sr ?_
   refine .rn ?_
   refine .rn ?_
   refine⟨k+1,zz3,zz3,by rw[hn,hnE];exact(.mk [7] [] zz8 zz9 rfl rfl rfl)⟩
  skip
  refine .seq (.seq ?_)
  have hw3:IntKind.i64.wrap ((j:Int) - 1)=((j - 1:Nat):Int):=by rw[wrap64 (by omega) (by omega)];omega
  have hj1:j - 1<O.length:=by omega
  obtain⟨o,ho⟩:∃o,O[j - 1]?=some o:=⟨O[j - 1],List.getElem?_eq_getElem (by omega)⟩
  have ho2:O[j - 1]=o:=(List.getElem?_eq_some_iff.1 ho).2
  have hmx:(if 0<j - 1 then ((j - 1:Nat):Int) else 0)=((j - 1:Nat):Int):=by split<;>omega
  obtain⟨bv,hbv⟩:∃bv,decide (x.b<o.b)=bv:=⟨_,rfl⟩
  refine .drawn (ms:=[0,1,3,7,15,7,39,103,255,511,1023,7,2055,7,14343,30727,63495,131071,262143]) (W:=[]) (items:=[.op 0,.op 1,.op 2,.op 3,.op 4,.op 5,.op 6,.op 7,.op 8,.op 9,.op 10,.op 11,.op 12,.op 13,.op 14,.op 15,.op 16,.op 17,.op 18]) rfl zz0 zz0 zz0 ?_
  iterate 3 refine .rx ?_
  refine .split (t:=38) rfl (fun c38=>?_) (fun c38=>?_)
  ·first|cases c38|cases bnt c38|cases bnf c38|try rw[c38]
   try simp at c38
   iterate 16 refine .rx ?_
   refine .done ?_
   refine .cs ?_ ?_<;>intro c54
   ·try simp at c54
    refine .skip (.block (.rn ?_))
    refine⟨j - 1,⟨zz3,(zwi h0j ho (by simp_all)).symm.trans hpj⟩,zz3,(.mk [] [] zz8 zz9 rfl rfl rfl)⟩
   try simp at c54
   refine .exit (.sr ?_)
   refine .seq ?_
   obtain⟨A,hA⟩:∃A,O.take j=A:=⟨_,rfl⟩
   obtain⟨B,hB⟩:∃B,O.drop j=B:=⟨_,rfl⟩
   have hAl:A.length=j:=by rw[← hA,List.length_take];omega
   have hBl:B.length=O.length - j:=by rw[← hB,List.length_drop]
   have htA:List.take j (List.map zah O)=List.map zah A:=by rw[← List.map_take,hA]
   have htB:List.drop j (List.map zah O)=List.map zah B:=by rw[← List.map_drop,hB]
   have htB2:List.take (O.length - j) (List.map zah B)=List.map zah B:=by rw[← hBl,← List.length_map (f:=zah)];exact List.take_length
   have hb2:j+1≤4294967296:=by omega
   have hb0:j≤4294967296:=by omega
   have hcm1:j+(O.length - j+1)=j+1+(O.length - j):=by omega
   have hb3:j+1+(O.length - j)≤4294967296:=by omega
   have hins:insR O x=A++x::B:=by unfold insR;rw[← hpj,zql h0j ho (by simp_all),hA,hB]
   have hnE:List.map zah (insR O x)=List.map zah A++.agg [.int .i64 x.p,.int .i64 x.s,.int .i64 x.a,.int .i64 x.b]::List.map zah B:=by rw[hins,List.map_append];rfl
   clear hA hB
   refine .rn ?_
   refine .sr ?_
   refine .rn ?_
   refine .rn ?_
   refine⟨k+1,zz3,zz3,by rw[hn,hnE];exact(.mk [7] [] zz8 zz9 rfl rfl rfl)⟩
  first|cases c38|cases bnt c38|cases bnf c38|try rw[c38]
  try simp at c38
 try simp at c22
 refine .exit (.sr ?_)
 refine .ret ?_
 refine⟨_,_,zz2,zz2,?_⟩
 rw[← hO,List.take_of_length_le (by omega),c15]
end Go.Am.Hi
end
section
namespace Go.Am.Hi
open Go Go.Am Go.Proofs
def w1 (S:Rst)(n:Int)(i:Nat):Bool:=decide (n∈(S.ws[i]?).getD [])
def bad1 (R:Reg)(S:Rst)(l:List Int)(n:Int)(i:Nat):Bool:=w1 S n i&&!decide (hld S ((R.ps[i]?).getD 0)∈l)
def aloB (R:Reg)(S:Rst)(l:List Int)(n:Int):Bool:=(List.range R.ps.length).any (bad1 R S l n)||(decide ((sHe S n).p=0)||!(List.range R.ps.length).any (w1 S n))
theorem zqi {R:Reg}{D:Dk}{S:Rst}{m:Nat}(b:Both R D S m){i:Nat}{p:Int}(h:R.ps[i]?=some p)(n:Int):w1 S n i=decide (n∈D.line p):=by
 unfold w1
 rw[b.a.ws i p h];rfl
theorem zwc {R:Reg}{D:Dk}{S:Rst}{m:Nat}(b:Both R D S m)(hR:RO R){l:List Int}(hl:∀x∈l,0≤x){p:Int}(hp:p∈R.ps):hld S p∈l↔∃s,alk D.y p=some s∧s∈l:=by
 rcases b.z1t (hR.p1 p hp) with⟨h1,h2⟩|⟨s,h1,h2⟩
 ·rw[h2]
  exact⟨fun h=>by have:=hl _ h;omega,fun⟨s,h,_⟩=>by cases h⟩
 rw[h1,h2]
 exact⟨fun h=>⟨_,rfl,h⟩,fun⟨x,h,h3⟩=>by injection h with h;subst h;exact h3⟩
theorem zsu {R:Reg}{D:Dk}{S:Rst}{m:Nat}(b:Both R D S m)(hR:RO R){n:Int}(h0:0≤n)(h1:n<R.sc):(sHe S n).p=0↔alk D.x n=none:=by
 rw[b.a.he h0 (by omega)]
 cases hx:alk D.x n with
 |none=>simp
 |some u=>
  have:=hR.p1 _ (b.i4.ps _ _ (b.i.xy _ _ hx).1)
  simp;omega
theorem zkk {R:Reg}{D:Dk}{S:Rst}{m:Nat}(b:Both R D S m)(hR:RO R){l:List Int}(hl:∀x∈l,0≤x){n:Int}(h0:0≤n)(h1:n<R.sc):aloB R S l n = !zdc D R.ps n (fun x=>decide (x∈l)):=by
 rw[Bool.eq_iff_iff]
 have key:aloB R S l n=false↔zdc D R.ps n (fun x=>decide (x∈l))=true:=by
  rw[zg0]
  unfold aloB
  rw[Bool.or_eq_false_iff,Bool.or_eq_false_iff,List.any_eq_false,Bool.not_eq_false',List.any_eq_true]
  refine and_congr ⟨fun h p hp hm=>?_,fun h i hi=>?_⟩ ⟨fun⟨h2,h3⟩=>⟨?_,?_⟩,fun⟨h2,h3⟩=>⟨?_,?_⟩⟩
  ·obtain⟨i,hi,he⟩:=List.getElem_of_mem hp
   have hi2:R.ps[i]?=some p:=by rw[List.getElem?_eq_getElem hi,he]
   have:=h i (List.mem_range.2 hi)
   unfold bad1 at this
   rw[zqi b hi2,hi2,Option.getD_some] at this
   simp only[hm,decide_true,Bool.true_and,Bool.not_eq_true',decide_eq_false_iff_not,Decidable.not_not] at this
   obtain⟨s,h2,h3⟩:=(zwc b hR hl hp).1 this
   exact⟨s,h2,by simpa using h3⟩
  ·have hi:=List.mem_range.1 hi
   have hi2:=List.getElem?_eq_getElem hi
   unfold bad1
   rw[zqi b hi2,hi2,Option.getD_some]
   by_cases hm:n∈D.line R.ps[i]
   ·obtain⟨s,h2,h3⟩:=h _ (List.getElem_mem hi) hm
    have:=(zwc b hR hl (List.getElem_mem hi)).2 ⟨s,h2,by simpa using h3⟩
    simp[this]
   simp[hm]
  ·obtain⟨i,hi,hw⟩:=h3
   have hi:=List.mem_range.1 hi
   rw[zqi b (List.getElem?_eq_getElem hi)] at hw
   exact⟨_,List.getElem_mem hi,of_decide_eq_true hw⟩
  ·have h2:=of_decide_eq_false h2
   rw[zsu b hR h0 h1] at h2
   cases hx:alk D.x n with
   |none=>exact absurd hx h2
   |some u=>exact⟨u,rfl⟩
  ·obtain⟨u,hu⟩:=h3
   exact decide_eq_false (by rw[zsu b hR h0 h1,hu];simp)
  obtain⟨p,hp,hm⟩:=h2
  obtain⟨i,hi,he⟩:=List.getElem_of_mem hp
  exact⟨i,List.mem_range.2 hi,by rw[zqi b (by rw[List.getElem?_eq_getElem hi,he])];exact decide_eq_true hm⟩
 cases hA:aloB R S l n<;>cases hW:zdc D R.ps n (fun x=>decide (x∈l))<;>simp_all
def zly (R:Reg)(S:Rst)(l:List Int)(i:Nat):Prop:=∀h:i<l.length,(0≤l[i]∧l[i]≤R.sc - 1)∧(0<i→l[i - 1]'(by omega)<l[i])∧aloB R S l l[i]=false
theorem z0w {R:Reg}{D:Dk}{S:Rst}{m:Nat}(b:Both R D S m)(hR:RO R){l:List Int}:(l≠[]∧∀i,zly R S l i)↔stkB D R.ps l:=by
 constructor
 ·rintro⟨h0,h⟩
  have hl:∀x∈l,0≤x∧x<R.sc:=fun x hx=>by
   obtain⟨i,hi,rfl⟩:=List.getElem_of_mem hx
   have:=(h i hi).1
   omega
  refine⟨h0,fun i hi=>by have:=(h (i+1) hi).2.1 (by omega);simpa using this,fun s hs=>?_⟩
  obtain⟨i,hi,rfl⟩:=List.getElem_of_mem hs
  have:=(h i hi).2.2
  rw[zkk b hR (fun x hx=>(hl x hx).1) (hl _ hs).1 (hl _ hs).2] at this
  simpa using this
 rintro⟨h0,h1,h2⟩
 have hl:∀x∈l,0≤x∧x<R.sc:=fun x hx=>by
  obtain⟨u,hu⟩:=(zg0.1 (h2 x hx)).2.2
  exact b.i4.sc _ _ hu
 refine⟨h0,fun i hi=>⟨by have:=hl _ (List.getElem_mem hi);omega,fun h3=>?_,?_⟩⟩
 ·have:=h1 (i - 1) (by omega)
  have e:i - 1+1=i:=by omega
  simp only[e] at this
  exact this
 have hm:=List.getElem_mem hi
 rw[zkk b hR (fun x hx=>(hl x hx).1) (hl _ hm).1 (hl _ hm).2,h2 _ hm];rfl
structure StkR (R:Reg) (D:Dk) (l:List Int):Prop where
  inc:l.Pairwise (·<·)
  rng:∀x∈l,0≤x∧x<R.sc
  max:∀M:List Int,(∀s∈M,zdc D R.ps s (fun n=>decide (n∈M))=true)→∀s∈M,s∈l
def rngI (n:Nat):List Int:=(List.range n).map fun (i:Nat)=>(i:Int)
theorem zwr (n:Nat):rngI (n+1)=rngI n++[(n:Int)]:=by unfold rngI;rw[List.range_succ,List.map_append];rfl
theorem zkp (n:Nat):(rngI n).length=n:=by simp[rngI]
theorem StkR.start {R:Reg}{D:Dk}{S:Rst}{m:Nat}(b:Both R D S m):StkR R D (rngI R.sc.toNat):=by
 refine⟨?_,fun x hx=>?_,fun M hM s hs=>?_⟩
 ·unfold rngI
  rw[List.pairwise_map]
  exact List.pairwise_lt_range.imp fun h=>by omega
 ·unfold rngI at hx
  obtain⟨i,hi,rfl⟩:=List.mem_map.1 hx
  have:=List.mem_range.1 hi
  omega
 obtain⟨u,hu⟩:=(zg0.1 (hM s hs)).2.2
 have:=b.i4.sc _ _ hu
 unfold rngI
 exact List.mem_map.2 ⟨s.toNat,List.mem_range.2 (by omega),by omega⟩
theorem StkR.next {R:Reg}{D:Dk}{S:Rst}{m:Nat}(b:Both R D S m)(hR:RO R){l:List Int}(h:StkR R D l){n:Int}(hn:n∈l)(ha:aloB R S l n=true):StkR R D (outS l n):=by
 refine⟨h.inc.filter _,fun x hx=>h.rng x (zi7.1 hx).1,fun M hM s hs=>zi7.2 ⟨h.max M hM s hs,fun he=>?_⟩⟩
 subst he
 have hw:=zox (is':=fun x=>decide (x∈l)) (fun x hx=>decide_eq_true (h.max M hM x (of_decide_eq_true hx))) (hM s hs)
 rw[zkk b hR (fun x hx=>(h.rng x hx).1) (h.rng s hn).1 (h.rng s hn).2,hw] at ha
 cases ha
theorem z2m {l:List Int}{n:Int}(h:n∈l):(outS l n).length<l.length:=by
 unfold outS
 rw[List.length_filter_lt_length_iff_exists]
 exact⟨n,h,by simp⟩
theorem zxa:∀ {l1 l2:List Int},l1.Pairwise (·<·)→l2.Pairwise (·<·)→(∀u,u∈l1↔u∈l2)→l1=l2
 |[],[],_,_,_=>rfl
 |[],b::_,_,_,h=>by have:=(h b).2 (List.mem_cons_self ..);cases this
 |a::_,[],_,_,h=>by have:=(h a).1 (List.mem_cons_self ..);cases this
 |a::r1,b::r2,h1,h2,h=>by
  rw[List.pairwise_cons] at h1 h2
  have e:a=b:=by
   rcases List.mem_cons.1 ((h a).1 (List.mem_cons_self ..)) with e|e
   ·exact e
   rcases List.mem_cons.1 ((h b).2 (List.mem_cons_self ..)) with e2|e2
   ·exact e2.symm
   have:=h1.1 b e2;have:=h2.1 a e;omega
  subst e
  congr 1
  refine zxa h1.2 h2.2 fun u=>⟨fun hu=>?_,fun hu=>?_⟩
  ·rcases List.mem_cons.1 ((h u).1 (List.mem_cons_of_mem _ hu)) with e|e
   ·subst e;have:=h1.1 u hu;omega
   exact e
  rcases List.mem_cons.1 ((h u).2 (List.mem_cons_of_mem _ hu)) with e|e
  ·subst e;have:=h2.1 u hu;omega
  exact e
structure zjb (R:Reg) (day:Int) (L:List Int):Prop where
  no:¬onE R day=0→L=[]
  inc:L.Pairwise (·<·)
  self:onE R day=0→∀s∈L,zdc (behD R day) R.ps s (fun n=>decide (n∈L))=true
  max:onE R day=0→∀M:List Int,(∀s∈M,zdc (behD R day) R.ps s (fun n=>decide (n∈M))=true)→∀s∈M,s∈L
theorem zjb.uniq {R:Reg}{day:Int}{L1 L2:List Int}(h1:zjb R day L1)(h2:zjb R day L2):L1=L2:=by
 by_cases h:onE R day=0
 ·exact zxa h1.inc h2.inc fun u=>⟨fun hu=>h2.max h L1 (h1.self h) u hu,fun hu=>h1.max h L2 (h2.self h) u hu⟩
 rw[h1.no h,h2.no h]
theorem zta.K {R:Reg}{day:Int}{L:List Int}(h0:onE R day=0)(h:zta (behD R day) R.ps L):zjb R day L:=
 ⟨fun h=>absurd h0 h,(zuh (zoh (zgu h0) day).2).sublist h.sub,fun _=>h.self,fun _=>h.max⟩
theorem StkR.K {R:Reg}{day:Int}{S:Rst}{m:Nat}{l:List Int}(b:Both R (behD R day) S m)(hR:RO R)(h0:onE R day=0)(h:StkR R (behD R day) l)(ha:∀n∈l,aloB R S l n=false):zjb R day l:=
 ⟨fun h=>absurd h0 h,h.inc,fun _ s hs=>by
  have:=ha s hs
  rw[zkk b hR (fun x hx=>(h.rng x hx).1) (h.rng s hs).1 (h.rng s hs).2] at this
  simpa using this,fun _=>h.max⟩
theorem zjb.nil {R:Reg}{day:Int}(h:¬onE R day=0):zjb R day []:=⟨fun _=>rfl,.nil,fun h0=>absurd h0 h,fun h0=>absurd h0 h⟩
theorem zjb.len {R:Reg}{day:Int}{L:List Int}(h:zjb R day L):L.length<4294967296:=by
 by_cases h0:onE R day=0
 ·obtain⟨m,b⟩:=zig (zgu h0) day
  have h1:∀s∈L,s∈rngI R.sc.toNat:=fun s hs=>(StkR.start b).max L (h.self h0) s hs
  have h2:L.Nodup:=h.inc.imp fun h=>by omega
  have h3:=List.Nodup.length_le_of_subset h2 (fun s hs=>h1 s hs)
  rw[zkp] at h3
  have:=(zn2 (zgu h0)).s2
  omega
 rw[h.no h0];simp
def zgq (R:Reg)(day:Int):List (Int×Int):=if onE R day=0 then zdd (behD R day) R.ps else []
theorem zy2 {R:Reg}{D:Dk}{S:Rst}{m:Nat}(b:Both R D S m)(hR:RO R){i:Nat}{p:Int}(h:R.ps[i]?=some p) :
  zjj D p=if ¬hld S p<0 then none else match (S.ws[i]?).getD [] with
   |[]=>none
   |a::_=>if (sHe S a).p=0 then some (a,p) else none:=by
 have hp:=List.mem_of_getElem? h
 rw[b.a.ws i p h,Option.getD_some]
 unfold zjj
 rcases b.z1t (hR.p1 p hp) with⟨h1,h2⟩|⟨s,h1,h2⟩
 ·rw[h2,if_neg (by omega)]
  cases hl:D.line p with
  |nil=>rfl
  |cons a r=>
   have ha:=b.i4.lsc p a (by rw[hl];exact List.mem_cons_self ..)
   have:=zsu b hR ha.1 ha.2
   cases hx:alk D.x a with
   |none=>simp[this.2 hx,hx]
   |some u=>
    have hn:¬(sHe S a).p=0:=fun h=>by rw[this.1 h] at hx;cases hx
    simp[hn,hx]
 rw[h2,h1,if_pos (by omega)]
def anW (S:Rst)(n:Int)(k:Nat):Bool:=(List.range k).any (w1 S n)
def anB (R:Reg)(S:Rst)(l:List Int)(n:Int)(k:Nat):Bool:=(List.range k).any (bad1 R S l n)
theorem zuo (S:Rst)(n:Int)(k:Nat):anW S n (k+1)=(anW S n k||w1 S n k):=by unfold anW;rw[List.range_succ,List.any_append];simp
theorem ztf (R:Reg)(S:Rst)(l:List Int)(n:Int)(k:Nat):anB R S l n (k+1)=(anB R S l n k||bad1 R S l n k):=by unfold anB;rw[List.range_succ,List.any_append];simp
theorem zqf (R:Reg)(S:Rst)(l:List Int)(n:Int):aloB R S l n=(anB R S l n R.ps.length||(decide ((sHe S n).p=0)||!anW S n R.ps.length)):=rfl
theorem zyi {R:Reg}{S:Rst}{l:List Int}{n:Int}{m k:Nat}(h:k<m)(hb:bad1 R S l n k=true):anB R S l n m=true:=List.any_eq_true.2 ⟨k,List.mem_range.2 h,hb⟩
end Go.Am.Hi
end
section
namespace Go.Am.Hi
open Go Go.Am Go.Proofs Tryz
attribute [local simp] vrun zbg zc6 vop vopA zc7 zab.back hidI hidF zgd bm Nat.testBit_eq_decide_div_mod_eq za1 zca zeg vO zcv vlen zdw zcz zjh zbo zbb zfu vbox zcw ziq zet zh4 zfr zbz zfs zb0 zft zcu zfx zdx zc8 vbnd zfa vidx zd1 zh1 zbt zd0 zfv zhu zjr zj2 vbin vsc vsc1 vscs vscl zdh aint zfj zhf zcd zew zjf pvcV pvc pvcs tput tget zc5 zab.get zab.alloc zab.put zab.drop zab.empty zbl vput zhp zbj zc4 zgg chunk List.range List.range.loop zbd zef zbn frz frzL PV.isF PV.allF PV.scal PV.allS retP subT zil PV.one PV.ids PV.idsL ze8 beq_eq zdn zed
attribute [local simp] zax zat zaz
attribute [local simp ↓ high] zph
theorem g121:(prog.stoodInHeld 121||prog.eqGuardType prog.depth 121)=false:=by decide +kernel
theorem n121:(match prog.underlying 121 with|some (.struct fs)=>fs.toList.map (fun f=>(f.name == "_", tsz prog f.type,f.type,f.offset))|_=>[])=[(false,some 1,3,0),(false,some 1,3,1)]:=by decide +kernel
theorem xfw (a0 a1 b0 b1:Int):aeql prog 121 (.agg #[.int .i64 a0,.int .i64 a1]) (.agg #[.int .i64 b0,.int .i64 b1])=some (a0==b0&&a1==b1):=by
 have hn:=n121
 have hg:=g121
 unfold aeql
 simp only
 cases hu:prog.underlying 121 with
 |none=>rw[hu] at hn;simp at hn
 |some td=>
  cases td with
  |struct fs=>
   rw[hu] at hn
   simp only at hn ⊢
   rw[hg]
   simp only[xf2]
   generalize fs.toList=l at hn
   rcases l with _|⟨f1,_|⟨f2,_|⟨f3,r⟩⟩⟩
   ·simp at hn
   ·simp at hn
   ·simp only[List.map_cons,List.map_nil,List.cons.injEq,xfz,and_true] at hn
    obtain⟨⟨k0a,k0b,k0c,k0d⟩,⟨k1a,k1b,k1c,k1d⟩⟩:=hn
    simp only[zf4,k0a,k0b,k0c,k0d,k1a,k1b,k1c,k1d,xf2]
    have ha:tagg prog 3=some false:=by decide +kernel
    have hu3:prog.underlying 3=some (.int .i64):=by rfl
    simp[apart,ha,zix,hu3]
    cases a0==b0<;>cases a1==b1<;>rfl
   simp at hn
  |_=>rw[hu] at hn;simp at hn
attribute [local simp] xfw
theorem p58 (a:List (Int×Int))(hl:a.length<4294967296):zao prog 58 [.vec (a.map encA),.vec (a.map encA)] fun r=>r=.bool true:=by
 refine .zag func58 rfl rfl ?_
 refine .sr ?_
 refine .seq (.sr ?_)
 refine .cs ?_ ?_<;>intro c10
 ·try simp at c10
 try simp at c10
 refine .skip (.seq (.sr ?_))
 refine .block ?_
 refine .zb5 (fun s:Nat=>([(0,.vec (a.map encA)),(1,.vec (a.map encA)),(5,.int .i64 s)],zab.empty)) (fun s=>s≤a.length) (fun s=>a.length - s) 0 (by simp) (.pure (by simp[*]) (by simp)) ?_
 rintro i hi
 simp only at hi ⊢
 refine .seq (.sr ?_)
 refine .cs ?_ ?_<;>intro c14
 ·try simp at c14
  have hw2:=wr1 i
  refine .skip (.seq (.block (.seq ?_)))
  refine .drawn (ms:=[0,0,3,7,0,0,48,112,255]) (W:=[]) (items:=[.op 0,.op 1,.op 2,.op 3,.op 4,.op 5,.op 6,.op 7,.op 8]) rfl zz0 zz0 zz0 ?_
  iterate 9 refine .rx ?_
  refine .done ?_
  refine .cs ?_ ?_<;>intro c25
  ·try simp at c25
  try simp at c25
  refine .skip (.rn ?_)
  refine⟨i+1,zz3,zz3,.pure (by simp[*]) (by simp)⟩
 try simp at c14
 refine .exit (.sr ?_)
 refine .ret ?_
 refine⟨_,_,zz2,zz2,?_⟩
 first|rfl|(simp[*];done)|(simp_all;done)
theorem p54x (R:Reg)(day:Int)(hl1:R.ps.length<4294967296)(hl2:R.ts.length<4294967296)(h:¬onE R day=0):zao prog 54 [encR R,.int .i64 day] fun r=>r=.tup [.sl0,.int .i64 (onE R day)]:=by
 refine .zag func54 rfl rfl ?_
 refine .sr ?_
 refine .seq ?_
 refine .zac [0,1,2,3,4,5,6,7] rfl zz0 ?_
 refine .rn [0,1] _ ?_
 refine .pc rfl rfl rfl rfl rfl call85 (p85 R day hl1 hl2) ?_
 refine .rn [3,4,5,6,7] [] ?_
 refine .done (.seq (.sr ?_))
 refine .cs ?_ ?_<;>intro c21
 ·try simp at c21
  refine .sr ?_
  refine .ret ?_
  refine⟨_,_,zz2,zz2,?_⟩
  first|rfl|(simp[*];done)|(simp_all;done)
 try simp at c21
 exact absurd c21 h
theorem p55 (R:Reg)(day:Int)(hl1:R.ps.length<4294967296)(hl2:R.ts.length<4294967296):zao prog 55 [encR R,.int .i64 day] fun r=>r=.agg [if onE R day=0 then .vec ((zgq R day).map encA) else .sl0,.int .i64 (onE R day)]:=by
 have h88:=p88 R 0 day hl1 hl2
 rw[ztq R day] at h88
 unfold encR
 refine .zag func55 rfl rfl ?_
 refine .sr ?_
 refine .seq ?_
 refine .zac [0,1,2,3] rfl zz0 ?_
 refine .rn [0,1] _ ?_
 refine .pc rfl rfl rfl rfl rfl call88 (h88) ?_
 refine .rn [3] [] ?_
 refine .done (.seq (.sr ?_))
 refine .cs ?_ ?_<;>intro c14
 ·try simp at c14
  refine .sr ?_
  refine .ret ?_
  refine⟨_,_,zz2,zz2,?_⟩
  rw[if_neg c14]
 try simp at c14
 have hc:=zl9 c14
 have hS:=zmc hc day
 have hR:=zn2 hc
 have hh:(rbeh R day).hs.length<4294967296:=by have:=hS.hl;have:=hR.s2;omega
 obtain⟨m,hB⟩:=zig hc day
 have hpl:=hR.pl
 have h89:=p89 R day hl1 hl2 hc
 have hRK:zgq R day=zdd (behD R day) R.ps:=by unfold zgq;rw[if_pos (show onE R day=0 from c14)]
 rw[if_pos (show onE R day=0 from c14),hRK,show onE R day=0 from c14]
 obtain⟨D,hD⟩:∃D,behD R day=D:=⟨_,rfl⟩
 obtain⟨S,hSe⟩:∃S,rbeh R day=S:=⟨_,rfl⟩
 rw[hSe] at hh hS hB h89
 rw[hD] at hB ⊢
 have hwl:=hS.wl
 clear hRK hD hSe
 refine .skip (.sr ?_)
 refine .seq ?_
 refine .zac [0,1,2,3,4] rfl zz0 ?_
 refine .rn [0,1] _ ?_
 refine .pc rfl rfl rfl rfl rfl call89 (h89) ?_
 refine .rn [3,4] [] ?_
 refine .done (.seq (.sr ?_))
 refine .block ?_
 refine .zb5 (fun k:Nat=>([(2,.ptr 0 0),(4,.ptr 1 0),(6,.ptr 2 0),(7,.ptr 3 0),(8,.int .i64 k)],⟨5,[(4,.grow 2 ((zdd D (R.ps.take k)).map encA)),(3,.box [.vec (S.hs.map zah),.vec (S.ws.map wQ),.int .i64 S.dy]),(2,.box [.grow 4 (zdd D (R.ps.take k)).length true,.int .i64 0]),(1,.box [.sl0,.int .i64 0]),(0,.box [ints R.ps,.int .i64 R.sc,turns R.ts])]⟩)) (fun k=>k≤R.ps.length) (fun k=>R.ps.length - k) 0 (by simp) (.mk [] [] zz8 zz9 rfl rfl rfl) ?_
 rintro k hk
 simp only at hk ⊢
 refine .seq (.sr ?_)
 refine .cs ?_ ?_<;>intro c25
 ·try simp at c25
  have hw2:=wr1 k
  have hkw:k<S.ws.length:=by omega
  have hT:=zo1 D R.ps k c25
  obtain⟨p,hpe⟩:∃p,R.ps[k]=p:=⟨_,rfl⟩
  have hps:R.ps[k]?=some p:=by rw[List.getElem?_eq_getElem c25,hpe]
  have hrr:=zy2 hB hR hps
  obtain⟨L,hL⟩:∃L,S.ws[k]=L:=⟨_,rfl⟩
  have hLl:S.ws[k]?=some L:=by rw[List.getElem?_eq_getElem hkw,hL]
  have hLD:D.line p=L:=by have:=hB.a.ws k p hps;rw[hLl] at this;injection this with this;exact this.symm
  rw[hLl,Option.getD_some] at hrr
  rw[hpe,hrr] at hT
  have hlen:=zk2 D (R.ps.take k)
  rw[List.length_take] at hlen
  obtain⟨Z,hZ⟩:∃Z,zdd D (R.ps.take k)=Z:=⟨_,rfl⟩
  rw[hZ] at hT hlen
  rw[hZ]
  have hb:Z.length+1≤4294967296:=by omega
  have h92:=p92 S p hh
  obtain⟨q,hq⟩:∃q,hld S p=q:=⟨_,rfl⟩
  rw[hq] at hT h92
  obtain⟨bq,hbq⟩:∃b,decide (0≤q)=b:=⟨_,rfl⟩
  clear hrr hwl
  rcases L with _|⟨a,r⟩
  ·skip
   refine .skip (.seq (.block (.seq (.seq ?_))))
   refine .drawn (ms:=[0,0,2,0,14,30,63,127,255,511,1023,511,4095,8191,16383,32767,65535]) (W:=[6]) (items:=[.op 0,.op 1,.op 2,.op 3,.op 4,.op 5,.op 6,.op 7,.op 8,.op 9,.op 10,.op 11,.op 12,.op 13,.op 14,.op 15,.op 16]) rfl zz0 zz0 zz0 ?_
   iterate 6 refine .rx ?_
   refine .wp rfl rfl rfl rfl rfl call92 (h92) ?_
   iterate 2 refine .rx ?_
   refine .split (t:=36) rfl (fun c36=>?_) (fun c36=>?_)
   ·first|cases c36|cases bnt c36|cases bnf c36|try rw[c36]
    try simp at c36
    have hT1:zdd D (R.ps.take (k+1))=Z:=by rw[hT,if_pos (by first|(simp_all;done)|(simp_all;omega))];try simp
    clear hT
    iterate 7 refine .ux ?_
    refine .rx ?_
    refine .done (.zgb rfl (.exit (.rn ?_)))
    refine⟨k+1,c25,zz3,(.mk [] [] zz8 zz9 rfl rfl rfl)⟩
   first|cases c36|cases bnt c36|cases bnf c36|try rw[c36]
   try simp at c36
   iterate 8 refine .rx ?_
   refine .done ?_
   refine .cs ?_ ?_<;>intro c44
   ·try simp at c44
    have hT1:zdd D (R.ps.take (k+1))=Z:=by rw[hT,if_neg (by first|(simp_all;done)|(simp_all;omega))];try simp
    clear hT
    refine .exit (.rn ?_)
    refine⟨k+1,c25,zz3,(.mk [] [] zz8 zz9 rfl rfl rfl)⟩
   try simp at c44
  skip
  refine .skip (.seq (.block (.seq (.seq ?_))))
  have hq1:wQ (a::r)=.vec ((a::r).map (.int .i64)):=if_neg (by simp)
  have hla:=hB.i4.lsc p a (by rw[hLD];exact List.mem_cons_self ..)
  obtain⟨s,hs,hsl,hsE⟩:=at_s hS hla.1 (by omega)
  subst hs
  obtain⟨u,hu⟩:∃u,sHe S (s:Int)=u:=⟨_,rfl⟩
  rw[hu] at hsE
  simp only[hu] at hT
  have hsE2:S.hs[s]=u:=(List.getElem?_eq_some_iff.1 hsE).2
  clear hsE hu
  refine .drawn (ms:=[0,0,2,0,14,30,63,127,255,511,1023,511,4095,8191,16383,32767,65535]) (W:=[6]) (items:=[.op 0,.op 1,.op 2,.op 3,.op 4,.op 5,.op 6,.op 7,.op 8,.op 9,.op 10,.op 11,.op 12,.op 13,.op 14,.op 15,.op 16]) rfl zz0 zz0 zz0 ?_
  iterate 6 refine .rx ?_
  refine .wp rfl rfl rfl rfl rfl call92 (h92) ?_
  iterate 2 refine .rx ?_
  refine .split (t:=36) rfl (fun c36=>?_) (fun c36=>?_)
  ·first|cases c36|cases bnt c36|cases bnf c36|try rw[c36]
   try simp at c36
   have hT1:zdd D (R.ps.take (k+1))=Z:=by rw[hT,if_pos (by first|(simp_all;done)|(simp_all;omega))];try simp
   clear hT
   iterate 7 refine .ux ?_
   refine .rx ?_
   refine .done (.zgb rfl (.exit (.rn ?_)))
   refine⟨k+1,c25,zz3,(.mk [] [] zz8 zz9 rfl rfl rfl)⟩
  first|cases c36|cases bnt c36|cases bnf c36|try rw[c36]
  try simp at c36
  iterate 8 refine .rx ?_
  refine .done ?_
  refine .cs ?_ ?_<;>intro c44
  ·try simp at c44
   exfalso;omega
  try simp at c44
  refine .skip (.sr ?_)
  refine .sr ?_
  refine .cs ?_ ?_<;>intro c58
  ·try simp at c58
   have hT1:zdd D (R.ps.take (k+1))=Z++[((s:Int),p)]:=by rw[hT,if_neg (by first|(simp_all;done)|(simp_all;omega))];try simp_all
   clear hT
   refine .drawn (ms:=[0,1,0,0,8,0,56,120,252,508,1023,2047,4095]) (W:=[9,10,12]) (items:=[.op 0,.op 1,.op 2,.op 3,.op 4,.op 5,.op 6,.op 7,.op 8,.op 9,.ck 1,.op 10,.op 11,.op 12]) rfl zz0 zz0 zz0 ?_
   iterate 9 refine .rx ?_
   refine .wv ?_
   refine .ck rfl zz0 ?_
   refine .wv ?_
   refine .rx ?_
   refine .wv ?_
   refine .done (.rn ?_)
   refine⟨k+1,c25,zz3,(.mk [] [(4,6)] zz8 zz9 rfl rfl rfl)⟩
  try simp at c58
  have hT1:zdd D (R.ps.take (k+1))=Z:=by rw[hT,if_neg (by first|(simp_all;done)|(simp_all;omega))];try simp_all
  clear hT
  refine .skip (.rn ?_)
  refine⟨k+1,c25,zz3,(.mk [] [] zz8 zz9 rfl rfl rfl)⟩
 try simp at c25
 have hk2:k=R.ps.length:=by omega
 rw[hk2,List.take_length]
 refine .exit (.sr ?_)
 refine .ret ?_
 refine⟨_,_,zz2,zz2,?_⟩
 rfl
theorem p128 (R:Reg)(S:Rst)(m:Nat)(l:List Int)(s:Nat)(hR:RO R)(hS:SIv R S m)(hm:m<1000)(hs:s<S.hs.length)(hll:l.length<4294967296):zao prog 128 [encR R,encS S,wQ l,.int .i64 s] fun r=>r=.bool (aloB R S l s):=by
 have hwl:=hS.wl
 have hhl:=hS.hl
 have hsc:=hR.s2
 have hpl:=hR.pl
 have hh:S.hs.length<4294967296:=by omega
 have hln:∀(k:Nat) (h:k<S.ws.length),S.ws[k].length<4294967296:=fun k h=>by have:=hS.ln _ (List.getElem_mem h);omega
 unfold encR encS
 refine .zag func128 rfl rfl ?_
 refine .sr ?_
 refine .sr ?_
 refine .seq (.sr ?_)
 refine .block ?_
 refine .zb5 (fun k:Nat=>([(2,wQ l),(3,.int .i64 s),(4,.vp [ints R.ps,.int .i64 R.sc,turns R.ts]),(5,.vp [.vec (S.hs.map zah),.vec (S.ws.map wQ),.int .i64 S.dy]),(9,.bool (anW S s k)),(10,.int .i64 k)],⟨0,[]⟩)) (fun k=>k≤R.ps.length∧anB R S l s k=false) (fun k=>R.ps.length - k) 0 ⟨by simp,rfl⟩ (.mk [0,1] [] zz10 zz11 rfl rfl rfl) ?_
 rintro k ⟨hk,hb0⟩
 simp only at hk hb0 ⊢
 refine .seq (.sr ?_)
 refine .cs ?_ ?_<;>intro c16
 ·try simp at c16
  have hw2:=wr1 k
  have hkw:k<S.ws.length:=by omega
  obtain⟨L,hL⟩:∃L,S.ws[k]=L:=⟨_,rfl⟩
  have hLn:=hln k hkw
  rw[hL] at hLn
  have hw1:w1 S s k=decide ((s:Int)∈L):=by unfold w1;rw[List.getElem?_eq_getElem hkw,hL];rfl
  have h92:=p92 S R.ps[k] hh
  have hbd:bad1 R S l s k=(decide ((s:Int)∈L)&&!decide (hld S R.ps[k]∈l)):=by unfold bad1;rw[hw1,List.getElem?_eq_getElem c16];rfl
  obtain⟨q,hq⟩:∃q,hld S R.ps[k]=q:=⟨_,rfl⟩
  rw[hq] at h92 hbd
  have h107:=zn5 L s hLn
  have h107b:=zn5 l q hll
  obtain⟨b1,hb1⟩:∃b,decide ((s:Int)∈L)=b:=⟨_,rfl⟩
  obtain⟨b2,hb2⟩:∃b,decide (q∈l)=b:=⟨_,rfl⟩
  obtain⟨b3,hb3⟩:∃b,anW S s k=b:=⟨_,rfl⟩
  rw[hb1] at hw1 hbd h107
  rw[hb2] at hbd h107b
  rw[hb3]
  have hA:anW S s (k+1)=(b3||b1):=by rw[zuo,hb3,hw1]
  have hB:anB R S l s (k+1)=(b1&&!b2):=by rw[ztf,hb0,hbd,Bool.false_or]
  have hfull:(b1&&!b2)=true→aloB R S l s=true:=fun h=>by
   rw[zqf,Bool.or_eq_true]
   exact .inl (zyi c16 (by rw[hbd];exact h))
  clear hwl hhl hln hb1 hb2 hb3 hbd hw1
  refine .skip (.seq (.block (.seq ?_)))
  refine .zac [0,1,2,3,4,5,6,7] rfl zz0 ?_
  refine .rn [0,1,2,3,4,5] _ ?_
  refine .pc rfl rfl rfl rfl rfl call107 (h107) ?_
  refine .rn [7] [] ?_
  refine .done (.seq (.seq ?_))
  refine .drawn (ms:=[0,1,3,3,3,19,3,115,243,507,1023,2047,4095]) (W:=[9,10]) (items:=[.op 0,.op 1,.op 2,.op 3,.op 4,.op 5,.op 6,.op 7,.op 8,.op 9,.op 10,.op 11,.op 12]) rfl zz0 zz0 zz0 ?_
  iterate 2 refine .rx ?_
  refine .split (t:=27) rfl (fun c27=>?_) (fun c27=>?_)
  ·first|cases c27|cases bnt c27|cases bnf c27|try rw[c27]
   try simp at c27
   iterate 7 refine .rx ?_
   refine .wp rfl rfl rfl rfl rfl call92 (h92) ?_
   refine .wp rfl rfl rfl rfl rfl call107 (h107b) ?_
   iterate 2 refine .rx ?_
   refine .done ?_
   refine .cs ?_ ?_<;>intro c38
   ·try simp at c38
    refine .sr ?_
    refine .ret ?_
    refine⟨_,_,zz2,zz2,?_⟩
    rw[hfull (by simp_all)]
   try simp at c38
   refine .skip ?_
   refine .zac [0,1,2,3,4] rfl zz0 ?_
   refine .rn [0,1] _ ?_
   refine .split (t:=40) rfl (fun c40=>?_) (fun c40=>?_)
   ·first|cases c40|cases bnt c40|cases bnf c40|try rw[c40]
    try simp at c40
    refine .rn [2,3,4] [] ?_
    refine .done (.rn ?_)
    refine⟨k+1,⟨zz3,by rw[hB];simp_all⟩,zz3,by rw[hA];exact(.mk [] [] zz8 zz9 rfl rfl rfl)⟩
   first|cases c40|cases bnt c40|cases bnf c40|try rw[c40]
   try simp at c40
   refine .rn [2,3,4] [] ?_
   refine .done (.rn ?_)
   refine⟨k+1,⟨zz3,by rw[hB];simp_all⟩,zz3,by rw[hA];exact(.mk [] [] zz8 zz9 rfl rfl rfl)⟩
  first|cases c27|cases bnt c27|cases bnf c27|try rw[c27]
  try simp at c27
  iterate 10 refine .ux ?_
  refine .rx ?_
  refine .done (.zjd rfl (.skip ?_))
  refine .zac [0,1,2,3,4] rfl zz0 ?_
  refine .rn [0,1] _ ?_
  refine .split (t:=40) rfl (fun c40=>?_) (fun c40=>?_)
  ·first|cases c40|cases bnt c40|cases bnf c40|try rw[c40]
   try simp at c40
   refine .rn [2,3,4] [] ?_
   refine .done (.rn ?_)
   refine⟨k+1,⟨zz3,by rw[hB];simp_all⟩,zz3,by rw[hA];exact(.mk [] [] zz8 zz9 rfl rfl rfl)⟩
  first|cases c40|cases bnt c40|cases bnf c40|try rw[c40]
  try simp at c40
  refine .rn [2,3,4] [] ?_
  refine .done (.rn ?_)
  refine⟨k+1,⟨zz3,by rw[hB];simp_all⟩,zz3,by rw[hA];exact(.mk [] [] zz8 zz9 rfl rfl rfl)⟩
 try simp at c16
 have hk2:k=R.ps.length:=by omega
 obtain⟨u,hu⟩:∃u,S.hs[s]=u:=⟨_,rfl⟩
 have hsh:sHe S (s:Int)=u:=by unfold sHe;rw[Int.toNat_natCast,List.getElem?_eq_getElem hs,hu];rfl
 have hal:aloB R S l s=((u.p==0)||!anW S s R.ps.length):=by rw[zqf,← hk2,hb0,hsh];rfl
 rw[hal,← hk2]
 obtain⟨b3,hb3⟩:∃b,anW S s k=b:=⟨_,rfl⟩
 obtain⟨b4,hb4⟩:∃b,(u.p==0)=b:=⟨_,rfl⟩
 rw[hb3,hb4]
 clear hwl hhl hln
 refine .exit (.seq ?_)
 refine .zac [0,1,2,3,4,5,6,7,8,9,10,11] rfl zz0 ?_
 refine .rn [0,1,2,3,4,5,6,7] _ ?_
 refine .split (t:=50) rfl (fun c50=>?_) (fun c50=>?_)
 ·first|cases c50|cases bnt c50|cases bnf c50|try rw[c50]
  try simp at c50
  refine .rn [8,9,10,11] [] ?_
  refine .done (.ret ?_)
  refine⟨_,_,zz2,zz2,?_⟩
  first|rfl|(simp[*];done)|(simp_all;done)
 first|cases c50|cases bnt c50|cases bnf c50|try rw[c50]
 try simp at c50
 refine .rn [8,9,10,11] [] ?_
 refine .done (.ret ?_)
 refine⟨_,_,zz2,zz2,?_⟩
 first|rfl|(simp[*];done)|(simp_all;done)
theorem zz7 (k:Nat):(rngI (k+1)).map (PV.int .i64)=(rngI k).map (PV.int .i64)++[.int .i64 k]:=by rw[zwr,List.map_append];rfl
theorem z3j (k:Nat):(rngI (k+1)).length=(rngI k).length+1:=by rw[zkp,zkp]
theorem p57 (R:Reg)(day:Int)(hl1:R.ps.length<4294967296)(hl2:R.ts.length<4294967296):zao prog 57 [encR R,.int .i64 day] fun r=>∃l,zjb R day l∧r=.agg [wQ l,.int .i64 (onE R day)]:=by
 have h88:=p88 R 0 day hl1 hl2
 rw[ztq R day] at h88
 unfold encR
 refine .zag func57 rfl rfl ?_
 refine .sr ?_
 refine .seq ?_
 refine .zac [0,1,2,3] rfl zz0 ?_
 refine .rn [0,1] _ ?_
 refine .pc rfl rfl rfl rfl rfl call88 (h88) ?_
 refine .rn [3] [] ?_
 refine .done (.seq (.sr ?_))
 refine .cs ?_ ?_<;>intro c16
 ·try simp at c16
  refine .sr ?_
  refine .ret ?_
  refine⟨_,_,zz2,zz2,?_⟩
  exact⟨[],zjb.nil c16,rfl⟩
 try simp at c16
 have h0:onE R day=0:=c16
 have hc:=zl9 c16
 have hS:=zmc hc day
 have hR:=zn2 hc
 obtain⟨m,hB⟩:=zig hc day
 have hfin:=fun (l:List Int) (h1:StkR R (behD R day) l) (h2:∀n∈l,aloB R (rbeh R day) l n=false)=>StkR.K hB hR h0 h1 h2
 have hst:=StkR.start hB
 have h89:=p89 R day hl1 hl2 hc
 rw[h0]
 obtain⟨D,hD⟩:∃D,behD R day=D:=⟨_,rfl⟩
 obtain⟨S,hSe⟩:∃S,rbeh R day=S:=⟨_,rfl⟩
 rw[hSe] at hS hB h89 hfin
 rw[hD] at hB hfin hst
 obtain⟨n,hn⟩:∃n:Nat,R.sc=n:=⟨R.sc.toNat,by have:=hR.s1;omega⟩
 have hn2:R.sc.toNat=n:=by omega
 rw[hn2] at hst
 have hn16:n≤16:=by have:=hR.s2;omega
 have hsn:S.hs.length=n:=by have:=hS.hl;omega
 have h128:=fun (l:List Int) (s:Nat) (hs:s<n) (hl:l.length<4294967296)=>p128 R S 120 l s hR hS (by omega) (by omega) hl
 have hnx:=fun (l:List Int) (h:StkR R D l) (x:Int) (hx:x∈l) (ha:aloB R S l x=true)=>h.next hB hR hx ha
 have hlen:∀l,StkR R D l→l.length<4294967296:=fun l h=>by
  have h2:l.Nodup:=h.inc.imp fun h=>by omega
  have h3:=List.Nodup.length_le_of_subset (l₂:=rngI n) h2 (fun s hs=>by
   have:=h.rng s hs
   unfold rngI
   exact List.mem_map.2 ⟨s.toNat,List.mem_range.2 (by omega),by omega⟩)
  rw[zkp] at h3
  omega
 have hrg:∀l,StkR R D l→∀x∈l,0≤x∧x<n:=fun l h x hx=>by have:=h.rng x hx;omega
 unfold encR encS at h128
 unfold encR at h89
 rw[hn] at h128 h89
 rw[hn]
 clear hS hB hSe hD hn2 hn hsn h0
 refine .skip (.seq ?_)
 refine .zac [0,1,2,3,4] rfl zz0 ?_
 refine .rn [0,1] _ ?_
 refine .pc rfl rfl rfl rfl rfl call89 (h89) ?_
 refine .rn [3,4] [] ?_
 refine .done (.sr ?_)
 refine .seq (.sr ?_)
 refine .block ?_
 refine .zb5 (fun k:Nat=>([(2,.ptr 0 0),(4,.ptr 1 0),(6,.ptr 2 0),(7,.grow 3 (rngI k).length true),(8,.int .i64 k)],⟨4,[(3,.grow 1 ((rngI k).map (.int .i64))),(2,.box [.vec (S.hs.map zah),.vec (S.ws.map wQ),.int .i64 S.dy]),(1,.box [.sl0,.int .i64 0]),(0,.box [ints R.ps,.int .i64 n,turns R.ts])]⟩)) (fun k=>k≤n) (fun k=>n - k) 0 (by simp) (.mk [] [] zz8 zz9 rfl rfl rfl) ?_
 rintro k hk
 simp only at hk ⊢
 refine .seq (.sr ?_)
 refine .cs ?_ ?_<;>intro c25
 ·try simp at c25
  have hw2:=wr1 k
  have hkl:(rngI k).length+1≤4294967296:=by rw[zkp];omega
  have hm1:=zz7 k
  have hl1:=z3j k
  refine .skip (.seq (.block (.rn ?_)))
  refine .rn ?_
  refine⟨k+1,zz3,zz3,(.mk [] [(3,5)] zz8 zz9 rfl rfl rfl)⟩
 try simp at c25
 have hk2:k=n:=by omega
 subst hk2
 refine .exit (.sr ?_)
 refine .seq (.block ?_)
 refine .zb5 (fun s:List Int×Bool=>([(2,.ptr 0 0),(4,.ptr 1 0),(6,.ptr 2 0),(7,wQ s.1),(9,.bool s.2)],⟨3,[(2,.box [.vec (S.hs.map zah),.vec (S.ws.map wQ),.int .i64 S.dy]),(1,.box [.sl0,.int .i64 0]),(0,.box [ints R.ps,.int .i64 k,turns R.ts])]⟩)) (fun s=>StkR R D s.1∧(s.2=false→∀x∈s.1,aloB R S s.1 x=false)) (fun s=>s.1.length*2+(if s.2 then 1 else 0)) (rngI k,true) ⟨hst,fun h=>by cases h⟩ (.mk [3] [] zz20 zz21 rfl rfl rfl) ?_
 rintro⟨l,more⟩ ⟨hI,hmo⟩
 simp only at hI hmo ⊢
 refine .seq (.sr ?_)
 refine .cs ?_ ?_<;>intro c32
 ·try simp at c32
  refine .skip (.block (.sr ?_))
  refine .sr ?_
  refine .block ?_
  refine .zb5 (fun s:List Int×Bool×Nat=>([(2,.ptr 0 0),(4,.ptr 1 0),(6,.ptr 2 0),(7,wQ s.1),(9,.bool s.2.1),(10,.int .i64 s.2.2)],⟨3,[(2,.box [.vec (S.hs.map zah),.vec (S.ws.map wQ),.int .i64 S.dy]),(1,.box [.sl0,.int .i64 0]),(0,.box [ints R.ps,.int .i64 k,turns R.ts])]⟩)) (fun s=>StkR R D s.1∧s.2.2≤k∧((s.2.1=false∧s.1=l∧∀x∈l,x<s.2.2→aloB R S l x=false)∨(s.2.1=true∧s.1.length<l.length))) (fun s=>k - s.2.2) (l,false,0) ⟨hI,Nat.zero_le _,.inl ⟨rfl,rfl,fun x hx h=>by have:=(hrg l hI x hx).1;simp at h;omega⟩⟩ (.mk [] [] zz8 zz9 rfl rfl rfl) ?_
  rintro⟨l2,mo,j⟩ ⟨hI2,hjk,hal⟩
  simp only at hI2 hjk hal ⊢
  refine .seq (.sr ?_)
  refine .cs ?_ ?_<;>intro c36
  ·try simp at c36
   have hw2:=wr1 j
   have hl2l:=hlen l2 hI2
   have h107:=zn5 l2 j hl2l
   have h103:=zq1 l2 j hl2l
   have h128j:=h128 l2 j (by omega) hl2l
   have hnxj:=hnx l2 hI2 j
   obtain⟨b1,hb1⟩:∃b,decide ((j:Int)∈l2)=b:=⟨_,rfl⟩
   obtain⟨b2,hb2⟩:∃b,aloB R S l2 j=b:=⟨_,rfl⟩
   rw[hb1] at h107
   rw[hb2] at h128j hnxj
   refine .skip (.seq (.block (.seq ?_)))
   refine .zac [0,1,2,3] rfl zz0 ?_
   refine .rn [0,1] _ ?_
   refine .pc rfl rfl rfl rfl rfl call107 (h107) ?_
   refine .rn [3] [] ?_
   refine .done (.seq ?_)
   refine .zac [0,1,2,3,4,5,6,7] rfl zz0 ?_
   refine .rn [0,1] _ ?_
   refine .split (t:=43) rfl (fun c43=>?_) (fun c43=>?_)
   ·first|cases c43|cases bnt c43|cases bnf c43|try rw[c43]
    try simp at c43
    refine .rn [2,3,4,5] _ ?_
    refine .pc rfl rfl rfl rfl rfl call128 (h128j) ?_
    refine .rn [7] [] ?_
    refine .done ?_
    refine .cs ?_ ?_<;>intro c49
    ·try simp at c49
     have hmem:(j:Int)∈l2:=of_decide_eq_true hb1
     have hol:=z2m hmem
     refine .seq ?_
     refine .zac [0,1,2,3] rfl zz0 ?_
     refine .rn [0,1] _ ?_
     refine .pc rfl rfl rfl rfl rfl call103 (h103) ?_
     refine .rn [3] [] ?_
     refine .done (.rn ?_)
     refine .rn ?_
     refine⟨(outS l2 j,true,j+1),⟨hnxj hmem c49,zz3,.inr ⟨rfl,by rcases hal with⟨_,h,_⟩|⟨_,h⟩<;>simp_all<;>omega⟩⟩,zz3,(.mk [] [] zz8 zz9 rfl rfl rfl)⟩
    try simp at c49
    refine .skip (.rn ?_)
    refine⟨(l2,mo,j+1),⟨hI2,zz3,by
     rcases hal with⟨h1,h2,h3⟩|h
     ·refine .inl ⟨h1,h2,fun x hx hlt=>?_⟩
      by_cases hxj:x=j
      ·subst hxj;rw[← h2,hb2];simpa using c49
      exact h3 x hx (by simp only at hlt;omega)
     exact .inr h⟩,zz3,(.mk [] [] zz8 zz9 rfl rfl rfl)⟩
   first|cases c43|cases bnt c43|cases bnf c43|try rw[c43]
   try simp at c43
   refine .rn [2,3,4,5,6,7] [] ?_
   refine .done (.zjd rfl (.skip (.rn ?_)))
   refine⟨(l2,mo,j+1),⟨hI2,zz3,by
    rcases hal with⟨h1,h2,h3⟩|h
    ·refine .inl ⟨h1,h2,fun x hx hlt=>?_⟩
     by_cases hxj:x=j
     ·subst hxj;rw[← h2] at hx;exact absurd hx (of_decide_eq_false hb1)
     exact h3 x hx (by simp only at hlt;omega)
    exact .inr h⟩,zz3,(.mk [] [] zz8 zz9 rfl rfl rfl)⟩
  try simp at c36
  refine .exit ?_
  refine⟨(l2,mo),⟨hI2,fun hf=>?_⟩,?_,(.mk [] [] zz8 zz9 rfl rfl rfl)⟩
  ·rcases hal with⟨h1,h2,h3⟩|⟨h1,_⟩
   ·simp only
    subst h2
    exact fun x hx=>h3 x hx (by have:=(hrg l2 hI2 x hx).2;omega)
   simp only at hf;rw[h1] at hf;cases hf
  rcases hal with⟨h1,h2,h3⟩|⟨h1,h2⟩<;>simp_all<;>omega
 try simp at c32
 refine .exit (.sr ?_)
 refine .ret ?_
 refine⟨_,_,zz2,zz2,?_⟩
 exact⟨l,hfin l hI (hmo (by simpa using c32)),rfl⟩
theorem p130 (R:Reg)(S:Rst)(m:Nat)(l:List Int)(hR:RO R)(hS:SIv R S m)(hm:m<1000)(hll:l.length<4294967296):zao prog 130 [encR R,encS S,ints l] fun r=>∃b:Bool,(b=true↔(l≠[]∧∀i,zly R S l i))∧r=.bool b:=by
 have hwl:=hS.wl
 have hhl:=hS.hl
 have hsc:=hR.s2
 have hsc1:=hR.s1
 have hpl:=hR.pl
 have hwsc:IntKind.i64.wrap (R.sc - 1)=R.sc - 1:=wrap64 (by omega) (by omega)
 have hh:S.hs.length<4294967296:=by omega
 have hln:∀(k:Nat) (h:k<S.ws.length),S.ws[k].length<4294967296:=fun k h=>by have:=hS.ln _ (List.getElem_mem h);omega
 have hno:∀i,¬zly R S l i→(false=true↔(l≠[]∧∀i,zly R S l i)):=fun i h=>⟨fun h=>absurd h (by decide),fun h2=>absurd (h2.2 i) h⟩
 have hat:=fun (x:Int) (h1:0≤x) (h2:x≤R.sc - 1)=>at_s hS h1 h2
 unfold encR encS
 refine .zag func130 rfl rfl ?_
 refine .sr ?_
 refine .seq (.sr ?_)
 refine .block ?_
 refine .zb5 (fun i:Nat=>([(2,ints l),(3,.vp [ints R.ps,.int .i64 R.sc,turns R.ts]),(4,.vp [.vec (S.hs.map zah),.vec (S.ws.map wQ),.int .i64 S.dy]),(7,.int .i64 i)],⟨0,[]⟩)) (fun i=>i≤l.length∧∀j,j<i→zly R S l j) (fun i=>l.length - i) 0 ⟨by simp,fun j h=>absurd h (Nat.not_lt_zero j)⟩ (.mk [0,1] [] zz10 zz11 rfl rfl rfl) ?_
 rintro i ⟨hi,he⟩
 simp only at hi he ⊢
 refine .seq (.sr ?_)
 refine .cs ?_ ?_<;>intro c15
 ·try simp at c15
  have hw2:=wr1 i
  obtain⟨n,hn⟩:∃n,l[i]=n:=⟨_,rfl⟩
  have h80:=p80 n 0 (R.sc - 1)
  have hn1:zly R S l i↔((0≤n∧n≤R.sc - 1)∧(0<i→l[i - 1]'(by omega)<n)∧aloB R S l n=false):=⟨fun h=>by have:=h c15;rw[hn] at this;exact this,fun h _=>by rw[hn];exact h⟩
  refine .skip (.seq (.block (.sr ?_)))
  refine .join (fun _:Unit=>([(2,ints l),(3,.vp [ints R.ps,.int .i64 R.sc,turns R.ts]),(4,.vp [.vec (S.hs.map zah),.vec (S.ws.map wQ),.int .i64 S.dy]),(7,.int .i64 i),(8,.int .i64 n)],⟨0,[]⟩)) (fun _=>(0≤n∧n≤R.sc - 1)∧(0<i→l[i - 1]'(by omega)<n)) ?_ ?_
  ·skip
   refine .seq ?_
   refine .zac [0,1,2,3,4,5,6,7,8,9,10,11,12,13,14,15,16,17,18,19] rfl zz0 ?_
   refine .rn [0,1,2,3] _ ?_
   refine .pc rfl rfl rfl rfl rfl call80 (h80) ?_
   refine .rn [5,6] _ ?_
   refine .split (t:=28) rfl (fun c28=>?_) (fun c28=>?_)
   ·first|cases c28|cases bnt c28|cases bnf c28|try rw[c28]
    try simp at c28
    have hf:¬zly R S l i:=fun h=>by have:=(hn1.1 h).1;first|omega|(simp at c28;omega)
    refine .rn [7,8,9,10,11,12,13,14,15,16,17,18,19] [] ?_
    refine .done (.zgb rfl (.sr ?_))
    refine .ret ?_
    refine⟨_,_,zz2,zz2,?_⟩
    exact⟨false,hno i hf,rfl⟩
   first|cases c28|cases bnt c28|cases bnf c28|try rw[c28]
   try simp at c28
   refine .rn [7,8,9] _ ?_
   refine .split (t:=31) rfl (fun c31=>?_) (fun c31=>?_)
   ·first|cases c31|cases bnt c31|cases bnf c31|try rw[c31]
    try simp at c31
    have hw3:IntKind.i64.wrap ((i:Int) - 1)=((i - 1:Nat):Int):=by rw[wrap64 (by omega) (by omega)];omega
    have hi1:i - 1<l.length:=by omega
    have hmx:(if 0<i - 1 then ((i - 1:Nat):Int) else 0)=((i - 1:Nat):Int):=by split<;>omega
    obtain⟨v,hv⟩:∃v,l[i - 1]=v:=⟨_,rfl⟩
    refine .rn [10,11,12,13,14,15,16,17,18,19] [] ?_
    refine .done ?_
    refine .cs ?_ ?_<;>intro c41
    ·try simp at c41
     have hf:¬zly R S l i:=fun h=>by have:=(hn1.1 h).2.1 (by simpa using c31);rw[hv] at this;first|omega|(simp at c41;omega)
     refine .sr ?_
     refine .ret ?_
     refine⟨_,_,zz2,zz2,?_⟩
     exact⟨false,hno i hf,rfl⟩
    try simp at c41
    refine .skip ?_
    exact⟨(),⟨by first|omega|(simp at c28;omega),fun _=>by rw[hv];first|omega|(simp at c41;omega)⟩,(.mk [] [] zz8 zz9 rfl rfl rfl)⟩
   first|cases c31|cases bnt c31|cases bnf c31|try rw[c31]
   try simp at c31
   refine .rn [10,11,12,13,14,15,16,17,18,19] [] ?_
   refine .done (.zjd rfl (.skip ?_))
   exact⟨(),⟨by first|omega|(simp at c28;omega),fun h=>by first|omega|(simp at c31;omega)⟩,(.mk [] [] zz8 zz9 rfl rfl rfl)⟩
  skip
  rintro _ ⟨h1,h2⟩
  simp only
  obtain⟨s,hs,hsl,hsE⟩:=hat n h1.1 h1.2
  subst hs
  have hn2:zly R S l i↔aloB R S l s=false:=⟨fun h=>(hn1.1 h).2.2,fun h=>hn1.2 ⟨h1,h2,h⟩⟩
  clear hn1 h80
  refine .sr ?_
  refine .seq (.sr ?_)
  refine .block ?_
  refine .zb5 (fun k:Nat=>([(2,ints l),(3,.vp [ints R.ps,.int .i64 R.sc,turns R.ts]),(4,.vp [.vec (S.hs.map zah),.vec (S.ws.map wQ),.int .i64 S.dy]),(7,.int .i64 i),(8,.int .i64 s),(9,.bool (anW S s k)),(10,.int .i64 k)],⟨0,[]⟩)) (fun k=>k≤R.ps.length∧anB R S l s k=false) (fun k=>R.ps.length - k) 0 ⟨by simp,rfl⟩ (.mk [] [] zz8 zz9 rfl rfl rfl) ?_
  rintro k ⟨hk,hb0⟩
  simp only at hk hb0 ⊢
  refine .seq (.sr ?_)
  refine .cs ?_ ?_<;>intro c46
  ·try simp at c46
   have hw3:=wr1 k
   have hkw:k<S.ws.length:=by omega
   obtain⟨L,hL⟩:∃L,S.ws[k]=L:=⟨_,rfl⟩
   have hLn:=hln k hkw
   rw[hL] at hLn
   have hw1:w1 S s k=decide ((s:Int)∈L):=by unfold w1;rw[List.getElem?_eq_getElem hkw,hL];rfl
   have h92:=p92 S R.ps[k] hh
   have hbd:bad1 R S l s k=(decide ((s:Int)∈L)&&!decide (hld S R.ps[k]∈l)):=by unfold bad1;rw[hw1,List.getElem?_eq_getElem c46];rfl
   obtain⟨q,hq⟩:∃q,hld S R.ps[k]=q:=⟨_,rfl⟩
   rw[hq] at h92 hbd
   have h107:=zn5 L s hLn
   have h107b:=p107 l q hll
   obtain⟨b1,hb1⟩:∃b,decide ((s:Int)∈L)=b:=⟨_,rfl⟩
   obtain⟨b2,hb2⟩:∃b,decide (q∈l)=b:=⟨_,rfl⟩
   obtain⟨b3,hb3⟩:∃b,anW S s k=b:=⟨_,rfl⟩
   rw[hb1] at hw1 hbd h107
   rw[hb2] at hbd h107b
   rw[hb3]
   have hA:anW S s (k+1)=(b3||b1):=by rw[zuo,hb3,hw1]
   have hB:anB R S l s (k+1)=(b1&&!b2):=by rw[ztf,hb0,hbd,Bool.false_or]
   have hfull:(b1&&!b2)=true→aloB R S l s=true:=fun h=>by
    rw[zqf,Bool.or_eq_true]
    exact .inl (zyi c46 (by rw[hbd];exact h))
   clear hwl hhl hln hb1 hb2 hb3 hbd hw1 hat
   refine .skip (.seq (.block (.seq ?_)))
   refine .zac [0,1,2,3,4,5,6,7] rfl zz0 ?_
   refine .rn [0,1,2,3,4,5] _ ?_
   refine .pc rfl rfl rfl rfl rfl call107 (h107) ?_
   refine .rn [7] [] ?_
   refine .done (.seq (.seq ?_))
   refine .drawn (ms:=[0,1,3,3,3,19,3,115,243,507,1023,2047,4095]) (W:=[9,10]) (items:=[.op 0,.op 1,.op 2,.op 3,.op 4,.op 5,.op 6,.op 7,.op 8,.op 9,.op 10,.op 11,.op 12]) rfl zz0 zz0 zz0 ?_
   iterate 2 refine .rx ?_
   refine .split (t:=57) rfl (fun c57=>?_) (fun c57=>?_)
   ·first|cases c57|cases bnt c57|cases bnf c57|try rw[c57]
    try simp at c57
    iterate 7 refine .rx ?_
    refine .wp rfl rfl rfl rfl rfl call92 (h92) ?_
    refine .wp rfl rfl rfl rfl rfl call107 (h107b) ?_
    iterate 2 refine .rx ?_
    refine .done ?_
    refine .cs ?_ ?_<;>intro c68
    ·try simp at c68
     have hf:¬zly R S l i:=fun h=>by have:=hn2.1 h;rw[hfull (by simp_all)] at this;cases this
     refine .sr ?_
     refine .ret ?_
     refine⟨_,_,zz2,zz2,?_⟩
     exact⟨false,hno i hf,rfl⟩
    try simp at c68
    refine .skip ?_
    refine .zac [0,1,2,3,4] rfl zz0 ?_
    refine .rn [0,1] _ ?_
    refine .split (t:=70) rfl (fun c70=>?_) (fun c70=>?_)
    ·first|cases c70|cases bnt c70|cases bnf c70|try rw[c70]
     try simp at c70
     refine .rn [2,3,4] [] ?_
     refine .done (.rn ?_)
     refine⟨k+1,⟨zz3,by rw[hB];simp_all⟩,zz3,by rw[hA];exact(.mk [] [] zz8 zz9 rfl rfl rfl)⟩
    first|cases c70|cases bnt c70|cases bnf c70|try rw[c70]
    try simp at c70
    refine .rn [2,3,4] [] ?_
    refine .done (.rn ?_)
    refine⟨k+1,⟨zz3,by rw[hB];simp_all⟩,zz3,by rw[hA];exact(.mk [] [] zz8 zz9 rfl rfl rfl)⟩
   first|cases c57|cases bnt c57|cases bnf c57|try rw[c57]
   try simp at c57
   iterate 10 refine .ux ?_
   refine .rx ?_
   refine .done (.zjd rfl (.skip ?_))
   refine .zac [0,1,2,3,4] rfl zz0 ?_
   refine .rn [0,1] _ ?_
   refine .split (t:=70) rfl (fun c70=>?_) (fun c70=>?_)
   ·first|cases c70|cases bnt c70|cases bnf c70|try rw[c70]
    try simp at c70
    refine .rn [2,3,4] [] ?_
    refine .done (.rn ?_)
    refine⟨k+1,⟨zz3,by rw[hB];simp_all⟩,zz3,by rw[hA];exact(.mk [] [] zz8 zz9 rfl rfl rfl)⟩
   first|cases c70|cases bnt c70|cases bnf c70|try rw[c70]
   try simp at c70
   refine .rn [2,3,4] [] ?_
   refine .done (.rn ?_)
   refine⟨k+1,⟨zz3,by rw[hB];simp_all⟩,zz3,by rw[hA];exact(.mk [] [] zz8 zz9 rfl rfl rfl)⟩
  try simp at c46
  have hk2:k=R.ps.length:=by omega
  obtain⟨u,hu⟩:∃u,S.hs[s]=u:=⟨_,rfl⟩
  have hsh:sHe S (s:Int)=u:=by unfold sHe;rw[Int.toNat_natCast,List.getElem?_eq_getElem hsl,hu];rfl
  have hal:aloB R S l s=((u.p==0)||!anW S s R.ps.length):=by rw[zqf,← hk2,hb0,hsh];rfl
  rw[hal,← hk2] at hn2
  obtain⟨b3,hb3⟩:∃b,anW S s k=b:=⟨_,rfl⟩
  obtain⟨b4,hb4⟩:∃b,(u.p==0)=b:=⟨_,rfl⟩
  rw[hb3,hb4] at hn2
  rw[hb3]
  clear hwl hhl hln hat hsE hsh
  refine .exit (.seq ?_)
  refine .zac [0,1,2,3,4,5,6,7,8,9,10] rfl zz0 ?_
  refine .rn [0,1,2,3,4,5,6,7] _ ?_
  refine .split (t:=80) rfl (fun c80=>?_) (fun c80=>?_)
  ·first|cases c80|cases bnt c80|cases bnf c80|try rw[c80]
   try simp at c80
   have hf:¬zly R S l i:=fun h=>by have:=hn2.1 h;simp at this
   refine .rn [8,9,10] [] ?_
   refine .done (.zgb rfl (.sr ?_))
   refine .ret ?_
   refine⟨_,_,zz2,zz2,?_⟩
   exact⟨false,hno i hf,rfl⟩
  first|cases c80|cases bnt c80|cases bnf c80|try rw[c80]
  try simp at c80
  refine .rn [8,9,10] [] ?_
  refine .done ?_
  refine .cs ?_ ?_<;>intro c83
  ·try simp at c83
   have hf:¬zly R S l i:=fun h=>by have:=hn2.1 h;simp_all
   refine .sr ?_
   refine .ret ?_
   refine⟨_,_,zz2,zz2,?_⟩
   exact⟨false,hno i hf,rfl⟩
  try simp at c83
  refine .skip (.rn ?_)
  refine⟨i+1,⟨zz3,fun j hj=>by
   by_cases hji:j=i
   ·subst hji;exact hn2.2 (by simp_all)
   exact he j (by omega)⟩,zz3,(.mk [] [] zz8 zz9 rfl rfl rfl)⟩
 try simp at c15
 refine .exit (.sr ?_)
 refine .ret ?_
 refine⟨_,_,zz2,zz2,?_⟩
 refine⟨decide (0<l.length),?_,by simp⟩
 have hil:i=l.length:=by omega
 rw[decide_eq_true_eq,List.length_pos_iff]
 exact⟨fun h=>⟨h,fun j=>by
  by_cases hj:j<i
  ·exact he j hj
  exact fun h=>absurd h (by omega)⟩,fun h=>h.1⟩
theorem p60 (R:Reg)(day:Int)(L:List Int)(hl1:R.ps.length<4294967296)(hl2:R.ts.length<4294967296)(hL:L.length<4294967296):zao prog 60 [encR R,.int .i64 day,ints L] fun r=>r=.int .i64 (stkE R day L):=by
 have h88:=p88 R 0 day hl1 hl2
 rw[ztq R day] at h88
 unfold encR
 refine .zag func60 rfl rfl ?_
 refine .sr ?_
 refine .seq ?_
 refine .zac [0,1,2,3] rfl zz0 ?_
 refine .rn [0,1] _ ?_
 refine .pc rfl rfl rfl rfl rfl call88 (h88) ?_
 refine .rn [3] [] ?_
 refine .done (.seq (.sr ?_))
 refine .cs ?_ ?_<;>intro c13
 ·try simp at c13
  refine .sr ?_
  refine .ret ?_
  refine⟨_,_,zz2,zz2,?_⟩
  unfold stkE;rw[if_neg c13]
 try simp at c13
 have h0:onE R day=0:=c13
 have hc:=zl9 c13
 have hS:=zmc hc day
 have hR:=zn2 hc
 obtain⟨m,hB⟩:=zig hc day
 have hes:=z0w hB hR (l:=L)
 have h130:=p130 R (rbeh R day) 120 L hR hS (by omega) hL
 refine .skip (.seq ?_)
 refine .drawn (ms:=[0,0,0,6,0,31,63]) (W:=[3,5]) (items:=[.op 0,.op 1,.op 2,.op 4,.op 3,.ck 0,.op 5,.op 6]) rfl zz0 zz0 zz0 ?_
 iterate 4 refine .rx ?_
 refine .wp rfl rfl rfl rfl rfl call89 (p89 R day hl1 hl2 hc) ?_
 refine .ck rfl zz0 ?_
 refine .wr rfl rfl (by decide) (.pure rfl rfl rfl call130 (by decide) (h130) (by first|rfl|simp[*]) ?_)
 rintro _ ⟨b,hb,rfl⟩
 rw[hes] at hb
 refine .rx ?_
 refine .done (.seq (.sr ?_))
 refine .cs ?_ ?_<;>intro c22
 ·try simp at c22
  refine .sr ?_
  refine .ret ?_
  refine⟨_,_,zz2,zz2,?_⟩
  rw[z1u h0 (fun h=>by rw[hb.2 h] at c22;simp at c22)]
 try simp at c22
 refine .skip (.sr ?_)
 refine .ret ?_
 refine⟨_,_,zz2,zz2,?_⟩
 rw[z1d h0 (hb.1 (by simpa using c22))]
theorem p54s (R:Reg)(day:Int)(hl1:R.ps.length<4294967296)(hl2:R.ts.length<4294967296):zao prog 54 [encR R,.int .i64 day] fun r=>r=.tup [.vec ((zgq R day).map encA),.int .i64 (onE R day)]:=by
 by_cases h:onE R day=0
 ·have h1:=p54 R day hl1 hl2 h
  have:zgq R day=zdd (behD R day) R.ps:=by unfold zgq;rw[if_pos h]
  rw[this,h];exact h1
 have:zgq R day=[]:=by unfold zgq;rw[if_neg h]
 rw[this]
 exact(p54x R day hl1 hl2 h).alt fun r hr=>⟨_,by subst hr;exact .tup' (.cons .sl0v (.cons (.same _ rfl) .nil)),by simp[PV.isF,PV.allF],rfl⟩
theorem p55s (R:Reg)(day:Int)(hl1:R.ps.length<4294967296)(hl2:R.ts.length<4294967296):zao prog 55 [encR R,.int .i64 day] fun r=>r=.agg [.vec ((zgq R day).map encA),.int .i64 (onE R day)]:=
 (p55 R day hl1 hl2).alt fun r hr=>⟨_,by
  subst hr
  by_cases h:onE R day=0
  ·rw[if_pos h];exact .same _ (by simp[PV.isF,PV.allF])
  have:zgq R day=[]:=by unfold zgq;rw[if_neg h]
  rw[if_neg h,this];exact .agg' (.cons .sl0v (.cons (.same _ rfl) .nil)),by simp[PV.isF,PV.allF],rfl⟩
theorem p56s (R:Reg)(day:Int)(hl1:R.ps.length<4294967296)(hl2:R.ts.length<4294967296):zao prog 56 [encR R,.int .i64 day] fun r=>∃L,zjb R day L∧r=.tup [ints L,.int .i64 (onE R day)]:=by
 by_cases h:onE R day=0
 ·exact(p56 R day hl1 hl2 h).alt fun r ⟨L,h1,h2⟩=>⟨r,.same _ (by rw[h2];simp[PV.isF,PV.allF,ints]),by rw[h2];simp[PV.isF,PV.allF,ints],L,h1.K h,by rw[h];exact h2⟩
 exact(p56x R day hl1 hl2 h).alt fun r hr=>⟨_,by subst hr;exact .tup' (.cons .sl0v (.cons (.same _ rfl) .nil)),by simp[PV.isF,PV.allF],[],.nil h,rfl⟩
theorem p57s (R:Reg)(day:Int)(hl1:R.ps.length<4294967296)(hl2:R.ts.length<4294967296):zao prog 57 [encR R,.int .i64 day] fun r=>∃L,zjb R day L∧r=.agg [ints L,.int .i64 (onE R day)]:=
 (p57 R day hl1 hl2).alt fun r ⟨l,h1,h2⟩=>⟨.agg [ints l,.int .i64 (onE R day)],by subst h2;exact .agg' (.cons (z3q l) (.cons (.same _ rfl) .nil)),by simp[PV.isF,PV.allF,ints],l,h1,rfl⟩
theorem zww {R:Reg}(day:Int):(zob R day).length<4294967296:=by
 rw[ztc,zkj]
 exact Nat.lt_of_le_of_lt (List.length_filter_le _ _) (zre day)
theorem zvm {R:Reg}(day:Int)(h:R.ps.length<4294967296):(zgq R day).length<4294967296:=by
 unfold zgq
 split
 ·exact Nat.lt_of_le_of_lt (zk2 _ _) h
 simp
theorem p10w (hs:zao prog 15 [] fun r=>r=.bool true)(R:Reg)(day:Int)(L0:List Int)(hl1:R.ps.length<4611686018427387904)(hl2:R.ts.length<4611686018427387904)(h0l:L0.length<4611686018427387904):zao prog 10 [encR R,.int .i64 day,ints L0] fun r=>r=.bool true:=by
 refine .zag func10 rfl rfl ?_
 refine .sr ?_
 refine .seq (.seq ?_)
 refine .rec (vts2:=[(1,.int .i64 day),(2,ints L0),(3,.ptr 0 0),(6,.bool false)]) (vh2:=⟨1,[(0,.box [ints R.ps,.int .i64 R.sc,turns R.ts])]⟩) (.mk [] [] zz8 zz9 rfl rfl rfl) ?_
 refine .zac [0,1,2,3,4,5,6,7] rfl zz0 ?_
 refine .rn [0] _ ?_
 refine .pc rfl rfl rfl rfl rfl call14 (p14 R hl1 hl2) ?_
 obtain⟨fw,hfw⟩:∃x,fewB R=x:=⟨_,rfl⟩
 rw[hfw]
 refine .rn [2,3] _ ?_
 refine .split (t:=20) rfl (fun c20=>?_) (fun c20=>?_)
 ·first|cases c20|cases bnt c20|cases bnf c20|try rw[c20]
  try simp at c20
  refine .rn [4,5,6,7] [] ?_
  refine .done (.zgb rfl (.seq ?_))
  refine .zac [0,1] rfl zz0 ?_
  refine .pc rfl rfl rfl rfl rfl call15 (hs) ?_
  refine .rn [1] [] ?_
  refine .done (.ret ?_)
  refine⟨_,_,zz2,zz2,?_⟩
  first|rfl|(simp[*];done)|(simp_all;done)
 first|cases c20|cases bnt c20|cases bnf c20|try rw[c20]
 try simp at c20
 refine .rn [4,5,6,7] [] ?_
 refine .done ?_
 refine .cs ?_ ?_<;>intro c24
 ·try simp at c24
  refine .seq ?_
  refine .zac [0,1] rfl zz0 ?_
  refine .pc rfl rfl rfl rfl rfl call15 (hs) ?_
  refine .rn [1] [] ?_
  refine .done (.ret ?_)
  refine⟨_,_,zz2,zz2,?_⟩
  first|rfl|(simp[*];done)|(simp_all;done)
 try simp at c24
 have hq:R.ps.length<4294967296∧R.ts.length<4294967296∧L0.length<4294967296:=by
  have h1:fewB R=true:=by simp_all
  simp[fewB] at h1
  omega
 obtain⟨hq1,hq2,hq3⟩:=hq
 have h52:=p52 R day hq1 hq2
 have h53:=p53 R day hq1 hq2
 have h54:=p54s R day hq1 hq2
 have h55:=p55s R day hq1 hq2
 have h56:=p56s R day hq1 hq2
 have h57:=p57s R day hq1 hq2
 have h59:=p59 R day L0 hq1 hq2 hq3
 have h60:=p60 R day L0 hq1 hq2 hq3
 have h59b:=fun (L:List Int) (h:zjb R day L)=>p59 R day L hq1 hq2 h.len
 have h60b:=fun (L:List Int) (h:zjb R day L)=>p60 R day L hq1 hq2 h.len
 have g1:=zww (R:=R) day
 have g2:=zvm day hq1
 have g3:=fun (L:List Int) (h:zjb R day L)=>h.len
 obtain⟨H,hH⟩:∃x,zob R day=x:=⟨_,rfl⟩
 obtain⟨Z,hZ⟩:∃x,zgq R day=x:=⟨_,rfl⟩
 obtain⟨e,he⟩:∃x,onE R day=x:=⟨_,rfl⟩
 obtain⟨z,hz⟩:∃x,stkE R day L0=x:=⟨_,rfl⟩
 rw[hH,he] at h52 h53
 rw[hZ,he] at h54 h55
 rw[he] at h56 h57
 rw[hz] at h59 h60
 rw[hH] at g1
 rw[hZ] at g2
 clear hH hZ he hz hfw
 refine .skip (.seq ?_)
 refine .zac [0,1,2,3,4,5,6,7] rfl zz0 ?_
 refine .rn [0,1] _ ?_
 refine .pc rfl rfl rfl rfl rfl call52 (h52) ?_
 refine .rn [3,4,5,6,7] [] ?_
 refine .done (.seq ?_)
 refine .zac [0,1,2,3,4] rfl zz0 ?_
 refine .rn [0,1] _ ?_
 refine .pc rfl rfl rfl rfl rfl call53 (h53) ?_
 refine .rn [3,4] [] ?_
 refine .done (.seq ?_)
 refine .zac [0,1,2,3,4,5,6,7] rfl zz0 ?_
 refine .rn [0,1] _ ?_
 refine .pc rfl rfl rfl rfl rfl call54 (h54) ?_
 refine .rn [3,4,5,6,7] [] ?_
 refine .done (.seq ?_)
 refine .zac [0,1,2,3,4] rfl zz0 ?_
 refine .rn [0,1] _ ?_
 refine .pc rfl rfl rfl rfl rfl call55 (h55) ?_
 refine .rn [3,4] [] ?_
 refine .done (.seq ?_)
 refine .zac [0,1,2,3,4,5,6,7] rfl zz0 ?_
 refine .rn [0,1] _ ?_
 refine .step rfl rfl (.pure rfl rfl rfl call56 (by decide) (h56) (by first|rfl|simp[*]) ?_)
 rintro _ ⟨L,hL,rfl⟩
 refine .rn [3,4,5,6,7] [] ?_
 refine .done (.seq ?_)
 refine .zac [0,1,2,3,4] rfl zz0 ?_
 refine .rn [0,1] _ ?_
 refine .step rfl rfl (.pure rfl rfl rfl call57 (by decide) (h57) (by first|rfl|simp[*]) ?_)
 rintro _ ⟨l,hl,rfl⟩
 obtain rfl:=hl.uniq hL
 have k59:=h59b l hL
 have k60:=h60b l hL
 have k3:=g3 l hL
 obtain⟨z2,hz2⟩:∃x,stkE R day l=x:=⟨_,rfl⟩
 rw[hz2] at k59 k60
 clear h59b h60b g3 hz2
 refine .rn [3,4] [] ?_
 refine .done (.seq ?_)
 refine .zac [0,1,2,3,4,5,6,7,8,9,10,11,12,13,14,15,16,17,18,19,20,21,22] rfl zz0 ?_
 refine .rn [0,1,2] _ ?_
 refine .pc rfl rfl rfl rfl rfl call26 (p26 H g1) ?_
 refine .rn [4] _ ?_
 refine .split (t:=57) rfl (fun c57=>?_) (fun c57=>?_)
 ·first|cases c57|cases bnt c57|cases bnf c57|try rw[c57]
  try simp at c57
  refine .rn [5,6,7,8,9,10] _ ?_
  refine .split (t:=63) rfl (fun c63=>?_) (fun c63=>?_)
  ·first|cases c63|cases bnt c63|cases bnf c63|try rw[c63]
   try simp at c63
   refine .rn [11,12,13] _ ?_
   refine .pc rfl rfl rfl rfl rfl call58 (p58 Z g2) ?_
   refine .rn [15,16] _ ?_
   refine .split (t:=69) rfl (fun c69=>?_) (fun c69=>?_)
   ·first|cases c69|cases bnt c69|cases bnf c69|try rw[c69]
    try simp at c69
    refine .rn [17,18,19,20,21,22] [] ?_
    refine .done (.seq ?_)
    refine .drawn (ms:=[0,1,3,7,15,31,31,95,255,511,1023,2047,2047,6143,16383,32767,65535,131071,131071,131071,1048575,131071,131071,131071,16777215,33554431,67108863,134217727,268435455,268435455,268435455,1342177279,4294967295,268435455,268435455,268435455,34628173823,137438953471,274877906943,549755813887,1099511627775]) (W:=[0,8,20,24,32,37]) (items:=[.op 0,.op 1,.op 2,.op 3,.op 4,.op 5,.op 6,.op 7,.op 8,.op 9,.op 10,.op 11,.op 12,.op 13,.op 14,.op 15,.op 16,.op 17,.op 18,.op 19,.op 21,.op 22,.op 23,.op 20,.ck 21,.op 24,.op 25,.op 26,.op 27,.op 28,.op 29,.op 30,.op 31,.op 33,.op 34,.op 35,.op 36,.op 32,.ck 36,.ck 33,.op 37,.op 38,.op 39,.op 40]) rfl zz0 zz0 zz0 ?_
    refine .wp rfl rfl rfl rfl rfl call15 (hs) ?_
    refine .rx ?_
    refine .split (t:=76) rfl (fun c76=>?_) (fun c76=>?_)
    ·first|cases c76|cases bnt c76|cases bnf c76|try rw[c76]
     try simp at c76
     iterate 3 refine .rx ?_
     refine .split (t:=79) rfl (fun c79=>?_) (fun c79=>?_)
     ·first|cases c79|cases bnt c79|cases bnf c79|try rw[c79]
      try simp at c79
      iterate 3 refine .rx ?_
      refine .wp rfl rfl rfl rfl rfl call27 (p27 l l k3 k3) ?_
      iterate 2 refine .rx ?_
      refine .split (t:=85) rfl (fun c85=>?_) (fun c85=>?_)
      ·first|cases c85|cases bnt c85|cases bnf c85|try rw[c85]
       try simp at c85
       iterate 6 refine .rx ?_
       refine .split (t:=91) rfl (fun c91=>?_) (fun c91=>?_)
       ·first|cases c91|cases bnt c91|cases bnf c91|try rw[c91]
        try simp at c91
        iterate 6 refine .rx ?_
        refine .wp rfl rfl rfl rfl rfl call59 (h59) ?_
        refine .ck rfl zz0 ?_
        refine .wp rfl rfl rfl rfl rfl call60 (h60) ?_
        iterate 3 refine .rx ?_
        refine .split (t:=102) rfl (fun c102=>?_) (fun c102=>?_)
        ·first|cases c102|cases bnt c102|cases bnf c102|try rw[c102]
         try simp at c102
         iterate 8 refine .rx ?_
         refine .wp rfl rfl rfl rfl rfl call59 (k59) ?_
         refine .ck rfl zz0 ?_
         refine .ck rfl zz0 ?_
         refine .wp rfl rfl rfl rfl rfl call60 (k60) ?_
         iterate 3 refine .rx ?_
         refine .done (.ret ?_)
         refine⟨_,_,zz2,zz2,?_⟩
         first|rfl|(simp[*];done)|(simp_all;done)
        first|cases c102|cases bnt c102|cases bnf c102|try rw[c102]
        try simp at c102
       first|cases c91|cases bnt c91|cases bnf c91|try rw[c91]
       try simp at c91
      first|cases c85|cases bnt c85|cases bnf c85|try rw[c85]
      try simp at c85
     first|cases c79|cases bnt c79|cases bnf c79|try rw[c79]
     try simp at c79
    first|cases c76|cases bnt c76|cases bnf c76|try rw[c76]
    try simp at c76
   first|cases c69|cases bnt c69|cases bnf c69|try rw[c69]
   try simp at c69
  first|cases c63|cases bnt c63|cases bnf c63|try rw[c63]
  try simp at c63
 first|cases c57|cases bnt c57|cases bnf c57|try rw[c57]
 try simp at c57
theorem p10 (R:Reg)(day:Int)(L0:List Int)(hR:R.ps.length<inex∧R.ts.length<inex)(h0:L0.length<inex):zao prog 10 [encR R,.int .i64 day,ints L0] fun r=>r=.bool true:=p10w p15 R day L0 hR.1 hR.2 h0
end Go.Am.Hi
end
