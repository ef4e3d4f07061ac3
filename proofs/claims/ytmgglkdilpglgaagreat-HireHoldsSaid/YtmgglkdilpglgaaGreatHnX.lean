/-
 What is used in the proof of a statement (part HnX); no condition.
-/
import Derived.Test.YtmgglkdilpglgaaGreatHiZ
import Derived.Test.YtmgglkdilpglgaaGreatVm2
import Derived.Test.YtmgglkdilpglgaaGreatHiT
import Derived.Test.YtmgglkdilpglgaaGreatHnW
import Derived.Test.YtmgglkdilpglgaaGreatHiS
set_option linter.all false
set_option maxHeartbeats 40000000
set_option maxRecDepth 100000
section
namespace Go.Am.Hi
open Go Go.Am Go.Proofs
attribute [local simp] vrun vwanted vyielded vop vopA vputAll VHeap.back hidI hidF backL bm Nat.testBit_eq_decide_div_mod_eq veval vevals vparts vO vbuiltin vlen vappend velems vcopy vmakeSlice vbuildSlice valloc vbox vmakeMap vload vpartT vpart vstore vfieldAddr vfield vindexAddr vindex vextract vslice vsliceZ vbounds vbnd zeroO vidx vlookup vmget vmapUpdate vdelete vclear vnilq vnilp vnils vbin vsc vsc1 vscs vscl abinOp aint ashift aunOp aconvert amaxs amax2 pvcV pvc pvcs tput tget vargs VHeap.get VHeap.alloc VHeap.put VHeap.drop VHeap.empty vlook vput vdrop psplice pfill preps chunk List.range List.range.loop vresults vresult vresultV frz frzL PV.isF PV.allF PV.scal PV.allS retP subT allFT PV.one PV.ids PV.idsL dropL beq_eq ble_dec blt_dec
attribute [local simp] pfind_mpG pmset_mpG pkeep_mpG
attribute [local simp ↓ high] all_wQ vlen_wQ
theorem p84h (R:Reg) (S:Rst) (t:Tu) (n:Nat) (hR:RO R) (hS:SIv R S n) (hn:n<1000) (hf:FormP R t) (hk:t.k=2):VPure Tryz.prog 84 [encR R,encS S,encT t] fun r=>r=.tup [encS (stepR R S t).1,.bool (stepR R S t).2]:=by
 have hp:t.p∈R.ps:=by rcases hf.2.2.2.2 with⟨_,h,_⟩|⟨_,h,_⟩|⟨h,_⟩<;>first|exact h|omega
 obtain⟨i,L,hi,hiw,hL,hsL,hLn⟩:=at_p hS hp
 have hL2:S.ws[i]=L:=(List.getElem?_eq_some_iff.1 hL).2
 obtain⟨s,hs,hsl,hsE⟩:=at_s hS hf.2.2.1 hf.2.2.2.1
 obtain⟨u,hu⟩:∃u,sHe S t.s=u:=⟨_,rfl⟩
 rw[hu] at hsE
 have hsE2:S.hs[s]=u:=(List.getElem?_eq_some_iff.1 hsE).2
 have hpl:=hR.pl
 have h24:R.ps.length<4294967296:=by omega
 have hwl:=hS.wl
 have hhl:=hS.hl
 have hsc:=hR.s2
 have hsc1:=hR.s1
 have hh:S.hs.length<4294967296:=by omega
 have hw:S.ws.length<4294967296:=by omega
 have hh0:0<S.hs.length:=by omega
 have hl:∀l∈S.ws,l.length<4294967296:=fun l h=>by have:=hS.ln l h;omega
 have hw0:0<S.ws.length:=by omega
 have hLl:L.length<4294967296:=by omega
 have hi1:i+1≤S.ws.length:=hiw
 have hspl:=wQ_spl hiw (outS L s)
 obtain⟨ws2,hws2⟩:∃ws2,S.ws.set i (outS L s)=ws2:=⟨_,rfl⟩
 have htk:List.take S.ws.length (List.map wQ ws2)=List.map wQ ws2:=by rw[List.take_of_length_le];rw[← hws2];simp
 have hle2:S.ws.length≤ws2.length:=by rw[← hws2];simp
 have hne:¬S.ws=[]:=fun h=>by rw[h] at hw0;exact absurd hw0 (by decide)
 rw[hws2] at hspl
 have hs4:s*4+4≤S.hs.length*4:=by omega
 have hs5:s*4+1≤S.hs.length*4:=by omega
 have hs6:s*4≤S.hs.length*4:=by omega
 have hat:=heC_at hsl
 rw[hsE2] at hat
 have hat2:=(List.getElem?_eq_some_iff.1 hat).2
 have hpart:=heC_part hsl
 rw[hsE2] at hpart
 have hset:=heC_spl hsl (⟨t.p,s,t.d,t.d+7*t.w⟩)
 obtain⟨hs2,hhs2⟩:∃hs2,S.hs.set s (⟨t.p,s,t.d,t.d+7*t.w⟩)=hs2:=⟨_,rfl⟩
 rw[hhs2] at hset
 have hl2:hs2.length=S.hs.length:=by rw[← hhs2];simp
 have hch:=heC_chunk hs2
 rw[hl2] at hch
 unfold chunk at hch
 rw[cond_true] at hch
 unfold List.range at hch
 have hle3:S.hs.length*4≤hs2.length*4:=by omega
 have hhne:¬S.hs=[]:=fun h=>by rw[h] at hh0;exact absurd hh0 (by decide)
 obtain⟨hd1,hd2,_,_,hd3⟩:=hf
 obtain⟨hw1,hw2⟩:1≤t.w∧t.w≤40:=by rcases hd3 with⟨h|h|h,_⟩|⟨_,_,h,h',_⟩|⟨h,_⟩<;>first|omega|exact⟨h,h'⟩
 have hv1:IntKind.i64.wrap (7*t.w)=7*t.w:=wrap64 (by omega) (by omega)
 have hv2:IntKind.i64.wrap (t.d+7*t.w)=t.d+7*t.w:=wrap64 (by omega) (by omega)
 have h92:VPure Tryz.prog 92 [.agg [.vec (S.hs.map encHe),.vec (S.ws.map wQ),.int .i64 t.d],.int .i64 t.p] fun r=>r=.int .i64 (hld S t.p):=p92 ⟨S.hs,S.ws,t.d⟩ t.p hh
 rw[stepR2 hk hi hsL hs hu,hws2,hhs2]
 obtain⟨q,hq⟩:∃q,hld S t.p=q:=⟨_,rfl⟩
 rw[hq] at h92 ⊢
 obtain⟨b1,hb1⟩:∃b,decide (q<0)=b:=⟨_,rfl⟩
 obtain⟨b2,hb2⟩:∃b,(u.p==0)=b:=⟨_,rfl⟩
 rw[show decide (u.p=0)=(u.p==0) from rfl,hb1,hb2]
 have hch0:=heC_chunk S.hs
 unfold chunk at hch0
 rw[cond_true] at hch0
 unfold List.range at hch0
 have hwk:List.take S.ws.length (List.map wQ S.ws)=List.map wQ S.ws:=by rw[List.take_of_length_le];simp
 have hcop:=p138Z S hh hw hl
 clear hwl hhl hl2
 unfold encR encT
 refine .of_body Tryz.func84 rfl rfl ?_
 rcases L with _|⟨b,r⟩
 ·
  refine .seq (.rn ?_)
  refine .seq ?_
  refine .regionL [0,1,2,3] rfl zz0 ?_
  refine .rn [0] [1,2,3] ?_
  refine .step rfl rfl (.call rfl rfl rfl Tryz.call138 (by decide) (((hcop _ _ _ _)).mono ?_))
  rintro _ _ ⟨rfl,rfl⟩
  refine .rn [2,3] [] ?_
  refine .done (.seq (.seq ?_))
  refine .rec (vts2:=[(3,.ptr 0 0),(4,.ptr 1 0),(5,.ptr 2 0),(6,.ptr 3 0),(7,.bool false),(8,.ptr 9 0)]) (vh2:=⟨10,[(9,.box [.sub 7 0 S.hs.length,.sub 8 0 S.ws.length,.int .i64 S.dy]),(8,.arr false 1 (S.ws.map wQ)),(7,.arr true 4 (heC S.hs)),(3,.box [.sl0,.sl0,.int .i64 0]),(2,.box [.int .i64 2,.int .i64 t.d,.int .i64 s,.int .i64 t.p,.int .i64 t.w,.int .i64 t.o]),(1,.box [.vec (S.hs.map encHe),.vec (S.ws.map wQ),.int .i64 S.dy]),(0,.box [ints R.ps,.int .i64 R.sc,turns R.ts])]⟩) (.mk [] [] zz18 zz19 rfl rfl rfl) ?_
  refine .rn ?_
  refine .condS rfl (fun c19=>?_) (fun c19=>?_)
  ·try simp at c19
   refine .seq (.rn ?_)
   refine .ret ?_
   refine⟨_,_,zz2,(by simp[*]<;>rfl),?_⟩
   rw[if_pos c19];rfl
  ·try simp at c19
   refine .skip (.seq (.rn ?_))
   refine .seq (.seq (.rn ?_))
   refine .condS rfl (fun c26=>?_) (fun c26=>?_)
   ·try simp at c26
   ·try simp at c26
    refine .skip (.seq ?_)
    refine .regionL [0,1,2,3,4] rfl zz0 ?_
    refine .rn [0,1,2] [3,4] ?_
    refine .pc rfl rfl rfl rfl rfl Tryz.call81 (p81 R t.p h24) ?_
    refine .rn [4] [] ?_
    refine .done (.seq ?_)
    refine .drawn (ms:=[0,1,0,7,15,0,32,127,255]) (W:=[7]) (items:=[.op 0,.op 1,.op 2,.op 3,.op 4,.op 5,.op 6,.op 7,.op 8]) rfl zz0 zz0 zz0 ?_
    iterate 7 refine .rx ?_
    refine .wp rfl rfl rfl rfl rfl Tryz.call107 (p107w _ s hLl) ?_
    refine .rx ?_
    refine .done (.seq ?_)
    refine .drawn (ms:=[0,1,0,4,15,31,63,0,128,511,1023]) (W:=[]) (items:=[.op 0,.op 1,.op 2,.op 3,.op 4,.op 5,.op 6,.op 7,.op 8,.op 9,.op 10]) rfl zz0 zz0 zz0 ?_
    iterate 11 refine .rx ?_
    refine .done (.seq (.rn ?_))
    refine .seq (.seq (.rn ?_))
    refine .block (.seq (.rn ?_))
    refine .condS rfl (fun c57=>?_) (fun c57=>?_)
    ·try simp at c57
    ·try simp at c57
     refine .seq (.rn ?_)
     refine .condS rfl (fun c78=>?_) (fun c78=>?_)
     ·try simp at c78
     ·try simp at c78
      refine .seq (.rn ?_)
      refine .condS rfl (fun c93=>?_) (fun c93=>?_)
      ·try simp at c93
      ·try simp at c93
       refine .seq (.rn ?_)
       refine .condS rfl (fun c102=>?_) (fun c102=>?_)
       ·try simp at c102
        refine .seq ?_
        refine .drawn (ms:=[0,0,2,7,15,31,63,127,63,319,1023,2047,4095,8191,16383,32767,65535,131071,65535,524287,1048575,2097151,4194303,8388607,16777215,33554431,16777215,134217727,268435455,536870911,1073741823,16777215,2164260863,8589934591,17179869183,34359738367,68719476735]) (W:=[3]) (items:=[.op 0,.op 1,.op 2,.op 3,.op 4,.op 5,.op 6,.op 7,.op 8,.op 9,.op 10,.op 11,.op 12,.op 13,.op 14,.op 15,.op 16,.op 17,.op 18,.op 19,.op 20,.op 21,.op 22,.op 23,.op 24,.op 25,.op 26,.op 27,.op 28,.op 29,.op 30,.op 31,.op 32,.op 33,.op 34,.op 35,.op 36]) rfl zz0 zz0 zz0 ?_
        iterate 3 refine .rx ?_
        refine .wr rfl rfl (by decide) (.borrow rfl rfl rfl Tryz.call92 (by decide) (by first|(simp<;>rfl)|(simp[*]<;>rfl)|(simp[*];done)) (h92) (by rintro _ rfl<;>first|(simp;done)|rfl) ?_)
        rintro _ rfl
        iterate 2 refine .rx ?_
        refine .split (t:=109) rfl (fun c109=>?_) (fun c109=>?_)
        ·first|cases c109|cases bnt c109|cases bnf c109|try rw[c109]
         try simp at c109
         iterate 10 refine .rx ?_
         refine .split (t:=119) rfl (fun c119=>?_) (fun c119=>?_)
         ·first|cases c119|cases bnt c119|cases bnf c119|try rw[c119]
          try simp at c119
          iterate 8 refine .rx ?_
          refine .split (t:=127) rfl (fun c127=>?_) (fun c127=>?_)
          ·first|cases c127|cases bnt c127|cases bnf c127|try rw[c127]
           try simp at c127
           iterate 10 refine .ux ?_
           iterate 3 refine .rx ?_
           refine .done (.seq (.rn ?_))
           refine .drawn (ms:=[0,1,0,0,8,0,56,120,0,256,1016,2047,4095]) (W:=[10,12]) (items:=[.op 0,.op 1,.op 2,.op 3,.op 4,.op 5,.op 6,.op 7,.op 8,.op 9,.op 10,.ck 1,.op 11,.op 12]) rfl zz0 zz0 zz0 ?_
           iterate 10 refine .rx ?_
           refine .wp rfl rfl rfl rfl rfl Tryz.call103 (p103w _ s hLl) ?_
           refine .ck rfl zz0 ?_
           refine .rx ?_
           refine .wv ?_
           refine .done (.seq (.rn ?_))
           refine .ret ?_
           refine⟨_,_,zz2,(by simp[*]<;>rfl),?_⟩
           rw[if_neg (by omega)];simp[encS]<;>simp_all
          ·first|cases c127|cases bnt c127|cases bnf c127|try rw[c127]
           try simp at c127
         ·first|cases c119|cases bnt c119|cases bnf c119|try rw[c119]
          try simp at c119
          iterate 19 refine .ux ?_
          iterate 2 refine .rx ?_
          refine .done (.seq (.rn ?_))
          refine .drawn (ms:=[0,1,0,0,8,0,56,120,0,256,1016,2047,4095]) (W:=[10,12]) (items:=[.op 0,.op 1,.op 2,.op 3,.op 4,.op 5,.op 6,.op 7,.op 8,.op 9,.op 10,.ck 1,.op 11,.op 12]) rfl zz0 zz0 zz0 ?_
          iterate 10 refine .rx ?_
          refine .wp rfl rfl rfl rfl rfl Tryz.call103 (p103w _ s hLl) ?_
          refine .ck rfl zz0 ?_
          refine .rx ?_
          refine .wv ?_
          refine .done (.seq (.rn ?_))
          refine .ret ?_
          refine⟨_,_,zz2,(by simp[*]<;>rfl),?_⟩
          rw[if_neg (by omega)];simp[encS]<;>simp_all
        ·first|cases c109|cases bnt c109|cases bnf c109|try rw[c109]
         try simp at c109
         iterate 8 refine .ux ?_
         iterate 2 refine .rx ?_
         iterate 19 refine .ux ?_
         iterate 2 refine .rx ?_
         refine .done (.seq (.rn ?_))
         refine .drawn (ms:=[0,1,0,0,8,0,56,120,0,256,1016,2047,4095]) (W:=[10,12]) (items:=[.op 0,.op 1,.op 2,.op 3,.op 4,.op 5,.op 6,.op 7,.op 8,.op 9,.op 10,.ck 1,.op 11,.op 12]) rfl zz0 zz0 zz0 ?_
         iterate 10 refine .rx ?_
         refine .wp rfl rfl rfl rfl rfl Tryz.call103 (p103w _ s hLl) ?_
         refine .ck rfl zz0 ?_
         refine .rx ?_
         refine .wv ?_
         refine .done (.seq (.rn ?_))
         refine .ret ?_
         refine⟨_,_,zz2,(by simp[*]<;>rfl),?_⟩
         rw[if_neg (by omega)];simp[encS]<;>simp_all
       ·try simp at c102
 ·
  have hq1:wQ (b::r)=.vec ((b::r).map (.int .i64)):=if_neg (by simp)
  obtain⟨b4,hb4⟩:∃v,(b==(s:Int))=v:=⟨_,rfl⟩
  have hb5:decide (List.head? (b::r)=some (s:Int))=b4:=by rw[List.head?_cons,← hb4];exact decide_eq_decide.2 (by simp)
  rw[hb5]
  refine .seq (.rn ?_)
  refine .seq ?_
  refine .regionL [0,1,2,3] rfl zz0 ?_
  refine .rn [0] [1,2,3] ?_
  refine .step rfl rfl (.call rfl rfl rfl Tryz.call138 (by decide) (((hcop _ _ _ _)).mono ?_))
  rintro _ _ ⟨rfl,rfl⟩
  refine .rn [2,3] [] ?_
  refine .done (.seq (.seq ?_))
  refine .rec (vts2:=[(3,.ptr 0 0),(4,.ptr 1 0),(5,.ptr 2 0),(6,.ptr 3 0),(7,.bool false),(8,.ptr 9 0)]) (vh2:=⟨10,[(9,.box [.sub 7 0 S.hs.length,.sub 8 0 S.ws.length,.int .i64 S.dy]),(8,.arr false 1 (S.ws.map wQ)),(7,.arr true 4 (heC S.hs)),(3,.box [.sl0,.sl0,.int .i64 0]),(2,.box [.int .i64 2,.int .i64 t.d,.int .i64 s,.int .i64 t.p,.int .i64 t.w,.int .i64 t.o]),(1,.box [.vec (S.hs.map encHe),.vec (S.ws.map wQ),.int .i64 S.dy]),(0,.box [ints R.ps,.int .i64 R.sc,turns R.ts])]⟩) (.mk [] [] zz18 zz19 rfl rfl rfl) ?_
  refine .rn ?_
  refine .condS rfl (fun c19=>?_) (fun c19=>?_)
  ·try simp at c19
   refine .seq (.rn ?_)
   refine .ret ?_
   refine⟨_,_,zz2,(by simp[*]<;>rfl),?_⟩
   rw[if_pos c19];rfl
  ·try simp at c19
   refine .skip (.seq (.rn ?_))
   refine .seq (.seq (.rn ?_))
   refine .condS rfl (fun c26=>?_) (fun c26=>?_)
   ·try simp at c26
   ·try simp at c26
    refine .skip (.seq ?_)
    refine .regionL [0,1,2,3,4] rfl zz0 ?_
    refine .rn [0,1,2] [3,4] ?_
    refine .pc rfl rfl rfl rfl rfl Tryz.call81 (p81 R t.p h24) ?_
    refine .rn [4] [] ?_
    refine .done (.seq ?_)
    refine .drawn (ms:=[0,1,0,7,15,0,32,127,255]) (W:=[7]) (items:=[.op 0,.op 1,.op 2,.op 3,.op 4,.op 5,.op 6,.op 7,.op 8]) rfl zz0 zz0 zz0 ?_
    iterate 7 refine .rx ?_
    refine .wp rfl rfl rfl rfl rfl Tryz.call107 (p107w _ s hLl) ?_
    refine .rx ?_
    refine .done (.seq ?_)
    refine .drawn (ms:=[0,1,0,4,15,31,63,0,128,511,1023]) (W:=[]) (items:=[.op 0,.op 1,.op 2,.op 3,.op 4,.op 5,.op 6,.op 7,.op 8,.op 9,.op 10]) rfl zz0 zz0 zz0 ?_
    iterate 11 refine .rx ?_
    refine .done (.seq (.rn ?_))
    refine .seq (.seq (.rn ?_))
    refine .block (.seq (.rn ?_))
    refine .condS rfl (fun c57=>?_) (fun c57=>?_)
    ·try simp at c57
    ·try simp at c57
     refine .seq (.rn ?_)
     refine .condS rfl (fun c78=>?_) (fun c78=>?_)
     ·try simp at c78
     ·try simp at c78
      refine .seq (.rn ?_)
      refine .condS rfl (fun c93=>?_) (fun c93=>?_)
      ·try simp at c93
      ·try simp at c93
       refine .seq (.rn ?_)
       refine .condS rfl (fun c102=>?_) (fun c102=>?_)
       ·try simp at c102
        refine .seq ?_
        refine .drawn (ms:=[0,0,2,7,15,31,63,127,63,319,1023,2047,4095,8191,16383,32767,65535,131071,65535,524287,1048575,2097151,4194303,8388607,16777215,33554431,16777215,134217727,268435455,536870911,1073741823,16777215,2164260863,8589934591,17179869183,34359738367,68719476735]) (W:=[3]) (items:=[.op 0,.op 1,.op 2,.op 3,.op 4,.op 5,.op 6,.op 7,.op 8,.op 9,.op 10,.op 11,.op 12,.op 13,.op 14,.op 15,.op 16,.op 17,.op 18,.op 19,.op 20,.op 21,.op 22,.op 23,.op 24,.op 25,.op 26,.op 27,.op 28,.op 29,.op 30,.op 31,.op 32,.op 33,.op 34,.op 35,.op 36]) rfl zz0 zz0 zz0 ?_
        iterate 3 refine .rx ?_
        refine .wr rfl rfl (by decide) (.borrow rfl rfl rfl Tryz.call92 (by decide) (by first|(simp<;>rfl)|(simp[*]<;>rfl)|(simp[*];done)) (h92) (by rintro _ rfl<;>first|(simp;done)|rfl) ?_)
        rintro _ rfl
        iterate 2 refine .rx ?_
        refine .split (t:=109) rfl (fun c109=>?_) (fun c109=>?_)
        ·first|cases c109|cases bnt c109|cases bnf c109|try rw[c109]
         try simp at c109
         iterate 10 refine .rx ?_
         refine .split (t:=119) rfl (fun c119=>?_) (fun c119=>?_)
         ·first|cases c119|cases bnt c119|cases bnf c119|try rw[c119]
          try simp at c119
          iterate 8 refine .rx ?_
          refine .split (t:=127) rfl (fun c127=>?_) (fun c127=>?_)
          ·first|cases c127|cases bnt c127|cases bnf c127|try rw[c127]
           try simp at c127
          ·first|cases c127|cases bnt c127|cases bnf c127|try rw[c127]
           try simp at c127
           iterate 13 refine .rx ?_
           refine .done (.seq (.rn ?_))
           refine .drawn (ms:=[0,1,0,0,8,0,56,120,0,256,1016,2047,4095]) (W:=[10,12]) (items:=[.op 0,.op 1,.op 2,.op 3,.op 4,.op 5,.op 6,.op 7,.op 8,.op 9,.op 10,.ck 1,.op 11,.op 12]) rfl zz0 zz0 zz0 ?_
           iterate 10 refine .rx ?_
           refine .wp rfl rfl rfl rfl rfl Tryz.call103 (p103w _ s hLl) ?_
           refine .ck rfl zz0 ?_
           refine .rx ?_
           refine .wv ?_
           refine .done (.seq (.rn ?_))
           refine .ret ?_
           refine⟨_,_,zz2,(by simp[*]<;>rfl),?_⟩
           rw[if_neg (by omega)];simp[encS]<;>simp_all
         ·first|cases c119|cases bnt c119|cases bnf c119|try rw[c119]
          try simp at c119
          iterate 19 refine .ux ?_
          iterate 2 refine .rx ?_
          refine .done (.seq (.rn ?_))
          refine .drawn (ms:=[0,1,0,0,8,0,56,120,0,256,1016,2047,4095]) (W:=[10,12]) (items:=[.op 0,.op 1,.op 2,.op 3,.op 4,.op 5,.op 6,.op 7,.op 8,.op 9,.op 10,.ck 1,.op 11,.op 12]) rfl zz0 zz0 zz0 ?_
          iterate 10 refine .rx ?_
          refine .wp rfl rfl rfl rfl rfl Tryz.call103 (p103w _ s hLl) ?_
          refine .ck rfl zz0 ?_
          refine .rx ?_
          refine .wv ?_
          refine .done (.seq (.rn ?_))
          refine .ret ?_
          refine⟨_,_,zz2,(by simp[*]<;>rfl),?_⟩
          rw[if_neg (by omega)];simp[encS]<;>simp_all
        ·first|cases c109|cases bnt c109|cases bnf c109|try rw[c109]
         try simp at c109
         iterate 8 refine .ux ?_
         iterate 2 refine .rx ?_
         iterate 19 refine .ux ?_
         iterate 2 refine .rx ?_
         refine .done (.seq (.rn ?_))
         refine .drawn (ms:=[0,1,0,0,8,0,56,120,0,256,1016,2047,4095]) (W:=[10,12]) (items:=[.op 0,.op 1,.op 2,.op 3,.op 4,.op 5,.op 6,.op 7,.op 8,.op 9,.op 10,.ck 1,.op 11,.op 12]) rfl zz0 zz0 zz0 ?_
         iterate 10 refine .rx ?_
         refine .wp rfl rfl rfl rfl rfl Tryz.call103 (p103w _ s hLl) ?_
         refine .ck rfl zz0 ?_
         refine .rx ?_
         refine .wv ?_
         refine .done (.seq (.rn ?_))
         refine .ret ?_
         refine⟨_,_,zz2,(by simp[*]<;>rfl),?_⟩
         rw[if_neg (by omega)];simp[encS]<;>simp_all
       ·try simp at c102
attribute [local simp] pfind_mpG pmset_mpG pkeep_mpG
attribute [local simp ↓ high] all_wQ vlen_wQ
attribute [local simp] VHeap.only onlyL VHeap.drops
theorem stepR1 {R:Reg} {S:Rst} {t:Tu} (hk:t.k=1) {i s:Nat} {u:He} {L:List Int} (hi:plc R t.p=i) (hL:sWt S (i:Int)=L) (hs:t.s=s) (hu:sHe S t.s=u):stepR R S t=if t.d<S.dy then (S,false) else (⟨S.hs,S.ws.set i (L++[(s:Int)]),t.d⟩,!(u.p==t.p)&&!decide ((s:Int)∈L)):=by
 unfold stepR
 rw[hu]
 simp[hk,hs,hi,hL]
 rfl
theorem livW_spl {S:Rst} {i:Nat} {L:List Int} (h:i<S.ws.length) (v:PV):(livW S i L).take i++v::(livW S i L).drop (i+1)=(S.ws.map wQ).set i v:=by
 unfold livW
 rw[List.take_set_of_le (Nat.le_refl i),List.drop_set_of_lt (Nat.lt_succ_self i),List.set_eq_take_append_cons_drop,if_pos (by simpa using h)]
theorem fgF {vh:VHeap} {n2:Nat} {D:Nat→Bool} {ρ:Nat→Nat} {ws:List (List Int)} {i j m:Nat} {l:List Int} (hD:D j=true) (hg:vh.get j=some (.grow 1 (l.map (.int .i64)))) (hm:l.length=m):AltL vh n2 D ρ ((ws.map wQ).set i (.grow j m true)) ((ws.set i l).map wQ):=by
 subst hm
 refine⟨by simp,fun k v v2 h1 h2=>?_⟩
 rw[List.getElem?_set] at h1
 rw[List.map_set,List.getElem?_set] at h2
 by_cases hik:i=k
 ·rw[if_pos hik] at h1 h2
  split at h1
  ·rename_i hl
   rw[if_pos hl] at h2
   injection h1 with h1;injection h2 with h2
   subst h1;subst h2
   exact growQ hD hg
  ·cases h1
 ·rw[if_neg hik] at h1 h2
  rw[h1] at h2;injection h2 with h2;subst h2
  obtain⟨l',_,rfl⟩:=List.mem_map.1 (List.mem_of_getElem? h1)
  exact .same _ (wQ_isF l')
theorem p84a (R:Reg) (S:Rst) (t:Tu) (n:Nat) (hR:RO R) (hS:SIv R S n) (hn:n<1000) (hf:FormP R t) (hk:t.k=1):VPure Tryz.prog 84 [encR R,encS S,encT t] fun r=>r=.tup [encS (stepR R S t).1,.bool (stepR R S t).2]:=by
 have hp:t.p∈R.ps:=by rcases hf.2.2.2.2 with⟨_,h,_⟩|⟨_,h,_⟩|⟨h,_⟩<;>first|exact h|omega
 obtain⟨i,L,hi,hiw,hL,hsL,hLn⟩:=at_p hS hp
 have hL2:S.ws[i]=L:=(List.getElem?_eq_some_iff.1 hL).2
 obtain⟨s,hs,hsl,hsE⟩:=at_s hS hf.2.2.1 hf.2.2.2.1
 obtain⟨u,hu⟩:∃u,sHe S t.s=u:=⟨_,rfl⟩
 rw[hu] at hsE
 have hsE2:S.hs[s]=u:=(List.getElem?_eq_some_iff.1 hsE).2
 have hpl:=hR.pl
 have h24:R.ps.length<4294967296:=by omega
 have hwl:=hS.wl
 have hhl:=hS.hl
 have hsc:=hR.s2
 have hsc1:=hR.s1
 have hh:S.hs.length<4294967296:=by omega
 have hw:S.ws.length<4294967296:=by omega
 have hh0:0<S.hs.length:=by omega
 have hl:∀l∈S.ws,l.length<4294967296:=fun l h=>by have:=hS.ln l h;omega
 have hw0:0<S.ws.length:=by omega
 have hLl:L.length<4294967296:=by omega
 have hi1:i+1≤S.ws.length:=hiw
 have hspl:=livW_spl (L:=L) hiw (.grow 12 (L.length+1) true)
 obtain⟨ws2,hws2⟩:∃ws2,S.ws.set i (L++[(s:Int)])=ws2:=⟨_,rfl⟩
 have htk:List.take S.ws.length (List.map wQ ws2)=List.map wQ ws2:=by rw[List.take_of_length_le];rw[← hws2];simp
 have hle2:S.ws.length≤ws2.length:=by rw[← hws2];simp
 have hne:¬S.ws=[]:=fun h=>by rw[h] at hw0;exact absurd hw0 (by decide)
 have hfg:∀(vh:VHeap) (n2:Nat) (D:Nat→Bool) (ρ:Nat→Nat),D 12=true→vh.get 12=some (.grow 1 (List.map (PV.int IntKind.i64) L++[.int .i64 s]))→AltO vh n2 D ρ (.box ((S.ws.map wQ).set i (.grow 12 (L.length+1) true))) (.arr false 1 (ws2.map wQ)):=fun vh n2 D ρ h1 h2=>⟨by decide,by rw[← hws2];exact fgF h1 (by rw[h2];simp) (by simp),by simp⟩
 have hLm:(livW S i L)[i]?=some (.grow 9 L.length true):=by unfold livW;rw[List.getElem?_set_self (by simpa using hiw)]
 have hLm2:=(List.getElem?_eq_some_iff.1 hLm).2
 have hll:=livW_len S i L
 have hL9:L.length+1≤4294967296:=by omega
 rw[stepR1 hk hi hsL hs hu,hws2]
 have hcop:=p138W S i L hL hh hw hl
 clear hwl hhl
 unfold encR encT
 refine .of_body Tryz.func84 rfl rfl ?_
 refine .seq (.rn ?_)
 refine .seq ?_
 refine .regionL [0,1,2,3] rfl zz0 ?_
 refine .rn [0] [1,2,3] ?_
 refine .step rfl rfl (.call rfl rfl rfl Tryz.call138 (by decide) (((hcop _ _ _ _)).mono ?_))
 rintro _ _ ⟨rfl,rfl⟩
 refine .rn [2,3] [] ?_
 refine .done (.seq (.seq ?_))
 refine .rec (vts2:=[(3,.ptr 0 0),(4,.ptr 1 0),(5,.ptr 2 0),(6,.ptr 3 0),(7,.bool false),(8,.ptr 10 0)]) (vh2:=⟨11,[(10,.box [.vec (S.hs.map encHe),.sub 8 0 S.ws.length,.int .i64 S.dy]),(9,.grow 1 (L.map (.int .i64))),(8,.box (livW S i L)),(3,.box [.sl0,.sl0,.int .i64 0]),(2,.box [.int .i64 1,.int .i64 t.d,.int .i64 s,.int .i64 t.p,.int .i64 t.w,.int .i64 t.o]),(1,.box [.vec (S.hs.map encHe),.vec (S.ws.map wQ),.int .i64 S.dy]),(0,.box [ints R.ps,.int .i64 R.sc,turns R.ts])]⟩) (.mk [7] [] zz18 zz19 rfl rfl rfl) ?_
 refine .rn ?_
 refine .condS rfl (fun c19=>?_) (fun c19=>?_)
 ·try simp at c19
  refine .seq (.rn ?_)
  refine .ret ?_
  refine⟨_,_,zz2,(by simp[*]<;>rfl),?_⟩
  rw[if_pos c19];rfl
 ·try simp at c19
  refine .skip (.seq (.rn ?_))
  refine .seq (.seq (.rn ?_))
  refine .condS rfl (fun c26=>?_) (fun c26=>?_)
  ·try simp at c26
  ·try simp at c26
   refine .skip (.seq ?_)
   refine .regionL [0,1,2,3,4] rfl zz0 ?_
   refine .rn [0,1,2] [3,4] ?_
   refine .pc rfl rfl rfl rfl rfl Tryz.call81 (p81 R t.p h24) ?_
   refine .rn [4] [] ?_
   refine .done (.seq ?_)
   refine .drawn (ms:=[0,1,0,7,15,0,32,127,255]) (W:=[7]) (items:=[.op 0,.op 1,.op 2,.op 3,.op 4,.op 5,.op 6,.op 7,.op 8]) rfl zz0 zz0 zz0 ?_
   iterate 7 refine .rx ?_
   refine .wr rfl rfl (by decide) (.borrow rfl rfl rfl Tryz.call107 (by decide) (by first|(simp<;>rfl)|(simp[*]<;>rfl)|(simp[*];done)) (p107 L s hLl) (by rintro _ rfl<;>first|(simp;done)|rfl) ?_)
   rintro _ rfl
   refine .rx ?_
   refine .done (.seq ?_)
   refine .drawn (ms:=[0,1,0,4,15,31,63,0,128,511,1023]) (W:=[]) (items:=[.op 0,.op 1,.op 2,.op 3,.op 4,.op 5,.op 6,.op 7,.op 8,.op 9,.op 10]) rfl zz0 zz0 zz0 ?_
   iterate 11 refine .rx ?_
   refine .done (.seq (.rn ?_))
   refine .seq (.seq (.rn ?_))
   refine .block (.seq (.rn ?_))
   refine .condS rfl (fun c57=>?_) (fun c57=>?_)
   ·try simp at c57
    refine .seq ?_
    refine .regionL [0,1,2,3,4,5,6] rfl zz0 ?_
    refine .rn [0,1,2] [3,4,5,6] ?_
    refine .split (t:=61) rfl (fun c61=>?_) (fun c61=>?_)
    ·try rw[c61]
     try simp at c61
     refine .rn [3,4,5,6] [] ?_
     refine .done ?_
     refine .drawn (ms:=[0,1,0,0,8,0,56,120,0,256,768,2040,4095,8191]) (W:=[10,11,13]) (items:=[.op 0,.op 1,.op 2,.op 3,.op 4,.op 5,.op 6,.op 7,.op 8,.op 9,.op 10,.ck 7,.ck 4,.ck 1,.op 11,.ck 1,.op 12,.op 13]) rfl zz0 zz0 zz0 ?_
     iterate 10 refine .rx ?_
     refine .wv ?_
     refine .ck rfl zz0 ?_
     refine .ck rfl zz0 ?_
     refine .ck rfl zz0 ?_
     refine .wr rfl rfl (by decide) (.vopK [9,11] (todo':=[1]) zz1 zz1 (by decide) (⟨⟨by decide +kernel,_,_,rfl,zz1⟩,trivial⟩) zz0 ?_)
     refine .ck rfl zz0 ?_
     refine .rx ?_
     refine .wv ?_
     refine .done (.seq ?_)
     refine .rec (vts2:=[(6,.ptr 3 0),(8,.ptr 10 0),(12,.bool (!decide ((s:Int)∈L)))]) (vh2:=⟨13,[(10,.box [.vec (S.hs.map encHe),.sub 8 0 S.ws.length,.int .i64 t.d]),(8,.arr false 1 (ws2.map wQ)),(3,.box [.sl0,.sl0,.int .i64 0]),(2,.box [.int .i64 1,.int .i64 t.d,.int .i64 s,.int .i64 t.p,.int .i64 t.w,.int .i64 t.o]),(1,.box [.vec (S.hs.map encHe),.vec (S.ws.map wQ),.int .i64 S.dy]),(0,.box [ints R.ps,.int .i64 R.sc,turns R.ts])]⟩) (.mk [12] [] zz18 zz19 rfl rfl rfl) ?_
     refine .rn ?_
     refine .ret ?_
     refine⟨_,_,zz2,(by simp[*]<;>rfl),?_⟩
     rw[if_neg (by omega)];simp[encS]<;>simp_all
    ·try rw[c61]
     try simp at c61
     refine .rn [3,4,5,6] [] ?_
     refine .done ?_
     refine .drawn (ms:=[0,1,0,0,8,0,56,120,0,256,768,2040,4095,8191]) (W:=[10,11,13]) (items:=[.op 0,.op 1,.op 2,.op 3,.op 4,.op 5,.op 6,.op 7,.op 8,.op 9,.op 10,.ck 7,.ck 4,.ck 1,.op 11,.ck 1,.op 12,.op 13]) rfl zz0 zz0 zz0 ?_
     iterate 10 refine .rx ?_
     refine .wv ?_
     refine .ck rfl zz0 ?_
     refine .ck rfl zz0 ?_
     refine .ck rfl zz0 ?_
     refine .wr rfl rfl (by decide) (.vopK [9,11] (todo':=[1]) zz1 zz1 (by decide) (⟨⟨by decide +kernel,_,_,rfl,zz1⟩,trivial⟩) zz0 ?_)
     refine .ck rfl zz0 ?_
     refine .rx ?_
     refine .wv ?_
     refine .done (.seq ?_)
     refine .rec (vts2:=[(6,.ptr 3 0),(8,.ptr 10 0),(12,.bool (false))]) (vh2:=⟨13,[(10,.box [.vec (S.hs.map encHe),.sub 8 0 S.ws.length,.int .i64 t.d]),(8,.arr false 1 (ws2.map wQ)),(3,.box [.sl0,.sl0,.int .i64 0]),(2,.box [.int .i64 1,.int .i64 t.d,.int .i64 s,.int .i64 t.p,.int .i64 t.w,.int .i64 t.o]),(1,.box [.vec (S.hs.map encHe),.vec (S.ws.map wQ),.int .i64 S.dy]),(0,.box [ints R.ps,.int .i64 R.sc,turns R.ts])]⟩) (.mk [12] [] zz18 zz19 rfl rfl rfl) ?_
     refine .rn ?_
     refine .ret ?_
     refine⟨_,_,zz2,(by simp[*]<;>rfl),?_⟩
     rw[if_neg (by omega)];simp[encS]<;>simp_all
   ·try simp at c57
attribute [local simp] pfind_mpG pmset_mpG pkeep_mpG
attribute [local simp ↓ high] all_wQ vlen_wQ
def swpR (R:Reg) (S:Rst) (t:Tu):List He×Bool:=
 if (sHe S t.s).p=0∨(sHe S t.o).p=0 then (S.hs,false)
 else if t.s∈sWt S (plc R (sHe S t.o).p)∨t.o∈sWt S (plc R (sHe S t.s).p) then (S.hs,false)
 else ((S.hs.set t.s.toNat { sHe S t.s with p:=(sHe S t.o).p }).set t.o.toNat { sHe S t.o with p:=(sHe S t.s).p },true)
theorem stepR4 {R:Reg} {S:Rst} {t:Tu} (hk:t.k=4):stepR R S t=if t.d<S.dy then (S,false) else (⟨(swpR R S t).1,S.ws,t.d⟩,(swpR R S t).2):=by
 unfold stepR swpR
 simp only[hk,if_true]
 split
 ·rfl
 ·split
  ·rfl
  ·split<;>rfl
theorem heC_splp {hs:List He} {k:Nat} (h:k<hs.length) {u:He} (hu:hs[k]=u) (v:Int):(heC hs).take (k*4)++.int .i64 v::(heC hs).drop (k*4+1)=heC (hs.set k { u with p:=v }):=by
 have:=heC_setp h v
 unfold psplice at this
 rw[hu] at this
 simpa using this
theorem p139 (R:Reg) (S:Rst) (t:Tu) (n:Nat) (hR:RO R) (hS:SIv R S n) (hn:n<1000) (hf:FormP R t) (hk:t.k=4):VCall Tryz.prog 139 [encR R,.agg [.sub 7 0 S.hs.length,.vec (S.ws.map wQ),.int .i64 t.d],encT t] ⟨10,[(7,.arr true 4 (heC S.hs))]⟩ fun v vh'=>v=.tup [.agg [.sub 7 0 S.hs.length,.vec (S.ws.map wQ),.int .i64 t.d],.bool (swpR R S t).2]∧vh'.get 7=some (.arr true 4 (heC (swpR R S t).1)):=by
 obtain⟨ho1,ho2,hos⟩:0≤t.o∧t.o≤R.sc - 1∧¬t.o=t.s:=by rcases hf.2.2.2.2 with⟨h|h|h,_⟩|⟨h,_⟩|⟨_,h,h',h'',_⟩<;>first|omega|exact⟨h,h',h''⟩
 obtain⟨s,hs,hsl,hsE⟩:=at_s hS hf.2.2.1 hf.2.2.2.1
 obtain⟨u,hu⟩:∃u,sHe S t.s=u:=⟨_,rfl⟩
 rw[hu] at hsE
 have hsE2:S.hs[s]=u:=(List.getElem?_eq_some_iff.1 hsE).2
 have hpl:=hR.pl
 have h24:R.ps.length<4294967296:=by omega
 have hwl:=hS.wl
 have hhl:=hS.hl
 have hsc:=hR.s2
 have hsc1:=hR.s1
 have hh:S.hs.length<4294967296:=by omega
 have hw:S.ws.length<4294967296:=by omega
 have hh0:0<S.hs.length:=by omega
 have hl:∀l∈S.ws,l.length<4294967296:=fun l h=>by have:=hS.ln l h;omega
 obtain⟨o,ho,hol,hoE⟩:=at_s hS ho1 ho2
 obtain⟨z,hz⟩:∃z,sHe S t.o=z:=⟨_,rfl⟩
 rw[hz] at hoE
 have hoE2:S.hs[o]=z:=(List.getElem?_eq_some_iff.1 hoE).2
 have hup:=hS.hp u (List.mem_of_getElem? hsE)
 have hzp:=hS.hp z (List.mem_of_getElem? hoE)
 have hos2:¬s=o:=by omega
 have hs4:s*4+4≤S.hs.length*4:=by omega
 have hs5:s*4+1≤S.hs.length*4:=by omega
 have hs6:s*4≤S.hs.length*4:=by omega
 have hat:=heC_at hsl
 rw[hsE2] at hat
 have hat2:=(List.getElem?_eq_some_iff.1 hat).2
 have hpart:=heC_part hsl
 rw[hsE2] at hpart
 have ho4:o*4+4≤S.hs.length*4:=by omega
 have ho5:o*4+1≤S.hs.length*4:=by omega
 have ho6:o*4≤S.hs.length*4:=by omega
 have hbt:=heC_at hol
 rw[hoE2] at hbt
 have hbt2:=(List.getElem?_eq_some_iff.1 hbt).2
 have hqart:=heC_part hol
 rw[hoE2] at hqart
 have hset1:=heC_splp hsl hsE2 z.p
 obtain⟨hs1,hhs1⟩:∃l,S.hs.set s { u with p:=z.p }=l:=⟨_,rfl⟩
 rw[hhs1] at hset1
 have hl1:hs1.length=S.hs.length:=by rw[← hhs1];simp
 have ho7:o*4+1≤hs1.length*4:=by omega
 have hs1o:hs1[o]=z:=by simp only[← hhs1];rw[List.getElem_set_ne hos2];exact hoE2
 have hset2:=heC_splp (hs:=hs1) (by omega) hs1o u.p
 obtain⟨hs2,hhs2⟩:∃l,hs1.set o { z with p:=u.p }=l:=⟨_,rfl⟩
 rw[hhs2] at hset2
 unfold encR encT swpR
 rw[hu,hz,hs,ho,Int.toNat_natCast,Int.toNat_natCast,hhs1,hhs2]
 clear hwl hhl hl1 hs1o
 refine .of_body Tryz.func139 rfl rfl ?_
 refine .seq (.rn ?_)
 refine .seq (.rn ?_)
 refine .seq (.rn ?_)
 refine .seq (.seq ?_)
 refine .regionL [0,1,2,3,4,5,6,7] rfl zz0 ?_
 refine .rn [0,1,2,3] [4,5,6,7] ?_
 refine .split (t:=27) rfl (fun c27=>?_) (fun c27=>?_)
 ·try rw[c27]
  try simp at c27
  refine .rn [4,5,6,7] [] ?_
  refine .done (.condT rfl (.seq (.rn ?_)))
  refine .ret ?_
  exact⟨_,zz2,by simp_all,by simp_all[VHeap.get,vlook]⟩
 ·try rw[c27]
  try simp at c27
  have c27:¬u.p=0:=by simpa using c27
  obtain⟨j,M,hj,hjw,hM,hsM,hMn⟩:=at_p hS (hup.resolve_left c27)
  have hM2:S.ws[j]=M:=(List.getElem?_eq_some_iff.1 hM).2
  have hMl:M.length<4294967296:=by omega
  refine .rn [4,5,6,7] [] ?_
  refine .done ?_
  refine .condS rfl (fun c31=>?_) (fun c31=>?_)
  ·try simp at c31
   refine .seq (.rn ?_)
   refine .ret ?_
   exact⟨_,zz2,by simp_all,by simp_all[VHeap.get,vlook]⟩
  ·try simp at c31
   have c31:¬z.p=0:=by simpa using c31
   obtain⟨i,L,hi,hiw,hL,hsL,hLn⟩:=at_p hS (hzp.resolve_left c31)
   have hL2:S.ws[i]=L:=(List.getElem?_eq_some_iff.1 hL).2
   have hLl:L.length<4294967296:=by omega
   rw[hi,hj,hsL,hsM]
   refine .skip (.seq ?_)
   refine .drawn (ms:=[0,1,0,0,8,28,63,127,0,256,1023,2047]) (W:=[5,10]) (items:=[.op 0,.op 1,.op 2,.op 3,.op 4,.op 8,.op 9,.op 5,.ck 9,.ck 1,.op 6,.op 7,.op 10,.op 11]) rfl zz0 zz0 zz0 ?_
   iterate 7 refine .rx ?_
   refine .wp rfl rfl rfl rfl rfl Tryz.call81 (p81 R z.p h24) ?_
   refine .ck rfl zz0 ?_
   refine .ck rfl zz0 ?_
   iterate 2 refine .rx ?_
   refine .wp rfl rfl rfl rfl rfl Tryz.call107 (p107w L s hLl) ?_
   refine .rx ?_
   refine .done (.seq ?_)
   refine .drawn (ms:=[0,1,0,0,8,28,63,127,0,256,1023,2047]) (W:=[5,10]) (items:=[.op 0,.op 1,.op 2,.op 3,.op 4,.op 8,.op 9,.op 5,.ck 9,.ck 1,.op 6,.op 7,.op 10,.op 11]) rfl zz0 zz0 zz0 ?_
   iterate 7 refine .rx ?_
   refine .wp rfl rfl rfl rfl rfl Tryz.call81 (p81 R u.p h24) ?_
   refine .ck rfl zz0 ?_
   refine .ck rfl zz0 ?_
   iterate 2 refine .rx ?_
   refine .wp rfl rfl rfl rfl rfl Tryz.call107 (p107w M o hMl) ?_
   refine .rx ?_
   refine .done (.seq (.seq ?_))
   refine .regionL [0,1,2,3] rfl zz0 ?_
   refine .rn [0,1] [2,3] ?_
   refine .split (t:=56) rfl (fun c56=>?_) (fun c56=>?_)
   ·try rw[c56]
    try simp at c56
    refine .rn [2,3] [] ?_
    refine .done (.condT rfl (.seq (.rn ?_)))
    refine .ret ?_
    exact⟨_,zz2,by simp_all,by simp_all[VHeap.get,vlook]⟩
   ·try rw[c56]
    try simp at c56
    refine .rn [2,3] [] ?_
    refine .done ?_
    refine .condS rfl (fun c58=>?_) (fun c58=>?_)
    ·try simp at c58
     refine .seq (.rn ?_)
     refine .ret ?_
     exact⟨_,zz2,by simp_all,by simp_all[VHeap.get,vlook]⟩
    ·try simp at c58
     refine .skip (.seq (.rn ?_))
     refine .seq (.rn ?_)
     refine .seq (.rn ?_)
     refine .ret ?_
     exact⟨_,zz2,by simp_all,by simp_all[VHeap.get,vlook]⟩
theorem p139f (R:Reg) (S:Rst) (t:Tu) (n:Nat) (hR:RO R) (hS:SIv R S n) (hn:n<1000) (hf:FormP R t) (hk:t.k=4) (e a b c d:List PV):VCall Tryz.prog 139 [encR R,.agg [.sub 7 0 S.hs.length,.vec (S.ws.map wQ),.int .i64 t.d],encT t]
  ⟨10,[(9,.box e),(7,.arr true 4 (heC S.hs)),(3,.box a),(2,.box b),(1,.box c),(0,.box d)]⟩ fun v vh'=>v=.tup [.agg [.sub 7 0 S.hs.length,.vec (S.ws.map wQ),.int .i64 t.d],.bool (swpR R S t).2]∧
  ∃m,vh'=⟨m,[(9,.box e),(7,.arr true 4 (heC (swpR R S t).1)),(3,.box a),(2,.box b),(1,.box c),(0,.box d)]⟩:=by
 refine VCall.only (VCall.frame (i:=0) rfl rfl (VCall.frame (i:=1) rfl rfl (VCall.frame (i:=2) rfl rfl (VCall.frame (i:=3) rfl rfl (VCall.frame (i:=9) rfl rfl (p139 R S t n hR hS hn hf hk)))))) ?_
 rintro v _ ⟨_,⟨_,⟨_,⟨_,⟨vh1,⟨rfl,h7⟩,rfl⟩,rfl⟩,rfl⟩,rfl⟩,rfl⟩
 obtain⟨vh2,k1,k2,k3⟩:=sub5 (vh1:=vh1.back 9 (.box e)) (n:=vh1.next) (a:=.box a) (b:=.box b) (c:=.box c) (d:=.box d) rfl (l:=[(9,.box e),(7,.arr true 4 (heC (swpR R S t).1))]) (fun j z hz=>by
  rw[VHeap.get_back]
  simp only[VHeap.get,vlook,beq_eq] at hz
  by_cases e9:j=9
  ·subst e9;simp at hz;subst hz;exact⟨by omega,by simp⟩
  ·by_cases e7:j=7
   ·subst e7;simp at hz;subst hz;exact⟨by omega,by rw[if_neg (by decide)];exact h7⟩
   ·simp[e9,e7] at hz)
 exact⟨vh2,k1,k2,rfl,_,k3⟩
theorem swpR_len (R:Reg) (S:Rst) (t:Tu):(swpR R S t).1.length=S.hs.length:=by
 unfold swpR
 split
 ·rfl
 ·split
  ·rfl
  ·simp
theorem p84s (R:Reg) (S:Rst) (t:Tu) (n:Nat) (hR:RO R) (hS:SIv R S n) (hn:n<1000) (hf:FormP R t) (hk:t.k=4):VPure Tryz.prog 84 [encR R,encS S,encT t] fun r=>r=.tup [encS (stepR R S t).1,.bool (stepR R S t).2]:=by
 obtain⟨ho1,ho2,hos⟩:0≤t.o∧t.o≤R.sc - 1∧¬t.o=t.s:=by rcases hf.2.2.2.2 with⟨h|h|h,_⟩|⟨h,_⟩|⟨_,h,h',h'',_⟩<;>first|omega|exact⟨h,h',h''⟩
 obtain⟨s,hs,hsl,hsE⟩:=at_s hS hf.2.2.1 hf.2.2.2.1
 obtain⟨u,hu⟩:∃u,sHe S t.s=u:=⟨_,rfl⟩
 rw[hu] at hsE
 have hsE2:S.hs[s]=u:=(List.getElem?_eq_some_iff.1 hsE).2
 have hpl:=hR.pl
 have h24:R.ps.length<4294967296:=by omega
 have hwl:=hS.wl
 have hhl:=hS.hl
 have hsc:=hR.s2
 have hsc1:=hR.s1
 have hh:S.hs.length<4294967296:=by omega
 have hw:S.ws.length<4294967296:=by omega
 have hh0:0<S.hs.length:=by omega
 have hl:∀l∈S.ws,l.length<4294967296:=fun l h=>by have:=hS.ln l h;omega
 obtain⟨o,ho,hol,hoE⟩:=at_s hS ho1 ho2
 have hsw:=swpR_len R S t
 have hcop:=p138Z S hh hw hl
 have hswp:=p139f R S t n hR hS hn hf hk
 rw[stepR4 hk]
 obtain⟨hs2,hhs2⟩:∃l,(swpR R S t).1=l:=⟨_,rfl⟩
 obtain⟨b2,hb2⟩:∃l,(swpR R S t).2=l:=⟨_,rfl⟩
 rw[hhs2] at hsw
 rw[hhs2,hb2] at hswp ⊢
 have hch:=heC_chunk hs2
 rw[hsw] at hch
 unfold chunk at hch
 rw[cond_true] at hch
 unfold List.range at hch
 have hle3:S.hs.length*4≤hs2.length*4:=by omega
 have hhne:¬S.hs=[]:=fun h=>by rw[h] at hh0;exact absurd hh0 (by decide)
 clear hwl hhl hsw
 unfold encT at hswp
 unfold encR at hswp
 rw[hk,hs,ho] at hswp
 unfold encR encT
 refine .of_body Tryz.func84 rfl rfl ?_
 refine .seq (.rn ?_)
 refine .seq ?_
 refine .regionL [0,1,2,3] rfl zz0 ?_
 refine .rn [0] [1,2,3] ?_
 refine .step rfl rfl (.call rfl rfl rfl Tryz.call138 (by decide) (((hcop _ _ _ _)).mono ?_))
 rintro _ _ ⟨rfl,rfl⟩
 refine .rn [2,3] [] ?_
 refine .done (.seq (.seq ?_))
 refine .rec (vts2:=[(3,.ptr 0 0),(4,.ptr 1 0),(5,.ptr 2 0),(6,.ptr 3 0),(7,.bool false),(8,.ptr 9 0)]) (vh2:=⟨10,[(9,.box [.sub 7 0 S.hs.length,.vec (S.ws.map wQ),.int .i64 S.dy]),(7,.arr true 4 (heC S.hs)),(3,.box [.sl0,.sl0,.int .i64 0]),(2,.box [.int .i64 4,.int .i64 t.d,.int .i64 s,.int .i64 t.p,.int .i64 t.w,.int .i64 o]),(1,.box [.vec (S.hs.map encHe),.vec (S.ws.map wQ),.int .i64 S.dy]),(0,.box [ints R.ps,.int .i64 R.sc,turns R.ts])]⟩) (.mk [8] [] zz18 zz19 rfl rfl rfl) ?_
 refine .rn ?_
 refine .condS rfl (fun c19=>?_) (fun c19=>?_)
 ·try simp at c19
  refine .seq (.rn ?_)
  refine .ret ?_
  refine⟨_,_,zz2,zz2,?_⟩
  rw[if_pos c19];rfl
 ·try simp at c19
  refine .skip (.seq (.rn ?_))
  refine .seq (.seq (.rn ?_))
  refine .condS rfl (fun c26=>?_) (fun c26=>?_)
  ·try simp at c26
   refine .seq ?_
   refine .regionL [0,1,2,3,4,5,6,7] rfl zz0 ?_
   refine .rn [0,1,2] [3,4,5,6,7] ?_
   refine .step rfl rfl (.call rfl rfl rfl Tryz.call139 (by decide) (((hswp _ _ _ _ _)).mono ?_))
   rintro _ _ ⟨rfl,m,rfl⟩
   refine .rn [4,5,6,7] [] ?_
   refine .done (.ret ?_)
   refine⟨_,_,zz2,(by simp[*]<;>rfl),?_⟩
   rw[if_neg (by omega)];rfl
  ·try simp at c26
theorem p84 (R:Reg) (S:Rst) (t:Tu) (n:Nat) (hR:RO R) (hS:SIv R S n) (hn:n<1000) (hf:FormP R t):VPure Tryz.prog 84 [encR R,encS S,encT t] fun r=>r=.tup [encS (stepR R S t).1,.bool (stepR R S t).2]:=by
 have hk:t.k=1∨t.k=2∨t.k=3∨t.k=4∨t.k=5:=by rcases hf.2.2.2.2 with⟨h|h|h,_⟩|⟨h,_⟩|⟨h,_⟩<;>simp[h]
 rcases hk with hk|hk|hk|hk|hk
 ·exact p84a R S t n hR hS hn hf hk
 ·exact p84h R S t n hR hS hn hf hk
 ·exact p84b R S t n hR hS hn hf hk
 ·exact p84s R S t n hR hS hn hf hk
 ·exact p84q R S t n hR hS hn hf hk
theorem SIv.step {R:Reg} {S:Rst} {t:Tu} {n:Nat} (hR:RO R) (h:SIv R S n) (hf:FormP R t):SIv R (stepR R S t).1 (n+1):=by
 have up:SIv R S (n+1):=⟨h.hl,h.wl,fun l hl=>Nat.le_succ_of_le (h.ln l hl),h.hp⟩
 have day:∀d,SIv R ⟨S.hs,S.ws,d⟩ (n+1):=fun d=>⟨up.hl,up.wl,up.ln,up.hp⟩
 have wset:∀(hs:List He) (i:Nat) (l:List Int) (d:Int),(hs.length:Int)=R.sc→(∀u∈hs,u.p=0∨u.p∈R.ps)→l.length≤n+1→SIv R ⟨hs,S.ws.set i l,d⟩ (n+1):=fun hs i l d h1 h2 h3=>
  ⟨h1,by simpa using up.wl,fun x hx=>by
   rcases List.mem_or_eq_of_mem_set hx with hx|rfl
   ·exact up.ln x hx
   ·exact h3,h2⟩
 have hset:∀(s:Nat) (u:He),u.p=0∨u.p∈R.ps→(((S.hs.set s u).length:Nat):Int)=R.sc∧∀v∈S.hs.set s u,v.p=0∨v.p∈R.ps:=fun s u hu=>⟨by simpa using h.hl,fun v hv=>by
  rcases List.mem_or_eq_of_mem_set hv with hv|rfl
  ·exact h.hp v hv
  ·exact hu⟩
 have sW:∀i,(sWt S i).length≤n:=fun i=>by
  unfold sWt
  cases hg:S.ws[i.toNat]? with
  |none=>exact Nat.zero_le _
  |some l=>exact h.ln l (List.mem_of_getElem? hg)
 have sO:∀i s,(outS (sWt S i) s).length≤n+1:=fun i s=>Nat.le_trans (outS_len _ _) (Nat.le_succ_of_le (sW i))
 have sH:∀s,(sHe S s).p=0∨(sHe S s).p∈R.ps:=fun s=>by
  unfold sHe
  cases hg:S.hs[s.toNat]? with
  |none=>exact .inl rfl
  |some l=>exact h.hp l (List.mem_of_getElem? hg)
 unfold stepR
 split
 ·exact up
 ·split
  ·split
   ·exact day _
   ·split
    ·exact day _
    ·refine⟨by simpa using h.hl,up.wl,up.ln,fun v hv=>?_⟩
     rcases List.mem_or_eq_of_mem_set hv with hv|rfl
     ·exact(hset _ _ (by exact sH t.o)).2 v hv
     ·exact sH t.s
  ·rename_i hk4
   have hp:t.p∈R.ps:=by rcases hf.2.2.2.2 with⟨_,h,_⟩|⟨_,h,_⟩|⟨h,_⟩<;>first|exact h|omega
   split
   ·exact wset _ _ _ _ h.hl h.hp (by rw[List.length_append];have:=sW (plc R t.p);simp;omega)
   ·split
    ·exact wset _ _ _ _ h.hl h.hp (sO _ _)
    ·split
     ·obtain⟨h1,h2⟩:=hset t.s.toNat ⟨0,0,0,0⟩ (.inl rfl)
      exact⟨h1,up.wl,up.ln,h2⟩
     ·split
      ·obtain⟨h1,h2⟩:=hset t.s.toNat ⟨t.p,t.s,t.d,t.d+7*t.w⟩ (.inr hp)
       exact wset _ _ _ _ h1 h2 (sO _ _)
      ·exact day _
theorem SIv.beg {R:Reg} (hR:RO R):SIv R (beg R) 0:=⟨by have:=hR.s1;simp[Hi.beg];omega,by simp[Hi.beg],fun l hl=>by simp[Hi.beg] at hl;simp[hl.2],fun u hu=>.inl (by simp[Hi.beg] at hu;simp[hu.2])⟩
attribute [local simp] pfind_mpG pmset_mpG pkeep_mpG
theorem plc_lt {R:Reg} {k:Nat} (h:k<R.ps.length):plc R R.ps[k]<k↔R.ps[k]∈R.ps.take k:=by
 obtain⟨i,h1,h2⟩:=plc_at (List.getElem_mem h)
 have h3:=idxF_bef (fun x=>decide (x=R.ps[k])) R.ps 0 i (by have:plc R R.ps[k]=_:=h1;unfold plc at this;rw[this];simp)
 rw[h1]
 constructor
 ·intro hlt
  have hi:i<(R.ps.take k).length:=by rw[List.length_take];omega
  have:(R.ps.take k)[i]=R.ps[k]:=by rw[List.getElem_take];exact(List.getElem?_eq_some_iff.1 h2).2
  rw[← this];exact List.getElem_mem hi
 ·intro hm
  obtain⟨j,hj,he⟩:=List.getElem_of_mem hm
  rw[List.length_take] at hj
  rw[List.getElem_take] at he
  by_cases hij:i≤j
  ·omega
  ·exfalso
   have hjt:j<(R.ps.take i).length:=by rw[List.length_take];omega
   have:=h3.1 R.ps[j] (by rw[← List.getElem_take (h:=hjt)];exact List.getElem_mem hjt)
   simp[he] at this
theorem nd_succ {l:List Int} {k:Nat} (h:k<l.length) (hn:(l.take k).Nodup) (hx:l[k]∉l.take k):(l.take (k+1)).Nodup:=by
 rw[List.take_succ_eq_append_getElem h,List.nodup_append]
 exact⟨hn,by simp,fun a ha b hb e=>by simp at hb;subst hb;subst e;exact hx ha⟩
theorem nd_not {l:List Int} {k:Nat} (h:k<l.length) (hx:l[k]∈l.take k):¬l.Nodup:=fun hn=>by
 have h2:=hn.sublist (List.take_sublist (k+1) l)
 rw[List.take_succ_eq_append_getElem h,List.nodup_append] at h2
 exact h2.2.2 _ hx _ (List.mem_singleton.2 rfl) rfl
theorem bad_succ {l:List Int} {k:Nat} (h:k<l.length) (hb:∀a∈l.take k,badId a=false) (hx:badId l[k]=false):∀a∈l.take (k+1),badId a=false:=fun a ha=>by
 rw[List.take_succ_eq_append_getElem h,List.mem_append,List.mem_singleton] at ha
 rcases ha with ha|rfl
 ·exact hb a ha
 ·exact hx
theorem nb_of {R:Reg} (h1:R.ps≠[]) (h2:∀a∈R.ps,badId a=false) (h3:1≤R.sc∧R.sc≤16):¬(R.ps=[]∨R.ps.any badId=true∨¬(1≤R.sc∧R.sc≤16)):=by
 rintro (h|h|h)
 ·exact h1 h
 ·rw[List.any_eq_true] at h;obtain⟨x,h4,h5⟩:=h;rw[h2 x h4] at h5;cases h5
 ·exact h h3
theorem chkR_bad {R:Reg} {e:Int} (h:regE R=e) (he:¬e=0):chkR R=(e,-1):=by
 unfold chkR
 rw[h,if_neg he]
theorem chkF_at {R:Reg} {S:Rst} {k:Nat} (h:k<R.ts.length):chkF R S (R.ts.drop k) k=if formB R R.ts[k] then (if (stepR R S R.ts[k]).2 then chkF R (stepR R S R.ts[k]).1 (R.ts.drop (k+1)) (k+1) else (4,(k:Int))) else (7,(k:Int)):=by
 rw[List.drop_eq_getElem_cons h];rfl
theorem p17 (R:Reg) (hl1:R.ps.length<4294967296) (hl2:R.ts.length<4294967296):VPure Tryz.prog 17 [encR R] fun r=>r=.agg [.int .i64 (chkR R).1,.int .i64 (chkR R).2]:=by
 unfold encR
 refine .of_body Tryz.func17 rfl rfl ?_
 refine .seq (.rn ?_)
 refine .seq (.seq ?_)
 refine .regionL [0,1,2,3,4,5,6,7,8,9] rfl zz0 ?_
 refine .rn [0,1,2,3,4] [5,6,7,8,9] ?_
 refine .split (t:=14) rfl (fun c14=>?_) (fun c14=>?_)
 ·try rw[c14]
  try simp at c14
  refine .rn [5,6,7,8,9] [] ?_
  refine .done (.condT rfl (.seq (.rn ?_)))
  refine .ret ?_
  refine⟨_,_,zz2,zz2,?_⟩
  rw[chkR_bad (e:=2) (by unfold regE;rw[if_pos (by omega)]) (by decide)]
 ·try rw[c14]
  try simp at c14
  refine .rn [5,6,7,8,9] [] ?_
  refine .done ?_
  refine .condS rfl (fun c19=>?_) (fun c19=>?_)
  ·try simp at c19
   refine .seq (.rn ?_)
   refine .ret ?_
   refine⟨_,_,zz2,zz2,?_⟩
   rw[chkR_bad (e:=2) (by unfold regE;rw[if_pos (by omega)]) (by decide)]
  ·try simp at c19
   refine .skip (.seq (.seq ?_))
   refine .regionL [0,1,2,3,4,5,6,7,8,9] rfl zz0 ?_
   refine .rn [0,1,2,3,4] [5,6,7,8,9] ?_
   refine .split (t:=25) rfl (fun c25=>?_) (fun c25=>?_)
   ·try rw[c25]
    try simp at c25
    refine .rn [5,6,7,8,9] [] ?_
    refine .done (.condT rfl (.seq (.rn ?_)))
    refine .ret ?_
    refine⟨_,_,zz2,zz2,?_⟩
    rw[chkR_bad (e:=1) (by unfold regE;rw[if_neg (by omega),if_pos (.inl (by simpa using c25))]) (by decide)]
   ·try rw[c25]
    try simp at c25
    refine .rn [5,6] [7,8,9] ?_
    refine .pc rfl rfl rfl rfl rfl Tryz.call80 (p80 _ _ _) ?_
    refine .rn [8,9] [] ?_
    refine .done ?_
    refine .condS rfl (fun c30=>?_) (fun c30=>?_)
    ·try simp at c30
     refine .seq (.rn ?_)
     refine .ret ?_
     refine⟨_,_,zz2,zz2,?_⟩
     rw[chkR_bad (e:=1) (by unfold regE;rw[if_neg (by omega),if_pos (.inr (.inr (by simp at c30 ⊢;omega)))]) (by decide)]
    ·try simp at c30
     have hsc:1≤R.sc∧R.sc≤16:=by simpa using c30
     refine .skip (.seq (.seq (.rn ?_)))
     refine .block ?_
     refine .loopS (fun k:Nat=>([(1,.vp [ints R.ps,.int .i64 R.sc,turns R.ts]),(2,.ptr 1 0),(3,.int .i64 k)],⟨2,[(1,.box [.int .i64 0,.int .i64 0])]⟩)) (fun k=>k≤R.ps.length∧∀a∈R.ps.take k,badId a=false) (fun k=>R.ps.length - k) 0 ⟨by simp,by simp⟩ (.mk [0] [] zz10 zz11 rfl rfl rfl) ?_
     rintro k ⟨hk,hb⟩
     simp only at hk hb ⊢
     refine .seq (.seq (.rn ?_))
     refine .condS rfl (fun c36=>?_) (fun c36=>?_)
     ·try simp at c36
      have hw2:=wr1 k
      refine .skip (.seq (.block (.seq ?_)))
      refine .regionL [0,1,2,3,4,5,6] rfl zz0 ?_
      refine .rn [0,1,2,3,4] [5,6] ?_
      refine .pc rfl rfl rfl rfl rfl Tryz.call80 (p80 R.ps[k] 1 1099511627776) ?_
      refine .rn [6] [] ?_
      refine .done ?_
      refine .condS rfl (fun c45=>?_) (fun c45=>?_)
      ·try simp at c45
       refine .seq (.rn ?_)
       refine .ret ?_
       refine⟨_,_,zz2,zz2,?_⟩
       rw[chkR_bad (e:=1) (by unfold regE;rw[if_neg (by omega),if_pos (.inr (.inl (List.any_eq_true.2 ⟨_,List.getElem_mem c36,by unfold badId;simp at c45 ⊢;omega⟩)))]) (by decide)]
      ·try simp at c45
       have hb2:badId R.ps[k]=false:=by unfold badId;simp at c45 ⊢;omega
       refine .skip (.rn ?_)
       refine⟨k+1,⟨zz3,bad_succ c36 hb hb2⟩,zz3,(.mk [] [] zz8 zz9 rfl rfl rfl)⟩
     ·try simp at c36
      have hk2:k=R.ps.length:=by omega
      subst hk2
      rw[List.take_length] at hb
      refine .exit (.seq (.seq (.rn ?_)))
      refine .block ?_
      refine .loopS (fun k:Nat=>([(1,.vp [ints R.ps,.int .i64 R.sc,turns R.ts]),(2,.ptr 1 0),(4,.int .i64 k)],⟨2,[(1,.box [.int .i64 0,.int .i64 0])]⟩)) (fun k=>k≤R.ps.length∧(R.ps.take k).Nodup) (fun k=>R.ps.length - k) 0 ⟨by simp,by simp⟩ (.mk [] [] zz8 zz9 rfl rfl rfl) ?_
      rintro k ⟨hk,hnd⟩
      simp only at hk hnd ⊢
      refine .seq (.seq (.rn ?_))
      refine .condS rfl (fun c51=>?_) (fun c51=>?_)
      ·try simp at c51
       have hw2:=wr1 k
       refine .skip (.seq (.block (.seq ?_)))
       refine .drawn (ms:=[0,0,2,0,14,30,63,0,255]) (W:=[6]) (items:=[.op 0,.op 1,.op 2,.op 3,.op 4,.op 5,.op 7,.op 6,.op 8]) rfl zz0 zz0 zz0 ?_
       iterate 7 refine .rx ?_
       refine .wp rfl rfl rfl rfl rfl Tryz.call81 (p81 R R.ps[k] hl1) ?_
       refine .rx ?_
       refine .done ?_
       refine .condS rfl (fun c62=>?_) (fun c62=>?_)
       ·try simp at c62
        have c62:plc R R.ps[k]<k:=by simpa using c62
        refine .seq (.rn ?_)
        refine .ret ?_
        refine⟨_,_,zz2,zz2,?_⟩
        rw[chkR_bad (e:=6) (by unfold regE;rw[if_neg (by omega),if_neg (nb_of (List.ne_nil_of_length_pos (by omega)) hb hsc),if_neg (nd_not c51 ((plc_lt c51).1 c62))]) (by decide)]
       ·try simp at c62
        have c62:¬plc R R.ps[k]<k:=by simpa using c62
        refine .skip (.rn ?_)
        refine⟨k+1,⟨zz3,nd_succ c51 hnd (fun h=>c62 ((plc_lt c51).2 h))⟩,zz3,(.mk [] [] zz8 zz9 rfl rfl rfl)⟩
      ·try simp at c51
       have hk2:k=R.ps.length:=by omega
       rw[hk2,List.take_length] at hnd
       have hnb:=nb_of (R:=R) (by simpa using c25) hb hsc
       have hE:regE R=0:=by unfold regE;rw[if_neg (by omega),if_neg hnb,if_pos hnd]
       obtain⟨_,q2,q3,q4,q5,q6,_⟩:=regE_ok hE
       have hR:RO R:=⟨q2,q3,q4,q5⟩
       rw[chk_ref hE]
       refine .exit (.seq ?_)
       refine .regionL [0,1,2,3] rfl zz0 ?_
       refine .rn [0] [1,2,3] ?_
       refine .pc rfl rfl rfl rfl rfl Tryz.call82 (p82 R hsc hl1) ?_
       refine .rn [2,3] [] ?_
       refine .done (.seq (.seq (.rn ?_)))
       refine .block ?_
       refine .loopS (fun s:Nat×Rst=>([(1,.vp [ints R.ps,.int .i64 R.sc,turns R.ts]),(2,.ptr 1 0),(5,.ptr 2 0),(6,.int .i64 s.1)],⟨3,[(2,.box [.vec (s.2.hs.map encHe),.vec (s.2.ws.map wQ),.int .i64 s.2.dy]),(1,.box [.int .i64 0,.int .i64 0])]⟩)) (fun s=>s.1≤R.ts.length∧SIv R s.2 s.1∧chkF R s.2 (R.ts.drop s.1) s.1=chkF R (beg R) R.ts 0) (fun s=>R.ts.length - s.1) (0,beg R) ⟨by simp,SIv.beg hR,by simp⟩ (.mk [] [] zz8 zz9 rfl rfl rfl) ?_
       rintro⟨k,S⟩ ⟨hk,hS,hr⟩
       simp only at hk hS hr ⊢
       refine .seq (.seq (.rn ?_))
       refine .condS rfl (fun c70=>?_) (fun c70=>?_)
       ·try simp at c70
        have hw2:=wr1 k
        rw[chkF_at c70] at hr
        unfold turns
        obtain⟨t,ht⟩:∃t,R.ts[k]=t:=⟨_,rfl⟩
        rw[ht] at hr
        refine .skip (.seq (.block (.seq ?_)))
        refine .drawn (ms:=[0,0,2,0,14,30,63,127]) (W:=[6]) (items:=[.op 0,.op 1,.op 2,.op 3,.op 4,.op 5,.op 6,.op 7]) rfl zz0 zz0 zz0 ?_
        iterate 6 refine .rx ?_
        refine .wp rfl rfl rfl rfl rfl Tryz.call83 (p83 R t hsc hl1) ?_
        refine .rx ?_
        refine .done (.seq (.seq (.rn ?_)))
        refine .condS rfl (fun c81=>?_) (fun c81=>?_)
        ·try simp at c81
         refine .seq (.rn ?_)
         refine .ret ?_
         refine⟨_,_,zz2,zz2,?_⟩
         rw[← hr,if_neg (by simpa using c81)]
        ·try simp at c81
         have hf:FormP R t:=of_decide_eq_true c81
         obtain⟨S2,hS2⟩:∃S2,(stepR R S t).1=S2:=⟨_,rfl⟩
         obtain⟨b2,hb2⟩:∃b2,(stepR R S t).2=b2:=⟨_,rfl⟩
         have hst:=p84 R S t k hR hS (by omega) hf
         have hSn:=hS.step hR hf
         rw[hS2] at hSn
         rw[hS2,hb2] at hst hr
         rw[if_pos c81] at hr
         refine .skip (.seq ?_)
         refine .drawnF (ms:=[0,0,0,4,0,28,60,127,255,511,511,0,3071,8191]) (W:=[7,12]) (As:=[11]) (items:=[.op 0,.op 1,.op 2,.op 3,.op 4,.op 5,.op 6,.op 11,.op 7,.op 8,.op 9,.op 10,.op 12,.op 13]) rfl zz0 zz0 zz0 zz0 (by decide) ?_
         iterate 7 refine .rf ?_
         refine .al rfl rfl (by decide) (by decide) (by decide) (by decide) zz1 ?_
         refine .wr rfl rfl (by decide) (.pure rfl rfl rfl Tryz.call84 (by decide) (hst) (by first|rfl|simp[*]) ?_)
         rintro _ rfl
         iterate 3 refine .rf ?_
         refine .wr rfl rfl (by decide) (.vop zz1 (by decide) ?_)
         refine .rf ?_
         refine .done (.seq (.seq (.rn ?_)))
         refine .condS rfl (fun c96=>?_) (fun c96=>?_)
         ·try simp at c96
          refine .seq (.rn ?_)
          refine .ret ?_
          refine⟨_,_,zz2,zz2,?_⟩
          rw[← hr,if_neg (by simpa using c96)]
         ·try simp at c96
          refine .skip (.rn ?_)
          refine .rn ?_
          refine⟨(k+1,S2),⟨zz3,hSn,by rw[← hr,if_pos c96]⟩,zz3,(.mk [] [] zz8 zz9 rfl rfl rfl)⟩
       ·try simp at c70
        refine .exit (.seq (.rn ?_))
        refine .ret ?_
        refine⟨_,_,zz2,zz2,?_⟩
        rw[← hr,show k=R.ts.length by omega,List.drop_length];rfl
attribute [local simp] pfind_mpG pmset_mpG pkeep_mpG
def rbeh (R:Reg) (day:Int):Rst:=behS R day (beg R) R.ts
theorem behS_at {R:Reg} {day:Int} {S:Rst} {k:Nat} (h:k<R.ts.length):behS R day S (R.ts.drop k)=if R.ts[k].d≤day then behS R day (stepR R S R.ts[k]).1 (R.ts.drop (k+1)) else behS R day S (R.ts.drop (k+1)):=by
 rw[List.drop_eq_getElem_cons h];rfl
theorem SIv.le {R:Reg} {S:Rst} {n m:Nat} (h:SIv R S n) (hnm:n≤m):SIv R S m:=⟨h.hl,h.wl,fun l hl=>Nat.le_trans (h.ln l hl) hnm,h.hp⟩
theorem SIv.beh {R:Reg} (hR:RO R) (day:Int):∀(ts:List Tu) (S:Rst) (n:Nat),SIv R S n→(∀t∈ts,FormP R t)→SIv R (behS R day S ts) (n+ts.length)
 |[],S,n,h,_=>h
 |t::r,S,n,h,hf=>by
  simp only[behS]
  split
  ·exact(SIv.beh hR day r _ (n+1) (h.step hR (hf t (List.mem_cons_self ..))) fun t ht=>hf t (List.mem_cons_of_mem _ ht)).le (by simp only[List.length_cons];omega)
  ·exact(SIv.beh hR day r _ n h fun t ht=>hf t (List.mem_cons_of_mem _ ht)).le (by simp only[List.length_cons];omega)
theorem RO_of {R:Reg} (h:(chkR R).1=0):RO R:=by
 obtain⟨_,q2,q3,q4,q5,_⟩:=regE_ok (chk_ok h).1
 exact⟨q2,q3,q4,q5⟩
theorem rbeh_ok {R:Reg} (h:(chkR R).1=0) (day:Int):SIv R (rbeh R day) 120:=by
 have h1:=chk_ok h
 obtain⟨_,_,_,_,_,q6,_⟩:=regE_ok h1.1
 exact(SIv.beh (RO_of h) day R.ts _ 0 (SIv.beg (RO_of h)) fun t ht=>of_decide_eq_true (h1.2.1 t ht)).le (by omega)
def askE (R:Reg) (id day:Int):Int:=if (chkR R).1=0 then (if ¬id=0∧plc R id<0 then 5 else if 0≤day∧day≤730 then 0 else 1) else (chkR R).1
def pcE (R:Reg) (id day:Int):Int:=if pieE R id=0 then onE R day else pieE R id
theorem askE_0 (R:Reg) (day:Int):askE R 0 day=onE R day:=by
 unfold askE onE
 simp
theorem plc_neg {R:Reg} {id:Int}:plc R id<0↔id∉R.ps:=by
 constructor
 ·intro h hm
  obtain⟨i,h1,_⟩:=plc_at hm
  omega
 ·intro h
  have hge:=idxF_ge (fun x=>decide (x=id)) R.ps 0
  unfold plc
  rcases hge with⟨h1,_⟩|⟨_,_,h1⟩
  ·rw[h1];decide
  ·rw[List.any_eq_true] at h1
   obtain⟨x,h2,h3⟩:=h1
   have:=of_decide_eq_true h3
   subst this;exact absurd h2 h
theorem p89 (R:Reg) (day:Int) (hl1:R.ps.length<4294967296) (hl2:R.ts.length<4294967296) (h:(chkR R).1=0):VPure Tryz.prog 89 [encR R,.int .i64 day] fun r=>r=encS (rbeh R day):=by
 have hR:=RO_of h
 have hsc:1≤R.sc∧R.sc≤16:=⟨hR.s1,hR.s2⟩
 have hff:=(chk_ok h).2.1
 have q6:=(regE_ok (chk_ok h).1).2.2.2.2.2.1
 unfold encR rbeh
 refine .of_body Tryz.func89 rfl rfl ?_
 refine .seq (.rn ?_)
 refine .seq ?_
 refine .regionL [0,1,2,3] rfl zz0 ?_
 refine .rn [0] [1,2,3] ?_
 refine .pc rfl rfl rfl rfl rfl Tryz.call82 (p82 R hsc hl1) ?_
 refine .rn [2,3] [] ?_
 refine .done (.seq (.seq (.rn ?_)))
 refine .block ?_
 refine .loopS (fun s:Nat×Rst=>([(1,.int .i64 day),(2,.ptr 0 0),(4,.ptr 1 0),(5,.ptr 2 0),(6,.int .i64 s.1)],⟨3,[(2,.box [.vec (s.2.hs.map encHe),.vec (s.2.ws.map wQ),.int .i64 s.2.dy]),(1,.box [.sl0,.sl0,.int .i64 0]),(0,.box [ints R.ps,.int .i64 R.sc,turns R.ts])]⟩)) (fun s=>s.1≤R.ts.length∧SIv R s.2 s.1∧behS R day s.2 (R.ts.drop s.1)=behS R day (beg R) R.ts) (fun s=>R.ts.length - s.1) (0,beg R) ⟨by simp,SIv.beg hR,by simp⟩ (.mk [] [] zz8 zz9 rfl rfl rfl) ?_
 rintro⟨k,S⟩ ⟨hk,hS,hr⟩
 simp only at hk hS hr ⊢
 refine .seq (.seq (.rn ?_))
 refine .condS rfl (fun c13=>?_) (fun c13=>?_)
 ·try simp at c13
  have hw2:=wr1 k
  rw[behS_at c13] at hr
  unfold turns
  obtain⟨t,ht⟩:∃t,R.ts[k]=t:=⟨_,rfl⟩
  have hf:FormP R t:=by rw[← ht];exact of_decide_eq_true (hff _ (List.getElem_mem c13))
  rw[ht] at hr
  refine .skip (.seq (.block (.seq (.rn ?_))))
  refine .condS rfl (fun c23=>?_) (fun c23=>?_)
  ·try simp at c23
   obtain⟨S2,hS2⟩:∃S2,(stepR R S t).1=S2:=⟨_,rfl⟩
   obtain⟨b2,hb2⟩:∃b2,(stepR R S t).2=b2:=⟨_,rfl⟩
   have hst:=p84 R S t k hR hS (by omega) hf
   have hSn:=hS.step hR hf
   have hdd:t.d≤day:=by simpa[ht] using c23
   rw[hS2] at hSn
   rw[hS2,hb2] at hst
   rw[hS2,if_pos hdd] at hr
   refine .drawn (ms:=[0,0,0,4,0,28,60,127,255,511,511,1023]) (W:=[7,11]) (items:=[.op 0,.op 1,.op 2,.op 3,.op 4,.op 5,.op 6,.op 7,.op 8,.op 9,.op 10,.op 11]) rfl zz0 zz0 zz0 ?_
   iterate 7 refine .rx ?_
   refine .wp rfl rfl rfl rfl rfl Tryz.call84 (hst) ?_
   iterate 3 refine .rx ?_
   refine .wv ?_
   refine .done (.rn ?_)
   refine⟨(k+1,S2),⟨zz3,hSn,hr⟩,zz3,(.mk [] [] zz8 zz9 rfl rfl rfl)⟩
  ·try simp at c23
   have hdd:¬t.d≤day:=by simpa[ht] using c23
   rw[if_neg hdd] at hr
   refine .skip (.rn ?_)
   refine⟨(k+1,S),⟨zz3,hS.le (Nat.le_succ k),hr⟩,zz3,(.mk [] [] zz8 zz9 rfl rfl rfl)⟩
 ·try simp at c13
  refine .exit (.seq (.rn ?_))
  refine .ret ?_
  refine⟨_,_,zz2,zz2,?_⟩
  rw[← hr,show k=R.ts.length by omega,List.drop_length];rfl
theorem p88 (R:Reg) (id day:Int) (hl1:R.ps.length<4294967296) (hl2:R.ts.length<4294967296):VPure Tryz.prog 88 [encR R,.int .i64 id,.int .i64 day] fun r=>r=.int .i64 (askE R id day):=by
 unfold encR askE
 refine .of_body Tryz.func88 rfl rfl ?_
 refine .seq (.rn ?_)
 refine .seq ?_
 refine .regionL [0,1,2,3] rfl zz0 ?_
 refine .rn [0] [1,2,3] ?_
 refine .pc rfl rfl rfl rfl rfl Tryz.call17 (p17 R hl1 hl2) ?_
 refine .rn [2,3] [] ?_
 refine .done (.seq (.seq (.rn ?_)))
 refine .condS rfl (fun c12=>?_) (fun c12=>?_)
 ·try simp at c12
  refine .seq (.rn ?_)
  refine .ret ?_
  refine⟨_,_,zz2,zz2,?_⟩
  simp_all
 ·try simp at c12
  refine .skip (.seq (.seq ?_))
  refine .regionL [0,1,2,3,4,5,6,7] rfl zz0 ?_
  refine .rn [0,1,2] [3,4,5,6,7] ?_
  refine .split (t:=17) rfl (fun c17=>?_) (fun c17=>?_)
  ·try rw[c17]
   try simp at c17
   refine .rn [3,4] [5,6,7] ?_
   refine .pc rfl rfl rfl rfl rfl Tryz.call81 (p81 R id hl1) ?_
   refine .rn [6,7] [] ?_
   refine .done ?_
   refine .condS rfl (fun c22=>?_) (fun c22=>?_)
   ·try simp at c22
    refine .seq (.rn ?_)
    refine .ret ?_
    refine⟨_,_,zz2,zz2,?_⟩
    simp_all
   ·try simp at c22
    refine .skip (.seq (.seq ?_))
    refine .regionL [0,1,2] rfl zz0 ?_
    refine .rn [0] [1,2] ?_
    refine .pc rfl rfl rfl rfl rfl Tryz.call80 (p80 _ _ _) ?_
    refine .rn [2] [] ?_
    refine .done ?_
    refine .condS rfl (fun c25=>?_) (fun c25=>?_)
    ·try simp at c25
     refine .seq (.rn ?_)
     refine .ret ?_
     refine⟨_,_,zz2,zz2,?_⟩
     rw[if_pos (by simpa using c12),if_neg (by omega),if_neg (by omega)]
    ·try simp at c25
     refine .skip (.seq (.rn ?_))
     refine .ret ?_
     refine⟨_,_,zz2,zz2,?_⟩
     rw[if_pos (by simpa using c12),if_neg (by omega),if_pos (by simpa using c25)]
  ·try rw[c17]
   try simp at c17
   refine .rn [3,4,5,6,7] [] ?_
   refine .done (.condF rfl (.skip (.seq (.seq ?_))))
   refine .regionL [0,1,2] rfl zz0 ?_
   refine .rn [0] [1,2] ?_
   refine .pc rfl rfl rfl rfl rfl Tryz.call80 (p80 _ _ _) ?_
   refine .rn [2] [] ?_
   refine .done ?_
   refine .condS rfl (fun c25=>?_) (fun c25=>?_)
   ·try simp at c25
    refine .seq (.rn ?_)
    refine .ret ?_
    refine⟨_,_,zz2,zz2,?_⟩
    rw[if_pos (by simpa using c12),if_neg (by omega),if_neg (by omega)]
   ·try simp at c25
    refine .skip (.seq (.rn ?_))
    refine .ret ?_
    refine⟨_,_,zz2,zz2,?_⟩
    rw[if_pos (by simpa using c12),if_neg (by omega),if_pos (by simpa using c25)]
theorem p91 (R:Reg) (id day:Int) (hl1:R.ps.length<4294967296) (hl2:R.ts.length<4294967296):VPure Tryz.prog 91 [encR R,.int .i64 id,.int .i64 day] fun r=>r=.int .i64 (pcE R id day):=by
 unfold encR
 refine .of_body Tryz.func91 rfl rfl ?_
 refine .seq (.rn ?_)
 refine .seq ?_
 refine .regionL [0,1,2,3] rfl zz0 ?_
 refine .rn [0] [1,2,3] ?_
 refine .pc rfl rfl rfl rfl rfl Tryz.call17 (p17 R hl1 hl2) ?_
 refine .rn [2,3] [] ?_
 refine .done (.seq (.seq ?_))
 refine .regionL [0,1,2,3,4,5,6,7,8] rfl zz0 ?_
 refine .rn [0,1,2,3] [4,5,6,7,8] ?_
 refine .split (t:=13) rfl (fun c13=>?_) (fun c13=>?_)
 ·try rw[c13]
  try simp at c13
  refine .rn [4,5] [6,7,8] ?_
  refine .pc rfl rfl rfl rfl rfl Tryz.call81 (p81 R id hl1) ?_
  refine .rn [7,8] [] ?_
  refine .done ?_
  refine .condS rfl (fun c18=>?_) (fun c18=>?_)
  ·try simp at c18
   refine .seq (.rn ?_)
   refine .ret ?_
   refine⟨_,_,zz2,zz2,?_⟩
   have c14:(chkR R).1=0:=by simpa using c13
   have hp:pieE R id=5:=by unfold pieE;rw[if_pos c14,if_neg (plc_neg.1 c18)]
   unfold pcE;rw[hp];rfl
  ·try simp at c18
   refine .skip (.seq ?_)
   refine .regionL [0,1,2,3,4] rfl zz0 ?_
   refine .rn [0,1,2] [3,4] ?_
   refine .pc rfl rfl rfl rfl rfl Tryz.call88 (p88 R id day hl1 hl2) ?_
   refine .rn [4] [] ?_
   refine .done (.ret ?_)
   refine⟨_,_,zz2,zz2,?_⟩
   have c14:(chkR R).1=0:=by simpa using c13
   have hm:id∈R.ps:=Decidable.not_not.1 (fun h=>by have:=plc_neg.2 h;omega)
   have hp:pieE R id=0:=by unfold pieE;rw[if_pos c14,if_pos hm]
   have ha:askE R id day=onE R day:=by unfold askE onE;rw[if_pos c14,if_pos c14,if_neg (by omega)]
   unfold pcE;rw[hp,ha];rfl
 ·try rw[c13]
  try simp at c13
  refine .rn [4,5,6,7,8] [] ?_
  refine .done (.condF rfl (.skip (.seq ?_)))
  refine .regionL [0,1,2,3,4] rfl zz0 ?_
  refine .rn [0,1,2] [3,4] ?_
  refine .pc rfl rfl rfl rfl rfl Tryz.call88 (p88 R id day hl1 hl2) ?_
  refine .rn [4] [] ?_
  refine .done (.ret ?_)
  refine⟨_,_,zz2,zz2,?_⟩
  have c14:¬(chkR R).1=0:=by simpa using c13
  have hp:pieE R id=(chkR R).1:=by unfold pieE;rw[if_neg c14]
  have ha:askE R id day=(chkR R).1:=by unfold askE;rw[if_neg c14]
  unfold pcE;rw[hp,ha,if_neg c14]
attribute [local simp] pfind_mpG pmset_mpG pkeep_mpG eq56
def heldK (R:Reg) (day:Int):List He:=if onE R day=0 then heldL (behD R day) else []
def freeK (R:Reg) (day:Int):List Int:=if onE R day=0 then R.ps.filter (fun id=>!(alk (behD R day).y id).isSome) else []
def waitK (R:Reg) (id day:Int):List Int:=if pcE R id day=0 then (behD R day).line id else []
theorem rbeh_both {R:Reg} (h:(chkR R).1=0) (day:Int):∃m,Both R (behD R day) (rbeh R day) m:=beh_ref h day
theorem rbeh_held {R:Reg} (h:(chkR R).1=0) (day:Int):(rbeh R day).hs.filter (fun u=>!decide (u.p=0))=heldL (behD R day):=by
 obtain⟨m,b⟩:=rbeh_both h day
 exact held_ref b (beh_ok h day).2 (RO_of h).p1
theorem Both.hld_eq {R:Reg} {D:Dk} {S:Rst} {n:Nat} (b:Both R D S n) {id:Int} (hp:1≤id):(hld S id<0∧alk D.y id=none)∨∃s:Nat,hld S id=s∧alk D.y id=some (s:Int):=by
 have hsc:=b.i4.sc
 have h1:=b.a.hld b.i b.i4.sc (p:=id) hp
 cases hy:alk D.y id with
 |none=>
  rw[hy] at h1
  exact .inl ⟨by simpa using h1,rfl⟩
 |some s=>
  rw[hy] at h1
  have hge:¬hld S id<0:=by simpa using h1
  rcases idxF_cases (fun u:He=>decide (u.p=id)) S.hs with h|⟨i,h2,h3,h4⟩
  ·exact absurd (show hld S id = -1 from h) (by omega)
  ·refine .inr ⟨i,h3,?_⟩
   have h5:=b.a.hs i h2
   rw[h5] at h4
   simp only[Option.map_eq_map,Option.map_some,Option.some.injEq,decide_eq_true_eq] at h4
   cases hx:alk D.x i with
   |none=>rw[hx] at h4;simp at h4;omega
   |some u=>
    rw[hx] at h4
    have h4:u.p=id:=h4
    have h6:=(b.i.xy _ _ hx).1
    rw[h4,hy] at h6
    rw[h6]
theorem onE_pos {R:Reg} {day:Int} (h:onE R day=0):(chkR R).1=0:=onE_chk h
theorem pcE_0 {R:Reg} {id day:Int} (h:pcE R id day=0):pieE R id=0∧onE R day=0:=by
 unfold pcE at h
 split at h
 ·exact⟨by assumption,h⟩
 ·exact absurd h (by assumption)
theorem pieE_0 {R:Reg} {id:Int} (h:pieE R id=0):(chkR R).1=0∧id∈R.ps:=by
 unfold pieE at h
 split at h
 ·split at h
  ·exact⟨by assumption,by assumption⟩
  ·exact absurd h (by decide)
 ·exact absurd h (by assumption)
theorem filter_tkH {p:He→Bool} {l:List He} {k:Nat} (h:k<l.length):(l.take (k+1)).filter p=(l.take k).filter p++(if p l[k] then [l[k]] else []):=by
 rw[List.take_succ_eq_append_getElem h,List.filter_append]
 cases hp:p l[k]<;>simp[hp]
theorem wQ_ints {vh:VHeap} {n2:Nat} {D:Nat→Bool} {ρ:Nat→Nat} (l:List Int):Alt vh n2 D ρ (wQ l) (ints l):=by
 unfold wQ
 split
 ·rename_i h;subst h;exact .sl0v
 ·exact .same _ rfl
theorem p26 (a:List He) (hl:a.length<4294967296):VPure Tryz.prog 26 [helds a,helds a] fun r=>r=.bool true:=by
 unfold helds
 refine .of_body Tryz.func26 rfl rfl ?_
 refine .seq (.rn ?_)
 refine .seq (.seq (.rn ?_))
 refine .condS rfl (fun c10=>?_) (fun c10=>?_)
 ·try simp at c10
 ·try simp at c10
  refine .skip (.seq (.seq (.rn ?_)))
  refine .block ?_
  refine .loopS (fun s:Nat=>([(0,.vec (a.map encHe)),(1,.vec (a.map encHe)),(5,.int .i64 s)],VHeap.empty)) (fun s=>s≤a.length) (fun s=>a.length - s) 0 (by simp) (.pure (by simp[*]) (by simp)) ?_
  rintro i hi
  simp only at hi ⊢
  refine .seq (.seq (.rn ?_))
  refine .condS rfl (fun c14=>?_) (fun c14=>?_)
  ·try simp at c14
   have hw2:=wr1 i
   refine .skip (.seq (.block (.seq ?_)))
   refine .drawn (ms:=[0,0,3,7,0,0,48,112,255]) (W:=[]) (items:=[.op 0,.op 1,.op 2,.op 3,.op 4,.op 5,.op 6,.op 7,.op 8]) rfl zz0 zz0 zz0 ?_
   iterate 9 refine .rx ?_
   refine .done ?_
   refine .condS rfl (fun c25=>?_) (fun c25=>?_)
   ·try simp at c25
   ·try simp at c25
    refine .skip (.rn ?_)
    refine⟨i+1,zz3,zz3,.pure (by simp[*]) (by simp)⟩
  ·try simp at c14
   refine .exit (.seq (.rn ?_))
   refine .ret ?_
   refine⟨_,_,zz2,zz2,?_⟩
   first|rfl|(simp[*];done)|(simp_all;done)
theorem p19 (R:Reg) (day:Int) (hl1:R.ps.length<4294967296) (hl2:R.ts.length<4294967296):VPure Tryz.prog 19 [encR R,.int .i64 day] fun r=>r=.agg [if onE R day=0 then helds (heldK R day) else .sl0,.int .i64 (onE R day)]:=by
 have ha:=askE_0 R day
 have h88:=p88 R 0 day hl1 hl2
 rw[ha] at h88
 unfold encR
 refine .of_body Tryz.func19 rfl rfl ?_
 refine .seq (.rn ?_)
 refine .seq ?_
 refine .regionL [0,1,2,3] rfl zz0 ?_
 refine .rn [0,1] [2,3] ?_
 refine .pc rfl rfl rfl rfl rfl Tryz.call88 (h88) ?_
 refine .rn [3] [] ?_
 refine .done (.seq (.seq (.rn ?_)))
 refine .condS rfl (fun c13=>?_) (fun c13=>?_)
 ·try simp at c13
  refine .seq (.rn ?_)
  refine .ret ?_
  refine⟨_,_,zz2,zz2,?_⟩
  rw[if_neg c13]
 ·try simp at c13
  have hc:=onE_pos c13
  have hS:=rbeh_ok hc day
  have hR:=RO_of hc
  have hhl:(rbeh R day).hs.length≤16:=by have:=hS.hl;have:=hR.s2;omega
  have hF:=rbeh_held hc day
  have h89:=p89 R day hl1 hl2 hc
  obtain⟨S,hSe⟩:∃S,rbeh R day=S:=⟨_,rfl⟩
  rw[hSe] at hhl hF h89
  refine .skip (.seq (.rn ?_))
  refine .seq ?_
  refine .regionL [0,1,2,3,4] rfl zz0 ?_
  refine .rn [0,1] [2,3,4] ?_
  refine .pc rfl rfl rfl rfl rfl Tryz.call89 (h89) ?_
  refine .rn [3,4] [] ?_
  refine .done (.seq (.seq (.rn ?_)))
  refine .block ?_
  refine .loopS (fun k:Nat=>([(4,.ptr 1 0),(6,.ptr 2 0),(7,.ptr 3 0),(8,.int .i64 k)],⟨5,[(4,.grow 4 (((S.hs.take k).filter fun u=>!decide (u.p=0)).map encHe)),(3,.box [.vec (S.hs.map encHe),.vec (S.ws.map wQ),.int .i64 S.dy]),(2,.box [.grow 4 ((S.hs.take k).filter fun u=>!decide (u.p=0)).length true,.int .i64 0]),(1,.box [.sl0,.int .i64 0])]⟩)) (fun k=>k≤S.hs.length) (fun k=>S.hs.length - k) 0 (by simp) (.mk [] [] zz8 zz9 rfl rfl rfl) ?_
  rintro k hk
  simp only at hk ⊢
  obtain⟨L,hL⟩:∃L,((S.hs.take k).filter fun u=>!decide (u.p=0))=L:=⟨_,rfl⟩
  have hLl:L.length≤k:=by rw[← hL];exact Nat.le_trans (List.length_filter_le _ _) (by rw[List.length_take];omega)
  have hL2:L.length+1≤4294967296:=by omega
  rw[hL]
  refine .seq (.seq (.rn ?_))
  refine .condS rfl (fun c24=>?_) (fun c24=>?_)
  ·try simp at c24
   have hw2:=wr1 k
   have hFt:=filter_tkH (p:=fun u=>!decide (u.p=0)) c24
   rw[hL] at hFt
   refine .skip (.seq (.block (.seq (.rn ?_))))
   refine .condS rfl (fun c33=>?_) (fun c33=>?_)
   ·try simp at c33
    have hF2:((S.hs.take (k+1)).filter fun u=>!decide (u.p=0))=L++[S.hs[k]]:=by rw[hFt];simp_all
    have hE:encHe S.hs[k]=.agg [.int .i64 S.hs[k].p,.int .i64 S.hs[k].s,.int .i64 S.hs[k].a,.int .i64 S.hs[k].b]:=rfl
    clear hFt
    refine .drawn (ms:=[0,1,0,4,0,28,60,124,255,511,1023]) (W:=[7,8,10]) (items:=[.op 0,.op 1,.op 2,.op 3,.op 4,.op 5,.op 6,.op 7,.ck 1,.op 8,.op 9,.op 10]) rfl zz0 zz0 zz0 ?_
    iterate 7 refine .rx ?_
    refine .wv ?_
    refine .ck rfl zz0 ?_
    refine .wv ?_
    refine .rx ?_
    refine .wv ?_
    refine .done (.rn ?_)
    refine⟨k+1,zz3,zz3,(.mk [] [(4,6)] zz8 zz9 rfl rfl rfl)⟩
   ·try simp at c33
    have hF2:((S.hs.take (k+1)).filter fun u=>!decide (u.p=0))=L:=by rw[hFt];simp_all
    clear hFt
    refine .skip (.rn ?_)
    refine⟨k+1,zz3,zz3,(.mk [] [] zz8 zz9 rfl rfl rfl)⟩
  ·try simp at c24
   have hk2:k=S.hs.length:=by omega
   rw[hk2,List.take_length,hF] at hL
   refine .exit (.seq (.rn ?_))
   refine .ret ?_
   refine⟨_,_,zz2,zz2,?_⟩
   rw[if_pos (by simpa using c13)]
   unfold heldK
   rw[if_pos (by simpa using c13),hL]
   simp[helds];exact c13.symm
theorem p21 (R:Reg) (id day:Int) (hl1:R.ps.length<4294967296) (hl2:R.ts.length<4294967296):VPure Tryz.prog 21 [encR R,.int .i64 id,.int .i64 day] fun r=>r=.tup [.int .i64 (wherT R id day).1,.bool (wherT R id day).2.1,.int .i64 (wherT R id day).2.2]:=by
 unfold encR wherT
 refine .of_body Tryz.func21 rfl rfl ?_
 refine .seq (.rn ?_)
 refine .seq ?_
 refine .regionL [0,1,2,3,4] rfl zz0 ?_
 refine .rn [0,1,2] [3,4] ?_
 refine .pc rfl rfl rfl rfl rfl Tryz.call91 (p91 R id day hl1 hl2) ?_
 refine .rn [4] [] ?_
 refine .done (.seq (.seq (.rn ?_)))
 refine .condS rfl (fun c16=>?_) (fun c16=>?_)
 ·try simp at c16
  refine .seq (.rn ?_)
  refine .ret ?_
  refine⟨_,_,zz2,zz2,?_⟩
  unfold pcE at c16 ⊢
  split at c16
  ·rename_i h;simp[h,c16]
  ·rename_i h;simp[h]
 ·try simp at c16
  obtain⟨hp,ho⟩:=pcE_0 c16
  obtain⟨hc,hm⟩:=pieE_0 hp
  have hS:=rbeh_ok hc day
  have hR:=RO_of hc
  have hh:(rbeh R day).hs.length<4294967296:=by have:=hS.hl;have:=hR.s2;omega
  have h92:=p92 (rbeh R day) id hh
  obtain⟨m,hB⟩:=rbeh_both hc day
  have hq:=hB.hld_eq (hR.p1 id hm)
  refine .skip (.seq ?_)
  refine .regionL [0,1,2,3,4,5] rfl zz0 ?_
  refine .rn [0,1] [2,3,4,5] ?_
  refine .pc rfl rfl rfl rfl rfl Tryz.call89 (p89 R day hl1 hl2 hc) ?_
  refine .rn [3] [4,5] ?_
  refine .pc rfl rfl rfl rfl rfl Tryz.call92 (h92) ?_
  refine .rn [5] [] ?_
  refine .done (.seq (.seq (.rn ?_)))
  refine .condS rfl (fun c24=>?_) (fun c24=>?_)
  ·try simp at c24
   refine .seq (.rn ?_)
   refine .ret ?_
   refine⟨_,_,zz2,zz2,?_⟩
   rcases hq with⟨_,hq⟩|⟨s,hq,_⟩
   ·simp[hp,ho,hq]
   ·omega
  ·try simp at c24
   refine .skip (.seq (.rn ?_))
   refine .ret ?_
   refine⟨_,_,zz2,zz2,?_⟩
   rcases hq with⟨hq,_⟩|⟨s,hq,hq2⟩
   ·omega
   ·simp[hp,ho,hq,hq2]
theorem p23 (R:Reg) (day:Int) (hl1:R.ps.length<4294967296) (hl2:R.ts.length<4294967296):VPure Tryz.prog 23 [encR R,.int .i64 day] fun r=>r=.agg [freeV R day,.int .i64 (onE R day)]:=by
 have ha:=askE_0 R day
 have h88:=p88 R 0 day hl1 hl2
 rw[ha] at h88
 unfold encR freeV
 refine .of_body Tryz.func23 rfl rfl ?_
 refine .seq (.rn ?_)
 refine .seq ?_
 refine .regionL [0,1,2,3] rfl zz0 ?_
 refine .rn [0,1] [2,3] ?_
 refine .pc rfl rfl rfl rfl rfl Tryz.call88 (h88) ?_
 refine .rn [3] [] ?_
 refine .done (.seq (.seq (.rn ?_)))
 refine .condS rfl (fun c13=>?_) (fun c13=>?_)
 ·try simp at c13
  refine .seq (.rn ?_)
  refine .ret ?_
  refine⟨_,_,zz2,zz2,?_⟩
  rw[if_neg c13]
 ·try simp at c13
  have hc:=onE_pos c13
  have hS:=rbeh_ok hc day
  have hR:=RO_of hc
  have hh:(rbeh R day).hs.length<4294967296:=by have:=hS.hl;have:=hR.s2;omega
  obtain⟨m,hB⟩:=rbeh_both hc day
  have hq0:∀id∈R.ps,decide (hld (rbeh R day) id<0) = !(alk (behD R day).y id).isSome:=fun id hid=>hB.a.hld hB.i hB.i4.sc (hR.p1 id hid)
  have hpl:=hR.pl
  have h89:=p89 R day hl1 hl2 hc
  obtain⟨P,hP⟩:∃P:Int→Bool,(fun id=>!(alk (behD R day).y id).isSome)=P:=⟨_,rfl⟩
  have hq:∀id∈R.ps,decide (hld (rbeh R day) id<0)=P id:=fun id hid=>by rw[← hP];exact hq0 id hid
  rw[hP]
  clear hq0 hP
  obtain⟨S,hSe⟩:∃S,rbeh R day=S:=⟨_,rfl⟩
  rw[hSe] at hh hq h89
  refine .skip (.seq (.rn ?_))
  refine .seq ?_
  refine .regionL [0,1,2,3,4] rfl zz0 ?_
  refine .rn [0,1] [2,3,4] ?_
  refine .pc rfl rfl rfl rfl rfl Tryz.call89 (h89) ?_
  refine .rn [3,4] [] ?_
  refine .done (.seq (.seq (.rn ?_)))
  refine .block ?_
  refine .loopS (fun k:Nat=>([(2,.ptr 0 0),(4,.ptr 1 0),(6,.ptr 2 0),(7,.ptr 3 0),(8,.int .i64 k)],⟨5,[(4,.grow 1 (((R.ps.take k).filter P).map (.int .i64))),(3,.box [.vec (S.hs.map encHe),.vec (S.ws.map wQ),.int .i64 S.dy]),(2,.box [.grow 4 ((R.ps.take k).filter P).length true,.int .i64 0]),(1,.box [.sl0,.int .i64 0]),(0,.box [ints R.ps,.int .i64 R.sc,turns R.ts])]⟩)) (fun k=>k≤R.ps.length) (fun k=>R.ps.length - k) 0 (by simp) (.mk [] [] zz8 zz9 rfl rfl rfl) ?_
  rintro k hk
  simp only at hk ⊢
  obtain⟨L,hL⟩:∃L,((R.ps.take k).filter P)=L:=⟨_,rfl⟩
  have hLl:L.length≤k:=by rw[← hL];exact Nat.le_trans (List.length_filter_le _ _) (by rw[List.length_take];omega)
  have hL2:L.length+1≤4294967296:=by omega
  rw[hL]
  refine .seq (.seq (.rn ?_))
  refine .condS rfl (fun c24=>?_) (fun c24=>?_)
  ·try simp at c24
   have hw2:=wr1 k
   have hFt:=filter_tk (p:=P) c24
   have hqk:=hq R.ps[k] (List.getElem_mem c24)
   rw[hL] at hFt
   refine .skip (.seq (.block (.seq ?_)))
   refine .drawn (ms:=[0,0,2,0,14,30,63,127]) (W:=[6]) (items:=[.op 0,.op 1,.op 2,.op 3,.op 4,.op 5,.op 6,.op 7]) rfl zz0 zz0 zz0 ?_
   iterate 6 refine .rx ?_
   refine .wp rfl rfl rfl rfl rfl Tryz.call92 (p92 S R.ps[k] hh) ?_
   refine .rx ?_
   refine .done ?_
   refine .condS rfl (fun c34=>?_) (fun c34=>?_)
   ·try simp at c34
    have hF2:((R.ps.take (k+1)).filter P)=L++[R.ps[k]]:=by rw[hFt];simp_all
    clear hFt hqk
    refine .drawn (ms:=[0,1,0,4,0,28,60,124,255,511,1023]) (W:=[7,8,10]) (items:=[.op 0,.op 1,.op 2,.op 3,.op 4,.op 5,.op 6,.op 7,.ck 1,.op 8,.op 9,.op 10]) rfl zz0 zz0 zz0 ?_
    iterate 7 refine .rx ?_
    refine .wv ?_
    refine .ck rfl zz0 ?_
    refine .wv ?_
    refine .rx ?_
    refine .wv ?_
    refine .done (.rn ?_)
    refine⟨k+1,zz3,zz3,(.mk [] [(4,6)] zz8 zz9 rfl rfl rfl)⟩
   ·try simp at c34
    have hF2:((R.ps.take (k+1)).filter P)=L:=by rw[hFt];simp_all
    clear hFt hqk
    refine .skip (.rn ?_)
    refine⟨k+1,zz3,zz3,(.mk [] [] zz8 zz9 rfl rfl rfl)⟩
  ·try simp at c24
   have hk2:k=R.ps.length:=by omega
   rw[hk2,List.take_length] at hL
   refine .exit (.seq (.rn ?_))
   refine .ret ?_
   refine⟨_,_,zz2,zz2,?_⟩
   rw[if_pos (by simpa using c13),hL]
   simp[ints];exact c13.symm
theorem p25 (R:Reg) (id day:Int) (hl1:R.ps.length<4294967296) (hl2:R.ts.length<4294967296):VPure Tryz.prog 25 [encR R,.int .i64 id,.int .i64 day] fun r=>r=.agg [wQ (waitK R id day),.int .i64 (pcE R id day)]:=by
 unfold encR waitK
 refine .of_body Tryz.func25 rfl rfl ?_
 refine .seq (.rn ?_)
 refine .seq ?_
 refine .regionL [0,1,2,3,4] rfl zz0 ?_
 refine .rn [0,1,2] [3,4] ?_
 refine .pc rfl rfl rfl rfl rfl Tryz.call91 (p91 R id day hl1 hl2) ?_
 refine .rn [4] [] ?_
 refine .done (.seq (.seq (.rn ?_)))
 refine .condS rfl (fun c14=>?_) (fun c14=>?_)
 ·try simp at c14
  refine .seq (.rn ?_)
  refine .ret ?_
  refine⟨_,_,zz2,zz2,?_⟩
  rw[if_neg c14];rfl
 ·try simp at c14
  obtain⟨hp,ho⟩:=pcE_0 c14
  obtain⟨hc,hm⟩:=pieE_0 hp
  have hS:=rbeh_ok hc day
  have hR:=RO_of hc
  obtain⟨m,hB⟩:=rbeh_both hc day
  obtain⟨i,L,hi,hiw,hL,hsL,hLn⟩:=at_p hS hm
  have hwt:=hB.a.wt hm
  rw[hi,hsL] at hwt
  have h89:=p89 R day hl1 hl2 hc
  obtain⟨S,hSe⟩:∃S,rbeh R day=S:=⟨_,rfl⟩
  rw[hSe] at hiw hL h89
  have hL2:S.ws[i]=L:=(List.getElem?_eq_some_iff.1 hL).2
  refine .skip (.seq ?_)
  refine .regionL [0,1,2,3,4] rfl zz0 ?_
  refine .rn [0,1] [2,3,4] ?_
  refine .pc rfl rfl rfl rfl rfl Tryz.call89 (h89) ?_
  refine .rn [3,4] [] ?_
  refine .done (.seq ?_)
  refine .drawn (ms:=[0,1,0,0,12,31,63,127,255]) (W:=[4,8]) (items:=[.op 0,.op 1,.op 2,.op 3,.op 4,.ck 1,.op 5,.op 6,.op 7,.op 8]) rfl zz0 zz0 zz0 ?_
  iterate 4 refine .rx ?_
  refine .wp rfl rfl rfl rfl rfl Tryz.call81 (p81 R id hl1) ?_
  refine .ck rfl zz0 ?_
  iterate 3 refine .rx ?_
  refine .wv ?_
  refine .done (.ret ?_)
  refine⟨_,_,zz2,zz2,?_⟩
  rw[if_pos c14,← hwt,show pcE R id day=0 from c14]
attribute [local simp] pfind_mpG pmset_mpG pkeep_mpG
theorem heldV_soft (R:Reg) (day:Int) (vh:VHeap) (n2:Nat) (D:Nat→Bool) (ρ:Nat→Nat):Alt vh n2 D ρ (if onE R day=0 then helds (heldK R day) else .sl0) (helds (heldK R day)):=by
 by_cases h:onE R day=0
 ·rw[if_pos h];exact .same _ (helds_isF _)
 ·rw[if_neg h]
  have:heldK R day=[]:=by unfold heldK;rw[if_neg h]
  rw[this];exact .sl0v
theorem freeV_soft (R:Reg) (day:Int) (vh:VHeap) (n2:Nat) (D:Nat→Bool) (ρ:Nat→Nat):Alt vh n2 D ρ (freeV R day) (ints (freeK R day)):=by
 unfold freeV freeK
 split
 ·exact .same _ rfl
 ·exact .sl0v
theorem waitT_soft (R:Reg) (id day:Int):(waitT R id day).2=pcE R id day∧∀(vh:VHeap) (n2:Nat) (D:Nat→Bool) (ρ:Nat→Nat),Alt vh n2 D ρ (waitT R id day).1 (ints (waitK R id day)):=by
 unfold waitT waitK pcE
 split
 ·split
  ·rename_i h;exact⟨h.symm,fun _ _ _ _=>.same _ rfl⟩
  ·exact⟨rfl,fun _ _ _ _=>.sl0v⟩
 ·exact⟨rfl,fun _ _ _ _=>.sl0v⟩
theorem p18s (R:Reg) (day:Int) (hl1:R.ps.length<4294967296) (hl2:R.ts.length<4294967296):VPure Tryz.prog 18 [encR R,.int .i64 day] fun r=>r=.tup [helds (heldK R day),.int .i64 (onE R day)]:=
 (p18 R day hl1 hl2).alt fun r h=>⟨_,by
  subst h
  have:holdV R day=if onE R day=0 then helds (heldK R day) else .sl0:=by
   unfold holdV heldK
   split<;>simp_all
  rw[this]
  exact .tup' (.cons (heldV_soft _ _ _ _ _ _) (.cons (.same _ rfl) .nil)),by simp[PV.isF,PV.allF],rfl⟩
theorem p19s (R:Reg) (day:Int) (hl1:R.ps.length<4294967296) (hl2:R.ts.length<4294967296):VPure Tryz.prog 19 [encR R,.int .i64 day] fun r=>r=.agg [helds (heldK R day),.int .i64 (onE R day)]:=
 (p19 R day hl1 hl2).alt fun r h=>⟨_,by subst h;exact .agg' (.cons (heldV_soft _ _ _ _ _ _) (.cons (.same _ rfl) .nil)),by simp[PV.isF,PV.allF],rfl⟩
theorem p22s (R:Reg) (day:Int) (hl1:R.ps.length<4294967296) (hl2:R.ts.length<4294967296):VPure Tryz.prog 22 [encR R,.int .i64 day] fun r=>r=.tup [ints (freeK R day),.int .i64 (onE R day)]:=
 (p22 R day hl1 hl2).alt fun r h=>⟨_,by subst h;exact .tup' (.cons (freeV_soft _ _ _ _ _ _) (.cons (.same _ rfl) .nil)),by simp[PV.isF,PV.allF,ints],rfl⟩
theorem p23s (R:Reg) (day:Int) (hl1:R.ps.length<4294967296) (hl2:R.ts.length<4294967296):VPure Tryz.prog 23 [encR R,.int .i64 day] fun r=>r=.agg [ints (freeK R day),.int .i64 (onE R day)]:=
 (p23 R day hl1 hl2).alt fun r h=>⟨_,by subst h;exact .agg' (.cons (freeV_soft _ _ _ _ _ _) (.cons (.same _ rfl) .nil)),by simp[PV.isF,PV.allF,ints],rfl⟩
theorem p24s (R:Reg) (id day:Int) (hl1:R.ps.length<4294967296) (hl2:R.ts.length<4294967296):VPure Tryz.prog 24 [encR R,.int .i64 id,.int .i64 day] fun r=>r=.tup [ints (waitK R id day),.int .i64 (pcE R id day)]:=
 (p24 R id day hl1 hl2).alt fun r h=>⟨_,by
  subst h
  obtain⟨h1,h2⟩:=waitT_soft R id day
  rw[h1]
  exact .tup' (.cons (h2 _ _ _ _) (.cons (.same _ rfl) .nil)),by simp[PV.isF,PV.allF,ints],rfl⟩
theorem p25s (R:Reg) (id day:Int) (hl1:R.ps.length<4294967296) (hl2:R.ts.length<4294967296):VPure Tryz.prog 25 [encR R,.int .i64 id,.int .i64 day] fun r=>r=.agg [ints (waitK R id day),.int .i64 (pcE R id day)]:=
 (p25 R id day hl1 hl2).alt fun r h=>⟨_,by subst h;exact .agg' (.cons (wQ_ints _) (.cons (.same _ rfl) .nil)),by simp[PV.isF,PV.allF,ints],rfl⟩
def fewB (R:Reg):Bool:=decide (R.ps.length≤30)&&(decide (R.ts.length≤30)||(decide (120<R.ts.length)&&decide (R.ts.length≤130)))
theorem heldK_len {R:Reg} (day:Int):(heldK R day).length<4294967296:=by
 unfold heldK
 split
 ·rename_i h
  have:=(beh_ok (onE_pos h) day).2.ln
  rw[heldL_len];omega
 ·simp
theorem freeK_len {R:Reg} (day:Int) (h:R.ps.length<4294967296):(freeK R day).length<4294967296:=by
 unfold freeK
 split
 ·exact Nat.lt_of_le_of_lt (List.length_filter_le _ _) h
 ·simp
theorem waitK_len {R:Reg} (id day:Int):(waitK R id day).length<4294967296:=by
 unfold waitK
 split
 ·rename_i h
  have:=(beh_ok (onE_pos (pcE_0 h).2) day).1.len
  unfold Dk.line
  cases hq:alk (behD R day).q id with
  |none=>simp
  |some l=>have:=this id l hq;simp;omega
 ·simp
theorem p14 (R:Reg) (hl1:R.ps.length<4611686018427387904) (hl2:R.ts.length<4611686018427387904):VPure Tryz.prog 14 [encR R] fun r=>r=.bool (fewB R):=by
 unfold encR fewB
 refine .of_body Tryz.func14 rfl rfl ?_
 refine .seq (.rn ?_)
 refine .seq ?_
 refine .regionL [0,1,2,3,4,5,6,7,8,9,10,11,12,13,14,15,16,17,18,19,20,21,22] rfl zz0 ?_
 refine .rn [0,1,2,3,4] [5,6,7,8,9,10,11,12,13,14,15,16,17,18,19,20,21,22] ?_
 refine .split (t:=7) rfl (fun c7=>?_) (fun c7=>?_)
 ·try rw[c7]
  try simp at c7
  refine .rn [5,6,7,8,9] [10,11,12,13,14,15,16,17,18,19,20,21,22] ?_
  refine .split (t:=12) rfl (fun c12=>?_) (fun c12=>?_)
  ·try rw[c12]
   try simp at c12
   refine .rn [10,11,12,13,14,15,16,17,18,19,20,21,22] [] ?_
   refine .done (.ret ?_)
   refine⟨_,_,zz2,zz2,?_⟩
   refine congrArg PV.bool ?_
   rw[Bool.eq_iff_iff];simp_all<;>omega
  ·try rw[c12]
   try simp at c12
   refine .rn [10,11,12,13,14] [15,16,17,18,19,20,21,22] ?_
   refine .split (t:=17) rfl (fun c17=>?_) (fun c17=>?_)
   ·try rw[c17]
    try simp at c17
    refine .rn [15,16,17,18,19,20,21,22] [] ?_
    refine .done (.ret ?_)
    refine⟨_,_,zz2,zz2,?_⟩
    refine congrArg PV.bool ?_
    rw[Bool.eq_iff_iff];simp_all<;>omega
   ·try rw[c17]
    try simp at c17
    refine .rn [15,16,17,18,19,20,21,22] [] ?_
    refine .done (.ret ?_)
    refine⟨_,_,zz2,zz2,?_⟩
    refine congrArg PV.bool ?_
    rw[Bool.eq_iff_iff];simp_all<;>omega
 ·try rw[c7]
  try simp at c7
  refine .rn [5,6,7,8,9,10,11,12,13,14,15,16,17,18,19,20,21,22] [] ?_
  refine .done (.ret ?_)
  refine⟨_,_,zz2,zz2,?_⟩
  refine congrArg PV.bool ?_
  rw[Bool.eq_iff_iff];simp_all<;>omega
theorem p3w (hs:VPure Tryz.prog 15 [] fun r=>r=.bool true) (R:Reg) (id day:Int) (hl1:R.ps.length<4611686018427387904) (hl2:R.ts.length<4611686018427387904):VPure Tryz.prog 3 [encR R,.int .i64 id,.int .i64 day] fun r=>r=.bool true:=by
 refine .of_body Tryz.func3 rfl rfl ?_
 refine .seq (.rn ?_)
 refine .seq (.seq ?_)
 refine .rec (vts2:=[(1,.int .i64 id),(2,.int .i64 day),(3,.ptr 0 0),(6,.bool false)]) (vh2:=⟨1,[(0,.box [ints R.ps,.int .i64 R.sc,turns R.ts])]⟩) (.mk [] [] zz8 zz9 rfl rfl rfl) ?_
 refine .regionL [0,1,2] rfl zz0 ?_
 refine .rn [0] [1,2] ?_
 refine .pc rfl rfl rfl rfl rfl Tryz.call14 (p14 R hl1 hl2) ?_
 refine .rn [2] [] ?_
 refine .done ?_
 refine .condS rfl (fun c28=>?_) (fun c28=>?_)
 ·try simp at c28
  refine .seq ?_
  refine .regionL [0,1] rfl zz0 ?_
  refine .pc rfl rfl rfl rfl rfl Tryz.call15 (hs) ?_
  refine .rn [1] [] ?_
  refine .done (.ret ?_)
  refine⟨_,_,zz2,zz2,?_⟩
  first|rfl|(simp[*];done)|(simp_all;done)
 ·try simp at c28
  have hq:R.ps.length<4294967296∧R.ts.length<4294967296:=by simp[fewB] at c28;omega
  obtain⟨hq1,hq2⟩:=hq
  have h16:=p16 R hq1 hq2
  have h17:=p17 R hq1 hq2
  have h18:=p18s R day hq1 hq2
  have h19:=p19s R day hq1 hq2
  have h20:=p20 R id day hq1 hq2
  have h21:=p21 R id day hq1 hq2
  have h22:=p22s R day hq1 hq2
  have h23:=p23s R day hq1 hq2
  have h24:=p24s R id day hq1 hq2
  have h25:=p25s R id day hq1 hq2
  have g1:=heldK_len (R:=R) day
  have g2:=freeK_len day hq1
  have g3:=waitK_len (R:=R) id day
  obtain⟨a1,ha1⟩:∃x,(chkR R).1=x:=⟨_,rfl⟩
  obtain⟨a2,ha2⟩:∃x,(chkR R).2=x:=⟨_,rfl⟩
  obtain⟨H,hH⟩:∃x,heldK R day=x:=⟨_,rfl⟩
  obtain⟨F,hF⟩:∃x,freeK R day=x:=⟨_,rfl⟩
  obtain⟨W,hW⟩:∃x,waitK R id day=x:=⟨_,rfl⟩
  obtain⟨e1,he1⟩:∃x,onE R day=x:=⟨_,rfl⟩
  obtain⟨e2,he2⟩:∃x,pcE R id day=x:=⟨_,rfl⟩
  obtain⟨w1,hw1⟩:∃x,(wherT R id day).1=x:=⟨_,rfl⟩
  obtain⟨w2,hw2⟩:∃x,(wherT R id day).2.1=x:=⟨_,rfl⟩
  obtain⟨w3,hw3⟩:∃x,(wherT R id day).2.2=x:=⟨_,rfl⟩
  rw[ha1,ha2] at h16 h17
  rw[hH,he1] at h18 h19
  rw[hw1,hw2,hw3] at h20 h21
  rw[hF,he1] at h22 h23
  rw[hW,he2] at h24 h25
  rw[hH] at g1
  rw[hF] at g2
  rw[hW] at g3
  clear ha1 ha2 hH hF hW he1 he2 hw1 hw2 hw3
  refine .skip (.seq ?_)
  refine .regionL [0,1,2,3,4,5,6] rfl zz0 ?_
  refine .rn [0] [1,2,3,4,5,6] ?_
  refine .pc rfl rfl rfl rfl rfl Tryz.call16 (h16) ?_
  refine .rn [2,3,4,5,6] [] ?_
  refine .done (.seq ?_)
  refine .regionL [0,1,2,3] rfl zz0 ?_
  refine .rn [0] [1,2,3] ?_
  refine .pc rfl rfl rfl rfl rfl Tryz.call17 (h17) ?_
  refine .rn [2,3] [] ?_
  refine .done (.seq ?_)
  refine .regionL [0,1,2,3,4,5,6,7] rfl zz0 ?_
  refine .rn [0,1] [2,3,4,5,6,7] ?_
  refine .pc rfl rfl rfl rfl rfl Tryz.call18 (h18) ?_
  refine .rn [3,4,5,6,7] [] ?_
  refine .done (.seq ?_)
  refine .regionL [0,1,2,3,4] rfl zz0 ?_
  refine .rn [0,1] [2,3,4] ?_
  refine .pc rfl rfl rfl rfl rfl Tryz.call19 (h19) ?_
  refine .rn [3,4] [] ?_
  refine .done (.seq ?_)
  refine .regionL [0,1,2,3,4,5,6,7,8,9,10] rfl zz0 ?_
  refine .rn [0,1,2] [3,4,5,6,7,8,9,10] ?_
  refine .pc rfl rfl rfl rfl rfl Tryz.call20 (h20) ?_
  refine .rn [4,5,6,7,8,9,10] [] ?_
  refine .done (.seq ?_)
  refine .regionL [0,1,2,3,4,5,6,7,8,9,10] rfl zz0 ?_
  refine .rn [0,1,2] [3,4,5,6,7,8,9,10] ?_
  refine .pc rfl rfl rfl rfl rfl Tryz.call21 (h21) ?_
  refine .rn [4,5,6,7,8,9,10] [] ?_
  refine .done (.seq ?_)
  refine .regionL [0,1,2,3,4,5,6,7] rfl zz0 ?_
  refine .rn [0,1] [2,3,4,5,6,7] ?_
  refine .pc rfl rfl rfl rfl rfl Tryz.call22 (h22) ?_
  refine .rn [3,4,5,6,7] [] ?_
  refine .done (.seq ?_)
  refine .regionL [0,1,2,3,4] rfl zz0 ?_
  refine .rn [0,1] [2,3,4] ?_
  refine .pc rfl rfl rfl rfl rfl Tryz.call23 (h23) ?_
  refine .rn [3,4] [] ?_
  refine .done (.seq ?_)
  refine .regionL [0,1,2,3,4,5,6,7,8] rfl zz0 ?_
  refine .rn [0,1,2] [3,4,5,6,7,8] ?_
  refine .pc rfl rfl rfl rfl rfl Tryz.call24 (h24) ?_
  refine .rn [4,5,6,7,8] [] ?_
  refine .done (.seq ?_)
  refine .regionL [0,1,2,3,4,5] rfl zz0 ?_
  refine .rn [0,1,2] [3,4,5] ?_
  refine .pc rfl rfl rfl rfl rfl Tryz.call25 (h25) ?_
  refine .rn [4,5] [] ?_
  refine .done (.seq ?_)
  refine .regionL [0,1,2,3,4,5,6,7,8,9,10,11,12,13,14,15,16,17,18,19,20,21,22,23,24,25,26,27,28,29,30,31,32,33,34,35,36,37] rfl zz0 ?_
  refine .rn [0,1,2,3,4] [5,6,7,8,9,10,11,12,13,14,15,16,17,18,19,20,21,22,23,24,25,26,27,28,29,30,31,32,33,34,35,36,37] ?_
  refine .split (t:=86) rfl (fun c86=>?_) (fun c86=>?_)
  ·try rw[c86]
   try simp at c86
   refine .rn [5,6,7,8,9,10] [11,12,13,14,15,16,17,18,19,20,21,22,23,24,25,26,27,28,29,30,31,32,33,34,35,36,37] ?_
   refine .split (t:=92) rfl (fun c92=>?_) (fun c92=>?_)
   ·try rw[c92]
    try simp at c92
    refine .rn [11,12,13] [14,15,16,17,18,19,20,21,22,23,24,25,26,27,28,29,30,31,32,33,34,35,36,37] ?_
    refine .pc rfl rfl rfl rfl rfl Tryz.call26 (p26 H g1) ?_
    refine .rn [15,16] [17,18,19,20,21,22,23,24,25,26,27,28,29,30,31,32,33,34,35,36,37] ?_
    refine .split (t:=98) rfl (fun c98=>?_) (fun c98=>?_)
    ·try rw[c98]
     try simp at c98
     refine .rn [17,18,19,20,21,22] [23,24,25,26,27,28,29,30,31,32,33,34,35,36,37] ?_
     refine .split (t:=104) rfl (fun c104=>?_) (fun c104=>?_)
     ·try rw[c104]
      try simp at c104
      refine .rn [23,24,25,26,27] [28,29,30,31,32,33,34,35,36,37] ?_
      refine .split (t:=109) rfl (fun c109=>?_) (fun c109=>?_)
      ·try rw[c109]
       try simp at c109
       refine .rn [28,29,30,31,32] [33,34,35,36,37] ?_
       refine .split (t:=114) rfl (fun c114=>?_) (fun c114=>?_)
       ·try rw[c114]
        try simp at c114
        refine .rn [33,34,35,36,37] [] ?_
        refine .done (.seq ?_)
        refine .regionL [0,1,2,3,4,5,6,7,8,9,10,11,12,13,14,15,16,17,18,19,20,21,22,23,24,25,26,27,28] rfl zz0 ?_
        refine .pc rfl rfl rfl rfl rfl Tryz.call15 (hs) ?_
        refine .rn [1] [2,3,4,5,6,7,8,9,10,11,12,13,14,15,16,17,18,19,20,21,22,23,24,25,26,27,28] ?_
        refine .split (t:=120) rfl (fun c120=>?_) (fun c120=>?_)
        ·try rw[c120]
         try simp at c120
         refine .rn [2,3,4] [5,6,7,8,9,10,11,12,13,14,15,16,17,18,19,20,21,22,23,24,25,26,27,28] ?_
         refine .split (t:=123) rfl (fun c123=>?_) (fun c123=>?_)
         ·try rw[c123]
          try simp at c123
          refine .rn [5,6,7] [8,9,10,11,12,13,14,15,16,17,18,19,20,21,22,23,24,25,26,27,28] ?_
          refine .pc rfl rfl rfl rfl rfl Tryz.call27 (p27 F F g2 g2) ?_
          refine .rn [9,10] [11,12,13,14,15,16,17,18,19,20,21,22,23,24,25,26,27,28] ?_
          refine .split (t:=129) rfl (fun c129=>?_) (fun c129=>?_)
          ·try rw[c129]
           try simp at c129
           refine .rn [11,12,13,14,15,16] [17,18,19,20,21,22,23,24,25,26,27,28] ?_
           refine .split (t:=135) rfl (fun c135=>?_) (fun c135=>?_)
           ·try rw[c135]
            try simp at c135
            refine .rn [17,18,19] [20,21,22,23,24,25,26,27,28] ?_
            refine .pc rfl rfl rfl rfl rfl Tryz.call27 (p27 W W g3 g3) ?_
            refine .rn [21,22] [23,24,25,26,27,28] ?_
            refine .split (t:=141) rfl (fun c141=>?_) (fun c141=>?_)
            ·try rw[c141]
             try simp at c141
             refine .rn [23,24,25,26,27,28] [] ?_
             refine .done (.ret ?_)
             refine⟨_,_,zz2,zz2,?_⟩
             first|rfl|(simp[*];done)|(simp_all;done)
            ·try rw[c141]
             try simp at c141
           ·try rw[c135]
            try simp at c135
          ·try rw[c129]
           try simp at c129
         ·try rw[c123]
          try simp at c123
        ·try rw[c120]
         try simp at c120
       ·try rw[c114]
        try simp at c114
      ·try rw[c109]
       try simp at c109
     ·try rw[c104]
      try simp at c104
    ·try rw[c98]
     try simp at c98
   ·try rw[c92]
    try simp at c92
  ·try rw[c86]
   try simp at c86
theorem p3 (R:Reg) (id day:Int) (hR:R.ps.length<inex∧R.ts.length<inex):VPure Tryz.prog 3 [encR R,.int .i64 id,.int .i64 day] fun r=>r=.bool true:=p3w p15 R id day hR.1 hR.2
end Go.Am.Hi
end
