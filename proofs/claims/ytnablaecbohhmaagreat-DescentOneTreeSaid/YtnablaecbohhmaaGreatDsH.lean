/-
 What is used in the proof of a statement (part DsH); no condition.
-/
import Derived.Test.YtnablaecbohhmaaGreatDsZ
import Derived.Test.YtnablaecbohhmaaGreatVm2
import Derived.Test.YtnablaecbohhmaaGreatDsT
import Derived.Test.YtnablaecbohhmaaGreatDsG
import Derived.Test.YtnablaecbohhmaaGreatDsF
import Derived.Test.YtnablaecbohhmaaGreatDsB
import Derived.Test.YtnablaecbohhmaaGreatDsD
import Derived.Test.YtnablaecbohhmaaGreatDsA
set_option linter.all false
set_option maxHeartbeats 40000000
set_option maxRecDepth 100000
section
namespace Go.Am.Ds
open Go Go.Am Go.Proofs Tryz
attribute [local simp] vrun zaz zbg vop vopA zb2 zab.back hidI hidF zdh bm Nat.testBit_eq_decide_div_mod_eq za6 zbo zb4 vO zbc vlen zbs zbz zd2 zaq zak zcj vbox zbe zdu zby zge zdt zcm zau zcn zav zcl zbf zci zbr zbl vbnd zcz vidx zbp zdk zar zbt zct zdj zd9 zd6 vbin vsc vsc1 vscs vscl zbv aint zb3 zdl za8 zcx zd0 pvcV pvc pvcs tput tget zdd zab.get zab.alloc zab.put zab.drop zab.empty zce vput zdi zbb zca zda chunk List.range List.range.loop za0 zbu za1 frz frzL PV.isF PV.allF PV.scal PV.allS retP subT zds PV.one PV.ids PV.idsL zcc beq_eq zbw zbx
def lrgB (b:Br):Bool:=decide (30<b.slips.length)||decide (24<b.cops.length)
def lrgT (T:List Br):Bool:=decide (48<T.length)||T.any lrgB
theorem zeg (b:Br):zcf b=.agg [.int .i64 b.above,ints b.slips,ints b.cops]:=rfl
theorem p190 (b:Br)(h1:b.slips.length<4611686018427387904)(h2:b.cops.length<4611686018427387904):zat prog 190 [zcf b] fun r=>r=.bool (lrgB b):=by
 unfold zcf
 refine .zah func190 rfl rfl ?_
 refine .sr ?_
 refine .seq ?_
 refine .zac [0,1,2,3,4,5,6,7,8,9,10] rfl zz0 ?_
 refine .rn [0,1,2,3,4] _ ?_
 refine .split (t:=7) rfl (fun c7=>?_) (fun c7=>?_)
 ·try rw[c7]
  try simp at c7
  refine .rn [5,6,7,8,9,10] [] ?_
  refine .done (.ret ?_)
  refine⟨_,_,zz4,zz4,?_⟩
  simp[lrgB];omega
 try rw[c7]
 try simp at c7
 refine .rn [5,6,7,8,9,10] [] ?_
 refine .done (.ret ?_)
 refine⟨_,_,zz4,zz4,?_⟩
 have h:decide (30<b.slips.length)=false:=by simp;omega
 simp[lrgB,h]
 omega
theorem p206 {α:Type}(l:List α)(enc:α→PV)(p:α→Bool)(f:FuncId)(xs ys:List PV)(hl:l.length<4611686018427387904)(hz:∀a,(enc a).cells.length=3)(he:∀a,PV.agg (List.take 3 (enc a).cells)=enc a)(hx:PV.allF xs=true)(hy:PV.allF ys=true)(hF:∀a,(enc a).isF=true)(hcf:∀cs w,(callFunc f cs).run prog w=.ok (.enter f cs) w)(hp:∀a∈l,zat prog f (xs++[enc a]++ys) fun r=>r=.bool (p a)):zat prog 206 [.vec (l.map enc),.func f xs ys] fun r=>r=.int .i64 (idxF p 0 l):=by
 refine .zah func206 rfl rfl ?_
 refine .sr ?_
 refine .seq (.sr ?_)
 refine .block ?_
 refine .zco (fun s:Nat=>([(0,.vec (l.map enc)),(1,.func f xs ys),(7,.int .i64 l.length),(8,.int .i64 s)],zab.empty)) (fun s=>s≤l.length∧idxF p s (l.drop s)=idxF p 0 l) (fun s=>l.length - s) 0 ⟨by simp,by simp⟩ (.pure (by simp[*]) (by simp)) ?_
 rintro i ⟨hi,hr⟩
 simp only at hi hr ⊢
 refine .sr ?_
 refine .seq ?_
 refine .cs ?_ ?_<;>intro c9
 ·try simp at c9
  have hw2:=wr1 i
  rw[zgx p l i c9] at hr
  have he:=he l[i]
  have hz:=hz l[i]
  have hp:=hp l[i] (List.getElem_mem c9)
  refine .skip (.seq (.block (.sr ?_)))
  refine .seq ?_
  refine .zac [0,1,2,3,4,5] rfl zz0 ?_
  refine .rn [0,1,2,3,4] _ ?_
  refine .step rfl rfl (.pure rfl rfl rfl hcf (by decide) (hp) (by first|rfl|simp[*]) ?_)
  rintro _ rfl
  refine .done ?_
  refine .cs ?_ ?_<;>intro c16
  ·try simp at c16
   refine .sr ?_
   refine .ret ?_
   refine⟨_,_,zz4,zz4,?_⟩
   rw[← hr,if_pos c16]
  try simp at c16
  refine .skip (.rn ?_)
  refine⟨i+1,⟨zz5,?_⟩,zz5,.pure (by simp[*]) (by simp)⟩
  rw[← hr,if_neg (by simp[c16])]
 try simp at c9
 have:i=l.length:=by omega
 refine .exit (.sr ?_)
 refine .ret ?_
 refine⟨_,_,zz4,zz4,?_⟩
 rw[← hr,this,List.drop_length];rfl
theorem p191 (T:List Br)(hl:T.length<4611686018427387904)(hb:∀b∈T,b.slips.length<4611686018427387904∧b.cops.length<4611686018427387904):zat prog 191 [.vec (T.map zcf),.func 190 [] []] fun r=>r=.bool (T.any lrgB):=by
 refine .zah func191 rfl rfl ?_
 refine .sr ?_
 refine .seq ?_
 refine .zac [0,1,2,3,4] rfl zz0 ?_
 refine .rn [0,1] _ ?_
 refine .pc rfl rfl rfl rfl rfl call206 (p206 T zcf lrgB 190 [] [] hl (fun _=>rfl) (fun _=>rfl) rfl rfl (fun _=>by simp) call190 (fun b hbT=>p190 b (hb b hbT).1 (hb b hbT).2)) ?_
 refine .rn [3,4] [] ?_
 refine .done (.ret ?_)
 refine⟨_,_,zz4,zz4,?_⟩
 rw[← zlx _ T 0]
theorem p153 (T:List Br)(hl:T.length<4611686018427387904)(hb:∀b∈T,b.slips.length<4611686018427387904∧b.cops.length<4611686018427387904):zat prog 153 [encT T] fun r=>r=.bool (lrgT T):=by
 unfold encT
 refine .zah func153 rfl rfl ?_
 refine .sr ?_
 refine .sr ?_
 refine .seq ?_
 refine .zac [0,1,2,3,4,5,6,7,8,9,10] rfl zz0 ?_
 refine .rn [0,1,2,3,4] _ ?_
 refine .split (t:=8) rfl (fun c8=>?_) (fun c8=>?_)
 ·try rw[c8]
  try simp at c8
  refine .rn [5,6,7,8,9,10] [] ?_
  refine .done (.ret ?_)
  refine⟨_,_,zz4,zz4,?_⟩
  simp[lrgT];omega
 try rw[c8]
 try simp at c8
 refine .rn [5,6,7] _ ?_
 refine .pc rfl rfl rfl rfl rfl call191 (p191 T hl hb) ?_
 refine .rn [9,10] [] ?_
 refine .done (.ret ?_)
 refine⟨_,_,zz4,zz4,?_⟩
 have h:decide (48<T.length)=false:=by simp;omega
 simp[lrgT,h]
def grB (T:List Br)(k:Nat)(b:Br):Bool:=zdn b.slips 0&&(zdn b.cops 0&&(decide (k=0)||(decide (0≤b.above)&&(decide (b.above≤(k:Int) - 1)&&(((T.getD b.above.toNat ⟨0,[],[]⟩).slips.all fun n=>decide (n∈b.slips))&&decide ((T.getD b.above.toNat ⟨0,[],[]⟩).slips.length<b.slips.length))))))
def grF (T:List Br):Nat→List Br→Bool
 |_,[]=>true
 |k,b::r=>grB T k b&&grF T (k+1) r
def grT (T:List Br):Bool:=match T with
 |[]=>false
 |b::_=>decide (b.above = -1)&&(decide (b.slips=[])&&grF T 0 T)
theorem zzo (T:List Br)(i:Nat)(h:i<T.length):grF T i (T.drop i)=(grB T i T[i]&&grF T (i+1) (T.drop (i+1))):=by
 rw[List.drop_eq_getElem_cons h];rfl
theorem zry {T:List Br}(h:0<T.length):grT T=(decide (T[0].above = -1)&&(decide (T[0].slips=[])&&grF T 0 T)):=by
 cases T with
 |nil=>simp at h
 |cons b r=>rfl
theorem p154 (T:List Br)(hl:T.length≤48)(hb:∀b∈T,b.slips.length≤30∧b.cops.length≤24):zat prog 154 [encT T] fun r=>r=.bool (grT T):=by
 unfold encT
 refine .zah func154 rfl rfl ?_
 refine .sr ?_
 refine .seq (.seq ?_)
 refine .zac [0,1,2,3,4,5,6,7,8,9,10,11,12,13,14,15,16,17,18,19,20] rfl zz0 ?_
 refine .rn [0,1,2,3,4] _ ?_
 refine .split (t:=9) rfl (fun c9=>?_) (fun c9=>?_)
 ·first|cases c9|(have h:=bnt c9;cases h)|(have h:=bnf c9;cases h)|try rw[c9]
  try simp at c9
  refine .rn [5,6,7,8,9,10,11,12,13,14,15,16,17,18,19,20] [] ?_
  refine .done (.zey rfl (.sr ?_))
  refine .ret ?_
  refine⟨_,_,zz4,zz4,?_⟩
  subst c9;rfl
 first|cases c9|(have h:=bnt c9;cases h)|(have h:=bnf c9;cases h)|try rw[c9]
 try simp at c9
 have hT0:0<T.length:=List.length_pos_iff.2 c9
 have hE0:zcf T[0]=.agg [.int .i64 T[0].above,ints T[0].slips,ints T[0].cops]:=rfl
 have hgt:=zry hT0
 obtain⟨b0,hb0⟩:∃b,T[0]=b:=⟨_,rfl⟩
 rw[hb0] at hE0 hgt
 refine .rn [5,6,7,8,9,10,11,12] _ ?_
 refine .split (t:=17) rfl (fun c17=>?_) (fun c17=>?_)
 ·first|cases c17|(have h:=bnt c17;cases h)|(have h:=bnf c17;cases h)|try rw[c17]
  try simp at c17
  refine .rn [13,14,15,16,17,18,19,20] [] ?_
  refine .done (.zey rfl (.sr ?_))
  refine .ret ?_
  refine⟨_,_,zz4,zz4,?_⟩
  rw[hgt];simp[c17]
 first|cases c17|(have h:=bnt c17;cases h)|(have h:=bnf c17;cases h)|try rw[c17]
 try simp at c17
 refine .rn [13,14,15,16,17,18,19,20] [] ?_
 refine .done ?_
 refine .cs ?_ ?_<;>intro c25
 ·try simp at c25
  refine .sr ?_
  refine .ret ?_
  refine⟨_,_,zz4,zz4,?_⟩
  rw[hgt]
  have:b0.slips≠[]:=by intro h;simp[h] at c25
  simp[this]
 try simp at c25
 have hs0:b0.slips=[]:=c25
 rw[c17,hs0] at hgt
 simp at hgt
 clear hE0
 refine .skip (.seq (.sr ?_))
 refine .block ?_
 refine .zco (fun k:Nat=>([(1,.ptr 0 0),(27,.vec (T.map zcf)),(28,.int .i64 T.length),(29,.int .i64 k)],⟨1,[(0,.box [.vec (T.map zcf)])]⟩)) (fun k=>k≤T.length∧grF T k (T.drop k)=grT T) (fun k=>T.length - k) 0 ⟨by simp,by rw[hgt];rfl⟩ (.mk [] [] zz20 zz21 rfl rfl rfl) ?_
 rintro k ⟨hk,hr⟩
 simp only at hk hr ⊢
 refine .sr ?_
 refine .seq ?_
 refine .cs ?_ ?_<;>intro c30
 ·try simp at c30
  have hw2:=wr1 k
  have hw3:IntKind.i64.wrap ((k:Int) - 1)=(k:Int) - 1:=wrap64 (by omega) (by omega)
  rw[zzo T k c30] at hr
  have hbk:=hb T[k] (List.getElem_mem c30)
  have hEk:=zeg T[k]
  obtain⟨b,hbe⟩:∃b,T[k]=b:=⟨_,rfl⟩
  rw[hbe] at hr hbk hEk
  have q1:=p168 b.slips 1 (by omega) (by omega) (by omega)
  have q2:=p168 b.cops 1 (by omega) (by omega) (by omega)
  have e10:(1:Int) - 1=0:=rfl
  rw[e10] at q1 q2
  obtain⟨r1,hr1⟩:∃r,zdn b.slips 0=r:=⟨_,rfl⟩
  obtain⟨r2,hr2⟩:∃r,zdn b.cops 0=r:=⟨_,rfl⟩
  unfold grB at hr
  rw[hr1,hr2] at hr
  rw[hr1] at q1
  rw[hr2] at q2
  have q113:=p113 b.above 0 ((k:Int) - 1)
  obtain⟨w,hw⟩:∃w,(decide ((0:Int)≤b.above)&&decide (b.above≤(k:Int) - 1))=w:=⟨_,rfl⟩
  rw[hw] at q113
  refine .skip (.seq (.block (.sr ?_)))
  refine .seq (.seq ?_)
  refine .zac [0,1,2,3,4,5,6,7,8,9] rfl zz0 ?_
  refine .rn [0,1] _ ?_
  refine .pc rfl rfl rfl rfl rfl call168 (q1) ?_
  refine .rn [3,4] _ ?_
  refine .split (t:=38) rfl (fun c38=>?_) (fun c38=>?_)
  ·first|cases c38|(have h:=bnt c38;cases h)|(have h:=bnf c38;cases h)|try rw[c38]
   try simp at c38
   refine .rn [5,6,7,8,9] [] ?_
   refine .done (.zey rfl (.sr ?_))
   refine .ret ?_
   refine⟨_,_,zz4,zz4,?_⟩
   rw[← hr];simp
  first|cases c38|(have h:=bnt c38;cases h)|(have h:=bnf c38;cases h)|try rw[c38]
  try simp at c38
  refine .rn [5,6] _ ?_
  refine .pc rfl rfl rfl rfl rfl call168 (q2) ?_
  refine .rn [8,9] [] ?_
  refine .done ?_
  refine .cs ?_ ?_<;>intro c43
  ·try simp at c43
   refine .sr ?_
   refine .ret ?_
   refine⟨_,_,zz4,zz4,?_⟩
   rw[← hr];simp[c43]
  try simp at c43
  refine .skip (.seq ?_)
  refine .drawn (ms:=[0,1,3,7,15,7,39,127,255,511,1023,2047,1023,5119,16383,32767,65535,1023,132095,394239,918527,1967103,4194303,8388607,16777215,33554431,67108863,134217727,67108863,335544319,1073741823,2147483647,4294967295,8589934591,67108863,17246978047,51606716415,137438953471,274877906943,549755813887]) (W:=[7,19,20,21,22]) (items:=[.op 0,.op 1,.op 2,.op 3,.op 4,.op 5,.op 6,.op 7,.op 8,.op 9,.op 10,.op 11,.op 12,.op 13,.op 14,.op 15,.op 16,.op 17,.op 18,.op 19,.ck 16,.ck 13,.ck 11,.op 20,.ck 16,.ck 13,.ck 11,.op 21,.ck 16,.ck 13,.ck 11,.op 22,.op 23,.op 24,.op 25,.op 26,.op 27,.op 28,.op 29,.op 30,.op 31,.op 32,.op 33,.op 34,.op 35,.op 36,.op 37,.op 38,.op 39]) rfl zz0 zz0 zz0 ?_
  iterate 3 refine .rx ?_
  refine .split (t:=46) rfl (fun c46=>?_) (fun c46=>?_)
  ·first|cases c46|(have h:=bnt c46;cases h)|(have h:=bnf c46;cases h)|try rw[c46]
   try simp at c46
   iterate 4 refine .rx ?_
   refine .wp rfl rfl rfl rfl rfl call113 (q113) ?_
   iterate 2 refine .rx ?_
   refine .split (t:=53) rfl (fun c53=>?_) (fun c53=>?_)
   ·first|cases c53|(have h:=bnt c53;cases h)|(have h:=bnf c53;cases h)|try rw[c53]
    try simp at c53
    iterate 10 refine .ux ?_
    refine .ckU rfl rfl rfl ?_
    refine .ckU rfl rfl rfl ?_
    refine .ckU rfl rfl rfl ?_
    refine .ux ?_
    refine .ckU rfl rfl rfl ?_
    refine .ckU rfl rfl rfl ?_
    refine .ckU rfl rfl rfl ?_
    refine .ux ?_
    refine .ckU rfl rfl rfl ?_
    refine .ckU rfl rfl rfl ?_
    refine .ckU rfl rfl rfl ?_
    iterate 2 refine .ux ?_
    iterate 2 refine .rx ?_
    iterate 12 refine .ux ?_
    iterate 2 refine .rx ?_
    refine .done (.zey rfl (.sr ?_))
    refine .ret ?_
    refine⟨_,_,zz4,zz4,?_⟩
    rw[← hr]
    rw[show decide (k=0)=false by simp;omega]
    rw[Bool.false_or,← Bool.and_assoc (decide (0≤b.above)),hw]
    simp
   first|cases c53|(have h:=bnt c53;cases h)|(have h:=bnf c53;cases h)|try rw[c53]
   try simp at c53
   obtain⟨j,hj,hja⟩:∃j:Nat,j<k∧b.above=(j:Int):=by
    simp only[xfr,decide_eq_true_eq] at hw
    exact⟨b.above.toNat,by omega,by omega⟩
   have hjT:j<T.length:=by omega
   have hg0:T.getD b.above.toNat ⟨0,[],[]⟩=T[j]:=by rw[hja,Int.toNat_natCast,List.getD_eq_getElem?_getD,List.getElem?_eq_getElem hjT];rfl
   have hEj:=zeg T[j]
   have hbj:=hb T[j] (List.getElem_mem hjT)
   obtain⟨u,hu⟩:∃u,T[j]=u:=⟨_,rfl⟩
   rw[hu] at hg0 hEj hbj
   rw[hg0,show decide (k=0)=false by simp;omega,Bool.false_or,← Bool.and_assoc (decide (0≤b.above)),hw] at hr
   have q185:=p185 u.slips (setK [b.slips]) (by omega)
   rw[zu0] at q185
   obtain⟨ev,hev⟩:∃e,(u.slips.all fun n=>decide (n∈b.slips))=e:=⟨_,rfl⟩
   rw[hev] at q185 hr
   clear hw hg0 q113
   iterate 9 refine .rx ?_
   refine .wv ?_
   refine .ck rfl zz0 ?_
   refine .ck rfl zz0 ?_
   refine .ck rfl zz0 ?_
   refine .wr rfl rfl (by decide) (.zr0 rfl rfl rfl call116 (by decide) (by first|(simp<;>rfl)|(simp[*]<;>rfl)|(simp[*];done)) (p116 [b.slips] (by simp) (by intro y hy;simp at hy;subst hy;omega)) ?_)
   rintro _ rfl
   refine .ck rfl zz0 ?_
   refine .ck rfl zz0 ?_
   refine .ck rfl zz0 ?_
   refine .wv ?_
   refine .ck rfl zz0 ?_
   refine .ck rfl zz0 ?_
   refine .ck rfl zz0 ?_
   refine .wr rfl rfl (by decide) (.zr0 rfl rfl rfl call185 (by decide) (by first|(simp<;>rfl)|(simp[*]<;>rfl)|(simp[*];done)) (q185) ?_)
   rintro _ rfl
   iterate 3 refine .rx ?_
   refine .split (t:=69) rfl (fun c69=>?_) (fun c69=>?_)
   ·first|cases c69|(have h:=bnt c69;cases h)|(have h:=bnf c69;cases h)|try rw[c69]
    try simp at c69
    iterate 12 refine .ux ?_
    iterate 2 refine .rx ?_
    refine .done (.zey rfl (.sr ?_))
    refine .ret ?_
    refine⟨_,_,zz4,zz4,?_⟩
    rw[← hr];simp
   first|cases c69|(have h:=bnt c69;cases h)|(have h:=bnf c69;cases h)|try rw[c69]
   try simp at c69
   iterate 14 refine .rx ?_
   refine .done ?_
   refine .cs ?_ ?_<;>intro c83
   ·try simp at c83
    refine .sr ?_
    refine .ret ?_
    refine⟨_,_,zz4,zz4,?_⟩
    rw[← hr];simp;omega
   try simp at c83
   refine .skip (.rn ?_)
   refine⟨k+1,⟨zz5,?_⟩,zz5,(.mk [] [] zz20 zz21 rfl rfl rfl)⟩
   rw[← hr];simp[c43,c83]
  first|cases c46|(have h:=bnt c46;cases h)|(have h:=bnf c46;cases h)|try rw[c46]
  try simp at c46
  have hk0:k≤0:=by omega
  clear c46
  iterate 17 refine .ux ?_
  refine .ckU rfl rfl rfl ?_
  refine .ckU rfl rfl rfl ?_
  refine .ckU rfl rfl rfl ?_
  refine .ux ?_
  refine .ckU rfl rfl rfl ?_
  refine .ckU rfl rfl rfl ?_
  refine .ckU rfl rfl rfl ?_
  refine .ux ?_
  refine .ckU rfl rfl rfl ?_
  refine .ckU rfl rfl rfl ?_
  refine .ckU rfl rfl rfl ?_
  iterate 17 refine .ux ?_
  refine .rx ?_
  refine .done (.zd3 rfl (.skip (.rn ?_)))
  refine⟨k+1,⟨zz5,?_⟩,zz5,(.mk [] [] zz20 zz21 rfl rfl rfl)⟩
  have h0:k=0:=by omega
  rw[← hr];simp[c43,h0]
 try simp at c30
 have:k=T.length:=by omega
 refine .exit (.sr ?_)
 refine .ret ?_
 refine⟨_,_,zz4,zz4,?_⟩
 rw[← hr,this,List.drop_length];rfl
end Go.Am.Ds
end
section
namespace Go.Am.Ds
open Go Go.Am Go.Proofs Tryz
attribute [local simp] vrun zaz zbg vop vopA zb2 zab.back hidI hidF zdh bm Nat.testBit_eq_decide_div_mod_eq za6 zbo zb4 vO zbc vlen zbs zbz zd2 zaq zak zcj vbox zbe zdu zby zge zdt zcm zau zcn zav zcl zbf zci zbr zbl vbnd zcz vidx zbp zdk zar zbt zct zdj zd9 zd6 vbin vsc vsc1 vscs vscl zbv aint zb3 zdl za8 zcx zd0 pvcV pvc pvcs tput tget zdd zab.get zab.alloc zab.put zab.drop zab.empty zce vput zdi zbb zca zda chunk List.range List.range.loop za0 zbu za1 frz frzL PV.isF PV.allF PV.scal PV.allS retP subT zds PV.one PV.ids PV.idsL zcc beq_eq zbw zbx
attribute [local simp] zW
def fstW (p:Wit→Bool)(l:List Wit):PV:=match l.find? p with
 |some w=>encW w
 |none=>zW
theorem zxg (p:Wit→Bool)(l:List Wit)(i:Nat)(h:i<l.length):fstW p (l.drop i)=if p l[i] then encW l[i] else fstW p (l.drop (i+1)):=by
 rw[List.drop_eq_getElem_cons h]
 simp only[fstW,List.find?_cons]
 cases p l[i]<;>rfl
theorem p193 (w:Wit)(id:Int):zat prog 193 [encW w,.vp [.int .i64 id]] fun r=>r=.bool (decide (w.id=id)):=by
 refine .zah func193 rfl rfl ?_
 refine .sr ?_
 refine .sr ?_
 refine .ret ?_
 refine⟨_,_,zz4,zz4,?_⟩
 first|rfl|(simp[*];done)|(simp_all;done)
theorem p192 (l:List Wit)(p:Wit→Bool)(f:FuncId)(xs ys:List PV)(hl:l.length<4294967296)(hx:PV.allF xs=true)(hy:PV.allF ys=true)(hcf:∀cs w,(callFunc f cs).run prog w=.ok (.enter f cs) w)(hp:∀a∈l,zat prog f (xs++[encW a]++ys) fun r=>r=.bool (p a)):zat prog 192 [.vec (l.map encW),.func f xs ys] fun r=>r=.tup [fstW p l,.int .i64 (idxF p 0 l)]:=by
 refine .zah func192 rfl rfl ?_
 refine .sr ?_
 refine .seq (.sr ?_)
 refine .block ?_
 refine .zco (fun s:Nat=>([(1,.func f xs ys),(4,.ptr 0 0),(9,.vec (l.map encW)),(10,.int .i64 l.length),(11,.int .i64 s)],⟨1,[(0,.box [.int .i64 0,.int .i64 0,.sl0,.sl0,.sl0,.int .i64 0,.int .i64 0])]⟩)) (fun s=>s≤l.length∧idxF p s (l.drop s)=idxF p 0 l∧fstW p (l.drop s)=fstW p l) (fun s=>l.length - s) 0 ⟨by simp,by simp,by simp⟩ (.mk [] [] zz20 zz21 rfl rfl rfl) ?_
 rintro i ⟨hi,hr,hr2⟩
 simp only at hi hr hr2 ⊢
 refine .sr ?_
 refine .seq ?_
 refine .cs ?_ ?_<;>intro c12
 ·try simp at c12
  have hw2:=wr1 i
  rw[zgx p l i c12] at hr
  rw[zxg p l i c12] at hr2
  have hp:=hp l[i] (List.getElem_mem c12)
  have hE:encW l[i]=.agg [.int .i64 l[i].id,.int .i64 l[i].known,ints l[i].slips,ints l[i].mended,ints l[i].models,.int .i64 l[i].lo,.int .i64 l[i].hi]:=rfl
  refine .skip (.seq (.block (.sr ?_)))
  refine .seq ?_
  refine .zac [0,1,2] rfl zz0 ?_
  refine .rn [0,1] _ ?_
  refine .step rfl rfl (.pure rfl rfl rfl hcf (by decide) (hp) (by first|rfl|simp[*]) ?_)
  rintro _ rfl
  refine .done ?_
  refine .cs ?_ ?_<;>intro c18
  ·try simp at c18
   refine .sr ?_
   refine .ret ?_
   refine⟨_,_,zz4,zz4,?_⟩
   rw[← hr,if_pos c18,← hr2,if_pos c18];first|rfl|(rw[hE];rfl)
  try simp at c18
  refine .skip (.rn ?_)
  refine⟨i+1,⟨zz5,?_,?_⟩,zz5,(.mk [] [] zz20 zz21 rfl rfl rfl)⟩
  ·rw[← hr,if_neg (by simp[c18])]
  rw[← hr2,if_neg (by simp[c18])]
 try simp at c12
 have:i=l.length:=by omega
 refine .exit (.sr ?_)
 refine .sr ?_
 refine .ret ?_
 refine⟨_,_,zz4,zz4,?_⟩
 rw[← hr,← hr2,this,List.drop_length];rfl
def stI (s:List Wit)(sl:List Int)(id:Int):Bool:=match getW s id with
 |some c=>decide (c.slips=sl)
 |none=>false
def stB (s:List Wit)(b:Br):Bool:=b.cops.all (stI s b.slips)
def cpsL (T:List Br):List Int:=T.flatMap (·.cops)
def setL (l:List Int):List Int:=l.foldl insU []
def stT (s:List Wit)(T:List Br):Bool:=T.all (stB s)&&(decide ((cpsL T).length=s.length)&&decide ((setL (cpsL T)).length=(cpsL T).length))
theorem zl0 {α:Type}{p:α→Bool}{l:List α}{k:Nat}(h:k<l.length):(l.take (k+1)).all p=((l.take k).all p&&p l[k]):=by
 rw[List.take_succ_eq_append_getElem h,List.all_append];simp
theorem zpc {α:Type}{p:α→Bool}{l:List α}{k:Nat}(h:k<l.length)(hp:p l[k]=false):l.all p=false:=by
 rw[List.all_eq_false];exact⟨l[k],List.getElem_mem h,by simp[hp]⟩
theorem zrv {T:List Br}{k:Nat}(h:k<T.length):cpsL (T.take (k+1))=cpsL (T.take k)++T[k].cops:=by
 unfold cpsL
 rw[List.take_succ_eq_append_getElem h,List.flatMap_append];simp
theorem zzy {T:List Br}(hb:∀b∈T,b.cops.length≤24):(cpsL T).length≤24*T.length:=by
 unfold cpsL
 induction T with
 |nil=>simp
 |cons b r ih=>
  rw[List.flatMap_cons,List.length_append,List.length_cons]
  have:=ih fun c hc=>hb c (List.mem_cons_of_mem _ hc)
  have:=hb b List.mem_cons_self
  omega
theorem p155 (s:List Wit)(T:List Br)(hs:s.length≤24)(hsl:∀w∈s,w.slips.length<4294967296)(hl:T.length≤48)(hb:∀b∈T,b.slips.length≤30∧b.cops.length≤24):zat prog 155 [encS s,encT T] fun r=>r=.bool (stT s T):=by
 unfold encT
 have hcl:=fun k=>zzy (T:=T.take k) fun b h=>(hb b (List.mem_of_mem_take h)).2
 have htl:∀k,(T.take k).length≤48:=fun k=>by rw[List.length_take];omega
 refine .zah func155 rfl rfl ?_
 refine .sr ?_
 refine .sr ?_
 refine .seq (.sr ?_)
 refine .block ?_
 refine .zco (fun k:Nat=>([(2,.ptr 0 0),(3,.ptr 1 0),(5,.int .i64 (cpsL (T.take k)).length),(18,.vec (T.map zcf)),(19,.int .i64 T.length),(20,.int .i64 k)],⟨2,[(1,.box [.vec (T.map zcf)]),(0,.box [.vec (s.map encW)])]⟩)) (fun k=>k≤T.length∧(T.take k).all (stB s)=true) (fun k=>T.length - k) 0 ⟨by simp,by simp⟩ (.mk [] [] zz20 zz21 rfl rfl rfl) ?_
 rintro k ⟨hk,hr⟩
 simp only at hk hr ⊢
 refine .sr ?_
 refine .seq ?_
 refine .cs ?_ ?_<;>intro c21
 ·try simp at c21
  have hw2:=wr1 k
  have hbk:=hb T[k] (List.getElem_mem c21)
  have hEk:=zeg T[k]
  have hsn:=zrv c21
  have hcl1:=hcl k
  have htl1:=htl k
  have hno:=zpc (p:=stB s) c21
  have hal:=zl0 (p:=stB s) c21
  obtain⟨b,hbe⟩:∃b,T[k]=b:=⟨_,rfl⟩
  rw[hbe] at hbk hEk hsn hno hal
  obtain⟨N,hN⟩:∃N,(cpsL (T.take k)).length=N:=⟨_,rfl⟩
  rw[hN] at hcl1 ⊢
  have hwN:IntKind.i64.wrap ((N:Int)+(b.cops.length:Int))=(N:Int)+(b.cops.length:Int):=wrap64 (by omega) (by omega)
  refine .skip (.seq (.block (.sr ?_)))
  refine .sr ?_
  refine .sr ?_
  refine .block ?_
  refine .zco (fun j:Nat=>([(2,.ptr 0 0),(3,.ptr 1 0),(5,.int .i64 ((N:Int)+(b.cops.length:Int))),(7,.ptr 2 0),(18,.vec (T.map zcf)),(19,.int .i64 T.length),(20,.int .i64 k),(30,ints b.cops),(31,.int .i64 b.cops.length),(32,.int .i64 j)],⟨3,[(2,.box [.int .i64 b.above,ints b.slips,ints b.cops]),(1,.box [.vec (T.map zcf)]),(0,.box [.vec (s.map encW)])]⟩)) (fun j=>j≤b.cops.length∧(b.cops.take j).all (stI s b.slips)=true) (fun j=>b.cops.length - j) 0 ⟨by simp,by simp⟩ (.mk [] [] zz20 zz21 rfl rfl rfl) ?_
  rintro j ⟨hj,hjr⟩
  simp only at hj hjr ⊢
  refine .sr ?_
  refine .seq ?_
  refine .cs ?_ ?_<;>intro c33
  ·try simp at c33
   have hw3:=wr1 j
   have hnj:=zpc (p:=stI s b.slips) c33
   have haj:=zl0 (p:=stI s b.slips) c33
   obtain⟨id,hid⟩:∃id,b.cops[j]=id:=⟨_,rfl⟩
   rw[hid] at hnj haj
   have q192:=p192 s (fun w=>decide (w.id=id)) 193 [] [.vp [.int .i64 id]] (by omega) rfl rfl call193 (fun w _=>p193 w id)
   have hstI:stI s b.slips id=match s.find? (fun w=>decide (w.id=id)) with
    |some c=>decide (c.slips=b.slips)
    |none=>false:=rfl
   have hfd:(idxF (fun w:Wit=>decide (w.id=id)) 0 s<0∧stI s b.slips id=false∧fstW (fun w=>decide (w.id=id)) s=zW)∨∃c∈s,0≤idxF (fun w:Wit=>decide (w.id=id)) 0 s∧stI s b.slips id=decide (c.slips=b.slips)∧fstW (fun w=>decide (w.id=id)) s=encW c:=by
    rcases zna (fun w:Wit=>decide (w.id=id)) s 0 with⟨h1,h2⟩|⟨h1,_,h2⟩
    ·left
     have h3:s.find? (fun w=>decide (w.id=id))=none:=by
      rw[List.find?_eq_none];rw[List.any_eq_false] at h2;exact h2
     refine⟨by omega,?_,?_⟩
     ·rw[hstI,h3]
     unfold fstW;rw[h3]
    right
    cases h3:s.find? (fun w=>decide (w.id=id)) with
    |none=>
     rw[List.find?_eq_none] at h3
     rw[List.any_eq_true] at h2
     obtain⟨x,h4,h5⟩:=h2
     exact absurd h5 (h3 x h4)
    |some c=>
     refine⟨c,List.mem_of_find?_eq_some h3,by omega,?_,?_⟩
     ·rw[hstI,h3]
     unfold fstW;rw[h3]
   clear hstI
   obtain⟨ix,hix⟩:∃ix,idxF (fun w:Wit=>decide (w.id=id)) 0 s=ix:=⟨_,rfl⟩
   obtain⟨fw,hfw⟩:∃fw,fstW (fun w=>decide (w.id=id)) s=fw:=⟨_,rfl⟩
   obtain⟨st,hst⟩:∃st,stI s b.slips id=st:=⟨_,rfl⟩
   rw[hix,hfw] at q192
   rw[hix,hfw,hst] at hfd
   rw[hst] at hnj haj
   clear hix hfw hst
   rcases hfd with⟨hx1,rfl,rfl⟩|⟨c,hcm,hx1,hx2,rfl⟩
   ·skip
    refine .skip (.seq (.block (.sr ?_)))
    refine .seq ?_
    refine .zac [0,1,2,3,4,5,6,7,8,9] rfl zz0 ?_
    refine .rn [0,1,2] _ ?_
    refine .step rfl rfl (.take rfl rfl rfl call192 (by decide) (by first|(simp<;>rfl)|(simp[*]<;>rfl)|(simp[*];done)) (q192) ?_)
    rintro _ rfl
    refine .rn [4,5,6,7,8,9] [] ?_
    refine .done (.seq ?_)
    refine .zac [0,1,2,3,4,5,6,7,8,9] rfl zz0 ?_
    refine .rn [0,1,2] _ ?_
    refine .split (t:=45) rfl (fun c45=>?_) (fun c45=>?_)
    ·try rw[c45]
     try simp at c45
     refine .rn [3,4,5,6,7,8,9] [] ?_
     refine .done (.zey rfl (.sr ?_))
     refine .ret ?_
     refine⟨_,_,zz4,zz4,?_⟩
     have h1:stB s b=false:=hnj rfl
     unfold stT
     rw[hno h1];rfl
    try rw[c45]
    try simp at c45
   skip
   refine .skip (.seq (.block (.sr ?_)))
   refine .seq ?_
   have hEc:encW c=.agg [.int .i64 c.id,.int .i64 c.known,ints c.slips,ints c.mended,ints c.models,.int .i64 c.lo,.int .i64 c.hi]:=rfl
   have hcs:=hsl c hcm
   have q181:=p181 c.slips b.slips hcs (by omega)
   rw[← hx2] at q181
   clear hx2
   refine .zac [0,1,2,3,4,5,6,7,8,9] rfl zz0 ?_
   refine .rn [0,1,2] _ ?_
   refine .step rfl rfl (.take rfl rfl rfl call192 (by decide) (by first|(simp<;>rfl)|(simp[*]<;>rfl)|(simp[*];done)) (q192) ?_)
   rintro _ rfl
   refine .rn [4,5,6,7,8,9] [] ?_
   refine .done (.seq ?_)
   refine .zac [0,1,2,3,4,5,6,7,8,9] rfl zz0 ?_
   refine .rn [0,1,2] _ ?_
   refine .split (t:=45) rfl (fun c45=>?_) (fun c45=>?_)
   ·try rw[c45]
    try simp at c45
    exfalso;first|omega|(simp at c45;done)|(simp at c45;omega)
   try rw[c45]
   try simp at c45
   refine .rn [3,4,5,6] _ ?_
   refine .pc rfl rfl rfl rfl rfl call181 (q181) ?_
   refine .rn [8,9] [] ?_
   refine .done ?_
   refine .cs ?_ ?_<;>intro c52
   ·try simp at c52
    refine .sr ?_
    refine .ret ?_
    refine⟨_,_,zz4,zz4,?_⟩
    have h1:stB s b=false:=hnj (by simpa using c52)
    unfold stT
    rw[hno h1];rfl
   try simp at c52
   refine .skip (.rn ?_)
   refine⟨j+1,⟨zz5,?_⟩,zz5,(.mk [] [] zz20 zz21 rfl rfl rfl)⟩
   rw[haj,hjr];simpa using c52
  try simp at c33
  have hjl:j=b.cops.length:=by omega
  rw[hjl,List.take_length] at hjr
  refine .exit (.rn ?_)
  refine⟨k+1,⟨zz5,?_⟩,zz5,?_⟩
  ·rw[hal,hr];exact hjr
  rw[hsn,List.length_append,hN];exact(.mk [] [] zz20 zz21 rfl rfl rfl)
 try simp at c21
 obtain rfl:k=T.length:=by omega
 rw[List.take_length] at hr ⊢
 have hcl1:=hcl T.length
 rw[List.take_length] at hcl1
 obtain⟨N,hN⟩:∃N,(cpsL T).length=N:=⟨_,rfl⟩
 rw[hN] at hcl1 ⊢
 refine .exit (.sr ?_)
 refine .seq (.sr ?_)
 refine .block ?_
 refine .zco (fun k:Nat=>([(2,.ptr 0 0),(5,.int .i64 N),(12,.mapv 2),(57,.vec (T.map zcf)),(58,.int .i64 T.length),(59,.int .i64 k)],⟨3,[(2,.map (mp (setL (cpsL (T.take k))))),(0,.box [.vec (s.map encW)])]⟩)) (fun k=>k≤T.length) (fun k=>T.length - k) 0 (by simp) (.mk [] [] zz20 zz21 rfl rfl rfl) ?_
 rintro k hk
 simp only at hk ⊢
 refine .sr ?_
 refine .seq ?_
 refine .cs ?_ ?_<;>intro c60
 ·try simp at c60
  have hw2:=wr1 k
  have hbk:=hb T[k] (List.getElem_mem c60)
  have hEk:=zeg T[k]
  have hsn:=zrv c60
  obtain⟨b,hbe⟩:∃b,T[k]=b:=⟨_,rfl⟩
  rw[hbe] at hbk hEk hsn
  obtain⟨L,hL⟩:∃L,cpsL (T.take k)=L:=⟨_,rfl⟩
  rw[hL] at hsn ⊢
  refine .skip (.seq (.block (.sr ?_)))
  refine .sr ?_
  refine .block ?_
  refine .zco (fun j:Nat=>([(2,.ptr 0 0),(5,.int .i64 N),(12,.mapv 2),(57,.vec (T.map zcf)),(58,.int .i64 T.length),(59,.int .i64 k),(64,ints b.cops),(65,.int .i64 b.cops.length),(66,.int .i64 j)],⟨3,[(2,.map (mp (setL (L++b.cops.take j)))),(0,.box [.vec (s.map encW)])]⟩)) (fun j=>j≤b.cops.length) (fun j=>b.cops.length - j) 0 (by simp) (by rw[List.take_zero,List.append_nil];exact(.mk [] [] zz20 zz21 rfl rfl rfl)) ?_
  rintro j hj
  simp only at hj ⊢
  refine .sr ?_
  refine .seq ?_
  refine .cs ?_ ?_<;>intro c67
  ·try simp at c67
   have hw3:=wr1 j
   have hnx:setL (L++b.cops.take (j+1))=insU (setL (L++b.cops.take j)) b.cops[j]:=by
    unfold setL;rw[List.take_succ_eq_append_getElem c67,← List.append_assoc,List.foldl_append];rfl
   obtain⟨K,hK⟩:∃K,setL (L++b.cops.take j)=K:=⟨_,rfl⟩
   rw[hK] at hnx ⊢
   have hm:=zqg b.cops[j] K
   refine .skip (.seq (.block (.sr ?_)))
   refine .rn ?_
   refine .rn ?_
   refine⟨j+1,zz5,zz5,by rw[hnx];exact(.mk [] [] zz20 zz21 rfl rfl rfl)⟩
  try simp at c67
  have hjl:j=b.cops.length:=by omega
  rw[hjl,List.take_length]
  refine .exit (.rn ?_)
  refine⟨k+1,zz5,zz5,by rw[hsn];exact(.mk [] [] zz20 zz21 rfl rfl rfl)⟩
 try simp at c60
 obtain rfl:k=T.length:=by omega
 rw[List.take_length]
 have hstT:stT s T=(decide (N=s.length)&&decide ((setL (cpsL T)).length=N)):=by unfold stT;rw[hr,hN];rfl
 obtain⟨K,hK⟩:∃K,setL (cpsL T)=K:=⟨_,rfl⟩
 rw[hK] at hstT ⊢
 have hKl:(mp K).length=K.length:=by simp[mp]
 refine .exit (.seq ?_)
 refine .zac [0,1,2,3,4,5,6,7,8,9,10,11] rfl zz0 ?_
 refine .rn [0,1,2,3,4,5] _ ?_
 refine .split (t:=79) rfl (fun c79=>?_) (fun c79=>?_)
 ·try rw[c79]
  try simp at c79
  refine .rn [6,7,8,9,10,11] [] ?_
  refine .done (.ret ?_)
  refine⟨_,_,zz4,zz4,?_⟩
  rw[hstT];refine congrArg PV.bool ?_;rw[Bool.eq_iff_iff];simp;omega
 try rw[c79]
 try simp at c79
 refine .rn [6,7,8,9,10,11] [] ?_
 refine .done (.ret ?_)
 refine⟨_,_,zz4,zz4,?_⟩
 rw[hstT];refine congrArg PV.bool ?_;rw[Bool.eq_iff_iff];simp;omega
end Go.Am.Ds
end
/-
 Descent: what the program's CheckTree counts (plain law of Trees).
-/
section
namespace Go.Am.Ds
open Go Go.Am
def br0:Br:=⟨0,[],[]⟩
def val (A:List (Int×Int))(n:Int):Int:=(alk A n).getD 0
theorem z3t (A:List (Int×Int))(n m v:Int):val (aset A n v) m=if m=n then v else val A m:=by
 unfold val;rw[z4d];split<;>rfl
def zh1 (up:List Int)(A:List (Int×Int))(n:Int):List (Int×Int):=if n∈up then A else aset A n (val A n+1)
def arL (up:List Int)(A:List (Int×Int))(l:List Int):List (Int×Int):=l.foldl (zh1 up) A
theorem zzf (up:List Int)(A:List (Int×Int)){l:List Int}{j:Nat}(h:j<l.length):arL up A (l.take (j+1))=zh1 up (arL up A (l.take j)) l[j]:=by
 unfold arL;rw[List.take_succ_eq_append_getElem h,List.foldl_append];rfl
theorem zof (up:List Int)(A:List (Int×Int))(n m:Int):val (zh1 up A n) m=val A m+if m=n∧n∉up then 1 else 0:=by
 unfold zh1
 by_cases h:n∈up
 ·rw[if_pos h,if_neg (by simp[h])];omega
 rw[if_neg h,z3t]
 by_cases h2:m=n
 ·subst h2;rw[if_pos rfl,if_pos ⟨rfl,h⟩]
 rw[if_neg h2,if_neg (by simp[h2])];omega
theorem zya (up:List Int)(m:Int):∀ {l:List Int} {A:List (Int×Int)},l.Nodup→val (arL up A l) m=val A m+if m∈l∧m∉up then 1 else 0
 |[],A,_=>by simp[arL]
 |n::r,A,h=>by
  obtain⟨h1,h2⟩:=List.nodup_cons.1 h
  show val (arL up (zh1 up A n) r) m=_
  rw[zya up m h2,zof]
  by_cases hmn:m=n
  ·subst hmn
   by_cases hu:m∈up<;>simp[hu,h1]
  simp[hmn]
theorem zs0 (up:List Int)(m:Int):∀(l:List Int) (A:List (Int×Int)) (N:Int),0≤val A m→val A m≤N→0≤val (arL up A l) m∧val (arL up A l) m≤N+l.length
 |[],A,N,h0,h=>⟨h0,by simpa[arL] using h⟩
 |n::r,A,N,h0,h=>by
  show 0≤val (arL up (zh1 up A n) r) m∧val (arL up (zh1 up A n) r) m≤_
  have h1:=zof up A n m
  have h2:0≤val (zh1 up A n) m∧val (zh1 up A n) m≤N+1:=by rw[h1];split<;>omega
  have:=zs0 up m r (zh1 up A n) (N+1) h2.1 h2.2
  rw[List.length_cons];omega
def upS (T:List Br)(k:Nat):List Int:=(T.getD (T.getD k br0).above.toNat br0).slips
def slS (T:List Br)(k:Nat):List Int:=(T.getD k br0).slips
def arS (T:List Br):Nat→List (Int×Int)
 |0=>[]
 |k+1=>arL (upS T (k+1)) (arS T k) (slS T (k+1))
theorem zza {T:List Br}(hb:∀b∈T,b.slips.length≤30)(m:Int):∀k,0≤val (arS T k) m∧val (arS T k) m≤30*k
 |0=>by simp[arS,val,alk]
 |k+1=>by
  have ih:=zza hb m k
  have h2:=zs0 (upS T (k+1)) m (slS T (k+1)) (arS T k) (30*k) ih.1 ih.2
  have h3:(slS T (k+1)).length≤30:=by
   unfold slS
   rcases Nat.lt_or_ge (k+1) T.length with h|h
   ·rw[List.getD_eq_getElem?_getD,List.getElem?_eq_getElem h];exact hb _ (List.getElem_mem h)
   rw[List.getD_eq_getElem?_getD,List.getElem?_eq_none h];simp[br0]
  show 0≤val (arL _ _ _) m∧val (arL _ _ _) m≤_
  omega
theorem z9x (T:List Br)(n:Int)(k:Nat):arP T n (k+1)=decide (n∈slS T (k+1)∧n∉upS T (k+1)):=by
 have e:∀l:List Int,l.any (·==n)=decide (n∈l):=fun l=>by
  induction l with
  |nil=>rfl
  |cons a r ih=>rw[List.any_cons,ih,Bool.eq_iff_iff,Bool.or_eq_true,beq_iff_eq,decide_eq_true_eq,decide_eq_true_eq,List.mem_cons];exact⟨fun h=>h.imp Eq.symm id,fun h=>h.imp Eq.symm id⟩
 unfold arP slS upS br0
 rw[e,e]
 simp
theorem zx8 {T:List Br}(hr:∀b∈T,b.slips.Nodup)(n:Int):∀k,k<T.length→val (arS T k) n=(((List.range k).countP fun i=>arP T n (i+1):Nat):Int)
 |0,_=>rfl
 |k+1,hk=>by
  have hn:(slS T (k+1)).Nodup:=by
   unfold slS;rw[List.getD_eq_getElem?_getD,List.getElem?_eq_getElem hk];exact hr _ (List.getElem_mem hk)
  show val (arL _ _ _) n=_
  rw[zya _ _ hn,zx8 hr n k (by omega),List.range_succ,List.countP_append,List.countP_singleton,z9x]
  by_cases h:n∈slS T (k+1)∧n∉upS T (k+1)
  ·rw[if_pos h,if_pos (decide_eq_true h)];omega
  rw[if_neg h,if_neg (by rw[decide_eq_false h];simp)];omega
theorem zwr {T:List Br}(hr:∀b∈T,b.slips.Nodup)(h0:0<T.length)(n:Int):val (arS T (T.length - 1)) n=(arN T n:Int):=by
 rw[zx8 hr n _ (by omega)]
 unfold arN
 obtain⟨m,hm⟩:∃m,T.length=m+1:=⟨T.length - 1,by omega⟩
 rw[hm,Nat.add_sub_cancel,List.range_succ_eq_map,List.countP_cons_of_neg (by simp[arP]),List.countP_map]
 rfl
def abS (T:List Br)(k:Nat):Nat:=(T.getD k br0).above.toNat
def belS (T:List Br):Nat→List Int
 |0=>List.replicate T.length 0
 |k+1=>(belS T k).set (abS T (k+1)) ((belS T k).getD (abS T (k+1)) 0+1)
theorem zl1 (T:List Br):∀k,(belS T k).length=T.length
 |0=>by simp[belS]
 |k+1=>by simp[belS,zl1 T k]
theorem zox {T:List Br}(hn:∀k,0<k→k<T.length→abS T k<T.length)(j:Nat)(hj:j<T.length):∀k,k<T.length→(belS T k).getD j 0=(((List.range k).countP fun i=>decide (abS T (i+1)=j):Nat):Int)
 |0,_=>by simp[belS,hj]
 |k+1,hk=>by
  have ih:=zox hn j hj k (by omega)
  have hl:=zl1 T k
  have ha:=hn (k+1) (by omega) hk
  rw[List.range_succ,List.countP_append,List.countP_singleton]
  show ((belS T k).set _ _).getD j 0=_
  by_cases h:abS T (k+1)=j
  ·rw[h] at ha ⊢
   rw[List.getD_eq_getElem?_getD,List.getElem?_set_self (by omega),Option.getD_some,ih]
   simp
  rw[List.getD_eq_getElem?_getD,List.getElem?_set_ne h,← List.getD_eq_getElem?_getD,ih]
  simp[h]
theorem zzd {T:List Br}(hn:∀k,0<k→k<T.length→abS T k<T.length)(j:Nat)(hj:j<T.length)(k:Nat)(hk:k<T.length):0≤(belS T k).getD j 0∧(belS T k).getD j 0≤k:=by
 rw[zox hn j hj k hk]
 have:=List.countP_le_length (p:=fun i=>decide (abS T (i+1)=j)) (l:=List.range k)
 rw[List.length_range] at this
 omega
theorem zos {α:Type}(p:α→Bool)(d:α):∀l:List α,l.countP p=(List.range l.length).countP fun i=>p (l.getD i d)
 |[]=>rfl
 |a::r=>by
  rw[List.length_cons,List.range_succ_eq_map,List.countP_cons,List.countP_cons,List.countP_map,zos p d r]
  rfl
theorem zuj {T:List Br}(hn:∀k,0<k→k<T.length→abS T k<T.length)(h0:0<T.length)(hf:T[0].above = -1)(hp:∀k,0<k→k<T.length→0≤(T.getD k br0).above)(j:Nat)(hj:j<T.length):(belS T (T.length - 1)).getD j 0=(belN T j:Int):=by
 rw[zox hn j hj _ (by omega)]
 unfold belN
 rw[zos _ br0]
 obtain⟨m,hm⟩:∃m,T.length=m+1:=⟨T.length - 1,by omega⟩
 have hg:(T.getD 0 br0).above = -1:=by rw[List.getD_eq_getElem?_getD,List.getElem?_eq_getElem h0];exact hf
 rw[hm,Nat.add_sub_cancel,List.range_succ_eq_map,List.countP_cons_of_neg (by rw[hg];simp),List.countP_map]
 refine congrArg Nat.cast (List.countP_congr fun i hi=>?_)
 have hi:=List.mem_range.1 hi
 have:=hp (i+1) (by omega) (by omega)
 unfold abS
 simp only[Function.comp,decide_eq_true_eq,Nat.succ_eq_add_one]
 omega
theorem z1x {T:List Br}{k:Nat}{b:Br}(h:grB T k b=true)(h0:0<k):∃j:Nat,j<k∧b.above=(j:Int)∧(∀n∈(T.getD j br0).slips,n∈b.slips)∧(T.getD j br0).slips.length<b.slips.length:=by
 unfold grB at h
 simp only[xfr,Bool.or_eq_true,decide_eq_true_eq,List.all_eq_true] at h
 obtain⟨_,_,h⟩:=h
 obtain⟨h1,h2,h3,h4⟩:=h.resolve_left (by omega)
 exact⟨b.above.toNat,by omega,by omega,h3,h4⟩
theorem zxb {T:List Br}:∀(l:List Br) (k:Nat),grF T k l=true→∀i (hi:i<l.length),grB T (k+i) l[i]=true
 |[],k,_,i,hi=>by simp at hi
 |b::r,k,h,i,hi=>by
  simp only[grF,xfr] at h
  cases i with
  |zero=>exact h.1
  |succ i=>
   have:=zxb r (k+1) h.2 i (by simpa using hi)
   rw[show k+(i+1)=k+1+i by omega];exact this
theorem z1k {T:List Br}:∀(l:List Br) (k:Nat),(∀i (hi:i<l.length),grB T (k+i) l[i]=true)→grF T k l=true
 |[],k,_=>rfl
 |b::r,k,h=>by
  simp only[grF,xfr]
  refine⟨h 0 (by simp),z1k r (k+1) fun i hi=>?_⟩
  have:=h (i+1) (by simpa using hi)
  rw[show k+1+i=k+(i+1) by omega];exact this
theorem zma {T:List Br}(h:grT T=true):0<T.length:=by
 cases T with
 |nil=>cases h
 |cons=>simp
theorem zwo {T:List Br}(h:grT T=true):(T[0]'(zma h)).above = -1:=by
 have h0:=zma h
 rw[zry h0] at h
 simp only[xfr,decide_eq_true_eq] at h
 exact h.1
theorem z3u {T:List Br}(h:grT T=true)(k:Nat)(hk:k<T.length):grB T k T[k]=true:=by
 have h0:=zma h
 rw[zry h0] at h
 simp only[xfr,decide_eq_true_eq] at h
 have:=zxb T 0 h.2.2 k hk
 rwa [Nat.zero_add] at this
theorem zf2 {T:List Br}{k:Nat}(hk:k<T.length):T.getD k br0=T[k]:=by rw[List.getD_eq_getElem?_getD,List.getElem?_eq_getElem hk];rfl
theorem zor {T:List Br}(h:grT T=true)(k:Nat)(h0:0<k)(hk:k<T.length):abS T k<k∧T[k].above=(abS T k:Int):=by
 obtain⟨j,h1,h2,_⟩:=z1x (z3u h k hk) h0
 unfold abS
 rw[zf2 hk,h2]
 simpa using h1
end Go.Am.Ds
end
section
namespace Go.Am.Ds
open Go Go.Am Go.Proofs Tryz
attribute [local simp] vrun zaz zbg vop vopA zb2 zab.back hidI hidF zdh bm Nat.testBit_eq_decide_div_mod_eq za6 zbo zb4 vO zbc vlen zbs zbz zd2 zaq zak zcj vbox zbe zdu zby zge zdt zcm zau zcn zav zcl zbf zci zbr zbl vbnd zcz vidx zbp zdk zar zbt zct zdj zd9 zd6 vbin vsc vsc1 vscs vscl zbv aint zb3 zdl za8 zcx zd0 pvcV pvc pvcs tput tget zdd zab.get zab.alloc zab.put zab.drop zab.empty zce vput zdi zbb zca zda chunk List.range List.range.loop za0 zbu za1 frz frzL PV.isF PV.allF PV.scal PV.allS retP subT zds PV.one PV.ids PV.idsL zcc beq_eq zbw zbx
attribute [local simp] zms
def losT (T:List Br):Bool:=(List.range T.length).all fun k=>decide (k=0)||(!decide ((T.getD k br0).cops=[])||decide (2≤(belS T (T.length - 1)).getD k 0))
def onB (s:List Wit)(T:List Br):Bool:=losT T&&(zeh s).all fun p=>decide (val (arS T (T.length - 1)) p.1=1)
theorem z5o {C:List Int}{j:Nat}(h:j<C.length)(x:Int):List.take j (C.map (PV.int .i64))++PV.int .i64 x::List.drop (j+1) (C.map (PV.int .i64))=(C.set j x).map (PV.int .i64):=by
 rw[List.set_eq_take_append_cons_drop,if_pos h];simp
theorem zt8 {C:List Int}{j:Nat}(h:j<C.length):C[j]=C.getD j 0:=by rw[List.getD_eq_getElem?_getD,List.getElem?_eq_getElem h];rfl
theorem p156 (s:List Wit)(T:List Br)(h:zbh s=0)(hg:grT T=true)(hl:T.length≤48)(hb:∀b∈T,b.slips.length≤30∧b.cops.length≤24):zat prog 156 [encS s,encT T] fun r=>r=.bool (onB s T):=by
 unfold encT
 have hT0:0<T.length:=zma hg
 have hUl:(T.drop 1).length=T.length - 1:=List.length_drop
 have hUat:∀(k:Nat) (hk:k<(T.drop 1).length),(T.drop 1)[k]=T[k+1]'(by rw[List.length_drop] at hk;omega):=fun k hk=>by rw[List.getElem_drop];congr 1;omega
 have hU:List.drop 1 (T.map zcf)=(T.drop 1).map zcf:=List.map_drop.symm
 have hT1:1≤T.length:=hT0
 have hT2:(T.length:Int)≤4294967296:=by omega
 have hT3:(1:Int)≤(T.length:Int):=by omega
 have hab:∀k,0<k→k<T.length→abS T k<T.length:=fun k h0 hk=>by have:=(zor hg k h0 hk).1;omega
 obtain⟨U,hUe⟩:∃U,T.drop 1=U:=⟨_,rfl⟩
 have hUT:∀(k:Nat) (hk:k<U.length) (hk2:k+1<T.length),U[k]=T[k+1]:=by subst hUe;exact fun k hk _=>hUat k hk
 rw[hUe] at hU hUl
 have hTk:List.take (T.length - 1) (U.map zcf)=U.map zcf:=List.take_of_length_le (by rw[List.length_map];omega)
 have hB0:(belS T 0).map (PV.int .i64)=List.replicate T.length (PV.int .i64 0):=by show (List.replicate T.length (0:Int)).map _=_;rw[List.map_replicate]
 have hA0:mpG (PV.int .i64) (arS T 0)=[]:=rfl
 clear hUat hUe hT0
 refine .zah func156 rfl rfl ?_
 refine .sr ?_
 refine .seq ?_
 refine .xam (ms:=[0,0,2,6,14,1,63]) (W:=[0]) (As:=[4]) (items:=[.op 1,.op 2,.op 3,.op 4,.op 0,.ck 3,.ck 2,.op 5,.op 6]) rfl zz0 zz0 zz0 zz0 (by decide) ?_
 iterate 3 refine .rf ?_
 refine .al rfl rfl (by decide) (by decide) (by decide) (by decide) zz1 ?_
 refine .wr rfl rfl (by decide) (.vop zz1 (by decide) ?_)
 refine .ck rfl zz0 ?_
 refine .ck rfl zz0 ?_
 iterate 2 refine .rf ?_
 refine .done (.seq (.sr ?_))
 refine .block ?_
 refine .zco (fun k:Nat=>([(2,.ptr 0 0),(3,.ptr 1 0),(5,.mapv 3),(6,.own 2 0 T.length T.length),(22,.vec (U.map zcf)),(23,.int .i64 (T.length - 1:Nat)),(24,.int .i64 k)],⟨4,[(3,.map (mpG (PV.int .i64) (arS T k))),(2,.arr false 1 ((belS T k).map (PV.int .i64))),(1,.box [.vec (T.map zcf)]),(0,.box [.vec (s.map encW)])]⟩)) (fun k=>k≤T.length - 1) (fun k=>T.length - 1 - k) 0 (by simp) (.mk [] [] zz20 zz21 rfl rfl rfl) ?_
 rintro k hk
 simp only at hk ⊢
 refine .sr ?_
 refine .seq ?_
 refine .cs ?_ ?_<;>intro c25
 ·try simp at c25
  have hkm:k<T.length - 1:=by omega
  have hk1:k+1<T.length:=by omega
  have hkU:k<U.length:=by omega
  have hw2:=wr1 k
  have hUk:=hUT k hkU hk1
  have hbk:=hb T[k+1] (List.getElem_mem hk1)
  have hEk:=zeg T[k+1]
  obtain⟨haK,haE⟩:=zor hg (k+1) (by omega) hk1
  have hBl:=zl1 T k
  have hAn:arS T (k+1)=arL (upS T (k+1)) (arS T k) (slS T (k+1)):=rfl
  have hBn:belS T (k+1)=(belS T k).set (abS T (k+1)) ((belS T k).getD (abS T (k+1)) 0+1):=rfl
  have hBb:=zzd hab (abS T (k+1)) (hab _ (by omega) hk1) k (by omega)
  have hAb:=fun n=>zza (fun b h=>(hb b h).1) n k
  have hsl:slS T (k+1)=T[k+1].slips:=by unfold slS;rw[zf2 hk1]
  have hup:upS T (k+1)=(T.getD (abS T (k+1)) br0).slips:=rfl
  obtain⟨b,hbe⟩:∃b,T[k+1]=b:=⟨_,rfl⟩
  obtain⟨a,ha⟩:∃a,abS T (k+1)=a:=⟨_,rfl⟩
  rw[ha] at haK haE hBn hBb hup
  rw[hbe] at hUk hbk hEk haE hsl
  have haT:a<T.length:=by omega
  rw[zf2 haT] at hup
  have hEa:=zeg T[a]
  have hba:=hb T[a] (List.getElem_mem haT)
  obtain⟨u,hu⟩:∃u,T[a]=u:=⟨_,rfl⟩
  rw[hu] at hup hEa hba
  obtain⟨B,hB⟩:∃B,belS T k=B:=⟨_,rfl⟩
  rw[hB] at hBl hBn hBb ⊢
  obtain⟨A,hA⟩:∃A,arS T k=A:=⟨_,rfl⟩
  rw[hA] at hAn hAb ⊢
  rw[hsl,hup] at hAn
  have haB:a<B.length:=by omega
  have hgB:=zt8 haB
  obtain⟨v,hv⟩:∃v,B.getD a 0=v:=⟨_,rfl⟩
  rw[hv] at hBn hBb hgB
  have hwv:IntKind.i64.wrap (v+1)=v+1:=wrap64 (by omega) (by omega)
  have hset:=z5o haB (v+1)
  rw[← hBn] at hset
  obtain⟨B2,hB2⟩:∃B2,belS T (k+1)=B2:=⟨_,rfl⟩
  have ha1:a+1≤B.length:=by omega
  have ha2:a+1≤T.length:=by omega
  rw[hB2] at hset
  obtain⟨A2,hA2⟩:∃A2,arS T (k+1)=A2:=⟨_,rfl⟩
  rw[hA2] at hAn
  clear hBn hv ha hA hB hsl hup hab
  refine .skip (.seq (.block (.sr ?_)))
  refine .sr ?_
  refine .seq ?_
  refine .zac [0,1,2,3,4,5,6,7,8,9] rfl zz0 ?_
  refine .rn [0,1,2,3,4,5,6,7] _ ?_
  refine .step rfl rfl (.take rfl rfl rfl call116 (by decide) (by first|(simp<;>rfl)|(simp[*]<;>rfl)|(simp[*];done)) (p116 [u.slips] (by simp) (by intro y hy;simp at hy;subst hy;omega)) ?_)
  rintro _ rfl
  refine .rn [9] [] ?_
  refine .done (.sr ?_)
  refine .block ?_
  refine .zco (fun j:Nat=>([(2,.ptr 0 0),(3,.ptr 1 0),(5,.mapv 3),(6,.own 2 0 T.length T.length),(9,.vmap (mp (setK [u.slips]))),(22,.vec (U.map zcf)),(23,.int .i64 (T.length - 1:Nat)),(24,.int .i64 k),(45,ints b.slips),(46,.int .i64 b.slips.length),(47,.int .i64 j)],⟨4,[(3,.map (mpG (PV.int .i64) (arL u.slips A (b.slips.take j)))),(2,.arr false 1 (B2.map (PV.int .i64))),(1,.box [.vec (T.map zcf)]),(0,.box [.vec (s.map encW)])]⟩)) (fun j=>j≤b.slips.length) (fun j=>b.slips.length - j) 0 (by simp) (by have e:arL u.slips A (b.slips.take 0)=A:=rfl;simp only[e];exact(.mk [] [] zz20 zz21 rfl rfl rfl)) ?_
  rintro j hj
  simp only at hj ⊢
  refine .sr ?_
  refine .seq ?_
  refine .cs ?_ ?_<;>intro c48
  ·try simp at c48
   have hw3:=wr1 j
   have hsn:=zzf u.slips A c48
   have hbd:=zs0 u.slips b.slips[j] (b.slips.take j) A (30*k) (hAb _).1 (hAb _).2
   have htl:(b.slips.take j).length≤30:=by rw[List.length_take];omega
   obtain⟨n,hn⟩:∃n,b.slips[j]=n:=⟨_,rfl⟩
   rw[hn] at hsn hbd
   obtain⟨X,hX⟩:∃X,arL u.slips A (b.slips.take j)=X:=⟨_,rfl⟩
   rw[hX] at hsn hbd ⊢
   have q115:=p115 (setK [u.slips]) n
   have hmem:n∈setK [u.slips]↔n∈u.slips:=by rw[zly];simp
   unfold zh1 at hsn
   rw[decide_eq_decide.2 hmem] at q115
   obtain⟨bv,hbv⟩:∃bv,decide (n∈u.slips)=bv:=⟨_,rfl⟩
   rw[hbv] at q115
   have hwx:IntKind.i64.wrap (val X n+1)=val X n+1:=wrap64 (by omega) (by omega)
   have hpm:=zxz (f:=PV.int .i64) n (val X n+1) X
   obtain⟨Y,hY⟩:∃Y,aset X n (val X n+1)=Y:=⟨_,rfl⟩
   rw[hY] at hpm hsn
   have hval:val X n=(alk X n).getD 0:=rfl
   obtain⟨vx,hvx⟩:∃vx,val X n=vx:=⟨_,rfl⟩
   rw[hvx] at hval hpm hwx
   clear hX hmem hbd htl
   refine .skip (.seq (.block (.sr ?_)))
   refine .seq ?_
   refine .zac [0,1,2,3] rfl zz0 ?_
   refine .rn [0,1] _ ?_
   refine .pc rfl rfl rfl rfl rfl call115 (q115) ?_
   refine .rn [3] [] ?_
   refine .done ?_
   refine .cs ?_ ?_<;>intro c54
   ·try simp at c54
    rcases hal:alk X n with _|w
    ·skip
     rw[hal] at hval
     have hval:vx=0:=hval
     subst hval
     rw[Int.zero_add] at hpm hwx
     refine .run zz0 (by simp[hal,hpm,hwx]<;>first|exact⟨rfl,rfl⟩|exact rfl) ?_
     refine .run zz0 (by simp[hw3]<;>first|exact⟨rfl,rfl⟩|exact rfl) ?_
     refine⟨j+1,zz5,zz5,by rw[hsn,if_neg (of_decide_eq_false (hbv.trans c54))];exact(.mk [] [] zz20 zz21 rfl rfl rfl)⟩
    skip
    rw[hal] at hval
    have hval:vx=w:=hval
    subst hval
    refine .run zz0 (by simp[hal,hpm,hwx]<;>first|exact⟨rfl,rfl⟩|exact rfl) ?_
    refine .run zz0 (by simp[hw3]<;>first|exact⟨rfl,rfl⟩|exact rfl) ?_
    refine⟨j+1,zz5,zz5,by rw[hsn,if_neg (of_decide_eq_false (hbv.trans c54))];exact(.mk [] [] zz20 zz21 rfl rfl rfl)⟩
   try simp at c54
   refine .skip ?_
   refine .run zz0 (by simp[hw3]<;>first|exact⟨rfl,rfl⟩|exact rfl) ?_
   refine⟨j+1,zz5,zz5,by rw[hsn,if_pos (of_decide_eq_true (hbv.trans c54))];exact(.mk [] [] zz20 zz21 rfl rfl rfl)⟩
  try simp at c48
  have hjl:j=b.slips.length:=by omega
  rw[hjl,List.take_length,← hAn]
  refine .exit (.rn ?_)
  refine⟨k+1,zz5,zz5,by rw[hA2,hB2];exact(.mk [] [] zz20 zz21 rfl rfl rfl)⟩
 try simp at c25
 obtain rfl:k=T.length - 1:=by omega
 have hBl:=zl1 T (T.length - 1)
 have hon:onB s T=(losT T&&(zeh s).all fun p=>decide (val (arS T (T.length - 1)) p.1=1)):=rfl
 have hlo:losT T=(List.range T.length).all fun k=>decide (k=0)||(!decide ((T.getD k br0).cops=[])||decide (2≤(belS T (T.length - 1)).getD k 0)):=rfl
 obtain⟨B,hB⟩:∃B,belS T (T.length - 1)=B:=⟨_,rfl⟩
 obtain⟨A,hA⟩:∃A,arS T (T.length - 1)=A:=⟨_,rfl⟩
 rw[hB] at hBl hlo ⊢
 rw[hA] at hon ⊢
 clear hB hA hab hU hUT hTk hB0 hA0 hUl
 refine .exit (.seq (.sr ?_))
 refine .block ?_
 refine .zco (fun k:Nat=>([(2,.ptr 0 0),(5,.mapv 3),(6,.own 2 0 T.length T.length),(62,.vec (T.map zcf)),(63,.int .i64 T.length),(64,.int .i64 k)],⟨4,[(3,.map (mpG (PV.int .i64) A)),(2,.arr false 1 (B.map (PV.int .i64))),(0,.box [.vec (s.map encW)])]⟩)) (fun k=>k≤T.length∧(((List.range T.length).take k).all fun k=>decide (k=0)||(!decide ((T.getD k br0).cops=[])||decide (2≤B.getD k 0)))=true) (fun k=>T.length - k) 0 ⟨by simp,by simp⟩ (.mk [] [] zz20 zz21 rfl rfl rfl) ?_
 rintro k ⟨hk,hr⟩
 simp only at hk hr ⊢
 refine .sr ?_
 refine .seq ?_
 refine .cs ?_ ?_<;>intro c65
 ·try simp at c65
  have hw2:=wr1 k
  have hkr:k<(List.range T.length).length:=by rw[List.length_range];exact c65
  have hbk:=hb T[k] (List.getElem_mem c65)
  have hEk:=zeg T[k]
  have hno:=zpc (p:=fun k=>decide (k=0)||(!decide ((T.getD k br0).cops=[])||decide (2≤B.getD k 0))) hkr
  have hal:=zl0 (p:=fun k=>decide (k=0)||(!decide ((T.getD k br0).cops=[])||decide (2≤B.getD k 0))) hkr
  rw[List.getElem_range,zf2 c65,← hlo] at hno
  rw[List.getElem_range,zf2 c65,hr] at hal
  obtain⟨b,hbe⟩:∃b,T[k]=b:=⟨_,rfl⟩
  rw[hbe] at hbk hEk hno hal
  have hkB:k<B.length:=by omega
  have hgB:=zt8 hkB
  obtain⟨v,hv⟩:∃v,B.getD k 0=v:=⟨_,rfl⟩
  rw[hv] at hgB hno hal
  clear hr hv hkr
  refine .skip (.seq (.block (.sr ?_)))
  refine .seq ?_
  refine .zac [0,1,2,3,4,5,6,7,8,9,10,11,12,13,14] rfl zz0 ?_
  refine .rn [0,1,2] _ ?_
  refine .split (t:=71) rfl (fun c71=>?_) (fun c71=>?_)
  ·first|cases c71|(have h:=bnt c71;cases h)|(have h:=bnf c71;cases h)|try rw[c71]
   try simp at c71
   refine .rn [3,4,5,6,7,8] _ ?_
   refine .split (t:=77) rfl (fun c77=>?_) (fun c77=>?_)
   ·first|cases c77|(have h:=bnt c77;cases h)|(have h:=bnf c77;cases h)|try rw[c77]
    try simp at c77
    refine .rn [9,10,11,12,13,14] [] ?_
    refine .done ?_
    refine .cs ?_ ?_<;>intro c83
    ·try simp at c83
     refine .sr ?_
     refine .ret ?_
     refine⟨_,_,zz4,zz4,?_⟩
     have h1:losT T=false:=hno (by simp[c77];omega)
     rw[hon,h1];rfl
    try simp at c83
    refine .skip (.rn ?_)
    refine⟨k+1,⟨zz5,by rw[hal];simp;omega⟩,zz5,(.mk [] [] zz20 zz21 rfl rfl rfl)⟩
   first|cases c77|(have h:=bnt c77;cases h)|(have h:=bnf c77;cases h)|try rw[c77]
   try simp at c77
   refine .rn [9,10,11,12,13,14] [] ?_
   refine .done (.zd3 rfl (.skip (.rn ?_)))
   refine⟨k+1,⟨zz5,by rw[hal];simp[c77]⟩,zz5,(.mk [] [] zz20 zz21 rfl rfl rfl)⟩
  first|cases c71|(have h:=bnt c71;cases h)|(have h:=bnf c71;cases h)|try rw[c71]
  try simp at c71
  have hk0:k≤0:=by omega
  clear c71
  refine .rn [3,4,5,6,7,8,9,10,11,12,13,14] [] ?_
  refine .done (.zd3 rfl (.skip (.rn ?_)))
  refine⟨k+1,⟨zz5,by rw[hal];simp;omega⟩,zz5,(.mk [] [] zz20 zz21 rfl rfl rfl)⟩
 try simp at c65
 obtain rfl:k=T.length:=by first|omega|(simp at c65;omega)
 have hlt:losT T=true:=by rw[hlo,← hr,List.take_of_length_le (by rw[List.length_range];exact Nat.le_refl _)]
 rw[hlt,Bool.true_and] at hon
 clear hlt hlo hr hk
 refine .exit (.seq ?_)
 refine .rec (vts2:=[(2,.vp [.vec (s.map encW)]),(5,.vmap (mpG (PV.int .i64) A))]) (vh2:=zab.empty) (.mk [0,3] [] zz18 zz19 rfl rfl rfl) ?_
 refine .zyh (i:=6) (j:=7) (tI:=87) (tN:=88) (tB:=89) (tE:=90) (tX:=86) (es:=kvs (kvM (zeh s))) (vts0:=[(86,.vmap (kvs (kvM (zeh s)))),(85,.agg [.vec (s.map encW)]),(2,.vp [.vec (s.map encW)]),(5,.vmap (mpG (PV.int .i64) A))])
  (fun vis=>([(87,.ptr 0 0),(5,.vmap (mpG (PV.int .i64) A))],⟨1,[]⟩)) (fun vis=>∀k∈vis,∃p,(zeh s)[k]?=some p∧val A p.1=1)
  rfl rfl zz0 rfl rfl rfl u139 rfl rfl rfl rfl rfl rfl rfl rfl rfl rfl zz0 (by decide) (by decide) ?_ rfl ?_ ?_ (fun vis=>⟨rfl,rfl⟩) (.mk [] [] zz20 zz21 rfl rfl rfl) rfl (fun k hk=>by cases hk) ?_ ?_
 ·refine VOps.run (l:=[0]) (r:=[1]) zz0 zz1 ?_
  refine .pc rfl rfl rfl rfl rfl call94 (p94 s h) ?_
  exact .done ⟨rfl,rfl⟩
 ·rintro p hp
  obtain⟨q,_,rfl⟩:=List.mem_map.1 hp
  exact⟨_,_,rfl⟩
 ·rw[zui,zqe]
  exact(zjc s).map _ fun a b hab=>by simpa using hab
 ·rintro vis k p hI hvn hp hkv
  obtain⟨q,hq,rfl⟩:∃q,(zeh s)[k]?=some q∧p=(.int .i64 q.1,.int .u32 q.2):=by
   unfold kvs kvM at hp
   rw[List.getElem?_map,List.getElem?_map] at hp
   cases hq:(zeh s)[k]? with
   |none=>rw[hq] at hp;cases hp
   |some q=>rw[hq] at hp;simp only[Option.map_some,xfm] at hp;exact⟨q,rfl,hp.symm⟩
  obtain⟨n,hn⟩:∃n,q.1=n:=⟨_,rfl⟩
  have hval:val A n=(alk A n).getD 0:=rfl
  have hI2:val A n=1→∀k'∈vis++[k],∃p,(zeh s)[k']?=some p∧val A p.1=1:=fun h1 k' hk'=>by
   rcases List.mem_append.1 hk' with h2|h2
   ·exact hI k' h2
   simp at h2;subst h2;exact⟨q,hq,by rw[hn];exact h1⟩
  have hno:val A n≠1→onB s T=false:=fun h1=>by
   rw[hon,List.all_eq_false]
   exact⟨q,List.mem_of_getElem? hq,by rw[hn];simpa using h1⟩
  simp only[hn]
  rcases hal:alk A n with _|w
  ·rw[hal] at hval
   have hval:val A n=0:=hval
   rw[hval] at hI2 hno
   refine .rn [1,2] [] ?_
   refine .done (.sr ?_)
   refine .zey rfl (.sr ?_)
   refine .ret ?_
   refine⟨_,_,zz4,zz4,?_⟩
   rw[hno (by decide)]
  rw[hal] at hval
  have hval:val A n=w:=hval
  rw[hval] at hI2 hno
  refine .rn [1,2] [] ?_
  refine .done (.sr ?_)
  refine .cs ?_ ?_<;>intro c95
  ·try simp at c95
   refine .sr ?_
   refine .ret ?_
   refine⟨_,_,zz4,zz4,?_⟩
   rw[hno c95]
  try simp at c95
  refine .skip ?_
  exact⟨hI2 c95,(.mk [] [] zz20 zz21 rfl rfl rfl)⟩
 rintro vis hI hvn hall
 have ht:onB s T=true:=by
  rw[hon,List.all_eq_true]
  intro p hp
  obtain⟨k,hk⟩:=List.getElem?_of_mem hp
  have hkl:k<(kvs (kvM (zeh s))).length:=by
   have:=(List.getElem?_eq_some_iff.1 hk).1
   simpa[kvs,kvM] using this
  obtain⟨p',h1,h2⟩:=hI k ((hall k).2 hkl)
  rw[hk] at h1;cases h1
  simpa using h2
 refine .sr ?_
 refine .ret ?_
 refine⟨_,_,zz4,zz4,?_⟩
 rw[ht]
theorem p81e (s:List Wit)(hl:s.length<4294967296)(h:zbh s≠0):zat prog 81 [encS s] fun r=>r=.tup [.agg [.sl0],.int .i64 (zbh s)]:=by
 refine .zah func81 rfl rfl ?_
 refine .sr ?_
 refine .seq (.seq ?_)
 refine .zac [0,1,2] rfl zz0 ?_
 refine .rn [0] _ ?_
 refine .pc rfl rfl rfl rfl rfl call35 (p35 s hl) ?_
 refine .rn [2] [] ?_
 refine .done (.sr ?_)
 refine .cs ?_ ?_<;>intro c11
 ·try simp at c11
  refine .sr ?_
  refine .ret ?_
  refine⟨_,_,zz4,zz4,?_⟩
  first|rfl|(simp[*];done)|(simp_all;done)
 try simp at c11
 exact absurd c11 h
theorem p81x (s:List Wit)(h:zbh s=0)(hx:(crR s).isSome=true):zat prog 81 [encS s] fun r=>r=.tup [.agg [.sl0],.int .i64 9]:=by
 have q95:=p95 s h
 refine .zah func81 rfl rfl ?_
 refine .sr ?_
 refine .seq (.seq ?_)
 refine .zac [0,1,2] rfl zz0 ?_
 refine .rn [0] _ ?_
 refine .pc rfl rfl rfl rfl rfl call35 (p35 s ((by have:=(zch h).1;omega))) ?_
 refine .rn [2] [] ?_
 refine .done (.sr ?_)
 refine .cs ?_ ?_<;>intro c11
 ·try simp at c11
 try simp at c11
 refine .skip (.seq (.seq ?_))
 refine .zac [0,1,2,3,4,5,6,7,8,9] rfl zz0 ?_
 refine .rn [0] _ ?_
 refine .pc rfl rfl rfl rfl rfl call94 (p94 s h) ?_
 refine .pc rfl rfl rfl rfl rfl call95 (q95) ?_
 refine .rn [3,4,5,6,7,8,9] [] ?_
 refine .done (.sr ?_)
 refine .cs ?_ ?_<;>intro c21
 ·try simp at c21
  refine .sr ?_
  refine .ret ?_
  refine⟨_,_,zz4,zz4,?_⟩
  first|rfl|(simp[*];done)|(simp_all;done)
 try simp at c21
theorem zwc (T:List Br)(k:Nat)(h:k<(T.drop 1).length):((T.drop 1).take (k+1)).countP (fun b=>b.cops.isEmpty)=((T.drop 1).take k).countP (fun b=>b.cops.isEmpty)+if (T.drop 1)[k].cops.isEmpty=true then 1 else 0:=by
 rw[List.take_succ_eq_append_getElem h,List.countP_append,List.countP_singleton]
def ctT (s:List Wit)(T:List Br):Int:=if zbh s=0 then (if lrgT T=true then 2 else if (grT T&&(stT s T&&onB s T))=true then 0 else 8) else zbh s
theorem xal {T:List Br}(h:lrgT T=false):T.length≤48∧∀b∈T,b.slips.length≤30∧b.cops.length≤24:=by
 unfold lrgT at h
 rw[Bool.or_eq_false_iff,List.any_eq_false] at h
 refine⟨by have:=of_decide_eq_false h.1;omega,fun b hb=>?_⟩
 have:=h.2 b hb
 simp only[lrgB,Bool.or_eq_true,decide_eq_true_eq,not_or] at this
 omega
theorem p87 (s:List Wit)(T:List Br)(hs:s.length<4294967296)(hl:T.length<4611686018427387904)(hb:∀b∈T,b.slips.length<4611686018427387904∧b.cops.length<4611686018427387904):zat prog 87 [encS s,encT T] fun r=>r=.int .i64 (ctT s T):=by
 have q153:=p153 T hl hb
 obtain⟨lg,hlg⟩:∃l,lrgT T=l:=⟨_,rfl⟩
 rw[hlg] at q153
 unfold encT at q153 ⊢
 refine .zah func87 rfl rfl ?_
 refine .sr ?_
 refine .seq (.seq ?_)
 refine .zac [0,1,2] rfl zz0 ?_
 refine .rn [0] _ ?_
 refine .pc rfl rfl rfl rfl rfl call35 (p35 s hs) ?_
 refine .rn [2] [] ?_
 refine .done (.sr ?_)
 refine .cs ?_ ?_<;>intro c9
 ·try simp at c9
  refine .sr ?_
  refine .ret ?_
  refine⟨_,_,zz4,zz4,?_⟩
  unfold ctT;rw[if_neg c9]
 try simp at c9
 refine .skip (.seq (.seq ?_))
 refine .zac [0,1] rfl zz0 ?_
 refine .rn [0] _ ?_
 refine .pc rfl rfl rfl rfl rfl call153 (q153) ?_
 refine .done ?_
 refine .cs ?_ ?_<;>intro c12
 ·try simp at c12
  refine .sr ?_
  refine .ret ?_
  refine⟨_,_,zz4,zz4,?_⟩
  unfold ctT;rw[if_pos c9,if_pos (by rw[hlg];exact c12)]
 try simp at c12
 have hlg2:lrgT T=false:=by rw[hlg];exact c12
 obtain⟨hT48,hTb⟩:=xal hlg2
 have q154:=p154 T hT48 hTb
 have q155:=p155 s T (zch c9).1 (fun w hw=>(zjf c9 w hw).1) hT48 hTb
 have q156:=fun hg=>p156 s T c9 hg hT48 hTb
 have hct:ctT s T=if (grT T&&(stT s T&&onB s T))=true then 0 else 8:=by unfold ctT;rw[if_pos c9,if_neg (by rw[hlg2];simp)]
 obtain⟨g,hg⟩:∃g,grT T=g:=⟨_,rfl⟩
 obtain⟨st,hst⟩:∃g,stT s T=g:=⟨_,rfl⟩
 obtain⟨o,ho⟩:∃g,onB s T=g:=⟨_,rfl⟩
 rw[hg] at q154 hct q156
 rw[hst] at q155 hct
 rw[ho] at hct
 simp only[ho] at q156
 unfold encT at q154 q155 q156
 clear hg hst ho hlg hlg2
 refine .skip (.seq (.seq ?_))
 refine .zac [0,1,2,3,4,5,6,7,8,9,10,11,12,13,14] rfl zz0 ?_
 refine .rn [0] _ ?_
 refine .pc rfl rfl rfl rfl rfl call154 (q154) ?_
 refine .rn [2,3] _ ?_
 refine .split (t:=16) rfl (fun c16=>?_) (fun c16=>?_)
 ·first|cases c16|(have h:=bnt c16;cases h)|(have h:=bnf c16;cases h)|try rw[c16]
  try simp at c16
  refine .rn [4,5,6,7,8,9,10,11,12,13,14] [] ?_
  refine .done (.zey rfl (.sr ?_))
  refine .ret ?_
  refine⟨_,_,zz4,zz4,?_⟩
  rw[hct];simp
 first|cases c16|(have h:=bnt c16;cases h)|(have h:=bnf c16;cases h)|try rw[c16]
 try simp at c16
 refine .rn [4,5] _ ?_
 refine .pc rfl rfl rfl rfl rfl call155 (q155) ?_
 refine .rn [7,8,9] _ ?_
 refine .split (t:=22) rfl (fun c22=>?_) (fun c22=>?_)
 ·first|cases c22|(have h:=bnt c22;cases h)|(have h:=bnf c22;cases h)|try rw[c22]
  try simp at c22
  refine .rn [10,11,12,13,14] [] ?_
  refine .done (.zey rfl (.sr ?_))
  refine .ret ?_
  refine⟨_,_,zz4,zz4,?_⟩
  rw[hct];simp
 first|cases c22|(have h:=bnt c22;cases h)|(have h:=bnf c22;cases h)|try rw[c22]
 try simp at c22
 refine .rn [10,11] _ ?_
 refine .pc rfl rfl rfl rfl rfl call156 (q156 rfl) ?_
 refine .rn [13,14] [] ?_
 refine .done ?_
 refine .cs ?_ ?_<;>intro c27
 ·try simp at c27
  refine .sr ?_
  refine .ret ?_
  refine⟨_,_,zz4,zz4,?_⟩
  rw[hct];simp[c27]
 try simp at c27
 refine .skip (.sr ?_)
 refine .ret ?_
 refine⟨_,_,zz4,zz4,?_⟩
 rw[hct];simp[c27]
end Go.Am.Ds
end
