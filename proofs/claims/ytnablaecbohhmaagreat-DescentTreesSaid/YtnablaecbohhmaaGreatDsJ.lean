/-
 What is used in the proof of a statement (part DsJ); no condition.
-/
import Derived.Test.YtnablaecbohhmaaGreatDsZ
import Derived.Test.YtnablaecbohhmaaGreatVm2
import Derived.Test.YtnablaecbohhmaaGreatDsT
import Derived.Test.YtnablaecbohhmaaGreatDsH
import Derived.Test.YtnablaecbohhmaaGreatDsI
import Derived.Test.YtnablaecbohhmaaGreatDsA
import Derived.Test.YtnablaecbohhmaaGreatDsB
import Derived.Test.YtnablaecbohhmaaGreatDsF
import Derived.Test.YtnablaecbohhmaaGreatDsG
set_option linter.all false
set_option maxHeartbeats 40000000
set_option maxRecDepth 100000
section
namespace Go.Am.Ds
open Go Go.Am Go.Proofs Tryz
attribute [local simp] vrun zay zbm vop vopA zcn zab.back hidI hidF zd4 bm Nat.testBit_eq_decide_div_mod_eq za2 zbp zck vO zbj vlen zbv zb6 zev zau zap zcx vbox zbh zeq zcb zk5 zer zcw zaw zcy zax zc0 zbi zcz zbu zbq vbnd zdh vidx zbr zee zav zbx zde zeh zfd zfa vbin vsc vsc1 vscs vscl zb8 aint zca zef zbb zdb zex pvcV pvc pvcs tput tget zdx zab.get zab.alloc zab.put zab.drop zab.empty zce vput zei zbd zcf zdu chunk List.range List.range.loop za7 zb2 za8 frz frzL PV.isF PV.allF PV.scal PV.allS retP subT zem PV.one PV.ids PV.idsL zcj beq_eq zb9 zcc
attribute [local simp] zab.only Go.Am.znv
theorem zaj.xgp {P:Program}{f:FuncId}{l r:List PV}{R:PV→Prop}(hp:zaj P f (l++.vec []::r) R):zaj P f (l++.sl0::r) R:=fun lo g σ h args' ha s=>by
 refine hp lo g σ h args' ⟨by have:=ha.1;simpa using this,fun i v v' hv hv'=>?_⟩ s
 by_cases hi:i=l.length
 ·subst hi
  have h1:(l++PV.sl0::r)[l.length]?=some .sl0:=by simp
  have h2:=ha.2 _ _ v' h1 hv'
  have h3:v=.vec []:=by simpa using hv.symm
  subst h3
  cases h2 with
  |fr _ _ h=>cases h;exact .fr _ _ .vecN
 refine ha.2 i v v' ?_ hv'
 rw[← hv]
 rcases Nat.lt_or_ge i l.length with h|h
 ·rw[List.getElem?_append_left h,List.getElem?_append_left h]
 rw[List.getElem?_append_right h,List.getElem?_append_right h]
 obtain⟨j,hj⟩:∃j,i - l.length=j+1:=⟨i - l.length - 1,by omega⟩
 rw[hj];rfl
theorem p186 (s:List Wit)(l:List Int)(hl:s.length<4294967296)(hli:∀w∈s,w.slips.length<4294967296)(hlL:l.length<4294967296):zaj prog 186 [encS s,ints l] fun r=>r=encS (zfe s l):=by
 refine .zag func186 rfl rfl ?_
 refine .sr ?_
 refine .sr ?_
 refine .seq (.sr ?_)
 refine .block ?_
 refine .zbl (fun k:Nat=>([(1,ints l),(2,.ptr 0 0),(4,.ptr 1 0),(5,.ptr 2 0),(6,.int .i64 k)],⟨4,[(3,.grow 7 ((zfe (s.take k) l).map encW)),(2,.box [.grow 3 k true]),(1,.box [.sl0]),(0,.box [.vec (s.map encW)])]⟩)) (fun k=>k≤s.length) (fun k=>s.length - k) 0 (by simp) (by have:zfe (s.take 0) l=[]:=rfl;exact(.mk [] [] zz20 zz21 rfl rfl rfl)) ?_
 rintro k hk
 simp only at hk ⊢
 have hbl:(zfe (s.take k) l).length=k:=by simp[zfe];omega
 refine .seq (.sr ?_)
 refine .cs ?_ ?_<;>intro c15
 ·try simp at c15
  have hw2:=wr1 k
  have hE:encW s[k]=.agg [.int .i64 s[k].id,.int .i64 s[k].known,ints s[k].slips,ints s[k].mended,ints s[k].models,.int .i64 s[k].lo,.int .i64 s[k].hi]:=rfl
  have hkl:=hli s[k] (List.getElem_mem c15)
  refine .skip (.seq (.block (.sr ?_)))
  refine .sr ?_
  refine .seq (.sr ?_)
  refine .block ?_
  refine .zbl (fun j:Nat=>([(1,ints l),(2,.ptr 0 0),(4,.ptr 1 0),(5,.ptr 2 0),(6,.int .i64 k),(7,.ptr 4 0),(8,.grow 5 (zpb s[k] l j).length true),(9,.int .i64 j)],⟨6,[(5,.grow 1 ((zpb s[k] l j).map (.int .i64))),(4,.box [.int .i64 s[k].id,.int .i64 s[k].known,ints s[k].slips,ints s[k].mended,ints s[k].models,.int .i64 s[k].lo,.int .i64 s[k].hi]),(3,.grow 7 ((zfe (s.take k) l).map encW)),(2,.box [.grow 3 k true]),(1,.box [.sl0]),(0,.box [.vec (s.map encW)])]⟩)) (fun j=>j≤s[k].slips.length) (fun j=>s[k].slips.length - j) 0 (by simp) (by have:zpb s[k] l 0=[]:=rfl;exact(.mk [] [] zz20 zz21 rfl rfl rfl)) ?_
  rintro j hj
  simp only at hj ⊢
  refine .seq (.sr ?_)
  refine .cs ?_ ?_<;>intro c27
  ·try simp at c27
   have hw3:=wr1 j
   have hS:=zyq s[k] l j c27
   have hjl:(zpb s[k] l j).length≤4294967295:=Nat.le_trans (List.length_filter_le _ _) (by rw[List.length_take];omega)
   have hone:zcm [PV.int IntKind.i64 s[k].slips[j]]=true:=rfl
   refine .skip (.seq (.block (.seq ?_)))
   refine .zac [0,1,2,3,4,5,6,7] rfl zz0 ?_
   refine .rn [0,1,2,3,4,5] _ ?_
   refine .pc rfl rfl rfl rfl rfl call121 (p121 l s[k].slips[j] hlL) ?_
   refine .rn [7] [] ?_
   refine .done (.sr ?_)
   refine .cs ?_ ?_<;>intro c38
   ·try simp at c38
    rw[if_neg c38] at hS
    refine .rn ?_
    refine .rn ?_
    refine⟨j+1,zz5,zz5,(.mk [] [(5,7)] zz20 zz21 rfl rfl rfl)⟩
   try simp at c38
   rw[if_pos c38] at hS
   refine .skip (.rn ?_)
   refine⟨j+1,zz5,zz5,(.mk [] [] zz20 zz21 rfl rfl rfl)⟩
  try simp at c27
  have hj2:j=s[k].slips.length:=by omega
  subst hj2
  have hF:zpb s[k] l s[k].slips.length=(zmo l s[k]).slips:=by unfold zpb;rw[List.take_length];rfl
  have hE2:encW (zmo l s[k])=.agg [.int .i64 s[k].id,.int .i64 s[k].known,ints (zmo l s[k]).slips,ints s[k].mended,ints s[k].models,.int .i64 s[k].lo,.int .i64 s[k].hi]:=rfl
  have hT:zfe (s.take (k+1)) l=zfe (s.take k) l++[zmo l s[k]]:=zhe (zmo l) s k c15
  rw[hF]
  obtain⟨F,hFe⟩:∃F,(zmo l s[k]).slips=F:=⟨_,rfl⟩
  rw[hFe] at hE2 ⊢
  obtain⟨W,hW⟩:∃W,zmo l s[k]=W:=⟨_,rfl⟩
  rw[hW] at hE2 hT
  have hb:k≤4294967295:=by omega
  refine .rec (vts2:=[(1,ints l),(2,.ptr 0 0),(4,.ptr 1 0),(5,.ptr 2 0),(6,.int .i64 k),(7,.ptr 4 0),(8,ints F)]) (vh2:=⟨5,[(4,.box [.int .i64 s[k].id,.int .i64 s[k].known,ints s[k].slips,ints s[k].mended,ints s[k].models,.int .i64 s[k].lo,.int .i64 s[k].hi]),(3,.grow 7 ((zfe (s.take k) l).map encW)),(2,.box [.grow 3 k true]),(1,.box [.sl0]),(0,.box [.vec (s.map encW)])]⟩) (.mk [5] [] zz20 zz21 rfl rfl rfl) ?_
  refine .exit (.sr ?_)
  refine .rn ?_
  refine .rn ?_
  refine⟨k+1,zz5,zz5,(.mk [] [(3,6)] zz20 zz21 rfl rfl rfl)⟩
 try simp at c15
 have hk2:k=s.length:=by omega
 subst hk2
 rw[List.take_length] at hbl ⊢
 refine .exit (.sr ?_)
 refine .ret ?_
 refine⟨_,_,zz4,(by simp[hbl]<;>rfl),?_⟩
 simp[encS]
def dpV (o:Option (List Int))(r:PV):Prop:=∃x,r=.tup [x,.bool o.isSome]∧x.isF=true∧∀l,o=some l→x=ints l
theorem zy4 (s:List Wit)(sl:List Int)(i m:Nat)(ch:List Int)(h:i<sl.length):refD s (sl.drop i) (m+1) ch=match refD s (sl.drop (i+1)) m (ch++[sl[i]]) with
  |some x=>some x
  |none=>refD s (sl.drop (i+1)) (m+1) ch:=by
 rw[List.drop_eq_getElem_cons h];rfl
theorem xis (s:List Wit)(h:zai s=0)(sl ch:List Int)(i:Int)(hc:ch.length<4294967296):zaj prog 151 [encS s,ints sl,.int .i64 i,ints ch,.int .i64 0] fun r=>r=.tup [ints ch,.bool (!badD s ch)]:=by
 have q186:=p186 s ch (by have:=(zbc h).1;omega) (fun w hw=>(zc9 h w hw).1) hc
 have q129:=p129 (zfe s ch) (zp6 h ch)
 have hbd:badD s ch=(crR (zfe s ch)).isSome:=rfl
 obtain⟨v1,v2,v3,v4,v5,hy⟩:∃(v1 v2 v3 v4 v5:Int),crC (zfe s ch)=.agg [.int .i64 v1,.int .i64 v2,.int .i64 v3,.int .i64 v4,.int .i64 v5,.bool (badD s ch),.int .i64 0]:=by
  rw[hbd]
  unfold crC
  cases hc:crR (zfe s ch) with
  |none=>exact⟨_,_,_,_,_,rfl⟩
  |some p=>exact⟨_,_,_,_,_,rfl⟩
 rw[hy] at q129
 obtain⟨bd,hbd2⟩:∃b,badD s ch=b:=⟨_,rfl⟩
 rw[hbd2] at q129 ⊢
 obtain⟨S,hS⟩:∃S,zfe s ch=S:=⟨_,rfl⟩
 rw[hS] at q186 q129
 refine .zag func151 rfl rfl ?_
 refine .sr ?_
 refine .seq (.sr ?_)
 refine .cs ?_ ?_<;>intro c17
 ·try simp at c17
  refine .seq ?_
  refine .zac [0,1,2,3,4,5] rfl zz0 ?_
  refine .rn [0,1] _ ?_
  refine .pc rfl rfl rfl rfl rfl call186 (q186) ?_
  refine .pc rfl rfl rfl rfl rfl call129 (q129) ?_
  refine .rn [4,5] [] ?_
  refine .done (.seq ?_)
  refine .drawn (ms:=[0,0,2,6,1,31]) (W:=[]) (items:=[.op 0,.op 1,.op 2,.op 3,.op 4,.op 5]) rfl zz0 zz0 zz0 ?_
  iterate 6 refine .rx ?_
  refine .done (.ret ?_)
  refine⟨_,_,zz4,zz4,?_⟩
  first|rfl|(simp[*];done)|(simp_all;done)
 try simp at c17
theorem xho (s:List Wit)(sl:List Int)(m:Nat)(hm:m≤3)(hsl:sl.length≤720)(ih:∀(i:Nat) (ch:List Int),i≤sl.length→ch.length+m≤4→zaj prog 151 [encS s,ints sl,.int .i64 i,ints ch,.int .i64 m] fun r=>dpV (refD s (sl.drop i) m ch) r)(i0:Nat)(hi0:i0≤sl.length)(ch:List Int)(hc:ch.length+(m+1)≤4):zaj prog 151 [encS s,ints sl,.int .i64 i0,ints ch,.int .i64 ((m+1:Nat):Int)] fun r=>∃x,r=.tup [x,.bool (refD s (sl.drop i0) (m+1) ch).isSome]∧x.isF=true∧∀l,refD s (sl.drop i0) (m+1) ch=some l→x=ints l:=by
 have hm0:¬((m:Int)+1=0):=by omega
 have hwm:IntKind.i64.wrap (((m+1:Nat):Int) - 1)=(m:Int):=by rw[wrap64 (by omega) (by omega)];omega
 have hwm2:IntKind.i64.wrap ((m:Int)+1 - 1)=(m:Int):=by rw[wrap64 (by omega) (by omega)];omega
 have hwm3:IntKind.i64.wrap (m:Int)=(m:Int):=wrap64 (by omega) (by omega)
 obtain⟨O,hO⟩:∃O,refD s (sl.drop i0) (m+1) ch=O:=⟨_,rfl⟩
 rw[hO]
 refine .zag func151 rfl rfl ?_
 refine .sr ?_
 refine .seq (.sr ?_)
 refine .cs ?_ ?_<;>intro c17
 ·try simp at c17
  exfalso;omega
 try simp at c17
 refine .skip (.seq (.sr ?_))
 refine .block ?_
 refine .zbl (fun i:Nat=>([(1,ints sl),(3,ints ch),(4,.int .i64 ((m+1:Nat):Int)),(5,.ptr 0 0),(13,.int .i64 i)],⟨1,[(0,.box [.vec (s.map encW)])]⟩)) (fun i=>i≤sl.length∧refD s (sl.drop i) (m+1) ch=O) (fun i=>sl.length - i) i0 ⟨hi0,hO⟩ (.mk [] [] zz20 zz21 rfl rfl rfl) ?_
 rintro i ⟨hi,hr⟩
 simp only at hi hr ⊢
 refine .seq (.sr ?_)
 refine .cs ?_ ?_<;>intro c30
 ·try simp at c30
  have hw2:=wr1 i
  rw[zy4 s sl i m ch c30] at hr
  obtain⟨a,ha⟩:∃a,sl[i]=a:=⟨_,rfl⟩
  rw[ha] at hr
  have q:=ih (i+1) (ch++[a]) (by omega) (by rw[List.length_append,List.length_singleton];omega)
  have hca:ints (ch++[a])=.vec (ch.map (.int .i64)++[.int .i64 a]):=by simp[ints]
  rw[hca] at q
  obtain⟨o,ho⟩:∃o,refD s (sl.drop (i+1)) m (ch++[a])=o:=⟨_,rfl⟩
  rw[ho] at q hr
  have hcl:ch.length+1≤4294967296:=by omega
  have hcl2:ch.length≤4294967296:=by omega
  unfold dpV at q
  have hi1:((i+1:Nat):Int)=(i:Int)+1:=by omega
  rw[hi1] at q
  unfold encS at q
  refine .skip (.seq (.block (.seq ?_)))
  refine .zp1 (ms:=[0,0,0,4,0,0,48,0,0,384,896,1920,4080,0,8192,32767,65535,131071,131071,262143,1048575]) (W:=[4,6,12,15]) (As:=[11]) (items:=[.op 0,.op 1,.op 2,.op 3,.op 5,.op 7,.op 8,.op 9,.op 10,.op 11,.op 13,.op 14,.op 4,.ck 10,.ck 0,.op 6,.ck 10,.ck 0,.op 12,.ck 0,.op 15,.op 16,.op 17,.op 18,.op 19,.op 20]) rfl zz0 zz0 zz0 zz0 (by decide) ?_
  iterate 9 refine .rf ?_
  refine .al rfl rfl (by decide) (by decide) (by decide) (by decide) zz1 ?_
  iterate 2 refine .rf ?_
  refine .wr rfl rfl (by decide) (.vop zz1 (by decide) ?_)
  refine .ck rfl (by first|decide +kernel|exact rfl) ?_
  refine .ck rfl (by first|decide +kernel|exact rfl) ?_
  refine .wr rfl rfl (by decide) (.vopK [2] (todo':=[10,0]) zz1 zz1 (by decide) (⟨⟨(by first|decide +kernel|exact rfl),_,_,rfl,zz1⟩,⟨⟨(by first|decide +kernel|exact rfl),_,_,rfl,zz1⟩,trivial⟩⟩) zz0 ?_)
  refine .ck rfl (by first|decide +kernel|exact rfl) ?_
  refine .ck rfl (by first|decide +kernel|exact rfl) ?_
  refine .wr rfl rfl (by decide) (.vopK [3,1] (todo':=[0]) zz1 zz1 (by decide) (⟨⟨(by first|decide +kernel|exact rfl),_,_,rfl,zz1⟩,trivial⟩) zz0 ?_)
  refine .ck rfl (by first|decide +kernel|exact rfl) ?_
  refine .wr rfl rfl (by decide) (.take rfl rfl rfl call151 (by decide) (by first|(simp<;>rfl)|(simp[*]<;>rfl)|(simp[*];done)) (q) ?_)
  rintro _ ⟨x,rfl,hxF,hx⟩
  iterate 5 refine .rf ?_
  refine .done (.sr ?_)
  refine .cs ?_ ?_<;>intro c52
  ·try simp at c52
   obtain⟨l,rfl⟩:∃l,o=some l:=Option.isSome_iff_exists.1 (by simpa using c52)
   have hr2:some l=O:=hr
   refine .sr ?_
   refine .ret ?_
   refine⟨_,_,zz4,(by simp[z1h _ hxF]<;>rfl),x,by rw[← hr2];rfl,hxF,fun l' hl'=>?_⟩
   rw[← hr2] at hl';cases hl';exact hx _ rfl
  try simp at c52
  have hon:o=none:=by cases o with
   |none=>rfl
   |some l=>simp at c52
  rw[hon] at hr
  have hr2:refD s (sl.drop (i+1)) (m+1) ch=O:=hr
  refine .skip (.rn ?_)
  refine⟨i+1,⟨zz5,hr2⟩,zz5,(.mk [] [] zz20 zz21 rfl rfl rfl)⟩
 try simp at c30
 obtain rfl:i=sl.length:=by omega
 rw[List.drop_length] at hr
 have hr2:none=O:=hr
 refine .exit (.sr ?_)
 refine .ret ?_
 refine⟨_,_,zz4,zz4,?_⟩
 exact⟨.sl0,by rw[← hr2];rfl,rfl,fun l hl=>by rw[← hr2] at hl;cases hl⟩
theorem xeb (s:List Wit)(h:zai s=0)(sl:List Int)(hsl:sl.length≤720):∀m,m≤3→∀(i:Nat) (ch:List Int),i≤sl.length→ch.length+m≤4→zaj prog 151 [encS s,ints sl,.int .i64 i,ints ch,.int .i64 m] fun r=>dpV (refD s (sl.drop i) m ch) r
 | 0, _, i, ch, hi, hc => (xis s h sl ch i (by omega)).alt fun r hr => by
   subst hr
   refine⟨_,.same _ rfl,by simp[PV.isF,PV.allF],?_⟩
   rw[z6b]
   by_cases hb:badD s ch=true
   ·rw[if_pos hb,hb];exact⟨_,rfl,by simp,fun l hl=>by cases hl⟩
   rw[if_neg hb];exact⟨_,by simp[hb];rfl,by simp,fun l hl=>by cases hl;rfl⟩
 |m+1,hm,i,ch,hi,hc=>by
  refine xho s sl m (by omega) hsl (fun i' ch' hi' hc'=>?_) i hi ch (by omega)
  exact xeb s h sl hsl m (by omega) i' ch' hi' (by omega)
def drpE (s:List Wit):Int:=if zai s=0 then (if (zfz s).isSome=true then 0 else 2) else zai s
def drpL (s:List Wit):List Int:=if zai s=0 then (zfz s).getD [] else []
theorem zxj {s:List Wit}{sl:List Int}{m:Nat}(hm:m≤3){l:List Int}(h:refF s sl m=some l)(h2:∀k,k<m→refF s sl k=none):refR s sl=some l:=by
 unfold refR
 match m,hm with
 |0,_=>rw[if_pos (by rw[h];rfl),h]
 |1,_=>rw[if_neg (by rw[h2 0 (by omega)];simp),if_pos (by rw[h];rfl),h]
 |2,_=>rw[if_neg (by rw[h2 0 (by omega)];simp),if_neg (by rw[h2 1 (by omega)];simp),if_pos (by rw[h];rfl),h]
 |3,_=>rw[if_neg (by rw[h2 0 (by omega)];simp),if_neg (by rw[h2 1 (by omega)];simp),if_neg (by rw[h2 2 (by omega)];simp),h]
theorem z3h {s:List Wit}{sl:List Int}(h2:∀k,k≤3→refF s sl k=none):refR s sl=none:=by
 unfold refR
 rw[h2 0 (by omega),h2 1 (by omega),h2 2 (by omega),h2 3 (by omega)];rfl
theorem zt4 (s:List Wit):(zb0 s).Pairwise (·<·):=by
 have h1:(zb0 s).Pairwise (·≤·):=by
  have:=List.pairwise_mergeSort (le:=fun x y:Int=>decide (x≤y)) (by simp;omega) (by simp;omega) ((zdn s).map (·.1))
  unfold zb0
  simpa using this
 have h2:(zb0 s).Nodup:=((List.mergeSort_perm _ _).nodup_iff).2 (zfl s)
 exact(h1.and h2).imp fun⟨h1,h2⟩=>by omega
theorem zvh {l l2:List PV}(h:AltL zab.empty 0 (fun _=>true) id l l2):Soft (.agg l) (.agg l2):=.agg' h
theorem p84 (s:List Wit)(hs:s.length<4294967296)(hw:∀w∈s,w.slips.length<4294967296∧w.mended.length<4294967296∧w.models.length<4294967296):zaj prog 84 [encS s] fun r=>Soft r (.agg [ints (drpL s),.int .i64 (drpE s)]):=by
 refine .zag func84 rfl rfl ?_
 refine .sr ?_
 refine .seq ?_
 refine .zac [0,1,2] rfl zz0 ?_
 refine .rn [0] _ ?_
 refine .pc rfl rfl rfl rfl rfl call52 (p52 s hs hw) ?_
 refine .rn [2] [] ?_
 refine .done (.seq (.sr ?_))
 refine .cs ?_ ?_<;>intro c10
 ·try simp at c10
  refine .sr ?_
  refine .ret ?_
  refine⟨_,_,zz4,zz4,?_⟩
  unfold drpL drpE
  rw[if_neg c10,if_neg c10]
  exact zvh (AltL.cons .sl0v (AltL.cons (.same _ rfl) AltL.nil))
 try simp at c10
 have hck:zai s=0:=c10
 have q126:=p126 s hck
 have hSl:(zb0 s).length≤720:=by rw[zi6];exact zh4 hck
 have hdr:=z4m hck (zt4 s) fun n=>zdo
 have q151:=fun (m:Nat) hm=>zaj.xgp (l:=[encS s,ints (zb0 s),.int .i64 0]) (r:=[.int .i64 (m:Int)]) (xeb s hck (zb0 s) hSl m hm 0 [] (Nat.zero_le _) (by simp;omega))
 have hrf:∀m,refD s ((zb0 s).drop 0) m []=refF s (zb0 s) m:=fun m=>rfl
 simp only[hrf] at q151
 have hdl:drpL s=(zfz s).getD []:=by unfold drpL;rw[if_pos hck]
 have hde:drpE s=if (zfz s).isSome=true then 0 else 2:=by unfold drpE;rw[if_pos hck]
 obtain⟨S,hS⟩:∃S,zb0 s=S:=⟨_,rfl⟩
 rw[hS] at q126 hdr
 simp only[hS] at q151
 unfold encS at q126 q151
 clear hrf hS
 refine .skip (.seq (.sr ?_))
 refine .block ?_
 refine .zbl (fun n:Nat=>([(1,.ptr 0 0),(2,.ptr 1 0),(4,.int .i64 n)],⟨2,[(1,.box [.sl0,.int .i64 0]),(0,.box [.vec (s.map encW)])]⟩)) (fun n=>n≤4∧∀k,k<n→refF s S k=none) (fun n=>4 - n) 0 ⟨by omega,fun k h=>by omega⟩ (.mk [] [] zz20 zz21 rfl rfl rfl) ?_
 rintro n ⟨hn,hr⟩
 simp only at hn hr ⊢
 refine .seq (.sr ?_)
 refine .cs ?_ ?_<;>intro c14
 ·try simp at c14
  have hw2:=wr1 n
  have q:=q151 n (by omega)
  obtain⟨o,ho⟩:∃o,refF s S n=o:=⟨_,rfl⟩
  rw[ho] at q
  unfold dpV at q
  simp only[List.cons_append,List.nil_append] at q
  refine .skip (.seq (.block (.seq ?_)))
  refine .drawn (ms:=[0,0,2,0,15,31,63,63,127,511]) (W:=[2,4]) (items:=[.op 0,.op 1,.op 3,.op 2,.ck 0,.op 4,.op 5,.op 6,.op 7,.op 8,.op 9]) rfl zz0 zz0 zz0 ?_
  iterate 3 refine .rx ?_
  refine .wp rfl rfl rfl rfl rfl call126 (q126) ?_
  refine .ck rfl (by first|decide +kernel|exact rfl) ?_
  refine .wr rfl rfl (by decide) (.pure rfl rfl rfl call151 (by decide) (q) (by first|rfl|simp[*]) ?_)
  rintro _ ⟨x,rfl,hxF,hx⟩
  iterate 5 refine .rx ?_
  refine .done (.sr ?_)
  refine .cs ?_ ?_<;>intro c25
  ·try simp at c25
   obtain⟨l,rfl⟩:∃l,o=some l:=Option.isSome_iff_exists.1 (by simpa using c25)
   have hx1:=hx l rfl
   subst hx1
   refine .sr ?_
   refine .ret ?_
   refine⟨_,_,zz4,zz4,?_⟩
   rw[hdl,hde,← hdr,zxj (by omega) ho hr]
   exact zwx (by simp[PV.isF,PV.allF])
  try simp at c25
  have hon:o=none:=by cases o with
   |none=>rfl
   |some l=>simp at c25
  refine .skip (.rn ?_)
  refine⟨n+1,⟨zz5,fun k hk=>?_⟩,zz5,(.mk [] [] zz20 zz21 rfl rfl rfl)⟩
  rcases (show k<n∨k=n by omega) with h|rfl
  ·exact hr k h
  exact ho.trans hon
 try simp at c14
 have hn4:n=4:=by omega
 refine .exit (.sr ?_)
 refine .ret ?_
 refine⟨_,_,zz4,zz4,?_⟩
 rw[hdl,hde,← hdr,z3h fun k hk=>hr k (by omega)]
 exact zvh (AltL.cons .sl0v (AltL.cons (.same _ rfl) AltL.nil))
theorem p84' (s:List Wit)(hs:s.length<4294967296)(hw:∀w∈s,w.slips.length<4294967296∧w.mended.length<4294967296∧w.models.length<4294967296):zaj prog 84 [encS s] fun r=>r=.agg [ints (drpL s),.int .i64 (drpE s)]:=zaj.soft (p84 s hs hw) (by simp[PV.isF,PV.allF])
def ligB (b:Br):Bool:=decide (b.slips.length≤60)&&decide (b.cops.length≤60)
def ligT (T:List Br):Bool:=T.all ligB&&decide (T.length≤60)
theorem p80 (T:List Br)(hl:T.length<4611686018427387904)(hb:∀b∈T,b.slips.length<4611686018427387904∧b.cops.length<4611686018427387904):zaj prog 80 [encT T] fun r=>r=.bool (ligT T):=by
 unfold encT
 refine .zag func80 rfl rfl ?_
 refine .sr ?_
 refine .seq (.sr ?_)
 refine .block ?_
 refine .zbl (fun k:Nat=>([(1,.ptr 0 0),(3,.int .i64 k)],⟨1,[(0,.box [.vec (T.map zbn)])]⟩)) (fun k=>k≤T.length∧(T.take k).all ligB=true) (fun k=>T.length - k) 0 ⟨by simp,by simp⟩ (.mk [] [] zz20 zz21 rfl rfl rfl) ?_
 rintro k ⟨hk,hr⟩
 simp only at hk hr ⊢
 refine .seq (.sr ?_)
 refine .cs ?_ ?_<;>intro c8
 ·try simp at c8
  have hw2:=wr1 k
  have hno:=zh3 (p:=ligB) c8
  have hal:=zgo (p:=ligB) c8
  have hEk:=zch T[k]
  obtain⟨b,hbe⟩:∃b,T[k]=b:=⟨_,rfl⟩
  rw[hbe] at hno hal hEk
  have hlb:ligB b=(decide (b.slips.length≤60)&&decide (b.cops.length≤60)):=rfl
  rw[hlb] at hno hal
  have q1:=p38 b.slips
  have q2:=p38 b.cops
  obtain⟨b1,hb1⟩:∃x,decide (b.slips.length≤60)=x:=⟨_,rfl⟩
  obtain⟨b2,hb2⟩:∃x,decide (b.cops.length≤60)=x:=⟨_,rfl⟩
  rw[hb1,hb2] at hno hal
  rw[hb1] at q1
  rw[hb2] at q2
  clear hb1 hb2 hlb
  refine .skip (.seq (.block (.seq ?_)))
  refine .zac [0,1,2,3,4,5,6,7,8,9,10,11,12,13,14,15,16,17] rfl zz0 ?_
  refine .rn [0,1,2,3,4,5] _ ?_
  refine .pc rfl rfl rfl rfl rfl call38 (q1) ?_
  refine .rn [7,8] _ ?_
  refine .split (t:=19) rfl (fun c19=>?_) (fun c19=>?_)
  ·first|cases c19|(have h:=bnt c19;cases h)|(have h:=bnf c19;cases h)|try rw[c19]
   try simp at c19
   refine .rn [9,10,11,12,13,14,15,16,17] [] ?_
   refine .done (.zdm rfl (.sr ?_))
   refine .ret ?_
   refine⟨_,_,zz4,zz4,?_⟩
   unfold ligT;rw[hno (by simp)];rfl
  first|cases c19|(have h:=bnt c19;cases h)|(have h:=bnf c19;cases h)|try rw[c19]
  try simp at c19
  refine .rn [9,10,11,12,13,14] _ ?_
  refine .pc rfl rfl rfl rfl rfl call38 (q2) ?_
  refine .rn [16,17] [] ?_
  refine .done ?_
  refine .cs ?_ ?_<;>intro c28
  ·try simp at c28
   refine .sr ?_
   refine .ret ?_
   refine⟨_,_,zz4,zz4,?_⟩
   unfold ligT;rw[hno (by simp[c28])];rfl
  try simp at c28
  refine .skip (.rn ?_)
  refine⟨k+1,⟨zz5,by rw[hal,hr];simp[c28]⟩,zz5,(.mk [] [] zz20 zz21 rfl rfl rfl)⟩
 try simp at c8
 obtain rfl:k=T.length:=by omega
 rw[List.take_length] at hr
 refine .exit (.sr ?_)
 refine .ret ?_
 refine⟨_,_,zz4,zz4,?_⟩
 unfold ligT;rw[hr];refine congrArg PV.bool ?_;rw[Bool.eq_iff_iff];simp;try omega
end Go.Am.Ds
end
section
namespace Go.Am.Ds
open Go Go.Am Go.Proofs Tryz
attribute [local simp] vrun zay zbm vop vopA zcn zab.back hidI hidF zd4 bm Nat.testBit_eq_decide_div_mod_eq za2 zbp zck vO zbj vlen zbv zb6 zev zau zap zcx vbox zbh zeq zcb zk5 zer zcw zaw zcy zax zc0 zbi zcz zbu zbq vbnd zdh vidx zbr zee zav zbx zde zeh zfd zfa vbin vsc vsc1 vscs vscl zb8 aint zca zef zbb zdb zex pvcV pvc pvcs tput tget zdx zab.get zab.alloc zab.put zab.drop zab.empty zce vput zei zbd zcf zdu chunk List.range List.range.loop za7 zb2 za8 frz frzL PV.isF PV.allF PV.scal PV.allS retP subT zem PV.one PV.ids PV.idsL zcj beq_eq zb9 zcc
attribute [local simp] zab.only Go.Am.znv zig vbnd
def brC (T:List Br):List PV:=T.flatMap fun b=>[.int .i64 b.above,ints b.slips,ints b.cops]
theorem zfp (a:Br)(r:List Br):brC (a::r)=.int .i64 a.above::ints a.slips::ints a.cops::brC r:=rfl
theorem z1t (T:List Br):(brC T).length=T.length*3:=by
 induction T with
 |nil=>rfl
 |cons a r ih=>rw[zfp,List.length_cons,List.length_cons,List.length_cons,ih,List.length_cons];omega
theorem zzr (T:List Br):(T.map zbn).flatMap PV.cells=brC T:=by rw[List.flatMap_map];rfl
theorem zyy {T:List Br}(h0:0<T.length){vh:zab}{n2:Nat}{D:Nat→Bool}{ρ:Nat→Nat}:AltO vh n2 D ρ (.grow 3 (T.map zbn)) (.arr true 3 (brC T)):=by
 refine⟨rfl,?_,zzr T⟩
 cases T with
 |nil=>simp at h0
 |cons a r=>exact⟨_,_,rfl⟩
theorem zms:∀ {T:List Br} {k:Nat} (h:k<T.length),((brC T).drop (k*3)).take 3=[.int .i64 T[k].above,ints T[k].slips,ints T[k].cops]
 |a::r,0,_=>rfl
 |a::r,k+1,h=>by
  rw[zfp,show (k+1)*3=k*3+1+1+1 by omega]
  simp only[List.drop_succ_cons]
  exact zms (T:=r) (k:=k) (by simpa using h)
theorem z0v (T:List Br):chunk true 3 T.length (brC T)=T.map zbn:=by
 unfold chunk
 rw[xjg]
 refine List.ext_getElem (by rw[List.length_map,List.length_range,List.length_map]) fun k h1 h2=>?_
 rw[List.getElem_map,List.getElem_map,List.getElem_range]
 have hk:k<T.length:=by rwa [List.length_map] at h2
 rw[zms hk]
 rfl
theorem z0t:∀ {T:List Br} {k:Nat} (h:k<T.length),(brC T)[k*3+1]?=some (ints T[k].slips)
 |a::r,0,_=>rfl
 |a::r,k+1,h=>by
  rw[zfp,show (k+1)*3+1=k*3+1+1+1+1 by omega]
  simp only[List.getElem?_cons_succ]
  exact z0t (T:=r) (k:=k) (by simpa using h)
theorem zzv:∀ {T:List Br} {k:Nat} (h:k<T.length),(brC T)[k*3+2]?=some (ints T[k].cops)
 |a::r,0,_=>rfl
 |a::r,k+1,h=>by
  rw[zfp,show (k+1)*3+2=k*3+2+1+1+1 by omega]
  simp only[List.getElem?_cons_succ]
  exact zzv (T:=r) (k:=k) (by simpa using h)
theorem z6c:∀ {T:List Br} {k:Nat} (h:k<T.length) (n:Int),List.take (k*3) (brC T)++PV.int .i64 n::List.drop (k*3+1) (brC T)=brC (T.set k ⟨n,T[k].slips,T[k].cops⟩)
 |a::r,0,_,n=>rfl
 |a::r,k+1,h,n=>by
  have ih:=z6c (T:=r) (k:=k) (by simpa using h) n
  rw[zfp,show (k+1)*3=k*3+1+1+1 by omega,List.set_cons_succ,zfp]
  simp only[List.take_succ_cons,List.cons_append,List.drop_succ_cons,List.getElem_cons_succ]
  rw[ih]
theorem z6w:∀ {T:List Br} {k:Nat} (h:k<T.length) (l:List Int),List.take (k*3+1) (brC T)++ints l::List.drop (k*3+1+1) (brC T)=brC (T.set k ⟨T[k].above,l,T[k].cops⟩)
 |a::r,0,_,n=>rfl
 |a::r,k+1,h,n=>by
  have ih:=z6w (T:=r) (k:=k) (by simpa using h) n
  rw[zfp,show (k+1)*3+1=k*3+1+1+1+1 by omega,List.set_cons_succ,zfp]
  simp only[List.take_succ_cons,List.cons_append,List.drop_succ_cons,List.getElem_cons_succ]
  rw[ih]
theorem z6m:∀ {T:List Br} {k:Nat} (h:k<T.length) (l:List Int),List.take (k*3+2) (brC T)++ints l::List.drop (k*3+2+1) (brC T)=brC (T.set k ⟨T[k].above,T[k].slips,l⟩)
 |a::r,0,_,n=>rfl
 |a::r,k+1,h,n=>by
  have ih:=z6m (T:=r) (k:=k) (by simpa using h) n
  rw[zfp,show (k+1)*3+2=k*3+2+1+1+1 by omega,List.set_cons_succ,zfp]
  simp only[List.take_succ_cons,List.cons_append,List.drop_succ_cons,List.getElem_cons_succ]
  rw[ih]
def szT (T:List Br):Prop:=T.length≤100∧∀b∈T,b.slips.length≤100∧b.cops.length≤100
theorem z0u {T:List Br}(hl:T.length≤100)(hb:∀b∈T,b.slips.length≤100∧b.cops.length≤100){k:Nat}{b:Br}(h1:b.slips.length≤100)(h2:b.cops.length≤100):szT (T.set k b):=
 ⟨by rw[List.length_set];exact hl,fun c hc=>by
  rcases List.mem_or_eq_of_mem_set hc with h|rfl
  ·exact hb c h
  exact⟨h1,h2⟩⟩
theorem xcd {vh:zab}{i n:Nat}{T:List Br}(hg:vh.get i=some (.arr true 3 (brC T)))(hn:T.length=n):frz vh (.sub i 0 n)=some (.vec (T.map zbn)):=by
 subst hn
 rcases Nat.eq_zero_or_pos T.length with h|h
 ·have:T=[]:=List.eq_nil_of_length_eq_zero h
  subst this;rfl
 have h1:Nat.beq T.length 0=false:=by rw[beq_eq];simp;intro h2;subst h2;simp at h
 simp only[frz,h1,xjh,hg,zb6,beq_eq,zb9,List.drop_zero,z0v,z1t]
 simp
theorem zqa {vh:zab}{i n:Nat}{T:List Br}(hg:vh.get i=some (.arr true 3 (brC T)))(hn:T.length=n):frz vh (.agg [.sub i 0 n])=some (encT T):=by
 rw[frz,frzL,xcd hg hn];rfl
theorem z8x {T:List Br}{k:Nat}(h:k≤T.length):List.map (fun i=>PV.agg (List.take 3 (List.drop (i*3) (brC T)))) (List.range.loop k [])=(T.take k).map zbn:=by
 show List.map _ (List.range k)=_
 refine List.ext_getElem (by rw[List.length_map,List.length_range,List.length_map,List.length_take];omega) fun j h1 h2=>?_
 rw[List.getElem_map,List.getElem_map,List.getElem_range,List.getElem_take]
 have hj:j<T.length:=by rw[List.length_map,List.length_range] at h1;omega
 rw[zms hj];rfl
theorem z9h (T:List Br)(m:Nat):List.map (fun i=>PV.agg (List.take 3 (List.drop (m*3+i*3) (brC T)))) (List.range.loop (T.length - m) [])=(T.drop m).map zbn:=by
 show List.map _ (List.range (T.length - m))=_
 refine List.ext_getElem (by rw[List.length_map,List.length_range,List.length_map,List.length_drop]) fun j h1 h2=>?_
 rw[List.getElem_map,List.getElem_map,List.getElem_range,List.getElem_drop]
 have hj:m+j<T.length:=by rw[List.length_map,List.length_range] at h1;omega
 rw[← Nat.add_mul,zms hj];rfl
theorem xbf (R:List Br):zcm (R.map zbn)=true:=by
 induction R with
 |nil=>rfl
 |cons a r ih=>exact ih
theorem p86e (a n:Int):zaj prog 86 [encT [],.int .u8 a,.int .i64 n] fun r=>∃T',r=encT T'∧szT T':=by
 unfold encT
 refine .zag func86 rfl rfl ?_
 refine .sr ?_
 refine .sr ?_
 refine .seq (.sr ?_)
 refine .cs ?_ ?_<;>intro c17
 ·try simp at c17
  refine .sr ?_
  refine .ret ?_
  refine⟨_,_,zz4,zz4,?_⟩
  exact⟨[],rfl,by simp,fun b hb=>by cases hb⟩
 try simp at c17
theorem p86a (T:List Br)(a n:Int)(ha:0≤a∧a≤255)(h0:0<T.length)(hl:T.length≤60)(hb:∀b∈T,b.slips.length≤60∧b.cops.length≤60)(k:Nat)(hk:k<T.length)(hqk0:(a.tdiv 4).tmod (T.length:Int)=(k:Int))(zv lv:Bool)(hzd:decide (k=0)=zv)(hl2:decide (T.length=k+1)=lv):zaj prog 86 [encT T,.int .u8 a,.int .i64 n] fun r=>∃T',r=encT T'∧szT T':=by
 unfold encT
 have hT0:¬T=[]:=List.length_pos_iff.1 h0
 have hTl:T.length≤4294967296:=by omega
 obtain⟨q,hq⟩:∃q,a.tdiv 4=q:=⟨_,rfl⟩
 have hq0:0≤q∧q≤63:=by
  rw[← hq,Int.tdiv_eq_ediv_of_nonneg ha.1];omega
 have hw1:IntKind.u8.wrap q=q:=by
  unfold IntKind.wrap;simp[IntKind.signed,IntKind.bits];omega
 have hw2:IntKind.i64.wrap q=q:=wrap64 (by omega) (by omega)
 rw[hq] at hqk0
 have hqk:q.tmod (T.length:Int)=(k:Int):=hqk0
 clear hqk0
 have hw3:=wr1 k
 obtain⟨m,hm⟩:∃m,a.tmod 4=m:=⟨_,rfl⟩
 have hbk:=hb _ (List.getElem_mem hk)
 have hCl:=z1t T
 have h1:=z0t hk
 have h2:=zzv hk
 have hT100:T.length≤100:=by omega
 have hb100:∀b∈T,b.slips.length≤100∧b.cops.length≤100:=fun b h=>by have:=hb b h;omega
 have hs0:k*3+1≤T.length*3:=by omega
 have hs1:k*3+1+1≤T.length*3:=by omega
 have hs2:k*3+2+1≤T.length*3:=by omega
 have hs1':k*3+2≤T.length*3:=by omega
 have hs2':k*3+3≤T.length*3:=by omega
 have hkT:k≤T.length:=by omega
 have hkT1:k+1≤T.length:=by omega
 have hi1:(0:Int)≤(k:Int)+1:=by omega
 have hi2:(k:Int)+1≤(T.length:Int):=by omega
 obtain⟨R,hR⟩:∃R,T.drop (k+1)=R:=⟨_,rfl⟩
 obtain⟨L,hL⟩:∃L,T.take k=L:=⟨_,rfl⟩
 have hA:List.map (fun i=>PV.agg (List.take 3 (List.drop ((k+1)*3+i*3) (brC T)))) (List.range.loop (T.length - (k+1)) [])=R.map zbn:=by rw[← hR];exact z9h T (k+1)
 have hB:List.map (fun i=>PV.agg (List.take 3 (List.drop (i*3) (brC T)))) (List.range.loop k [])=L.map zbn:=by rw[← hL];exact z8x hkT
 have hRl:R.length+(k+1)=T.length:=by rw[← hR,List.length_drop];omega
 have hLl:L.length=k:=by rw[← hL,List.length_take];omega
 have hL0:zv=true→L=[]:=fun h=>List.eq_nil_of_length_eq_zero (by rw[h] at hzd;rw[hLl];simpa using hzd)
 have hR0:lv=true→R=[]:=fun h=>List.eq_nil_of_length_eq_zero (by rw[h] at hl2;have:=of_decide_eq_true hl2;omega)
 have hRn:lv=false→¬R=[]:=fun h hr=>by rw[h] at hl2;have:=of_decide_eq_false hl2;rw[hr] at hRl;simp at hRl;omega
 have hR1:R.length≤4294967296:=by omega
 have hR2:k+R.length≤4294967296:=by omega
 have hRo:zcm (R.map zbn)=true:=xbf R
 have hsz:zdt 3 []=true:=rfl
 have hkb:k≤4294967296:=by omega
 have hkl:¬T.length*3=k*3:=by omega
 have hk33:k*3≤T.length*3:=by omega
 have hk34:(k+1)*3+(T.length - (k+1))*3≤T.length*3:=by omega
 have hLb:∀b∈L,b.slips.length≤100∧b.cops.length≤100:=fun b h=>hb100 b (List.mem_of_mem_take (hL▸h))
 have hRb:∀b∈R,b.slips.length≤100∧b.cops.length≤100:=fun b h=>hb100 b (List.mem_of_mem_drop (hR▸h))
 have hzT:szT (L++R):=⟨by rw[List.length_append];omega,fun b h=>(List.mem_append.1 h).elim (hLb b) (hRb b)⟩
 have hLR:encT (L++R)=.agg [.vec (L.map zbn++R.map zbn)]:=by unfold encT;rw[List.map_append]
 clear hL hR hRl
 have hsl1:T[k].slips.length≤4294967296:=by omega
 have hsl2:T[k].slips.length+1≤4294967296:=by omega
 obtain⟨j,hj,hjl⟩:∃j:Nat,(if (T[k].cops.length:Int)<1 then (T[k].cops.length:Int) else 1)=(j:Int)∧j≤T[k].cops.length:=by
  split
  ·exact⟨_,rfl,Nat.le_refl _⟩
  exact⟨1,rfl,by omega⟩
 have hjd:List.take (T[k].cops.length - j) (List.drop j (List.map (PV.int IntKind.i64) T[k].cops))=(T[k].cops.drop j).map (PV.int IntKind.i64):=by
  rw[← List.map_drop,List.take_of_length_le (by simp)]
 obtain⟨dj,hdj⟩:∃d,T[k].cops.drop j=d:=⟨_,rfl⟩
 have hdjl:dj.length≤60:=by rw[← hdj,List.length_drop];omega
 rw[hdj] at hjd
 have hdj2:dj.length≤4294967296:=by omega
 have e0:=z6c hk n
 have e1:List.take (k*3+1) (brC T)++PV.vec (T[k].slips.map (.int .i64)++[.int .i64 n])::List.drop (k*3+2) (brC T)=brC (T.set k ⟨T[k].above,T[k].slips++[n],T[k].cops⟩):=by
  have:=z6w hk (T[k].slips++[n])
  simpa[ints] using this
 have e2:List.take (k*3+2) (brC T)++PV.vec (dj.map (.int .i64))::List.drop (k*3+3) (brC T)=brC (T.set k ⟨T[k].above,T[k].slips,dj⟩):=by
  have:=z6m hk dj
  simpa[ints] using this
 refine .zag func86 rfl rfl ?_
 refine .sr ?_
 refine .sr ?_
 refine .seq (.sr ?_)
 refine .cs ?_ ?_<;>intro c17
 ·try simp at c17
  exact absurd c17 hT0
 try simp at c17
 refine .rec (vts2:=[(1,.int .u8 a),(2,.int .i64 n),(6,.ptr 0 0),(7,.ptr 1 0)]) (vh2:=⟨3,[(2,.arr true 3 (brC T)),(1,.box [.sub 2 0 T.length]),(0,.box [.sl0])]⟩) (.mk [] [(0,1),(1,4),(2,3)] (by repeat' (first|exact trivial|exact zyy h0|exact Alt.growS _ _ _ false _ _ (xjf rfl) rfl rfl (by simp) (by assumption)|refine And.intro (Exists.intro _ (And.intro rfl ?_)) ?_|(refine Alt.same _ ?_;first|rfl|(simp[*];done))|exact Alt.mapv _ _ (xjf rfl) rfl|exact Alt.grow _ _ _ _ (xjf rfl) rfl|(refine Alt.zgg _ _ _ _ _ ?_ (xjf rfl) rfl;simp[*];done)|exact Alt.ptr _ _ _ (xjf rfl) rfl|exact Alt.own _ _ _ _ _ (xjf rfl) rfl|exact Alt.sub _ _ _ _ (xjf rfl) rfl|exact Alt.yld _ _ (xjf rfl) rfl|exact Alt.sl0 _ _|(refine Alt.sl0E _ _ _ ?_;simp[*];done)|exact Alt.e0 _|exact Alt.func' AltL.nil (AltL.cons (Alt.ptr _ _ _ (xjf rfl) rfl) AltL.nil)|exact Alt.sl0v|exact Alt.own0 _ _ _|(refine Alt.fgrow _ _ _ _ _ rfl rfl ?_;simp[*];done)|exact Alt.fown _ _ _ _ _ _ _ _ rfl rfl rfl|exact Alt.fmap _ _ rfl rfl|(refine Alt.zje ?_;simp[*]<;>rfl)|(refine Alt.ofEq rfl ?_;simp[*];done))) (by repeat' (first|exact trivial|exact zyy h0|exact Alt.growS _ _ _ false _ _ (xjf rfl) rfl rfl (by simp) (by assumption)|refine And.intro (And.intro (xjf rfl) (Or.inr (And.intro rfl (Exists.intro _ (And.intro rfl ?_))))) ?_|refine And.intro (And.intro (xjf rfl) (Or.inl (Exists.intro _ (And.intro rfl (xjf rfl))))) ?_|refine And.intro (And.intro (xjf rfl) (Or.inl (Exists.intro _ (And.intro (congrArg (VObj.grow _) (by simp[*])) (xjf rfl))))) ?_|rfl|exact AltL.nil|(refine congrArg (VObj.grow _) ?_;simp[*];done)|(refine congrArg VObj.map ?_;simp[*];done)|(refine congrArg (VObj.arr _ _) ?_;simp[*];done)|refine zmm.mk rfl rfl rfl rfl rfl ?_|refine And.intro (Exists.intro _ (And.intro rfl ?_)) ?_|refine AltL.cons ?_ ?_|(refine Alt.same _ ?_;first|rfl|(simp[*];done))|exact Alt.mapv _ _ (xjf rfl) rfl|exact Alt.grow _ _ _ _ (xjf rfl) rfl|(refine Alt.zgg _ _ _ _ _ ?_ (xjf rfl) rfl;simp[*];done)|exact Alt.ptr _ _ _ (xjf rfl) rfl|exact Alt.own _ _ _ _ _ (xjf rfl) rfl|exact Alt.sub _ _ _ _ (xjf rfl) rfl|exact Alt.yld _ _ (xjf rfl) rfl|exact Alt.sl0 _ _|(refine Alt.sl0E _ _ _ ?_;simp[*];done)|exact Alt.e0 _|exact Alt.func' AltL.nil (AltL.cons (Alt.ptr _ _ _ (xjf rfl) rfl) AltL.nil)|exact Alt.sl0v|exact Alt.own0 _ _ _|(refine Alt.fgrow _ _ _ _ _ rfl rfl ?_;simp[*];done)|exact Alt.fown _ _ _ _ _ _ _ _ rfl rfl rfl|exact Alt.fmap _ _ rfl rfl|(refine Alt.zje ?_;simp[*]<;>rfl)|(refine Alt.ofEq rfl ?_;simp[*];done))) rfl rfl rfl) ?_
 refine .skip (.sr ?_)
 refine .seq (.sr ?_)
 refine .block (.sr ?_)
 refine .cs ?_ ?_<;>intro c40
 ·try simp at c40
  refine .rn ?_
  refine .sr ?_
  refine .ret ?_
  exact⟨_,_,zz4,zqa (n:=T.length) (T:=T.set k ⟨n,T[k].slips,T[k].cops⟩) rfl (by simp),_,rfl,z0u hT100 hb100 (by show T[k].slips.length≤100;omega) (by show T[k].cops.length≤100;omega)⟩
 try simp at c40
 refine .sr ?_
 refine .cs ?_ ?_<;>intro c48
 ·try simp at c48
  refine .zp1 (ms:=[0,1,0,0,0,16,0,112,240,496,1016,0,2048,8184,16383,32767,65535]) (W:=[3,10,13,16]) (As:=[12]) (items:=[.op 0,.op 1,.op 2,.op 4,.op 5,.op 6,.op 7,.op 8,.op 9,.op 11,.op 12,.op 3,.ck 9,.ck 5,.ck 1,.op 10,.ck 1,.op 13,.ck 1,.op 14,.op 15,.op 16]) rfl zz0 zz0 zz0 zz0 (by decide) ?_
  iterate 10 refine .rf ?_
  refine .al rfl rfl (by decide) (by decide) (by decide) (by decide) zz1 ?_
  refine .wr rfl rfl (by decide) (.vop zz1 (by decide) ?_)
  refine .ck rfl (by first|decide +kernel|exact rfl) ?_
  refine .ck rfl (by first|decide +kernel|exact rfl) ?_
  refine .ck rfl (by first|decide +kernel|exact rfl) ?_
  refine .wr rfl rfl (by decide) (.vopK [4] (todo':=[1]) zz1 zz1 (by decide) (⟨⟨(by first|decide +kernel|exact rfl),_,_,rfl,zz1⟩,trivial⟩) zz0 ?_)
  refine .ck rfl (by first|decide +kernel|exact rfl) ?_
  refine .wr rfl rfl (by decide) (.vopK [3,5] (todo':=[1]) zz1 zz1 (by decide) (⟨⟨(by first|decide +kernel|exact rfl),_,_,rfl,zz1⟩,trivial⟩) zz0 ?_)
  refine .ck rfl (by first|decide +kernel|exact rfl) ?_
  iterate 2 refine .rf ?_
  refine .wr rfl rfl (by decide) (.heap (b2:=7) (vh2:=⟨7,[(6,.grow 1 (T[k].slips.map (.int .i64)++[.int .i64 n])),(3,.arr false 1 [.int .i64 n]),(4,.arr false 1 []),(2,.arr true 3 (brC T)),(1,.box [.sub 2 0 T.length]),(0,.box [.sl0])]⟩) (by simp) (by simp;done) (.rec  (vts2:=[(6,.ptr 0 0),(7,.ptr 1 0),(63,.vec (T[k].slips.map (.int .i64)++[.int .i64 n])),(65,.ptr 2 (k*3+1))]) (vh2:=⟨7,[(2,.arr true 3 (brC T)),(1,.box [.sub 2 0 T.length]),(0,.box [.sl0])]⟩) (.mk [6] [] zz20 zz21 rfl rfl rfl) (.vop zz1 (by decide) ?_)))
  refine .done (.sr ?_)
  refine .ret ?_
  exact⟨_,_,zz4,zqa (n:=T.length) (T:=T.set k ⟨T[k].above,T[k].slips++[n],T[k].cops⟩) rfl (by simp),_,rfl,z0u hT100 hb100 (by show (T[k].slips++[n]).length≤100;rw[List.length_append,List.length_singleton];omega) (by show T[k].cops.length≤100;omega)⟩
 try simp at c48
 refine .sr ?_
 refine .cs ?_ ?_<;>intro c66
 ·try simp at c66
  refine .drawn (ms:=[0,1,0,0,0,16,0,112,240,496,0,1024,0,7168,15360,31744,64512,130048,262128,524280,1048575,2097151,4194303]) (W:=[3,19,22]) (items:=[.op 0,.op 1,.op 2,.op 4,.op 5,.op 6,.op 7,.op 8,.op 9,.op 10,.op 11,.op 12,.op 13,.op 14,.op 15,.op 16,.op 17,.op 18,.op 3,.ck 16,.ck 15,.ck 11,.ck 9,.ck 5,.ck 1,.op 19,.ck 1,.op 20,.op 21,.op 22]) rfl zz0 zz0 zz0 ?_
  iterate 18 refine .rx ?_
  refine .wv ?_
  refine .ck rfl (by first|decide +kernel|exact rfl) ?_
  refine .ck rfl (by first|decide +kernel|exact rfl) ?_
  refine .ck rfl (by first|decide +kernel|exact rfl) ?_
  refine .ck rfl (by first|decide +kernel|exact rfl) ?_
  refine .ck rfl (by first|decide +kernel|exact rfl) ?_
  refine .ck rfl (by first|decide +kernel|exact rfl) ?_
  refine .wr rfl rfl (by decide) (.vopK [3] (todo':=[1]) zz1 zz1 (by decide) (⟨⟨(by first|decide +kernel|exact rfl),_,_,rfl,zz1⟩,trivial⟩) zz0 ?_)
  refine .ck rfl (by first|decide +kernel|exact rfl) ?_
  iterate 2 refine .rx ?_
  refine .wr rfl rfl (by decide) (.rec (vts2:=[(6,.ptr 0 0),(7,.ptr 1 0),(87,.vec (dj.map (.int .i64))),(89,.ptr 2 (k*3+2))]) (vh2:=⟨4,[(2,.arr true 3 (brC T)),(1,.box [.sub 2 0 T.length]),(0,.box [.sl0])]⟩) (.mk [4] [] zz20 zz21 rfl rfl rfl) (.vop zz1 (by decide) ?_))
  refine .done (.sr ?_)
  refine .ret ?_
  exact⟨_,_,zz4,zqa (n:=T.length) (T:=T.set k ⟨T[k].above,T[k].slips,dj⟩) rfl (by simp),_,rfl,z0u hT100 hb100 (by show T[k].slips.length≤100;omega) (by show dj.length≤100;omega)⟩
 try simp at c66
 cases zv<;>cases lv
 all_goals
  first|have hRn:=hRn rfl|have hRn:=hR0 rfl
  refine .drawn (ms:=[0,1,0,0,15,0,32,0,128,480,1023,2047,4095]) (W:=[10,12]) (items:=[.op 0,.op 1,.op 2,.op 3,.op 4,.op 5,.op 6,.op 7,.op 8,.op 9,.op 10,.op 11,.op 12]) rfl zz0 zz0 zz0 ?_
  iterate 10 refine .rx ?_
  refine .wv ?_
  refine .rx ?_
  refine .wv ?_
  refine .done (.sr ?_)
  refine .ret ?_
  refine⟨_,_,zz4,(by simp[hLl,hB,hRn,hzd,hCl,hk33]<;>rfl),L++R,?_,hzT⟩
  first|(rw[List.map_append];done)|(rw[hL0 rfl];rfl)|(rw[hR0 rfl];simp;done)|(rw[hL0 rfl,hR0 rfl];rfl)
theorem p86 (T:List Br)(a n:Int)(ha:0≤a∧a≤255)(hl:T.length≤60)(hb:∀b∈T,b.slips.length≤60∧b.cops.length≤60):zaj prog 86 [encT T,.int .u8 a,.int .i64 n] fun r=>∃T',r=encT T'∧szT T':=by
 rcases Nat.eq_zero_or_pos T.length with h|h0
 ·obtain rfl:=List.eq_nil_of_length_eq_zero h
  exact p86e a n
 obtain⟨q,hq⟩:∃q,a.tdiv 4=q:=⟨_,rfl⟩
 have hq0:0≤q:=by rw[← hq];exact Int.tdiv_nonneg ha.1 (by decide)
 obtain⟨k,hk,hqk⟩:∃k:Nat,k<T.length∧(a.tdiv 4).tmod (T.length:Int)=(k:Int):=by
  rw[hq]
  have h1:=Int.tmod_nonneg (T.length:Int) hq0
  have h2:=Int.tmod_lt_of_pos q (show (0:Int)<(T.length:Int) by omega)
  exact⟨(q.tmod T.length).toNat,by omega,by omega⟩
 exact p86a T a n ha h0 hl hb k hk hqk _ _ rfl rfl
end Go.Am.Ds
end
/-
 Descent: the program's and the reference's tests of trees are the same; the tree is right; the lost ones (plain law of Trees).
-/
section
namespace Go.Am.Ds
open Go Go.Am
def wOf (s:List Wit):List (Int×List Int):=s.map fun w=>(w.id,w.slips)
theorem xc7 (s:List Wit):(wOf s).map (·.1)=s.map Wit.id:=by unfold wOf;rw[List.map_map];rfl
theorem zsz (s:List Wit):(wOf s).map (·.2)=slC s:=by unfold wOf slC;rw[List.map_map];rfl
theorem zk7 (s:List Wit):(wOf s).length=s.length:=by simp[wOf]
theorem zlf {s:List Wit}{id:Int}{l:List Int}:(id,l)∈wOf s↔∃w∈s,w.id=id∧w.slips=l:=by
 unfold wOf
 rw[List.mem_map]
 constructor
 ·rintro⟨w,hw,h⟩;cases h;exact⟨w,hw,rfl,rfl⟩
 rintro⟨w,hw,rfl,rfl⟩;exact⟨w,hw,rfl⟩
section
variable {s:List Wit} (h:zai s=0)
include h
theorem w_ok {w:Wit}(hw:w∈s):(0<w.id∧w.id≤1099511627776)∧w.slips.Pairwise (·<·)∧∀n∈w.slips,0<n∧n≤1099511627776:=by
 have h1:=(zbc h).2 w hw
 unfold witE at h1
 repeat' split at h1
 all_goals first|(exact absurd h1 (by decide))|skip
 rename_i h2 _ _ _ _ _ _ _ hr
 unfold zd3 at hr
 simp only[xji] at hr
 exact⟨by omega,zea.1 hr.1⟩
theorem hid:((wOf s).map (·.1)).Nodup:=by rw[xc7];exact zcg h
theorem hhd (n:Int):n∈zb0 s↔∃x∈wOf s,n∈x.2:=by
 rw[zdo]
 constructor
 ·rintro⟨w,hw,hn⟩;exact⟨(w.id,w.slips),List.mem_map_of_mem hw,hn⟩
 rintro⟨x,hx,hn⟩
 obtain⟨w,hw,rfl⟩:=List.mem_map.1 hx
 exact⟨w,hw,hn⟩
theorem hh1:∀x∈wOf s,∀n∈x.2,n∈zb0 s:=fun x hx n hn=>(hhd h n).2 ⟨x,hx,hn⟩
theorem zzj {id:Int}{l:List Int}:stI s l id=true↔(id,l)∈wOf s:=by
 unfold stI
 rw[zlf]
 constructor
 ·intro hs
  cases hg:getW s id with
  |none=>rw[hg] at hs;cases hs
  |some c=>
   rw[hg] at hs
   have hm:=List.mem_of_find?_eq_some hg
   have hi:=List.find?_some hg
   exact⟨c,hm,by simpa using hi,by simpa using hs⟩
 rintro⟨w,hw,rfl,rfl⟩
 rw[ziq (zcg h) hw];simp
end
theorem z3j (l:List Int)(n:Int):(insU l n).length≤l.length+1:=by
 unfold insU;split
 ·omega
 simp
theorem ztg:∀(l a:List Int),(l.foldl insU a).length≤a.length+l.length
 |[],a=>by simp
 |n::r,a=>by
  rw[List.foldl_cons]
  have:=ztg r (insU a n)
  have:=z3j a n
  rw[List.length_cons];omega
theorem zow:∀(l a:List Int),(l.foldl insU a).length=a.length+l.length↔l.Nodup∧∀n∈l,n∉a
 |[],a=>by simp
 |n::r,a=>by
  rw[List.foldl_cons,List.nodup_cons]
  have ih:=zow r (insU a n)
  by_cases hn:n∈a
  ·have e:insU a n=a:=if_pos hn
   have:=ztg r a
   rw[e,List.length_cons]
   constructor
   ·intro h;omega
   rintro⟨_,h⟩;exact absurd hn (h n List.mem_cons_self)
  have e:insU a n=a++[n]:=if_neg hn
  rw[e] at ih ⊢
  rw[List.length_append,List.length_singleton] at ih
  rw[List.length_cons,show a.length+(r.length+1)=a.length+1+r.length by omega,ih]
  constructor
  ·rintro⟨h1,h2⟩
   refine⟨⟨fun hm=>(h2 n hm) (by simp),h1⟩,fun m hm=>?_⟩
   rcases List.mem_cons.1 hm with rfl|hm
   ·exact hn
   exact fun ha=>h2 m hm (List.mem_append_left _ ha)
  rintro⟨⟨h1,h2⟩,h3⟩
  refine⟨h2,fun m hm ha=>?_⟩
  rcases List.mem_append.1 ha with ha|ha
  ·exact h3 m (List.mem_cons_of_mem _ hm) ha
  simp at ha;subst ha;exact h1 hm
theorem zw2 (l:List Int):(setL l).length=l.length↔l.Nodup:=by
 unfold setL
 have:=zow l []
 simpa using this
section
variable {s:List Wit} (h:zai s=0)
include h
theorem z3r {T:List Br}:(grT T&&(stT s T&&onB s T))=true↔z4n (wOf s) (zb0 s) T:=by
 have hid:=hid h
 have hh1:=hh1 h
 constructor
 ·intro hp
  rw[xji,xji] at hp
  obtain⟨hg,hst,hon⟩:=hp
  have h0:=zoy hg
  have hab:∀k,0<k→k<T.length→abS T k<T.length:=fun k h0 hk=>by have:=(zpn hg k h0 hk).1;omega
  have habp:∀k,0<k→k<T.length→0≤(T.getD k br0).above:=fun k h0 hk=>by rw[zda hk,(zpn hg k h0 hk).2];omega
  have hri:∀b∈T,b.slips.Pairwise (·<·)∧b.cops.Pairwise (·<·):=fun b hb=>by
   obtain⟨k,hk,rfl⟩:=List.mem_iff_getElem.1 hb
   have:=xaf hg k hk
   unfold grB at this
   simp only[xji] at this
   exact⟨(zea.1 this.1).1,(zea.1 this.2.1).1⟩
  have hnd:∀b∈T,b.slips.Nodup:=fun b hb=>(hri b hb).1.imp fun h=>by omega
  unfold stT at hst
  rw[xji,xji,decide_eq_true_eq,decide_eq_true_eq,zw2,List.all_eq_true] at hst
  unfold onB losT at hon
  rw[xji,List.all_eq_true,List.all_eq_true] at hon
  have hbel:∀k,0<k→∀hk:k<T.length,T[k].cops=[]→2≤belN T k:=fun k hk0 hk hc=>by
   have:=hon.1 k (List.mem_range.2 hk)
   simp only[Bool.or_eq_true,Bool.not_eq_true',decide_eq_true_eq,decide_eq_false_iff_not] at this
   rw[zda hk,zvm hab h0 (z2o hg) habp k hk] at this
   rcases this with h1|h1|h1
   ·omega
   ·exact absurd hc h1
   omega
  refine⟨⟨List.length_pos_iff.1 h0,fun b hb=>?_,fun k b hk0 hb=>?_,fun b hb=>(hri b hb).1,fun n hn=>?_⟩,fun b hb=>(hri b hb).2,fun b hb id hi=>?_,?_,hst.2.2⟩
  ·have hb0:T[0]=b:=by rw[List.getElem?_eq_getElem h0] at hb;simpa using hb
   have hg2:=hg
   rw[zto h0,hb0] at hg2
   simp only[xji,decide_eq_true_eq] at hg2
   exact⟨hg2.1,hg2.2.1⟩
  ·obtain⟨hk,rfl⟩:=List.getElem?_eq_some_iff.1 hb
   obtain⟨j,h1,h2,h3,h4⟩:=z6x (xaf hg k hk) hk0
   have hj:j<T.length:=by omega
   rw[zda hj] at h3 h4
   exact⟨j,T[j],h1,h2,List.getElem?_eq_getElem hj,h3,h4,hbel k hk0 hk⟩
  ·have h1:=zdo.1 hn
   obtain⟨p,hp,hpn⟩:=List.mem_map.1 (zf9.2 h1)
   have h2:=hon.2 p hp
   rw[decide_eq_true_eq,zy1 hnd h0,hpn] at h2
   omega
  ·have:=hst.1 b hb
   unfold stB at this
   rw[List.all_eq_true] at this
   exact(zzj h).1 (this id hi)
  rw[zk7];exact hst.2.1
 intro P
 have hph:=zth hh1 P
 have B:=P.both
 have h0:0<T.length:=List.length_pos_iff.2 B.ne
 obtain⟨hf1,hf2⟩:=B.first T[0] (List.getElem?_eq_getElem h0)
 have hnx:∀k,0<k→∀hk:k<T.length,∃j,∃hj:j<T.length,j<k∧T[k].above=(j:Int)∧(∀n∈T[j].slips,n∈T[k].slips)∧T[j].slips.length<T[k].slips.length∧(T[k].cops=[]→2≤belN T k):=fun k hk0 hk=>by
  obtain⟨j,u,h1,h2,h3,h4,h5,h6⟩:=B.next k T[k] hk0 (List.getElem?_eq_getElem hk)
  obtain⟨hj,rfl⟩:=List.getElem?_eq_some_iff.1 h3
  exact⟨j,hj,h1,h2,h4,h5,h6⟩
 have hrs:∀b∈T,zb3 b.slips 0=true:=fun b hb=>zea.2 ⟨B.rise b hb,fun n hn=>by
  obtain⟨w,hw,hwn⟩:=zdo.1 (hph b hb n hn)
  exact(w_ok h hw).2.2 n hwn⟩
 have hrc:∀b∈T,zb3 b.cops 0=true:=fun b hb=>zea.2 ⟨P.cr b hb,fun id hi=>by
  obtain⟨w,hw,rfl,_⟩:=zlf.1 (P.st b hb id hi)
  exact(w_ok h hw).1⟩
 have hg:grT T=true:=by
  rw[zto h0]
  simp only[xji,decide_eq_true_eq]
  refine⟨hf1,hf2,z6d T 0 fun k hk=>?_⟩
  rw[Nat.zero_add]
  unfold grB
  rw[hrs _ (List.getElem_mem hk),hrc _ (List.getElem_mem hk),Bool.true_and,Bool.true_and]
  rcases Nat.eq_zero_or_pos k with rfl|hk0
  ·simp
  obtain⟨j,hj,h1,h2,h3,h4,_⟩:=hnx k hk0 hk
  have e:T.getD T[k].above.toNat ⟨0,[],[]⟩=T[j]:=by rw[h2,Int.toNat_natCast];exact zda hj
  rw[e,h2]
  simp only[Bool.or_eq_true,xji,decide_eq_true_eq,List.all_eq_true]
  exact .inr ⟨by omega,by omega,h3,h4⟩
 have hab:∀k,0<k→k<T.length→abS T k<T.length:=fun k h0 hk=>by have:=(zpn hg k h0 hk).1;omega
 have habp:∀k,0<k→k<T.length→0≤(T.getD k br0).above:=fun k h0 hk=>by rw[zda hk,(zpn hg k h0 hk).2];omega
 have hnd:∀b∈T,b.slips.Nodup:=fun b hb=>(B.rise b hb).imp fun h=>by omega
 rw[xji,xji]
 refine⟨hg,?_,?_⟩
 ·unfold stT
  rw[xji,xji,decide_eq_true_eq,decide_eq_true_eq,zw2,List.all_eq_true]
  refine⟨fun b hb=>?_,by have:=P.sum;rw[zk7] at this;exact this,P.nod⟩
  unfold stB
  rw[List.all_eq_true]
  exact fun id hi=>(zzj h).2 (P.st b hb id hi)
 unfold onB losT
 rw[xji,List.all_eq_true,List.all_eq_true]
 refine⟨fun k hk=>?_,fun p hp=>?_⟩
 ·have hk:=List.mem_range.1 hk
  simp only[Bool.or_eq_true,Bool.not_eq_true',decide_eq_true_eq,decide_eq_false_iff_not]
  rw[zda hk,zvm hab h0 (z2o hg) habp k hk]
  rcases Nat.eq_zero_or_pos k with rfl|hk0
  ·exact .inl rfl
  by_cases hc:T[k].cops=[]
  ·obtain⟨j,hj,_,_,_,_,h6⟩:=hnx k hk0 hk
   have:=h6 hc
   exact .inr (.inr (by omega))
  exact .inr (.inl hc)
 rw[decide_eq_true_eq,zy1 hnd h0]
 have:=B.ar p.1 (zdo.2 (zf9.1 (List.mem_map_of_mem hp)))
 omega
theorem zyt (p:Wit→Bool):∀k,k≤s.length→∀id,id∈puF s p k↔∃w∈s.take k,p w=true∧w.id=id
 |0,_,id=>by simp[puF]
 |k+1,hk,id=>by
  have ih:=zyt p k (by omega) id
  rw[zmw s p k (by omega),List.take_succ_eq_append_getElem (by omega)]
  by_cases hp:p s[k]=true
  ·rw[if_pos hp,zq9,ih]
   constructor
   ·rintro (⟨w,h1,h2,h3⟩|rfl)
    ·exact⟨w,List.mem_append_left _ h1,h2,h3⟩
    exact⟨s[k],List.mem_append_right _ List.mem_cons_self,hp,rfl⟩
   rintro⟨w,h1,h2,h3⟩
   rcases List.mem_append.1 h1 with h1|h1
   ·exact .inl ⟨w,h1,h2,h3⟩
   simp at h1;subst h1;exact .inr h3.symm
  rw[if_neg hp,ih]
  constructor
  ·rintro⟨w,h1,h2,h3⟩;exact⟨w,List.mem_append_left _ h1,h2,h3⟩
  rintro⟨w,h1,h2,h3⟩
  rcases List.mem_append.1 h1 with h1|h1
  ·exact⟨w,h1,h2,h3⟩
  simp at h1;subst h1;exact absurd h2 hp
theorem zp7 (p:Wit→Bool):∀k,k≤s.length→(puF s p k).Pairwise (·<·)
 |0,_=>by simp[puF]
 |k+1,hk=>by
  rw[zmw s p k (by omega)]
  split
  ·exact zj6 (zp7 p k (by omega))
  exact zp7 p k (by omega)
theorem z0n (l:List Int):IsEx (wOf s) l (exR s l s.length):=by
 refine⟨zp7 h _ s.length (Nat.le_refl _),fun id=>?_⟩
 unfold exR
 rw[zyt h _ s.length (Nat.le_refl _),List.take_length,zlf]
 constructor
 ·rintro⟨w,h1,h2,h3⟩;exact⟨w,h1,h3,by simpa using h2⟩
 rintro⟨w,h1,h2,h3⟩;exact⟨w,h1,by simpa using h3,h2⟩
theorem xfb {l e:List Int}:e=exR s l s.length↔IsEx (wOf s) l e:=by
 constructor
 ·rintro rfl;exact z0n h l
 intro he
 have h2:=z0n h l
 exact zhf he.1 h2.1 fun n=>by rw[he.2,h2.2]
theorem z0q {T:List Br}:rtB s T=true↔RefP (wOf s) (zb0 s) T:=by
 constructor
 ·intro hp
  unfold rtB at hp
  simp only[xji,decide_eq_true_eq,List.all_eq_true] at hp
  obtain⟨hne,hbr,har,hhd,hsum⟩:=hp
  have h0:0<T.length:=List.length_pos_iff.2 hne
  have hB:∀k (hk:k<T.length),brB s T k T[k]=true:=fun k hk=>by
   have:=hbr k (List.mem_range.2 hk)
   rwa [zda hk] at this
  have hp:∀k (hk:k<T.length),zb3 T[k].slips 0=true∧T[k].cops=exR s T[k].slips s.length∧(if k=0 then decide (T[k].above = -1)&&decide (T[k].slips=[]) else brR T k T[k])=true:=fun k hk=>by
   have:=hB k hk
   unfold brB at this
   simp only[xji,decide_eq_true_eq] at this
   exact⟨this.1,this.2.1,this.2.2⟩
  refine⟨⟨hne,fun b hb=>?_,fun k b hk0 hb=>?_,fun b hb=>?_,har⟩,fun b hb=>?_,hhd,by rw[zk7];exact hsum⟩
  ·have hb0:T[0]=b:=by rw[List.getElem?_eq_getElem h0] at hb;simpa using hb
   have:=(hp 0 h0).2.2
   rw[if_pos rfl,hb0] at this
   simp only[xji,decide_eq_true_eq] at this
   exact this
  ·obtain⟨hk,rfl⟩:=List.getElem?_eq_some_iff.1 hb
   have:=(hp k hk).2.2
   rw[if_neg (by omega)] at this
   unfold brR at this
   simp only[xji,Bool.or_eq_true,Bool.not_eq_true',decide_eq_true_eq,decide_eq_false_iff_not,List.all_eq_true] at this
   obtain⟨h1,h2,h3,h4,h5⟩:=this
   have hj:T[k].above.toNat<T.length:=by omega
   rw[zda hj] at h3 h4
   exact⟨T[k].above.toNat,T[T[k].above.toNat],by omega,by omega,List.getElem?_eq_getElem hj,h3,h4,fun hc=>h5.resolve_left fun h=>h hc⟩
  ·obtain⟨k,hk,rfl⟩:=List.mem_iff_getElem.1 hb
   exact(zea.1 (hp k hk).1).1
  obtain⟨k,hk,rfl⟩:=List.mem_iff_getElem.1 hb
  exact(xfb h).1 (hp k hk).2.1
 intro R
 have B:=R.both
 have h0:0<T.length:=List.length_pos_iff.2 B.ne
 obtain⟨hf1,hf2⟩:=B.first T[0] (List.getElem?_eq_getElem h0)
 have hrs:∀b∈T,zb3 b.slips 0=true:=fun b hb=>zea.2 ⟨B.rise b hb,fun n hn=>by
  obtain⟨w,hw,hwn⟩:=zdo.1 (R.hd b hb n hn)
  exact(w_ok h hw).2.2 n hwn⟩
 unfold rtB
 simp only[xji,decide_eq_true_eq,List.all_eq_true]
 refine⟨B.ne,fun k hk=>?_,B.ar,R.hd,by have:=R.sum;rw[zk7] at this;exact this⟩
 have hk:=List.mem_range.1 hk
 rw[zda hk]
 unfold brB
 rw[hrs _ (List.getElem_mem hk),decide_eq_true ((xfb h).2 (R.ex _ (List.getElem_mem hk))),Bool.true_and,Bool.true_and]
 split
 ·rename_i h0;subst h0;simp[hf1,hf2]
 rename_i hk0
 obtain⟨j,u,h1,h2,h3,h4,h5,h6⟩:=B.next k T[k] (by omega) (List.getElem?_eq_getElem hk)
 obtain⟨hj,rfl⟩:=List.getElem?_eq_some_iff.1 h3
 unfold brR
 have e:T.getD T[k].above.toNat br0=T[j]:=by rw[h2,Int.toNat_natCast];exact zda hj
 rw[e,h2]
 simp only[xji,Bool.or_eq_true,Bool.not_eq_true',decide_eq_true_eq,decide_eq_false_iff_not,List.all_eq_true]
 refine⟨by omega,by omega,h4,h5,?_⟩
 by_cases hc:T[k].cops=[]
 ·exact .inr (h6 hc)
 exact .inl hc
end
theorem xbg (s:List Wit)(T:List Br):ctT s T=ctR s T:=by
 unfold ctT ctR
 by_cases h:zai s=0
 ·rw[if_pos h,if_pos h]
  have e:(grT T&&(stT s T&&onB s T))=rtB s T:=by rw[Bool.eq_iff_iff,z3r h,z0q h];exact zv4 (hid h) (hh1 h)
  rw[e]
 rw[if_neg h,if_neg h]
section
variable {s:List Wit} (h:zai s=0)
include h
theorem xgn (hx:(crR s).isSome=false):∀a b,¬crXL ((wOf s).map (·.2)) a b:=fun a b hc=>by
 have:(crR s).isSome=true:=(zur h).2 ⟨a,b,?_⟩
 ·rw[hx] at this;cases this
 rw[zsz] at hc
 obtain⟨⟨c1,m1,p1⟩,⟨c2,m2,p2⟩,c3,m3,p3⟩:=hc
 obtain⟨w1,hw1,rfl⟩:=List.mem_map.1 m1
 obtain⟨w2,hw2,rfl⟩:=List.mem_map.1 m2
 obtain⟨w3,hw3,rfl⟩:=List.mem_map.1 m3
 exact⟨⟨w1,hw1,p1⟩,⟨w2,hw2,p2⟩,w3,hw3,p3⟩
theorem xfe (l:List Int):IsEx (wOf s) l (exL s l):=by
 unfold exL
 constructor
 ·have h1:=List.pairwise_mergeSort (le:=fun x y:Int=>decide (x≤y)) (by simp;omega) (by simp;omega) ((s.filter fun w=>decide (w.slips=l)).map Wit.id)
  have h2:(((s.filter fun w=>decide (w.slips=l)).map Wit.id).mergeSort fun x y=>decide (x≤y)).Nodup:=((List.mergeSort_perm _ _).nodup_iff).2 ((List.filter_sublist.map _).nodup (zcg h))
  exact((by simpa using h1:List.Pairwise (·≤·) _).and h2).imp fun⟨h1,h2⟩=>by omega
 intro id
 rw[List.mem_mergeSort,zlf,List.mem_map]
 constructor
 ·rintro⟨w,hw,rfl⟩
  rw[List.mem_filter] at hw
  exact⟨w,hw.1,rfl,by simpa using hw.2⟩
 rintro⟨w,hw,h1,h2⟩
 exact⟨w,List.mem_filter.2 ⟨hw,by simpa using h2⟩,h1⟩
theorem z6n:∀c∈slC s,c.Pairwise (·<·):=fun c hc=>by
 obtain⟨w,hw,rfl⟩:=List.mem_map.1 hc
 exact(w_ok h hw).2.1
theorem zm3 (hx:(crR s).isSome=false):RefP (wOf s) (zb0 s) (treF s):=by
 have hl:(slC s).length=s.length:=by simp[slC]
 have hp:(srtL (zc4 (slC s) s.length)).Perm (zc4 (slC s) (slC s).length):=by rw[hl];exact zid _
 refine zyr (hid h) (xgn h hx) (by rw[zsz];exact zx8 (z6n h) hp (zus _)) (fun x hx=>?_) (fun x hx=>zp3 (z6n h) (hp.mem_iff.1 hx)) (fun x _=>xfe h x) (hhd h)
 obtain⟨w,hw,rfl⟩:=List.mem_map.1 hx
 exact(w_ok h hw).2.1
theorem z5r:(treF s).length=(zc4 (slC s) s.length).length:=by
 unfold treF zfw
 rw[List.length_map,List.length_range,zk4]
theorem zvr (hx:(crR s).isSome=false)(hn:s.length≤8):(zc4 (slC s) s.length).length<20:=by
 have:=zvf (zm3 h hx)
 rw[z5r h,zk7] at this
 omega
theorem zy8 (hx:(crR s).isSome=false)(hn:s.length≤8):(treF s).length≤17∧∀b∈treF s,b.slips.length≤30∧b.cops.length≤24:=by
 have h1:=zvf (zm3 h hx)
 rw[zk7] at h1
 refine⟨by omega,fun b hb=>?_⟩
 unfold treF zfw at hb
 obtain⟨k,hk,rfl⟩:=List.mem_map.1 hb
 have hk:=List.mem_range.1 hk
 have hs24:=(zbc h).1
 constructor
 ·show ((srtL (zc4 (slC s) s.length)).getD k []).length≤30
  rw[List.getD_eq_getElem?_getD,List.getElem?_eq_getElem hk]
  have hm:(srtL (zc4 (slC s) s.length))[k]∈zc4 (slC s) s.length:=(zid _).mem_iff.1 (List.getElem_mem hk)
  refine zj9 (fun x hx=>?_) s.length (by simp[slC]) _ hm
  obtain⟨w,hw,rfl⟩:=List.mem_map.1 hx
  exact(zgq ((zbc h).2 w hw)).1
 show (exL s _).length≤24
 unfold exL
 rw[List.length_mergeSort,List.length_map]
 exact Nat.le_trans (List.length_filter_le _ _) hs24
theorem z8p (hx:(crR s).isSome=false)(hn:s.length≤8):ctR s (treF s)=0:=by
 obtain⟨h1,h2⟩:=zy8 h hx hn
 unfold ctR
 rw[if_pos h,if_neg,if_pos ((z0q h).2 (zm3 h hx))]
 unfold lrgT
 rw[Bool.or_eq_true,List.any_eq_true]
 rintro (h3|⟨b,hb,h3⟩)
 ·have:=of_decide_eq_true h3;omega
 have:=h2 b hb
 simp only[lrgB,Bool.or_eq_true,decide_eq_true_eq] at h3
 omega
theorem z0k {l:List Int}:exR s l s.length=[]↔∀w∈s,w.slips≠l:=by
 have he:=z0n h l
 constructor
 ·intro hn w hw hl
  have:=(he.2 w.id).2 (zlf.2 ⟨w,hw,rfl,hl⟩)
  rw[hn] at this;cases this
 intro hn
 refine List.eq_nil_iff_forall_not_mem.2 fun id hid=>?_
 obtain⟨w,hw,_,hl⟩:=zlf.1 ((he.2 id).1 hid)
 exact hn w hw hl
theorem zxg {L:List (List Int)}{m x:List Int}:x∈zhy s L m↔x∈L∨(x=m∧m≠[]∧exR s m s.length=[]):=by
 unfold zhy
 split
 ·rename_i hc
  constructor
  ·exact .inl
  rintro (h1|⟨rfl,h2,h3⟩)
  ·exact h1
  rcases hc with hc|hc|hc
  ·exact absurd hc h2
  ·exact absurd h3 hc
  exact hc
 rename_i hc
 simp only[not_or,ne_eq,Decidable.not_not] at hc
 rw[List.mem_append,List.mem_singleton]
 constructor
 ·rintro (h1|rfl)
  ·exact .inl h1
  exact .inr ⟨rfl,hc.1,hc.2.1⟩
 rintro (h1|⟨rfl,_⟩)
 ·exact .inl h1
 exact .inr rfl
theorem zsg {L:List (List Int)}{m:List Int}(hL:L.Nodup):(zhy s L m).Nodup:=by
 unfold zhy
 split
 ·exact hL
 rename_i hc
 simp only[not_or] at hc
 rw[List.nodup_append]
 exact⟨hL,by simp,fun a ha b hb=>by simp at hb;subst hb;rintro rfl;exact hc.2.2 ha⟩
theorem zzi {c x:List Int}{L:List (List Int)}:∀k,k≤s.length→(x∈loK s c L k↔x∈L∨(x≠[]∧exR s x s.length=[]∧∃w∈s.take k,x=com c w.slips))
 |0,_=>by simp[loK]
 |k+1,hk=>by
  rw[zkn s c L (by omega),zxg h,zzi k (by omega),List.take_succ_eq_append_getElem (by omega)]
  constructor
  ·rintro ((h1|⟨h2,h3,w,hw,e⟩)|⟨rfl,h2,h3⟩)
   ·exact .inl h1
   ·exact .inr ⟨h2,h3,w,List.mem_append_left _ hw,e⟩
   exact .inr ⟨h2,h3,s[k],List.mem_append_right _ List.mem_cons_self,rfl⟩
  rintro (h1|⟨h2,h3,w,hw,e⟩)
  ·exact .inl (.inl h1)
  rcases List.mem_append.1 hw with hw|hw
  ·exact .inl (.inr ⟨h2,h3,w,hw,e⟩)
  simp at hw;subst hw;subst e;exact .inr ⟨rfl,h2,h3⟩
theorem zsa {c:List Int}{L:List (List Int)}(hL:L.Nodup):∀k,k≤s.length→(loK s c L k).Nodup
 |0,_=>by simpa[loK] using hL
 |k+1,hk=>by rw[zkn s c L (by omega)];exact zsg h (zsa hL k (by omega))
theorem ztd:∀i,i≤s.length→(loI s i).Nodup
 |0,_=>by simp[loI]
 |i+1,hi=>zsa h (ztd i (by omega)) i (by omega)
theorem zy3 {x:List Int}:∀i,i≤s.length→(x∈loI s i↔x≠[]∧exR s x s.length=[]∧∃a,∃ha:a<s.length,a<i∧∃w∈s.take a,x=com s[a].slips w.slips)
 |0,_=>by simp[loI]
 |i+1,hi=>by
  have e:(slC s).getD i []=s[i].slips:=by rw[List.getD_eq_getElem?_getD,List.getElem?_eq_getElem (by rw[show (slC s).length=s.length by simp[slC]];omega)];simp[slC]
  show x∈loK s _ _ i↔_
  rw[zzi h i (by omega),zy3 i (by omega),e]
  constructor
  ·rintro (⟨h1,h2,a,ha,h3,h4⟩|⟨h1,h2,h3⟩)
   ·exact⟨h1,h2,a,ha,by omega,h4⟩
   exact⟨h1,h2,i,by omega,by omega,h3⟩
  rintro⟨h1,h2,a,ha,h3,h4⟩
  rcases (show a<i∨a=i by omega) with h5|rfl
  ·exact .inl ⟨h1,h2,a,ha,h5,h4⟩
  exact .inr ⟨h1,h2,h4⟩
theorem zy5 (hx:(crR s).isSome=false):zuw (treF s)=(loI s s.length).length:=by
 refine z5i (hid h) (hh1 h) (zm3 h hx) (ztd h s.length (Nat.le_refl _)) fun x=>?_
 rw[zy3 h s.length (Nat.le_refl _)]
 have hlb:zye (wOf s) x=true↔x≠[]∧exR s x s.length=[]:=by
  unfold zye
  rw[xji,Bool.not_eq_true',Bool.not_eq_true',List.any_eq_false,z0k h,List.isEmpty_eq_false_iff]
  refine and_congr Iff.rfl ⟨fun hh w hw=>by simpa using hh (w.id,w.slips) (List.mem_map_of_mem hw),fun hh y hy=>?_⟩
  obtain⟨w,hw,rfl⟩:=List.mem_map.1 hy
  simpa using hh w hw
 rw[hlb]
 have rs:∀w∈s,w.slips.Pairwise (·<·):=fun w hw=>(w_ok h hw).2.1
 have rc:∀ {a b:List Int},a.Pairwise (·<·)→(com a b).Pairwise (·<·):=fun ha=>ha.sublist List.filter_sublist
 constructor
 ·rintro⟨h1,h2,a,ha,_,w,hw,rfl⟩
  have hw:=List.mem_of_mem_take hw
  refine⟨⟨rc (rs _ (List.getElem_mem ha)),.inr ⟨s[a].slips,?_,w.slips,?_,fun n=>zl1⟩⟩,h1,h2⟩
  ·rw[zsz];exact List.mem_map_of_mem (List.getElem_mem ha)
  rw[zsz];exact List.mem_map_of_mem hw
 rintro⟨⟨h1,h2⟩,h3,h4⟩
 refine⟨h3,h4,?_⟩
 rcases h2 with h2|⟨c,hc,d,hd,he⟩
 ·exact absurd h2 h3
 rw[zsz] at hc hd
 obtain⟨v,hv,rfl⟩:=List.mem_map.1 hc
 obtain⟨w,hw,rfl⟩:=List.mem_map.1 hd
 obtain⟨i,hi,rfl⟩:=List.mem_iff_getElem.1 hv
 obtain⟨j,hj,rfl⟩:=List.mem_iff_getElem.1 hw
 rcases Nat.lt_trichotomy i j with hij|rfl|hij
 ·refine⟨j,hj,hj,s[i],?_,zhf h1 (rc (rs _ (List.getElem_mem hj))) fun n=>by rw[he,zl1];exact And.comm⟩
  exact List.mem_iff_getElem.2 ⟨i,by rw[List.length_take];omega,by rw[List.getElem_take]⟩
 ·exfalso
  have:x=s[i].slips:=zhf h1 (rs _ (List.getElem_mem hi)) fun n=>by rw[he];exact and_self_iff
  exact(z0k h).1 h4 s[i] (List.getElem_mem hi) this.symm
 refine⟨i,hi,hi,s[j],?_,zhf h1 (rc (rs _ (List.getElem_mem hi))) fun n=>by rw[he,zl1]⟩
 exact List.mem_iff_getElem.2 ⟨j,by rw[List.length_take];omega,by rw[List.getElem_take]⟩
end
end Go.Am.Ds
end
section
namespace Go.Am.Ds
open Go Go.Am Go.Proofs Tryz
attribute [local simp] vrun zay zbm vop vopA zcn zab.back hidI hidF zd4 bm Nat.testBit_eq_decide_div_mod_eq za2 zbp zck vO zbj vlen zbv zb6 zev zau zap zcx vbox zbh zeq zcb zk5 zer zcw zaw zcy zax zc0 zbi zcz zbu zbq vbnd zdh vidx zbr zee zav zbx zde zeh zfd zfa vbin vsc vsc1 vscs vscl zb8 aint zca zef zbb zdb zex pvcV pvc pvcs tput tget zdx zab.get zab.alloc zab.put zab.drop zab.empty zce vput zei zbd zcf zdu chunk List.range List.range.loop za7 zb2 za8 frz frzL PV.isF PV.allF PV.scal PV.allS retP subT zem PV.one PV.ids PV.idsL zcj beq_eq zb9 zcc
attribute [local simp] zW tup2
theorem xgf {s:List Wit}(h:fewS s=true)(hc:zai s=0):s.length≤8:=by
 unfold fewS at h
 simp only[xji,Bool.not_eq_true',Bool.or_eq_true,decide_eq_true_eq] at h
 rcases h.2 with h|h
 ·exact h.1
 exact absurd hc h.2
theorem xd4 {s:List Wit}(h:fewS s=true):s.length≤40:=by
 unfold fewS at h
 simp only[xji,Bool.not_eq_true',Bool.or_eq_true,decide_eq_true_eq] at h
 omega
theorem z5y {w:Wit}(h:zgz w=false):w.slips.length<4294967296∧w.mended.length<4294967296∧w.models.length<4294967296:=by
 unfold zgz at h
 simp only[Bool.or_eq_false_iff,decide_eq_false_iff_not] at h
 omega
theorem xc0 {T:List Br}(h:ligT T=true):T.length≤60∧∀b∈T,b.slips.length≤60∧b.cops.length≤60:=by
 unfold ligT at h
 rw[xji,decide_eq_true_eq,List.all_eq_true] at h
 refine⟨h.2,fun b hb=>?_⟩
 have:=h.1 b hb
 unfold ligB at this
 rw[xji,decide_eq_true_eq,decide_eq_true_eq] at this
 exact this
theorem z3s (s:List Wit):(drpL s).length≤3:=by
 unfold drpL
 by_cases h:zai s=0
 ·rw[if_pos h]
  cases hd:zfz s with
  |none=>exact Nat.zero_le 3
  |some d=>exact(zxi h hd).elim fun h1 _=>h1
 rw[if_neg h];exact Nat.zero_le 3
theorem z0f (s:List Wit)(hs:s.length<4294967296)(hw:∀w∈s,w.slips.length<4294967296∧w.mended.length<4294967296∧w.models.length<4294967296)(hf:fewS s=true):∃(T0:List Br) (e k:Int),(e=0→ctR s T0=0)∧(e≠0→T0=[])∧(T0.length≤60∧∀b∈T0,b.slips.length≤60∧b.cops.length≤60)∧
  zaj prog 81 [encS s] (fun r=>r=.tup [encT T0,.int .i64 e])∧zaj prog 82 [encS s] (fun r=>r=.tup [.int .i64 k,.int .i64 e])∧zaj prog 83 [encS s] (fun r=>r=.agg [.int .i64 k,.int .i64 e]):=by
 have hem:∀e:Int,zaj prog 81 [encS s] (fun r=>r=.tup [.agg [.sl0],.int .i64 e])→zaj prog 81 [encS s] (fun r=>r=.tup [encT [],.int .i64 e]):=fun e h=>
  h.alt fun r hr=>⟨.tup [encT [],.int .i64 e],by subst hr;exact .tup' (.cons (.agg' (.cons .sl0v .nil)) (.cons (.same _ rfl) .nil)),rfl,rfl⟩
 by_cases h:zai s=0
 ·cases hx:(crR s).isSome with
  |true=>exact⟨[],9,0,fun h=>absurd h (by decide),fun _=>rfl,⟨Nat.zero_le _,fun b hb=>by cases hb⟩,hem _ (p81x s h hx),p82x s h hx,p83x s h hx⟩
  |false=>
   have h8:=xgf hf h
   obtain⟨h1,h2⟩:=zy8 h hx h8
   refine⟨treF s,0,(zuw (treF s):Nat),fun _=>z8p h hx h8,fun h=>absurd rfl h,⟨by omega,fun b hb=>by have:=h2 b hb;omega⟩,p81t s h hx (zvr h hx h8),p82t s h hx (zvr h hx h8),?_⟩
   rw[zy5 h hx];exact p83t s h hx
 exact⟨[],zai s,0,fun h2=>absurd h2 h,fun _=>rfl,⟨Nat.zero_le _,fun b hb=>by cases hb⟩,hem _ (p81e s hs h),p82e s hs h,p83e s hs hw h⟩
theorem xii {s:List Wit}(h:fewS s=true)(hs:∀w∈s,zgz w=false→w.slips.length<4294967296∧w.mended.length<4294967296∧w.models.length<4294967296):∀w∈s,w.slips.length<4294967296∧w.mended.length<4294967296∧w.models.length<4294967296:=fun w hw=>by
 unfold fewS at h
 simp only[xji,Bool.not_eq_true',List.any_eq_false] at h
 exact hs w hw (by simpa using h.1 w hw)
theorem p18 (s:List Wit)(T:List Br)(a n:Int)(ha:0≤a∧a≤255)(hl:s.length<4611686018427387904)(hTl:T.length<4611686018427387904)(hTb:∀b∈T,b.slips.length<4611686018427387904∧b.cops.length<4611686018427387904)(sanB:Bool)(hsan:zaj prog 22 [] fun r=>r=.bool sanB)(hsb:sanB=true):zaj prog 18 [encS s,encT T,.int .u8 a,.int .i64 n] fun r=>r=.bool true:=by
 refine .zag func18 rfl rfl ?_
 refine .sr ?_
 refine .seq (.seq ?_)
 refine .zac [0,1,2,3,4,5,6,7] rfl zz0 ?_
 refine .rn [0] _ ?_
 refine .pc rfl rfl rfl rfl rfl call26 (p26 s hl) ?_
 refine .rn [2,3] _ ?_
 refine .split (t:=21) rfl (fun c21=>?_) (fun c21=>?_)
 ·first|cases c21|(have h:=bnt c21;cases h)|(have h:=bnf c21;cases h)|try rw[c21]
  try simp at c21
  refine .rn [4,5,6,7] [] ?_
  refine .done (.zdm rfl (.seq ?_))
  refine .zac [0,1] rfl zz0 ?_
  refine .pc rfl rfl rfl rfl rfl call22 (hsan) ?_
  refine .rn [1] [] ?_
  refine .done (.ret ?_)
  refine⟨_,_,zz4,zz4,?_⟩
  first|rfl|(simp[*];done)|(simp_all;done)
 first|cases c21|(have h:=bnt c21;cases h)|(have h:=bnf c21;cases h)|try rw[c21]
 try simp at c21
 refine .rn [4] _ ?_
 refine .pc rfl rfl rfl rfl rfl call80 (p80 T hTl hTb) ?_
 refine .rn [6,7] [] ?_
 refine .done ?_
 refine .cs ?_ ?_<;>intro c25
 ·try simp at c25
  refine .seq ?_
  refine .zac [0,1] rfl zz0 ?_
  refine .pc rfl rfl rfl rfl rfl call22 (hsan) ?_
  refine .rn [1] [] ?_
  refine .done (.ret ?_)
  refine⟨_,_,zz4,zz4,?_⟩
  first|rfl|(simp[*];done)|(simp_all;done)
 try simp at c25
 have hf:fewS s=true:=by first|exact c21|simpa using c21
 have hg:ligT T=true:=by first|exact c25|simpa using c25
 obtain⟨hT60,hTb60⟩:=xc0 hg
 have hs40:=xd4 hf
 have hs:s.length<4294967296:=by omega
 have hw:=xii hf (fun w _ h=>z5y h)
 obtain⟨T0,e,k,hct,hT0,⟨hT01,hT02⟩,q81,q82,q83⟩:=z0f s hs hw hf
 have q23:=p23' s hs
 have q84:=p84' s hs hw
 have hL3:=z3s s
 have hE1:(if zai s=0 then (zfz s).getD [] else [])=drpL s:=rfl
 have hE2:(if zai s=0 then (if (zfz s).isSome=true then (0:Int) else 2) else zai s)=drpE s:=rfl
 rw[hE1,hE2] at q23
 obtain⟨L,hLe⟩:∃L,drpL s=L:=⟨_,rfl⟩
 obtain⟨E,hEe⟩:∃E,drpE s=E:=⟨_,rfl⟩
 rw[hLe,hEe] at q23 q84
 rw[hLe] at hL3
 have q34:zaj prog 34 [ints L,ints L] fun r=>r=.bool true:=by
  have:=p34 L L (by omega) (by omega)
  rwa [decide_eq_true rfl] at this
 have q87:=p87 s T hs hTl hTb
 have q85:=p85 s T hs hw hTl hTb
 rw[← xbg] at q85
 obtain⟨C,hC⟩:∃C,ctT s T=C:=⟨_,rfl⟩
 rw[hC] at q87 q85
 have q850:=p85 s T0 hs hw (by omega) (fun b hb=>by have:=hT02 b hb;omega)
 have q86:=p86 T0 a n ha hT01 hT02
 have q87f:∀T',szT T'→zaj prog 87 [encS s,encT T'] fun r=>r=.int .i64 (ctT s T'):=fun T' h=>p87 s T' hs (by have:=h.1;omega) (fun b hb=>by have:=h.2 b hb;omega)
 have q85f:∀T',szT T'→zaj prog 85 [encS s,encT T'] fun r=>r=.int .i64 (ctT s T'):=fun T' h=>by
  rw[xbg];exact p85 s T' hs hw (by have:=h.1;omega) (fun b hb=>by have:=h.2 b hb;omega)
 unfold encS at q81 q82 q83 q23 q84 q87 q85 q850 q87f q85f
 unfold encT at q81 q87 q85 q850 q86 q87f q85f
 clear hE1 hE2 hLe hEe hC
 refine .skip (.seq ?_)
 refine .zac [0,1,2,3,4,5,6,7] rfl zz0 ?_
 refine .rn [0] _ ?_
 refine .pc rfl rfl rfl rfl rfl call81 (q81) ?_
 refine .rn [2,3,4,5,6,7] [] ?_
 refine .done (.seq ?_)
 refine .zac [0,1,2,3,4,5,6] rfl zz0 ?_
 refine .rn [0] _ ?_
 refine .pc rfl rfl rfl rfl rfl call82 (q82) ?_
 refine .rn [2,3,4,5,6] [] ?_
 refine .done (.seq ?_)
 refine .zac [0,1,2,3] rfl zz0 ?_
 refine .rn [0] _ ?_
 refine .pc rfl rfl rfl rfl rfl call83 (q83) ?_
 refine .rn [2,3] [] ?_
 refine .done (.seq ?_)
 refine .zac [0,1,2,3,4,5,6] rfl zz0 ?_
 refine .rn [0] _ ?_
 refine .pc rfl rfl rfl rfl rfl call23 (q23) ?_
 refine .rn [2,3,4,5,6] [] ?_
 refine .done (.seq ?_)
 refine .zac [0,1,2,3] rfl zz0 ?_
 refine .rn [0] _ ?_
 refine .pc rfl rfl rfl rfl rfl call84 (q84) ?_
 refine .rn [2,3] [] ?_
 refine .done (.seq (.seq ?_))
 refine .zac [0,1,2,3,4,5,6,7,8,9,10,11,12,13,14,15,16,17,18,19,20,21,22,23] rfl zz0 ?_
 refine .rn [0,1,2,3,4] _ ?_
 refine .split (t:=50) rfl (fun c50=>?_) (fun c50=>?_)
 ·first|cases c50|(have h:=bnt c50;cases h)|(have h:=bnf c50;cases h)|try rw[c50]
  try simp at c50
 first|cases c50|(have h:=bnt c50;cases h)|(have h:=bnf c50;cases h)|try rw[c50]
 try simp at c50
 refine .rn [5,6,7] _ ?_
 refine .split (t:=53) rfl (fun c53=>?_) (fun c53=>?_)
 ·first|cases c53|(have h:=bnt c53;cases h)|(have h:=bnf c53;cases h)|try rw[c53]
  try simp at c53
  have hc0:=hct c53
  rw[hc0] at q850
  refine .rn [8,9] _ ?_
  refine .pc rfl rfl rfl rfl rfl call85 (q850) ?_
  refine .rn [11,12,13,14] _ ?_
  refine .split (t:=60) rfl (fun c60=>?_) (fun c60=>?_)
  ·first|cases c60|(have h:=bnt c60;cases h)|(have h:=bnf c60;cases h)|try rw[c60]
   try simp at c60
  first|cases c60|(have h:=bnt c60;cases h)|(have h:=bnf c60;cases h)|try rw[c60]
  try simp at c60
  refine .rn [15,16,17] _ ?_
  refine .split (t:=63) rfl (fun c63=>?_) (fun c63=>?_)
  ·first|cases c63|(have h:=bnt c63;cases h)|(have h:=bnf c63;cases h)|try rw[c63]
   try simp at c63
  first|cases c63|(have h:=bnt c63;cases h)|(have h:=bnf c63;cases h)|try rw[c63]
  try simp at c63
  refine .rn [18,19,20,21,22,23] [] ?_
  refine .done (.zjp rfl (.skip (.seq ?_)))
  refine .zac [0,1,2,3,4,5] rfl zz0 ?_
  refine .rn [0,1,2] _ ?_
  refine .step rfl rfl (.pure rfl rfl rfl call86 (by decide) (q86) (by first|rfl|simp[*]) ?_)
  rintro _ ⟨T',rfl,hT'⟩
  refine .rn [4,5] [] ?_
  refine .done (.seq ?_)
  refine .drawn (ms:=[0,1,3,3,11,31,63,127,255,255,767,2047,4095,8191,16383,16383,49151,131071,262143,524287,1048575,1048575,3145727,8388607,16777215,33554431,67108863,67108863,268435455,67108863,67108863,2147483647,4294967295,8589934591,17179869183,34359738367,34359738367,137438953471,34359738367,34359738367,1099511627775,2199023255551,4398046511103,8796093022207]) (W:=[0,17,28,31,37,40]) (items:=[.op 0,.op 1,.op 2,.op 3,.op 4,.op 5,.op 6,.op 7,.op 8,.op 9,.op 10,.op 11,.op 12,.op 13,.op 14,.op 15,.op 16,.op 17,.op 18,.op 19,.op 20,.op 21,.op 22,.op 23,.op 24,.op 25,.op 26,.op 27,.op 29,.op 30,.op 28,.ck 30,.ck 29,.op 31,.op 32,.op 33,.op 34,.op 35,.op 36,.op 38,.op 39,.op 37,.ck 39,.ck 38,.op 40,.op 41,.op 42,.op 43]) rfl zz0 zz0 zz0 ?_
  refine .wp rfl rfl rfl rfl rfl call22 (hsan) ?_
  refine .rx ?_
  refine .split (t:=75) rfl (fun c75=>?_) (fun c75=>?_)
  ·first|cases c75|(have h:=bnt c75;cases h)|(have h:=bnf c75;cases h)|try rw[c75]
   try simp at c75
   iterate 6 refine .rx ?_
   refine .split (t:=81) rfl (fun c81=>?_) (fun c81=>?_)
   ·first|cases c81|(have h:=bnt c81;cases h)|(have h:=bnf c81;cases h)|try rw[c81]
    try simp at c81
    iterate 6 refine .rx ?_
    refine .split (t:=87) rfl (fun c87=>?_) (fun c87=>?_)
    ·first|cases c87|(have h:=bnt c87;cases h)|(have h:=bnf c87;cases h)|try rw[c87]
     try simp at c87
     iterate 3 refine .rx ?_
     refine .wp rfl rfl rfl rfl rfl call34 (q34) ?_
     iterate 2 refine .rx ?_
     refine .split (t:=93) rfl (fun c93=>?_) (fun c93=>?_)
     ·first|cases c93|(have h:=bnt c93;cases h)|(have h:=bnf c93;cases h)|try rw[c93]
      try simp at c93
      iterate 6 refine .rx ?_
      refine .split (t:=99) rfl (fun c99=>?_) (fun c99=>?_)
      ·first|cases c99|(have h:=bnt c99;cases h)|(have h:=bnf c99;cases h)|try rw[c99]
       try simp at c99
       iterate 4 refine .rx ?_
       refine .wp rfl rfl rfl rfl rfl call87 (q87) ?_
       refine .ck rfl (by first|decide +kernel|exact rfl) ?_
       refine .ck rfl (by first|decide +kernel|exact rfl) ?_
       refine .wp rfl rfl rfl rfl rfl call85 (q85) ?_
       iterate 3 refine .rx ?_
       refine .split (t:=108) rfl (fun c108=>?_) (fun c108=>?_)
       ·first|cases c108|(have h:=bnt c108;cases h)|(have h:=bnf c108;cases h)|try rw[c108]
        try simp at c108
        iterate 4 refine .rx ?_
        refine .wp rfl rfl rfl rfl rfl call87 (q87f T' hT') ?_
        refine .ck rfl (by first|decide +kernel|exact rfl) ?_
        refine .ck rfl (by first|decide +kernel|exact rfl) ?_
        refine .wp rfl rfl rfl rfl rfl call85 (q85f T' hT') ?_
        iterate 3 refine .rx ?_
        refine .done (.ret ?_)
        refine⟨_,_,zz4,zz4,?_⟩
        first|rfl|(simp[*];done)|(simp_all;done)
       first|cases c108|(have h:=bnt c108;cases h)|(have h:=bnf c108;cases h)|try rw[c108]
       try simp at c108
      first|cases c99|(have h:=bnt c99;cases h)|(have h:=bnf c99;cases h)|try rw[c99]
      try simp at c99
     first|cases c93|(have h:=bnt c93;cases h)|(have h:=bnf c93;cases h)|try rw[c93]
     try simp at c93
    first|cases c87|(have h:=bnt c87;cases h)|(have h:=bnf c87;cases h)|try rw[c87]
    try simp at c87
   first|cases c81|(have h:=bnt c81;cases h)|(have h:=bnf c81;cases h)|try rw[c81]
   try simp at c81
  first|cases c75|(have h:=bnt c75;cases h)|(have h:=bnf c75;cases h)|try rw[c75]
  try simp at c75
 first|cases c53|(have h:=bnt c53;cases h)|(have h:=bnf c53;cases h)|try rw[c53]
 try simp at c53
 obtain rfl:=hT0 c53
 refine .rn [8,9,10,11,12,13,14,15,16,17] _ ?_
 refine .split (t:=63) rfl (fun c63=>?_) (fun c63=>?_)
 ·first|cases c63|(have h:=bnt c63;cases h)|(have h:=bnf c63;cases h)|try rw[c63]
  try simp at c63
  refine .rn [18,19,20,21,22,23] [] ?_
  refine .done ?_
  refine .cs ?_ ?_<;>intro c69
  ·try simp at c69
  try simp at c69
  refine .skip (.seq ?_)
  refine .zac [0,1,2,3,4,5] rfl zz0 ?_
  refine .rn [0,1,2] _ ?_
  refine .step rfl rfl (.pure rfl rfl rfl call86 (by decide) (q86) (by first|rfl|simp[*]) ?_)
  rintro _ ⟨T',rfl,hT'⟩
  refine .rn [4,5] [] ?_
  refine .done (.seq ?_)
  refine .drawn (ms:=[0,1,3,3,11,31,63,127,255,255,767,2047,4095,8191,16383,16383,49151,131071,262143,524287,1048575,1048575,3145727,8388607,16777215,33554431,67108863,67108863,268435455,67108863,67108863,2147483647,4294967295,8589934591,17179869183,34359738367,34359738367,137438953471,34359738367,34359738367,1099511627775,2199023255551,4398046511103,8796093022207]) (W:=[0,17,28,31,37,40]) (items:=[.op 0,.op 1,.op 2,.op 3,.op 4,.op 5,.op 6,.op 7,.op 8,.op 9,.op 10,.op 11,.op 12,.op 13,.op 14,.op 15,.op 16,.op 17,.op 18,.op 19,.op 20,.op 21,.op 22,.op 23,.op 24,.op 25,.op 26,.op 27,.op 29,.op 30,.op 28,.ck 30,.ck 29,.op 31,.op 32,.op 33,.op 34,.op 35,.op 36,.op 38,.op 39,.op 37,.ck 39,.ck 38,.op 40,.op 41,.op 42,.op 43]) rfl zz0 zz0 zz0 ?_
  refine .wp rfl rfl rfl rfl rfl call22 (hsan) ?_
  refine .rx ?_
  refine .split (t:=75) rfl (fun c75=>?_) (fun c75=>?_)
  ·first|cases c75|(have h:=bnt c75;cases h)|(have h:=bnf c75;cases h)|try rw[c75]
   try simp at c75
   iterate 6 refine .rx ?_
   refine .split (t:=81) rfl (fun c81=>?_) (fun c81=>?_)
   ·first|cases c81|(have h:=bnt c81;cases h)|(have h:=bnf c81;cases h)|try rw[c81]
    try simp at c81
    iterate 6 refine .rx ?_
    refine .split (t:=87) rfl (fun c87=>?_) (fun c87=>?_)
    ·first|cases c87|(have h:=bnt c87;cases h)|(have h:=bnf c87;cases h)|try rw[c87]
     try simp at c87
     iterate 3 refine .rx ?_
     refine .wp rfl rfl rfl rfl rfl call34 (q34) ?_
     iterate 2 refine .rx ?_
     refine .split (t:=93) rfl (fun c93=>?_) (fun c93=>?_)
     ·first|cases c93|(have h:=bnt c93;cases h)|(have h:=bnf c93;cases h)|try rw[c93]
      try simp at c93
      iterate 6 refine .rx ?_
      refine .split (t:=99) rfl (fun c99=>?_) (fun c99=>?_)
      ·first|cases c99|(have h:=bnt c99;cases h)|(have h:=bnf c99;cases h)|try rw[c99]
       try simp at c99
       iterate 4 refine .rx ?_
       refine .wp rfl rfl rfl rfl rfl call87 (q87) ?_
       refine .ck rfl (by first|decide +kernel|exact rfl) ?_
       refine .ck rfl (by first|decide +kernel|exact rfl) ?_
       refine .wp rfl rfl rfl rfl rfl call85 (q85) ?_
       iterate 3 refine .rx ?_
       refine .split (t:=108) rfl (fun c108=>?_) (fun c108=>?_)
       ·first|cases c108|(have h:=bnt c108;cases h)|(have h:=bnf c108;cases h)|try rw[c108]
        try simp at c108
        iterate 4 refine .rx ?_
        refine .wp rfl rfl rfl rfl rfl call87 (q87f T' hT') ?_
        refine .ck rfl (by first|decide +kernel|exact rfl) ?_
        refine .ck rfl (by first|decide +kernel|exact rfl) ?_
        refine .wp rfl rfl rfl rfl rfl call85 (q85f T' hT') ?_
        iterate 3 refine .rx ?_
        refine .done (.ret ?_)
        refine⟨_,_,zz4,zz4,?_⟩
        first|rfl|(simp[*];done)|(simp_all;done)
       first|cases c108|(have h:=bnt c108;cases h)|(have h:=bnf c108;cases h)|try rw[c108]
       try simp at c108
      first|cases c99|(have h:=bnt c99;cases h)|(have h:=bnf c99;cases h)|try rw[c99]
      try simp at c99
     first|cases c93|(have h:=bnt c93;cases h)|(have h:=bnf c93;cases h)|try rw[c93]
     try simp at c93
    first|cases c87|(have h:=bnt c87;cases h)|(have h:=bnf c87;cases h)|try rw[c87]
    try simp at c87
   first|cases c81|(have h:=bnt c81;cases h)|(have h:=bnf c81;cases h)|try rw[c81]
   try simp at c81
  first|cases c75|(have h:=bnt c75;cases h)|(have h:=bnf c75;cases h)|try rw[c75]
  try simp at c75
 first|cases c63|(have h:=bnt c63;cases h)|(have h:=bnf c63;cases h)|try rw[c63]
 try simp at c63
 exact absurd c63 c53
end Go.Am.Ds
end
