/-
 What is used in the proof of a statement (part HmC); no condition.
-/
import Derived.Test.YtmgglkdilpglgaaGreatHiZ
import Derived.Test.YtmgglkdilpglgaaGreatVm2
import Derived.Test.YtmgglkdilpglgaaGreatHiT
import Derived.Test.YtmgglkdilpglgaaGreatHmB
import Derived.Test.YtmgglkdilpglgaaGreatHjA
import Derived.Test.YtmgglkdilpglgaaGreatHiE
import Derived.Test.YtmgglkdilpglgaaGreatHmA
set_option linter.all false
set_option maxHeartbeats 40000000
set_option maxRecDepth 100000
section
namespace Go.Am.Hi
open Go Go.Am Go.Proofs Tryz
attribute [local simp] vrun zbg zc6 vop vopA zc7 zab.back hidI hidF zgd bm Nat.testBit_eq_decide_div_mod_eq za1 zca zeg vO zcv vlen zdw zcz zjh zbo zbb zfu vbox zcw ziq zet zh4 zfr zbz zfs zb0 zft zcu zfx zdx zc8 vbnd zfa vidx zd1 zh1 zbt zd0 zfv zhu zjr zj2 vbin vsc vsc1 vscs vscl zdh aint zfj zhf zcd zew zjf pvcV pvc pvcs tput tget zc5 zab.get zab.alloc zab.put zab.drop zab.empty zbl vput zhp zbj zc4 zgg chunk List.range List.range.loop zbd zef zbn frz frzL PV.isF PV.allF PV.scal PV.allS retP subT zil PV.one PV.ids PV.idsL ze8 beq_eq zdn zed
attribute [local simp] zax zat zaz
structure Reg where
  ps:List Int
  sc:Int
  ts:List Tu
def turns (l:List Tu):PV:=.vec (l.map encT)
def encR (R:Reg):PV:=.agg [ints R.ps,.int .i64 R.sc,turns R.ts]
@[simp] theorem xba (vh:zab)(t:Tu):frz vh (encT t)=some (encT t):=by simp[encT,frz,frzL]
@[simp] theorem z8y (l:List Tu):PV.allF (l.map encT)=true:=by
 induction l with
 |nil=>rfl
 |cons a r ih=>simp[PV.allF,ih]
@[simp] theorem z9r (l:List Tu):(turns l).isF=true:=by unfold turns;simp[PV.isF]
@[simp] theorem z9n (vh:zab)(l:List Tu):frz vh (turns l)=some (turns l):=by simp[turns,frz]
@[simp] theorem xbe (R:Reg):(encR R).isF=true:=by simp[encR,PV.isF,PV.allF,ints]
@[simp] theorem z4y (R:Reg):(encR R).cells=[ints R.ps,.int .i64 R.sc,turns R.ts]:=rfl
def zbc (R:Reg)(t:Tu):Prop:=0≤t.d∧t.d≤730∧0≤t.s∧t.s≤R.sc - 1∧
 (((t.k=1∨t.k=3∨t.k=5)∧t.p∈R.ps∧t.w=0∧t.o=0)∨(t.k=2∧t.p∈R.ps∧1≤t.w∧t.w≤40∧t.o=0)∨(t.k=4∧0≤t.o∧t.o≤R.sc - 1∧¬t.o=t.s∧t.p=0∧t.w=0))
instance (R:Reg) (t:Tu):Decidable (zbc R t):=by unfold zbc;infer_instance
def zbk (R:Reg)(t:Tu):Bool:=decide (zbc R t)
theorem zbc.form {R:Reg}{t:Tu}(h:zbc R t):znk t:=by
 obtain⟨h1,h2,h3,h4,h5⟩:=h
 refine⟨?_,⟨h1,h2⟩,fun hk=>?_,fun hk=>?_⟩
 ·rcases h5 with⟨h|h|h,_⟩|⟨h,_⟩|⟨h,_⟩<;>simp[h]
 ·rcases h5 with⟨h|h|h,_⟩|⟨_,_,h,h',_⟩|⟨h,_⟩<;>omega
 rcases h5 with⟨h|h|h,_⟩|⟨h,_⟩|⟨_,_,_,h,_⟩<;>first|omega|exact h
theorem p69 (n:Int):zao prog 69 [.int .i64 n] fun r=>r=.bool (!(decide (1≤n)&&decide (n≤1099511627776))):=by
 refine .zag func69 rfl rfl ?_
 refine .sr ?_
 refine .seq ?_
 refine .zac [0,1,2,3] rfl zz0 ?_
 refine .rn [0] _ ?_
 refine .pc rfl rfl rfl rfl rfl call70 (p70 _ _ _) ?_
 refine .rn [2,3] [] ?_
 refine .done (.ret ?_)
 refine⟨_,_,zz2,zz2,?_⟩
 first|rfl|(simp[*];done)|(simp_all;done)
theorem p75 (l:List Tu)(p:Tu→Bool)(f:FuncId)(xs ys:List PV)(hl:l.length<4294967296)(hx:PV.allF xs=true)(hy:PV.allF ys=true)(hcf:∀cs w,(callFunc f cs).run prog w=.ok (.enter f cs) w)(hp:∀a∈l,zao prog f (xs++[encT a]++ys) fun r=>r=.bool (p a)):zao prog 75 [turns l,.func f xs ys] fun r=>r=.int .i64 (idxF p 0 l):=by
 unfold turns
 refine .zag func75 rfl rfl ?_
 refine .sr ?_
 refine .seq (.sr ?_)
 refine .block ?_
 refine .zb5 (fun s:Nat=>([(0,.vec (l.map encT)),(1,.func f xs ys),(7,.int .i64 l.length),(8,.int .i64 s)],zab.empty)) (fun s=>s≤l.length∧idxF p s (l.drop s)=idxF p 0 l) (fun s=>l.length - s) 0 ⟨by simp,by simp⟩ (.pure (by simp[*]) (by simp)) ?_
 rintro i ⟨hi,hr⟩
 simp only at hi hr ⊢
 refine .sr ?_
 refine .seq ?_
 refine .cs ?_ ?_<;>intro c9
 ·try simp at c9
  have hw2:=wr1 i
  rw[zg7 p l i c9] at hr
  have hp:=hp l[i] (List.getElem_mem c9)
  refine .skip (.seq (.block (.sr ?_)))
  refine .seq ?_
  refine .zac [0,1,2,3,4,5] rfl zz0 ?_
  refine .rn [0,1,2,3,4] _ ?_
  refine .step rfl rfl (.pure rfl rfl rfl hcf (by decide) (hp) (by first|rfl|simp[*]) ?_)
  rintro _ rfl
  refine .done ?_
  refine .cs ?_ ?_<;>intro c16
  ·try simp at c16
   refine .sr ?_
   refine .ret ?_
   refine⟨_,_,zz2,zz2,?_⟩
   rw[← hr,if_pos c16]
  try simp at c16
  refine .skip (.rn ?_)
  refine⟨i+1,⟨zz3,?_⟩,zz3,.pure (by simp[*]) (by simp)⟩
  rw[← hr,if_neg (by simp[c16])]
 try simp at c9
 have:i=l.length:=by omega
 refine .exit (.sr ?_)
 refine .ret ?_
 refine⟨_,_,zz2,zz2,?_⟩
 rw[← hr,this,List.drop_length];rfl
theorem g137:(prog.stoodInHeld 137||prog.eqGuardType prog.depth 137)=false:=by decide +kernel
theorem n137:(match prog.underlying 137 with|some (.struct fs)=>fs.toList.map (fun f=>(f.name == "_", tsz prog f.type,f.type,f.offset))|_=>[])=[(false,some 1,3,0),(false,some 1,3,1),(false,some 1,3,2),(false,some 1,3,3),(false,some 1,3,4),(false,some 1,3,5)]:=by decide +kernel
theorem xay (a0 a1 a2 a3 a4 a5 b0 b1 b2 b3 b4 b5:Int):aeql prog 137 (.agg #[.int .i64 a0,.int .i64 a1,.int .i64 a2,.int .i64 a3,.int .i64 a4,.int .i64 a5]) (.agg #[.int .i64 b0,.int .i64 b1,.int .i64 b2,.int .i64 b3,.int .i64 b4,.int .i64 b5])=some (a0==b0&&a1==b1&&a2==b2&&a3==b3&&a4==b4&&a5==b5):=by
 have hn:=n137
 have hg:=g137
 unfold aeql
 simp only
 cases hu:prog.underlying 137 with
 |none=>rw[hu] at hn;simp at hn
 |some td=>
  cases td with
  |struct fs=>
   rw[hu] at hn
   simp only at hn ⊢
   rw[hg]
   simp only[xf2]
   generalize fs.toList=l at hn
   rcases l with _|⟨f1,_|⟨f2,_|⟨f3,_|⟨f4,_|⟨f5,_|⟨f6,_|⟨f7,r⟩⟩⟩⟩⟩⟩⟩
   ·simp at hn
   ·simp at hn
   ·simp at hn
   ·simp at hn
   ·simp at hn
   ·simp at hn
   ·simp only[List.map_cons,List.map_nil,List.cons.injEq,xfz,and_true] at hn
    obtain⟨⟨k0a,k0b,k0c,k0d⟩,⟨k1a,k1b,k1c,k1d⟩,⟨k2a,k2b,k2c,k2d⟩,⟨k3a,k3b,k3c,k3d⟩,⟨k4a,k4b,k4c,k4d⟩,⟨k5a,k5b,k5c,k5d⟩⟩:=hn
    simp only[zf4,k0a,k0b,k0c,k0d,k1a,k1b,k1c,k1d,k2a,k2b,k2c,k2d,k3a,k3b,k3c,k3d,k4a,k4b,k4c,k4d,k5a,k5b,k5c,k5d,xf2]
    have ha:tagg prog 3=some false:=by decide +kernel
    have hu3:prog.underlying 3=some (.int .i64):=by rfl
    simp[apart,ha,zix,hu3]
    cases a0==b0<;>cases a1==b1<;>cases a2==b2<;>cases a3==b3<;>cases a4==b4<;>cases a5==b5<;>rfl
   simp at hn
  |_=>rw[hu] at hn;simp at hn
theorem g56:(prog.stoodInHeld 56||prog.eqGuardType prog.depth 56)=false:=by decide +kernel
theorem n56:(match prog.underlying 56 with|some (.struct fs)=>fs.toList.map (fun f=>(f.name == "_", tsz prog f.type,f.type,f.offset))|_=>[])=[(false,some 1,3,0),(false,some 1,3,1),(false,some 1,3,2),(false,some 1,3,3)]:=by decide +kernel
theorem eq56 (a0 a1 a2 a3 b0 b1 b2 b3:Int):aeql prog 56 (.agg #[.int .i64 a0,.int .i64 a1,.int .i64 a2,.int .i64 a3]) (.agg #[.int .i64 b0,.int .i64 b1,.int .i64 b2,.int .i64 b3])=some (a0==b0&&a1==b1&&a2==b2&&a3==b3):=by
 have hn:=n56
 have hg:=g56
 unfold aeql
 simp only
 cases hu:prog.underlying 56 with
 |none=>rw[hu] at hn;simp at hn
 |some td=>
  cases td with
  |struct fs=>
   rw[hu] at hn
   simp only at hn ⊢
   rw[hg]
   simp only[xf2]
   generalize fs.toList=l at hn
   rcases l with _|⟨f1,_|⟨f2,_|⟨f3,_|⟨f4,_|⟨f5,r⟩⟩⟩⟩⟩
   ·simp at hn
   ·simp at hn
   ·simp at hn
   ·simp at hn
   ·simp only[List.map_cons,List.map_nil,List.cons.injEq,xfz,and_true] at hn
    obtain⟨⟨k0a,k0b,k0c,k0d⟩,⟨k1a,k1b,k1c,k1d⟩,⟨k2a,k2b,k2c,k2d⟩,⟨k3a,k3b,k3c,k3d⟩⟩:=hn
    simp only[zf4,k0a,k0b,k0c,k0d,k1a,k1b,k1c,k1d,k2a,k2b,k2c,k2d,k3a,k3b,k3c,k3d,xf2]
    have ha:tagg prog 3=some false:=by decide +kernel
    have hu3:prog.underlying 3=some (.int .i64):=by rfl
    simp[apart,ha,zix,hu3]
    cases a0==b0<;>cases a1==b1<;>cases a2==b2<;>cases a3==b3<;>rfl
   simp at hn
  |_=>rw[hu] at hn;simp at hn
attribute [local simp] xay eq56
theorem p77 (R:Reg)(t:Tu)(hs:1≤R.sc∧R.sc≤16)(hl:R.ps.length<4294967296):zao prog 77 [encR R,encT t] fun r=>r=.bool (zbk R t):=by
 unfold encR encT
 have hw:IntKind.i64.wrap (R.sc - 1)=R.sc - 1:=wrap64 (by omega) (by omega)
 refine .zag func77 rfl rfl ?_
 refine .sr ?_
 refine .sr ?_
 refine .seq ?_
 refine .zac [0,1,2,3,4,5,6,7,8,9,10,11] rfl zz0 ?_
 refine .rn [0,1] _ ?_
 refine .pc rfl rfl rfl rfl rfl call70 (p70 _ _ _) ?_
 refine .rn [3] _ ?_
 refine .split (t:=17) rfl (fun c17=>?_) (fun c17=>?_)
 ·first|cases c17|cases bnt c17|cases bnf c17|try rw[c17]
  try simp at c17
  refine .rn [4,5,6,7,8] _ ?_
  refine .pc rfl rfl rfl rfl rfl call70 (p70 _ _ _) ?_
  refine .rn [10,11] [] ?_
  refine .done (.seq (.sr ?_))
  refine .block (.seq (.sr ?_))
  refine .cs ?_ ?_<;>intro c27
  ·try simp at c27
   refine .skip ?_
   refine .cs ?_ ?_<;>intro c27
   ·try simp at c27
    refine .sr ?_
    refine .zac [0,1,2,3,4,5,6,7,8] rfl zz0 ?_
    refine .rn [0,1] _ ?_
    refine .split (t:=35) rfl (fun c35=>?_) (fun c35=>?_)
    ·first|cases c35|cases bnt c35|cases bnf c35|try rw[c35]
     try simp at c35
     refine .rn [2,3,4,5] _ ?_
     refine .pc rfl rfl rfl rfl rfl call99 (p99 R.ps t.p hl) ?_
     refine .rn [7,8] [] ?_
     refine .done (.seq ?_)
     refine .zac [0,1,2,3,4,5,6] rfl zz0 ?_
     refine .rn [0,1] _ ?_
     refine .split (t:=85) rfl (fun c85=>?_) (fun c85=>?_)
     ·first|cases c85|cases bnt c85|cases bnf c85|try rw[c85]
      try simp at c85
      refine .rn [2,3,4,5,6] [] ?_
      refine .done (.ret ?_)
      refine⟨_,_,zz2,zz2,?_⟩
      refine congrArg PV.bool ?_
      rw[Bool.eq_iff_iff]
      unfold zbk zbc
      simp_all<;>omega
     first|cases c85|cases bnt c85|cases bnf c85|try rw[c85]
     try simp at c85
     refine .rn [2,3,4,5,6] [] ?_
     refine .done (.ret ?_)
     refine⟨_,_,zz2,zz2,?_⟩
     refine congrArg PV.bool ?_
     rw[Bool.eq_iff_iff]
     unfold zbk zbc
     simp_all<;>omega
    first|cases c35|cases bnt c35|cases bnf c35|try rw[c35]
    try simp at c35
    refine .rn [2,3,4,5,6,7,8] [] ?_
    refine .done (.seq ?_)
    refine .zac [0,1,2,3,4,5,6] rfl zz0 ?_
    refine .rn [0,1,2,3,4,5,6] [] ?_
    refine .done (.ret ?_)
    refine⟨_,_,zz2,zz2,?_⟩
    refine congrArg PV.bool ?_
    rw[Bool.eq_iff_iff]
    unfold zbk zbc
    simp_all<;>omega
   try simp at c27
   refine .sr ?_
   refine .cs ?_ ?_<;>intro c42
   ·try simp at c42
   try simp at c42
   refine .sr ?_
   refine .cs ?_ ?_<;>intro c63
   ·try simp at c63
   try simp at c63
   refine .sr ?_
   refine .ret ?_
   refine⟨_,_,zz2,zz2,?_⟩
   refine congrArg PV.bool ?_
   rw[Bool.eq_iff_iff]
   unfold zbk zbc
   simp_all<;>omega
  try simp at c27
  refine .sr ?_
  refine .cs ?_ ?_<;>intro c27
  ·try simp at c27
   refine .skip ?_
   refine .cs ?_ ?_<;>intro c27
   ·try simp at c27
    refine .sr ?_
    refine .zac [0,1,2,3,4,5,6,7,8] rfl zz0 ?_
    refine .rn [0,1] _ ?_
    refine .split (t:=35) rfl (fun c35=>?_) (fun c35=>?_)
    ·first|cases c35|cases bnt c35|cases bnf c35|try rw[c35]
     try simp at c35
     refine .rn [2,3,4,5] _ ?_
     refine .pc rfl rfl rfl rfl rfl call99 (p99 R.ps t.p hl) ?_
     refine .rn [7,8] [] ?_
     refine .done (.seq ?_)
     refine .zac [0,1,2,3,4,5,6] rfl zz0 ?_
     refine .rn [0,1] _ ?_
     refine .split (t:=85) rfl (fun c85=>?_) (fun c85=>?_)
     ·first|cases c85|cases bnt c85|cases bnf c85|try rw[c85]
      try simp at c85
      refine .rn [2,3,4,5,6] [] ?_
      refine .done (.ret ?_)
      refine⟨_,_,zz2,zz2,?_⟩
      refine congrArg PV.bool ?_
      rw[Bool.eq_iff_iff]
      unfold zbk zbc
      simp_all<;>omega
     first|cases c85|cases bnt c85|cases bnf c85|try rw[c85]
     try simp at c85
     refine .rn [2,3,4,5,6] [] ?_
     refine .done (.ret ?_)
     refine⟨_,_,zz2,zz2,?_⟩
     refine congrArg PV.bool ?_
     rw[Bool.eq_iff_iff]
     unfold zbk zbc
     simp_all<;>omega
    first|cases c35|cases bnt c35|cases bnf c35|try rw[c35]
    try simp at c35
    refine .rn [2,3,4,5,6,7,8] [] ?_
    refine .done (.seq ?_)
    refine .zac [0,1,2,3,4,5,6] rfl zz0 ?_
    refine .rn [0,1,2,3,4,5,6] [] ?_
    refine .done (.ret ?_)
    refine⟨_,_,zz2,zz2,?_⟩
    refine congrArg PV.bool ?_
    rw[Bool.eq_iff_iff]
    unfold zbk zbc
    simp_all<;>omega
   try simp at c27
   refine .sr ?_
   refine .cs ?_ ?_<;>intro c42
   ·try simp at c42
   try simp at c42
   refine .sr ?_
   refine .cs ?_ ?_<;>intro c63
   ·try simp at c63
   try simp at c63
   refine .sr ?_
   refine .ret ?_
   refine⟨_,_,zz2,zz2,?_⟩
   refine congrArg PV.bool ?_
   rw[Bool.eq_iff_iff]
   unfold zbk zbc
   simp_all<;>omega
  try simp at c27
  refine .rn ?_
  refine .cs ?_ ?_<;>intro c27
  ·try simp at c27
   refine .sr ?_
   refine .zac [0,1,2,3,4,5,6,7,8] rfl zz0 ?_
   refine .rn [0,1] _ ?_
   refine .split (t:=35) rfl (fun c35=>?_) (fun c35=>?_)
   ·first|cases c35|cases bnt c35|cases bnf c35|try rw[c35]
    try simp at c35
    refine .rn [2,3,4,5] _ ?_
    refine .pc rfl rfl rfl rfl rfl call99 (p99 R.ps t.p hl) ?_
    refine .rn [7,8] [] ?_
    refine .done (.seq ?_)
    refine .zac [0,1,2,3,4,5,6] rfl zz0 ?_
    refine .rn [0,1] _ ?_
    refine .split (t:=85) rfl (fun c85=>?_) (fun c85=>?_)
    ·first|cases c85|cases bnt c85|cases bnf c85|try rw[c85]
     try simp at c85
     refine .rn [2,3,4,5,6] [] ?_
     refine .done (.ret ?_)
     refine⟨_,_,zz2,zz2,?_⟩
     refine congrArg PV.bool ?_
     rw[Bool.eq_iff_iff]
     unfold zbk zbc
     simp_all<;>omega
    first|cases c85|cases bnt c85|cases bnf c85|try rw[c85]
    try simp at c85
    refine .rn [2,3,4,5,6] [] ?_
    refine .done (.ret ?_)
    refine⟨_,_,zz2,zz2,?_⟩
    refine congrArg PV.bool ?_
    rw[Bool.eq_iff_iff]
    unfold zbk zbc
    simp_all<;>omega
   first|cases c35|cases bnt c35|cases bnf c35|try rw[c35]
   try simp at c35
   refine .rn [2,3,4,5,6,7,8] [] ?_
   refine .done (.seq ?_)
   refine .zac [0,1,2,3,4,5,6] rfl zz0 ?_
   refine .rn [0,1,2,3,4,5,6] [] ?_
   refine .done (.ret ?_)
   refine⟨_,_,zz2,zz2,?_⟩
   refine congrArg PV.bool ?_
   rw[Bool.eq_iff_iff]
   unfold zbk zbc
   simp_all<;>omega
  try simp at c27
  refine .sr ?_
  refine .cs ?_ ?_<;>intro c42
  ·try simp at c42
   refine .seq ?_
   refine .drawn (ms:=[0,1,0,4,3,19,63,127]) (W:=[5,7]) (items:=[.op 0,.op 1,.op 2,.op 3,.op 4,.op 5,.ck 3,.op 6,.op 7]) rfl zz0 zz0 zz0 ?_
   iterate 5 refine .rx ?_
   refine .wr rfl rfl (by decide) (.stor (todo':=[3]) rfl rfl rfl rfl zz1 rfl (⟨⟨by decide +kernel,_,_,rfl,zz1⟩,trivial⟩) ?_)
   refine .ck rfl zz0 ?_
   refine .rx ?_
   refine .wv ?_
   refine .done ?_
   refine .zac [0,1,2,3,4,5,6,7,8,9,10,11,12,13] rfl zz0 ?_
   refine .rn [0,1] _ ?_
   refine .split (t:=51) rfl (fun c51=>?_) (fun c51=>?_)
   ·first|cases c51|cases bnt c51|cases bnf c51|try rw[c51]
    try simp at c51
    refine .rn [2,3,4,5] _ ?_
    refine .pc rfl rfl rfl rfl rfl call99 (p99 R.ps t.p hl) ?_
    refine .rn [7,8] _ ?_
    refine .split (t:=58) rfl (fun c58=>?_) (fun c58=>?_)
    ·first|cases c58|cases bnt c58|cases bnf c58|try rw[c58]
     try simp at c58
     refine .rn [9,10] _ ?_
     refine .pc rfl rfl rfl rfl rfl call70 (p70 _ _ _) ?_
     refine .rn [12,13] [] ?_
     refine .done (.seq ?_)
     refine .zac [0,1,2,3,4,5,6] rfl zz0 ?_
     refine .rn [0,1] _ ?_
     refine .split (t:=85) rfl (fun c85=>?_) (fun c85=>?_)
     ·first|cases c85|cases bnt c85|cases bnf c85|try rw[c85]
      try simp at c85
      refine .rn [2,3,4,5,6] [] ?_
      refine .done (.ret ?_)
      refine⟨_,_,zz2,zz2,?_⟩
      refine congrArg PV.bool ?_
      rw[Bool.eq_iff_iff]
      unfold zbk zbc
      simp_all<;>omega
     first|cases c85|cases bnt c85|cases bnf c85|try rw[c85]
     try simp at c85
     refine .rn [2,3,4,5,6] [] ?_
     refine .done (.ret ?_)
     refine⟨_,_,zz2,zz2,?_⟩
     refine congrArg PV.bool ?_
     rw[Bool.eq_iff_iff]
     unfold zbk zbc
     simp_all<;>omega
    first|cases c58|cases bnt c58|cases bnf c58|try rw[c58]
    try simp at c58
    refine .rn [9,10,11,12,13] [] ?_
    refine .done (.seq ?_)
    refine .zac [0,1,2,3,4,5,6] rfl zz0 ?_
    refine .rn [0,1,2,3,4,5,6] [] ?_
    refine .done (.ret ?_)
    refine⟨_,_,zz2,zz2,?_⟩
    refine congrArg PV.bool ?_
    rw[Bool.eq_iff_iff]
    unfold zbk zbc
    simp_all<;>omega
   first|cases c51|cases bnt c51|cases bnf c51|try rw[c51]
   try simp at c51
   refine .rn [2,3,4,5,6,7,8,9,10,11,12,13] [] ?_
   refine .done (.seq ?_)
   refine .zac [0,1,2,3,4,5,6] rfl zz0 ?_
   refine .rn [0,1,2,3,4,5,6] [] ?_
   refine .done (.ret ?_)
   refine⟨_,_,zz2,zz2,?_⟩
   refine congrArg PV.bool ?_
   rw[Bool.eq_iff_iff]
   unfold zbk zbc
   simp_all<;>omega
  try simp at c42
  refine .sr ?_
  refine .cs ?_ ?_<;>intro c63
  ·try simp at c63
   refine .sr ?_
   refine .zac [0,1,2,3,4,5,6,7,8,9,10,11,12,13,14,15,16] rfl zz0 ?_
   refine .rn [0,1] _ ?_
   refine .split (t:=69) rfl (fun c69=>?_) (fun c69=>?_)
   ·first|cases c69|cases bnt c69|cases bnf c69|try rw[c69]
    try simp at c69
    refine .rn [2,3,4,5,6] _ ?_
    refine .pc rfl rfl rfl rfl rfl call70 (p70 _ _ _) ?_
    refine .rn [8,9] _ ?_
    refine .split (t:=77) rfl (fun c77=>?_) (fun c77=>?_)
    ·first|cases c77|cases bnt c77|cases bnf c77|try rw[c77]
     try simp at c77
     refine .rn [10,11,12,13,14,15,16] [] ?_
     refine .done (.seq ?_)
     refine .zac [0,1,2,3,4,5,6] rfl zz0 ?_
     refine .rn [0,1] _ ?_
     refine .split (t:=85) rfl (fun c85=>?_) (fun c85=>?_)
     ·first|cases c85|cases bnt c85|cases bnf c85|try rw[c85]
      try simp at c85
      refine .rn [2,3,4,5,6] [] ?_
      refine .done (.ret ?_)
      refine⟨_,_,zz2,zz2,?_⟩
      refine congrArg PV.bool ?_
      rw[Bool.eq_iff_iff]
      unfold zbk zbc
      simp_all<;>omega
     first|cases c85|cases bnt c85|cases bnf c85|try rw[c85]
     try simp at c85
     refine .rn [2,3,4,5,6] [] ?_
     refine .done (.ret ?_)
     refine⟨_,_,zz2,zz2,?_⟩
     refine congrArg PV.bool ?_
     rw[Bool.eq_iff_iff]
     unfold zbk zbc
     simp_all<;>omega
    first|cases c77|cases bnt c77|cases bnf c77|try rw[c77]
    try simp at c77
    refine .rn [10,11,12,13,14,15,16] [] ?_
    refine .done (.seq ?_)
    refine .zac [0,1,2,3,4,5,6] rfl zz0 ?_
    refine .rn [0,1,2,3,4,5,6] [] ?_
    refine .done (.ret ?_)
    refine⟨_,_,zz2,zz2,?_⟩
    refine congrArg PV.bool ?_
    rw[Bool.eq_iff_iff]
    unfold zbk zbc
    simp_all<;>omega
   first|cases c69|cases bnt c69|cases bnf c69|try rw[c69]
   try simp at c69
   refine .rn [2,3,4,5,6,7,8,9,10,11,12,13,14,15,16] [] ?_
   refine .done (.seq ?_)
   refine .zac [0,1,2,3,4,5,6] rfl zz0 ?_
   refine .rn [0,1,2,3,4,5,6] [] ?_
   refine .done (.ret ?_)
   refine⟨_,_,zz2,zz2,?_⟩
   refine congrArg PV.bool ?_
   rw[Bool.eq_iff_iff]
   unfold zbk zbc
   simp_all<;>omega
  try simp at c63
  refine .sr ?_
  refine .ret ?_
  refine⟨_,_,zz2,zz2,?_⟩
  refine congrArg PV.bool ?_
  rw[Bool.eq_iff_iff]
  unfold zbk zbc
  simp_all<;>omega
 first|cases c17|cases bnt c17|cases bnf c17|try rw[c17]
 try simp at c17
 refine .rn [4,5,6,7,8,9,10,11] [] ?_
 refine .done (.seq (.sr ?_))
 refine .block (.seq (.sr ?_))
 refine .cs ?_ ?_<;>intro c27
 ·try simp at c27
  refine .skip ?_
  refine .cs ?_ ?_<;>intro c27
  ·try simp at c27
   refine .sr ?_
   refine .zac [0,1,2,3,4,5,6,7,8] rfl zz0 ?_
   refine .rn [0,1,2,3,4,5,6,7,8] [] ?_
   refine .done (.seq ?_)
   refine .zac [0,1,2,3,4,5,6] rfl zz0 ?_
   refine .rn [0,1,2,3,4,5,6] [] ?_
   refine .done (.ret ?_)
   refine⟨_,_,zz2,zz2,?_⟩
   refine congrArg PV.bool ?_
   rw[Bool.eq_iff_iff]
   unfold zbk zbc
   simp_all<;>omega
  try simp at c27
  refine .sr ?_
  refine .cs ?_ ?_<;>intro c42
  ·try simp at c42
  try simp at c42
  refine .sr ?_
  refine .cs ?_ ?_<;>intro c63
  ·try simp at c63
  try simp at c63
  refine .sr ?_
  refine .ret ?_
  refine⟨_,_,zz2,zz2,?_⟩
  refine congrArg PV.bool ?_
  rw[Bool.eq_iff_iff]
  unfold zbk zbc
  simp_all<;>omega
 try simp at c27
 refine .sr ?_
 refine .cs ?_ ?_<;>intro c27
 ·try simp at c27
  refine .skip ?_
  refine .cs ?_ ?_<;>intro c27
  ·try simp at c27
   refine .sr ?_
   refine .zac [0,1,2,3,4,5,6,7,8] rfl zz0 ?_
   refine .rn [0,1,2,3,4,5,6,7,8] [] ?_
   refine .done (.seq ?_)
   refine .zac [0,1,2,3,4,5,6] rfl zz0 ?_
   refine .rn [0,1,2,3,4,5,6] [] ?_
   refine .done (.ret ?_)
   refine⟨_,_,zz2,zz2,?_⟩
   refine congrArg PV.bool ?_
   rw[Bool.eq_iff_iff]
   unfold zbk zbc
   simp_all<;>omega
  try simp at c27
  refine .sr ?_
  refine .cs ?_ ?_<;>intro c42
  ·try simp at c42
  try simp at c42
  refine .sr ?_
  refine .cs ?_ ?_<;>intro c63
  ·try simp at c63
  try simp at c63
  refine .sr ?_
  refine .ret ?_
  refine⟨_,_,zz2,zz2,?_⟩
  refine congrArg PV.bool ?_
  rw[Bool.eq_iff_iff]
  unfold zbk zbc
  simp_all<;>omega
 try simp at c27
 refine .rn ?_
 refine .cs ?_ ?_<;>intro c27
 ·try simp at c27
  refine .sr ?_
  refine .zac [0,1,2,3,4,5,6,7,8] rfl zz0 ?_
  refine .rn [0,1,2,3,4,5,6,7,8] [] ?_
  refine .done (.seq ?_)
  refine .zac [0,1,2,3,4,5,6] rfl zz0 ?_
  refine .rn [0,1,2,3,4,5,6] [] ?_
  refine .done (.ret ?_)
  refine⟨_,_,zz2,zz2,?_⟩
  refine congrArg PV.bool ?_
  rw[Bool.eq_iff_iff]
  unfold zbk zbc
  simp_all<;>omega
 try simp at c27
 refine .sr ?_
 refine .cs ?_ ?_<;>intro c42
 ·try simp at c42
  refine .seq ?_
  refine .drawn (ms:=[0,1,0,4,3,19,63,127]) (W:=[5,7]) (items:=[.op 0,.op 1,.op 2,.op 3,.op 4,.op 5,.ck 3,.op 6,.op 7]) rfl zz0 zz0 zz0 ?_
  iterate 5 refine .rx ?_
  refine .wr rfl rfl (by decide) (.stor (todo':=[3]) rfl rfl rfl rfl zz1 rfl (⟨⟨by decide +kernel,_,_,rfl,zz1⟩,trivial⟩) ?_)
  refine .ck rfl zz0 ?_
  refine .rx ?_
  refine .wv ?_
  refine .done ?_
  refine .zac [0,1,2,3,4,5,6,7,8,9,10,11,12,13] rfl zz0 ?_
  refine .rn [0,1,2,3,4,5,6,7,8,9,10,11,12,13] [] ?_
  refine .done (.seq ?_)
  refine .zac [0,1,2,3,4,5,6] rfl zz0 ?_
  refine .rn [0,1,2,3,4,5,6] [] ?_
  refine .done (.ret ?_)
  refine⟨_,_,zz2,zz2,?_⟩
  refine congrArg PV.bool ?_
  rw[Bool.eq_iff_iff]
  unfold zbk zbc
  simp_all<;>omega
 try simp at c42
 refine .sr ?_
 refine .cs ?_ ?_<;>intro c63
 ·try simp at c63
  refine .sr ?_
  refine .zac [0,1,2,3,4,5,6,7,8,9,10,11,12,13,14,15,16] rfl zz0 ?_
  refine .rn [0,1,2,3,4,5,6,7,8,9,10,11,12,13,14,15,16] [] ?_
  refine .done (.seq ?_)
  refine .zac [0,1,2,3,4,5,6] rfl zz0 ?_
  refine .rn [0,1,2,3,4,5,6] [] ?_
  refine .done (.ret ?_)
  refine⟨_,_,zz2,zz2,?_⟩
  refine congrArg PV.bool ?_
  rw[Bool.eq_iff_iff]
  unfold zbk zbc
  simp_all<;>omega
 try simp at c63
 refine .sr ?_
 refine .ret ?_
 refine⟨_,_,zz2,zz2,?_⟩
 refine congrArg PV.bool ?_
 rw[Bool.eq_iff_iff]
 unfold zbk zbc
 simp_all<;>omega
end Go.Am.Hi
end
section
namespace Go.Am.Hi
open Go Go.Am Go.Proofs Tryz
theorem zxe {g:Fz}{σ:Sg}{n:Nat}{es:List (Int×He)}{v':Value}(hv:VR g σ n (.func 159 [] [.vp [.vmap (mpG zah es)]]) v') :
  ∃b off m s cs es',v'=.func (.func 159) #[] #[.pointer (some ⟨b,off,none⟩)]∧g b=some (.cells s cs)∧cs[off]?=some (.map (some m))∧g m=some (.map es')∧es'.map (·.1)=(es.map (·.1)).map (Value.int .i64)∧es'.length=es.length:=by
 have hf:=hv.isF (by simp[PV.isF,PV.allF])
 cases hf with
 |func _ _ _ xs' ys' hx hy rx ry=>
  have hx0:xs'=#[]:=Array.eq_empty_of_size_eq_zero (by simpa using hx.symm)
  subst hx0
  obtain⟨pv,hpv⟩:∃pv,ys'[0]?=some pv:=⟨ys'[0]'(by rw[← hy];simp),by simp⟩
  have hy1:ys'=#[pv]:=by
   apply Array.ext'
   have hs:ys'.toList.length=1:=by simpa using hy.symm
   obtain⟨q,hq⟩:=List.length_eq_one_iff.1 hs
   have:ys'.toList[0]?=some pv:=by simpa using hpv
   rw[hq] at this ⊢
   simpa using this
  have h1:=ry 0 _ pv rfl hpv
  subst hy1
  cases h1 with
  |vp _ o off s cs' hg hlen r=>
   simp only[List.length_cons,List.length_nil] at hlen
   have hlt:off<cs'.length:=by omega
   have h2:=r 0 _ cs'[off] rfl (by simp[hlt])
   generalize hc:cs'[off]=c at h2
   cases h2 with
   |vmap _ m es' hg' hl rk rv=>
    refine⟨o,off,m,s,cs',es',rfl,hg,by rw[List.getElem?_eq_getElem hlt,hc],hg',?_,by rw[← hl];simp[mpG]⟩
    apply List.ext_getElem?
    intro j
    have hl':es.length=es'.length:=by rw[← hl];simp[mpG]
    rcases Nat.lt_or_ge j es.length with hj|hj
    ·have h3:=rk j (PV.int .i64 es[j].1,zah es[j].2) es'[j] (by simp[mpG,hj]) (by simp[hl'▸hj])
     simp only at h3
     rw[List.getElem?_map,List.getElem?_eq_getElem (hl'▸hj),List.getElem?_map,List.getElem?_map,List.getElem?_eq_getElem hj]
     simp only[Option.map_some,xfy]
     generalize hk:(es'[j]).1=kk at h3
     cases h3;rfl
    rw[List.getElem?_eq_none (by simpa using hl'▸hj),List.getElem?_eq_none (by simpa using hj)]
def zeo (es:List (Int×He)):List Int:=(es.map (·.1)).mergeSort fun x y=>decide (x≤y)
theorem zge (es:List (Int×He)):(zeo es).length=es.length:=by unfold zeo;rw[List.length_mergeSort,List.length_map]
theorem p73m (es:List (Int×He))(hlen:es.length<1000000)(hnd:(es.map (·.1)).Nodup)(hne:0<es.length) :
  zar prog 73 [.func 159 [] [.vp [.vmap (mpG zah es)]]] zab.empty fun v vh'=>∃i nl,v=.grow i es.length nl∧vh'.get i=some (.grow 1 ((zeo es).map (.int .i64))):=by
 intro lo g σ h args' ha s
 obtain⟨v',r',rfl,hv,hr⟩:=ha.zas
 have:=hr.zbr;subst this
 obtain⟨b,off,m,s0,cs,es',rfl,h1,h2,h3,h4,h5⟩:=zxe hv
 refine zbx.zxb s.lole ((ztw (lo:=h.next) (s.fz _ _ h1) h2 (s.fz _ _ h3) (zaa.zal (s.fz _ _ h3)) (Nat.le_refl _) h4 (by omega) hnd (by intro hh;simp at hh;subst hh;simp at hne)).mono ?_)
 rintro r h' ⟨o,k1,rfl,k3⟩
 rw[List.length_map]
 refine⟨o,es.length,inex,1,_,rfl,k1,by decide,k3,fun v hv=>?_,?_⟩
 ·obtain⟨n,_,rfl⟩:=List.mem_map.1 hv;rfl
 have hx:VRO g (σ.put 0 (h.next,0,inex)) 1 (h.alloc (.cells 1 ((zeo es).map (.int .i64)))) 0 (.grow 1 ((zeo es).map (PV.int .i64))):=by
  refine⟨by decide,?_,?_,.inr ⟨1,(zeo es).map (.int .i64),?_,?_,?_,.inl ⟨?_,rfl⟩⟩⟩
  ·intro e he
   obtain⟨n,_,rfl⟩:=List.mem_map.1 he;rfl
  ·rw[List.length_map,zge];exact Nat.lt_trans hlen (by decide)
  ·simp[Sg.put,zaa.zaj]
  ·simp[Sg.put]
  ·rw[zeh];exact PRs.zqe _
  simp[Sg.put]
 obtain⟨s1,f1⟩:=s.alloc (x:=.grow 1 ((zeo es).map (PV.int .i64))) (.cells 1 ((zeo es).map (.int .i64))) inex hx
 refine⟨g,σ.put 0 (h.next,0,inex),.grow 0 es.length false,zab.empty.alloc (.grow 1 ((zeo es).map (PV.int .i64))),.grow 0 es.length h.next 0 inex false Nat.zero_lt_one (by simp[Sg.put]) hne,s1,Fz.le_refl g,fun i hi=>absurd hi (Nat.not_lt_zero i),f1,Nat.zero_le _,GOwn.refl _ _ _ _,0,false,rfl,rfl⟩
theorem zvi {P:Program}{lo:Nat}{h:zaa}{f:FuncId}{args:List Value}{R:Value→zaa→Prop}(hc:zbx P lo f args h R):zbx P lo f args h fun r h'=>R r h'∧h.next≤h'.next:=
 fun F hF hro n μ w cargs ha r=>(hc F hF hro n μ w cargs ha r).mono fun _ _ ⟨r',v,h',μ',h1,h2,h3,h4,h5⟩=>⟨r',v,h',μ',h1,h2,h3,h4,h5,h4.next⟩
theorem z8w:zao prog 134 [.func 159 [] [.vp [.vmap []]]] fun r=>r=.sl0:=by
 intro lo g σ h args' ha s
 obtain⟨v',r',rfl,hv,hr⟩:=ha.zas
 have:=hr.zbr;subst this
 obtain⟨b,off,m,s0,cs,es',rfl,h1,h2,h3,h4,h5⟩:=zxe (es:=[]) hv
 have he:es'=[]:=List.eq_nil_of_length_eq_zero h5
 subst he
 have hc:=(zot (lo:=h.next) (s.fz _ _ h1) h2 (s.fz _ _ h3) (zaa.zal (s.fz _ _ h3)) (Nat.le_refl _) (kl:=[]) rfl (by simp) (by simp))
 refine(zbx.raise h.next s.lole (Nat.le_refl _) (zvi hc)).mono ?_
 rintro r h' ⟨⟨⟨vis,hp,hR⟩,hn⟩,hlow⟩
 have hvis:vis=[]:=List.Perm.eq_nil hp
 rcases hR with⟨_,rfl⟩|⟨hne,_⟩
 ·refine⟨g,σ,.sl0,zab.empty,.fr _ _ .sl0,VS.none (fun o x hx=>by rw[hlow o (zaa.zal (s.fz o x hx))];exact s.fz o x hx) (Nat.le_trans s.lole hn) σ,Fz.le_refl g,fun _ _=>rfl,⟨hn,fun o ho _=>hlow o ho,fun i x hx _ _=>by simp[zab.get,zab.empty,zbl] at hx⟩,Nat.le_refl _,GOwn.refl _ _ _ _,rfl,rfl⟩
 exact absurd hvis hne
end Go.Am.Hi
end
section
namespace Go.Am.Hi
open Go Go.Am Go.Proofs Tryz
attribute [local simp] vrun zbg zc6 vop vopA zc7 zab.back hidI hidF zgd bm Nat.testBit_eq_decide_div_mod_eq za1 zca zeg vO zcv vlen zdw zcz zjh zbo zbb zfu vbox zcw ziq zet zh4 zfr zbz zfs zb0 zft zcu zfx zdx zc8 vbnd zfa vidx zd1 zh1 zbt zd0 zfv zhu zjr zj2 vbin vsc vsc1 vscs vscl zdh aint zfj zhf zcd zew zjf pvcV pvc pvcs tput tget zc5 zab.get zab.alloc zab.put zab.drop zab.empty zbl vput zhp zbj zc4 zgg chunk List.range List.range.loop zbd zef zbn frz frzL PV.isF PV.allF PV.scal PV.allS retP subT zil PV.one PV.ids PV.idsL ze8 beq_eq zdn zed
attribute [local simp] zax zat zaz
def D0:Dk:=⟨0,[],[],[]⟩
def zjv (n:Int):Bool:=!(decide (1≤n)&&decide (n≤1099511627776))
def regE (R:Reg):Int:=if 24<R.ps.length∨120<R.ts.length then 2 else if R.ps=[]∨R.ps.any zjv=true∨¬(1≤R.sc∧R.sc≤16) then 1 else if R.ps.Nodup then 0 else 6
def endI (R:Reg):Int:=idxF (fun t=>!zbk R t) 0 R.ts
def zk5 (R:Reg):List Tu:=if 0≤endI R then R.ts.take (endI R).toNat else R.ts
def chkR (R:Reg):Int×Int:=
 if regE R=0 then
  if 0≤(zc9 D0 (zk5 R) 0).2 then (4,(zc9 D0 (zk5 R) 0).2)
  else if 0≤endI R then (7,endI R) else (0,-1)
 else (regE R,-1)
@[simp] theorem z5b (l:List Tu):zf0 6 (l.map encT)=true:=by
 induction l with
 |nil=>rfl
 |cons a r ih=>simp[zf0,ih]
theorem zo2 {α:Type}(p:α→Bool):∀(l:List α) (k i:Nat),idxF p k l=((k+i:Nat):Int)→(∀a∈l.take i,p a=false)∧i<l.length
 |[],k,i,h=>by simp only[idxF] at h;omega
 |a::r,k,i,h=>by
  simp only[idxF] at h
  by_cases hp:p a=true
  ·rw[if_pos hp] at h
   have:i=0:=by omega
   subst this
   exact⟨fun b hb=>by simp at hb,by simp⟩
  rw[if_neg hp] at h
  cases i with
  |zero=>
   exfalso
   rcases Nat.lt_or_ge (idxF p (k+1) r).toNat 0 with h1|h1
   ·omega
   by_cases hn:idxF p (k+1) r = -1
   ·omega
   obtain⟨i,h1,h2,_⟩:=zi2 p r (k+1) hn
   omega
  |succ i=>
   obtain⟨h1,h2⟩:=zo2 p r (k+1) i (by rw[h];congr 1;omega)
   refine⟨fun b hb=>?_,by simp;omega⟩
   simp only[List.take_succ_cons,List.mem_cons] at hb
   rcases hb with rfl|hb
   ·simpa using hp
   exact h1 b hb
theorem zmp {α:Type}(p:α→Bool):∀(l:List α) (k:Nat),idxF p k l = -1→∀a∈l,p a=false
 |[],_,_=>by simp
 |a::r,k,h=>by
  simp only[idxF] at h
  by_cases hp:p a=true
  ·rw[if_pos hp] at h;omega
  rw[if_neg hp] at h
  intro b hb
  rcases List.mem_cons.1 hb with rfl|hb
  ·simpa using hp
  exact zmp p r (k+1) h b hb
theorem zg9 {α:Type}(p:α→Bool)(l:List α):idxF p 0 l = -1∨∃i:Nat,i<l.length∧idxF p 0 l=i∧p <$> l[i]?=some true:=by
 by_cases h:idxF p 0 l = -1
 ·exact .inl h
 obtain⟨i,h1,h2,h3,_⟩:=zi2 p l 0 h
 exact .inr ⟨i,h1,by rw[h2];simp,by simp[h1,h3]⟩
theorem zq7 (R:Reg){i:Nat}(h:idxF (fun t=>!zbk R t) 0 R.ts=i):zk5 R=R.ts.take i∧endI R=i:=by
 unfold zk5 endI
 rw[h];simp
theorem zqh (R:Reg)(h:¬0≤idxF (fun t=>!zbk R t) 0 R.ts):zk5 R=R.ts∧¬0≤endI R:=by
 unfold zk5 endI
 rw[if_neg h];exact⟨rfl,h⟩
theorem zrb (R:Reg):∀t∈zk5 R,znk t:=by
 intro t ht
 rcases zg9 (fun t=>!zbk R t) R.ts with h|⟨i,_,h,_⟩
 ·rw[(zqh R (by rw[h];decide)).1] at ht
  have:=zmp _ _ _ h t ht
  have:zbk R t=true:=by simpa using this
  exact(of_decide_eq_true this).form
 rw[(zq7 R h).1] at ht
 have:=(zo2 _ _ 0 i (by rw[h];simp)).1 t ht
 have:zbk R t=true:=by simpa using this
 exact(of_decide_eq_true this).form
theorem zui (R:Reg):(zk5 R).length≤R.ts.length:=by
 unfold zk5
 split
 ·rw[List.length_take];omega
 exact Nat.le_refl _
theorem p79v (l:List PV)(ts:List Tu)(h:l=ts.map encT)(hn:ts.length<2147483648)(hf:∀t∈ts,znk t):zar prog 79 [.ptr 3 0,.vec l] (zvp 4 D0) fun v vh'=>v=.int .i64 (zc9 D0 ts 0).2∧zlm vh' (zc9 D0 ts 0).1:=by
 subst h;exact p79 D0 ts 0 Inv.start (by omega) hf
theorem p76 (R:Reg)(t:Tu)(hs:1≤R.sc∧R.sc≤16)(hl:R.ps.length<4294967296):zao prog 76 [encT t,.vp [ints R.ps,.int .i64 R.sc,turns R.ts]] fun r=>r=.bool (!zbk R t):=by
 unfold encT
 refine .zag func76 rfl rfl ?_
 refine .sr ?_
 refine .seq ?_
 refine .zac [0,1,2,3,4] rfl zz0 ?_
 refine .rn [0,1] _ ?_
 refine .pc rfl rfl rfl rfl rfl call77 (p77 R t hs hl) ?_
 refine .rn [3,4] [] ?_
 refine .done (.ret ?_)
 refine⟨_,_,zz2,zz2,?_⟩
 first|rfl|(simp[*];done)|(simp_all;done)
theorem p168 (t:Tu)(day:Int):zao prog 168 [encT t,.vp [.int .i64 day]] fun r=>r=.bool (decide (day<t.d)):=by
 unfold encT
 refine .zag func168 rfl rfl ?_
 refine .sr ?_
 refine .sr ?_
 refine .ret ?_
 refine⟨_,_,zz2,zz2,?_⟩
 first|rfl|(simp[*];done)|(simp_all;done)
theorem p78  : zar prog 78 [] zab.empty fun v vh'=>v=.ptr 3 0∧vh'=zvp 4 D0:=by
 refine .zag func78 rfl rfl ?_
 refine .sr ?_
 refine .sr ?_
 refine .ret ?_
 exact⟨_,zz2,rfl,rfl⟩
theorem p16 (R:Reg)(hl1:R.ps.length<4294967296)(hl2:R.ts.length<4294967296):zao prog 16 [encR R] fun r=>r=.tup [.int .i64 (chkR R).1,.int .i64 (chkR R).2]:=by
 unfold encR
 refine .zag func16 rfl rfl ?_
 refine .sr ?_
 refine .seq (.seq ?_)
 refine .zac [0,1,2,3,4,5,6,7,8,9] rfl zz0 ?_
 refine .rn [0,1,2,3,4] _ ?_
 refine .split (t:=12) rfl (fun c12=>?_) (fun c12=>?_)
 ·first|cases c12|cases bnt c12|cases bnf c12|try rw[c12]
  try simp at c12
  refine .rn [5,6,7,8,9] [] ?_
  refine .done (.zgb rfl (.sr ?_))
  refine .ret ?_
  refine⟨_,_,zz2,zz2,?_⟩
  have:regE R=2:=by unfold regE;rw[if_pos (by omega)]
  simp[chkR,this]
 first|cases c12|cases bnt c12|cases bnf c12|try rw[c12]
 try simp at c12
 refine .rn [5,6,7,8,9] [] ?_
 refine .done ?_
 refine .cs ?_ ?_<;>intro c17
 ·try simp at c17
  refine .sr ?_
  refine .ret ?_
  refine⟨_,_,zz2,zz2,?_⟩
  have:regE R=2:=by unfold regE;rw[if_pos (by omega)]
  simp[chkR,this]
 try simp at c17
 refine .skip (.sr ?_)
 refine .seq (.seq ?_)
 refine .zac [0,1,2,3,4,5,6,7,8,9,10,11,12,13,14,15] rfl zz0 ?_
 refine .rn [0,1,2,3,4] _ ?_
 refine .split (t:=22) rfl (fun c22=>?_) (fun c22=>?_)
 ·first|cases c22|cases bnt c22|cases bnf c22|try rw[c22]
  try simp at c22
  refine .rn [5,6,7,8,9,10,11,12,13,14,15] [] ?_
  refine .done (.zgb rfl (.sr ?_))
  refine .ret ?_
  refine⟨_,_,zz2,zz2,?_⟩
  have:regE R=1:=by unfold regE;rw[if_neg (by simp_all;omega),if_pos (by simp_all)]
  simp[chkR,this]
 first|cases c22|cases bnt c22|cases bnf c22|try rw[c22]
 try simp at c22
 refine .rn [5,6,7] _ ?_
 refine .step rfl rfl (.borrow rfl rfl rfl call71 (by decide) (by first|(simp<;>rfl)|(simp[*]<;>rfl)|(simp[*];done)) (p71 R.ps zjv 69 [] [] (by omega) rfl rfl call69 (fun a _=>p69 a)) (by rintro _ rfl<;>first|(simp;done)|rfl) ?_)
 rintro _ rfl
 refine .rn [9,10] _ ?_
 refine .split (t:=28) rfl (fun c28=>?_) (fun c28=>?_)
 ·first|cases c28|cases bnt c28|cases bnf c28|try rw[c28]
  try simp at c28
  refine .rn [11,12,13,14,15] [] ?_
  refine .done (.zgb rfl (.sr ?_))
  refine .ret ?_
  refine⟨_,_,zz2,zz2,?_⟩
  have:regE R=1:=by unfold regE;rw[if_neg (by omega),if_pos (by simp_all)]
  simp[chkR,this]
 first|cases c28|cases bnt c28|cases bnf c28|try rw[c28]
 try simp at c28
 refine .rn [11,12] _ ?_
 refine .pc rfl rfl rfl rfl rfl call70 (p70 _ _ _) ?_
 refine .rn [14,15] [] ?_
 refine .done ?_
 refine .cs ?_ ?_<;>intro c33
 ·try simp at c33
  refine .sr ?_
  refine .ret ?_
  refine⟨_,_,zz2,zz2,?_⟩
  have:regE R=1:=by unfold regE;rw[if_neg (by omega),if_pos (.inr (.inr (by omega)))]
  simp[chkR,this]
 try simp at c33
 have hz:0<R.ps.length:=List.length_pos_iff.2 (by intro hh;simp_all)
 refine .skip (.seq (.seq ?_))
 have hnb:¬(R.ps=[]∨R.ps.any zjv=true∨¬(1≤R.sc∧R.sc≤16)):=by
  rintro (h|h|h)
  ·exact c22 h
  ·rw[List.any_eq_true] at h;obtain⟨x,h1,h2⟩:=h;rw[c28 x h1] at h2;cases h2
  exact h c33
 refine .rec (vts2:=[(1,.vp [ints R.ps,.int .i64 R.sc,turns R.ts])]) (vh2:=⟨0,[]⟩) (.mk [0] [] zz10 zz11 rfl rfl rfl) ?_
 refine .drawn (ms:=[0,1,3,7,15,31,0,64,192,511]) (W:=[2,3,4]) (items:=[.op 0,.op 1,.op 6,.op 7,.op 8,.op 2,.ck 8,.ck 7,.op 3,.ck 8,.ck 7,.op 4,.ck 8,.ck 7,.op 5,.op 9]) rfl zz0 zz0 zz0 ?_
 iterate 5 refine .rx ?_
 refine .wp rfl rfl rfl rfl rfl call74 (p74 R.ps) ?_
 refine VScr.td (todo':=[8,7,6,1,0]) ?_ ?_
 focus (decide +kernel)
 refine .ck rfl zz0 ?_
 refine .ck rfl zz0 ?_
 refine .wr rfl rfl (by decide) (.xaf (todo':=[8,7]) rfl rfl rfl call73 (by decide) zz0 (⟨⟨by decide +kernel,_,_,rfl,zz1⟩,⟨⟨by decide +kernel,_,_,rfl,zz1⟩,trivial⟩⟩) (((zar.fresh' (by simp) (p73 R.ps (by omega) hz) rfl hz)).mono ?_))
 rintro _ _ ⟨rfl,rfl⟩
 refine .ck rfl zz0 ?_
 refine .ck rfl zz0 ?_
 refine .wr rfl rfl (by decide) (.xaf (todo':=[8,7]) rfl rfl rfl call72 (by decide) zz0 (⟨⟨by decide +kernel,_,_,rfl,zz1⟩,⟨⟨by decide +kernel,_,_,rfl,zz1⟩,trivial⟩⟩) (((z7d R.ps (by omega) hz 0 false rfl)).mono ?_))
 rintro _ _ ⟨rfl,xs,rfl,hx⟩
 refine .ck rfl zz0 ?_
 refine .ck rfl zz0 ?_
 iterate 2 refine .rx ?_
 refine .done ?_
 refine .cs ?_ ?_<;>intro c43
 ·try simp at c43
  refine .sr ?_
  refine .ret ?_
  refine⟨_,_,zz2,zz2,?_⟩
  have:regE R=6:=by
   rcases hx with⟨hx,_⟩|⟨_,hx⟩
   ·exfalso;rw[List.length_mergeSort] at hx;omega
   unfold regE
   rw[if_neg (by omega),if_neg hnb,if_neg (zv7 hx)]
  simp[chkR,this]
 try simp at c43
 have hE:regE R=0:=by
  rcases hx with⟨_,hx⟩|⟨hx,_⟩
  ·unfold regE
   rw[if_neg (by omega),if_neg hnb,if_pos (zvf hx)]
  exfalso;rw[List.length_mergeSort] at hx;omega
 refine .skip (.seq ?_)
 refine .zac [0,1,2,3,4] rfl zz0 ?_
 refine .rn [0,1,2] _ ?_
 refine .pc rfl rfl rfl rfl rfl call75 (p75 R.ts (fun t=>!zbk R t) 76 [] [.vp [ints R.ps,.int .i64 R.sc,turns R.ts]] hl2 rfl (by simp[PV.allF,PV.isF,ints]) call76 (fun t _=>p76 R t (by omega) hl1)) ?_
 obtain⟨e,he⟩:∃e,idxF (fun t=>!zbk R t) 0 R.ts=e:=⟨_,rfl⟩
 rw[he]
 refine .rn [4] [] ?_
 refine .done (.sr ?_)
 refine .seq (.sr ?_)
 refine .cs ?_ ?_<;>intro c51
 ·try simp at c51
  obtain⟨i,hi,hie⟩:∃i:Nat,i<R.ts.length∧e=i:=by
   rcases zg9 (fun t=>!zbk R t) R.ts with h|⟨i,h1,h2,_⟩
   ·omega
   exact⟨i,h1,by omega⟩
  subst hie
  have hi2:i≤R.ts.length:=by omega
  have hS:=zq7 R he
  obtain⟨S,hSS⟩:∃S,S=R.ts.take i:=⟨_,rfl⟩
  have hS2:endI R=(i:Int):=hS.2
  have hP:zk5 R=S:=by rw[hS.1,hSS]
  unfold turns
  refine .rn ?_
  refine .seq (.seq ?_)
  refine .rec (vts2:=[(5,.int .i64 (endI R)),(6,.vec (S.map encT))]) (vh2:=⟨0,[]⟩) (.mk [] [] zz8 zz9 rfl rfl rfl) ?_
  refine .zac [0,1,2,3] rfl zz0 ?_
  refine .step rfl rfl (.call rfl rfl rfl call78 (by decide) (((p78)).mono ?_))
  rintro _ _ ⟨rfl,rfl⟩
  refine .rn [1] _ ?_
  refine .step rfl rfl (.call rfl rfl rfl call79 (by decide) (((p79v _ S (by simp[*]) (by rw[← hP];have:=zui R;omega) (by rw[← hP];exact zrb R))).mono ?_))
  rintro _ vh' ⟨rfl,hD⟩
  obtain⟨a,ha⟩:∃a,(zc9 D0 S 0).2=a:=⟨_,rfl⟩
  rw[ha]
  refine .rn [3] [] ?_
  refine .done (.sr ?_)
  refine .cs ?_ ?_<;>intro c60
  ·try simp at c60
   refine .sr ?_
   refine .ret ?_
   refine⟨_,_,zz2,zz2,?_⟩
   unfold chkR
   rw[if_pos hE,hP,ha]
   repeat' split
   all_goals first|rfl|(exfalso;omega)|(simp[hS2];done)
  try simp at c60
  refine .skip (.seq (.sr ?_))
  refine .cs ?_ ?_<;>intro c63
  ·try simp at c63
   refine .sr ?_
   refine .ret ?_
   refine⟨_,_,zz2,zz2,?_⟩
   unfold chkR
   rw[if_pos hE,hP,ha]
   repeat' split
   all_goals first|rfl|(exfalso;omega)|(simp[hS2];done)
  try simp at c63
 try simp at c51
 have hS:=zqh R (by rw[he];omega)
 obtain⟨S,hSS⟩:∃S,S=R.ts:=⟨_,rfl⟩
 have hS2:endI R=e:=he
 have hP:zk5 R=S:=by rw[hS.1,hSS]
 unfold turns
 refine .skip (.seq (.seq ?_))
 refine .rec (vts2:=[(5,.int .i64 (endI R)),(6,.vec (S.map encT))]) (vh2:=⟨0,[]⟩) (.mk [] [] zz8 zz9 rfl rfl rfl) ?_
 refine .zac [0,1,2,3] rfl zz0 ?_
 refine .step rfl rfl (.call rfl rfl rfl call78 (by decide) (((p78)).mono ?_))
 rintro _ _ ⟨rfl,rfl⟩
 refine .rn [1] _ ?_
 refine .step rfl rfl (.call rfl rfl rfl call79 (by decide) (((p79v _ S (by simp[*]) (by rw[← hP];have:=zui R;omega) (by rw[← hP];exact zrb R))).mono ?_))
 rintro _ vh' ⟨rfl,hD⟩
 obtain⟨a,ha⟩:∃a,(zc9 D0 S 0).2=a:=⟨_,rfl⟩
 rw[ha]
 refine .rn [3] [] ?_
 refine .done (.sr ?_)
 refine .cs ?_ ?_<;>intro c60
 ·try simp at c60
  refine .sr ?_
  refine .ret ?_
  refine⟨_,_,zz2,zz2,?_⟩
  unfold chkR
  rw[if_pos hE,hP,ha]
  repeat' split
  all_goals first|rfl|(exfalso;omega)|(simp[hS2];done)
 try simp at c60
 refine .skip (.seq (.sr ?_))
 refine .cs ?_ ?_<;>intro c63
 ·try simp at c63
  refine .sr ?_
  refine .ret ?_
  refine⟨_,_,zz2,zz2,?_⟩
  unfold chkR
  rw[if_pos hE,hP,ha]
  repeat' split
  all_goals first|rfl|(exfalso;omega)|(simp[hS2];done)
 try simp at c63
 refine .skip (.sr ?_)
 refine .ret ?_
 refine⟨_,_,zz2,zz2,?_⟩
 unfold chkR
 rw[if_pos hE,hP,ha]
 repeat' split
 all_goals first|rfl|(exfalso;omega)|(simp[hS2];done)
def dkD (D:Dk):PV:=dk D.d D.x D.y D.q
@[simp] theorem z3o (D:Dk):(dkD D).isF=true:=by unfold dkD dk;simp[PV.isF]
@[simp] theorem xcj (vh:zab)(D:Dk):frz vh (dkD D)=some (dkD D):=zx9 vh (z3o D)
theorem zrv {vh:zab}{D:Dk}(h:zlm vh D):∀j z,(⟨vh.next,[(3,.box [.int .i64 D.d,.mapv 0,.mapv 1,.mapv 2]),(2,.map (mpG ints D.q)),(1,.map (mpG (PV.int .i64) D.y)),(0,.map (mpG zah D.x))]⟩:zab).get j=some z→vh.get j=some z:=by
 intro j z hz
 simp only[zab.get,zbl,beq_eq] at hz
 by_cases e3:j=3
 ·subst e3;simp at hz;subst hz;exact h.h3
 by_cases e2:j=2
 ·subst e2;simp at hz;subst hz;exact h.h2
 by_cases e1:j=1
 ·subst e1;simp at hz;subst hz;exact h.h1
 by_cases e0:j=0
 ·subst e0;simp at hz;subst hz;exact h.h0
 simp[e3,e2,e1,e0] at hz
@[simp] theorem z0s (l:List Tu):List.take l.length (l.map encT)=l.map encT:=List.take_of_length_le (by rw[List.length_map];exact Nat.le_refl _)
def cutI (R:Reg)(day:Int):Int:=idxF (fun t=>decide (day<t.d)) 0 R.ts
def cutL (R:Reg)(day:Int):List Tu:=if 0≤cutI R day then R.ts.take (cutI R day).toNat else R.ts
def behD (R:Reg)(day:Int):Dk:=(zc9 D0 (cutL R day) 0).1
theorem z0f (R:Reg)(day:Int){i:Nat}(h:idxF (fun t=>decide (day<t.d)) 0 R.ts=i):cutL R day=R.ts.take i:=by
 unfold cutL cutI
 rw[h];simp
theorem z2i (R:Reg)(day:Int)(h:¬0≤idxF (fun t=>decide (day<t.d)) 0 R.ts):cutL R day=R.ts:=by
 unfold cutL cutI
 rw[if_neg h]
def onE (R:Reg)(day:Int):Int:=if (chkR R).1=0 then (if 0≤day∧day≤730 then 0 else 1) else (chkR R).1
def onV (R:Reg)(day:Int):PV:=if onE R day=0 then dkD (behD R day) else .ptr0
theorem zmv {R:Reg}(h:(chkR R).1=0):regE R=0∧(∀t∈R.ts,zbk R t=true)∧(zc9 D0 R.ts 0).2<0:=by
 unfold chkR at h
 split at h
 ·rename_i h0
  split at h
  ·simp at h
  rename_i h1
  split at h
  ·simp at h
  rename_i h2
  have hs:=zqh R h2
  rw[hs.1] at h1
  refine⟨h0,fun t ht=>?_,by omega⟩
  rcases zg9 (fun t=>!zbk R t) R.ts with h3|⟨i,_,h3,_⟩
  ·have:=zmp _ _ _ h3 t ht
   simpa using this
  exact absurd (show 0≤endI R by unfold endI;rw[h3];omega) h2
 rename_i h0;exact absurd h h0
theorem znm {R:Reg}(h:regE R=0):R.ps.length≤24∧R.ts.length≤120∧R.ps≠[]∧(∀n∈R.ps,zjv n=false)∧1≤R.sc∧R.sc≤16∧R.ps.Nodup:=by
 unfold regE at h
 split at h
 ·omega
 rename_i h1
 split at h
 ·omega
 rename_i h2
 split at h
 ·rename_i h3
  refine⟨by omega,by omega,fun hh=>h2 (.inl hh),fun n hn=>?_,by omega,by omega,h3⟩
  cases hb:zjv n with
  |false=>rfl
  |true=>exact absurd (.inr (.inl (List.any_eq_true.2 ⟨n,hn,hb⟩))) h2
 omega
theorem p140 (R:Reg)(day:Int)(hl:R.ts.length<2147483648)(hf:∀t∈R.ts,znk t):zao prog 140 [encR R,.int .i64 day] fun r=>r=dkD (behD R day):=by
 unfold encR
 refine .zag func140 rfl rfl ?_
 refine .sr ?_
 refine .seq ?_
 refine .rec (vts2:=[(2,.vp [ints R.ps,.int .i64 R.sc,turns R.ts]),(3,.vp [.int .i64 day])]) (vh2:=⟨0,[]⟩) (.mk [0,1] [] zz10 zz11 rfl rfl rfl) ?_
 refine .zac [0,1] rfl zz0 ?_
 refine .step rfl rfl (.call rfl rfl rfl call78 (by decide) (((p78)).mono ?_))
 rintro _ _ ⟨rfl,rfl⟩
 refine .rn [1] [] ?_
 refine .done (.seq ?_)
 refine .zac [0,1,2,3,4] rfl zz0 ?_
 refine .rn [0,1,2] _ ?_
 refine .pc rfl rfl rfl rfl rfl call75 (p75 R.ts (fun t=>decide (day<t.d)) 168 [] [.vp [.int .i64 day]] (by omega) rfl rfl call168 (fun t _=>p168 t day)) ?_
 obtain⟨e,he⟩:∃e,idxF (fun t=>decide (day<t.d)) 0 R.ts=e:=⟨_,rfl⟩
 rw[he]
 refine .rn [4] [] ?_
 refine .done (.seq (.sr ?_))
 refine .cs ?_ ?_<;>intro c13
 ·try simp at c13
  have hcut:=z2i R day (by rw[he];omega)
  obtain⟨S,hSS⟩:∃S,S=R.ts:=⟨_,rfl⟩
  have hP:cutL R day=S:=by rw[hcut,hSS]
  have hFS:∀t∈S,znk t:=by rw[hSS];exact hf
  have hLS:S.length<2147483648:=by rw[hSS];exact hl
  unfold turns
  refine .rn ?_
  refine .seq ?_
  refine .zac [0,1,2,3,4,5] rfl zz0 ?_
  refine .rn [0,1,2,3,4] _ ?_
  refine .step rfl rfl (.call rfl rfl rfl call79 (by decide) (((p79v _ S (by simp[*]) hLS hFS)).mono ?_))
  rintro _ vh' ⟨rfl,hD⟩
  obtain⟨D,hDD⟩:∃D,(zc9 D0 S 0).1=D:=⟨_,rfl⟩
  rw[hDD] at hD
  have hB:behD R day=D:=by unfold behD;rw[hP,hDD]
  refine .done (.seq ?_)
  refine VW.forget (zrv hD) rfl ?_
  refine .rec (vts2:=[(5,.ptr 3 0)]) (vh2:=⟨4,[(3,.box [.int .i64 D.d,.vmap (mpG zah D.x),.vmap (mpG (PV.int .i64) D.y),.vmap (mpG ints D.q)])]⟩) (.mk [0,1,2] [] zz8 zz9 rfl rfl rfl) ?_
  refine .rec (vts2:=[(5,.vp [.int .i64 D.d,.vmap (mpG zah D.x),.vmap (mpG (PV.int .i64) D.y),.vmap (mpG ints D.q)])]) (vh2:=⟨0,[]⟩) (.mk [3] [] zz10 zz11 rfl rfl rfl) ?_
  refine .rn ?_
  refine .ret ?_
  refine⟨_,_,zz2,zz2,?_⟩
  rw[hB];rfl
 try simp at c13
 obtain⟨i,hi,hie⟩:∃i:Nat,i<R.ts.length∧e=i:=by
  rcases zg9 (fun t=>decide (day<t.d)) R.ts with h|⟨i,h1,h2,_⟩
  ·omega
  exact⟨i,h1,by omega⟩
 subst hie
 have hi2:i≤R.ts.length:=by omega
 have hcut:=z0f R day he
 obtain⟨S,hSS⟩:∃S,S=R.ts.take i:=⟨_,rfl⟩
 have hP:cutL R day=S:=by rw[hcut,hSS]
 have hFS:∀t∈S,znk t:=by rw[hSS];exact fun t ht=>hf t (List.mem_of_mem_take ht)
 have hLS:S.length<2147483648:=by rw[hSS,List.length_take];omega
 unfold turns
 refine .skip (.seq ?_)
 refine .zac [0,1,2,3,4,5] rfl zz0 ?_
 refine .rn [0,1,2,3,4] _ ?_
 refine .step rfl rfl (.call rfl rfl rfl call79 (by decide) (((p79v _ S (by simp[*]) hLS hFS)).mono ?_))
 rintro _ vh' ⟨rfl,hD⟩
 obtain⟨D,hDD⟩:∃D,(zc9 D0 S 0).1=D:=⟨_,rfl⟩
 rw[hDD] at hD
 have hB:behD R day=D:=by unfold behD;rw[hP,hDD]
 refine .done (.seq ?_)
 refine VW.forget (zrv hD) rfl ?_
 refine .rec (vts2:=[(5,.ptr 3 0)]) (vh2:=⟨4,[(3,.box [.int .i64 D.d,.vmap (mpG zah D.x),.vmap (mpG (PV.int .i64) D.y),.vmap (mpG ints D.q)])]⟩) (.mk [0,1,2] [] zz8 zz9 rfl rfl rfl) ?_
 refine .rec (vts2:=[(5,.vp [.int .i64 D.d,.vmap (mpG zah D.x),.vmap (mpG (PV.int .i64) D.y),.vmap (mpG ints D.q)])]) (vh2:=⟨0,[]⟩) (.mk [3] [] zz10 zz11 rfl rfl rfl) ?_
 refine .rn ?_
 refine .ret ?_
 refine⟨_,_,zz2,zz2,?_⟩
 rw[hB];rfl
theorem xco (R:Reg)(day:Int)(h0:(chkR R).1=0):zao prog 140 [encR R,.int .i64 day] fun r=>r=dkD (behD R day):=by
 have h1:=zmv h0
 have h2:=znm h1.1
 exact p140 R day (by omega) (fun t ht=>(of_decide_eq_true (h1.2.1 t ht)).form)
theorem p85 (R:Reg)(day:Int)(hl1:R.ps.length<4294967296)(hl2:R.ts.length<4294967296):zao prog 85 [encR R,.int .i64 day] fun r=>r=.tup [onV R day,.int .i64 (onE R day)]:=by
 obtain⟨c,hc⟩:∃c,chkR R=c:=⟨_,rfl⟩
 refine .zag func85 rfl rfl ?_
 refine .sr ?_
 refine .seq (.seq ?_)
 refine .zac [0,1,2,3,4,5,6] rfl zz0 ?_
 refine .rn [0] _ ?_
 refine .pc rfl rfl rfl rfl rfl call16 (p16 R hl1 hl2) ?_
 rw[hc]
 refine .rn [2,3,4,5,6] [] ?_
 refine .done (.sr ?_)
 refine .cs ?_ ?_<;>intro c14
 ·try simp at c14
  refine .sr ?_
  refine .ret ?_
  refine⟨_,_,zz2,zz2,?_⟩
  unfold onV onE
  rw[hc]
  simp_all<;>omega
 try simp at c14
 have hc0:(chkR R).1=0:=by rw[hc];exact c14
 refine .skip (.seq (.seq ?_))
 refine .zac [0,1,2] rfl zz0 ?_
 refine .rn [0] _ ?_
 refine .pc rfl rfl rfl rfl rfl call70 (p70 _ _ _) ?_
 refine .rn [2] [] ?_
 refine .done ?_
 refine .cs ?_ ?_<;>intro c18
 ·try simp at c18
  refine .sr ?_
  refine .ret ?_
  refine⟨_,_,zz2,zz2,?_⟩
  unfold onV onE
  rw[hc]
  simp_all<;>omega
 try simp at c18
 refine .skip (.seq ?_)
 refine .zac [0,1,2,3,4] rfl zz0 ?_
 refine .rn [0,1] _ ?_
 refine .pc rfl rfl rfl rfl rfl call140 (xco R day hc0) ?_
 refine .rn [3,4] [] ?_
 refine .done (.ret ?_)
 refine⟨_,_,zz2,zz2,?_⟩
 unfold onV onE
 rw[hc]
 simp_all<;>omega
theorem zho {α:Type}:∀ {l:List (Int×α)} {n:Int},alk l n=none↔n∉l.map (·.1)
 |[],n=>by simp[alk]
 |e::r,n=>by
  simp only[alk,List.map_cons,List.mem_cons]
  by_cases h:e.1=n
  ·simp[h]
  rw[if_neg h,zho]
  exact⟨fun h1 h2=>h2.elim (fun h3=>h h3.symm) h1,fun h1 h2=>h1 (.inr h2)⟩
theorem zd8 {α:Type}{l:List (Int×α)}(h:(l.map (·.1)).Nodup)(n:Int)(v:α):((aset l n v).map (·.1)).Nodup∧(aset l n v).length≤l.length+1:=by
 unfold aset
 split
 ·refine⟨?_,by simp⟩
  rw[List.map_map]
  have:((fun x=>x.1)∘fun e:Int×α=>if e.1=n then (e.1,v) else e)=fun e=>e.1:=by
   funext e
   simp only[Function.comp]
   split<;>rfl
  rw[this];exact h
 rename_i hn
 refine⟨?_,by simp⟩
 have hn2:alk l n=none:=by
  cases hh:alk l n with
  |none=>rfl
  |some x=>rw[hh] at hn;simp at hn
 have:=zho.1 hn2
 rw[List.map_append,List.nodup_append]
 exact⟨h,by simp,fun a ha b hb he=>by simp at hb;subst hb;subst he;exact this ha⟩
theorem zs5 {α:Type}{l:List (Int×α)}(h:(l.map (·.1)).Nodup)(n:Int):((adl l n).map (·.1)).Nodup∧(adl l n).length≤l.length:=by
 unfold adl
 exact⟨h.sublist ((List.filter_sublist).map _),List.length_filter_le _ _⟩
structure NdX (D:Dk) (n:Nat):Prop where
  nd:(D.x.map (·.1)).Nodup
  ln:D.x.length≤n
theorem z0g {D D':Dk}{n:Nat}(h:NdX D n){t:Tu}(hs:zf3 D t=some D'):NdX D' (n+2):=by
 unfold zf3 at hs
 repeat' split at hs
 all_goals first|cases hs;done|skip
 all_goals (injection hs with hs;subst hs)
 all_goals first
  |exact⟨h.nd,Nat.le_trans h.ln (by omega)⟩
  |exact⟨(zd8 h.nd _ _).1,Nat.le_trans (zd8 h.nd _ _).2 (by have:=h.ln;omega)⟩
  |exact⟨(zs5 h.nd _).1,Nat.le_trans (zs5 h.nd _).2 (by have:=h.ln;omega)⟩
  |exact⟨(zd8 (zd8 h.nd _ _).1 _ _).1,Nat.le_trans (zd8 (zd8 h.nd _ _).1 _ _).2 (by have:=(zd8 h.nd t.s (⟨(‹He›).p,0,0,0⟩:He)).2;have:=h.ln;omega)⟩
  |exact⟨(zd8 (zd8 h.nd _ _).1 _ _).1,Nat.le_trans (zd8 (zd8 h.nd _ _).1 _ _).2 (Nat.succ_le_succ (Nat.le_trans (zd8 h.nd _ _).2 (Nat.succ_le_succ h.ln)))⟩
theorem zun:∀(ts:List Tu) (D:Dk) (n i:Nat),NdX D n→NdX (zc9 D ts i).1 (n+2*ts.length)
 |[],D,n,i,h=>h
 |t::r,D,n,i,h=>by
  simp only[zc9]
  cases hs:zf3 D t with
  |none=>exact⟨h.nd,Nat.le_trans h.ln (by omega)⟩
  |some D'=>
   have:=zun r D' (n+2) (i+1) (z0g h hs)
   exact⟨this.nd,Nat.le_trans this.ln (by simp only[List.length_cons];omega)⟩
theorem zty:∀(ts:List Tu) (D:Dk) (n i:Nat),Inv D n→(∀t∈ts,znk t)→Inv (zc9 D ts i).1 (n+ts.length)
 |[],D,n,i,h,_=>h
 |t::r,D,n,i,h,hf=>by
  simp only[zc9]
  cases hs:zf3 D t with
  |none=>exact⟨h.xy,h.yx,fun p l hl=>Nat.le_trans (h.len p l hl) (by omega)⟩
  |some D'=>
   have:=zty r D' (n+1) (i+1) (zkb h (hf t List.mem_cons_self) hs).1 fun t ht=>hf t (List.mem_cons_of_mem _ ht)
   exact⟨this.xy,this.yx,fun p l hl=>Nat.le_trans (this.len p l hl) (by simp;omega)⟩
theorem z4a (R:Reg)(day:Int):(∀t∈cutL R day,t∈R.ts)∧(cutL R day).length≤R.ts.length:=by
 unfold cutL
 split
 ·exact⟨fun t ht=>List.mem_of_mem_take ht,by rw[List.length_take];omega⟩
 exact⟨fun t ht=>ht,Nat.le_refl _⟩
theorem zoh {R:Reg}(h:(chkR R).1=0)(day:Int):Inv (behD R day) 120∧NdX (behD R day) 240:=by
 have h1:=zmv h
 have h2:=znm h1.1
 have h3:=z4a R day
 have h4:=zty (cutL R day) D0 0 0 Inv.start fun t ht=>(of_decide_eq_true (h1.2.1 t (h3.1 t ht))).form
 have h5:=zun (cutL R day) D0 0 0 ⟨by simp[D0],by simp[D0]⟩
 exact⟨⟨h4.xy,h4.yx,fun p l hl=>Nat.le_trans (h4.len p l hl) (by omega)⟩,⟨h5.nd,Nat.le_trans h5.ln (by omega)⟩⟩
def zer (l:List He):PV:=.vec (l.map zah)
def zfm (D:Dk):List He:=(zeo D.x).map fun s=>(alk D.x s).getD ⟨0,0,0,0⟩
theorem zfi (D:Dk):(zfm D).length=D.x.length:=by unfold zfm;rw[List.length_map,zge]
theorem zx1 (D:Dk)(k:Nat)(hk:k<(zeo D.x).length):∃u,alk D.x (zeo D.x)[k]=some u∧(zfm D)[k]?=some u:=by
 have hm:(zeo D.x)[k]∈D.x.map (·.1):=(List.mergeSort_perm (D.x.map (·.1)) (fun x y=>decide (x≤y))).mem_iff.1 (List.getElem_mem hk)
 cases ha:alk D.x (zeo D.x)[k] with
 |none=>exact absurd hm (zho.1 ha)
 |some u=>exact⟨u,rfl,by unfold zfm;rw[List.getElem?_map,List.getElem?_eq_getElem hk];simp[ha]⟩
@[simp] theorem z3b (l:List He):zf0 4 (l.map zah)=true:=by
 induction l with
 |nil=>rfl
 |cons a r ih=>simp[zf0]
@[simp] theorem z5i (l:List He):PV.allF (l.map zah)=true:=by
 induction l with
 |nil=>rfl
 |cons a r ih=>simp[PV.allF,ih]
@[simp] theorem zmn (l:List He):(zer l).isF=true:=by unfold zer;simp[PV.isF]
@[simp] theorem z7a (vh:zab)(l:List He):frz vh (zer l)=some (zer l):=by simp[zer,frz]
theorem p124 (es:List (PV×PV)):zao prog 124 [.vmap es] fun r=>r=.func 159 [] [.vp [.vmap es]]:=by
 refine .zag func124 rfl rfl ?_
 refine .sr ?_
 refine .sr ?_
 refine .ret ?_
 refine⟨_,_,zz2,zz2,?_⟩
 first|rfl|(simp[*];done)|(simp_all;done)
theorem p87 (D:Dk):zao prog 87 [dkD D] fun r=>r=.func 142 [] [.vp [dkD D]]:=by
 refine .zag func87 rfl rfl ?_
 refine .sr ?_
 refine .sr ?_
 refine .ret ?_
 refine⟨_,_,zz2,zz2,?_⟩
 first|rfl|(simp[*];done)|(simp_all;done)
theorem z9k  : zao prog 73 [.func 159 [] [.vp [.vmap []]]] fun r=>Soft r (ints []):=by
 refine .zag func73 rfl rfl ?_
 refine .sr ?_
 refine .seq ?_
 refine .zac [0,1,2] rfl zz0 ?_
 refine .rn [0] _ ?_
 refine .pc rfl rfl rfl rfl rfl call134 (z8w) ?_
 refine .rn [2] [] ?_
 refine .done (.seq ?_)
 refine .rec (vts2:=[(3,.grow 0 0 true)]) (vh2:=⟨1,[(0,.grow 1 [])]⟩) (.mk [] [] zz8 zz9 rfl rfl rfl) ?_
 refine .zac [0,1] rfl zz0 ?_
 refine .rn [0] _ ?_
 refine .step rfl rfl (.call rfl rfl rfl call98 (by decide) (((zar.ztv (zs:=[]) z2t (by simp) (by simp))).mono ?_))
 rintro _ _ ⟨rfl,rfl⟩
 refine .done (.sr ?_)
 refine .ret ?_
 refine⟨_,_,zz2,zz2,?_⟩
 exact ztr rfl
theorem xbm (D:Dk)(hx:D.x=[]):zao prog 141 [.sl0,.func 142 [] [.vp [dkD D]]] fun r=>r=.sl0:=by
 unfold dkD dk
 rw[hx]
 refine .zag func141 rfl rfl ?_
 refine .sr ?_
 refine .seq (.sr ?_)
 refine .block ?_
 refine .rangeFunc rfl call142 func142 rfl rfl rfl ?_
 refine .seq ?_
 refine .zac [0,1,2,3,4,5,6,7] rfl zz0 ?_
 refine .rn [0,1,2,3] _ ?_
 refine .pc rfl rfl rfl rfl rfl call124 (p124 (mpG zah [])) ?_
 refine .pc rfl rfl rfl rfl rfl call73 (zao.soft z9k rfl) ?_
 refine .rn [6,7] [] ?_
 refine .done (.block ?_)
 refine .zb5 (fun k:Nat=>([(0,.yld 1),(11,.int .i64 0),(12,.int .i64 k)],⟨2,[(1,.loop 13 #[7] _ _ [(2,.ptr 0 0)] none),(0,.box [.sl0])]⟩)) (fun k=>k=0) (fun k=>0) 0 rfl (.mk [] [] zz8 zz9 rfl rfl rfl) ?_
 rintro k hk
 simp only at hk ⊢
 refine .sr ?_
 refine .seq ?_
 refine .cs ?_ ?_<;>intro c13
 ·try simp at c13
 try simp at c13
 refine .exit ?_
 change zo3 _ _ _ _
 refine zsl rfl ?_
 refine .sr ?_
 refine .ret ?_
 refine⟨_,_,zz2,zz2,?_⟩
 first|rfl|(simp[*];done)|(simp_all;done)
theorem p141 (D:Dk)(hn:D.x.length<1000000)(hnd:(D.x.map (·.1)).Nodup)(hne:0<D.x.length):zar prog 141 [.sl0,.func 142 [] [.vp [dkD D]]] zab.empty fun v vh'=>∃i nl,v=.grow i D.x.length nl∧vh'.get i=some (.grow 4 ((zfm D).map zah)):=by
 unfold dkD dk
 obtain⟨H,hH⟩:∃H,zfm D=H:=⟨_,rfl⟩
 have hHl:H.length=D.x.length:=by rw[← hH,zfi]
 obtain⟨S,hS⟩:∃S,zeo D.x=S:=⟨_,rfl⟩
 have hSl:S.length=D.x.length:=by rw[← hS,zge]
 have hget:∀k (hk:k<S.length),∃u,alk D.x S[k]=some u∧H[k]?=some u:=by
  subst hS;subst hH;exact zx1 D
 rw[hH]
 refine .zag func141 rfl rfl ?_
 refine .sr ?_
 refine .seq (.sr ?_)
 refine .block ?_
 refine .rangeFunc rfl call142 func142 rfl rfl rfl ?_
 refine .seq ?_
 refine .zac [0,1,2,3,4,5,6,7] rfl zz0 ?_
 refine .rn [0,1,2,3] _ ?_
 refine .pc rfl rfl rfl rfl rfl call124 (p124 (mpG zah D.x)) ?_
 refine .step rfl rfl (.call rfl rfl rfl call73 (by decide) (((zar.fresh' (by simp[zge]) (p73m D.x hn hnd hne) (by simp[PV.allF,PV.isF]) hne)).mono ?_))
 rintro _ _ ⟨rfl,rfl⟩
 rw[hS]
 refine .rn [6,7] [] ?_
 refine .done (.block ?_)
 refine .zb5 (fun k:Nat=>([(0,.yld 1),(1,.vp [.vp [.int .i64 D.d,.vmap (mpG zah D.x),.vmap (mpG (PV.int .i64) D.y),.vmap (mpG ints D.q)]]),(10,ints S),(11,.int .i64 D.x.length),(12,.int .i64 k)],⟨3,[(2,.grow 4 ((H.take k).map zah)),(1,.loop 13 #[7] _ _ [(2,.ptr 0 0)] none),(0,.box [.grow 2 k true])]⟩)) (fun k=>k≤D.x.length) (fun k=>D.x.length - k) 0 (by simp) (.mk [2] [] zz8 zz9 rfl rfl rfl) ?_
 rintro k hk
 simp only at hk ⊢
 refine .sr ?_
 refine .seq ?_
 refine .cs ?_ ?_<;>intro c13
 ·try simp at c13
  have hw2:=wr1 k
  have hkS:k<S.length:=by omega
  obtain⟨u,hu,hHu⟩:=hget k hkS
  have hkH:k<H.length:=by omega
  have hHk:H[k]=u:=by rw[List.getElem?_eq_getElem hkH] at hHu;injection hHu
  have hT:List.take (k+1) (H.map zah)=List.take k (H.map zah)++[.agg [.int .i64 u.p,.int .i64 u.s,.int .i64 u.a,.int .i64 u.b]]:=by
   rw[← List.map_take,← List.map_take,List.take_succ_eq_append_getElem hkH,List.map_append,hHk];rfl
  have hb:k+1≤4294967296:=by omega
  refine .skip (.seq (.block (.sr ?_)))
  refine .seq ?_
  refine .zac [0,1,2,3,4,5,6,7,8] rfl zz0 ?_
  refine .rn [0,1,2,3,4,5,6] _ ?_
  refine .step rfl rfl (.yield rfl rfl rfl rfl rfl (by decide) rfl ?_)
  refine .rn ?_
  refine .block (.rn ?_)
  change VOps _ _ _ _ _ _ _ _
  refine .rn [8] [] ?_
  refine .done (.zjd rfl (.skip (.rn ?_)))
  refine⟨k+1,zz3,zz3,(.mk [] [(2,5)] zz8 zz9 rfl rfl rfl)⟩
 try simp at c13
 have hkn:k=D.x.length:=by omega
 subst hkn
 refine .exit ?_
 change zo3 _ _ _ _
 refine zsl rfl ?_
 refine .sr ?_
 refine .ret ?_
 refine⟨_,zz2,2,true,rfl,?_⟩
 rw[← hHl,← List.map_take,List.take_length]
 simp
theorem p86 (D:Dk)(hn:D.x.length<1000000)(hnd:(D.x.map (·.1)).Nodup):zao prog 86 [.func 142 [] [.vp [dkD D]]] fun r=>Soft r (zer (zfm D)):=by
 refine .zag func86 rfl rfl ?_
 rcases Nat.eq_zero_or_pos D.x.length with hz|hz
 ·
  refine .sr ?_
  refine .seq ?_
  refine .zac [0,1,2] rfl zz0 ?_
  refine .rn [0] _ ?_
  refine .pc rfl rfl rfl rfl rfl call141 (xbm D (List.eq_nil_of_length_eq_zero hz)) ?_
  refine .rn [2] [] ?_
  refine .done (.ret ?_)
  have hx:zfm D=[]:=List.eq_nil_of_length_eq_zero (by rw[zfi,hz])
  refine⟨_,_,zz2,zz2,?_⟩
  rw[hx];exact Alt.sl0v
 ·
  refine .sr ?_
  refine .seq ?_
  refine .zac [0,1,2] rfl zz0 ?_
  refine .rn [0] _ ?_
  refine .step rfl rfl (.call rfl rfl rfl call141 (by decide) (((zar.fresh' (by simp[zfi]) (p141 D hn hnd hz) (by simp[PV.allF,PV.isF]) hz)).mono ?_))
  rintro _ _ ⟨rfl,rfl⟩
  refine .rn [2] [] ?_
  refine .done (.ret ?_)
  refine⟨_,zer (zfm D),zz2,?_,ztr (zmn _)⟩
  unfold zer
  simp[zfi]
theorem p86x (D:Dk)(hn:D.x.length<1000000)(hnd:(D.x.map (·.1)).Nodup):zao prog 86 [.func 142 [] [.vp [dkD D]]] fun r=>r=zer (zfm D):=zao.soft (p86 D hn hnd) (zmn _)
theorem zgu {R:Reg}{day:Int}(h:onE R day=0):(chkR R).1=0:=by
 unfold onE at h
 split at h
 ·assumption
 rename_i h1;exact absurd h h1
@[simp ↓ high] theorem z9e (R:Reg)(day:Int):(onV R day).cells=[onV R day]:=by unfold onV;split<;>rfl
@[simp ↓ high] theorem xcr (R:Reg)(day:Int):(onV R day).one=true:=by unfold onV;split<;>rfl
end Go.Am.Hi
end
section
namespace Go.Am.Hi
open Go Go.Am Go.Proofs
structure Inv4 (R:Reg) (D:Dk):Prop where
  hw:∀p s,alk D.y p=some s→s∉D.line p
  nd:∀p,(D.line p).Nodup
  ab:∀s u,alk D.x s=some u→0≤u.a∧u.a≤D.d∧u.a+7≤u.b∧u.b≤1010
  ps:∀p s,alk D.y p=some s→p∈R.ps
  sc:∀s u,alk D.x s=some u→0≤s∧s<R.sc
  lsc:∀p s,s∈D.line p→0≤s∧s<R.sc
theorem zfc (D:Dk)(d p:Int)(x:List (Int×He))(y:List (Int×Int))(l:List Int)(p':Int):(⟨d,x,y,aset D.q p l⟩:Dk).line p'=if p'=p then l else D.line p':=by
 unfold Dk.line
 simp only[zcp]
 split<;>rfl
theorem zi7 {l:List Int}{s a:Int}:a∈outS l s↔a∈l∧¬a=s:=by unfold outS;simp
theorem zs4 {R:Reg}{D:Dk}{n:Nat}(h:Inv D n)(h4:Inv4 R D){t:Tu}(ht:zbc R t)(hd:D.d≤t.d)(h1:∀u,alk D.x t.s=some u→¬u.p=t.p)(h2:t.s∉D.line t.p):Inv4 R ⟨t.d,D.x,D.y,aset D.q t.p (D.line t.p++[t.s])⟩:=by
 refine⟨fun p s hp=>?_,fun p=>?_,fun s u hu=>?_,h4.ps,h4.sc,fun p s hs=>?_⟩
 ·rw[zfc]
  split
  ·rename_i he;subst he
   intro hm
   rcases List.mem_append.1 hm with hm|hm
   ·exact h4.hw _ s hp hm
   have:s=t.s:=by simpa using hm
   subst this
   obtain⟨u,hu,hup⟩:=h.yx _ _ hp
   exact h1 u hu hup
  exact h4.hw p s hp
 ·rw[zfc]
  split
  ·rename_i he
   refine List.nodup_append.2 ⟨h4.nd t.p,by simp,fun a ha b hb hab=>?_⟩
   simp at hb;subst hb;subst hab;exact h2 ha
  exact h4.nd p
 ·have:=h4.ab s u hu
  exact⟨this.1,by simp only;omega,this.2.2.1,this.2.2.2⟩
 rw[zfc] at hs
 split at hs
 ·rcases List.mem_append.1 hs with hm|hm
  ·exact h4.lsc _ s hm
  have:s=t.s:=by simpa using hm
  subst this;exact⟨ht.2.2.1,by have:=ht.2.2.2.1;omega⟩
 exact h4.lsc p s hs
theorem zru {R:Reg}{D:Dk}{n:Nat}(h:Inv D n)(h4:Inv4 R D){t:Tu}(ht:zbc R t)(hk:t.k=2)(hd:D.d≤t.d)(hy:alk D.y t.p=none)(hx:alk D.x t.s=none) :
  Inv4 R ⟨t.d,aset D.x t.s ⟨t.p,t.s,t.d,t.d+7*t.w⟩,aset D.y t.p t.s,aset D.q t.p (outS (D.line t.p) t.s)⟩:=by
 obtain⟨hd0,hd1,hs0,hs1,hf⟩:=ht
 have hw:t.p∈R.ps∧1≤t.w∧t.w≤40:=by
  rcases hf with⟨h|h|h,_⟩|⟨_,h1,h2,h3,_⟩|⟨h,_⟩<;>first|omega|exact⟨h1,h2,h3⟩
 refine⟨fun p s hp=>?_,fun p=>?_,fun s u hu=>?_,fun p s hp=>?_,fun s u hu=>?_,fun p s hs=>?_⟩
 ·rw[zfc]
  simp only[zcp] at hp
  by_cases he:p=t.p
  ·rw[if_pos he] at hp ⊢;injection hp with hp;subst hp
   rw[zi7];exact fun hh=>hh.2 rfl
  rw[if_neg he] at hp ⊢;exact h4.hw p s hp
 ·rw[zfc]
  split
  ·exact(h4.nd t.p).sublist List.filter_sublist
  exact h4.nd p
 ·simp only[zcp] at hu
  by_cases he:s=t.s
  ·rw[if_pos he] at hu;injection hu with hu;subst hu;simp only;omega
  rw[if_neg he] at hu
  have:=h4.ab s u hu
  exact⟨this.1,by simp only;omega,this.2.2.1,this.2.2.2⟩
 ·simp only[zcp] at hp
  by_cases he:p=t.p
  ·rw[he];exact hw.1
  rw[if_neg he] at hp;exact h4.ps p s hp
 ·simp only[zcp] at hu
  by_cases he:s=t.s
  ·rw[he];exact⟨hs0,by omega⟩
  rw[if_neg he] at hu;exact h4.sc s u hu
 rw[zfc] at hs
 split at hs
 ·exact h4.lsc _ s (zi7.1 hs).1
 exact h4.lsc p s hs
theorem zym {R:Reg}{D:Dk}{n:Nat}(h:Inv D n)(h4:Inv4 R D){t:Tu}(hd:D.d≤t.d):Inv4 R ⟨t.d,adl D.x t.s,adl D.y t.p,D.q⟩:=by
 refine⟨fun p s hp=>?_,h4.nd,fun s u hu=>?_,fun p s hp=>?_,fun s u hu=>?_,h4.lsc⟩
 ·rw[zih] at hp
  by_cases he:p=t.p
  ·rw[if_pos he] at hp;cases hp
  rw[if_neg he] at hp;exact h4.hw p s hp
 ·rw[zih] at hu
  by_cases he:s=t.s
  ·rw[if_pos he] at hu;cases hu
  rw[if_neg he] at hu
  have:=h4.ab s u hu
  exact⟨this.1,by simp only;omega,this.2.2.1,this.2.2.2⟩
 ·rw[zih] at hp
  by_cases he:p=t.p
  ·rw[if_pos he] at hp;cases hp
  rw[if_neg he] at hp;exact h4.ps p s hp
 rw[zih] at hu
 by_cases he:s=t.s
 ·rw[if_pos he] at hu;cases hu
 rw[if_neg he] at hu;exact h4.sc s u hu
theorem zwh {R:Reg}{D:Dk}{n:Nat}(h:Inv D n)(h4:Inv4 R D){t:Tu}(hd:D.d≤t.d){u z:He}(hu:alk D.x t.s=some u)(hz:alk D.x t.o=some z)(h1:t.s∉D.line z.p)(h2:t.o∉D.line u.p) :
  Inv4 R ⟨t.d,aset (aset D.x t.s ⟨z.p,u.s,u.a,u.b⟩) t.o ⟨u.p,z.s,z.a,z.b⟩,aset (aset D.y z.p t.s) u.p t.o,D.q⟩:=by
 have au:=h4.ab _ _ hu
 have az:=h4.ab _ _ hz
 refine⟨fun p s hp=>?_,h4.nd,fun s v hv=>?_,fun p s hp=>?_,fun s v hv=>?_,h4.lsc⟩
 ·simp only[zcp] at hp
  by_cases he:p=u.p
  ·rw[if_pos he] at hp;injection hp with hp;subst hp;rw[he];exact h2
  rw[if_neg he] at hp
  by_cases he2:p=z.p
  ·rw[if_pos he2] at hp;injection hp with hp;subst hp;rw[he2];exact h1
  rw[if_neg he2] at hp;exact h4.hw p s hp
 ·simp only[zcp] at hv
  by_cases he:s=t.o
  ·rw[if_pos he] at hv;injection hv with hv;subst hv;simp only;omega
  rw[if_neg he] at hv
  by_cases he2:s=t.s
  ·rw[if_pos he2] at hv;injection hv with hv;subst hv;simp only;omega
  rw[if_neg he2] at hv
  have:=h4.ab s v hv
  exact⟨this.1,by simp only;omega,this.2.2.1,this.2.2.2⟩
 ·simp only[zcp] at hp
  by_cases he:p=u.p
  ·rw[he];exact h4.ps _ _ (h.xy _ _ hu).1
  rw[if_neg he] at hp
  by_cases he2:p=z.p
  ·rw[he2];exact h4.ps _ _ (h.xy _ _ hz).1
  rw[if_neg he2] at hp;exact h4.ps p s hp
 simp only[zcp] at hv
 by_cases he:s=t.o
 ·rw[he];exact h4.sc _ _ hz
 rw[if_neg he] at hv
 by_cases he2:s=t.s
 ·rw[he2];exact h4.sc _ _ hu
 rw[if_neg he2] at hv;exact h4.sc s v hv
theorem zx8 {R:Reg}{D:Dk}(h4:Inv4 R D){t:Tu}(hd:D.d≤t.d):Inv4 R ⟨t.d,D.x,D.y,aset D.q t.p (outS (D.line t.p) t.s)⟩:=by
 refine⟨fun p s hp=>?_,fun p=>?_,fun s u hu=>?_,h4.ps,h4.sc,fun p s hs=>?_⟩
 ·rw[zfc]
  split
  ·rename_i he;subst he
   exact fun hm=>h4.hw _ s hp (zi7.1 hm).1
  exact h4.hw p s hp
 ·rw[zfc]
  split
  ·exact(h4.nd t.p).sublist List.filter_sublist
  exact h4.nd p
 ·have:=h4.ab s u hu
  exact⟨this.1,by simp only;omega,this.2.2.1,this.2.2.2⟩
 rw[zfc] at hs
 split at hs
 ·exact h4.lsc _ s (zi7.1 hs).1
 exact h4.lsc p s hs
theorem zyo {R:Reg}{D D':Dk}{n:Nat}(h:Inv D n)(h4:Inv4 R D){t:Tu}(ht:zbc R t)(hs:zf3 D t=some D'):Inv4 R D':=by
 unfold zf3 at hs
 split at hs
 ·cases hs
 rename_i hd
 have hd:D.d≤t.d:=by omega
 split at hs
 ·split at hs
  ·rename_i u hu
   split at hs
   ·cases hs
   rename_i hno
   injection hs with hs;subst hs
   exact zs4 h h4 ht hd (fun u' hu' hp=>hno (.inl (by rw[hu] at hu';injection hu' with hu';subst hu';exact hp))) (fun hm=>hno (.inr hm))
  rename_i hu
  split at hs
  ·cases hs
  rename_i hno
  injection hs with hs;subst hs
  exact zs4 h h4 ht hd (fun u' hu' hp=>by rw[hu] at hu';cases hu') hno
 split at hs
 ·rename_i hk
  split at hs
  ·rename_i hy hx
   split at hs
   ·injection hs with hs;subst hs;exact zru h h4 ht hk hd hy hx
   split at hs
   ·injection hs with hs;subst hs;exact zru h h4 ht hk hd hy hx
   cases hs
  cases hs
 split at hs
 ·split at hs
  ·split at hs
   ·injection hs with hs;subst hs;exact zym h h4 hd
   cases hs
  cases hs
 split at hs
 ·split at hs
  ·rename_i u z hu hz
   split at hs
   ·cases hs
   rename_i hno
   injection hs with hs;subst hs
   exact zwh h h4 hd hu hz (fun hm=>hno (.inl hm)) (fun hm=>hno (.inr hm))
  cases hs
 split at hs
 ·split at hs
  ·injection hs with hs;subst hs;exact zx8 h4 hd
  cases hs
 cases hs
theorem Inv4.start (R:Reg):Inv4 R D0:=⟨fun p s h=>by simp[D0,alk] at h,fun p=>by simp[D0,Dk.line,alk],fun s u h=>by simp[D0,alk] at h,fun p s h=>by simp[D0,alk] at h,fun s u h=>by simp[D0,alk] at h,fun p s h=>by simp[D0,Dk.line,alk] at h⟩
theorem zso {D:Dk}{n:Nat}(h:NdX D n):(zeo D.x).Nodup:=(List.mergeSort_perm _ _).nodup_iff.2 h.nd
theorem z2z {D:Dk}{n:Nat}(hI:Inv D n):(zfm D).map (·.s)=zeo D.x:=by
  unfold zfm
  rw[List.map_map]
  have:∀s∈zeo D.x,((fun x:He=>x.s)∘fun s=>(alk D.x s).getD ⟨0,0,0,0⟩) s=s:=fun s hs=>by
    have hm:s∈D.x.map (·.1):=(List.mergeSort_perm (D.x.map (·.1)) (fun x y=>decide (x≤y))).mem_iff.1 hs
    cases ha:alk D.x s with
    |none=>exact absurd hm (zho.1 ha)
    |some u=>simp[Function.comp,ha,(hI.xy s u ha).2]
  calc List.map _ (zeo D.x)=List.map id (zeo D.x):=List.map_congr_left this
    _=zeo D.x:=by simp
theorem z0o {D:Dk}{n:Nat}(hI:Inv D n){u:He}:u∈zfm D↔alk D.x u.s=some u:=by
 constructor
 ·intro hu
  unfold zfm at hu
  obtain⟨s,hs,rfl⟩:=List.mem_map.1 hu
  have hm:s∈D.x.map (·.1):=(List.mergeSort_perm (D.x.map (·.1)) (fun x y=>decide (x≤y))).mem_iff.1 hs
  cases ha:alk D.x s with
  |none=>exact absurd hm (zho.1 ha)
  |some u=>simp[(hI.xy s u ha).2,ha]
 intro hu
 unfold zfm
 have hm:u.s∈D.x.map (·.1):=by
  rcases Classical.em (u.s∈D.x.map (·.1)) with h|h
  ·exact h
  rw[zho.2 h] at hu;cases hu
 exact List.mem_map.2 ⟨u.s,(List.mergeSort_perm (D.x.map (·.1)) (fun x y=>decide (x≤y))).mem_iff.2 hm,by rw[hu];rfl⟩
end Go.Am.Hi
end
