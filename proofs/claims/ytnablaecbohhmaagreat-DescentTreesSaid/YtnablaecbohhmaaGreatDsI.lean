/-
 What is used in the proof of a statement (part DsI); no condition.
-/
import Derived.Test.YtnablaecbohhmaaGreatDsD
import Derived.Test.YtnablaecbohhmaaGreatDsF
import Derived.Test.YtnablaecbohhmaaGreatDsZ
import Derived.Test.YtnablaecbohhmaaGreatVm2
import Derived.Test.YtnablaecbohhmaaGreatDsT
import Derived.Test.YtnablaecbohhmaaGreatDsS
set_option linter.all false
set_option maxHeartbeats 40000000
set_option maxRecDepth 100000
/-
 Descent: copies that were truly made from each other (plain law of True).
-/
section
namespace Go.Am.Ds
open Go Go.Am Go.Proofs
theorem zea:∀ {l:List Int} {a:Int},zb3 l a=true↔(l.Pairwise (·<·)∧∀n∈l,a<n∧n≤1099511627776)
 |[],a=>by simp[zb3]
 |n::r,a=>by
  unfold zb3
  have ih:=zea (l:=r) (a:=n)
  split
  ·rename_i h
   constructor
   ·intro h2;cases h2
   rintro⟨_,h2⟩
   have:=h2 n List.mem_cons_self
   omega
  rename_i h
  rw[ih,List.pairwise_cons]
  constructor
  ·rintro⟨h1,h2⟩
   refine⟨⟨fun x hx=>(h2 x hx).1,h1⟩,fun x hx=>?_⟩
   rcases List.mem_cons.1 hx with rfl|hx
   ·omega
   have:=h2 x hx;omega
  rintro⟨⟨h1,h2⟩,h3⟩
  exact⟨h2,fun x hx=>⟨h1 x hx,(h3 x (List.mem_cons_of_mem _ hx)).2⟩⟩
theorem zss:∀ {l:List Wit} {seen:List Int},(∀w∈l,witE w=0)→(l.map Wit.id).Nodup→(∀w∈l,w.id∉seen)→zgs l seen=0
 |[],_,_,_,_=>rfl
 |w::r,seen,h1,h2,h3=>by
  rw[zgs,if_pos (h1 w List.mem_cons_self),if_neg (h3 w List.mem_cons_self)]
  rw[List.map_cons,List.nodup_cons] at h2
  refine zss (fun v hv=>h1 v (List.mem_cons_of_mem _ hv)) h2.2 fun v hv hvs=>?_
  unfold insU at hvs
  split at hvs
  ·exact h3 v (List.mem_cons_of_mem _ hv) hvs
  rw[List.mem_append,List.mem_singleton] at hvs
  rcases hvs with h|h
  ·exact h3 v (List.mem_cons_of_mem _ hv) h
  exact h2.1 (h▸List.mem_map_of_mem hv)
end Go.Am.Ds
end
/-
 Descent: the fewest slips that are left out (plain law of Drops).
-/
section
namespace Go.Am.Ds
open Go Go.Am Go.Proofs
def hM (s:List Wit)(D:List Int):List (Int×Int):=(zdn s).filter fun x=>!decide (x.1∈D)
def slD (s:List Wit)(D:List Int):List Int:=((hM s D).map (·.1)).mergeSort fun x y=>decide (x≤y)
theorem xes (s:List Wit):hM s []=zdn s:=by unfold hM;simp
theorem z9e (s:List Wit)(D:List Int)(n:Int):(hM s D).filter (fun x=>!decide (x.1=n))=hM s (D++[n]):=by
 unfold hM
 rw[List.filter_filter]
 apply List.filter_congr
 intro x _
 by_cases h1:x.1∈D<;>by_cases h2:x.1=n<;>simp[h1,h2]
theorem xda {s:List Wit}{D:List Int}{n:Int}:n∈(hM s D).map (·.1)↔n∉D∧∃w∈s,n∈w.slips:=by
 rw[← zf9]
 unfold hM
 constructor
 ·intro h
  obtain⟨x,hx,rfl⟩:=List.mem_map.1 h
  rw[List.mem_filter] at hx
  exact⟨by simpa using hx.2,List.mem_map_of_mem hx.1⟩
 rintro⟨h1,h2⟩
 obtain⟨x,hx,rfl⟩:=List.mem_map.1 h2
 exact List.mem_map_of_mem (List.mem_filter.2 ⟨hx,by simpa using h1⟩)
theorem zw4 (s:List Wit)(D:List Int):((hM s D).map (·.1)).Nodup:=(List.filter_sublist.map _).nodup (zfl s)
theorem xcq (s:List Wit)(D:List Int):(hM s D).length≤(zdn s).length:=List.length_filter_le _ _
theorem zlu {s:List Wit}{D:List Int}{n:Int}:n∈slD s D↔n∉D∧∃w∈s,n∈w.slips:=by
 unfold slD;rw[List.mem_mergeSort,xda]
theorem z7v (s:List Wit)(D:List Int):(slD s D).length=(hM s D).length:=by simp[slD]
theorem znf {p:Int→Bool}{n:Int}(hp:p n=true):∀l:List (Int×Int),getM (l.filter fun x=>p x.1) n=getM l n
 |[]=>rfl
 |(a,v)::r=>by
  have ih:=znf hp r
  unfold getM at ih ⊢
  by_cases ha:a=n
  ·subst ha;simp[hp]
  by_cases hpa:p a=true
  ·simp[hpa,ha];simpa using ih
  simp[hpa,ha];simpa using ih
theorem z7j {s:List Wit}{D:List Int}{n:Int}(h:n∉D):getM (hM s D) n=getM (zdn s) n:=znf (p:=fun m=>!decide (m∈D)) (by simpa using h) _
def crD (s:List Wit)(D:List Int):Option (Int×Int):=crO s (slD s D)
theorem z4t {s:List Wit}{a b:Int}:crP s a b↔crP s b a:=by
 constructor<;>rintro⟨⟨w,h1,h2,h3⟩,h4,h5⟩<;>exact⟨⟨w,h1,h3,h2⟩,h5,h4⟩
theorem zr3 {s:List Wit}(h:zai s=0){D:List Int}{a b:Int}(hc:crD s D=some (a,b)):a∉D∧b∉D∧crP s a b:=by
 obtain⟨h1,h2,h3⟩:=zq0 hc
 exact⟨(zlu.1 h1).1,(zlu.1 h2).1,(zgx h a b).1 h3⟩
theorem z3l {s:List Wit}(h:zai s=0){D:List Int}(hc:crD s D=none){a b:Int}(ha:a∉D)(hb:b∉D):¬crP s a b:=fun hp=>by
 have hsym:∀a b,crB s a b=crB s b a:=fun a b=>by rw[Bool.eq_iff_iff,zgx h,zgx h];exact z4t
 have hirr:∀a,crB s a a=false:=fun a=>by
  cases hc:crB s a a with
  |false=>rfl
  |true=>obtain⟨_,⟨w,_,h1,h2⟩,_⟩:=(zgx h a a).1 hc;exact absurd h1 h2
 obtain⟨⟨w,hw,h1,h2⟩,_⟩:=id hp
 have:=zqh hsym hirr hc a (zlu.2 ⟨ha,w,hw,h1⟩) b (zlu.2 ⟨hb,w,hw,h2⟩)
 rw[(zgx h a b).2 hp] at this
 cases this
def cmpL:List Int→List Int→Int
 |[],[]=>0
 |[],_::_ => -1
 |_::_,[]=>1
 |a::r,b::q=>if a<b then -1 else if b<a then 1 else cmpL r q
def insD (l:List Int)(n:Int):List Int:=(l++[n]).mergeSort fun x y=>decide (x≤y)
theorem zm0 (l:List Int)(n:Int):(insD l n).length=l.length+1:=by simp[insD]
theorem zvp {l:List Int}{n m:Int}:m∈insD l n↔m∈l∨m=n:=by simp[insD]
def bet (best x:Option (List Int)):Option (List Int):=match x with
 |none=>best
 |some l=>match best with
  |none=>some l
  |some b=>if cmpL l b<0 then some l else some b
theorem ziu {b x:Option (List Int)}{l:List Int}(h:bet b x=some l):b=some l∨x=some l:=by
 unfold bet at h
 cases x with
 |none=>exact .inl h
 |some m=>
  cases b with
  |none=>exact .inr h
  |some c=>
   simp only at h
   split at h
   ·exact .inr h
   exact .inl h
theorem zf6 {b x:Option (List Int)}(h:b.isSome=true∨x.isSome=true):(bet b x).isSome=true:=by
 unfold bet
 cases x with
 |none=>simpa using h
 |some m=>
  cases b with
  |none=>rfl
  |some c=>simp only;split<;>rfl
def drR (s:List Wit):Nat→List Int→Option (List Int)
 |0,D=>if (crD s D).isSome=true then none else some []
 |m+1,D=>match crD s D with
  |none=>none
  |some p=>bet (bet none ((drR s m (D++[p.1])).map fun l=>insD l p.1)) ((drR s m (D++[p.2])).map fun l=>insD l p.2)
theorem zrh {s:List Wit}{m:Nat}{D l:List Int}(h:drR s (m+1) D=some l):∃a b n r,crD s D=some (a,b)∧(n=a∨n=b)∧drR s m (D++[n])=some r∧l=insD r n:=by
 unfold drR at h
 cases hc:crD s D with
 |none=>rw[hc] at h;cases h
 |some p=>
  obtain⟨a,b⟩:=p
  rw[hc] at h
  rcases ziu h with h|h
  ·rcases ziu h with h|h
   ·cases h
   obtain⟨r,h1,h2⟩:=Option.map_eq_some_iff.1 h
   exact⟨a,b,a,r,rfl,.inl rfl,h1,h2.symm⟩
  obtain⟨r,h1,h2⟩:=Option.map_eq_some_iff.1 h
  exact⟨a,b,b,r,rfl,.inr rfl,h1,h2.symm⟩
theorem zjq {s:List Wit}:∀ {m:Nat} {D l:List Int},drR s m D=some l→l.length=m
 |0,D,l,h=>by unfold drR at h;split at h<;>cases h;rfl
 |m+1,D,l,h=>by
  obtain⟨a,b,n,r,_,_,h3,rfl⟩:=zrh h
  rw[zm0,zjq h3]
theorem z1q {s:List Wit}(hs:zai s=0):∀ {m:Nat} {D l:List Int},drR s m D=some l→∀ {a b:Int},a∉D→b∉D→a∉l→b∉l→¬crP s a b
 |0,D,l,h,a,b,ha,hb,_,_=>by
  unfold drR at h
  cases hc:crD s D with
  |none=>exact z3l hs hc ha hb
  |some p=>rw[hc] at h;simp at h
 |m+1,D,l,h,a,b,ha,hb,hal,hbl=>by
  obtain⟨_,_,n,r,_,_,h3,rfl⟩:=zrh h
  rw[zvp,not_or] at hal hbl
  exact z1q hs h3 (by simp[ha,hal.2]) (by simp[hb,hbl.2]) hal.1 hbl.1
theorem zzt {s:List Wit}(hs:zai s=0):∀(k:Nat) (D L:List Int),L.length=k→(∀a b,a∉D→b∉D→a∉L→b∉L→¬crP s a b)→∃m,m≤k∧(drR s m D).isSome=true
 |k,D,L,hk,h=>by
  cases hc:crD s D with
  |none=>exact⟨0,Nat.zero_le _,by unfold drR;rw[hc];rfl⟩
  |some p=>
   obtain⟨a,b⟩:=p
   obtain⟨h1,h2,h3⟩:=zr3 hs hc
   have hin:a∈L∨b∈L:=by
    by_cases ha:a∈L
    ·exact .inl ha
    by_cases hb:b∈L
    ·exact .inr hb
    exact absurd h3 (h a b h1 h2 ha hb)
   have go:∀n,n∈L→∃m,m+1≤k∧(drR s m (D++[n])).isSome=true:=fun n hn=>by
    have hl:=List.length_erase_of_mem hn
    have hp:=List.length_pos_of_mem hn
    match k,hk with
    |0,hk=>omega
    |k+1,hk=>
     obtain⟨m,h4,h5⟩:=zzt hs k (D++[n]) (L.erase n) (by omega) fun x y hx hy hx2 hy2=>by
      simp only[List.mem_append,List.mem_singleton,not_or] at hx hy
      exact h x y hx.1 hy.1 (fun hh=>hx2 ((List.mem_erase_of_ne hx.2).2 hh)) (fun hh=>hy2 ((List.mem_erase_of_ne hy.2).2 hh))
     exact⟨m,by omega,h5⟩
   rcases hin with hn|hn
   ·obtain⟨m,h4,h5⟩:=go a hn
    refine⟨m+1,h4,?_⟩
    unfold drR;rw[hc]
    exact zf6 (.inl (zf6 (.inr (by simpa using h5))))
   obtain⟨m,h4,h5⟩:=go b hn
   refine⟨m+1,h4,?_⟩
   unfold drR;rw[hc]
   exact zf6 (.inr (by simpa using h5))
def drF (s:List Wit)(m:Nat):Option (List Int):=drR s m []
def zfz (s:List Wit):Option (List Int):=if (drF s 0).isSome=true then drF s 0 else if (drF s 1).isSome=true then drF s 1 else if (drF s 2).isSome=true then drF s 2 else drF s 3
theorem zu1 {s:List Wit}{m:Nat}(hm:m≤3){l:List Int}(h:drF s m=some l)(h2:∀k,k<m→drF s k=none):zfz s=some l:=by
 unfold zfz
 match m,hm with
 |0,_=>rw[if_pos (by rw[h];rfl),h]
 |1,_=>rw[if_neg (by rw[h2 0 (by omega)];simp),if_pos (by rw[h];rfl),h]
 |2,_=>rw[if_neg (by rw[h2 0 (by omega)];simp),if_neg (by rw[h2 1 (by omega)];simp),if_pos (by rw[h];rfl),h]
 |3,_=>rw[if_neg (by rw[h2 0 (by omega)];simp),if_neg (by rw[h2 1 (by omega)];simp),if_neg (by rw[h2 2 (by omega)];simp),h]
theorem zyh {s:List Wit}(h2:∀k,k≤3→drF s k=none):zfz s=none:=by
 unfold zfz
 rw[h2 0 (by omega),h2 1 (by omega),h2 2 (by omega),h2 3 (by omega)];rfl
theorem zxq {s:List Wit}{l:List Int}(h:zfz s=some l):∃m,m≤3∧drF s m=some l∧∀k,k<m→drF s k=none:=by
 have go:∀k,(drF s k).isSome=true∨drF s k=none:=fun k=>by cases drF s k<;>simp
 rcases go 0 with h0|h0
 ·refine⟨0,by omega,?_,fun k hk=>by omega⟩
  unfold zfz at h;rwa [if_pos h0] at h
 rcases go 1 with h1|h1
 ·refine⟨1,by omega,?_,fun k hk=>by rw[show k=0 by omega];exact h0⟩
  unfold zfz at h;rwa [if_neg (by rw[h0];simp),if_pos h1] at h
 rcases go 2 with h3|h3
 ·refine⟨2,by omega,?_,fun k hk=>?_⟩
  ·unfold zfz at h;rwa [if_neg (by rw[h0];simp),if_neg (by rw[h1];simp),if_pos h3] at h
  rcases (show k=0∨k=1 by omega) with rfl|rfl
  ·exact h0
  exact h1
 refine⟨3,by omega,?_,fun k hk=>?_⟩
 ·unfold zfz at h;rwa [if_neg (by rw[h0];simp),if_neg (by rw[h1];simp),if_neg (by rw[h3];simp)] at h
 rcases (show k=0∨k=1∨k=2 by omega) with rfl|rfl|rfl
 ·exact h0
 ·exact h1
 exact h3
def zmo (l:List Int)(w:Wit):Wit:={ w with slips:=w.slips.filter fun n=>!decide (n∈l) }
def zfe (s:List Wit)(l:List Int):List Wit:=s.map (zmo l)
theorem zp6 {s:List Wit}(h:zai s=0)(l:List Int):zai (zfe s l)=0:=by
 obtain⟨h1,h2⟩:=zbc h
 have h3:=zcg h
 unfold zai
 rw[if_neg (by unfold zfe;rw[List.length_map];omega)]
 refine zss (fun w hw=>?_) ?_ (by simp)
 ·obtain⟨u,hu,rfl⟩:=List.mem_map.1 hw
  have h4:=h2 u hu
  have h5:=zgq h4
  have h6:(zmo l u).slips.length≤u.slips.length:=List.length_filter_le _ _
  unfold witE at h4 ⊢
  have hr:zd3 u=true:=by
   revert h4
   repeat' split
   all_goals simp_all
  have hr2:zd3 (zmo l u)=true:=by
   rw[ztm] at hr ⊢
   simp only[xji] at hr ⊢
   obtain⟨g1,g2,g3,g4,g5⟩:=hr
   refine⟨?_,g2,g3,g4,?_⟩
   ·rw[zea] at g1 ⊢
    exact⟨g1.1.sublist List.filter_sublist,fun n hn=>g1.2 n (List.mem_filter.1 hn).1⟩
   rw[Bool.not_eq_true',List.any_eq_false] at g5 ⊢
   intro n hn
   have:=g5 n hn
   simp only[decide_eq_true_eq] at this ⊢
   exact fun hh=>this (List.mem_filter.1 hh).1
  rw[if_pos hr] at h4
  rw[if_pos hr2]
  revert h4
  rw[if_neg (show ¬30<(zmo l u).slips.length by omega),if_neg (show ¬30<u.slips.length by omega)]
  exact id
 unfold zfe
 rw[List.map_map]
 exact h3
theorem zwb {s:List Wit}{l:List Int}{a b:Int}:crP (zfe s l) a b↔a∉l∧b∉l∧crP s a b:=by
 have hm:∀ {w:Wit} {n:Int},n∈(zmo l w).slips↔n∈w.slips∧n∉l:=fun {w n}=>by
  show n∈w.slips.filter _↔_
  rw[List.mem_filter];simp
 constructor
 ·rintro⟨⟨w,hw,h1,h2⟩,⟨u,hu,h3,h4⟩,v,hv,h5,h6⟩
  obtain⟨w,gw,rfl⟩:=List.mem_map.1 hw
  obtain⟨u,gu,rfl⟩:=List.mem_map.1 hu
  obtain⟨v,gv,rfl⟩:=List.mem_map.1 hv
  rw[hm] at h1 h2 h3 h4 h5 h6
  exact⟨h1.2,h2.2,⟨w,gw,h1.1,h2.1⟩,⟨u,gu,h3.1,fun h=>h4 ⟨h,h2.2⟩⟩,v,gv,h5.1,fun h=>h6 ⟨h,h1.2⟩⟩
 rintro⟨ha,hb,⟨w,hw,h1,h2⟩,⟨u,hu,h3,h4⟩,v,hv,h5,h6⟩
 exact⟨⟨_,List.mem_map_of_mem hw,hm.2 ⟨h1,ha⟩,hm.2 ⟨h2,hb⟩⟩,⟨_,List.mem_map_of_mem hu,hm.2 ⟨h3,ha⟩,fun h=>h4 (hm.1 h).1⟩,_,List.mem_map_of_mem hv,hm.2 ⟨h5,hb⟩,fun h=>h6 (hm.1 h).1⟩
theorem zis {s:List Wit}(h:zai s=0)(l:List Int):(crR (zfe s l)).isSome=true↔∃a b,a∉l∧b∉l∧crP s a b:=by
 rw[zur (zp6 h l)]
 constructor
 ·rintro⟨a,b,h⟩;exact⟨a,b,zwb.1 h⟩
 rintro⟨a,b,h⟩;exact⟨a,b,zwb.2 h⟩
theorem z0x {s:List Wit}(h:zai s=0)(l:List Int){k:Nat}(hl:l.length≤k)(hk:∀m,m≤k→drF s m=none):(crR (zfe s l)).isSome=true:=by
 rw[zis h]
 apply Classical.byContradiction
 intro hno
 obtain⟨m,h1,h2⟩:=zzt h l.length [] l rfl fun a b _ _ ha hb hc=>hno ⟨a,b,ha,hb,hc⟩
 have:=hk m (by omega)
 unfold drF at this
 rw[this] at h2;cases h2
theorem zyo {s:List Wit}(h:zai s=0):(crR s).isSome=(crR (zfe s [])).isSome:=by
 rw[Bool.eq_iff_iff,zis h,zur h]
 simp
theorem zxi {s:List Wit}(h:zai s=0){d:List Int}(hd:zfz s=some d) :
  d.length≤3∧(crR (zfe s d)).isSome=false∧(crR s).isSome=decide (0<d.length)∧∀l:List Int,l.length<d.length→(crR (zfe s l)).isSome=true:=by
 obtain⟨m,hm,h1,h2⟩:=zxq hd
 have hl:=zjq h1
 subst hl
 have hno:(crR (zfe s d)).isSome=false:=by
  cases hc:(crR (zfe s d)).isSome with
  |false=>rfl
  |true=>
   obtain⟨a,b,ha,hb,hp⟩:=(zis h d).1 hc
   exact absurd hp (z1q h h1 (by simp) (by simp) ha hb)
 have hless:∀l:List Int,l.length<d.length→(crR (zfe s l)).isSome=true:=fun l hl=>z0x h l (Nat.le_refl _) fun k hk=>h2 k (by omega)
 refine⟨hm,hno,?_,hless⟩
 rw[zyo h]
 cases d with
 |nil=>exact hno
 |cons a r=>rw[hless [] (by simp)];simp
end Go.Am.Ds
end
section
namespace Go.Am.Ds
open Go Go.Am Go.Proofs Tryz
attribute [local simp] vrun zay zbm vop vopA zcn zab.back hidI hidF zd4 bm Nat.testBit_eq_decide_div_mod_eq za2 zbp zck vO zbj vlen zbv zb6 zev zau zap zcx vbox zbh zeq zcb zer zcw zaw zcy zax zc0 zbi zcz zbu zbq vbnd zdh vidx zbr zee zav zbx zde zeh zfd zfa vbin vsc vsc1 vscs vscl zb8 aint zca zef zbb zdb zex pvcV pvc pvcs tput tget zdx zab.get zab.alloc zab.put zab.drop zab.empty zce vput zei zbd zcf zdu chunk List.range List.range.loop za7 zb2 za8 frz frzL PV.isF PV.allF PV.scal PV.allS retP subT zem PV.one PV.ids PV.idsL zcj beq_eq zb9 zcc
attribute [local simp] zW tup2
theorem zw7 {g:Fz}:∀ {l:List (Int×Int)} {es:List (Value×Value)},es.length=(kvs (kvM l)).length→(∀(j:Nat) p p',(kvs (kvM l))[j]?=some p→es[j]?=some p'→FR g p.1 p'.1)→(∀(j:Nat) p p',(kvs (kvM l))[j]?=some p→es[j]?=some p'→FR g p.2 p'.2)→zlx es=some (kvM l)
 |[],es,hl,_,_=>by
  have:es=[]:=List.eq_nil_of_length_eq_zero (by rw[hl];rfl)
  subst this;rfl
 |(n,v)::r,[],hl,_,_=>by simp[kvM,kvs] at hl
 |(n,v)::r,(a,b)::es,hl,hk,hv=>by
  have h1:=hk 0 _ _ rfl rfl
  have h2:=hv 0 _ _ rfl rfl
  cases h1;cases h2
  have ih:=zw7 (l:=r) (es:=es) (g:=g) (by simpa[kvM,kvs] using hl) (fun j p p' h3 h4=>hk (j+1) p p' (by simpa[kvM,kvs] using h3) (by simpa using h4)) (fun j p p' h3 h4=>hv (j+1) p p' (by simpa[kvM,kvs] using h3) (by simpa using h4))
  simp only[zlx,pvc,ih,kvM,List.map_cons]
theorem z8z {vh:zab}{i:Nat}{es:List (Int×Int)}(hi:vh.get i=some (.map []))(hnd:(es.map (·.1)).Nodup) :
  zbo prog 158 [.mapv i,.vmap (kvs (kvM es))] vh fun v vh'=>v=.tup []∧vh'=vh.put i (.map (kvs (kvM es))):=fun lo g σ h args' ha s=>by
 obtain⟨a0,r0,rfl,hv0,hr0⟩:=ha.zar
 obtain⟨a1,r1,rfl,hv1,hr1⟩:=hr0.zar
 have:=hr1.zbw;subst this
 cases hv0 with
 |fr _ _ h=>cases h
 |mapv _ o a k hin hs=>
  have hv1:=hv1.isF (by simp[kvM,kvs,PV.isF])
  cases hv1 with
  |vmap _ m es' hgm hlen rk rv=>
   obtain⟨es0,h1,h2,h3,h4⟩:=(s.obj i _ hi).2
   have:es0=[]:=List.eq_nil_of_length_eq_zero (by have:=h3.1;simpa using this.symm)
   subst this
   have hlow:=s.low i _ hi rfl
   have hdis:=s.dis i _ hi rfl
   have hmh:=s.fz _ _ hgm
   have h5:=s.write hi rfl (x':=.map (kvs (kvM es))) (.map es') ⟨es',by rw[zaa.zaq _ _ _ _ (zaa.zak h1),if_pos rfl],h2,⟨by simp[hlen],fun j p p' hp hp'=>?_⟩,⟨by simp[hlen],fun j p p' hp hp'=>?_⟩⟩
   ·rw[hs] at h1 hlow hdis h5
    simp only at h1 hlow hdis h5
    have hmo:m≠o:=fun he=>by rw[he,hdis] at hgm;cases hgm
    have hrd:=zw7 hlen.symm rk rv
    refine(zy7 (lo:=lo) (h:=h) (h':=h.put o (some (.map es'))) (r:=.tuple #[]) (fun h n m es l a b c d e f=>xbt h n m es l a b c d e f) ?_).mono fun r h' hq=>?_
    ·unfold cpyV
     simp only
     rw[show (Nat.beq m o||!Nat.ble lo o)=false by rw[beq_eq,decide_eq_false hmo,show Nat.ble lo o=true by rw[Nat.ble_eq];exact hlow];rfl,xjh,h1,hmh]
     simp only[hrd]
     rw[show zkz ((kvM es).map (·.1))=true by rw[zi3];exact zit.2 hnd,xjg]
    obtain⟨rfl,rfl⟩:=hq
    exact⟨g,σ,.tup [],_,.fr _ _ (.tup [] #[] rfl (fun i v v' h=>by simp at h)),h5.1,Fz.le_refl g,fun _ _=>rfl,h5.2,Nat.le_refl _,GOwn.refl _ _ _ _,rfl,rfl⟩
   ·rw[List.getElem?_map] at hp hp'
    obtain⟨q,hq,rfl⟩:=Option.map_eq_some_iff.1 hp
    obtain⟨q',hq',rfl⟩:=Option.map_eq_some_iff.1 hp'
    exact rk j q q' hq hq'
   rw[List.getElem?_map] at hp hp'
   obtain⟨q,hq,rfl⟩:=Option.map_eq_some_iff.1 hp
   obtain⟨q',hq',rfl⟩:=Option.map_eq_some_iff.1 hp'
   exact rv j q q' hq hq'
theorem zu8 (l:List (Int×Int))(n:Int):(kvs (kvM l)).filter (zo2 n)=kvs (kvM (l.filter fun x=>!decide (x.1=n))):=by
 induction l with
 |nil=>rfl
 |cons a r ih=>
  obtain⟨k,v⟩:=a
  have e:kvs (kvM ((k,v)::r))=(.int .i64 k,.int .u32 v)::kvs (kvM r):=rfl
  rw[e,List.filter_cons,List.filter_cons,ih]
  by_cases hk:k=n
  ·subst hk;simp[zo2]
  simp[zo2,hk];rfl
def drV (o:Option (List Int))(v:PV)(vh':zab):Prop:=∃x,v=.tup [x,.bool o.isSome]∧(((o.getD []).map (PV.int .i64)=[]∧x=.sl0)∨∃i,x=.grow i (o.getD []).length true∧((o.getD []).map (PV.int .i64)=[]∨vh'.get i=some (.grow 1 ((o.getD []).map (.int .i64)))))
theorem z6e {vh:zab}{f:FuncId}{args es:List PV}{sz n:Nat}{b:Bool}(hne:es.length=n)(h0:0<sz)(hp:zbo prog f args zab.empty fun v vh'=>∃x,v=.tup [x,.bool b]∧((es=[]∧x=.sl0)∨∃i,x=.grow i n true∧(es=[]∨vh'.get i=some (.grow sz es))))(hf:PV.allF args=true) :
  zbo prog f args vh fun v vh'=>v=.tup [.grow vh.next n true,.bool b]∧vh'=vh.alloc (.grow sz es):=fun lo g σ h args' ha s=>by
 subst hne
 have ha0:PRs (VR g σ zab.empty.next) args args':=(ha.isF hf).vr
 refine(hp lo g σ h args' ha0 (.none s.fz s.lole σ)).mono fun r h' ⟨g',σ',v,vh',h1,h2,h3,h4,h5,h6,h7,x0,h8,h9⟩=>?_
 subst h8
 have hkeep:∀o,o<h.next→h'.get o=h.get o:=fun o ho=>h5.pres o ho fun i x hx=>by cases hx
 have hg:∀o x,g' o=some x→o<h.next→∃y,g o=some y:=fun o x hx ho=>by
  rcases h7 o x hx ho with h|⟨i,y,h,_⟩
  ·exact⟨_,h⟩
  cases h
 obtain⟨cs',hcs,hv⟩:∃cs':Array Value,r=.tuple cs'∧PRs (VR g' σ' vh'.next) [x0,.bool b] cs'.toList:=by
  cases h1 with
  |fr _ _ h=>cases h with|tup _ cs' hs r=>exact⟨cs',rfl,by simpa using hs,fun i v v' hv hv'=>.fr _ _ (r i v v' hv (by simpa using hv'))⟩
  |tup _ cs' hs r=>exact⟨cs',rfl,by simpa using hs,fun i v v' hv hv'=>r i v v' hv (by simpa using hv')⟩
 subst hcs
 obtain⟨a0,r0,hr0,hv0,hr1⟩:=hv.zar
 obtain⟨a1,r1,rfl,hv1,hr2⟩:=hr1.zar
 have:=hr2.zbw;subst this
 have hv1:=hv1.isF rfl
 by_cases hes:es=[]
 ·subst hes
  have e1:a0=.slice none 0 0:=by
   rcases h9 with⟨_,rfl⟩|⟨i,rfl,_⟩
   ·cases hv0 with
    |fr _ _ h=>cases h;rfl
   generalize hm:([]:List PV).length=m at hv0
   generalize htr:true=tr at hv0
   cases hv0 with
   |fr _ _ h=>cases h
   |growN=>rfl
   |grow0=>cases htr
   |grow _ _ o a k _ hi' hs hn=>simp at hm;omega
  subst e1
  have hno:∀j z,(vh.alloc (.grow sz [])).get j=some z→(j=vh.next∧z=.grow sz [])∨(j<vh.next∧vh.get j=some z):=fun j z hz=>by
   rw[zab.zat] at hz
   by_cases hj:j=vh.next
   ·subst hj;simp at hz;exact .inl ⟨rfl,hz.symm⟩
   simp[hj] at hz;exact .inr ⟨(s.obj j z hz).1,hz⟩
  refine⟨g',σ,.tup [.grow vh.next 0 true,.bool b],vh.alloc (.grow sz []),?_,⟨fun j z hz=>?_,fun j k z u hz hu hlz hlu he=>?_,fun j z hz hlz=>?_,h2.fz,fun j z hz hlz=>?_,h2.lole⟩,h3,fun _ _=>rfl,⟨h5.next,fun o ho _=>hkeep o ho,fun j z hz hlz hlt=>?_⟩,Nat.le_succ _,fun o x hx ho=>.inl (h7 o x hx ho |>.elim id fun⟨i,y,h,_⟩=>by cases h),rfl,rfl⟩
  ·have hh:PRs (VR g' σ (vh.alloc (.grow sz [])).next) [.grow vh.next 0 true,.bool b] cs'.toList:=by
    rw[hr0]
    exact .cons (.growN _ _) (.cons (.fr _ _ hv1) .nil)
   exact .tup _ _ (by simpa using hh.1) (fun i v v' hv hv'=>hh.2 i v v' hv (by simpa using hv'))
  ·rcases hno j z hz with⟨rfl,rfl⟩|⟨hj,hz⟩
   ·exact⟨Nat.lt_succ_self _,h0,by simp,by decide,.inl rfl⟩
   obtain⟨k1,k2⟩:=s.obj j z hz
   exact⟨Nat.lt_succ_of_lt hj,k2.mono h3 (Nat.le_succ _) (fun _ _=>rfl) hj fun hlz=>hkeep _ (k2.lt hlz)⟩
  ·rcases hno j z hz with⟨_,rfl⟩|⟨hj,hz⟩
   ·cases hlz
   rcases hno k u hu with⟨_,rfl⟩|⟨hk,hu⟩
   ·cases hlu
   exact s.inj j k z u hz hu hlz hlu he
  ·rcases hno j z hz with⟨_,rfl⟩|⟨hj,hz⟩
   ·cases hlz
   exact s.low j z hz hlz
  ·rcases hno j z hz with⟨_,rfl⟩|⟨hj,hz⟩
   ·cases hlz
   have hd:=s.dis j z hz hlz
   have hlt:=(s.obj j z hz).2.lt hlz
   cases hgo:g' (σ j).1 with
   |none=>rfl
   |some y=>
    obtain⟨w,hw⟩:=hg _ y hgo hlt
    rw[hd] at hw;cases hw
  rcases hno j z hz with⟨_,rfl⟩|⟨hj,hz⟩
  ·cases hlz
  exact⟨j,z,hz,hlz,rfl⟩
 obtain⟨i,hx,h10⟩:=h9.resolve_left fun h=>hes h.1
 clear h9
 subst hx
 have h9:vh'.get i=some (.grow sz es):=h10.resolve_left hes
 have hne:0<es.length:=List.length_pos_iff.2 hes
 have hlive:VObj.live (.grow sz es)=true:=by
  cases es with
  |nil=>exact absurd rfl hes
  |cons=>rfl
 obtain⟨hi,hob⟩:=h2.obj i _ h9
 have hge:h.next≤(σ' i).1:=by
  rcases Nat.lt_or_ge (σ' i).1 h.next with hlt|hge
  ·obtain⟨j,y,hj,_⟩:=h5.own i _ h9 hlive hlt
   cases hj
  exact hge
 have hσ:∀j,j<vh.next→(σ.put vh.next (σ' i)) j=σ j:=fun j hj=>Sg.zh5 _ _ (by omega)
 have split:∀j z,(vh.alloc (.grow sz es)).get j=some z→(j=vh.next∧z=.grow sz es)∨(j<vh.next∧vh.get j=some z):=fun j z hz=>by
  rw[zab.zat] at hz
  by_cases hj:j=vh.next
  ·subst hj;simp at hz;exact .inl ⟨rfl,hz.symm⟩
  simp[hj] at hz;exact .inr ⟨(s.obj j z hz).1,hz⟩
 refine⟨g',σ.put vh.next (σ' i),.tup [.grow vh.next es.length true,.bool b],vh.alloc (.grow sz es),?_,⟨fun j z hz=>?_,fun j k z u hz hu hlz hlu he=>?_,fun j z hz hlz=>?_,h2.fz,fun j z hz hlz=>?_,h2.lole⟩,h3,hσ,⟨h5.next,fun o ho _=>hkeep o ho,fun j z hz hlz hlt=>?_⟩,Nat.le_succ _,fun o x hx ho=>.inl (h7 o x hx ho |>.elim id fun⟨i,y,h,_⟩=>by cases h),rfl,rfl⟩
 ·have hh:PRs (VR g' (σ.put vh.next (σ' i)) (vh.alloc (.grow sz es)).next) [.grow vh.next es.length true,.bool b] cs'.toList:=by
   rw[hr0]
   refine .cons ?_ (.cons (.fr _ _ hv1) .nil)
   generalize hm:es.length=m at hv0 hne ⊢
   cases hv0 with
   |fr _ _ h=>cases h
   |growN=>omega
   |grow _ _ o a k _ hi' hs hn=>exact .grow vh.next m o a k true (Nat.lt_succ_self _) (by rw[Sg.zae];exact hs) hn
  exact .tup _ _ (by simpa using hh.1) (fun i v v' hv hv'=>hh.2 i v v' hv (by simpa using hv'))
 ·rcases split j z hz with⟨rfl,rfl⟩|⟨hj,hz⟩
  ·refine⟨Nat.lt_succ_self _,?_⟩
   obtain⟨q0,q1,q2,q3⟩:=hob
   refine⟨q0,q1,q2,q3.imp_right fun⟨s0,cs',k1,k2,k3,k4⟩=>⟨s0,cs',by rw[Sg.zae];exact k1,by rw[Sg.zae];exact k2,k3,by rw[Sg.zae];exact k4⟩⟩
  obtain⟨k1,k2⟩:=s.obj j z hz
  exact⟨Nat.lt_succ_of_lt hj,k2.mono h3 (Nat.le_succ _) hσ hj fun hlz=>hkeep _ (k2.lt hlz)⟩
 ·rcases split j z hz with⟨hj,_⟩|⟨hj,hz⟩<;>rcases split k u hu with⟨hk,_⟩|⟨hk,hu⟩
  ·rw[hj,hk]
  ·rw[hj,Sg.zae,hσ k hk] at he
   have:=(s.obj k u hu).2.lt hlu;omega
  ·rw[hk,Sg.zae,hσ j hj] at he
   have:=(s.obj j z hz).2.lt hlz;omega
  rw[hσ j hj,hσ k hk] at he;exact s.inj j k z u hz hu hlz hlu he
 ·rcases split j z hz with⟨rfl,rfl⟩|⟨hj,hz⟩
  ·rw[Sg.zae];exact h2.low i _ h9 hlive
  rw[hσ j hj];exact s.low j z hz hlz
 ·rcases split j z hz with⟨rfl,rfl⟩|⟨hj,hz⟩
  ·rw[Sg.zae];exact h2.dis i _ h9 hlive
  rw[hσ j hj]
  have hd:=s.dis j z hz hlz
  have hlt:=(s.obj j z hz).2.lt hlz
  cases hgo:g' (σ j).1 with
  |none=>rfl
  |some y=>
   obtain⟨w,hw⟩:=hg _ y hgo hlt
   rw[hd] at hw;cases hw
 rcases split j z hz with⟨rfl,rfl⟩|⟨hj,hz⟩
 ·rw[Sg.zae] at hlt;omega
 rw[hσ j hj] at hlt ⊢;exact⟨j,z,hz,hlz,rfl⟩
theorem p197 (a b:Int):zaj prog 197 [.int .i64 a,.int .i64 b] fun r=>r=.int .i64 (if a<b then -1 else if b<a then 1 else 0):=by
 refine .zag func197 rfl rfl ?_
 refine .sr ?_
 refine .seq ?_
 refine .zac [0,1,2] rfl zz0 ?_
 refine .rn [0] _ ?_
 refine .pc rfl rfl rfl rfl rfl call217 (p217 a) ?_
 refine .rn [2] [] ?_
 refine .done (.seq ?_)
 refine .zac [0,1,2] rfl zz0 ?_
 refine .rn [0] _ ?_
 refine .pc rfl rfl rfl rfl rfl call217 (p217 b) ?_
 refine .rn [2] [] ?_
 refine .done (.seq (.sr ?_))
 refine .cs ?_ ?_<;>intro c11
 ·try simp at c11
 try simp at c11
 refine .skip (.seq (.sr ?_))
 refine .cs ?_ ?_<;>intro c13
 ·try simp at c13
 try simp at c13
 refine .skip (.seq (.sr ?_))
 refine .cs ?_ ?_<;>intro c16
 ·try simp at c16
  refine .sr ?_
  refine .ret ?_
  refine⟨_,_,zz4,zz4,?_⟩
  rw[if_pos c16]
 try simp at c16
 refine .skip (.seq (.sr ?_))
 refine .cs ?_ ?_<;>intro c19
 ·try simp at c19
  refine .sr ?_
  refine .ret ?_
  refine⟨_,_,zz4,zz4,?_⟩
  rw[if_neg (by omega),if_pos c19]
 try simp at c19
 refine .skip (.sr ?_)
 refine .ret ?_
 refine⟨_,_,zz4,zz4,?_⟩
 rw[if_neg (by omega),if_neg (by omega)]
theorem p160 (l m:List Int)(hl:l.length<4294967296):zaj prog 160 [ints l,ints m] fun r=>r=.int .i64 (cmpL l m):=by
 refine .zag func160 rfl rfl ?_
 refine .sr ?_
 refine .seq (.sr ?_)
 refine .block ?_
 refine .zbl (fun k:Nat=>([(0,ints l),(1,ints m),(9,ints l),(10,.int .i64 l.length),(11,.int .i64 k)],zab.empty)) (fun k=>k≤l.length∧k≤m.length∧cmpL l m=cmpL (l.drop k) (m.drop k)) (fun k=>l.length - k) 0 (by simp) (.pure (by simp[*]) (by simp)) ?_
 rintro k ⟨hk,hkm,hr⟩
 simp only at hk hkm hr ⊢
 refine .sr ?_
 refine .seq ?_
 refine .cs ?_ ?_<;>intro c12
 ·try simp at c12
  have hw2:=wr1 k
  refine .skip (.seq (.block (.sr ?_)))
  refine .seq (.sr ?_)
  refine .cs ?_ ?_<;>intro c19
  ·try simp at c19
   have:k=m.length:=by omega
   rw[this,List.drop_length] at hr
   obtain⟨x,r,hx⟩:∃x r,l.drop m.length=x::r:=⟨_,_,List.drop_eq_getElem_cons (by omega)⟩
   refine .sr ?_
   refine .ret ?_
   refine⟨_,_,zz4,zz4,?_⟩
   rw[hr,hx];rfl
  try simp at c19
  have c19:k<m.length:=by omega
  rw[List.drop_eq_getElem_cons c12,List.drop_eq_getElem_cons c19,cmpL] at hr
  refine .skip (.sr ?_)
  refine .seq ?_
  refine .zac [0,1,2,3] rfl zz0 ?_
  refine .rn [0,1] _ ?_
  refine .pc rfl rfl rfl rfl rfl call197 (p197 l[k] m[k]) ?_
  refine .rn [3] [] ?_
  refine .done (.sr ?_)
  refine .cs ?_ ?_<;>intro c28
  ·try simp at c28
   have hc:cmpL l m=if l[k]<m[k] then -1 else if m[k]<l[k] then 1 else 0:=by
    rw[hr]
    by_cases h1:l[k]<m[k]
    ·rw[if_pos h1,if_pos h1]
    rw[if_neg h1,if_neg h1]
    by_cases h2:m[k]<l[k]
    ·rw[if_pos h2,if_pos h2]
    simp[h1,h2] at c28
   refine .sr ?_
   refine .ret ?_
   refine⟨_,_,zz4,zz4,?_⟩
   rw[hc]
  try simp at c28
  have hc:cmpL l m=cmpL (l.drop (k+1)) (m.drop (k+1)):=by
   rw[hr]
   by_cases h1:l[k]<m[k]
   ·simp[h1] at c28
   by_cases h2:m[k]<l[k]
   ·simp[h1,h2] at c28
   rw[if_neg h1,if_neg h2]
  refine .skip (.rn ?_)
  refine⟨k+1,⟨c12,c19,hc⟩,zz5,.pure (by simp[*]) (by simp)⟩
 try simp at c12
 have hk2:k=l.length:=by omega
 rw[hk2,List.drop_length] at hr
 refine .exit (.seq (.sr ?_))
 refine .cs ?_ ?_<;>intro c35
 ·try simp at c35
  obtain⟨x,r,hx⟩:∃x r,m.drop l.length=x::r:=⟨_,_,List.drop_eq_getElem_cons (by omega)⟩
  refine .sr ?_
  refine .ret ?_
  refine⟨_,_,zz4,zz4,?_⟩
  rw[hr,hx];rfl
 try simp at c35
 have:m.drop l.length=[]:=List.drop_eq_nil_of_le (by omega)
 refine .skip (.sr ?_)
 refine .ret ?_
 refine⟨_,_,zz4,zz4,?_⟩
 rw[hr,this];rfl
theorem p95D (s:List Wit)(D0:List Int)(h:zai s=0):zaj prog 95 [.vmap (kvs (kvM (hM s D0)))] fun r=>r=.tup [.int .i64 ((crD s D0).getD (0,0)).1,.int .i64 ((crD s D0).getD (0,0)).2,.bool (crD s D0).isSome]:=by
 have hlen:=zh4 h
 have hsl:=z7v s D0
 have hle:=xcq s D0
 have h125:zaj prog 125 [.vmap (kvs (kvM (hM s D0)))] fun r=>r=ints (slD s D0):=by
  have h:=p125 (kvM (hM s D0)) (by rw[zi3];exact zw4 s D0) (by simp only[kvM,List.length_map];omega)
  rw[zi3] at h;exact h
 have hpf:∀n∈slD s D0,zh7 .i64 n (kvs (kvM (hM s D0)))=some (some (.int .u32 (vM s n))):=fun n hn=>by
  have h0:=(zlu.1 hn).1
  have h1:n∈(zdn s).map (·.1):=zf9.2 (zlu.1 hn).2
  have h2:=zr1.2 h1
  rw[zgf,z7j h0]
  unfold vM
  cases hg:getM (zdn s) n with
  |none=>rw[hg] at h2;cases h2
  |some v=>rfl
 have hL:(slD s D0).length≤720:=by omega
 clear hsl hlen hle
 have hcr:crD s D0=crO s (slD s D0):=rfl
 generalize hM:kvs (kvM (hM s D0))=M at hpf h125
 generalize hLL:slD s D0=L at hpf hL h125 hcr
 refine .zag func95 rfl rfl ?_
 refine .sr ?_
 refine .scope ?_
 refine .seq ?_
 refine .zac [0,1,2] rfl zz0 ?_
 refine .rn [0] _ ?_
 refine .pc rfl rfl rfl rfl rfl call125 (h125) ?_
 refine .rn [2] [] ?_
 refine .done (.sr ?_)
 refine .seq ?_
 refine .label ?_
 refine .seq (.sr ?_)
 refine .block ?_
 refine .zbl (fun k:Nat=>([(0,.vmap M),(5,ints L),(6,.int .i64 0),(7,.int .i64 0),(8,.bool false),(15,ints L),(16,.int .i64 L.length),(17,.int .i64 k)],zab.empty)) (fun k=>k≤L.length∧crD s D0=crO s (L.drop k)) (fun k=>L.length - k) 0 ⟨by simp,by simpa using hcr⟩ (.pure (by simp[*]) (by simp)) ?_
 rintro k ⟨hk,hr⟩
 simp only at hk hr ⊢
 refine .sr ?_
 refine .seq ?_
 refine .cs ?_ ?_<;>intro c18
 ·try simp at c18
  have hw2:=wr1 k
  rw[List.drop_eq_getElem_cons c18] at hr
  obtain⟨D,hD⟩:∃D,L.drop (k+1)=D:=⟨_,rfl⟩
  have hDl:D.length=L.length - (k+1):=by rw[← hD,List.length_drop]
  have hDm:∀x∈D,x∈L:=fun x hx=>List.mem_of_mem_drop (hD▸hx)
  have hDt:(L.map (PV.int .i64)).drop (k+1)=D.map (.int .i64):=by rw[← List.map_drop,hD]
  have hDt2:((L.map (PV.int .i64)).drop (k+1)).take (L.length - (k+1))=D.map (.int .i64):=by rw[hDt];exact List.take_of_length_le (by rw[List.length_map];omega)
  have hDt3:List.take (L.length - (k+1)) (D.map (PV.int .i64))=D.map (.int .i64):=List.take_of_length_le (by rw[List.length_map];omega)
  have hk1':0≤(k:Int)+1∧(k:Int)+1≤(L.length:Int):=by omega
  have hDn:D.length≤720:=by omega
  clear hDl
  have hpa:=hpf L[k] (List.getElem_mem c18)
  have hk1:k+1≤L.length:=c18
  refine .skip (.seq (.block (.sr ?_)))
  refine .sr ?_
  refine .block ?_
  refine .zbl (fun j:Nat=>([(0,.vmap M),(5,ints L),(6,.int .i64 0),(7,.int .i64 0),(8,.bool false),(10,.int .i64 L[k]),(15,ints L),(16,.int .i64 L.length),(17,.int .i64 k),(25,ints D),(26,.int .i64 D.length),(27,.int .i64 j)],zab.empty)) (fun j=>j≤D.length∧D.find? (crB s L[k])=(D.drop j).find? (crB s L[k])) (fun j=>D.length - j) 0 (by simp) (.pure (by simp[*]) (by simp)) ?_
  rintro j ⟨hj,hf⟩
  simp only at hj hf ⊢
  refine .sr ?_
  refine .seq ?_
  refine .cs ?_ ?_<;>intro c28
  ·try simp at c28
   have hw3:=wr1 j
   rw[List.drop_eq_getElem_cons c28,List.find?_cons] at hf
   have hpb:=hpf D[j] (hDm _ (List.getElem_mem c28))
   obtain⟨cb,hcb⟩:∃x,crB s L[k] D[j]=x:=⟨_,rfl⟩
   have h96:=p96 (vM s L[k]) (vM s D[j])
   rw[show zmi (vM s L[k]) (vM s D[j])=cb from hcb] at h96
   rw[hcb] at hf
   refine .skip (.seq (.block (.sr ?_)))
   refine .seq ?_
   refine .zac [0,1,2,3,4,5,6,7,8,9,10] rfl zz0 ?_
   refine .rn [0,1,2,3,4,5] _ ?_
   refine .pc rfl rfl rfl rfl rfl call96 (h96) ?_
   refine .rn [7,8,9,10] [] ?_
   refine .done (.sr ?_)
   refine .cs ?_ ?_<;>intro c41
   ·try simp at c41
    rw[c41] at hf
    refine .sr ?_
    refine .exit (.sr ?_)
    refine .ret ?_
    refine⟨_,_,zz4,zz4,?_⟩
    have hx:crD s D0=some (L[k],D[j]):=by rw[hr];unfold crO;rw[hD,hf]
    rw[hx];simp[c41]
   try simp at c41
   rw[c41] at hf
   refine .skip (.rn ?_)
   refine⟨j+1,⟨c28,hf⟩,zz5,.pure (by simp[*]) (by simp)⟩
  try simp at c28
  have hj2:j=D.length:=by omega
  rw[hj2,List.drop_length] at hf
  refine .exit (.rn ?_)
  refine⟨k+1,⟨c18,by
   rw[hr,hD]
   show (match D.find? (crB s L[k]) with|some b=>some (L[k],b)|none=>crO s D)=crO s D
   rw[hf];rfl⟩,zz5,.pure (by simp[*]) (by simp)⟩
 try simp at c18
 have hk2:k=L.length:=by omega
 rw[hk2,List.drop_length] at hr
 refine .exit (.sr ?_)
 refine .ret ?_
 refine⟨_,_,zz4,zz4,?_⟩
 rw[hr];rfl
def xD (s:List Wit)(m:Nat)(D:List Int)(n:Int):Option (List Int):=(drR s m (D++[n])).map fun l=>insD l n
def zjg (s:List Wit)(m:Nat)(D:List Int)(a b:Int):Nat→Option (List Int)
 |0=>none
 |1=>bet none (xD s m D a)
 |_=>bet (bet none (xD s m D a)) (xD s m D b)
theorem zxl (s:List Wit)(m:Nat)(D:List Int)(a b:Int){k:Nat}(h:k<2):zjg s m D a b (k+1)=bet (zjg s m D a b k) (xD s m D (if k=0 then a else b)):=by
 rcases (show k=0∨k=1 by omega) with rfl|rfl<;>rfl
theorem z0r {s:List Wit}{m:Nat}{D:List Int}{n:Int}{l:List Int}(h:xD s m D n=some l):l.length=m+1:=by
 unfold xD at h
 obtain⟨r,h1,rfl⟩:=Option.map_eq_some_iff.1 h
 rw[zm0,zjq h1]
theorem zzm {s:List Wit}{m:Nat}{D:List Int}{a b:Int}{k:Nat}{l:List Int}(h:zjg s m D a b k=some l):l.length=m+1:=by
 match k with
 |0=>cases h
 |1=>rcases ziu h with h|h;cases h;exact z0r h
 |k+2=>rcases ziu h with h|h;(rcases ziu h with h|h;cases h;exact z0r h);exact z0r h
theorem p93z (s:List Wit)(h:zai s=0)(D:List Int):zbo prog 93 [.vmap (kvs (kvM (hM s D))),.int .i64 0] zab.empty fun v vh'=>drV (drR s 0 D) v vh':=by
 have q95:=p95D s D h
 have hd:drR s 0 D=if (crD s D).isSome=true then none else some []:=rfl
 obtain⟨c,hc⟩:∃c,crD s D=c:=⟨_,rfl⟩
 rw[hc] at q95 hd
 refine .zag func93 rfl rfl ?_
 refine .sr ?_
 refine .seq ?_
 refine .zac [0,1,2,3,4,5,6,7,8] rfl zz0 ?_
 refine .rn [0] _ ?_
 refine .pc rfl rfl rfl rfl rfl call95 (q95) ?_
 refine .rn [2,3,4,5,6,7,8] [] ?_
 refine .done (.seq (.seq ?_))
 refine .zac [0,1,2,3,4,5] rfl zz0 ?_
 refine .rn [0,1,2] _ ?_
 refine .split (t:=24) rfl (fun c24=>?_) (fun c24=>?_)
 ·try rw[c24]
  try simp at c24
  have hcn:c=none:=by cases c<;>simp_all
  subst hcn
  refine .rn [3,4,5] [] ?_
  refine .done (.zdm rfl (.seq ?_))
  refine .zac [0,1,2,3,4,5,6,7] rfl zz0 ?_
  refine .rn [0,1,2] _ ?_
  refine .split (t:=30) rfl (fun c30=>?_) (fun c30=>?_)
  ·try rw[c30]
   try simp at c30
   refine .rn [3,4,5,6,7] [] ?_
   refine .done (.ret ?_)
   refine⟨_,zz4,.sl0,?_,.inl ⟨?_,rfl⟩⟩<;>rw[hd]<;>rfl
  try rw[c30]
  try simp at c30
 try rw[c24]
 try simp at c24
 obtain⟨p,rfl⟩:∃p,c=some p:=by cases c;simp_all;exact⟨_,rfl⟩
 refine .rn [3,4,5] [] ?_
 refine .done ?_
 refine .cs ?_ ?_<;>intro c27
 ·try simp at c27
  refine .seq ?_
  refine .zac [0,1,2,3,4,5,6,7] rfl zz0 ?_
  refine .rn [0,1,2] _ ?_
  refine .split (t:=30) rfl (fun c30=>?_) (fun c30=>?_)
  ·try rw[c30]
   try simp at c30
  try rw[c30]
  try simp at c30
  refine .rn [3,4,5,6,7] [] ?_
  refine .done (.ret ?_)
  refine⟨_,zz4,.sl0,?_,.inl ⟨?_,rfl⟩⟩<;>rw[hd]<;>rfl
 try simp at c27
theorem p93s (s:List Wit)(h:zai s=0)(m:Nat)(hm:m≤3)(ih:∀D:List Int,zbo prog 93 [.vmap (kvs (kvM (hM s D))),.int .i64 m] zab.empty fun v vh'=>drV (drR s m D) v vh')(D:List Int):zbo prog 93 [.vmap (kvs (kvM (hM s D))),.int .i64 ((m+1:Nat):Int)] zab.empty fun v vh'=>drV (drR s (m+1) D) v vh':=by
 have q95:=p95D s D h
 have hd:drR s (m+1) D=match crD s D with
  |none=>none
  |some p=>zjg s m D p.1 p.2 2:=by rw[drR];rfl
 obtain⟨c,hc⟩:∃c,crD s D=c:=⟨_,rfl⟩
 rw[hc] at q95 hd
 have hwm:IntKind.i64.wrap (((m+1:Nat):Int) - 1)=(m:Int):=by rw[wrap64 (by omega) (by omega)];omega
 have hwm2:IntKind.i64.wrap ((m:Int)+1 - 1)=(m:Int):=by rw[wrap64 (by omega) (by omega)];omega
 have hm0:¬((m:Int)+1=0):=by omega
 have hwm3:IntKind.i64.wrap (m:Int)=(m:Int):=wrap64 (by omega) (by omega)
 refine .zag func93 rfl rfl ?_
 refine .sr ?_
 refine .seq ?_
 refine .zac [0,1,2,3,4,5,6,7,8] rfl zz0 ?_
 refine .rn [0] _ ?_
 refine .pc rfl rfl rfl rfl rfl call95 (q95) ?_
 refine .rn [2,3,4,5,6,7,8] [] ?_
 refine .done (.seq (.seq ?_))
 refine .zac [0,1,2,3,4,5] rfl zz0 ?_
 refine .rn [0,1,2] _ ?_
 refine .split (t:=24) rfl (fun c24=>?_) (fun c24=>?_)
 ·try rw[c24]
  try simp at c24
  have hcn:c=none:=by cases c<;>simp_all
  subst hcn
  refine .rn [3,4,5] [] ?_
  refine .done (.zdm rfl (.seq ?_))
  refine .zac [0,1,2,3,4,5,6,7] rfl zz0 ?_
  refine .rn [0,1,2] _ ?_
  refine .split (t:=30) rfl (fun c30=>?_) (fun c30=>?_)
  ·try rw[c30]
   try simp at c30
   refine .rn [3,4,5,6,7] [] ?_
   refine .done (.ret ?_)
   refine⟨_,zz4,.sl0,?_,.inl ⟨?_,rfl⟩⟩<;>rw[hd]<;>simp[*]
  try rw[c30]
  try simp at c30
 try rw[c24]
 try simp at c24
 obtain⟨⟨a,b⟩,rfl⟩:∃p,c=some p:=by cases c;simp_all;exact⟨_,rfl⟩
 simp only at hd
 refine .rn [3,4,5] [] ?_
 refine .done ?_
 refine .cs ?_ ?_<;>intro c27
 ·try simp at c27
  exfalso;omega
 try simp at c27
 refine .skip (.sr ?_)
 refine .seq (.sr ?_)
 refine .block ?_
 refine .zbl (fun k:Nat=>([(0,.vmap (kvs (kvM (hM s D)))),(1,.int .i64 ((m+1:Nat):Int)),(9,.grow 0 ((zjg s m D a b k).getD []).length true),(36,.agg [.int .i64 a,.int .i64 b]),(37,.int .i64 k)],⟨1,[(0,.grow 1 (((zjg s m D a b k).getD []).map (.int .i64)))]⟩)) (fun k=>k≤2) (fun k=>2 - k) 0 (by simp) (.mk [] [] zz30 zz31 rfl rfl rfl) ?_
 rintro k hk
 simp only at hk ⊢
 have hbl:∀l,zjg s m D a b k=some l→l.length=m+1:=fun l h=>zzm h
 refine .sr ?_
 refine .seq ?_
 refine .cs ?_ ?_<;>intro c38
 ·try simp at c38
  have hk2:k<2:=by omega
  have hw2:=wr1 k
  have hS:=zxl s m D a b hk2
  obtain⟨n,hn⟩:∃n,(if k=0 then a else b)=n:=⟨_,rfl⟩
  rw[hn] at hS
  have hk01:(k=0∧n=a)∨(k=1∧n=b):=by
   rcases (show k=0∨k=1 by omega) with rfl|rfl
   ·exact .inl ⟨rfl,hn.symm⟩
   exact .inr ⟨rfl,hn.symm⟩
  obtain⟨B,hB⟩:∃B,zjg s m D a b k=B:=⟨_,rfl⟩
  rw[hB] at hS hbl
  obtain⟨L,hL⟩:∃L,B.getD []=L:=⟨_,rfl⟩
  have hX:xD s m D n=(drR s m (D++[n])).map fun l=>insD l n:=rfl
  obtain⟨r,hr⟩:∃r,drR s m (D++[n])=r:=⟨_,rfl⟩
  have hrl:∀l,r=some l→l.length=m:=fun l h=>zjq (hr.trans h)
  have q93:=ih (D++[n])
  rw[hr] at q93 hX
  obtain⟨R,hR⟩:∃R,r.getD []=R:=⟨_,rfl⟩
  have hRl:R.length≤m:=by
   rw[← hR]
   cases r with
   |none=>exact Nat.zero_le _
   |some l=>rw[Option.getD_some,hrl l rfl];exact Nat.le_refl _
  obtain⟨rb,hrb⟩:∃rb,r.isSome=rb:=⟨_,rfl⟩
  have hpf:=zgf n (hM s D)
  have hfil:=zu8 (hM s D) n
  rw[z9e] at hfil
  obtain⟨M,hM1⟩:∃M,kvs (kvM (hM s D))=M:=⟨_,rfl⟩
  obtain⟨M2,hM2⟩:∃M2,kvs (kvM (hM s (D++[n])))=M2:=⟨_,rfl⟩
  have q158:∀ {vh:zab} {i:Nat},vh.get i=some (.map [])→zbo prog 158 [.mapv i,.vmap M] vh fun v vh'=>v=.tup []∧vh'=vh.put i (.map M):=fun {vh i} hi=>hM1▸z8z hi (zw4 s D)
  rw[hM1] at hpf hfil
  rw[hM2] at hfil q93
  rw[hM1,hB,hL]
  have q93f:∀vh:zab,zbo prog 93 [.vmap M2,.int .i64 m] vh fun v vh'=>v=.tup [.grow vh.next R.length true,.bool rb]∧vh'=vh.alloc (.grow 1 (R.map (.int .i64))):=fun vh=>by
   refine z6e (by rw[List.length_map]) (by decide) (q93.mono ?_) (by rw[← hM2];simp[kvM,kvs,PV.isF])
   rintro v vh' ⟨x,h1,h2⟩
   rw[hR] at h2
   rw[hrb] at h1
   exact⟨x,h1,h2⟩
  refine .skip (.seq (.block (.seq ?_)))
  refine .zac [0,1] rfl zz0 ?_
  refine .step rfl rfl (.op (v:=.int .i64 n) (vh':=⟨1,[(0,.grow 1 (L.map (.int .i64)))]⟩) (by rcases hk01 with⟨rfl,rfl⟩|⟨rfl,rfl⟩<;>rfl) (by decide) ?_)
  refine .rn [1] [] ?_
  refine .done (.sr ?_)
  refine .seq ?_
  refine .zac [0,1,2] rfl zz0 ?_
  refine .rn [0,1] _ ?_
  refine .step rfl rfl (.call rfl rfl rfl call158 (by decide) (((q158 rfl)).mono ?_))
  rintro _ _ ⟨rfl,rfl⟩
  refine .done (.sr ?_)
  refine .seq ?_
  refine .rec (vts2:=[(0,.vmap M),(1,.int .i64 ((m+1:Nat):Int)),(9,.grow 0 L.length true),(11,.int .i64 n),(12,.vmap M2),(36,.agg [.int .i64 a,.int .i64 b]),(37,.int .i64 k)]) (vh2:=⟨1,[(0,.grow 1 (L.map (.int .i64)))]⟩) (.mk [1] [] zz30 zz31 rfl rfl rfl) ?_
  refine .zac [0,1,2,3,4,5,6,7,8] rfl zz0 ?_
  refine .rn [0,1,2] _ ?_
  refine .step rfl rfl (.call rfl rfl rfl call93 (by decide) (((q93f _)).mono ?_))
  rintro _ _ ⟨rfl,rfl⟩
  refine .rn [4,5,6,7,8] [] ?_
  refine .done (.seq (.sr ?_))
  refine .cs ?_ ?_<;>intro c54
  ·try simp at c54
   have hrn:r=none:=by cases r with
    |none=>rfl
    |some l=>rw[← hrb] at c54;cases c54
   have hS2:zjg s m D a b (k+1)=B:=by rw[hS,hX,hrn];rfl
   refine .exit (.rn ?_)
   have hS3:(zjg s m D a b (k+1)).getD []=L:=by rw[hS2];exact hL
   refine⟨k+1,zz5,zz5,?_⟩
   simp only[hS3]
   exact(.mk [] [] zz30 zz31 rfl rfl rfl)
  try simp at c54
  have hrs:r=some R:=by
   cases r with
   |none=>rw[← hrb] at c54;simp at c54
   |some l=>rw[← hR];rfl
  have hX2:xD s m D n=some (insD R n):=by rw[hX,hrs];rfl
  have hRb:R.length≤4294967295:=by omega
  have hmb:m≤4294967295:=by omega
  have hRm:R.length=m:=hrl R hrs
  have hone:zcm [PV.int IntKind.i64 n]=true:=rfl
  obtain⟨Q,hQ⟩:∃Q,insD R n=Q:=⟨_,rfl⟩
  have hQl:Q.length=R.length+1:=by rw[← hQ,zm0]
  have hQm:(R++[n]).mergeSort (fun x y=>decide (x≤y))=Q:=hQ
  rw[hQ] at hX2
  refine .skip (.sr ?_)
  refine .seq ?_
  refine .zac [0,1] rfl zz0 ?_
  refine .rn [0] _ ?_
  refine .step rfl rfl (.call rfl rfl rfl call159 (by decide) (((zbo.zm4 (zs:=R++[n]) z5n (by simp) (by simp[hRm]))).mono ?_))
  rintro _ _ ⟨rfl,rfl⟩
  refine .done (.seq ?_)
  refine .rec (vts2:=[(0,.vmap M),(1,.int .i64 ((m+1:Nat):Int)),(9,.grow 0 L.length true),(15,.grow 1 Q.length true),(36,.agg [.int .i64 a,.int .i64 b]),(37,.int .i64 k)]) (vh2:=⟨2,[(1,.grow 1 (Q.map (.int .i64))),(0,.grow 1 (L.map (.int .i64)))]⟩) (.mk [] [(1,3)] zz30 zz31 rfl rfl rfl) ?_
  refine .zac [0,1,2,3,4,5,6,7] rfl zz0 ?_
  refine .rn [0,1,2] _ ?_
  refine .split (t:=63) rfl (fun c63=>?_) (fun c63=>?_)
  ·try rw[c63]
   try simp at c63
   have hBn:B=none:=by
    cases B with
    |none=>rfl
    |some l=>
     have:=hbl l rfl
     have e:l=L:=hL
     subst e
     simp_all
   have hS2:zjg s m D a b (k+1)=some Q:=by rw[hS,hX2,hBn];rfl
   refine .rn [3,4,5,6,7] [] ?_
   refine .done (.zdm rfl (.rn ?_))
   refine .rn ?_
   have hS3:(zjg s m D a b (k+1)).getD []=Q:=by rw[hS2];rfl
   refine⟨k+1,zz5,zz5,?_⟩
   simp only[hS3]
   exact(.mk [] [(0,1)] zz30 zz31 rfl rfl rfl)
  try rw[c63]
  try simp at c63
  have hBs:B=some L:=by
   cases B with
   |none=>subst hL;simp at c63
   |some l=>rw[← hL];rfl
  have hS2:zjg s m D a b (k+1)=if cmpL Q L<0 then some Q else some L:=by rw[hS,hX2,hBs];rfl
  refine .rn [3,4] _ ?_
  refine .step rfl rfl (.borrow rfl rfl rfl call160 (by decide) (by first|(simp<;>rfl)|(simp[*]<;>rfl)|(simp[*];done)) (p160 Q L (by omega)) (by rintro _ rfl<;>first|(simp;done)|rfl) ?_)
  rintro _ rfl
  refine .rn [6,7] [] ?_
  refine .done ?_
  refine .cs ?_ ?_<;>intro c68
  ·try simp at c68
   rw[if_pos c68] at hS2
   refine .rn ?_
   refine .rn ?_
   have hS3:(zjg s m D a b (k+1)).getD []=Q:=by rw[hS2];rfl
   refine⟨k+1,zz5,zz5,?_⟩
   simp only[hS3]
   exact(.mk [] [(0,1)] zz30 zz31 rfl rfl rfl)
  try simp at c68
  rw[if_neg (by omega)] at hS2
  refine .skip (.rn ?_)
  have hS3:(zjg s m D a b (k+1)).getD []=L:=by rw[hS2];rfl
  refine⟨k+1,zz5,zz5,?_⟩
  simp only[hS3]
  exact(.mk [] [] zz30 zz31 rfl rfl rfl)
 try simp at c38
 have hk2:k=2:=by omega
 subst hk2
 obtain⟨B,hB⟩:∃B,zjg s m D a b 2=B:=⟨_,rfl⟩
 rw[hB] at hd hbl
 refine .exit (.sr ?_)
 refine .ret ?_
 refine⟨_,zz4,.grow 0 (B.getD []).length true,?_,.inr ⟨0,?_,.inr ?_⟩⟩
 ·rw[hd]
  cases B with
  |none=>simp[hB]
  |some l=>
   have:=hbl l rfl
   cases l with
   |nil=>simp at this
   |cons x q=>simp[hB]
 ·rw[hd]
 rw[hd];rfl
theorem p93 (s:List Wit)(h:zai s=0):∀m:Nat,m≤4→∀D:List Int,zbo prog 93 [.vmap (kvs (kvM (hM s D))),.int .i64 m] zab.empty fun v vh'=>drV (drR s m D) v vh'
 |0,_,D=>p93z s h D
 |m+1,hm,D=>p93s s h m (by omega) (fun D=>p93 s h m (by omega) D) D
theorem p93f (s:List Wit)(h:zai s=0)(m:Nat)(hm:m≤4)(vh:zab):zbo prog 93 [.vmap (kvs (kvM (zdn s))),.int .i64 m] vh fun v vh'=>v=.tup [.grow vh.next ((drF s m).getD []).length true,.bool (drF s m).isSome]∧vh'=vh.alloc (.grow 1 (((drF s m).getD []).map (.int .i64))):=by
 have:=p93 s h m hm []
 rw[xes] at this
 exact z6e (by rw[List.length_map]) (by decide) this (by simp[kvM,kvs,PV.isF])
theorem p23 (s:List Wit)(hl:s.length<4294967296):zaj prog 23 [encS s] fun r=>Soft r (.tup [ints (if zai s=0 then (zfz s).getD [] else []),.int .i64 (if zai s=0 then (if (zfz s).isSome=true then 0 else 2) else zai s)]):=by
 refine .zag func23 rfl rfl ?_
 refine .sr ?_
 refine .seq (.seq ?_)
 refine .zac [0,1,2] rfl zz0 ?_
 refine .rn [0] _ ?_
 refine .pc rfl rfl rfl rfl rfl call35 (p35 s hl) ?_
 refine .rn [2] [] ?_
 refine .done (.sr ?_)
 refine .cs ?_ ?_<;>intro c11
 ·try simp at c11
  refine .sr ?_
  refine .ret ?_
  refine⟨_,_,zz4,zz4,?_⟩
  rw[if_neg c11,if_neg c11]
  exact zwl (AltL.cons .sl0v (AltL.cons (.same _ rfl) AltL.nil))
 try simp at c11
 have hck:zai s=0:=c11
 refine .skip (.seq (.sr ?_))
 refine .block ?_
 refine .zbl (fun k:Nat=>([(1,.vp (encS s).cells),(5,.int .i64 k)],zab.empty)) (fun k=>k≤4∧∀j,j<k→drF s j=none) (fun k=>4 - k) 0 ⟨by simp,fun j hj=>by omega⟩ (.mk [0] [] zz32 zz31 rfl rfl rfl) ?_
 rintro k ⟨hk,hno⟩
 simp only at hk hno ⊢
 refine .seq (.sr ?_)
 refine .cs ?_ ?_<;>intro c14
 ·try simp at c14
  have hw2:=wr1 k
  have q94:=p94 s hck
  have q93:=p93f s hck k (by omega)
  obtain⟨c,hc⟩:∃c,drF s k=c:=⟨_,rfl⟩
  rw[hc] at q93
  obtain⟨L,hL⟩:∃L,c.getD []=L:=⟨_,rfl⟩
  rw[hL] at q93
  obtain⟨cb,hcb⟩:∃cb,c.isSome=cb:=⟨_,rfl⟩
  rw[hcb] at q93
  refine .skip (.seq (.block (.seq ?_)))
  refine .zac [0,1,2,3,4,5,6,7,8] rfl zz0 ?_
  refine .rn [0] _ ?_
  refine .pc rfl rfl rfl rfl rfl call94 (q94) ?_
  refine .rn [2] _ ?_
  refine .step rfl rfl (.call rfl rfl rfl call93 (by decide) (((q93 _)).mono ?_))
  rintro _ _ ⟨rfl,rfl⟩
  refine .rn [4,5,6,7,8] [] ?_
  refine .done (.sr ?_)
  refine .cs ?_ ?_<;>intro c24
  ·try simp at c24
   have hcs:c=some L:=by
    cases c with
    |none=>rw[← hcb] at c24;simp at c24
    |some l=>rw[← hL];rfl
   have hd:zfz s=some L:=zu1 (by omega) (hc.trans hcs) hno
   refine .sr ?_
   refine .ret ?_
   refine⟨_,_,zz4,zz4,?_⟩
   rw[if_pos hck,if_pos hck,hd]
   exact zwx rfl
  try simp at c24
  have hcn:drF s k=none:=by
   rw[hc]
   cases c with
   |none=>rfl
   |some l=>rw[← hcb] at c24;simp at c24
  refine .skip (.rn ?_)
  refine⟨k+1,⟨by omega,fun j hj=>?_⟩,zz5,(.mk [] [] zz30 zz31 rfl rfl rfl)⟩
  rcases (show j<k∨j=k by omega) with h|rfl
  ·exact hno j h
  exact hcn
 try simp at c14
 have hd:zfz s=none:=zyh fun j hj=>hno j (by omega)
 refine .exit (.sr ?_)
 refine .ret ?_
 refine⟨_,_,zz4,zz4,?_⟩
 rw[if_pos hck,if_pos hck,hd]
 exact zwl (AltL.cons .sl0v (AltL.cons (.same _ rfl) AltL.nil))
theorem p23' (s:List Wit)(hl:s.length<4294967296):zaj prog 23 [encS s] fun r=>r=.tup [ints (if zai s=0 then (zfz s).getD [] else []),.int .i64 (if zai s=0 then (if (zfz s).isSome=true then 0 else 2) else zai s)]:=zaj.soft (p23 s hl) rfl
def zpb (w:Wit)(l:List Int)(k:Nat):List Int:=(w.slips.take k).filter fun n=>!decide (n∈l)
theorem zyq (w:Wit)(l:List Int)(k:Nat)(h:k<w.slips.length):zpb w l (k+1)=if w.slips[k]∈l then zpb w l k else zpb w l k++[w.slips[k]]:=by
 unfold zpb
 rw[List.take_succ_eq_append_getElem h,List.filter_append]
 by_cases hm:w.slips[k]∈l
 ·rw[if_pos hm];simp[hm]
 rw[if_neg hm];simp[hm]
end Go.Am.Ds
end
/-
 Descent: the reference's Drop is the program's (plain law of Trees).
-/
section
namespace Go.Am.Ds
open Go Go.Am Go.Proofs
def badD (s:List Wit)(D:List Int):Bool:=(crR (zfe s D)).isSome
theorem z2w {s:List Wit}(h:zai s=0){D:List Int}:badD s D=false↔∀a b,a∉D→b∉D→¬crP s a b:=by
 have:=zis h D
 unfold badD
 constructor
 ·intro hb a b ha hb2 hc
  rw[this.2 ⟨a,b,ha,hb2,hc⟩] at hb
  cases hb
 intro hn
 cases hx:(crR (zfe s D)).isSome with
 |false=>rfl
 |true=>
  obtain⟨a,b,ha,hb,hc⟩:=this.1 hx
  exact absurd hc (hn a b ha hb)
def refD (s:List Wit):List Int→Nat→List Int→Option (List Int)
 |_,0,ch=>if badD s ch=true then none else some ch
 |[],_+1,_=>none
 |a::r,m+1,ch=>match refD s r m (ch++[a]) with
  |some x=>some x
  |none=>refD s r (m+1) ch
theorem z6b (s:List Wit)(l ch:List Int):refD s l 0 ch=if badD s ch=true then none else some ch:=by cases l<;>rfl
theorem zdf {a b:Int}{r q:List Int}:cmpL (a::r) (b::q)=if a<b then -1 else if b<a then 1 else cmpL r q:=rfl
theorem zse:∀l:List Int,cmpL l l=0
 |[]=>rfl
 |a::r=>by rw[zdf,if_neg (by omega),if_neg (by omega),zse r]
theorem zs6:∀ {l q:List Int},cmpL l q≤0→cmpL q l≤0→l=q
 |[],[],_,_=>rfl
 |[],b::q,_,h=>absurd h (by simp[cmpL])
 |a::r,[],h,_=>absurd h (by simp[cmpL])
 |a::r,b::q,h1,h2=>by
  rw[zdf] at h1 h2
  by_cases hab:a<b
  ·rw[if_neg (by omega),if_pos hab] at h2;omega
  by_cases hba:b<a
  ·rw[if_neg hab,if_pos hba] at h1;omega
  rw[if_neg hab,if_neg hba] at h1
  rw[if_neg hba,if_neg hab] at h2
  rw[show a=b by omega,zs6 h1 h2]
theorem zt9 (s:List Wit):∀(l:List Int) (m:Nat) (ch:List Int),l.Pairwise (·<·)→
  (∀x,refD s l m ch=some x→∃y,x=ch++y∧y.Sublist l∧y.length=m∧badD s x=false∧∀y',y'.Sublist l→y'.length=m→badD s (ch++y')=false→cmpL y y'≤0)∧
  (refD s l m ch=none→∀y',y'.Sublist l→y'.length=m→badD s (ch++y')=true)
 |l,0,ch,_=>by
  rw[z6b]
  constructor
  ·intro x hx
   by_cases hb:badD s ch=true
   ·rw[if_pos hb] at hx;cases hx
   rw[if_neg hb] at hx;cases hx
   refine⟨[],by simp,List.nil_sublist _,rfl,by simpa using hb,fun y' _ h2 _=>?_⟩
   rw[List.eq_nil_of_length_eq_zero h2];simp[cmpL]
  intro hn y' _ h2
  rw[List.eq_nil_of_length_eq_zero h2,List.append_nil]
  by_cases hb:badD s ch=true
  ·exact hb
  rw[if_neg hb] at hn;cases hn
 |[],m+1,ch,_=>by
  refine⟨fun x hx=>(by cases hx),fun _ y' h1 h2=>?_⟩
  rw[List.sublist_nil.1 h1] at h2;cases h2
 |a::r,m+1,ch,hp=>by
  have hpr:=(List.pairwise_cons.1 hp).2
  have har:=(List.pairwise_cons.1 hp).1
  obtain⟨i1,i2⟩:=zt9 s r m (ch++[a]) hpr
  obtain⟨j1,j2⟩:=zt9 s r (m+1) ch hpr
  have e:refD s (a::r) (m+1) ch=match refD s r m (ch++[a]) with
   |some x=>some x
   |none=>refD s r (m+1) ch:=rfl
  rw[e]
  cases h1:refD s r m (ch++[a]) with
  |some x=>
   refine⟨fun x' hx=>?_,fun h=>by cases h⟩
   simp only[xjd] at hx
   subst hx
   obtain⟨y,q1,q2,q3,q4,q5⟩:=i1 x h1
   refine⟨a::y,by rw[q1];simp,q2.cons_cons a,by simp[q3],q4,fun y' g1 g2 g3=>?_⟩
   cases y' with
   |nil=>cases g2
   |cons b z=>
    rw[zdf]
    by_cases hab:a<b
    ·rw[if_pos hab];omega
    have hba:b=a:=by
     have:b∈a::r:=g1.subset List.mem_cons_self
     rcases List.mem_cons.1 this with h|h
     ·exact h
     exact absurd (har b h) hab
    subst hba
    rw[if_neg hab,if_neg hab]
    refine q5 z ?_ (by simpa using g2) (by rw[List.append_assoc];exact g3)
    cases g1 with
    |cons _ h => 
     have:b∈r:=h.subset List.mem_cons_self
     exact absurd (har b this) (by omega)
    |cons_cons _ h=>exact h
  |none=>
   have n1:=i2 h1
   have key:∀y',y'.Sublist (a::r)→y'.length=m+1→badD s (ch++y')=false→y'.Sublist r:=fun y' g1 g2 g3=>by
    cases g1 with
    |cons _ h=>exact h
    |cons_cons _ h=>
     rename_i z
     have:=n1 z h (by simpa using g2)
     rw[List.append_assoc] at this
     rw[List.singleton_append] at this
     rw[this] at g3;cases g3
   refine⟨fun x hx=>?_,fun hn y' g1 g2=>?_⟩
   ·obtain⟨y,q1,q2,q3,q4,q5⟩:=j1 x hx
    exact⟨y,q1,q2.cons a,q3,q4,fun y' g1 g2 g3=>q5 y' (key y' g1 g2 g3) g2 g3⟩
   cases hb:badD s (ch++y') with
   |true=>rfl
   |false=>have:=j2 hn y' (key y' g1 g2 hb) g2;rw[this] at hb;cases hb
def insI:List Int→Int→List Int
 |[],n=>[n]
 |a::r,n=>if n≤a then n::a::r else a::insI r n
theorem zj7:∀(l:List Int) (n:Int),(insI l n).Perm (l++[n])
 |[],n=>.refl _
 |a::r,n=>by
  unfold insI
  split
  ·exact(List.perm_append_comm (l₁:=[n]) (l₂:=a::r))
  exact(zj7 r n).cons a
theorem zj5:∀ {l:List Int} {n:Int},l.Pairwise (·≤·)→(insI l n).Pairwise (·≤·)
 |[],n,_=>by simp[insI]
 |a::r,n,h=>by
  obtain⟨h1,h2⟩:=List.pairwise_cons.1 h
  unfold insI
  split
  ·rename_i hn
   refine List.pairwise_cons.2 ⟨fun b hb=>?_,h⟩
   rcases List.mem_cons.1 hb with rfl|hb
   ·exact hn
   exact Int.le_trans hn (h1 b hb)
  rename_i hn
  refine List.pairwise_cons.2 ⟨fun b hb=>?_,zj5 h2⟩
  rcases List.mem_append.1 ((zj7 r n).mem_iff.1 hb) with hb|hb
  ·exact h1 b hb
  simp at hb;omega
theorem zhq:∀ {x y:List Int},x.Perm y→x.Pairwise (·≤·)→y.Pairwise (·≤·)→x=y
 |[],y,h,_,_=>by simpa using h.symm
 |a::r,[],h,_,_=>by simpa using h
 |a::r,b::q,h,h1,h2=>by
  obtain⟨g1,g2⟩:=List.pairwise_cons.1 h1
  obtain⟨g3,g4⟩:=List.pairwise_cons.1 h2
  have hab:a=b:=by
   have e1:a∈b::q:=h.mem_iff.1 List.mem_cons_self
   have e2:b∈a::r:=h.mem_iff.2 List.mem_cons_self
   rcases List.mem_cons.1 e1 with e|e1
   ·exact e
   rcases List.mem_cons.1 e2 with e|e2
   ·exact e.symm
   have:=g1 b e2;have:=g3 a e1;omega
  subst hab
  rw[zhq h.cons_inv g2 g4]
theorem zn0 (l:List Int)(n:Int):(insD l n).Pairwise (·≤·):=by
 have:=List.pairwise_mergeSort (le:=fun x y:Int=>decide (x≤y)) (by simp;omega) (by simp;omega) (l++[n])
 unfold insD
 simpa using this
theorem zzg {l:List Int}{n:Int}(h:l.Pairwise (·≤·)):insD l n=insI l n:=
 zhq ((List.mergeSort_perm _ _).trans (zj7 l n).symm) (zn0 l n) (zj5 h)
theorem zti:∀ {r q:List Int} (n:Int),r.length=q.length→cmpL r q≤0→cmpL (insI r n) (insI q n)≤0
 |[],[],n,_,_=>by rw[zse];omega
 |[],_::_,n,h,_=>by cases h
 |_::_,[],n,h,_=>by cases h
 |a::r,b::q,n,hl,h=>by
  rw[zdf] at h
  unfold insI
  by_cases hab:a<b
  ·by_cases h1:n≤a
   ·rw[if_pos h1,if_pos (by omega),zdf,if_neg (by omega),if_neg (by omega),zdf,if_pos hab];omega
   rw[if_neg h1]
   by_cases h2:n≤b
   ·rw[if_pos h2,zdf,if_pos (by omega)];omega
   rw[if_neg h2,zdf,if_pos hab];omega
  by_cases hba:b<a
  ·rw[if_neg hab,if_pos hba] at h;omega
  rw[if_neg hab,if_neg hba] at h
  have he:a=b:=by omega
  subst he
  by_cases h1:n≤a
  ·rw[if_pos h1,if_pos h1,zdf,if_neg (by omega),if_neg (by omega),zdf,if_neg (by omega),if_neg (by omega)];exact h
  rw[if_neg h1,if_neg h1,zdf,if_neg (by omega),if_neg (by omega)]
  exact zti n (by simpa using hl) h
theorem z9p {l:List Int}(h:l.Pairwise (·<·)):l.Pairwise (·≤·):=h.imp (fun h=>by omega)
theorem zu4 {s:List Wit}(hs:zai s=0):∀ {m:Nat} {D l:List Int},drR s m D=some l→l.Pairwise (·<·)∧∀n∈l,n∉D∧∃w∈s,n∈w.slips
 |0,D,l,h=>by unfold drR at h;split at h<;>cases h;exact⟨.nil,by simp⟩
 |m+1,D,l,h=>by
  obtain⟨a,b,n,r,h1,h2,h3,rfl⟩:=zrh h
  obtain⟨i1,i2⟩:=zu4 hs h3
  obtain⟨c1,c2,⟨w,hw,c3,c4⟩,_⟩:=zr3 hs h1
  have hnr:n∉r:=fun hn=>(i2 n hn).1 (by simp)
  have hnd:n∉D∧∃w∈s,n∈w.slips:=by
   rcases h2 with rfl|rfl
   ·exact⟨c1,w,hw,c3⟩
   exact⟨c2,w,hw,c4⟩
  refine⟨?_,fun x hx=>?_⟩
  ·have hs1:=zn0 r n
   have hs2:(insD r n).Nodup:=by
    refine((List.mergeSort_perm (r++[n]) fun x y=>decide (x≤y)).nodup_iff).2 ?_
    rw[List.nodup_append]
    refine⟨i1.imp (fun h=>by omega),by simp,fun x hx y hy=>?_⟩
    simp at hy;subst hy
    rintro rfl;exact hnr hx
   exact(hs1.and hs2).imp fun⟨h1,h2⟩=>by omega
  rcases zvp.1 hx with hx|rfl
  ·obtain⟨k1,k2⟩:=i2 x hx
   exact⟨fun h=>k1 (by simp[h]),k2⟩
  exact hnd
theorem z6s {b x:Option (List Int)}{l:List Int}(hl:∀y,b=some y∨x=some y→y.length=l.length)(h:(∃y,b=some y∧cmpL y l≤0)∨∃y,x=some y∧cmpL y l≤0):∃y,bet b x=some y∧cmpL y l≤0:=by
 have trans:∀ {p q l:List Int},p.length=q.length→q.length=l.length→cmpL p q≤0→cmpL q l≤0→cmpL p l≤0:=by
  intro p
  induction p with
  |nil=>
   intro q l h1 h2 _ _
   have:q=[]:=List.eq_nil_of_length_eq_zero (by simpa using h1.symm)
   subst this
   have:l=[]:=List.eq_nil_of_length_eq_zero (by simpa using h2.symm)
   subst this;simp[cmpL]
  |cons a p ih=>
   intro q l h1 h2 h3 h4
   match q,l,h1,h2,h3,h4 with
   |b::q,c::l,h1,h2,h3,h4=>
    rw[zdf] at h3 h4 ⊢
    by_cases hab:a<b
    ·by_cases hcb:c<b
     ·rw[if_neg (by omega),if_pos hcb] at h4;omega
     rw[if_pos (by omega)];omega
    by_cases hba:b<a
    ·rw[if_neg hab,if_pos hba] at h3;omega
    have:a=b:=by omega
    subst this
    rw[if_neg hab,if_neg hab] at h3
    by_cases hac:a<c
    ·rw[if_pos hac];omega
    by_cases hca:c<a
    ·rw[if_neg hac,if_pos hca] at h4;omega
    rw[if_neg hac,if_neg hca] at h4 ⊢
    exact ih (by simpa using h1) (by simpa using h2) h3 h4
 have tot:∀ {p q:List Int},¬cmpL p q<0→cmpL q p≤0:=by
  intro p
  induction p with
  |nil=>intro q h;cases q<;>simp[cmpL] at h ⊢
  |cons a p ih=>
   intro q h
   cases q with
   |nil=>simp[cmpL]
   |cons b q=>
    rw[zdf] at h ⊢
    by_cases hab:a<b
    ·rw[if_pos hab] at h;omega
    by_cases hba:b<a
    ·rw[if_pos hba];omega
    rw[if_neg hab,if_neg hba] at h
    rw[if_neg hba,if_neg hab]
    exact ih h
 unfold bet
 cases x with
 |none=>
  rcases h with h|⟨y,h,_⟩
  ·exact h
  cases h
 |some u=>
  cases b with
  |none=>
   rcases h with⟨y,h,_⟩|h
   ·cases h
   exact h
  |some v=>
   have lu:=hl u (.inr rfl)
   have lv:=hl v (.inl rfl)
   simp only
   split
   ·rename_i huv
    refine⟨u,rfl,?_⟩
    rcases h with⟨y,h,h2⟩|⟨y,h,h2⟩<;>cases h
    ·exact trans (lu.trans lv.symm) lv (by omega) h2
    exact h2
   rename_i huv
   refine⟨v,rfl,?_⟩
   rcases h with⟨y,h,h2⟩|⟨y,h,h2⟩<;>cases h
   ·exact h2
   exact trans (lv.trans lu.symm) lu (tot huv) h2
theorem zsr {s:List Wit}(hs:zai s=0):∀(k:Nat) (D L:List Int),L.length=k→L.Pairwise (·<·)→(∀a b,a∉D→b∉D→a∉L→b∉L→¬crP s a b)→(∀m,m<k→drR s m D=none)→∃l,drR s k D=some l∧cmpL l L≤0
 |k,D,L,hk,hL,hv,hn=>by
  cases hc:crD s D with
  |none=>
   have h0:drR s 0 D=some []:=by unfold drR;rw[hc];rfl
   rcases Nat.eq_zero_or_pos k with rfl|hk0
   ·exact⟨[],h0,by rw[List.eq_nil_of_length_eq_zero hk];simp[cmpL]⟩
   rw[hn 0 hk0] at h0;cases h0
  |some p=>
   obtain⟨a,b⟩:=p
   obtain⟨h1,h2,h3⟩:=zr3 hs hc
   have hin:a∈L∨b∈L:=by
    by_cases ha:a∈L
    ·exact .inl ha
    by_cases hb:b∈L
    ·exact .inr hb
    exact absurd h3 (hv a b h1 h2 ha hb)
   match k,hk,hn with
   |0,hk,_=>rw[List.eq_nil_of_length_eq_zero hk] at hin;simp at hin
   |k+1,hk,hn=>
    have e:drR s (k+1) D=bet (bet none ((drR s k (D++[a])).map fun l=>insD l a)) ((drR s k (D++[b])).map fun l=>insD l b):=by
     conv=>lhs;unfold drR
     rw[hc]
    have go:∀n,n∈L→(n=a∨n=b)→∃r,drR s k (D++[n])=some r∧cmpL (insD r n) L≤0:=fun n hn1 hn2=>by
     have hl:=List.length_erase_of_mem hn1
     obtain⟨r,q1,q2⟩:=zsr hs k (D++[n]) (L.erase n) (by omega) (hL.sublist List.erase_sublist) (fun x y hx hy hx2 hy2=>by
      simp only[List.mem_append,List.mem_singleton,not_or] at hx hy
      exact hv x y hx.1 hy.1 (fun hh=>hx2 ((List.mem_erase_of_ne hx.2).2 hh)) (fun hh=>hy2 ((List.mem_erase_of_ne hy.2).2 hh))) fun m hm=>by
       cases hd:drR s m (D++[n]) with
       |none=>rfl
       |some z=>
        have:(drR s (m+1) D).isSome=true:=by
         conv=>lhs;unfold drR
         rw[hc]
         rcases hn2 with rfl|rfl
         ·exact zf6 (.inl (zf6 (.inr (by rw[hd];rfl))))
         exact zf6 (.inr (by rw[hd];rfl))
        rw[hn (m+1) (by omega)] at this;cases this
     refine⟨r,q1,?_⟩
     have hr:=(zu4 hs q1).1
     have e2:L=insI (L.erase n) n:=by
      refine zhq ?_ (z9p hL) (zj5 (z9p (hL.sublist List.erase_sublist)))
      exact((List.perm_cons_erase hn1).trans (List.perm_append_comm (l₁:=[n]))).trans (zj7 _ _).symm
     rw[zzg (z9p hr)]
     conv=>lhs;rhs;rw[e2]
     exact zti n (by rw[zjq q1];omega) q2
    have len:∀(n:Int) (y:List Int),(drR s k (D++[n])).map (fun l=>insD l n)=some y→y.length=L.length:=fun n y hy=>by
     obtain⟨r,q1,q2⟩:=Option.map_eq_some_iff.1 hy
     rw[← q2,zm0,zjq q1,hk]
    have lenb:∀y,bet none ((drR s k (D++[a])).map fun l=>insD l a)=some y→y.length=L.length:=fun y hy=>by
     rcases ziu hy with h|h
     ·cases h
     exact len a y h
    rw[e]
    refine z6s (fun y hy=>hy.elim (lenb y) (len b y)) ?_
    rcases hin with hh|hh
    ·obtain⟨r,q1,q2⟩:=go a hh (.inl rfl)
     refine .inl (z6s (fun y hy=>hy.elim (fun h=>by cases h) (len a y)) (.inr ⟨_,by rw[q1];rfl,q2⟩))
    obtain⟨r,q1,q2⟩:=go b hh (.inr rfl)
    exact .inr ⟨_,by rw[q1];rfl,q2⟩
theorem zzu:∀ {l q:List Int},l.Pairwise (·<·)→q.Pairwise (·<·)→(∀n∈l,n∈q)→l.Sublist q
 |[],q,_,_,_=>List.nil_sublist _
 |a::l,[],_,_,h=>absurd (h a List.mem_cons_self) (by simp)
 |a::l,b::q,h1,h2,h=>by
  obtain⟨g1,g2⟩:=List.pairwise_cons.1 h1
  obtain⟨g3,g4⟩:=List.pairwise_cons.1 h2
  by_cases hab:a=b
  ·subst hab
   refine(zzu g2 g4 fun n hn=>?_).cons_cons a
   rcases List.mem_cons.1 (h n (List.mem_cons_of_mem _ hn)) with rfl|h3
   ·exact absurd (g1 n hn) (by omega)
   exact h3
  have ha:a∈q:=(List.mem_cons.1 (h a List.mem_cons_self)).resolve_left hab
  refine(zzu h1 g4 fun n hn=>?_).cons b
  rcases List.mem_cons.1 (h n hn) with rfl|h3
  ·have:=g3 a ha
   rcases List.mem_cons.1 hn with e|h4
   ·exact absurd e.symm hab
   have:=g1 n h4;omega
  exact h3
def refF (s:List Wit)(sl:List Int)(m:Nat):Option (List Int):=refD s sl m []
theorem zq5 {s:List Wit}(hs:zai s=0){sl:List Int}(hp:sl.Pairwise (·<·))(hm:∀n,n∈sl↔∃w∈s,n∈w.slips){m:Nat}(hn:∀k,k<m→drF s k=none):refF s sl m=drF s m:=by
 obtain⟨r1,r2⟩:=zt9 s sl m [] hp
 have least:∀y,y.Sublist sl→y.length=m→badD s y=false→∃l,drF s m=some l∧cmpL l y≤0:=fun y h1 h2 h3=>
  zsr hs m [] y h2 (hp.sublist h1) (fun a b _ _ ha hb=>(z2w hs).1 h3 a b ha hb) hn
 unfold refF
 cases hd:drF s m with
 |none=>
  cases hr:refD s sl m [] with
  |none=>rfl
  |some x=>
   obtain⟨y,q1,q2,q3,q4,_⟩:=r1 x hr
   rw[List.nil_append] at q1;subst q1
   obtain⟨l,hl,_⟩:=least x q2 q3 q4
   rw[hd] at hl;cases hl
 |some l=>
  obtain⟨k1,k2⟩:=zu4 hs hd
  have hsub:l.Sublist sl:=zzu k1 hp fun n hn=>(hm n).2 (k2 n hn).2
  have hlen:=zjq hd
  have hbad:badD s l=false:=(z2w hs).2 fun a b ha hb=>z1q hs hd (by simp) (by simp) ha hb
  cases hr:refD s sl m [] with
  |none=>have:=r2 hr l hsub hlen;rw[List.nil_append] at this;rw[this] at hbad;cases hbad
  |some x=>
   obtain⟨y,q1,q2,q3,q4,q5⟩:=r1 x hr
   rw[List.nil_append] at q1;subst q1
   obtain⟨l',hl',q6⟩:=least x q2 q3 q4
   rw[hd] at hl';cases hl'
   rw[zs6 (q5 l hsub hlen (by rw[List.nil_append];exact hbad)) q6]
def refR (s:List Wit)(sl:List Int):Option (List Int):=if (refF s sl 0).isSome=true then refF s sl 0 else if (refF s sl 1).isSome=true then refF s sl 1 else if (refF s sl 2).isSome=true then refF s sl 2 else refF s sl 3
theorem z4m {s:List Wit}(hs:zai s=0){sl:List Int}(hp:sl.Pairwise (·<·))(hm:∀n,n∈sl↔∃w∈s,n∈w.slips):refR s sl=zfz s:=by
 have e0:=zq5 hs hp hm (m:=0) (fun k h=>by omega)
 unfold refR zfz
 rw[e0]
 by_cases h0:(drF s 0).isSome=true
 ·rw[if_pos h0,if_pos h0]
 rw[if_neg h0,if_neg h0]
 have n0:drF s 0=none:=by simpa using h0
 have e1:=zq5 hs hp hm (m:=1) (fun k h=>by rw[show k=0 by omega];exact n0)
 rw[e1]
 by_cases h1:(drF s 1).isSome=true
 ·rw[if_pos h1,if_pos h1]
 rw[if_neg h1,if_neg h1]
 have n1:drF s 1=none:=by simpa using h1
 have e2:=zq5 hs hp hm (m:=2) (fun k h=>by rcases (show k=0∨k=1 by omega) with rfl|rfl<;>assumption)
 rw[e2]
 by_cases h2:(drF s 2).isSome=true
 ·rw[if_pos h2,if_pos h2]
 rw[if_neg h2,if_neg h2]
 have n2:drF s 2=none:=by simpa using h2
 exact zq5 hs hp hm (m:=3) (fun k h=>by rcases (show k=0∨k=1∨k=2 by omega) with rfl|rfl|rfl<;>assumption)
end Go.Am.Ds
end
section
namespace Go.Am.Ds
open Go Go.Am Go.Proofs
attribute [local simp] vrun zay zbm vop vopA zcn zab.back hidI hidF zd4 bm Nat.testBit_eq_decide_div_mod_eq za2 zbp zck vO zbj vlen zbv zb6 zev zau zap zcx vbox zbh zeq zcb zer zcw zaw zcy zax zc0 zbi zcz zbu zbq vbnd zdh vidx zbr zee zav zbx zde zeh zfd zfa vbin vsc vsc1 vscs vscl zb8 aint zca zef zbb zdb zex pvcV pvc pvcs tput tget zdx zab.get zab.alloc zab.put zab.drop zab.empty zce vput zei zbd zcf zdu chunk List.range List.range.loop za7 zb2 za8 frz frzL PV.isF PV.allF PV.scal PV.allS retP subT zem PV.one PV.ids PV.idsL zcj beq_eq zb9 zcc
attribute [local simp] zW tup2
def xid (a b:Int):Int:=IntKind.u16.wrap ((BitVec.ofInt 16 a &&& BitVec.ofInt 16 b).toNat:Int)
def xdl (a:Int)(k:Nat):Int:=a.fdiv (2 ^ min k 16)
@[local simp ↓ high] theorem xaw (a b:Int):aint .and .u16 a b=some (.int .u16 (xid a b)):=rfl
@[local simp ↓ high] theorem ashr16 (a:Int)(k:Nat):zca .shr .u16 a (k:Int)=some (.int .u16 (xdl a k)):=by
 unfold zca xdl
 have h:¬((k:Int)<0):=by omega
 rw[decide_eq_false h,xjh,Int.toNat_natCast];rfl
end Go.Am.Ds
end
