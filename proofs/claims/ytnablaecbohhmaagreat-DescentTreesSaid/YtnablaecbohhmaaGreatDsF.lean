/-
 What is used in the proof of a statement (part DsF); no condition.
-/
import Derived.Test.YtnablaecbohhmaaGreatDsD
import Derived.Test.YtnablaecbohhmaaGreatDsZ
import Derived.Test.YtnablaecbohhmaaGreatVm2
import Derived.Test.YtnablaecbohhmaaGreatDsT
import Derived.Test.YtnablaecbohhmaaGreatDsC
set_option linter.all false
set_option maxHeartbeats 40000000
set_option maxRecDepth 100000
/-
 Descent: sets of copies as bits, in plain Lean.
-/
section
namespace Go.Am.Ds
open Go Go.Am Go.Proofs
def andV (a b:Int):Int:=IntKind.u32.wrap ((BitVec.ofInt 32 a &&& BitVec.ofInt 32 b).toNat:Int)
def anV (a b:Int):Int:=IntKind.u32.wrap ((BitVec.ofInt 32 a &&& ~~~ BitVec.ofInt 32 b).toNat:Int)
def shrV (a:Int)(k:Nat):Int:=a.fdiv (2 ^ min k 32)
def zmi (x y:Int):Bool:=(andV x y != 0)&&((anV x y != 0)&&(anV y x != 0))
def bitB (m:Int)(k:Nat):Bool:=andV (shrV m k) 1==1
def amP (m:Int)(l:List Int)(k:Nat):List Int:=(List.range k).filterMap fun i=>if bitB m i then l[i]? else none
def amL (m:Int)(l:List Int):List Int:=amP m l l.length
theorem z5a (m:Int)(l:List Int)(k:Nat)(h:k<l.length):amP m l (k+1)=if bitB m k=true then amP m l k++[l[k]] else amP m l k:=by
 unfold amP
 rw[List.range_succ,List.filterMap_append]
 by_cases hb:bitB m k=true
 ·rw[if_pos hb];simp[hb,h]
 rw[if_neg hb];simp[hb]
theorem zka {n:Nat}(h:n<4294967296):IntKind.u32.wrap (n:Int)=(n:Int):=z9u (by omega) (by omega)
theorem zp4 (n:Nat):(BitVec.ofInt 32 (n:Int)).toNat=n % 4294967296:=by
 rw[BitVec.ofInt_natCast,BitVec.toNat_ofNat]
theorem zmy {a b:Nat}(ha:a<4294967296)(hb:b<4294967296):andV (a:Int) (b:Int)=((a &&& b:Nat):Int):=by
 unfold andV
 rw[BitVec.toNat_and,zp4,zp4,Nat.mod_eq_of_lt ha,Nat.mod_eq_of_lt hb]
 exact zka (Nat.lt_of_le_of_lt Nat.and_le_left ha)
theorem z9w {a b:Nat}(ha:a<4294967296)(hb:b<4294967296):orV (a:Int) (b:Int)=((a ||| b:Nat):Int):=by
 unfold orV
 rw[BitVec.toNat_or,zp4,zp4,Nat.mod_eq_of_lt ha,Nat.mod_eq_of_lt hb]
 exact zka (Nat.or_lt_two_pow (n:=32) ha hb)
def anN (a b:Nat):Nat:=(BitVec.ofInt 32 (a:Int) &&& ~~~ BitVec.ofInt 32 (b:Int)).toNat
theorem zos {a b:Nat}:anV (a:Int) (b:Int)=((anN a b:Nat):Int):=by
 unfold anV anN
 exact zka (BitVec.isLt _)
theorem zof {a b:Nat}(ha:a<4294967296)(hb:b<4294967296)(k:Nat):(anN a b).testBit k=(a.testBit k&&!b.testBit k):=by
 unfold anN
 rw[BitVec.testBit_toNat,BitVec.getLsbD_and,BitVec.getLsbD_not,← BitVec.testBit_toNat,← BitVec.testBit_toNat,zp4,zp4,Nat.mod_eq_of_lt ha,Nat.mod_eq_of_lt hb]
 by_cases hk:k<32
 ·simp[hk]
 have:a.testBit k=false:=Nat.testBit_lt_two_pow (Nat.lt_of_lt_of_le ha (show (2:Nat) ^ 32≤2 ^ k from Nat.pow_le_pow_right (by omega) (by omega)))
 simp[this,hk]
theorem z0g (a b:Nat):anN a b<4294967296:=BitVec.isLt _
theorem z5x {k:Nat}(h:k<32):bitV k=((2 ^ k:Nat):Int):=by
 unfold bitV
 rw[Nat.min_eq_left (by omega)]
 have h1:(2:Nat) ^ k<4294967296:=Nat.pow_lt_pow_right (by omega) (show k<32 from h)
 have:=zka h1
 rw[← this];congr 1
theorem z5v {a k:Nat}(h:k<32):shrV (a:Int) k=((a >>> k:Nat):Int):=by
 unfold shrV
 rw[Nat.min_eq_left (by omega),Nat.shiftRight_eq_div_pow,Int.fdiv_eq_ediv_of_nonneg _ (by exact Int.le_of_lt (Int.pow_pos (by omega)))]
 push_cast;rfl
theorem zwh {a k:Nat}(ha:a<4294967296)(h:k<32):bitB (a:Int) k=a.testBit k:=by
 unfold bitB
 rw[z5v h,show (1:Int)=((1:Nat):Int) from rfl,zmy (Nat.lt_of_le_of_lt (Nat.shiftRight_le _ _) ha) (by omega),Nat.testBit]
 rw[Bool.eq_iff_iff,Nat.and_comm]
 have h2:1 &&& (a >>> k)<2:=by
  rw[Nat.one_and_eq_mod_two];exact Nat.mod_lt _ (by omega)
 generalize 1 &&& (a >>> k)=x at h2 ⊢
 simp only[beq_iff_eq,bne_iff_ne,ne_eq]
 constructor
 ·intro h3 h4;omega
 intro h3;omega
theorem zob {n:Nat}:n≠0↔∃k,n.testBit k=true:=by
 constructor
 ·intro h;obtain⟨k,hk⟩:=Nat.exists_testBit_of_ne_zero h;exact⟨k,hk⟩
 rintro⟨k,hk⟩ h;rw[h,Nat.zero_testBit] at hk;cases hk
def okM (es:List (Int×Int))(B:Int→Nat→Prop):Prop:=∀n,∃v:Nat,(getM es n).getD 0=(v:Int)∧v<4294967296∧∀k,v.testBit k=true↔B n k
theorem z4u (es:List (Int×Int))(n v m:Int):getM (setM es n v) m=if m=n then some v else getM es m:=by
 unfold setM
 cases h:getM es n with
 |none=>
  simp only
  have h0:es.find? (fun x=>decide (x.1=n))=none:=by unfold getM at h;simpa using h
  unfold getM
  rw[List.find?_append]
  by_cases hm:m=n
  ·subst hm;rw[if_pos rfl,h0];simp
  rw[if_neg hm]
  cases hf:es.find? fun x=>decide (x.1=m) with
  |some x=>simp
  |none=>simp[Ne.symm hm]
 |some y=>
  simp only
  unfold getM at h ⊢
  induction es with
  |nil=>simp at h
  |cons a r ih=>
   rw[List.map_cons,List.find?_cons,List.find?_cons]
   rw[List.find?_cons] at h
   by_cases ha:a.1=n
   ·by_cases hm:m=n
    ·subst hm;simp[ha]
    have h1:¬a.1=m:=fun h1=>hm (h1.symm.trans ha)
    have h2:¬n=m:=fun h2=>hm h2.symm
    rw[if_neg hm]
    simp only[ha,if_true,h2,decide_false]
    have:∀l:List (Int×Int),((l.map fun x=>if x.1=n then (x.1,v) else x).find? fun x=>decide (x.1=m)).map (·.2)=(l.find? fun x=>decide (x.1=m)).map (·.2):=by
     intro l
     induction l with
     |nil=>rfl
     |cons b l ihl=>
      rw[List.map_cons,List.find?_cons,List.find?_cons]
      by_cases hb:b.1=n
      ·have:¬b.1=m:=fun h3=>hm (h3.symm.trans hb)
       simp only[hb,if_true,h2,decide_false];exact ihl
      rw[if_neg hb]
      cases decide (b.1=m) with
      |true=>rfl
      |false=>exact ihl
    exact this r
   rw[decide_eq_false ha] at h
   rw[if_neg ha]
   by_cases hm:a.1=m
   ·have h1:¬m=n:=fun h1=>ha (hm.trans h1)
    rw[if_neg h1,decide_eq_true hm]
   rw[decide_eq_false hm]
   exact ih h
theorem z9f {es:List (Int×Int)}{B:Int→Nat→Prop}(h:okM es B){p:Nat}(hp:p<32)(n:Int):okM (putM p es n) fun m k=>B m k∨(m=n∧k=p):=by
 intro m
 unfold putM
 rw[z4u]
 by_cases hm:m=n
 ·subst hm
  rw[if_pos rfl]
  obtain⟨v,h1,h2,h3⟩:=h m
  refine⟨v ||| 2 ^ p,?_,Nat.or_lt_two_pow (n:=32) h2 (Nat.pow_lt_pow_right (by omega) hp),fun k=>?_⟩
  ·rw[Option.getD_some,h1]
   unfold orU
   rw[z5x hp,z9w h2 (Nat.pow_lt_pow_right (by omega) hp)]
  rw[Nat.testBit_or,Bool.or_eq_true,h3,Nat.testBit_two_pow]
  simp only[decide_eq_true_eq]
  constructor
  ·rintro (h4|h4)
   ·exact .inl h4
   exact .inr ⟨trivial,h4.symm⟩
  rintro (h4|⟨_,h4⟩)
  ·exact .inl h4
  exact .inr h4.symm
 rw[if_neg hm]
 obtain⟨v,h1,h2,h3⟩:=h m
 refine⟨v,h1,h2,fun k=>?_⟩
 rw[h3]
 exact⟨.inl,fun h4=>h4.elim id fun h5=>absurd h5.1 hm⟩
theorem zxc {p:Nat}(hp:p<32):∀(l:List Int) {es:List (Int×Int)} {B:Int→Nat→Prop},okM es B→okM (l.foldl (putM p) es) fun m k=>B m k∨(m∈l∧k=p)
 |[],es,B,h=>by
  intro n
  obtain⟨v,h1,h2,h3⟩:=h n
  exact⟨v,h1,h2,fun k=>by rw[h3];simp⟩
 |a::r,es,B,h=>by
  have ih:=zxc hp r (z9f h hp a)
  intro n
  obtain⟨v,h1,h2,h3⟩:=ih n
  refine⟨v,h1,h2,fun k=>?_⟩
  rw[h3]
  show ((B n k∨n=a∧k=p)∨n∈r∧k=p)↔(B n k∨n∈a::r∧k=p)
  rw[List.mem_cons]
  constructor
  ·rintro ((h4|⟨h4,h5⟩)|⟨h4,h5⟩)
   ·exact .inl h4
   ·exact .inr ⟨.inl h4,h5⟩
   exact .inr ⟨.inr h4,h5⟩
  rintro (h4|⟨h4|h4,h5⟩)
  ·exact .inl (.inl h4)
  ·exact .inl (.inr ⟨h4,h5⟩)
  exact .inr ⟨h4,h5⟩
theorem zft {s:List Wit}(h:zai s=0):okM (zdn s) fun n k=>∃w∈s,posI s w.id=k∧n∈w.slips:=by
 have hl:=(zbc h).1
 have:∀(l:List Wit),(∀w∈l,w∈s)→∀ {es:List (Int×Int)} {B:Int→Nat→Prop},okM es B→okM (l.foldl (zs1 s) es) fun n k=>B n k∨∃w∈l,posI s w.id=k∧n∈w.slips:=by
  intro l
  induction l with
  |nil=>
   intro _ es B h1 n
   obtain⟨v,h2,h3,h4⟩:=h1 n
   exact⟨v,h2,h3,fun k=>by rw[h4];simp⟩
  |cons a r ih=>
   intro hs es B h1 n
   obtain⟨hp,_⟩:=zjo (hs a List.mem_cons_self)
   have hp32:posI s a.id<32:=by have:=zkd s;omega
   obtain⟨v,h2,h3,h4⟩:=ih (fun w hw=>hs w (List.mem_cons_of_mem _ hw)) (zxc hp32 a.slips h1) n
   refine⟨v,h2,h3,fun k=>?_⟩
   rw[h4]
   constructor
   ·rintro ((h5|⟨h5,h6⟩)|⟨w,h5,h6⟩)
    ·exact .inl h5
    ·exact .inr ⟨a,List.mem_cons_self,h6.symm,h5⟩
    exact .inr ⟨w,List.mem_cons_of_mem _ h5,h6⟩
   rintro (h5|⟨w,h5,h6,h7⟩)
   ·exact .inl (.inl h5)
   rcases List.mem_cons.1 h5 with rfl|h5
   ·exact .inl (.inr ⟨h7,h6.symm⟩)
   exact .inr ⟨w,h5,h6,h7⟩
 have h0:okM [] fun _ _=>False:=fun n=>⟨0,rfl,by omega,fun k=>by simp⟩
 intro n
 obtain⟨v,h1,h2,h3⟩:=this s (fun w hw=>hw) h0 n
 exact⟨v,h1,h2,fun k=>by rw[h3];simp⟩
def vM (s:List Wit)(n:Int):Int:=(getM (zdn s) n).getD 0
def crB (s:List Wit)(a b:Int):Bool:=zmi (vM s a) (vM s b)
def crO (s:List Wit):List Int→Option (Int×Int)
 |[]=>none
 |a::r=>match r.find? (crB s a) with
  |some b=>some (a,b)
  |none=>crO s r
def crR (s:List Wit):Option (Int×Int):=crO s (zb0 s)
theorem zq0 {s:List Wit}{a b:Int}:∀ {l:List Int},crO s l=some (a,b)→a∈l∧b∈l∧crB s a b=true
 |[],h=>by unfold crO at h;cases h
 |x::r,h=>by
  unfold crO at h
  split at h
  ·rename_i y hy
   injection h with h
   injection h with h1 h2
   subst h1;subst h2
   exact⟨List.mem_cons_self,List.mem_cons_of_mem _ (List.mem_of_find?_eq_some hy),by simpa using List.find?_some hy⟩
  obtain⟨h1,h2,h3⟩:=zq0 h
  exact⟨List.mem_cons_of_mem _ h1,List.mem_cons_of_mem _ h2,h3⟩
theorem zqh {s:List Wit}(hsym:∀a b,crB s a b=crB s b a)(hirr:∀a,crB s a a=false):∀ {l:List Int},crO s l=none→∀a∈l,∀b∈l,crB s a b=false
 |[],_=>fun a ha=>by cases ha
 |x::r,h=>by
  unfold crO at h
  split at h
  ·cases h
  rename_i hn
  have h1:∀b∈r,crB s x b=false:=fun b hb=>by
   have:=List.find?_eq_none.1 hn b hb
   simpa using this
  have h2:=zqh hsym hirr h
  intro a ha b hb
  rcases List.mem_cons.1 ha with ea|ha2
  ·rcases List.mem_cons.1 hb with eb|hb2
   ·rw[ea,eb];exact hirr _
   rw[ea];exact h1 b hb2
  rcases List.mem_cons.1 hb with eb|hb2
  ·rw[eb,hsym];exact h1 a ha2
  exact h2 a ha2 b hb2
def crP (s:List Wit)(a b:Int):Prop:=(∃w∈s,a∈w.slips∧b∈w.slips)∧(∃w∈s,a∈w.slips∧b∉w.slips)∧∃w∈s,b∈w.slips∧a∉w.slips
theorem zn9 {s:List Wit}(h:zai s=0){w u:Wit}(hw:w∈s)(hu:u∈s)(e:posI s w.id=posI s u.id):w=u:=by
 obtain⟨h1,h2⟩:=zjo hw
 obtain⟨h3,h4⟩:=zjo hu
 have h5:w.id=u.id:=by rw[← h2,← h4];congr 1
 have e1:=ziq (zcg h) hw
 rw[h5,ziq (zcg h) hu] at e1
 injection e1 with e1;exact e1.symm
theorem zgx {s:List Wit}(h:zai s=0)(a b:Int):crB s a b=true↔crP s a b:=by
 obtain⟨x,hx1,hx2,hx3⟩:=zft h a
 obtain⟨y,hy1,hy2,hy3⟩:=zft h b
 unfold crB zmi
 rw[show vM s a=(x:Int) from hx1,show vM s b=(y:Int) from hy1,zmy hx2 hy2,zos,zos]
 have hz:∀n:Nat,(((n:Int) != 0)=true)↔∃k,n.testBit k=true:=fun n=>by
  rw[← zob];simp
 rw[xji,xji,hz,hz,hz]
 unfold crP
 have e1:(∃k,(x &&& y).testBit k=true)↔∃w∈s,a∈w.slips∧b∈w.slips:=by
  constructor
  ·rintro⟨k,hk⟩
   rw[Nat.testBit_and,xji,hx3,hy3] at hk
   obtain⟨⟨w,hw,hwk,hwa⟩,⟨u,hu,huk,hub⟩⟩:=hk
   have:=zn9 h hw hu (hwk.trans huk.symm)
   subst this
   exact⟨w,hw,hwa,hub⟩
  rintro⟨w,hw,h1,h2⟩
  refine⟨posI s w.id,?_⟩
  rw[Nat.testBit_and,xji,hx3,hy3]
  exact⟨⟨w,hw,rfl,h1⟩,⟨w,hw,rfl,h2⟩⟩
 have e2:∀ {p q:Int} {X Y:Nat},X<4294967296→Y<4294967296→(∀k,X.testBit k=true↔∃w∈s,posI s w.id=k∧p∈w.slips)→(∀k,Y.testBit k=true↔∃w∈s,posI s w.id=k∧q∈w.slips)→((∃k,(anN X Y).testBit k=true)↔∃w∈s,p∈w.slips∧q∉w.slips):=by
  intro p q X Y hX hY h1 h2
  constructor
  ·rintro⟨k,hk⟩
   rw[zof hX hY,xji,h1,Bool.not_eq_true'] at hk
   obtain⟨⟨w,hw,hwk,hwa⟩,hn⟩:=hk
   refine⟨w,hw,hwa,fun h3=>?_⟩
   have:=(h2 k).2 ⟨w,hw,hwk,h3⟩
   rw[hn] at this;cases this
  rintro⟨w,hw,h3,h4⟩
  refine⟨posI s w.id,?_⟩
  rw[zof hX hY,xji,h1,Bool.not_eq_true']
  refine⟨⟨w,hw,rfl,h3⟩,?_⟩
  cases hb:Y.testBit (posI s w.id) with
  |false=>rfl
  |true=>
   obtain⟨u,hu,huk,hub⟩:=(h2 _).1 hb
   have:=zn9 h hu hw huk
   subst this
   exact absurd hub h4
 rw[e1,e2 hx2 hy2 hx3 hy3,e2 hy2 hx2 hy3 hx3]
theorem zur {s:List Wit}(h:zai s=0):(crR s).isSome=true↔∃a b,crP s a b:=by
 constructor
 ·intro h1
  cases hc:crR s with
  |none=>rw[hc] at h1;cases h1
  |some p=>exact⟨p.1,p.2,(zgx h _ _).1 (zq0 (by exact hc)).2.2⟩
 rintro⟨a,b,hab⟩
 cases hc:crR s with
 |some p=>rfl
 |none=>
  exfalso
  have hsym:∀a b,crB s a b=crB s b a:=fun a b=>by
   rw[Bool.eq_iff_iff,zgx h,zgx h]
   unfold crP
   constructor
   ·rintro⟨⟨w,h1,h2,h3⟩,h4,h5⟩;exact⟨⟨w,h1,h3,h2⟩,h5,h4⟩
   rintro⟨⟨w,h1,h2,h3⟩,h4,h5⟩;exact⟨⟨w,h1,h3,h2⟩,h5,h4⟩
  have hirr:∀a,crB s a a=false:=fun a=>by
   cases hb:crB s a a with
   |false=>rfl
   |true=>
    obtain⟨_,⟨w,_,h2,h3⟩,_⟩:=(zgx h _ _).1 hb
    exact absurd h2 h3
  have h1:=hab
  obtain⟨⟨w,hw,h2,h3⟩,_,_⟩:=h1
  have:=zqh hsym hirr hc a (zdo.2 ⟨w,hw,h2⟩) b (zdo.2 ⟨w,hw,h3⟩)
  rw[(zgx h a b).2 hab] at this;cases this
theorem z2g {s:List Wit}(h:zai s=0){v:Nat}(hv:v<4294967296)(hne:v≠0)(hb:∀k,v.testBit k=true→k<(idsS s).length):amL (v:Int) (idsS s)≠[]:=by
 obtain⟨k,hk⟩:=zob.1 hne
 have hl:=hb k hk
 have h24:=(zbc h).1
 have hil:=zkd s
 intro h0
 unfold amL amP at h0
 rw[List.filterMap_eq_nil_iff] at h0
 have:=h0 k (List.mem_range.2 hl)
 rw[zwh hv (by omega),hk] at this
 simp at this;omega
theorem z5l {s:List Wit}(h:zai s=0){a b:Int}(hc:crB s a b=true):amL (andV (vM s a) (vM s b)) (idsS s)≠[]∧amL (anV (vM s a) (vM s b)) (idsS s)≠[]∧amL (anV (vM s b) (vM s a)) (idsS s)≠[]:=by
 obtain⟨x,hx1,hx2,hx3⟩:=zft h a
 obtain⟨y,hy1,hy2,hy3⟩:=zft h b
 unfold crB zmi at hc
 rw[show vM s a=(x:Int) from hx1,show vM s b=(y:Int) from hy1] at hc ⊢
 rw[zmy hx2 hy2,zos,zos] at hc ⊢
 simp only[xji,bne_iff_ne,ne_eq] at hc
 obtain⟨h1,h2,h3⟩:=hc
 have bx:∀k,x.testBit k=true→k<(idsS s).length:=fun k hk=>by
  obtain⟨w,hw,rfl,_⟩:=(hx3 k).1 hk;exact(zjo hw).1
 have by':∀k,y.testBit k=true→k<(idsS s).length:=fun k hk=>by
  obtain⟨w,hw,rfl,_⟩:=(hy3 k).1 hk;exact(zjo hw).1
 refine⟨z2g h (Nat.lt_of_le_of_lt Nat.and_le_left hx2) (by omega) fun k hk=>?_,z2g h (z0g _ _) (by omega) fun k hk=>?_,z2g h (z0g _ _) (by omega) fun k hk=>?_⟩
 ·rw[Nat.testBit_and,xji] at hk;exact bx k hk.1
 ·rw[zof hx2 hy2,xji] at hk;exact bx k hk.1
 rw[zof hy2 hx2,xji] at hk;exact by' k hk.1
end Go.Am.Ds
end
section
namespace Go.Am.Ds
open Go Go.Am Go.Proofs
attribute [local simp] vrun zay zbm vop vopA zcn zab.back hidI hidF zd4 bm Nat.testBit_eq_decide_div_mod_eq za2 zbp zck vO zbj vlen zbv zb6 zev zau zap zcx vbox zbh zeq zcb zer zcw zaw zcy zax zc0 zbi zcz zbu zbq vbnd zdh vidx zbr zee zav zbx zde zeh zfd zfa vbin vsc vsc1 vscs vscl zb8 aint zca zef zbb zdb zex pvcV pvc pvcs tput tget zdx zab.get zab.alloc zab.put zab.drop zab.empty zce vput zei zbd zcf zdu chunk List.range List.range.loop za7 zb2 za8 frz frzL PV.isF PV.allF PV.scal PV.allS retP subT zem PV.one PV.ids PV.idsL zcj beq_eq zb9 zcc
attribute [local simp] zW tup2
end Go.Am.Ds
end
section
namespace Go.Am.Ds
open Go Go.Am Go.Proofs Tryz
attribute [local simp] vrun zay zbm vop vopA zcn zab.back hidI hidF zd4 bm Nat.testBit_eq_decide_div_mod_eq za2 zbp zck vO zbj vlen zbv zb6 zev zau zap zcx vbox zbh zeq zcb zer zcw zaw zcy zax zc0 zbi zcz zbu zbq vbnd zdh vidx zbr zee zav zbx zde zeh zfd zfa vbin vsc vsc1 vscs vscl zb8 aint zca zef zbb zdb zex pvcV pvc pvcs tput tget zdx zab.get zab.alloc zab.put zab.drop zab.empty zce vput zei zbd zcf zdu chunk List.range List.range.loop za7 zb2 za8 frz frzL PV.isF PV.allF PV.scal PV.allS retP subT zem PV.one PV.ids PV.idsL zcj beq_eq zb9 zcc
attribute [local simp] zW tup2
@[local simp ↓ high] theorem xa7 (a b:Int):aint .and .u32 a b=some (.int .u32 (andV a b)):=rfl
@[local simp ↓ high] theorem xbm (a b:Int):aint .andNot .u32 a b=some (.int .u32 (anV a b)):=rfl
@[local simp ↓ high] theorem ashr32 (a:Int)(k:Nat):zca .shr .u32 a (k:Int)=some (.int .u32 (shrV a k)):=by
 unfold zca shrV
 have h:¬((k:Int)<0):=by omega
 rw[decide_eq_false h,xjh,Int.toNat_natCast];rfl
theorem p96 (x y:Int):zaj prog 96 [.int .u32 x,.int .u32 y] fun r=>r=.tup [.agg [.int .u32 (andV x y),.int .u32 (anV x y),.int .u32 (anV y x)],.bool (zmi x y)]:=by
 have hcx:zmi x y=(andV x y != 0&&(anV x y != 0&&anV y x != 0)):=rfl
 refine .zag func96 rfl rfl ?_
 refine .sr ?_
 refine .sr ?_
 refine .seq ?_
 refine .drawn (ms:=[0,0,2,6,14,30,62,126,254,510,1022,2046,4094,8190,1023,32767]) (W:=[14]) (items:=[.op 0,.op 1,.op 2,.op 3,.op 4,.op 5,.op 6,.op 7,.op 8,.op 9,.op 10,.op 11,.op 12,.op 13,.op 14,.ck 11,.op 15]) rfl zz0 zz0 zz0 ?_
 iterate 5 refine .rx ?_
 refine .split (t:=21) rfl (fun c21=>?_) (fun c21=>?_)
 ·try rw[c21]
  try simp at c21
  have e1:(andV x y != 0)=true:=by simpa using c21
  iterate 5 refine .rx ?_
  refine .split (t:=26) rfl (fun c26=>?_) (fun c26=>?_)
  ·try rw[c26]
   try simp at c26
   have e2:(anV x y != 0)=true:=by simpa using c26
   iterate 4 refine .rx ?_
   refine .wr rfl rfl (by decide) (.stor (todo':=[11]) rfl rfl rfl rfl zz1 rfl (⟨⟨by decide +kernel,_,_,rfl,zz1⟩,trivial⟩) ?_)
   refine .ck rfl zz0 ?_
   refine .rx ?_
   refine .done (.ret ?_)
   refine⟨_,_,zz4,zz4,?_⟩
   simp only[hcx,e1,e2,Bool.true_and]
  try rw[c26]
  try simp at c26
  have e2:(anV x y != 0)=false:=by simp[c26]
  iterate 3 refine .ux ?_
  refine .rx ?_
  refine .wr rfl rfl (by decide) (.stor (todo':=[]) rfl rfl rfl rfl zz1 rfl trivial ?_)
  refine .ckU rfl rfl rfl ?_
  refine .rx ?_
  refine .done (.ret ?_)
  refine⟨_,_,zz4,zz4,?_⟩
  simp only[hcx,e1,e2,Bool.false_and,Bool.and_false]
  simp[c26]
 try rw[c21]
 try simp at c21
 have e1:(andV x y != 0)=false:=by simp[c21]
 iterate 3 refine .ux ?_
 iterate 2 refine .rx ?_
 iterate 3 refine .ux ?_
 refine .rx ?_
 refine .wr rfl rfl (by decide) (.stor (todo':=[]) rfl rfl rfl rfl zz1 rfl trivial ?_)
 refine .ckU rfl rfl rfl ?_
 refine .rx ?_
 refine .done (.ret ?_)
 refine⟨_,_,zz4,zz4,?_⟩
 simp only[hcx,e1,Bool.false_and]
 simp[c21]
theorem p95 (s:List Wit)(h:zai s=0):zaj prog 95 [.vmap (kvs (kvM (zdn s)))] fun r=>r=.tup [.int .i64 ((crR s).getD (0,0)).1,.int .i64 ((crR s).getD (0,0)).2,.bool (crR s).isSome]:=by
 have hlen:=zh4 h
 have hsl:=zi6 s
 have h125:zaj prog 125 [.vmap (kvs (kvM (zdn s)))] fun r=>r=ints (zb0 s):=by
  have h:=p125 (kvM (zdn s)) (by rw[zi3];exact zfl s) (by simp only[kvM,List.length_map];omega)
  rw[zi3] at h;exact h
 have hpf:∀n∈zb0 s,zh7 .i64 n (kvs (kvM (zdn s)))=some (some (.int .u32 (vM s n))):=fun n hn=>by
  have h1:n∈(zdn s).map (·.1):=zf9.2 (zdo.1 hn)
  have h2:=zr1.2 h1
  rw[zgf]
  unfold vM
  cases hg:getM (zdn s) n with
  |none=>rw[hg] at h2;cases h2
  |some v=>rfl
 have hL:(zb0 s).length≤720:=by omega
 clear hsl hlen
 have hcr:crR s=crO s (zb0 s):=rfl
 generalize hM:kvs (kvM (zdn s))=M at hpf h125
 generalize hLL:zb0 s=L at hpf hL h125 hcr
 refine .zag func95 rfl rfl ?_
 refine .sr ?_
 refine .scope ?_
 refine .seq ?_
 refine .zac [0,1,2] rfl zz0 ?_
 refine .rn [0] _ ?_
 refine .pc rfl rfl rfl rfl rfl call125 (h125) ?_
 refine .rn [2] [] ?_
 refine .done (.sr ?_)
 refine .seq ?_
 refine .label ?_
 refine .seq (.sr ?_)
 refine .block ?_
 refine .zbl (fun k:Nat=>([(0,.vmap M),(5,ints L),(6,.int .i64 0),(7,.int .i64 0),(8,.bool false),(15,ints L),(16,.int .i64 L.length),(17,.int .i64 k)],zab.empty)) (fun k=>k≤L.length∧crR s=crO s (L.drop k)) (fun k=>L.length - k) 0 ⟨by simp,by simpa using hcr⟩ (.pure (by simp[*]) (by simp)) ?_
 rintro k ⟨hk,hr⟩
 simp only at hk hr ⊢
 refine .sr ?_
 refine .seq ?_
 refine .cs ?_ ?_<;>intro c18
 ·try simp at c18
  have hw2:=wr1 k
  rw[List.drop_eq_getElem_cons c18] at hr
  obtain⟨D,hD⟩:∃D,L.drop (k+1)=D:=⟨_,rfl⟩
  have hDl:D.length=L.length - (k+1):=by rw[← hD,List.length_drop]
  have hDm:∀x∈D,x∈L:=fun x hx=>List.mem_of_mem_drop (hD▸hx)
  have hDt:(L.map (PV.int .i64)).drop (k+1)=D.map (.int .i64):=by rw[← List.map_drop,hD]
  have hDt2:((L.map (PV.int .i64)).drop (k+1)).take (L.length - (k+1))=D.map (.int .i64):=by rw[hDt];exact List.take_of_length_le (by rw[List.length_map];omega)
  have hDt3:List.take (L.length - (k+1)) (D.map (PV.int .i64))=D.map (.int .i64):=List.take_of_length_le (by rw[List.length_map];omega)
  have hk1':0≤(k:Int)+1∧(k:Int)+1≤(L.length:Int):=by omega
  have hDn:D.length≤720:=by omega
  clear hDl
  have hpa:=hpf L[k] (List.getElem_mem c18)
  have hk1:k+1≤L.length:=c18
  refine .skip (.seq (.block (.sr ?_)))
  refine .sr ?_
  refine .block ?_
  refine .zbl (fun j:Nat=>([(0,.vmap M),(5,ints L),(6,.int .i64 0),(7,.int .i64 0),(8,.bool false),(10,.int .i64 L[k]),(15,ints L),(16,.int .i64 L.length),(17,.int .i64 k),(25,ints D),(26,.int .i64 D.length),(27,.int .i64 j)],zab.empty)) (fun j=>j≤D.length∧D.find? (crB s L[k])=(D.drop j).find? (crB s L[k])) (fun j=>D.length - j) 0 (by simp) (.pure (by simp[*]) (by simp)) ?_
  rintro j ⟨hj,hf⟩
  simp only at hj hf ⊢
  refine .sr ?_
  refine .seq ?_
  refine .cs ?_ ?_<;>intro c28
  ·try simp at c28
   have hw3:=wr1 j
   rw[List.drop_eq_getElem_cons c28,List.find?_cons] at hf
   have hpb:=hpf D[j] (hDm _ (List.getElem_mem c28))
   obtain⟨cb,hcb⟩:∃x,crB s L[k] D[j]=x:=⟨_,rfl⟩
   have h96:=p96 (vM s L[k]) (vM s D[j])
   rw[show zmi (vM s L[k]) (vM s D[j])=cb from hcb] at h96
   rw[hcb] at hf
   refine .skip (.seq (.block (.sr ?_)))
   refine .seq ?_
   refine .zac [0,1,2,3,4,5,6,7,8,9,10] rfl zz0 ?_
   refine .rn [0,1,2,3,4,5] _ ?_
   refine .pc rfl rfl rfl rfl rfl call96 (h96) ?_
   refine .rn [7,8,9,10] [] ?_
   refine .done (.sr ?_)
   refine .cs ?_ ?_<;>intro c41
   ·try simp at c41
    rw[c41] at hf
    refine .sr ?_
    refine .exit (.sr ?_)
    refine .ret ?_
    refine⟨_,_,zz4,zz4,?_⟩
    have hx:crR s=some (L[k],D[j]):=by rw[hr];unfold crO;rw[hD,hf]
    rw[hx];simp[c41]
   try simp at c41
   rw[c41] at hf
   refine .skip (.rn ?_)
   refine⟨j+1,⟨c28,hf⟩,zz5,.pure (by simp[*]) (by simp)⟩
  try simp at c28
  have hj2:j=D.length:=by omega
  rw[hj2,List.drop_length] at hf
  refine .exit (.rn ?_)
  refine⟨k+1,⟨c18,by
   rw[hr,hD]
   show (match D.find? (crB s L[k]) with|some b=>some (L[k],b)|none=>crO s D)=crO s D
   rw[hf];rfl⟩,zz5,.pure (by simp[*]) (by simp)⟩
 try simp at c18
 have hk2:k=L.length:=by omega
 rw[hk2,List.drop_length] at hr
 refine .exit (.sr ?_)
 refine .ret ?_
 refine⟨_,_,zz4,zz4,?_⟩
 rw[hr];rfl
end Go.Am.Ds
end
/-
 Descent: the plain law of DescentSets: sets of copies as lists of numbers.
-/
section
namespace Go.Am.Ds
open Go Go.Am Go.Proofs
def hdB (s:List Wit)(p:Wit→Bool)(id:Int):Bool:=match getW s id with
 |some w=>p w
 |none=>false
def hdS (s:List Wit)(p:Wit→Bool):List Int:=(idsS s).filter (hdB s p)
def hasP (n:Int)(w:Wit):Bool:=decide (n∈w.slips)
theorem zpq {m:Int}{l:List Int}{q:Int→Bool}(h:∀i,∀hi:i<l.length,bitB m i=q l[i]):amL m l=l.filter q:=by
 have:∀k,k≤l.length→amP m l k=(l.take k).filter q:=by
  intro k
  induction k with
  |zero=>intro _;simp[amP]
  |succ k ih=>
   intro hk
   rw[z5a m l k (by omega),ih (by omega),List.take_succ_eq_append_getElem (by omega),List.filter_append,h k (by omega)]
   by_cases hq:q l[k]=true<;>simp[hq]
 unfold amL
 rw[this _ (Nat.le_refl _),List.take_length]
theorem z6r {s:List Wit}(h:zai s=0){v:Nat}(hv:v<4294967296){p:Wit→Bool}(hb:∀k,v.testBit k=true↔∃w∈s,posI s w.id=k∧p w=true):amL (v:Int) (idsS s)=hdS s p:=by
 unfold hdS
 refine zpq fun i hi=>?_
 have h24:=(zbc h).1
 have hil:=zkd s
 rw[zwh hv (by omega)]
 obtain⟨w,hw,hwi⟩:=zkh.1 (List.getElem_mem hi)
 have hg:=ziq (zcg h) hw
 have hpos:posI s w.id=i:=by
  obtain⟨h1,h2⟩:=zjo hw
  have hs:=zj3 (zcg h)
  rw[List.pairwise_iff_getElem] at hs
  have e:(idsS s)[posI s w.id]=(idsS s)[i]:=h2.trans hwi
  rcases Nat.lt_trichotomy (posI s w.id) i with h3|h3|h3
  ·have:=hs _ _ h1 hi h3;omega
  ·exact h3
  have:=hs _ _ hi h1 h3;omega
 unfold hdB
 rw[← hwi,hg]
 simp only
 rw[Bool.eq_iff_iff,hb]
 constructor
 ·rintro⟨u,hu,h1,h2⟩
  have:=zn9 h hu hw (h1.trans hpos.symm)
  subst this;exact h2
 intro h1;exact⟨w,hw,hpos,h1⟩
theorem zri {s:List Wit}(h:zai s=0)(a b:Int):amL (andV (vM s a) (vM s b)) (idsS s)=hdS s fun w=>hasP a w&&hasP b w:=by
 obtain⟨x,hx1,hx2,hx3⟩:=zft h a
 obtain⟨y,hy1,hy2,hy3⟩:=zft h b
 rw[show vM s a=(x:Int) from hx1,show vM s b=(y:Int) from hy1,zmy hx2 hy2]
 refine z6r h (Nat.lt_of_le_of_lt Nat.and_le_left hx2) fun k=>?_
 rw[Nat.testBit_and,xji,hx3,hy3]
 simp only[hasP,xji,decide_eq_true_eq]
 constructor
 ·rintro⟨⟨w,hw,h1,h2⟩,u,hu,h3,h4⟩
  have:=zn9 h hw hu (h1.trans h3.symm)
  subst this;exact⟨w,hw,h1,h2,h4⟩
 rintro⟨w,hw,h1,h2,h3⟩;exact⟨⟨w,hw,h1,h2⟩,w,hw,h1,h3⟩
theorem zoe {s:List Wit}(h:zai s=0)(a b:Int):amL (anV (vM s a) (vM s b)) (idsS s)=hdS s fun w=>hasP a w&&!hasP b w:=by
 obtain⟨x,hx1,hx2,hx3⟩:=zft h a
 obtain⟨y,hy1,hy2,hy3⟩:=zft h b
 rw[show vM s a=(x:Int) from hx1,show vM s b=(y:Int) from hy1,zos]
 refine z6r h (z0g _ _) fun k=>?_
 rw[zof hx2 hy2,xji,hx3,Bool.not_eq_true']
 simp only[hasP,xji,Bool.not_eq_true',decide_eq_true_eq,decide_eq_false_iff_not]
 constructor
 ·rintro⟨⟨w,hw,h1,h2⟩,h3⟩
  refine⟨w,hw,h1,h2,fun h4=>?_⟩
  have:=(hy3 k).2 ⟨w,hw,h1,h4⟩
  rw[h3] at this;cases this
 rintro⟨w,hw,h1,h2,h3⟩
 refine⟨⟨w,hw,h1,h2⟩,?_⟩
 cases hb:y.testBit k with
 |false=>rfl
 |true=>
  obtain⟨u,hu,h4,h5⟩:=(hy3 k).1 hb
  have:=zn9 h hu hw (h4.trans h1.symm)
  subst this;exact absurd h5 h3
theorem z7h (s:List Wit)(p:Wit→Bool):(hdS s p).length≤s.length:=by
 unfold hdS
 have:=List.length_filter_le (hdB s p) (idsS s)
 rw[zkd] at this;exact this
theorem z1f {s:List Wit}(h:zai s=0){p:Wit→Bool}{id:Int}:id∈hdS s p↔hdB s p id=true:=by
 unfold hdS
 rw[List.mem_filter]
 refine⟨fun h1=>h1.2,fun h1=>⟨?_,h1⟩⟩
 unfold hdB at h1
 cases hg:getW s id with
 |none=>rw[hg] at h1;cases h1
 |some w=>
  obtain⟨hw,hi⟩:=zxd hg
  exact zkh.2 ⟨w,hw,hi⟩
def hoF (s:List Wit)(n:Int)(k:Nat):List Int:=(s.take k).foldl (fun o w=>if hasP n w=true then putS o w.id else o) []
theorem zwy (s:List Wit)(n:Int)(k:Nat)(h:k<s.length):hoF s n (k+1)=if hasP n s[k]=true then putS (hoF s n k) s[k].id else hoF s n k:=by
 unfold hoF;rw[List.take_succ_eq_append_getElem h,List.foldl_append];rfl
theorem zze (s:List Wit)(n:Int):∀k,k≤s.length→(hoF s n k).length≤k
 |0,_=>by simp[hoF]
 |k+1,h=>by
  rw[zwy s n k (by omega)]
  have:=zze s n k (by omega)
  split
  ·have:=zrk (hoF s n k) s[k].id;omega
  omega
theorem z8e {s:List Wit}(h:zai s=0)(n:Int):hoF s n s.length=hdS s (hasP n):=by
 unfold hoF
 rw[List.take_length]
 have h1:∀(l:List Wit) (o:List Int),o.Pairwise (·<·)→(l.foldl (fun o w=>if hasP n w=true then putS o w.id else o) o).Pairwise (·<·):=by
  intro l
  induction l with
  |nil=>intro o h;exact h
  |cons a r ih=>
   intro o h
   refine ih _ ?_
   show List.Pairwise (·<·) (if hasP n a=true then putS o a.id else o)
   split
   ·exact zj6 h
   exact h
 have h2:∀(l:List Wit) (o:List Int) (b:Int),b∈l.foldl (fun o w=>if hasP n w=true then putS o w.id else o) o↔b∈o∨∃w∈l,w.id=b∧hasP n w=true:=by
  intro l
  induction l with
  |nil=>intro o b;simp
  |cons a r ih=>
   intro o b
   rw[List.foldl_cons,ih]
   have:b∈(if hasP n a=true then putS o a.id else o)↔b∈o∨(a.id=b∧hasP n a=true):=by
    split
    ·rename_i h3;rw[zq9];exact⟨fun h4=>h4.imp_right fun h5=>⟨h5.symm,h3⟩,fun h4=>h4.imp_right fun h5=>h5.1.symm⟩
    rename_i h3;exact⟨.inl,fun h4=>h4.elim id fun h5=>absurd h5.2 h3⟩
   rw[this]
   constructor
   ·rintro ((h3|h3)|⟨w,h3,h4⟩)
    ·exact .inl h3
    ·exact .inr ⟨a,List.mem_cons_self,h3⟩
    exact .inr ⟨w,List.mem_cons_of_mem _ h3,h4⟩
   rintro (h3|⟨w,h3,h4⟩)
   ·exact .inl (.inl h3)
   rcases List.mem_cons.1 h3 with rfl|h3
   ·exact .inl (.inr h4)
   exact .inr ⟨w,h3,h4⟩
 have hs:=zj3 (zcg h)
 refine zoo (h1 s [] .nil) (hs.sublist List.filter_sublist) fun b=>?_
 rw[h2]
 constructor
 ·rintro (h3|⟨w,hw,rfl,h3⟩)
  ·cases h3
  refine(z1f h).2 ?_
  unfold hdB;rw[ziq (zcg h) hw];exact h3
 intro h3
 have h4:=(z1f h).1 h3
 unfold hdB at h4
 cases hg:getW s b with
 |none=>rw[hg] at h4;cases h4
 |some w=>
  rw[hg] at h4
  obtain⟨hw,hi⟩:=zxd hg
  exact .inr ⟨w,hw,hi,h4⟩
def slW (o:List Int)(w:Wit):List Int:=w.slips.foldl putS o
def slF (s:List Wit)(k:Nat):List Int:=(s.take k).foldl slW []
theorem zme:∀(l:List Int) {o:List Int},o.Pairwise (·<·)→(l.foldl putS o).Pairwise (·<·)
 |[],_,h=>h
 |a::r,_,h=>zme r (zj6 h)
theorem zsd:∀(l o:List Int) (n:Int),n∈l.foldl putS o↔n∈o∨n∈l
 |[],o,n=>by simp
 |a::r,o,n=>by
  rw[List.foldl_cons,zsd r,zq9,List.mem_cons]
  constructor
  ·rintro ((h|h)|h)
   ·exact .inl h
   ·exact .inr (.inl h)
   exact .inr (.inr h)
  rintro (h|h|h)
  ·exact .inl (.inl h)
  ·exact .inl (.inr h)
  exact .inr h
theorem xe7 (s:List Wit):s.foldl slW []=zb0 s:=by
 have h1:∀(l:List Wit) (o:List Int),o.Pairwise (·<·)→(l.foldl slW o).Pairwise (·<·):=by
  intro l
  induction l with
  |nil=>intro o h;exact h
  |cons a r ih=>intro o h;exact ih _ (zme _ h)
 have h2:∀(l:List Wit) (o:List Int) (n:Int),n∈l.foldl slW o↔n∈o∨∃w∈l,n∈w.slips:=by
  intro l
  induction l with
  |nil=>intro o n;simp
  |cons a r ih=>
   intro o n
   rw[List.foldl_cons,ih,slW,zsd]
   constructor
   ·rintro ((h|h)|⟨w,h3,h4⟩)
    ·exact .inl h
    ·exact .inr ⟨a,List.mem_cons_self,h⟩
    exact .inr ⟨w,List.mem_cons_of_mem _ h3,h4⟩
   rintro (h|⟨w,h3,h4⟩)
   ·exact .inl (.inl h)
   rcases List.mem_cons.1 h3 with rfl|h3
   ·exact .inl (.inr h4)
   exact .inr ⟨w,h3,h4⟩
 have hsl:(zb0 s).Pairwise (·<·):=by
  unfold zb0
  have e1:=List.pairwise_mergeSort (le:=fun x y:Int=>decide (x≤y)) (fun a b c h1 h2=>by simp only[decide_eq_true_eq] at *;omega) (fun a b=>by simp only[Bool.or_eq_true,decide_eq_true_eq];omega) ((zdn s).map (·.1))
  have e2:(((zdn s).map (·.1)).mergeSort fun x y=>decide (x≤y)).Nodup:=(List.mergeSort_perm _ _).nodup_iff.2 (zfl s)
  exact(e1.and e2).imp fun⟨h4,h5⟩=>by
   simp only[decide_eq_true_eq] at h4
   rcases Int.lt_or_eq_of_le h4 with h6|h6
   ·exact h6
   exact absurd h6 h5
 refine zoo (h1 s [] .nil) hsl fun n=>?_
 rw[h2,zdo];simp
def leP (b:Int)(wi:Bool)(w:Wit):Bool:=hasP b w==wi
def leR (s:List Wit)(a b:Int)(wi:Bool):Int:=((hdS s (hasP a)).find? (hdB s (leP b wi))).getD 0
theorem zvt {s:List Wit}(h:zai s=0)(a b:Int)(wi:Bool):leR s a b wi=(hdS s fun w=>hasP a w&&leP b wi w).headD 0:=by
 have e:(hdS s fun w=>hasP a w&&leP b wi w)=(hdS s (hasP a)).filter (hdB s (leP b wi)):=by
  unfold hdS
  rw[List.filter_filter]
  apply List.filter_congr
  intro id _
  unfold hdB
  cases getW s id with
  |none=>rfl
  |some w=>exact Bool.and_comm _ _
 unfold leR
 rw[e,List.headD_eq_head?_getD,List.head?_filter]
theorem xdh {s:List Wit}(h:zai s=0)(a b:Int):leR s a b true=(amL (andV (vM s a) (vM s b)) (idsS s)).headD 0:=by
 rw[zvt h,zri h]
 congr 1
 unfold hdS;congr 1;funext id;unfold hdB
 cases getW s id with
 |none=>rfl
 |some w=>simp[leP]
theorem z4z {s:List Wit}(h:zai s=0)(a b:Int):leR s a b false=(amL (anV (vM s a) (vM s b)) (idsS s)).headD 0:=by
 rw[zvt h,zoe h]
 congr 1
 unfold hdS;congr 1;funext id;unfold hdB
 cases getW s id with
 |none=>rfl
 |some w=>simp[leP]
theorem zi2 {s:List Wit}(h:zai s=0)(p:Wit→Bool):0<(hdS s p).headD 0↔hdS s p≠[]:=by
 cases hc:hdS s p with
 |nil=>simp
 |cons b r=>
  have hb:b∈hdS s p:=by rw[hc];exact List.mem_cons_self
  obtain⟨w,hw,hwi⟩:=zkh.1 (List.mem_filter.1 hb).1
  have:=zx1 h w hw
  simp only[List.headD_cons]
  constructor
  ·intro _ h2;cases h2
  intro _;omega
theorem z8q {s:List Wit}:amL 0 (idsS s)=[]:=by
 rw[zpq (q:=fun _=>false) fun i _=>?_]
 ·simp
 unfold bitB shrV
 rw[Int.zero_fdiv]
 decide
theorem z4j {s:List Wit}(h:zai s=0)(a b:Int):(0<leR s a b true∧0<leR s a b false∧0<leR s b a false)↔crB s a b=true:=by
 constructor
 ·rw[xdh h,z4z h,z4z h,zri h,zoe h,zoe h,zi2 h,zi2 h,zi2 h,← zri h,← zoe h,← zoe h]
  rintro⟨h1,h2,h3⟩
  unfold crB zmi
  simp only[xji,bne_iff_ne,ne_eq]
  refine⟨fun h4=>h1 ?_,fun h4=>h2 ?_,fun h4=>h3 ?_⟩
  all_goals rw[h4];exact z8q
 intro hc
 obtain⟨h1,h2,h3⟩:=z5l h hc
 rw[xdh h,z4z h,z4z h]
 rw[zri h] at h1 ⊢
 rw[zoe h] at h2 h3 ⊢
 rw[zoe h]
 exact⟨(zi2 h _).2 h1,(zi2 h _).2 h2,(zi2 h _).2 h3⟩
end Go.Am.Ds
end
/-
 Descent: the copy in which two copies meet, in plain Lean.
-/
section
namespace Go.Am.Ds
open Go Go.Am Go.Proofs
section
variable {s:List Wit} {l:List Int} (h:zai s=0) (hd:(desR s l).2=true)
include h hd
end
section
variable {s:List Wit} {l:List Int} (h:zai s=0) (hd:(desR s l).2=true)
include h hd
end
end Go.Am.Ds
end
section
namespace Go.Am.Ds
open Go Go.Am Go.Proofs Tryz
attribute [local simp] vrun zay zbm vop vopA zcn zab.back hidI hidF zd4 bm Nat.testBit_eq_decide_div_mod_eq za2 zbp zck vO zbj vlen zbv zb6 zev zau zap zcx vbox zbh zeq zcb zer zcw zaw zcy zax zc0 zbi zcz zbu zbq vbnd zdh vidx zbr zee zav zbx zde zeh zfd zfa vbin vsc vsc1 vscs vscl zb8 aint zca zef zbb zdb zex pvcV pvc pvcs tput tget zdx zab.get zab.alloc zab.put zab.drop zab.empty zce vput zei zbd zcf zdu chunk List.range List.range.loop za7 zb2 za8 frz frzL PV.isF PV.allF PV.scal PV.allS retP subT zem PV.one PV.ids PV.idsL zcj beq_eq zb9 zcc
attribute [local simp] zW tup2
theorem zwr (s:List Wit)(k:Nat)(h:k<s.length):slF s (k+1)=slW (slF s k) s[k]:=by
 unfold slF;rw[List.take_succ_eq_append_getElem h,List.foldl_append];rfl
theorem zne:∀(l o:List Int),(l.foldl putS o).length≤o.length+l.length
 |[],o=>by simp
 |a::r,o=>by
  have h1:=zne r (putS o a)
  have h2:=zrk o a
  rw[List.foldl_cons,List.length_cons];omega
theorem z2t {s:List Wit}(h:zai s=0):∀k,k≤s.length→(slF s k).length≤k*30
 |0,_=>by simp[slF]
 |k+1,hk=>by
  have h1:=z2t h k (by omega)
  rw[zwr s k (by omega),slW]
  have h2:=zne s[k].slips (slF s k)
  have h3:=(zgq ((zbc h).2 s[k] (List.getElem_mem (by omega)))).1
  omega
theorem p126 (s:List Wit)(h:zai s=0):zaj prog 126 [encS s] fun r=>r=ints (zb0 s):=by
 have hl24:=(zbc h).1
 refine .zag func126 rfl rfl ?_
 refine .sr ?_
 refine .sr ?_
 refine .seq (.sr ?_)
 refine .block ?_
 refine .zbl (fun k:Nat=>([(1,.ptr 0 0),(3,ints (slF s k)),(4,.int .i64 k)],⟨1,[(0,.box [.vec (s.map encW)])]⟩)) (fun k=>k≤s.length) (fun k=>s.length - k) 0 (by simp) (.mk [] [] zz14 zz15 rfl rfl rfl) ?_
 rintro k hk
 simp only at hk ⊢
 have hfl:=z2t h k hk
 refine .seq (.sr ?_)
 refine .cs ?_ ?_<;>intro c10
 ·try simp at c10
  have hw2:=wr1 k
  have hE:encW s[k]=.agg [.int .i64 s[k].id,.int .i64 s[k].known,ints s[k].slips,ints s[k].mended,ints s[k].models,.int .i64 s[k].lo,.int .i64 s[k].hi]:=rfl
  have hsl:=(zgq ((zbc h).2 s[k] (List.getElem_mem c10))).1
  have hSk:=zwr s k c10
  refine .skip (.seq (.block (.sr ?_)))
  refine .block ?_
  refine .zbl (fun q:Nat=>([(1,.ptr 0 0),(3,ints ((s[k].slips.take q).foldl putS (slF s k))),(4,.int .i64 k),(5,.int .i64 q)],⟨1,[(0,.box [.vec (s.map encW)])]⟩)) (fun q=>q≤s[k].slips.length) (fun q=>s[k].slips.length - q) 0 (by simp) (.mk [] [] zz14 zz15 rfl rfl rfl) ?_
  rintro q hq
  simp only at hq ⊢
  have hql:=zne (s[k].slips.take q) (slF s k)
  rw[List.length_take] at hql
  refine .seq (.sr ?_)
  refine .cs ?_ ?_<;>intro c21
  ·try simp at c21
   have hw3:=wr1 q
   have hT:(s[k].slips.take (q+1)).foldl putS (slF s k)=putS ((s[k].slips.take q).foldl putS (slF s k)) s[k].slips[q]:=by rw[List.take_succ_eq_append_getElem c21,List.foldl_append];rfl
   refine .skip (.seq (.block ?_))
   refine .zac [0,1,2,3,4,5,6,7,8,9,10,11] rfl zz0 ?_
   refine .rn [0,1,2,3,4,5,6,7,8,9] _ ?_
   refine .pc rfl rfl rfl rfl rfl call147 (p147 _ s[k].slips[q] (by omega)) ?_
   refine .rn [11] [] ?_
   refine .done (.rn ?_)
   refine⟨q+1,c21,zz5,(.mk [] [] zz14 zz15 rfl rfl rfl)⟩
  try simp at c21
  have hT2:(s[k].slips.take q).foldl putS (slF s k)=slF s (k+1):=by rw[List.take_of_length_le (by omega),hSk];rfl
  refine .exit (.rn ?_)
  refine⟨k+1,c10,zz5,(.mk [] [] zz14 zz15 rfl rfl rfl)⟩
 try simp at c10
 have hk2:k=s.length:=by omega
 have hall:slF s k=zb0 s:=by rw[hk2];unfold slF;rw[List.take_length];exact xe7 s
 refine .exit (.sr ?_)
 refine .ret ?_
 refine⟨_,_,zz4,zz4,?_⟩
 first|rfl|(simp[*];done)|(simp_all;done)
theorem p128 (s:List Wit)(n:Int)(h:zai s=0):zaj prog 128 [encS s,.int .i64 n] fun r=>r=ints (hdS s (hasP n)):=by
 have hl24:=(zbc h).1
 refine .zag func128 rfl rfl ?_
 refine .sr ?_
 refine .sr ?_
 refine .seq (.sr ?_)
 refine .block ?_
 refine .zbl (fun k:Nat=>([(1,.int .i64 n),(2,.ptr 0 0),(5,ints (hoF s n k)),(6,.int .i64 k)],⟨1,[(0,.box [.vec (s.map encW)])]⟩)) (fun k=>k≤s.length) (fun k=>s.length - k) 0 (by simp) (.mk [] [] zz14 zz15 rfl rfl rfl) ?_
 rintro k hk
 simp only at hk ⊢
 have hfl:=zze s n k hk
 refine .seq (.sr ?_)
 refine .cs ?_ ?_<;>intro c12
 ·try simp at c12
  have hw2:=wr1 k
  have hE:encW s[k]=.agg [.int .i64 s[k].id,.int .i64 s[k].known,ints s[k].slips,ints s[k].mended,ints s[k].models,.int .i64 s[k].lo,.int .i64 s[k].hi]:=rfl
  have hsl:=(zc9 h s[k] (List.getElem_mem c12)).1
  have hS:=zwy s n k c12
  refine .skip (.seq (.block (.seq ?_)))
  refine .zac [0,1,2,3,4,5,6,7,8] rfl zz0 ?_
  refine .rn [0,1,2,3,4,5,6] _ ?_
  refine .pc rfl rfl rfl rfl rfl call121 (p121 s[k].slips n hsl) ?_
  refine .rn [8] [] ?_
  refine .done (.sr ?_)
  refine .cs ?_ ?_<;>intro c23
  ·try simp at c23
   rw[if_pos (show hasP n s[k]=true from decide_eq_true c23)] at hS
   refine .zac [0,1,2,3,4,5,6,7,8] rfl zz0 ?_
   refine .rn [0,1,2,3,4,5,6] _ ?_
   refine .pc rfl rfl rfl rfl rfl call147 (p147 _ s[k].id (by omega)) ?_
   refine .rn [8] [] ?_
   refine .done (.rn ?_)
   refine⟨k+1,c12,zz5,(.mk [] [] zz14 zz15 rfl rfl rfl)⟩
  try simp at c23
  rw[if_neg (show ¬hasP n s[k]=true by unfold hasP;simpa using c23)] at hS
  refine .skip (.rn ?_)
  refine⟨k+1,c12,zz5,(.mk [] [] zz14 zz15 rfl rfl rfl)⟩
 try simp at c12
 have hk2:k=s.length:=by omega
 have hall:hoF s n k=hdS s (hasP n):=by rw[hk2];exact z8e h n
 refine .exit (.sr ?_)
 refine .ret ?_
 refine⟨_,_,zz4,zz4,?_⟩
 first|rfl|(simp[*];done)|(simp_all;done)
theorem p171 (s:List Wit)(a b:Int)(wi:Bool)(h:zai s=0):zaj prog 171 [encS s,.int .i64 a,.int .i64 b,.bool wi] fun r=>r=.int .i64 (leR s a b wi):=by
 have hl24:=(zbc h).1
 have hLl:=z7h s (hasP a)
 have hLm:∀x∈hdS s (hasP a),x∈idsS s:=fun x hx=>(List.mem_filter.1 hx).1
 have hR:leR s a b wi=((hdS s (hasP a)).find? (hdB s (leP b wi))).getD 0:=rfl
 have q128:=p128 s a h
 generalize hdS s (hasP a)=L at hLl hLm hR q128
 refine .zag func171 rfl rfl ?_
 refine .sr ?_
 refine .seq ?_
 refine .zac [0,1,2,3] rfl zz0 ?_
 refine .rn [0,1] _ ?_
 refine .pc rfl rfl rfl rfl rfl call128 (q128) ?_
 refine .rn [3] [] ?_
 refine .done (.seq (.sr ?_))
 refine .block ?_
 refine .zbl (fun k:Nat=>([(2,.int .i64 b),(3,.bool wi),(4,.ptr 0 0),(9,ints L),(10,.int .i64 k)],⟨1,[(0,.box [.vec (s.map encW)])]⟩)) (fun k=>k≤L.length∧L.find? (hdB s (leP b wi))=(L.drop k).find? (hdB s (leP b wi))) (fun k=>L.length - k) 0 (by simp) (.mk [] [] zz14 zz15 rfl rfl rfl) ?_
 rintro k ⟨hk,hf⟩
 simp only at hk hf ⊢
 refine .seq (.sr ?_)
 refine .cs ?_ ?_<;>intro c18
 ·try simp at c18
  have hw2:=wr1 k
  rw[List.drop_eq_getElem_cons c18,List.find?_cons] at hf
  obtain⟨j,hj,hje,hgj⟩:=z0i (z3t (hLm _ (List.getElem_mem c18)))
  have hE2:encW s[j]=.agg [.int .i64 s[j].id,.int .i64 s[j].known,ints s[j].slips,ints s[j].mended,ints s[j].models,.int .i64 s[j].lo,.int .i64 s[j].hi]:=rfl
  have hmx:(if 0<j then (j:Int) else 0)=(j:Int):=by split<;>omega
  have hsl:=(zc9 h s[j] (List.getElem_mem hj)).1
  have hq:hdB s (leP b wi) L[k]=(decide (b∈s[j].slips)==wi):=by unfold hdB;rw[hgj];rfl
  rw[hq] at hf
  refine .skip (.seq (.block (.seq ?_)))
  refine .drawn (ms:=[0,1,0,0,0,24,56,124,252,511,1023,2047,0,8191,16383]) (W:=[7,13]) (items:=[.op 0,.op 1,.op 2,.op 3,.op 4,.op 5,.op 6,.op 12,.op 7,.ck 1,.op 8,.op 9,.op 10,.op 11,.op 13,.op 14]) rfl zz0 zz0 zz0 ?_
  iterate 8 refine .rx ?_
  refine .wp rfl rfl rfl rfl rfl call104 ((by have h:=p104 s L[k] (by omega);rw[hje] at h;exact h)) ?_
  refine .ck rfl zz0 ?_
  iterate 4 refine .rx ?_
  refine .wp rfl rfl rfl rfl rfl call121 (p121 s[j].slips b hsl) ?_
  refine .rx ?_
  refine .done (.sr ?_)
  refine .cs ?_ ?_<;>intro c37
  ·try simp at c37
   rw[show (decide (b∈s[j].slips)==wi)=true by simpa using c37] at hf
   refine .sr ?_
   refine .ret ?_
   refine⟨_,_,zz4,zz4,?_⟩
   rw[hR,hf];rfl
  try simp at c37
  rw[show (decide (b∈s[j].slips)==wi)=false by simpa using c37] at hf
  refine .skip (.rn ?_)
  refine⟨k+1,⟨c18,hf⟩,zz5,(.mk [] [] zz14 zz15 rfl rfl rfl)⟩
 try simp at c18
 have hk2:k=L.length:=by omega
 rw[hk2,List.drop_length] at hf
 refine .exit (.sr ?_)
 refine .ret ?_
 refine⟨_,_,zz4,zz4,?_⟩
 rw[hR,hf];rfl
def hlE (s:List Wit)(n:Int):Int:=if zai s=0 then (if hdS s (hasP n)=[] then 5 else 0) else zai s
def hlL (s:List Wit)(n:Int):List Int:=if zai s=0 then hdS s (hasP n) else []
def gM (l:List (Int×Int))(n:Int):Int:=(getM l n).getD 0
@[local simp ↓ high] theorem vlk (vh:zab)(l:List (Int×Int))(n:Int):zbr prog vh 139 (.vmap (kvs (kvM l))) (.int .i64 n) false=some (.int .u32 (gM l n)):=by
 unfold zbr gM
 rw[xcg]
 simp only[zee,zgf]
 cases getM l n with
 |none=>simp
 |some v=>simp
def crC (s:List Wit):PV:=match crR s with
 |some p=>.agg [.int .i64 p.1,.int .i64 p.2,.int .i64 (leR s p.1 p.2 true),.int .i64 (leR s p.1 p.2 false),.int .i64 (leR s p.2 p.1 false),.bool true,.int .i64 0]
 |none=>.agg [.int .i64 0,.int .i64 0,.int .i64 0,.int .i64 0,.int .i64 0,.bool false,.int .i64 0]
theorem p129 (s:List Wit)(h:zai s=0):zaj prog 129 [encS s] fun r=>r=crC s:=by
 have hl24:=(zbc h).1
 have hL:(zb0 s).length≤720:=by rw[zi6];exact zh4 h
 have hcr:crR s=crO s (zb0 s):=rfl
 have q126:=p126 s h
 generalize zb0 s=L at hL hcr q126
 refine .zag func129 rfl rfl ?_
 refine .sr ?_
 refine .seq ?_
 refine .zac [0,1,2] rfl zz0 ?_
 refine .rn [0] _ ?_
 refine .pc rfl rfl rfl rfl rfl call126 (q126) ?_
 refine .rn [2] [] ?_
 refine .done (.seq (.sr ?_))
 refine .block ?_
 refine .zbl (fun k:Nat=>([(1,.ptr 0 0),(2,.ptr 1 0),(3,ints L),(4,.int .i64 k)],⟨2,[(1,.box [.int .i64 0,.int .i64 0,.int .i64 0,.int .i64 0,.int .i64 0,.bool false,.int .i64 0]),(0,.box [.vec (s.map encW)])]⟩)) (fun k=>k≤L.length∧crR s=crO s (L.drop k)) (fun k=>L.length - k) 0 ⟨by simp,by simpa using hcr⟩ (.mk [] [] zz14 zz15 rfl rfl rfl) ?_
 rintro k ⟨hk,hr⟩
 simp only at hk hr ⊢
 refine .seq (.sr ?_)
 refine .cs ?_ ?_<;>intro c12
 ·try simp at c12
  have hw2:=wr1 k
  rw[List.drop_eq_getElem_cons c12] at hr
  refine .skip (.seq (.block (.sr ?_)))
  refine .block ?_
  refine .zbl (fun j:Nat=>([(1,.ptr 0 0),(2,.ptr 1 0),(3,ints L),(4,.int .i64 k),(5,.int .i64 j)],⟨2,[(1,.box [.int .i64 0,.int .i64 0,.int .i64 0,.int .i64 0,.int .i64 0,.bool false,.int .i64 0]),(0,.box [.vec (s.map encW)])]⟩)) (fun j=>k+1≤j∧j≤L.length∧(L.drop (k+1)).find? (crB s L[k])=(L.drop j).find? (crB s L[k])) (fun j=>L.length - j) (k+1) ⟨Nat.le_refl _,c12,rfl⟩ (.mk [] [] zz14 zz15 rfl rfl rfl) ?_
  rintro j ⟨hkj,hj,hf⟩
  simp only at hkj hj hf ⊢
  refine .seq (.sr ?_)
  refine .cs ?_ ?_<;>intro c20
  ·try simp at c20
   have hw3:=wr1 j
   rw[List.drop_eq_getElem_cons c20,List.find?_cons] at hf
   have hiff:=z4j h L[k] L[j]
   refine .skip (.seq (.block (.seq ?_)))
   refine .zp1 (ms:=[0,0,3,7,0,0,48,112,0,0,0,1536,3584,0,0,24576,57344,130816,0,0,0,1572864,3670016,0,0,25165824,58720256,134217472,0,0,0,1610612736,3758096384,0,0,25769803776,60129542144,137438953216,274877906943,0,1099511627775]) (W:=[17,27,37,40]) (As:=[39]) (items:=[.op 0,.op 1,.op 2,.op 3,.op 4,.op 5,.op 6,.op 7,.op 8,.op 9,.op 10,.op 11,.op 12,.op 13,.op 14,.op 15,.op 16,.op 18,.op 19,.op 20,.op 21,.op 22,.op 23,.op 24,.op 25,.op 26,.op 28,.op 29,.op 30,.op 31,.op 32,.op 33,.op 34,.op 35,.op 36,.op 39,.op 17,.ck 36,.ck 32,.ck 28,.ck 26,.ck 22,.ck 18,.ck 7,.ck 3,.op 27,.ck 36,.ck 32,.ck 28,.ck 7,.ck 3,.op 37,.ck 7,.ck 3,.op 38,.op 40]) rfl zz0 zz0 zz0 zz0 (by decide) ?_
   iterate 35 refine .rf ?_
   refine .al rfl rfl (by decide) (by decide) (by decide) (by decide) zz1 ?_
   refine .wr rfl rfl (by decide) (.pure rfl rfl rfl call171 (by decide) (p171 s L[k] L[j] true h) (by first|rfl|simp[*]) ?_)
   rintro _ rfl
   refine .ck rfl zz0 ?_
   refine .ck rfl zz0 ?_
   refine .ck rfl zz0 ?_
   refine .ck rfl zz0 ?_
   refine .ck rfl zz0 ?_
   refine .ck rfl zz0 ?_
   refine .ck rfl zz0 ?_
   refine .ck rfl zz0 ?_
   refine .wr rfl rfl (by decide) (.pure rfl rfl rfl call171 (by decide) (p171 s L[k] L[j] false h) (by first|rfl|simp[*]) ?_)
   rintro _ rfl
   refine .ck rfl zz0 ?_
   refine .ck rfl zz0 ?_
   refine .ck rfl zz0 ?_
   refine .ck rfl zz0 ?_
   refine .ck rfl zz0 ?_
   refine .wr rfl rfl (by decide) (.pure rfl rfl rfl call171 (by decide) (p171 s L[j] L[k] false h) (by first|rfl|simp[*]) ?_)
   rintro _ rfl
   refine .ck rfl zz0 ?_
   refine .ck rfl zz0 ?_
   refine .rf ?_
   refine .wr rfl rfl (by decide) (.vop zz1 (by decide) ?_)
   refine .done (.seq ?_)
   refine .zac [0,1,2,3,4,5,6,7,8,9,10,11,12] rfl zz0 ?_
   refine .rn [0,1,2,3] _ ?_
   refine .split (t:=65) rfl (fun c65=>?_) (fun c65=>?_)
   ·try rw[c65]
    try simp at c65
    refine .rn [4,5,6,7,8] _ ?_
    refine .split (t:=70) rfl (fun c70=>?_) (fun c70=>?_)
    ·try rw[c70]
     try simp at c70
     refine .rn [9,10,11,12] [] ?_
     refine .done ?_
     refine .cs ?_ ?_<;>intro c74
     ·try simp at c74
      have hc:crB s L[k] L[j]=true:=hiff.1 ⟨c65,c70,c74⟩
      rw[hc] at hf
      refine .sr ?_
      refine .ret ?_
      refine⟨_,_,zz4,zz4,?_⟩
      have hx:crR s=some (L[k],L[j]):=by
       rw[hr]
       show (match (L.drop (k+1)).find? (crB s L[k]) with|some b=>some (L[k],b)|none=>crO s (L.drop (k+1)))=_
       rw[hf]
      simp[crC,hx]
     try simp at c74
     have hc:crB s L[k] L[j]=false:=by
      cases hb:crB s L[k] L[j] with
      |false=>rfl
      |true=>have:=hiff.2 hb;omega
     rw[hc] at hf
     refine .skip (.rn ?_)
     refine⟨j+1,⟨by omega,c20,hf⟩,zz5,(.mk [] [] zz14 zz15 rfl rfl rfl)⟩
    try rw[c70]
    try simp at c70
    have hc:crB s L[k] L[j]=false:=by
     cases hb:crB s L[k] L[j] with
     |false=>rfl
     |true=>have:=hiff.2 hb;omega
    rw[hc] at hf
    refine .rn [9,10,11,12] [] ?_
    refine .done (.zjp rfl (.skip (.rn ?_)))
    refine⟨j+1,⟨by omega,c20,hf⟩,zz5,(.mk [] [] zz14 zz15 rfl rfl rfl)⟩
   try rw[c65]
   try simp at c65
   have hc:crB s L[k] L[j]=false:=by
    cases hb:crB s L[k] L[j] with
    |false=>rfl
    |true=>have:=hiff.2 hb;omega
   rw[hc] at hf
   refine .rn [4,5,6,7,8,9,10,11,12] [] ?_
   refine .done (.zjp rfl (.skip (.rn ?_)))
   refine⟨j+1,⟨by omega,c20,hf⟩,zz5,(.mk [] [] zz14 zz15 rfl rfl rfl)⟩
  try simp at c20
  have hj2:j=L.length:=by omega
  rw[hj2,List.drop_length] at hf
  refine .exit (.rn ?_)
  refine⟨k+1,⟨c12,by
   rw[hr]
   show (match (L.drop (k+1)).find? (crB s L[k]) with|some b=>some (L[k],b)|none=>crO s (L.drop (k+1)))=_
   rw[hf];rfl⟩,zz5,(.mk [] [] zz14 zz15 rfl rfl rfl)⟩
 try simp at c12
 have hk2:k=L.length:=by omega
 rw[hk2,List.drop_length] at hr
 refine .exit (.sr ?_)
 refine .ret ?_
 refine⟨_,_,zz4,zz4,?_⟩
 unfold crC;rw[hr];rfl
end Go.Am.Ds
end
section
namespace Go.Am.Ds
open Go Go.Am Go.Proofs
attribute [local simp] vrun zay zbm vop vopA zcn zab.back hidI hidF zd4 bm Nat.testBit_eq_decide_div_mod_eq za2 zbp zck vO zbj vlen zbv zb6 zev zau zap zcx vbox zbh zeq zcb zer zcw zaw zcy zax zc0 zbi zcz zbu zbq vbnd zdh vidx zbr zee zav zbx zde zeh zfd zfa vbin vsc vsc1 vscs vscl zb8 aint zca zef zbb zdb zex pvcV pvc pvcs tput tget zdx zab.get zab.alloc zab.put zab.drop zab.empty zce vput zei zbd zcf zdu chunk List.range List.range.loop za7 zb2 za8 frz frzL PV.isF PV.allF PV.scal PV.allS retP subT zem PV.one PV.ids PV.idsL zcj beq_eq zb9 zcc
attribute [local simp] zW tup2
def puF (s:List Wit)(p:Wit→Bool)(k:Nat):List Int:=(s.take k).foldl (fun o w=>if p w=true then putS o w.id else o) []
theorem zmw (s:List Wit)(p:Wit→Bool)(k:Nat)(h:k<s.length):puF s p (k+1)=if p s[k]=true then putS (puF s p k) s[k].id else puF s p k:=by
 unfold puF;rw[List.take_succ_eq_append_getElem h,List.foldl_append];rfl
theorem zrl (s:List Wit)(p:Wit→Bool):∀k,k≤s.length→(puF s p k).length≤k
 |0,_=>by simp[puF]
 |k+1,h=>by
  rw[zmw s p k (by omega)]
  have:=zrl s p k (by omega)
  split
  ·have:=zrk (puF s p k) s[k].id;omega
  omega
end Go.Am.Ds
end
section
namespace Go.Am
open Go Go.Proofs
theorem zaj.xfh {P:Program}{vh:zab}{f:FuncId}{args args2:List PV}{R:PV→Prop}(hp:zaj P f args2 R)(ha2:frzL vh args=some args2):zkk P f args vh fun v vh'=>vh'=zcj (PV.idsL args) vh∧R v:=fun lo g σ h args' ha s=>by
 have hA:=zgc vh (fun i=>(PV.idsL args).contains i) args args2 (fun i hi=>by simpa using hi) ha2
 have ha0:=AltL.ok s hA ha
 have hF:PV.allF args2=true:=zhr vh args args2 ha2
 have hle:=ze0 (D:=fun i=>(PV.idsL args).contains i) s
 have hS:VS lo (g.more σ vh h fun i=>(PV.idsL args).contains i) σ (zcj (PV.idsL args) vh) h:=by
  refine⟨fun j y hy=>?_,fun j k y z hy hz=>s.inj j k y z (zc6 _ _ _ _ hy).2 (zc6 _ _ _ _ hz).2,fun j y hy=>s.low j y (zc6 _ _ _ _ hy).2,zll s,fun j y hy hl=>?_,s.lole⟩
  ·obtain⟨k1,k2⟩:=s.obj j y (zc6 _ _ _ _ hy).2
   rw[zdp]
   exact⟨k1,k2.mono hle (Nat.le_refl _) (fun _ _=>rfl) k1 fun _=>rfl⟩
  obtain⟨h1,h2⟩:=zc6 _ _ _ _ hy
  unfold Fz.more
  rw[if_neg]
  ·exact s.dis j y h2 hl
  rintro⟨i,z,k1,k2,k3,k4⟩
  have:=s.inj i j z y k2 h2 k3 hl k4
  subst this
  exact h1 (by simpa using k1)
 have hVF:VF σ vh h σ (zcj (PV.idsL args) vh) h:=⟨Nat.le_refl _,fun _ _ _=>rfl,fun j y hy hl _=>⟨j,y,(zc6 _ _ _ _ hy).2,hl,rfl⟩⟩
 refine((hp.zuz (vh:=zcj (PV.idsL args) vh) hF) lo _ σ h args' (ha0.isF hF).vr hS).mono fun r h' ⟨h0,g',σ',v,vh',h1,h2,h3,h4,h5,h6,h7,h8⟩=>?_
 rw[zdp] at h4 h6
 exact⟨h0,g',σ',v,vh',h1,h2,Fz.le_trans hle h3,h4,hVF.trans h5,h6,zkm.trans hVF h7,h8⟩
theorem zdj.zqx {P:Program}{N b:Nat}{vts:VTs}{vh:zab}{ops:Array Oper}{todo:List Nat}{o:Oper}{next:List Nat→VTs→zab→Prop}{fo:Operand}{args:Array Operand}{aT:Array TypeId}{f:FuncId}{xs ys l args2:List PV}{R:PV→Prop}(ho:o.op=.call ⟨.value fo,args,aT⟩)
  (hf:za2 vts fo=some (.func f xs ys)) (hl:zbp vts args.toList=some l) (hcf:∀cs w,(callFunc f cs).run P w=.ok (.enter f cs) w) (hd:zcv N o.dst=true)
  (hz:frzL vh (xs++l++ys)=some args2) (hp:zaj P f args2 R) (hn:∀r,R r→next (zeg ops todo o.dst) (tput vts o.dst r) (zcj (PV.idsL (xs++l++ys)) vh)):zdj P N b ops o todo next vts vh:=
 .zuz ho hf hl hcf hd ((hp.xfh hz).mono fun r vh' ⟨h1,h2⟩=>h1▸hn r h2)
end Go.Am
end
