/-
 What is used in the proof of a statement (part DsF); no condition.
-/
import Derived.Test.YtnablaecbohhmaaGreatDsD
import Derived.Test.YtnablaecbohhmaaGreatDsZ
import Derived.Test.YtnablaecbohhmaaGreatVm2
import Derived.Test.YtnablaecbohhmaaGreatDsT
import Derived.Test.YtnablaecbohhmaaGreatDsC
set_option linter.all false
set_option maxHeartbeats 40000000
set_option maxRecDepth 100000
/-
 Descent: sets of copies as bits, in plain Lean.
-/
section
namespace Go.Am.Ds
open Go Go.Am Go.Proofs
def andV (a b:Int):Int:=IntKind.u32.wrap ((BitVec.ofInt 32 a &&& BitVec.ofInt 32 b).toNat:Int)
def anV (a b:Int):Int:=IntKind.u32.wrap ((BitVec.ofInt 32 a &&& ~~~ BitVec.ofInt 32 b).toNat:Int)
def shrV (a:Int)(k:Nat):Int:=a.fdiv (2 ^ min k 32)
def zm1 (x y:Int):Bool:=(andV x y != 0)&&((anV x y != 0)&&(anV y x != 0))
def bitB (m:Int)(k:Nat):Bool:=andV (shrV m k) 1==1
def amP (m:Int)(l:List Int)(k:Nat):List Int:=(List.range k).filterMap fun i=>if bitB m i then l[i]? else none
def amL (m:Int)(l:List Int):List Int:=amP m l l.length
theorem zuf (m:Int)(l:List Int)(k:Nat)(h:k<l.length):amP m l (k+1)=if bitB m k=true then amP m l k++[l[k]] else amP m l k:=by
 unfold amP
 rw[List.range_succ,List.filterMap_append]
 by_cases hb:bitB m k=true
 ·rw[if_pos hb];simp[hb,h]
 rw[if_neg hb];simp[hb]
theorem xbm (m:Int)(l:List Int)(k:Nat):(amP m l k).length≤k:=by
 unfold amP
 exact Nat.le_trans (List.length_filterMap_le _ _) (by simp)
theorem zj7 {n:Nat}(h:n<4294967296):IntKind.u32.wrap (n:Int)=(n:Int):=z5p (by omega) (by omega)
theorem zop (n:Nat):(BitVec.ofInt 32 (n:Int)).toNat=n % 4294967296:=by
 rw[BitVec.ofInt_natCast,BitVec.toNat_ofNat]
theorem zls {a b:Nat}(ha:a<4294967296)(hb:b<4294967296):andV (a:Int) (b:Int)=((a &&& b:Nat):Int):=by
 unfold andV
 rw[BitVec.toNat_and,zop,zop,Nat.mod_eq_of_lt ha,Nat.mod_eq_of_lt hb]
 exact zj7 (Nat.lt_of_le_of_lt Nat.and_le_left ha)
theorem z5q {a b:Nat}(ha:a<4294967296)(hb:b<4294967296):orV (a:Int) (b:Int)=((a ||| b:Nat):Int):=by
 unfold orV
 rw[BitVec.toNat_or,zop,zop,Nat.mod_eq_of_lt ha,Nat.mod_eq_of_lt hb]
 exact zj7 (Nat.or_lt_two_pow (n:=32) ha hb)
def anN (a b:Nat):Nat:=(BitVec.ofInt 32 (a:Int) &&& ~~~ BitVec.ofInt 32 (b:Int)).toNat
theorem zm9 {a b:Nat}:anV (a:Int) (b:Int)=((anN a b:Nat):Int):=by
 unfold anV anN
 exact zj7 (BitVec.isLt _)
theorem znb {a b:Nat}(ha:a<4294967296)(hb:b<4294967296)(k:Nat):(anN a b).testBit k=(a.testBit k&&!b.testBit k):=by
 unfold anN
 rw[BitVec.testBit_toNat,BitVec.getLsbD_and,BitVec.getLsbD_not,← BitVec.testBit_toNat,← BitVec.testBit_toNat,zop,zop,Nat.mod_eq_of_lt ha,Nat.mod_eq_of_lt hb]
 by_cases hk:k<32
 ·simp[hk]
 have:a.testBit k=false:=Nat.testBit_lt_two_pow (Nat.lt_of_lt_of_le ha (show (2:Nat) ^ 32≤2 ^ k from Nat.pow_le_pow_right (by omega) (by omega)))
 simp[this,hk]
theorem zyv (a b:Nat):anN a b<4294967296:=BitVec.isLt _
theorem zzi {k:Nat}(h:k<32):bitV k=((2 ^ k:Nat):Int):=by
 unfold bitV
 rw[Nat.min_eq_left (by omega)]
 have h1:(2:Nat) ^ k<4294967296:=Nat.pow_lt_pow_right (by omega) (show k<32 from h)
 have:=zj7 h1
 rw[← this];congr 1
theorem zz9 {a k:Nat}(h:k<32):shrV (a:Int) k=((a >>> k:Nat):Int):=by
 unfold shrV
 rw[Nat.min_eq_left (by omega),Nat.shiftRight_eq_div_pow,Int.fdiv_eq_ediv_of_nonneg _ (by exact Int.le_of_lt (Int.pow_pos (by omega)))]
 push_cast;rfl
theorem zu7 {a k:Nat}(ha:a<4294967296)(h:k<32):bitB (a:Int) k=a.testBit k:=by
 unfold bitB
 rw[zz9 h,show (1:Int)=((1:Nat):Int) from rfl,zls (Nat.lt_of_le_of_lt (Nat.shiftRight_le _ _) ha) (by omega),Nat.testBit]
 rw[Bool.eq_iff_iff,Nat.and_comm]
 have h2:1 &&& (a >>> k)<2:=by
  rw[Nat.one_and_eq_mod_two];exact Nat.mod_lt _ (by omega)
 generalize 1 &&& (a >>> k)=x at h2 ⊢
 simp only[beq_iff_eq,bne_iff_ne,ne_eq]
 constructor
 ·intro h3 h4;omega
 intro h3;omega
theorem znk {n:Nat}:n≠0↔∃k,n.testBit k=true:=by
 constructor
 ·intro h;obtain⟨k,hk⟩:=Nat.exists_testBit_of_ne_zero h;exact⟨k,hk⟩
 rintro⟨k,hk⟩ h;rw[h,Nat.zero_testBit] at hk;cases hk
def okM (es:List (Int×Int))(B:Int→Nat→Prop):Prop:=∀n,∃v:Nat,(getM es n).getD 0=(v:Int)∧v<4294967296∧∀k,v.testBit k=true↔B n k
theorem zze (es:List (Int×Int))(n v m:Int):getM (setM es n v) m=if m=n then some v else getM es m:=by
 unfold setM
 cases h:getM es n with
 |none=>
  simp only
  have h0:es.find? (fun x=>decide (x.1=n))=none:=by unfold getM at h;simpa using h
  unfold getM
  rw[List.find?_append]
  by_cases hm:m=n
  ·subst hm;rw[if_pos rfl,h0];simp
  rw[if_neg hm]
  cases hf:es.find? fun x=>decide (x.1=m) with
  |some x=>simp
  |none=>simp[Ne.symm hm]
 |some y=>
  simp only
  unfold getM at h ⊢
  induction es with
  |nil=>simp at h
  |cons a r ih=>
   rw[List.map_cons,List.find?_cons,List.find?_cons]
   rw[List.find?_cons] at h
   by_cases ha:a.1=n
   ·by_cases hm:m=n
    ·subst hm;simp[ha]
    have h1:¬a.1=m:=fun h1=>hm (h1.symm.trans ha)
    have h2:¬n=m:=fun h2=>hm h2.symm
    rw[if_neg hm]
    simp only[ha,if_true,h2,decide_false]
    have:∀l:List (Int×Int),((l.map fun x=>if x.1=n then (x.1,v) else x).find? fun x=>decide (x.1=m)).map (·.2)=(l.find? fun x=>decide (x.1=m)).map (·.2):=by
     intro l
     induction l with
     |nil=>rfl
     |cons b l ihl=>
      rw[List.map_cons,List.find?_cons,List.find?_cons]
      by_cases hb:b.1=n
      ·have:¬b.1=m:=fun h3=>hm (h3.symm.trans hb)
       simp only[hb,if_true,h2,decide_false];exact ihl
      rw[if_neg hb]
      cases decide (b.1=m) with
      |true=>rfl
      |false=>exact ihl
    exact this r
   rw[decide_eq_false ha] at h
   rw[if_neg ha]
   by_cases hm:a.1=m
   ·have h1:¬m=n:=fun h1=>ha (hm.trans h1)
    rw[if_neg h1,decide_eq_true hm]
   rw[decide_eq_false hm]
   exact ih h
theorem z3y {es:List (Int×Int)}{B:Int→Nat→Prop}(h:okM es B){p:Nat}(hp:p<32)(n:Int):okM (putM p es n) fun m k=>B m k∨(m=n∧k=p):=by
 intro m
 unfold putM
 rw[zze]
 by_cases hm:m=n
 ·subst hm
  rw[if_pos rfl]
  obtain⟨v,h1,h2,h3⟩:=h m
  refine⟨v ||| 2 ^ p,?_,Nat.or_lt_two_pow (n:=32) h2 (Nat.pow_lt_pow_right (by omega) hp),fun k=>?_⟩
  ·rw[Option.getD_some,h1]
   unfold orU
   rw[zzi hp,z5q h2 (Nat.pow_lt_pow_right (by omega) hp)]
  rw[Nat.testBit_or,Bool.or_eq_true,h3,Nat.testBit_two_pow]
  simp only[decide_eq_true_eq]
  constructor
  ·rintro (h4|h4)
   ·exact .inl h4
   exact .inr ⟨trivial,h4.symm⟩
  rintro (h4|⟨_,h4⟩)
  ·exact .inl h4
  exact .inr h4.symm
 rw[if_neg hm]
 obtain⟨v,h1,h2,h3⟩:=h m
 refine⟨v,h1,h2,fun k=>?_⟩
 rw[h3]
 exact⟨.inl,fun h4=>h4.elim id fun h5=>absurd h5.1 hm⟩
theorem zud {p:Nat}(hp:p<32):∀(l:List Int) {es:List (Int×Int)} {B:Int→Nat→Prop},okM es B→okM (l.foldl (putM p) es) fun m k=>B m k∨(m∈l∧k=p)
 |[],es,B,h=>by
  intro n
  obtain⟨v,h1,h2,h3⟩:=h n
  exact⟨v,h1,h2,fun k=>by rw[h3];simp⟩
 |a::r,es,B,h=>by
  have ih:=zud hp r (z3y h hp a)
  intro n
  obtain⟨v,h1,h2,h3⟩:=ih n
  refine⟨v,h1,h2,fun k=>?_⟩
  rw[h3]
  show ((B n k∨n=a∧k=p)∨n∈r∧k=p)↔(B n k∨n∈a::r∧k=p)
  rw[List.mem_cons]
  constructor
  ·rintro ((h4|⟨h4,h5⟩)|⟨h4,h5⟩)
   ·exact .inl h4
   ·exact .inr ⟨.inl h4,h5⟩
   exact .inr ⟨.inr h4,h5⟩
  rintro (h4|⟨h4|h4,h5⟩)
  ·exact .inl (.inl h4)
  ·exact .inl (.inr ⟨h4,h5⟩)
  exact .inr ⟨h4,h5⟩
theorem ze1 {s:List Wit}(h:zbh s=0):okM (zeh s) fun n k=>∃w∈s,posI s w.id=k∧n∈w.slips:=by
 have hl:=(zch h).1
 have:∀(l:List Wit),(∀w∈l,w∈s)→∀ {es:List (Int×Int)} {B:Int→Nat→Prop},okM es B→okM (l.foldl (zra s) es) fun n k=>B n k∨∃w∈l,posI s w.id=k∧n∈w.slips:=by
  intro l
  induction l with
  |nil=>
   intro _ es B h1 n
   obtain⟨v,h2,h3,h4⟩:=h1 n
   exact⟨v,h2,h3,fun k=>by rw[h4];simp⟩
  |cons a r ih=>
   intro hs es B h1 n
   obtain⟨hp,_⟩:=zi5 (hs a List.mem_cons_self)
   have hp32:posI s a.id<32:=by have:=zhh s;omega
   obtain⟨v,h2,h3,h4⟩:=ih (fun w hw=>hs w (List.mem_cons_of_mem _ hw)) (zud hp32 a.slips h1) n
   refine⟨v,h2,h3,fun k=>?_⟩
   rw[h4]
   constructor
   ·rintro ((h5|⟨h5,h6⟩)|⟨w,h5,h6⟩)
    ·exact .inl h5
    ·exact .inr ⟨a,List.mem_cons_self,h6.symm,h5⟩
    exact .inr ⟨w,List.mem_cons_of_mem _ h5,h6⟩
   rintro (h5|⟨w,h5,h6,h7⟩)
   ·exact .inl (.inl h5)
   rcases List.mem_cons.1 h5 with rfl|h5
   ·exact .inl (.inr ⟨h7,h6.symm⟩)
   exact .inr ⟨w,h5,h6,h7⟩
 have h0:okM [] fun _ _=>False:=fun n=>⟨0,rfl,by omega,fun k=>by simp⟩
 intro n
 obtain⟨v,h1,h2,h3⟩:=this s (fun w hw=>hw) h0 n
 exact⟨v,h1,h2,fun k=>by rw[h3];simp⟩
def vM (s:List Wit)(n:Int):Int:=(getM (zeh s) n).getD 0
def crB (s:List Wit)(a b:Int):Bool:=zm1 (vM s a) (vM s b)
def crO (s:List Wit):List Int→Option (Int×Int)
 |[]=>none
 |a::r=>match r.find? (crB s a) with
  |some b=>some (a,b)
  |none=>crO s r
def crR (s:List Wit):Option (Int×Int):=crO s (zfq s)
theorem zlr {s:List Wit}{a b:Int}:∀ {l:List Int},crO s l=some (a,b)→a∈l∧b∈l∧crB s a b=true
 |[],h=>by unfold crO at h;cases h
 |x::r,h=>by
  unfold crO at h
  split at h
  ·rename_i y hy
   injection h with h
   injection h with h1 h2
   subst h1;subst h2
   exact⟨List.mem_cons_self,List.mem_cons_of_mem _ (List.mem_of_find?_eq_some hy),by simpa using List.find?_some hy⟩
  obtain⟨h1,h2,h3⟩:=zlr h
  exact⟨List.mem_cons_of_mem _ h1,List.mem_cons_of_mem _ h2,h3⟩
theorem zue {s:List Wit}(hsym:∀a b,crB s a b=crB s b a)(hirr:∀a,crB s a a=false):∀ {l:List Int},crO s l=none→∀a∈l,∀b∈l,crB s a b=false
 |[],_=>fun a ha=>by cases ha
 |x::r,h=>by
  unfold crO at h
  split at h
  ·cases h
  rename_i hn
  have h1:∀b∈r,crB s x b=false:=fun b hb=>by
   have:=List.find?_eq_none.1 hn b hb
   simpa using this
  have h2:=zue hsym hirr h
  intro a ha b hb
  rcases List.mem_cons.1 ha with ea|ha2
  ·rcases List.mem_cons.1 hb with eb|hb2
   ·rw[ea,eb];exact hirr _
   rw[ea];exact h1 b hb2
  rcases List.mem_cons.1 hb with eb|hb2
  ·rw[eb,hsym];exact h1 a ha2
  exact h2 a ha2 b hb2
def crP (s:List Wit)(a b:Int):Prop:=(∃w∈s,a∈w.slips∧b∈w.slips)∧(∃w∈s,a∈w.slips∧b∉w.slips)∧∃w∈s,b∈w.slips∧a∉w.slips
theorem znl {s:List Wit}(h:zbh s=0){w u:Wit}(hw:w∈s)(hu:u∈s)(e:posI s w.id=posI s u.id):w=u:=by
 obtain⟨h1,h2⟩:=zi5 hw
 obtain⟨h3,h4⟩:=zi5 hu
 have h5:w.id=u.id:=by rw[← h2,← h4];congr 1
 have e1:=zjt (zdf h) hw
 rw[h5,zjt (zdf h) hu] at e1
 injection e1 with e1;exact e1.symm
theorem zl7 {s:List Wit}(h:zbh s=0)(a b:Int):crB s a b=true↔crP s a b:=by
 obtain⟨x,hx1,hx2,hx3⟩:=ze1 h a
 obtain⟨y,hy1,hy2,hy3⟩:=ze1 h b
 unfold crB zm1
 rw[show vM s a=(x:Int) from hx1,show vM s b=(y:Int) from hy1,zls hx2 hy2,zm9,zm9]
 have hz:∀n:Nat,(((n:Int) != 0)=true)↔∃k,n.testBit k=true:=fun n=>by
  rw[← znk];simp
 rw[xfr,xfr,hz,hz,hz]
 unfold crP
 have e1:(∃k,(x &&& y).testBit k=true)↔∃w∈s,a∈w.slips∧b∈w.slips:=by
  constructor
  ·rintro⟨k,hk⟩
   rw[Nat.testBit_and,xfr,hx3,hy3] at hk
   obtain⟨⟨w,hw,hwk,hwa⟩,⟨u,hu,huk,hub⟩⟩:=hk
   have:=znl h hw hu (hwk.trans huk.symm)
   subst this
   exact⟨w,hw,hwa,hub⟩
  rintro⟨w,hw,h1,h2⟩
  refine⟨posI s w.id,?_⟩
  rw[Nat.testBit_and,xfr,hx3,hy3]
  exact⟨⟨w,hw,rfl,h1⟩,⟨w,hw,rfl,h2⟩⟩
 have e2:∀ {p q:Int} {X Y:Nat},X<4294967296→Y<4294967296→(∀k,X.testBit k=true↔∃w∈s,posI s w.id=k∧p∈w.slips)→(∀k,Y.testBit k=true↔∃w∈s,posI s w.id=k∧q∈w.slips)→((∃k,(anN X Y).testBit k=true)↔∃w∈s,p∈w.slips∧q∉w.slips):=by
  intro p q X Y hX hY h1 h2
  constructor
  ·rintro⟨k,hk⟩
   rw[znb hX hY,xfr,h1,Bool.not_eq_true'] at hk
   obtain⟨⟨w,hw,hwk,hwa⟩,hn⟩:=hk
   refine⟨w,hw,hwa,fun h3=>?_⟩
   have:=(h2 k).2 ⟨w,hw,hwk,h3⟩
   rw[hn] at this;cases this
  rintro⟨w,hw,h3,h4⟩
  refine⟨posI s w.id,?_⟩
  rw[znb hX hY,xfr,h1,Bool.not_eq_true']
  refine⟨⟨w,hw,rfl,h3⟩,?_⟩
  cases hb:Y.testBit (posI s w.id) with
  |false=>rfl
  |true=>
   obtain⟨u,hu,huk,hub⟩:=(h2 _).1 hb
   have:=znl h hu hw huk
   subst this
   exact absurd hub h4
 rw[e1,e2 hx2 hy2 hx3 hy3,e2 hy2 hx2 hy3 hx3]
theorem zr6 {s:List Wit}(h:zbh s=0):(crR s).isSome=true↔∃a b,crP s a b:=by
 constructor
 ·intro h1
  cases hc:crR s with
  |none=>rw[hc] at h1;cases h1
  |some p=>exact⟨p.1,p.2,(zl7 h _ _).1 (zlr (by exact hc)).2.2⟩
 rintro⟨a,b,hab⟩
 cases hc:crR s with
 |some p=>rfl
 |none=>
  exfalso
  have hsym:∀a b,crB s a b=crB s b a:=fun a b=>by
   rw[Bool.eq_iff_iff,zl7 h,zl7 h]
   unfold crP
   constructor
   ·rintro⟨⟨w,h1,h2,h3⟩,h4,h5⟩;exact⟨⟨w,h1,h3,h2⟩,h5,h4⟩
   rintro⟨⟨w,h1,h2,h3⟩,h4,h5⟩;exact⟨⟨w,h1,h3,h2⟩,h5,h4⟩
  have hirr:∀a,crB s a a=false:=fun a=>by
   cases hb:crB s a a with
   |false=>rfl
   |true=>
    obtain⟨_,⟨w,_,h2,h3⟩,_⟩:=(zl7 h _ _).1 hb
    exact absurd h2 h3
  have h1:=hab
  obtain⟨⟨w,hw,h2,h3⟩,_,_⟩:=h1
  have:=zue hsym hirr hc a (zet.2 ⟨w,hw,h2⟩) b (zet.2 ⟨w,hw,h3⟩)
  rw[(zl7 h a b).2 hab] at this;cases this
theorem zxr {s:List Wit}(h:zbh s=0){v:Nat}(hv:v<4294967296)(hne:v≠0)(hb:∀k,v.testBit k=true→k<(idsS s).length):amL (v:Int) (idsS s)≠[]:=by
 obtain⟨k,hk⟩:=znk.1 hne
 have hl:=hb k hk
 have h24:=(zch h).1
 have hil:=zhh s
 intro h0
 unfold amL amP at h0
 rw[List.filterMap_eq_nil_iff] at h0
 have:=h0 k (List.mem_range.2 hl)
 rw[zu7 hv (by omega),hk] at this
 simp at this;omega
theorem zut {s:List Wit}(h:zbh s=0){a b:Int}(hc:crB s a b=true):amL (andV (vM s a) (vM s b)) (idsS s)≠[]∧amL (anV (vM s a) (vM s b)) (idsS s)≠[]∧amL (anV (vM s b) (vM s a)) (idsS s)≠[]:=by
 obtain⟨x,hx1,hx2,hx3⟩:=ze1 h a
 obtain⟨y,hy1,hy2,hy3⟩:=ze1 h b
 unfold crB zm1 at hc
 rw[show vM s a=(x:Int) from hx1,show vM s b=(y:Int) from hy1] at hc ⊢
 rw[zls hx2 hy2,zm9,zm9] at hc ⊢
 simp only[xfr,bne_iff_ne,ne_eq] at hc
 obtain⟨h1,h2,h3⟩:=hc
 have bx:∀k,x.testBit k=true→k<(idsS s).length:=fun k hk=>by
  obtain⟨w,hw,rfl,_⟩:=(hx3 k).1 hk;exact(zi5 hw).1
 have by':∀k,y.testBit k=true→k<(idsS s).length:=fun k hk=>by
  obtain⟨w,hw,rfl,_⟩:=(hy3 k).1 hk;exact(zi5 hw).1
 refine⟨zxr h (Nat.lt_of_le_of_lt Nat.and_le_left hx2) (by omega) fun k hk=>?_,zxr h (zyv _ _) (by omega) fun k hk=>?_,zxr h (zyv _ _) (by omega) fun k hk=>?_⟩
 ·rw[Nat.testBit_and,xfr] at hk;exact bx k hk.1
 ·rw[znb hx2 hy2,xfr] at hk;exact bx k hk.1
 rw[znb hy2 hx2,xfr] at hk;exact by' k hk.1
end Go.Am.Ds
end
section
namespace Go.Am.Ds
open Go Go.Am Go.Proofs
attribute [local simp] vrun zaz zbg vop vopA zb2 zab.back hidI hidF zdh bm Nat.testBit_eq_decide_div_mod_eq za6 zbo zb4 vO zbc vlen zbs zbz zd2 zaq zak zcj vbox zbe zdu zby zdt zcm zau zcn zav zcl zbf zci zbr zbl vbnd zcz vidx zbp zdk zar zbt zct zdj zd9 zd6 vbin vsc vsc1 vscs vscl zbv aint zb3 zdl za8 zcx zd0 pvcV pvc pvcs tput tget zdd zab.get zab.alloc zab.put zab.drop zab.empty zce vput zdi zbb zca zda chunk List.range List.range.loop za0 zbu za1 frz frzL PV.isF PV.allF PV.scal PV.allS retP subT zds PV.one PV.ids PV.idsL zcc beq_eq zbw zbx
attribute [local simp] zW tup2
end Go.Am.Ds
end
section
namespace Go.Am.Ds
open Go Go.Am Go.Proofs Tryz
attribute [local simp] vrun zaz zbg vop vopA zb2 zab.back hidI hidF zdh bm Nat.testBit_eq_decide_div_mod_eq za6 zbo zb4 vO zbc vlen zbs zbz zd2 zaq zak zcj vbox zbe zdu zby zdt zcm zau zcn zav zcl zbf zci zbr zbl vbnd zcz vidx zbp zdk zar zbt zct zdj zd9 zd6 vbin vsc vsc1 vscs vscl zbv aint zb3 zdl za8 zcx zd0 pvcV pvc pvcs tput tget zdd zab.get zab.alloc zab.put zab.drop zab.empty zce vput zdi zbb zca zda chunk List.range List.range.loop za0 zbu za1 frz frzL PV.isF PV.allF PV.scal PV.allS retP subT zds PV.one PV.ids PV.idsL zcc beq_eq zbw zbx
attribute [local simp] zW tup2
@[local simp ↓ high] theorem z6f (a b:Int):aint .and .u32 a b=some (.int .u32 (andV a b)):=rfl
@[local simp ↓ high] theorem xbk (a b:Int):aint .andNot .u32 a b=some (.int .u32 (anV a b)):=rfl
@[local simp ↓ high] theorem ashr32 (a:Int)(k:Nat):zb3 .shr .u32 a (k:Int)=some (.int .u32 (shrV a k)):=by
 unfold zb3 shrV
 have h:¬((k:Int)<0):=by omega
 rw[decide_eq_false h,xfq,Int.toNat_natCast];rfl
theorem p96 (x y:Int):zat prog 96 [.int .u32 x,.int .u32 y] fun r=>r=.tup [.agg [.int .u32 (andV x y),.int .u32 (anV x y),.int .u32 (anV y x)],.bool (zm1 x y)]:=by
 have hcx:zm1 x y=(andV x y != 0&&(anV x y != 0&&anV y x != 0)):=rfl
 refine .zah func96 rfl rfl ?_
 refine .sr ?_
 refine .sr ?_
 refine .seq ?_
 refine .drawn (ms:=[0,0,2,6,14,30,62,126,254,510,1022,2046,4094,8190,1023,32767]) (W:=[14]) (items:=[.op 0,.op 1,.op 2,.op 3,.op 4,.op 5,.op 6,.op 7,.op 8,.op 9,.op 10,.op 11,.op 12,.op 13,.op 14,.ck 11,.op 15]) rfl zz0 zz0 zz0 ?_
 iterate 5 refine .rx ?_
 refine .split (t:=21) rfl (fun c21=>?_) (fun c21=>?_)
 ·try rw[c21]
  try simp at c21
  have e1:(andV x y != 0)=true:=by simpa using c21
  iterate 5 refine .rx ?_
  refine .split (t:=26) rfl (fun c26=>?_) (fun c26=>?_)
  ·try rw[c26]
   try simp at c26
   have e2:(anV x y != 0)=true:=by simpa using c26
   iterate 4 refine .rx ?_
   refine .wr rfl rfl (by decide) (.stor (todo':=[11]) rfl rfl rfl rfl zz1 rfl (⟨⟨by decide +kernel,_,_,rfl,zz1⟩,trivial⟩) ?_)
   refine .ck rfl zz0 ?_
   refine .rx ?_
   refine .done (.ret ?_)
   refine⟨_,_,zz4,zz4,?_⟩
   simp only[hcx,e1,e2,Bool.true_and]
  try rw[c26]
  try simp at c26
  have e2:(anV x y != 0)=false:=by simp[c26]
  iterate 3 refine .ux ?_
  refine .rx ?_
  refine .wr rfl rfl (by decide) (.stor (todo':=[]) rfl rfl rfl rfl zz1 rfl trivial ?_)
  refine .ckU rfl rfl rfl ?_
  refine .rx ?_
  refine .done (.ret ?_)
  refine⟨_,_,zz4,zz4,?_⟩
  simp only[hcx,e1,e2,Bool.false_and,Bool.and_false]
  simp[c26]
 try rw[c21]
 try simp at c21
 have e1:(andV x y != 0)=false:=by simp[c21]
 iterate 3 refine .ux ?_
 iterate 2 refine .rx ?_
 iterate 3 refine .ux ?_
 refine .rx ?_
 refine .wr rfl rfl (by decide) (.stor (todo':=[]) rfl rfl rfl rfl zz1 rfl trivial ?_)
 refine .ckU rfl rfl rfl ?_
 refine .rx ?_
 refine .done (.ret ?_)
 refine⟨_,_,zz4,zz4,?_⟩
 simp only[hcx,e1,Bool.false_and]
 simp[c21]
theorem p98 (m:Int)(l:List Int)(hl:l.length≤24):zat prog 98 [.int .u32 m,ints l] fun r=>Soft r (ints (amL m l)):=by
 refine .zah func98 rfl rfl ?_
 refine .sr ?_
 refine .sr ?_
 refine .seq (.sr ?_)
 refine .block ?_
 refine .zco (fun k:Nat=>([(0,.int .u32 m),(5,.grow 0 (amP m l k).length true),(8,ints l),(9,.int .i64 l.length),(10,.int .i64 k)],⟨1,[(0,.grow 1 ((amP m l k).map (.int .i64)))]⟩)) (fun k=>k≤l.length) (fun k=>l.length - k) 0 (by simp[amP]) (.mk [] [] zz14 zz15 rfl rfl rfl) ?_
 rintro k hk
 simp only at hk ⊢
 have hle:=xbm m l k
 refine .sr ?_
 refine .seq ?_
 refine .cs ?_ ?_<;>intro c11
 ·try simp at c11
  have hw2:=wr1 k
  have hS:=zuf m l k c11
  have hb:(amP m l k).length≤4294967295:=by omega
  have hone:zdr [PV.int IntKind.i64 l[k]]=true:=rfl
  refine .skip (.seq (.block (.sr ?_)))
  refine .sr ?_
  refine .cs ?_ ?_<;>intro c19
  ·try simp at c19
   rw[if_pos (show bitB m k=true by unfold bitB;simp[c19])] at hS
   refine .rn ?_
   refine .rn ?_
   refine⟨k+1,c11,zz5,(.mk [] [(0,2)] zz14 zz15 rfl rfl rfl)⟩
  try simp at c19
  rw[if_neg (show ¬bitB m k=true by unfold bitB;simp[c19])] at hS
  refine .skip (.rn ?_)
  refine⟨k+1,c11,zz5,(.mk [] [] zz14 zz15 rfl rfl rfl)⟩
 try simp at c11
 have hk2:k=l.length:=by omega
 subst hk2
 refine .exit (.sr ?_)
 refine .ret ?_
 refine⟨_,_,zz4,zz4,?_⟩
 exact z0b rfl
theorem p98' (m:Int)(l:List Int)(hl:l.length≤24):zat prog 98 [.int .u32 m,ints l] fun r=>r=ints (amL m l):=zat.soft (p98 m l hl) rfl
theorem p97 (m:Int)(s:List Wit)(h:zbh s=0)(hne:amL m (idsS s)≠[]):zat prog 97 [.int .u32 m,.vp (encS s).cells] fun r=>r=.int .i64 ((amL m (idsS s)).headD 0):=by
 have hl24:=(zch h).1
 have hil:=zhh s
 obtain⟨b,r,hbr⟩:∃b r,amL m (idsS s)=b::r:=by
  cases hc:amL m (idsS s) with
  |nil=>exact absurd hc hne
  |cons b r=>exact⟨b,r,rfl⟩
 refine .zah func97 rfl rfl ?_
 refine .sr ?_
 refine .seq ?_
 refine .zac [0,1,2,3,4,5,6] rfl zz0 ?_
 refine .rn [0,1] _ ?_
 refine .pc rfl rfl rfl rfl rfl call99 (p99' s (by omega)) ?_
 refine .pc rfl rfl rfl rfl rfl call98 ((by have h:=p98' m (idsS s) (by omega);rw[hbr] at h;exact h)) ?_
 refine .rn [4,5,6] [] ?_
 refine .done (.ret ?_)
 refine⟨_,_,zz4,zz4,?_⟩
 first|rfl|(simp[*];done)|(simp_all;done)
theorem p95 (s:List Wit)(h:zbh s=0):zat prog 95 [.vmap (kvs (kvM (zeh s)))] fun r=>r=.tup [.int .i64 ((crR s).getD (0,0)).1,.int .i64 ((crR s).getD (0,0)).2,.bool (crR s).isSome]:=by
 have hlen:=zyg h
 have hsl:=zvg s
 have h125:zat prog 125 [.vmap (kvs (kvM (zeh s)))] fun r=>r=ints (zfq s):=by
  have h:=p125 (kvM (zeh s)) (by rw[zqe];exact zjc s) (by simp only[kvM,List.length_map];omega)
  rw[zqe] at h;exact h
 have hpf:∀n∈zfq s,zh8 .i64 n (kvs (kvM (zeh s)))=some (some (.int .u32 (vM s n))):=fun n hn=>by
  have h1:n∈(zeh s).map (·.1):=zg0.2 (zet.1 hn)
  have h2:=zo4.2 h1
  rw[zg5]
  unfold vM
  cases hg:getM (zeh s) n with
  |none=>rw[hg] at h2;cases h2
  |some v=>rfl
 have hL:(zfq s).length≤720:=by omega
 clear hsl hlen
 have hcr:crR s=crO s (zfq s):=rfl
 generalize hM:kvs (kvM (zeh s))=M at hpf h125
 generalize hLL:zfq s=L at hpf hL h125 hcr
 refine .zah func95 rfl rfl ?_
 refine .sr ?_
 refine .scope ?_
 refine .seq ?_
 refine .zac [0,1,2] rfl zz0 ?_
 refine .rn [0] _ ?_
 refine .pc rfl rfl rfl rfl rfl call125 (h125) ?_
 refine .rn [2] [] ?_
 refine .done (.sr ?_)
 refine .seq ?_
 refine .label ?_
 refine .seq (.sr ?_)
 refine .block ?_
 refine .zco (fun k:Nat=>([(0,.vmap M),(5,ints L),(6,.int .i64 0),(7,.int .i64 0),(8,.bool false),(15,ints L),(16,.int .i64 L.length),(17,.int .i64 k)],zab.empty)) (fun k=>k≤L.length∧crR s=crO s (L.drop k)) (fun k=>L.length - k) 0 ⟨by simp,by simpa using hcr⟩ (.pure (by simp[*]) (by simp)) ?_
 rintro k ⟨hk,hr⟩
 simp only at hk hr ⊢
 refine .sr ?_
 refine .seq ?_
 refine .cs ?_ ?_<;>intro c18
 ·try simp at c18
  have hw2:=wr1 k
  rw[List.drop_eq_getElem_cons c18] at hr
  obtain⟨D,hD⟩:∃D,L.drop (k+1)=D:=⟨_,rfl⟩
  have hDl:D.length=L.length - (k+1):=by rw[← hD,List.length_drop]
  have hDm:∀x∈D,x∈L:=fun x hx=>List.mem_of_mem_drop (hD▸hx)
  have hDt:(L.map (PV.int .i64)).drop (k+1)=D.map (.int .i64):=by rw[← List.map_drop,hD]
  have hDt2:((L.map (PV.int .i64)).drop (k+1)).take (L.length - (k+1))=D.map (.int .i64):=by rw[hDt];exact List.take_of_length_le (by rw[List.length_map];omega)
  have hDt3:List.take (L.length - (k+1)) (D.map (PV.int .i64))=D.map (.int .i64):=List.take_of_length_le (by rw[List.length_map];omega)
  have hk1':0≤(k:Int)+1∧(k:Int)+1≤(L.length:Int):=by omega
  have hDn:D.length≤720:=by omega
  clear hDl
  have hpa:=hpf L[k] (List.getElem_mem c18)
  have hk1:k+1≤L.length:=c18
  refine .skip (.seq (.block (.sr ?_)))
  refine .sr ?_
  refine .block ?_
  refine .zco (fun j:Nat=>([(0,.vmap M),(5,ints L),(6,.int .i64 0),(7,.int .i64 0),(8,.bool false),(10,.int .i64 L[k]),(15,ints L),(16,.int .i64 L.length),(17,.int .i64 k),(25,ints D),(26,.int .i64 D.length),(27,.int .i64 j)],zab.empty)) (fun j=>j≤D.length∧D.find? (crB s L[k])=(D.drop j).find? (crB s L[k])) (fun j=>D.length - j) 0 (by simp) (.pure (by simp[*]) (by simp)) ?_
  rintro j ⟨hj,hf⟩
  simp only at hj hf ⊢
  refine .sr ?_
  refine .seq ?_
  refine .cs ?_ ?_<;>intro c28
  ·try simp at c28
   have hw3:=wr1 j
   rw[List.drop_eq_getElem_cons c28,List.find?_cons] at hf
   have hpb:=hpf D[j] (hDm _ (List.getElem_mem c28))
   obtain⟨cb,hcb⟩:∃x,crB s L[k] D[j]=x:=⟨_,rfl⟩
   have h96:=p96 (vM s L[k]) (vM s D[j])
   rw[show zm1 (vM s L[k]) (vM s D[j])=cb from hcb] at h96
   rw[hcb] at hf
   refine .skip (.seq (.block (.sr ?_)))
   refine .seq ?_
   refine .zac [0,1,2,3,4,5,6,7,8,9,10] rfl zz0 ?_
   refine .rn [0,1,2,3,4,5] _ ?_
   refine .pc rfl rfl rfl rfl rfl call96 (h96) ?_
   refine .rn [7,8,9,10] [] ?_
   refine .done (.sr ?_)
   refine .cs ?_ ?_<;>intro c41
   ·try simp at c41
    rw[c41] at hf
    refine .sr ?_
    refine .exit (.sr ?_)
    refine .ret ?_
    refine⟨_,_,zz4,zz4,?_⟩
    have hx:crR s=some (L[k],D[j]):=by rw[hr];unfold crO;rw[hD,hf]
    rw[hx];simp[c41]
   try simp at c41
   rw[c41] at hf
   refine .skip (.rn ?_)
   refine⟨j+1,⟨c28,hf⟩,zz5,.pure (by simp[*]) (by simp)⟩
  try simp at c28
  have hj2:j=D.length:=by omega
  rw[hj2,List.drop_length] at hf
  refine .exit (.rn ?_)
  refine⟨k+1,⟨c18,by
   rw[hr,hD]
   show (match D.find? (crB s L[k]) with|some b=>some (L[k],b)|none=>crO s D)=crO s D
   rw[hf];rfl⟩,zz5,.pure (by simp[*]) (by simp)⟩
 try simp at c18
 have hk2:k=L.length:=by omega
 rw[hk2,List.drop_length] at hr
 refine .exit (.sr ?_)
 refine .ret ?_
 refine⟨_,_,zz4,zz4,?_⟩
 rw[hr];rfl
def zX:PV:=.agg [.int .i64 0,.int .i64 0,.int .i64 0,.int .i64 0,.int .i64 0]
def crX (s:List Wit)(a b:Int):PV:=.agg [.int .i64 a,.int .i64 b,.int .i64 ((amL (andV (vM s a) (vM s b)) (idsS s)).headD 0),.int .i64 ((amL (anV (vM s a) (vM s b)) (idsS s)).headD 0),.int .i64 ((amL (anV (vM s b) (vM s a)) (idsS s)).headD 0)]
def crT (s:List Wit):PV:=if zbh s=0 then (match crR s with
 |some p=>.tup [crX s p.1 p.2,.bool true,.int .i64 0]
 |none=>.tup [zX,.bool false,.int .i64 0]) else .tup [zX,.bool false,.int .i64 (zbh s)]
theorem p24 (s:List Wit)(hl:s.length<4294967296):zat prog 24 [encS s] fun r=>r=crT s:=by
 refine .zah func24 rfl rfl ?_
 refine .sr ?_
 refine .seq (.seq ?_)
 refine .zac [0,1,2] rfl zz0 ?_
 refine .rn [0] _ ?_
 refine .pc rfl rfl rfl rfl rfl call35 (p35 s hl) ?_
 refine .rn [2] [] ?_
 refine .done (.sr ?_)
 refine .cs ?_ ?_<;>intro c16
 ·try simp at c16
  refine .sr ?_
  refine .ret ?_
  refine⟨_,_,zz4,zz4,?_⟩
  unfold crT zX;rw[if_neg c16]
 try simp at c16
 have hpf:∀n∈zfq s,zh8 .i64 n (kvs (kvM (zeh s)))=some (some (.int .u32 (vM s n))):=fun n hn=>by
  have h1:n∈(zeh s).map (·.1):=zg0.2 (zet.1 hn)
  have h2:=zo4.2 h1
  rw[zg5]
  unfold vM
  cases hg:getM (zeh s) n with
  |none=>rw[hg] at h2;cases h2
  |some v=>rfl
 have hT:crT s=match crR s with
  |some p=>.tup [crX s p.1 p.2,.bool true,.int .i64 0]
  |none=>.tup [zX,.bool false,.int .i64 0]:=by unfold crT;rw[if_pos c16]
 have q95:=p95 s c16
 rcases hcr:crR s with _|⟨a,b⟩<;>rw[hcr] at hT q95
 ·skip
  refine .skip (.seq ?_)
  refine .zac [0,1,2] rfl zz0 ?_
  refine .rn [0] _ ?_
  refine .pc rfl rfl rfl rfl rfl call94 (p94 s c16) ?_
  refine .rn [2] [] ?_
  refine .done (.seq ?_)
  refine .zac [0,1,2,3,4,5,6,7,8] rfl zz0 ?_
  refine .rn [0] _ ?_
  refine .pc rfl rfl rfl rfl rfl call95 (q95) ?_
  refine .rn [2,3,4,5,6,7,8] [] ?_
  refine .done (.seq (.sr ?_))
  refine .cs ?_ ?_<;>intro c28
  ·try simp at c28
   refine .sr ?_
   refine .ret ?_
   refine⟨_,_,zz4,zz4,?_⟩
   rw[hT];rfl
  try simp at c28
 skip
 refine .skip (.seq ?_)
 refine .zac [0,1,2] rfl zz0 ?_
 refine .rn [0] _ ?_
 refine .pc rfl rfl rfl rfl rfl call94 (p94 s c16) ?_
 refine .rn [2] [] ?_
 refine .done (.seq ?_)
 refine .zac [0,1,2,3,4,5,6,7,8] rfl zz0 ?_
 refine .rn [0] _ ?_
 refine .pc rfl rfl rfl rfl rfl call95 (q95) ?_
 refine .rn [2,3,4,5,6,7,8] [] ?_
 refine .done (.seq (.sr ?_))
 refine .cs ?_ ?_<;>intro c28
 ·try simp at c28
 try simp at c28
 obtain⟨hma,hmb,hab⟩:=zlr (show crO s (zfq s)=some (a,b) from hcr)
 have hpa:=hpf a hma
 have hpb:=hpf b hmb
 obtain⟨n1,n2,n3⟩:=zut c16 hab
 have h96:=p96 (vM s a) (vM s b)
 rw[show zm1 (vM s a) (vM s b)=true from hab] at h96
 refine .skip (.seq ?_)
 refine .zac [0,1,2,3,4,5,6,7,8,9,10,11,12] rfl zz0 ?_
 refine .rn [0,1,2,3,4,5] _ ?_
 refine .pc rfl rfl rfl rfl rfl call96 (h96) ?_
 refine .rn [7,8,9,10,11,12] [] ?_
 refine .done (.seq ?_)
 refine .rec (vts2:=[(1,.vp (encS s).cells),(2,.ptr 1 0),(7,.int .i64 a),(8,.int .i64 b),(10,.ptr 2 0)]) (vh2:=⟨3,[(2,.box [.int .u32 (andV (vM s a) (vM s b)),.int .u32 (anV (vM s a) (vM s b)),.int .u32 (anV (vM s b) (vM s a))]),(1,.box [.int .i64 0,.int .i64 0,.int .i64 0,.int .i64 0,.int .i64 0])]⟩) (.mk [0] [] zz17 zz15 rfl rfl rfl) ?_
 refine .rn ?_
 refine .seq ?_
 refine .drawn (ms:=[0,0,0,0,8,28,0,0,128,508,0,0,2048,8188,16383,32767,65535,131071]) (W:=[5,9,13,15]) (items:=[.op 0,.op 1,.op 2,.op 3,.op 4,.op 6,.op 7,.op 8,.op 10,.op 11,.op 12,.op 5,.ck 12,.ck 8,.op 9,.ck 12,.op 13,.op 14,.op 15,.op 16,.op 17]) rfl zz0 zz0 zz0 ?_
 iterate 11 refine .rx ?_
 refine .wp rfl rfl rfl rfl rfl call97 (p97 (andV (vM s a) (vM s b)) s c16 n1) ?_
 refine .ck rfl zz0 ?_
 refine .ck rfl zz0 ?_
 refine .wp rfl rfl rfl rfl rfl call97 (p97 (anV (vM s a) (vM s b)) s c16 n2) ?_
 refine .ck rfl zz0 ?_
 refine .wp rfl rfl rfl rfl rfl call97 (p97 (anV (vM s b) (vM s a)) s c16 n3) ?_
 refine .rx ?_
 refine .wv ?_
 iterate 2 refine .rx ?_
 refine .done (.ret ?_)
 refine⟨_,_,zz4,zz4,?_⟩
 rw[hT];simp[crX]
end Go.Am.Ds
end
/-
 Descent: the plain law of DescentSets: sets of copies as lists of numbers.
-/
section
namespace Go.Am.Ds
open Go Go.Am Go.Proofs
def hdB (s:List Wit)(p:Wit→Bool)(id:Int):Bool:=match getW s id with
 |some w=>p w
 |none=>false
def hdS (s:List Wit)(p:Wit→Bool):List Int:=(idsS s).filter (hdB s p)
def hasP (n:Int)(w:Wit):Bool:=decide (n∈w.slips)
theorem zvq {m:Int}{l:List Int}{q:Int→Bool}(h:∀i,∀hi:i<l.length,bitB m i=q l[i]):amL m l=l.filter q:=by
 have:∀k,k≤l.length→amP m l k=(l.take k).filter q:=by
  intro k
  induction k with
  |zero=>intro _;simp[amP]
  |succ k ih=>
   intro hk
   rw[zuf m l k (by omega),ih (by omega),List.take_succ_eq_append_getElem (by omega),List.filter_append,h k (by omega)]
   by_cases hq:q l[k]=true<;>simp[hq]
 unfold amL
 rw[this _ (Nat.le_refl _),List.take_length]
theorem zxl {s:List Wit}(h:zbh s=0){v:Nat}(hv:v<4294967296){p:Wit→Bool}(hb:∀k,v.testBit k=true↔∃w∈s,posI s w.id=k∧p w=true):amL (v:Int) (idsS s)=hdS s p:=by
 unfold hdS
 refine zvq fun i hi=>?_
 have h24:=(zch h).1
 have hil:=zhh s
 rw[zu7 hv (by omega)]
 obtain⟨w,hw,hwi⟩:=zpk.1 (List.getElem_mem hi)
 have hg:=zjt (zdf h) hw
 have hpos:posI s w.id=i:=by
  obtain⟨h1,h2⟩:=zi5 hw
  have hs:=znq (zdf h)
  rw[List.pairwise_iff_getElem] at hs
  have e:(idsS s)[posI s w.id]=(idsS s)[i]:=h2.trans hwi
  rcases Nat.lt_trichotomy (posI s w.id) i with h3|h3|h3
  ·have:=hs _ _ h1 hi h3;omega
  ·exact h3
  have:=hs _ _ hi h1 h3;omega
 unfold hdB
 rw[← hwi,hg]
 simp only
 rw[Bool.eq_iff_iff,hb]
 constructor
 ·rintro⟨u,hu,h1,h2⟩
  have:=znl h hu hw (h1.trans hpos.symm)
  subst this;exact h2
 intro h1;exact⟨w,hw,hpos,h1⟩
theorem z7k {s:List Wit}(h:zbh s=0)(a:Int):amL (vM s a) (idsS s)=hdS s (hasP a):=by
 obtain⟨x,h1,h2,h3⟩:=ze1 h a
 rw[show vM s a=(x:Int) from h1]
 exact zxl h h2 fun k=>by rw[h3];simp[hasP]
theorem z4v {s:List Wit}(h:zbh s=0)(a b:Int):amL (andV (vM s a) (vM s b)) (idsS s)=hdS s fun w=>hasP a w&&hasP b w:=by
 obtain⟨x,hx1,hx2,hx3⟩:=ze1 h a
 obtain⟨y,hy1,hy2,hy3⟩:=ze1 h b
 rw[show vM s a=(x:Int) from hx1,show vM s b=(y:Int) from hy1,zls hx2 hy2]
 refine zxl h (Nat.lt_of_le_of_lt Nat.and_le_left hx2) fun k=>?_
 rw[Nat.testBit_and,xfr,hx3,hy3]
 simp only[hasP,xfr,decide_eq_true_eq]
 constructor
 ·rintro⟨⟨w,hw,h1,h2⟩,u,hu,h3,h4⟩
  have:=znl h hw hu (h1.trans h3.symm)
  subst this;exact⟨w,hw,h1,h2,h4⟩
 rintro⟨w,hw,h1,h2,h3⟩;exact⟨⟨w,hw,h1,h2⟩,w,hw,h1,h3⟩
theorem z1p {s:List Wit}(h:zbh s=0)(a b:Int):amL (anV (vM s a) (vM s b)) (idsS s)=hdS s fun w=>hasP a w&&!hasP b w:=by
 obtain⟨x,hx1,hx2,hx3⟩:=ze1 h a
 obtain⟨y,hy1,hy2,hy3⟩:=ze1 h b
 rw[show vM s a=(x:Int) from hx1,show vM s b=(y:Int) from hy1,zm9]
 refine zxl h (zyv _ _) fun k=>?_
 rw[znb hx2 hy2,xfr,hx3,Bool.not_eq_true']
 simp only[hasP,xfr,Bool.not_eq_true',decide_eq_true_eq,decide_eq_false_iff_not]
 constructor
 ·rintro⟨⟨w,hw,h1,h2⟩,h3⟩
  refine⟨w,hw,h1,h2,fun h4=>?_⟩
  have:=(hy3 k).2 ⟨w,hw,h1,h4⟩
  rw[h3] at this;cases this
 rintro⟨w,hw,h1,h2,h3⟩
 refine⟨⟨w,hw,h1,h2⟩,?_⟩
 cases hb:y.testBit k with
 |false=>rfl
 |true=>
  obtain⟨u,hu,h4,h5⟩:=(hy3 k).1 hb
  have:=znl h hu hw (h4.trans h1.symm)
  subst this;exact absurd h5 h3
theorem zxf (s:List Wit)(p:Wit→Bool):(hdS s p).length≤s.length:=by
 unfold hdS
 have:=List.length_filter_le (hdB s p) (idsS s)
 rw[zhh] at this;exact this
theorem zxm {s:List Wit}(h:zbh s=0){p:Wit→Bool}{id:Int}:id∈hdS s p↔hdB s p id=true:=by
 unfold hdS
 rw[List.mem_filter]
 refine⟨fun h1=>h1.2,fun h1=>⟨?_,h1⟩⟩
 unfold hdB at h1
 cases hg:getW s id with
 |none=>rw[hg] at h1;cases h1
 |some w=>
  obtain⟨hw,hi⟩:=zu4 hg
  exact zpk.2 ⟨w,hw,hi⟩
end Go.Am.Ds
end
/-
 Descent: the copy in which two copies meet, in plain Lean.
-/
section
namespace Go.Am.Ds
open Go Go.Am Go.Proofs
section
variable {s:List Wit} {l:List Int} (h:zbh s=0) (hd:(desR s l).2=true)
include h hd
end
section
variable {s:List Wit} {l:List Int} (h:zbh s=0) (hd:(desR s l).2=true)
include h hd
end
end Go.Am.Ds
end
section
namespace Go.Am.Ds
open Go Go.Am Go.Proofs
attribute [local simp] vrun zaz zbg vop vopA zb2 zab.back hidI hidF zdh bm Nat.testBit_eq_decide_div_mod_eq za6 zbo zb4 vO zbc vlen zbs zbz zd2 zaq zak zcj vbox zbe zdu zby zdt zcm zau zcn zav zcl zbf zci zbr zbl vbnd zcz vidx zbp zdk zar zbt zct zdj zd9 zd6 vbin vsc vsc1 vscs vscl zbv aint zb3 zdl za8 zcx zd0 pvcV pvc pvcs tput tget zdd zab.get zab.alloc zab.put zab.drop zab.empty zce vput zdi zbb zca zda chunk List.range List.range.loop za0 zbu za1 frz frzL PV.isF PV.allF PV.scal PV.allS retP subT zds PV.one PV.ids PV.idsL zcc beq_eq zbw zbx
attribute [local simp] zW tup2
end Go.Am.Ds
end
section
namespace Go.Am.Ds
open Go Go.Am Go.Proofs
attribute [local simp] vrun zaz zbg vop vopA zb2 zab.back hidI hidF zdh bm Nat.testBit_eq_decide_div_mod_eq za6 zbo zb4 vO zbc vlen zbs zbz zd2 zaq zak zcj vbox zbe zdu zby zdt zcm zau zcn zav zcl zbf zci zbr zbl vbnd zcz vidx zbp zdk zar zbt zct zdj zd9 zd6 vbin vsc vsc1 vscs vscl zbv aint zb3 zdl za8 zcx zd0 pvcV pvc pvcs tput tget zdd zab.get zab.alloc zab.put zab.drop zab.empty zce vput zdi zbb zca zda chunk List.range List.range.loop za0 zbu za1 frz frzL PV.isF PV.allF PV.scal PV.allS retP subT zds PV.one PV.ids PV.idsL zcc beq_eq zbw zbx
attribute [local simp] zW tup2
end Go.Am.Ds
end
section
namespace Go.Am
open Go Go.Proofs
theorem zat.z8i {P:Program}{vh:zab}{f:FuncId}{args args2:List PV}{R:PV→Prop}(hp:zat P f args2 R)(ha2:frzL vh args=some args2):zj1 P f args vh fun v vh'=>vh'=zcc (PV.idsL args) vh∧R v:=fun lo g σ h args' ha s=>by
 have hA:=zf3 vh (fun i=>(PV.idsL args).contains i) args args2 (fun i hi=>by simpa using hi) ha2
 have ha0:=AltL.ok s hA ha
 have hF:PV.allF args2=true:=zha vh args args2 ha2
 have hle:=zew (D:=fun i=>(PV.idsL args).contains i) s
 have hS:VS lo (g.more σ vh h fun i=>(PV.idsL args).contains i) σ (zcc (PV.idsL args) vh) h:=by
  refine⟨fun j y hy=>?_,fun j k y z hy hz=>s.inj j k y z (zc4 _ _ _ _ hy).2 (zc4 _ _ _ _ hz).2,fun j y hy=>s.low j y (zc4 _ _ _ _ hy).2,zky s,fun j y hy hl=>?_,s.lole⟩
  ·obtain⟨k1,k2⟩:=s.obj j y (zc4 _ _ _ _ hy).2
   rw[zdm]
   exact⟨k1,k2.mono hle (Nat.le_refl _) (fun _ _=>rfl) k1 fun _=>rfl⟩
  obtain⟨h1,h2⟩:=zc4 _ _ _ _ hy
  unfold Fz.more
  rw[if_neg]
  ·exact s.dis j y h2 hl
  rintro⟨i,z,k1,k2,k3,k4⟩
  have:=s.inj i j z y k2 h2 k3 hl k4
  subst this
  exact h1 (by simpa using k1)
 have hVF:VF σ vh h σ (zcc (PV.idsL args) vh) h:=⟨Nat.le_refl _,fun _ _ _=>rfl,fun j y hy hl _=>⟨j,y,(zc4 _ _ _ _ hy).2,hl,rfl⟩⟩
 refine((hp.zsa (vh:=zcc (PV.idsL args) vh) hF) lo _ σ h args' (ha0.isF hF).vr hS).mono fun r h' ⟨h0,g',σ',v,vh',h1,h2,h3,h4,h5,h6,h7,h8⟩=>?_
 rw[zdm] at h4 h6
 exact⟨h0,g',σ',v,vh',h1,h2,Fz.le_trans hle h3,h4,hVF.trans h5,h6,zjz.trans hVF h7,h8⟩
theorem zfb.zr0 {P:Program}{N b:Nat}{vts:VTs}{vh:zab}{ops:Array Oper}{todo:List Nat}{o:Oper}{next:List Nat→VTs→zab→Prop}{fo:Operand}{args:Array Operand}{aT:Array TypeId}{f:FuncId}{xs ys l args2:List PV}{R:PV→Prop}(ho:o.op=.call ⟨.value fo,args,aT⟩)
  (hf:za6 vts fo=some (.func f xs ys)) (hl:zbo vts args.toList=some l) (hcf:∀cs w,(callFunc f cs).run P w=.ok (.enter f cs) w) (hd:zc1 N o.dst=true)
  (hz:frzL vh (xs++l++ys)=some args2) (hp:zat P f args2 R) (hn:∀r,R r→next (zee ops todo o.dst) (tput vts o.dst r) (zcc (PV.idsL (xs++l++ys)) vh)):zfb P N b ops o todo next vts vh:=
 .zsa ho hf hl hcf hd ((hp.z8i hz).mono fun r vh' ⟨h1,h2⟩=>h1▸hn r h2)
end Go.Am
end
section
namespace Go.Am.Ds
open Go Go.Am Go.Proofs Tryz
attribute [local simp] vrun zaz zbg vop vopA zb2 zab.back hidI hidF zdh bm Nat.testBit_eq_decide_div_mod_eq za6 zbo zb4 vO zbc vlen zbs zbz zd2 zaq zak zcj vbox zbe zdu zby zdt zcm zau zcn zav zcl zbf zci zbr zbl vbnd zcz vidx zbp zdk zar zbt zct zdj zd9 zd6 vbin vsc vsc1 vscs vscl zbv aint zb3 zdl za8 zcx zd0 pvcV pvc pvcs tput tget zdd zab.get zab.alloc zab.put zab.drop zab.empty zce vput zdi zbb zca zda chunk List.range List.range.loop za0 zbu za1 frz frzL PV.isF PV.allF PV.scal PV.allS retP subT zds PV.one PV.ids PV.idsL zcc beq_eq zbw zbx
attribute [local simp] zW tup2
def hlE (s:List Wit)(n:Int):Int:=if zbh s=0 then (if hdS s (hasP n)=[] then 5 else 0) else zbh s
def gM (l:List (Int×Int))(n:Int):Int:=(getM l n).getD 0
@[local simp ↓ high] theorem vlk (vh:zab)(l:List (Int×Int))(n:Int):zbp prog vh 139 (.vmap (kvs (kvM l))) (.int .i64 n) false=some (.int .u32 (gM l n)):=by
 unfold zbp gM
 rw[xan]
 simp only[zdk,zg5]
 cases getM l n with
 |none=>simp
 |some v=>simp
def ccB (s:List Wit)(A B x1 x2 x3:Int):Bool:=!decide (A=B)&&(hdB s (hasP A) x1&&(hdB s (hasP B) x1&&(hdB s (hasP A) x2&&(!hdB s (hasP B) x2&&(!hdB s (hasP A) x3&&hdB s (hasP B) x3)))))
def ccR (s:List Wit)(A B x1 x2 x3:Int):Int:=if zbh s=0 then (if ccB s A B x1 x2 x3=true then 0 else 8) else zbh s
theorem zwa (s:List Wit)(h:zbh s=0)(p:Wit→Bool)(x:Int):zat prog 115 [.vmap (mp (setK [hdS s p])),.int .i64 x] fun r=>r=.bool (hdB s p x):=by
 have:=p115 (setK [hdS s p]) x
 rw[show decide (x∈setK [hdS s p])=hdB s p x by rw[Bool.eq_iff_iff,decide_eq_true_eq,zyl,zxm h]] at this
 exact this
theorem p53 (s:List Wit)(A B x1 x2 x3:Int)(hl:s.length<4294967296):zat prog 53 [encS s,.agg [.int .i64 A,.int .i64 B,.int .i64 x1,.int .i64 x2,.int .i64 x3]] fun r=>r=.int .i64 (ccR s A B x1 x2 x3):=by
 refine .zah func53 rfl rfl ?_
 refine .sr ?_
 refine .seq (.seq ?_)
 refine .zac [0,1,2] rfl zz0 ?_
 refine .rn [0] _ ?_
 refine .pc rfl rfl rfl rfl rfl call35 (p35 s hl) ?_
 refine .rn [2] [] ?_
 refine .done (.sr ?_)
 refine .cs ?_ ?_<;>intro c13
 ·try simp at c13
  refine .sr ?_
  refine .ret ?_
  refine⟨_,_,zz4,zz4,?_⟩
  unfold ccR;rw[if_neg c13]
 try simp at c13
 have hl24:=(zch c13).1
 have hil:=zhh s
 have qA:=p98' (vM s A) (idsS s) (by omega)
 have qB:=p98' (vM s B) (idsS s) (by omega)
 rw[z7k c13] at qA qB
 have hlA:=zxf s (hasP A)
 have hlB:=zxf s (hasP B)
 have hR:ccR s A B x1 x2 x3=if ccB s A B x1 x2 x3=true then 0 else 8:=by unfold ccR;rw[if_pos c13]
 have hC:ccB s A B x1 x2 x3=(!decide (A=B)&&(hdB s (hasP A) x1&&(hdB s (hasP B) x1&&(hdB s (hasP A) x2&&(!hdB s (hasP B) x2&&(!hdB s (hasP A) x3&&hdB s (hasP B) x3)))))):=rfl
 have u1:=zwa s c13 (hasP A) x1
 have u2:=zwa s c13 (hasP B) x1
 have u3:=zwa s c13 (hasP A) x2
 have u4:=zwa s c13 (hasP B) x2
 have u5:=zwa s c13 (hasP A) x3
 have u6:=zwa s c13 (hasP B) x3
 generalize hdB s (hasP A) x1=b1 at u1 hC
 generalize hdB s (hasP B) x1=b2 at u2 hC
 generalize hdB s (hasP A) x2=b3 at u3 hC
 generalize hdB s (hasP B) x2=b4 at u4 hC
 generalize hdB s (hasP A) x3=b5 at u5 hC
 generalize hdB s (hasP B) x3=b6 at u6 hC
 refine .skip (.seq ?_)
 refine .drawn (ms:=[0,1,0,7,15,31]) (W:=[1,3]) (items:=[.op 0,.op 2,.op 1,.ck 2,.op 3,.op 4,.op 5]) rfl zz0 zz0 zz0 ?_
 iterate 2 refine .rx ?_
 refine .wp rfl rfl rfl rfl rfl call94 (p94 s c13) ?_
 refine .ck rfl zz0 ?_
 refine .wp rfl rfl rfl rfl rfl call99 (p99' s (by omega)) ?_
 iterate 2 refine .rx ?_
 refine .done (.seq ?_)
 refine .drawn (ms:=[0,0,2,7,0,31,63,127,0,0,512,1792,0,8191,16383,32767,65535,131071]) (W:=[5,6,7,13,14,15]) (items:=[.op 0,.op 1,.op 2,.op 3,.op 4,.op 8,.op 9,.op 10,.op 11,.op 12,.op 5,.ck 11,.ck 10,.op 6,.ck 11,.ck 10,.op 7,.ck 11,.ck 10,.op 13,.op 14,.op 15,.op 16,.op 17]) rfl zz0 zz0 zz0 ?_
 iterate 10 refine .rx ?_
 refine .wp rfl rfl rfl rfl rfl call98 (qA) ?_
 refine .ck rfl zz0 ?_
 refine .ck rfl zz0 ?_
 refine .wv ?_
 refine .ck rfl zz0 ?_
 refine .ck rfl zz0 ?_
 refine .wr rfl rfl (by decide) (.zr0 rfl rfl rfl call116 (by decide) (by first|(simp<;>rfl)|(simp[*]<;>rfl)|(simp[*];done)) (p116 [hdS s (hasP A)] (by simp) (by simp;omega)) ?_)
 rintro _ rfl
 refine .ck rfl zz0 ?_
 refine .ck rfl zz0 ?_
 refine .wp rfl rfl rfl rfl rfl call98 (qB) ?_
 refine .wv ?_
 refine .wr rfl rfl (by decide) (.take rfl rfl rfl call116 (by decide) (by first|(simp<;>rfl)|(simp[*]<;>rfl)|(simp[*];done)) (p116 [hdS s (hasP B)] (by simp) (by simp;omega)) ?_)
 rintro _ rfl
 iterate 2 refine .rx ?_
 refine .done (.seq (.seq ?_))
 refine .zac [0,1,2,3,4,5,6,7,8,9,10,11,12,13,14,15,16,17,18,19,20,21,22,23,24,25,26,27,28,29,30,31,32,33,34,35,36,37,38,39,40,41,42,43,44] rfl zz0 ?_
 refine .rn [0,1,2,3,4,5] _ ?_
 refine .split (t:=40) rfl (fun c40=>?_) (fun c40=>?_)
 ·try rw[c40]
  try simp at c40
  refine .rn [6,7,8,9,10,11,12,13,14,15,16,17,18,19,20,21,22,23,24,25,26,27,28,29,30,31,32,33,34,35,36,37,38,39,40,41,42,43,44] [] ?_
  refine .done (.zey rfl (.sr ?_))
  refine .ret ?_
  refine⟨_,_,zz4,zz4,?_⟩
  rw[hR,hC];simp_all
 try rw[c40]
 try simp at c40
 refine .rn [6,7,8] _ ?_
 refine .pc rfl rfl rfl rfl rfl call115 (u1) ?_
 refine .rn [10,11,12] _ ?_
 refine .split (t:=47) rfl (fun c47=>?_) (fun c47=>?_)
 ·try rw[c47]
  try simp at c47
  refine .rn [13,14,15,16,17,18,19,20,21,22,23,24,25,26,27,28,29,30,31,32,33,34,35,36,37,38,39,40,41,42,43,44] [] ?_
  refine .done (.zey rfl (.sr ?_))
  refine .ret ?_
  refine⟨_,_,zz4,zz4,?_⟩
  rw[hR,hC];simp_all
 try rw[c47]
 try simp at c47
 refine .rn [13,14,15] _ ?_
 refine .pc rfl rfl rfl rfl rfl call115 (u2) ?_
 refine .rn [17,18,19] _ ?_
 refine .split (t:=54) rfl (fun c54=>?_) (fun c54=>?_)
 ·try rw[c54]
  try simp at c54
  refine .rn [20,21,22,23,24,25,26,27,28,29,30,31,32,33,34,35,36,37,38,39,40,41,42,43,44] [] ?_
  refine .done (.zey rfl (.sr ?_))
  refine .ret ?_
  refine⟨_,_,zz4,zz4,?_⟩
  rw[hR,hC];simp_all
 try rw[c54]
 try simp at c54
 refine .rn [20,21,22] _ ?_
 refine .pc rfl rfl rfl rfl rfl call115 (u3) ?_
 refine .rn [24,25,26] _ ?_
 refine .split (t:=61) rfl (fun c61=>?_) (fun c61=>?_)
 ·try rw[c61]
  try simp at c61
  refine .rn [27,28,29,30,31,32,33,34,35,36,37,38,39,40,41,42,43,44] [] ?_
  refine .done (.zey rfl (.sr ?_))
  refine .ret ?_
  refine⟨_,_,zz4,zz4,?_⟩
  rw[hR,hC];simp_all
 try rw[c61]
 try simp at c61
 refine .rn [27,28,29] _ ?_
 refine .pc rfl rfl rfl rfl rfl call115 (u4) ?_
 refine .rn [31,32] _ ?_
 refine .split (t:=67) rfl (fun c67=>?_) (fun c67=>?_)
 ·try rw[c67]
  try simp at c67
  refine .rn [33,34,35,36,37,38,39,40,41,42,43,44] [] ?_
  refine .done (.zey rfl (.sr ?_))
  refine .ret ?_
  refine⟨_,_,zz4,zz4,?_⟩
  rw[hR,hC];simp_all
 try rw[c67]
 try simp at c67
 refine .rn [33,34,35] _ ?_
 refine .pc rfl rfl rfl rfl rfl call115 (u5) ?_
 refine .rn [37,38] _ ?_
 refine .split (t:=73) rfl (fun c73=>?_) (fun c73=>?_)
 ·try rw[c73]
  try simp at c73
  refine .rn [39,40,41,42,43,44] [] ?_
  refine .done (.zey rfl (.sr ?_))
  refine .ret ?_
  refine⟨_,_,zz4,zz4,?_⟩
  rw[hR,hC];simp_all
 try rw[c73]
 try simp at c73
 refine .rn [39,40,41] _ ?_
 refine .pc rfl rfl rfl rfl rfl call115 (u6) ?_
 refine .rn [43,44] [] ?_
 refine .done ?_
 refine .cs ?_ ?_<;>intro c79
 ·try simp at c79
  refine .sr ?_
  refine .ret ?_
  refine⟨_,_,zz4,zz4,?_⟩
  rw[hR,hC];simp_all
 try simp at c79
 refine .skip (.sr ?_)
 refine .ret ?_
 refine⟨_,_,zz4,zz4,?_⟩
 rw[hR,hC];simp_all
end Go.Am.Ds
end
