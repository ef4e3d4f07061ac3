/-
 What is used in the proof of a statement (part DsG); no condition.
-/
import Derived.Test.YtnablaecbohhmaaGreatDsZ
import Derived.Test.YtnablaecbohhmaaGreatVm2
import Derived.Test.YtnablaecbohhmaaGreatDsT
import Derived.Test.YtnablaecbohhmaaGreatDsB
import Derived.Test.YtnablaecbohhmaaGreatDsF
set_option linter.all false
set_option maxHeartbeats 40000000
set_option maxRecDepth 100000
section
namespace Go.Am.Ds
def com (a b:List Int):List Int:=a.filter fun n=>decide (n∈b)
theorem zsy {a b:List Int}{n:Int}:n∈com a b↔n∈a∧n∈b:=by simp[com]
def addL (f:List (List Int))(l:List Int):List (List Int):=if l∈f then f else f++[l]
theorem zpp {f:List (List Int)}{l x:List Int}:x∈addL f l↔x∈f∨x=l:=by
 unfold addL;split
 ·rename_i h;exact⟨.inl,fun|.inl h=>h|.inr h'=>h'▸h⟩
 simp
theorem zok {f:List (List Int)}{l:List Int}(h:f.Nodup):(addL f l).Nodup:=by
 unfold addL;split
 ·exact h
 rename_i hn
 rw[List.nodup_append]
 refine⟨h,by simp,fun a ha b hb=>?_⟩
 rintro rfl;simp at hb;exact hn (hb▸ha)
def stepT (C:List (List Int))(f:List (List Int))(k:Nat):List (List Int):=
 (C.take k).foldl (fun f d=>addL f (com (C.getD k []) d)) (addL f (C.getD k []))
def zef (C:List (List Int)):Nat→List (List Int)
 |0=>[[]]
 |k+1=>stepT C (zef C k) k
theorem zjr {c x:List Int}:∀ {l:List (List Int)} {f:List (List Int)},x∈l.foldl (fun f d=>addL f (com c d)) f↔x∈f∨∃d∈l,x=com c d
 |[],f=>by simp
 |d::l,f=>by
  rw[List.foldl_cons,zjr,zpp]
  constructor
  ·rintro ((h|h)|⟨e,he,h⟩)
   ·exact .inl h
   ·exact .inr ⟨d,List.mem_cons_self,h⟩
   exact .inr ⟨e,List.mem_cons_of_mem _ he,h⟩
  rintro (h|⟨e,he,h⟩)
  ·exact .inl (.inl h)
  rcases List.mem_cons.1 he with rfl|he
  ·exact .inl (.inr h)
  exact .inr ⟨e,he,h⟩
theorem zmd {c:List Int}:∀ {l:List (List Int)} {f:List (List Int)},f.Nodup→(l.foldl (fun f d=>addL f (com c d)) f).Nodup
 |[],_,h=>h
 |d::l,f,h=>by rw[List.foldl_cons];exact zmd (zok h)
theorem zni (C:List (List Int)):∀k,(zef C k).Nodup
 |0=>by simp[zef]
 |k+1=>zmd (zok (zni C k))
theorem zfo (C:List (List Int)){x:List Int}:∀ {k:Nat},k≤C.length→(x∈zef C k↔x=[]∨∃i,i<k∧(x=C.getD i []∨∃j,j<i∧x=com (C.getD i []) (C.getD j [])))
 |0,_=>by simp[zef]
 |k+1,hk=>by
  have ih:=@zfo C x k (by omega)
  rw[zef,stepT,zjr,zpp,ih]
  constructor
  ·rintro (((h|⟨i,hi,h⟩)|h)|⟨d,hd,h⟩)
   ·exact .inl h
   ·exact .inr ⟨i,by omega,h⟩
   ·exact .inr ⟨k,by omega,.inl h⟩
   obtain⟨j,hj,e⟩:=List.mem_iff_getElem.1 hd
   rw[List.length_take] at hj
   refine .inr ⟨k,by omega,.inr ⟨j,by omega,?_⟩⟩
   rw[List.getElem_take] at e
   rw[h,← e,List.getD_eq_getElem?_getD,List.getD_eq_getElem?_getD,List.getElem?_eq_getElem (show j<C.length by omega)];rfl
  rintro (h|⟨i,hi,h⟩)
  ·exact .inl (.inl (.inl h))
  by_cases e:i=k
  ·subst e
   rcases h with h|⟨j,hj,h⟩
   ·exact .inl (.inr h)
   refine .inr ⟨C.getD j [],?_,h⟩
   rw[List.getD_eq_getElem?_getD,List.getElem?_eq_getElem (show j<C.length by omega)]
   exact List.mem_iff_getElem.2 ⟨j,by rw[List.length_take];omega,by simp[List.getElem_take]⟩
  exact .inl (.inl (.inr ⟨i,by omega,h⟩))
def crXL (C:List (List Int))(a b:Int):Prop:=(∃w∈C,a∈w∧b∈w)∧(∃w∈C,a∈w∧b∉w)∧∃w∈C,b∈w∧a∉w
def Fam (C:List (List Int))(x:List Int):Prop:=x=[]∨∃c∈C,∃d∈C,∀n,n∈x↔n∈c∧n∈d
theorem zww {C:List (List Int)}{x:List Int}(h:Fam C x){a:Int}(ha:a∈x){b:Int}(hb:b∉x):∃w∈C,a∈w∧b∉w:=by
 rcases h with rfl|⟨c,hc,d,hd,e⟩
 ·simp at ha
 by_cases h1:b∈c
 ·exact⟨d,hd,((e a).1 ha).2,fun h2=>hb ((e b).2 ⟨h1,h2⟩)⟩
 exact⟨c,hc,((e a).1 ha).1,h1⟩
theorem zpo {C:List (List Int)}{x:List Int}(h:Fam C x):x=[]∨∃c∈C,∀n∈x,n∈c:=by
 rcases h with h|⟨c,hc,d,hd,e⟩
 ·exact .inl h
 exact .inr ⟨c,hc,fun n hn=>((e n).1 hn).1⟩
theorem zjp {C:List (List Int)}(hC:∀a b,¬crXL C a b){c x y:List Int}(hc:c∈C)(hx:Fam C x)(hy:Fam C y)(sx:∀n∈x,n∈c)(sy:∀n∈y,n∈c):(∀n∈x,n∈y)∨∀n∈y,n∈x:=by
 by_cases h:∀n∈x,n∈y
 ·exact .inl h
 refine .inr fun b hb=>Decidable.by_contra fun hbx=>?_
 simp only[Classical.not_forall] at h
 obtain⟨a,ha,hay⟩:=h
 exact hC a b ⟨⟨c,hc,sx a ha,sy b hb⟩,zww hx ha hbx,zww hy hb hay⟩
structure Row (C F:List (List Int)):Prop where
  mem:∀x∈F,Fam C x
  all:∀c∈C,∀d∈C,∃x∈F,∀n,n∈x↔n∈c∧n∈d
  nil:F[0]?=some []
  len:∀(i j:Nat) (x y:List Int),i≤j→F[i]?=some x→F[j]?=some y→x.length≤y.length
  nod:∀x∈F,x.Nodup
  one:∀(i j:Nat) (x y:List Int),F[i]?=some x→F[j]?=some y→(∀n,n∈x↔n∈y)→i=j
def Up (F:List (List Int))(j k:Nat):Prop:=j<k∧∃x y,F[j]?=some x∧F[k]?=some y∧(∀n∈x,n∈y)∧∀i z,F[i]?=some z→i≠k→(∀n∈z,n∈y)→∀n∈z,n∈x
theorem sub_eq {x y:List Int}(hx:x.Nodup)(h:∀n∈x,n∈y)(hl:y.length≤x.length):∀n∈y,n∈x:=by
 intro n hn
 refine Decidable.by_contra fun hnx=>?_
 have:(n::x).Nodup:=List.nodup_cons.2 ⟨hnx,hx⟩
 have:=this.length_le_of_subset (l₂:=y) (fun m hm=>by
  rcases List.mem_cons.1 hm with rfl|hm
  ·exact hn
  exact h m hm)
 rw[List.length_cons] at this;omega
theorem zye {C F:List (List Int)}(R:Row C F){i k:Nat}{z y:List Int}(hi:F[i]?=some z)(hk:F[k]?=some y)(hik:i≠k)(h:∀n∈z,n∈y):i<k:=by
 refine Decidable.by_contra fun hn=>hik (R.one i k z y hi hk fun n=>⟨h n,?_⟩)
 have hl:=R.len k i y z (by omega) hk hi
 exact sub_eq (R.nod z (List.mem_of_getElem? hi)) h hl n
theorem zxv {C F:List (List Int)}(hC:∀a b,¬crXL C a b)(R:Row C F){j k:Nat}{x y:List Int}(hjk:j<k)(hj:F[j]?=some x)(hk:F[k]?=some y)(hs:∀n∈x,n∈y)(hl:∀i z,j<i→i<k→F[i]?=some z→¬∀n∈z,n∈y):Up F j k:=by
 refine⟨hjk,x,y,hj,hk,hs,fun i z hi hik hz=>?_⟩
 have h1:=zye R hi hk hik hz
 have h2:i≤j:=Decidable.by_contra fun h=>hl i z (by omega) h1 hi hz
 rcases zpo (R.mem y (List.mem_of_getElem? hk)) with rfl|⟨c,hc,sc⟩
 ·intro n hn;exact absurd (hz n hn) (by simp)
 rcases zjp hC hc (R.mem z (List.mem_of_getElem? hi)) (R.mem x (List.mem_of_getElem? hj)) (fun n hn=>sc n (hz n hn)) (fun n hn=>sc n (hs n hn)) with h|h
 ·exact h
 exact sub_eq (R.nod x (List.mem_of_getElem? hj)) h (R.len i j z x h2 hi hj)
theorem zzl {C F:List (List Int)}(hC:∀a b,¬crXL C a b)(R:Row C F){k:Nat}(h0:0<k)(hk:k<F.length):∃j,Up F j k:=by
 obtain⟨y,hy⟩:∃y,F[k]?=some y:=⟨F[k],List.getElem?_eq_getElem hk⟩
 have:∀m,m<k→(∃j x,j≤m∧F[j]?=some x∧(∀n∈x,n∈y)∧∀i z,j<i→i≤m→F[i]?=some z→¬∀n∈z,n∈y):=by
  intro m
  induction m with
  |zero=>intro _;exact⟨0,[],Nat.le_refl _,R.nil,by simp,fun i z h1 h2=>by omega⟩
  |succ m ih=>
   intro hm
   obtain⟨z,hz⟩:∃z,F[m+1]?=some z:=⟨F[m+1],List.getElem?_eq_getElem (by omega)⟩
   by_cases h:∀n∈z,n∈y
   ·exact⟨m+1,z,Nat.le_refl _,hz,h,fun i z h1 h2=>by omega⟩
   obtain⟨j,x,h1,h2,h3,h4⟩:=ih (by omega)
   refine⟨j,x,by omega,h2,h3,fun i z' h5 h6 h7=>?_⟩
   by_cases e:i=m+1
   ·subst e;rw[hz] at h7;cases h7;exact h
   exact h4 i z' h5 (by omega) h7
 obtain⟨j,x,h1,h2,h3,h4⟩:=this (k - 1) (by omega)
 exact⟨j,zxv hC R (by omega) h2 hy h3 fun i z a b c=>h4 i z a (by omega) c⟩
theorem z2a {C F:List (List Int)}(R:Row C F){i j k:Nat}(h1:Up F i k)(h2:Up F j k):i=j:=by
 obtain⟨a1,x,y,b1,c1,d1,e1⟩:=h1
 obtain⟨a2,x',y',b2,c2,d2,e2⟩:=h2
 rw[c1] at c2;cases c2
 exact R.one i j x x' b1 b2 fun n=>⟨e2 i x b1 (by omega) d1 n,e1 j x' b2 (by omega) d2 n⟩
theorem zwv {C F:List (List Int)}(hC:∀a b,¬crXL C a b)(R:Row C F){a:Int}{j k j' k':Nat}{x y x' y':List Int}(h:Up F j k)(h':Up F j' k')(hj:F[j]?=some x)(hk:F[k]?=some y)(hj':F[j']?=some x')(hk':F[k']?=some y')(ay:a∈y)(ax:a∉x)(ay':a∈y')(ax':a∉x'):k=k':=by
 obtain⟨_,_,_,e1,e2,s1,g1⟩:=h;rw[hj] at e1;rw[hk] at e2;cases e1;cases e2
 obtain⟨_,_,_,e1,e2,s2,g2⟩:=h';rw[hj'] at e1;rw[hk'] at e2;cases e1;cases e2
 rcases zpo (R.mem y (List.mem_of_getElem? hk)) with rfl|⟨c,hc,sc⟩
 ·simp at ay
 rcases zpo (R.mem y' (List.mem_of_getElem? hk')) with rfl|⟨d,hd,sd⟩
 ·simp at ay'
 obtain⟨z,hz,ez⟩:=R.all c hc d hd
 obtain⟨i,hi⟩:=List.getElem?_of_mem hz
 have az:a∈z:=(ez a).2 ⟨sc a ay,sd a ay'⟩
 have key:∀ {j k:Nat} {x y c:List Int},c∈C→F[k]?=some y→(∀n∈y,n∈c)→a∈y→a∉x→(∀i z,F[i]?=some z→i≠k→(∀n∈z,n∈y)→∀n∈z,n∈x)→(∀n∈z,n∈c)→∀n∈y,n∈z:=by
  intro j k x y c hc hk sc ay ax g hzc
  rcases zjp hC hc (R.mem y (List.mem_of_getElem? hk)) (R.mem z hz) sc hzc with h|h
  ·exact h
  by_cases e:i=k
  ·subst e;rw[hi] at hk;cases hk;exact fun n hn=>hn
  exact absurd (g i z hi e h a az) ax
 have k1:=key (j:=j) hc hk sc ay ax g1 (fun n hn=>((ez n).1 hn).1)
 have k2:=key (j:=j') hd hk' sd ay' ax' g2 (fun n hn=>((ez n).1 hn).2)
 rcases zjp hC hc (R.mem y (List.mem_of_getElem? hk)) (R.mem y' (List.mem_of_getElem? hk')) sc (fun n hn=>((ez n).1 (k2 n hn)).1) with h|h
 ·exact Decidable.by_contra fun e=>ax' (g2 k y hk e h a ay)
 exact Decidable.by_contra fun e=>ax (g1 k' y' hk' (fun e'=>e e'.symm) h a ay')
theorem zl9 {F:List (List Int)}{p:List Int→Prop}:∀m:Nat,(∃(i:Nat) (z:List Int),i≤m∧F[i]?=some z∧p z)→∃(i:Nat) (z:List Int),F[i]?=some z∧p z∧∀(j:Nat) (w:List Int),F[j]?=some w→p w→i≤j
 |0,⟨i,z,h,e,hp⟩=>by
  obtain rfl:i=0:=by omega
  exact⟨0,z,e,hp,fun j w _ _=>Nat.zero_le j⟩
 |m+1,⟨i,z,h,e,hp⟩=>by
  by_cases q:∃(i:Nat) (z:List Int),i≤m∧F[i]?=some z∧p z
  ·exact zl9 m q
  refine⟨i,z,e,hp,fun j w hj hw=>Decidable.by_contra fun hn=>q ⟨j,w,by omega,hj,hw⟩⟩
theorem child {C F:List (List Int)}(hC:∀a b,¬crXL C a b)(R:Row C F){k:Nat}{y c:List Int}(hk:F[k]?=some y)(hc:c∈C)(hs:∀n∈y,n∈c)(hne:¬∀n,n∈y↔n∈c):∃i z,Up F k i∧F[i]?=some z∧∀n∈z,n∈c:=by
 obtain⟨x,hx,ex⟩:=R.all c hc c hc
 obtain⟨m,hm⟩:=List.getElem?_of_mem hx
 have hmk:m≠k:=by
  rintro rfl
  rw[hk] at hm;cases hm
  exact hne fun n=>by rw[ex n];exact⟨fun h=>h.1,fun h=>⟨h,h⟩⟩
 obtain⟨i,z,hi,⟨h1,h2,h3⟩,hmin⟩:=zl9 (F:=F) (p:=fun z=>(∀n∈z,n∈c)∧(∀n∈y,n∈z)∧¬∀n,n∈y↔n∈z) m
  ⟨m,x,Nat.le_refl _,hm,fun n hn=>((ex n).1 hn).1,fun n hn=>(ex n).2 ⟨hs n hn,hs n hn⟩,fun h=>hmk (R.one m k x y hm hk fun n=>(h n).symm)⟩
 have hki:k≠i:=by rintro rfl;rw[hk] at hi;cases hi;exact h3 fun n=>Iff.rfl
 refine⟨i,z,⟨zye R hk hi hki h2,y,z,hk,hi,h2,fun i' z' hi' hne' hz'=>?_⟩,hi,h1⟩
 rcases zjp hC hc (R.mem z' (List.mem_of_getElem? hi')) (R.mem y (List.mem_of_getElem? hk)) (fun n hn=>h1 n (hz' n hn)) hs with h|h
 ·exact h
 by_cases e:i'=k
 ·subst e;rw[hk] at hi';cases hi';exact fun n hn=>hn
 have h4:=hmin i' z' hi' ⟨fun n hn=>h1 n (hz' n hn),h,fun h5=>e (R.one i' k z' y hi' hk fun n=>(h5 n).symm)⟩
 have h6:=zye R hi' hi hne' hz'
 omega
theorem zwg {C F:List (List Int)}(hC:∀a b,¬crXL C a b)(R:Row C F){k:Nat}{y:List Int}(hk:F[k]?=some y)(h0:k≠0)(hn:∀c∈C,¬∀n,n∈y↔n∈c):∃i j,i≠j∧Up F k i∧Up F k j:=by
 rcases R.mem y (List.mem_of_getElem? hk) with rfl|⟨c,hc,d,hd,e⟩
 ·exact absurd (R.one k 0 [] [] hk R.nil fun n=>Iff.rfl) h0
 obtain⟨i,z,h1,h2,h3⟩:=child hC R hk hc (fun n h=>((e n).1 h).1) (hn c hc)
 obtain⟨j,w,g1,g2,g3⟩:=child hC R hk hd (fun n h=>((e n).1 h).2) (hn d hd)
 refine⟨i,j,?_,h1,g1⟩
 rintro rfl
 rw[h2] at g2;cases g2
 obtain⟨hlt,y',z',e1,e2,s,_⟩:=h1
 rw[hk] at e1;rw[h2] at e2;cases e1;cases e2
 have:=R.one k i y z hk h2 fun n=>⟨s n,fun hz=>(e n).2 ⟨h3 n hz,g3 n hz⟩⟩
 omega
theorem zve {C F:List (List Int)}(hC:∀a b,¬crXL C a b)(R:Row C F){a:Int}{c:List Int}(hc:c∈C)(ha:a∈c):∃j k x y,Up F j k∧F[j]?=some x∧F[k]?=some y∧a∈y∧a∉x:=by
 obtain⟨x,hx,ex⟩:=R.all c hc c hc
 obtain⟨m,hm⟩:=List.getElem?_of_mem hx
 obtain⟨k,y,hk,⟨h1,h2⟩,hmin⟩:=zl9 (F:=F) (p:=fun z=>a∈z∧∀n∈z,n∈c) m ⟨m,x,Nat.le_refl _,hm,(ex a).2 ⟨ha,ha⟩,fun n hn=>((ex n).1 hn).1⟩
 have h0:0<k:=Nat.pos_of_ne_zero fun h=>by subst h;rw[R.nil] at hk;cases hk;simp at h1
 obtain⟨j,hj⟩:=zzl hC R h0 (List.getElem?_eq_some_iff.1 hk).1
 obtain⟨hlt,x',y',e1,e2,s,g⟩:=id hj
 rw[hk] at e2;cases e2
 refine⟨j,k,x',y,hj,e1,hk,h1,fun hx'=>?_⟩
 have:=hmin j x' e1 ⟨hx',fun n hn=>h2 n (s n hn)⟩
 omega
theorem znr:∀ {x y:List Int},x.Pairwise (·<·)→y.Pairwise (·<·)→(∀n,n∈x↔n∈y)→x=y
 |[],[],_,_,_=>rfl
 |[],b::y,_,_,h=>absurd ((h b).2 List.mem_cons_self) (by simp)
 |a::x,[],_,_,h=>absurd ((h a).1 List.mem_cons_self) (by simp)
 |a::x,b::y,hx,hy,h=>by
  obtain⟨h1,h2⟩:=List.pairwise_cons.1 hx
  obtain⟨g1,g2⟩:=List.pairwise_cons.1 hy
  have e:a=b:=by
   rcases List.mem_cons.1 ((h a).1 List.mem_cons_self) with e|e
   ·exact e
   rcases List.mem_cons.1 ((h b).2 List.mem_cons_self) with e'|e'
   ·exact e'.symm
   have:=g1 a e;have:=h1 b e';omega
  subst e
  congr 1
  refine znr h2 g2 fun n=>⟨fun hn=>?_,fun hn=>?_⟩
  ·rcases List.mem_cons.1 ((h n).1 (List.mem_cons_of_mem _ hn)) with e|e
   ·have:=h1 n hn;omega
   exact e
  rcases List.mem_cons.1 ((h n).2 (List.mem_cons_of_mem _ hn)) with e|e
  ·have:=g1 n hn;omega
  exact e
theorem zoa {C:List (List Int)}(hr:∀c∈C,c.Pairwise (·<·)){x:List Int}(h:x∈zef C C.length):x.Pairwise (·<·):=by
 have hg:∀i,(C.getD i []).Pairwise (·<·):=by
  intro i
  rw[List.getD_eq_getElem?_getD]
  cases e:C[i]? with
  |none=>simp
  |some c=>exact hr c (List.mem_of_getElem? e)
 rcases (zfo C (Nat.le_refl _)).1 h with rfl|⟨i,_,rfl|⟨j,_,rfl⟩⟩
 ·simp
 ·exact hg i
 exact(hg i).filter _
theorem zv4 {C F:List (List Int)}(hr:∀c∈C,c.Pairwise (·<·))(hp:F.Perm (zef C C.length))(hs:F.Pairwise fun a b=>a.length≤b.length):Row C F:=by
 have gd:∀ {i:Nat} (h:i<C.length),C.getD i []=C[i]:=fun h=>by rw[List.getD_eq_getElem?_getD,List.getElem?_eq_getElem h];rfl
 have rise:∀x∈F,x.Pairwise (·<·):=fun x hx=>zoa hr (hp.mem_iff.1 hx)
 have nd:F.Nodup:=hp.nodup_iff.2 (zni C _)
 have len:∀(i j:Nat) (x y:List Int),i≤j→F[i]?=some x→F[j]?=some y→x.length≤y.length:=by
  intro i j x y hij hi hj
  rcases Nat.lt_or_eq_of_le hij with h|h
  ·obtain⟨a,rfl⟩:=List.getElem?_eq_some_iff.1 hi
   obtain⟨b,rfl⟩:=List.getElem?_eq_some_iff.1 hj
   exact List.pairwise_iff_getElem.1 hs i j a b h
  subst h;rw[hi] at hj;cases hj;exact Nat.le_refl _
 refine⟨fun x hx=>?_,fun c hc d hd=>?_,?_,len,fun x hx=>(rise x hx).imp (fun h=>by omega),fun i j x y hi hj h=>?_⟩
 ·rcases (zfo C (Nat.le_refl _)).1 (hp.mem_iff.1 hx) with rfl|⟨i,hi,rfl|⟨j,hj,rfl⟩⟩
  ·exact .inl rfl
  ·exact .inr ⟨C[i],List.getElem_mem hi,C[i],List.getElem_mem hi,fun n=>by rw[gd hi];exact⟨fun h=>⟨h,h⟩,fun h=>h.1⟩⟩
  exact .inr ⟨C[i],List.getElem_mem hi,C[j],List.getElem_mem (by omega),fun n=>by rw[gd hi,gd (show j<C.length by omega)];exact zsy⟩
 ·obtain⟨i,hi,rfl⟩:=List.mem_iff_getElem.1 hc
  obtain⟨j,hj,rfl⟩:=List.mem_iff_getElem.1 hd
  rcases Nat.lt_trichotomy i j with h|h|h
  ·exact⟨com C[j] C[i],hp.mem_iff.2 ((zfo C (Nat.le_refl _)).2 (.inr ⟨j,hj,.inr ⟨i,h,by rw[gd hi,gd hj]⟩⟩)),fun n=>by rw[zsy];exact And.comm⟩
  ·subst h
   exact⟨C[i],hp.mem_iff.2 ((zfo C (Nat.le_refl _)).2 (.inr ⟨i,hi,.inl (gd hi).symm⟩)),fun n=>⟨fun h=>⟨h,h⟩,fun h=>h.1⟩⟩
  exact⟨com C[i] C[j],hp.mem_iff.2 ((zfo C (Nat.le_refl _)).2 (.inr ⟨i,hi,.inr ⟨j,h,by rw[gd hi,gd hj]⟩⟩)),fun n=>zsy⟩
 ·have h0:[]∈F:=hp.mem_iff.2 ((zfo C (Nat.le_refl _)).2 (.inl rfl))
  obtain⟨i,hi⟩:=List.getElem?_of_mem h0
  have hl:=(List.getElem?_eq_some_iff.1 hi).1
  have:=len 0 i F[0] [] (Nat.zero_le _) (List.getElem?_eq_getElem (by omega)) hi
  rw[List.getElem?_eq_getElem (show 0<F.length by omega),List.length_eq_zero_iff.1 (Nat.le_zero.1 this)]
 have e:=znr (rise x (List.mem_of_getElem? hi)) (rise y (List.mem_of_getElem? hj)) h
 subst e
 obtain⟨a,e1⟩:=List.getElem?_eq_some_iff.1 hi
 obtain⟨b,e2⟩:=List.getElem?_eq_some_iff.1 hj
 exact(List.getElem_inj nd).1 (e1.trans e2.symm)
end Go.Am.Ds
end
section
namespace Go.Am.Ds
structure znp (N:Nat) (S:Nat→List Int) (A:Nat→Nat):Prop where
  pos:0<N
  nil:S 0=[]
  up:∀k,0<k→k<N→A k<k
  sub:∀k,0<k→k<N→∀n∈S (A k),n∈S k
  lt:∀k,0<k→k<N→∃b,b∈S k∧b∉S (A k)
  one:∀a k m,0<k→k<N→0<m→m<N→a∈S k→a∉S (A k)→a∈S m→a∉S (A m)→k=m
inductive Anc (A:Nat→Nat):Nat→Nat→Prop
 |refl (k:Nat):Anc A k k
 |step {r k:Nat}:0<k→Anc A r (A k)→Anc A r k
variable {N:Nat} {S:Nat→List Int} {A:Nat→Nat}
theorem ziz (T:znp N S A){r k:Nat}(h:Anc A r k):k<N→r≤k:=by
 induction h with
 |refl=>exact fun _=>Nat.le_refl _
 |step h0 _ ih=>intro hk;have:=T.up _ h0 hk;have:=ih (by omega);omega
theorem zg9 (T:znp N S A){r k:Nat}(h:Anc A r k):k<N→∀n∈S r,n∈S k:=by
 induction h with
 |refl=>exact fun _ n hn=>hn
 |step h0 _ ih=>intro hk n hn;have:=T.up _ h0 hk;exact T.sub _ h0 hk n (ih (by omega) n hn)
theorem zg1 {q r k:Nat}(h:Anc A r k)(h':Anc A q r):Anc A q k:=by
 induction h with
 |refl=>exact h'
 |step h0 _ ih=>exact .step h0 ih
theorem zmv (T:znp N S A):∀(k:Nat),k<N→∀ {r q:Nat},Anc A r k→Anc A q k→r≤q→Anc A r q:=by
 intro k
 induction k using Nat.strongRecOn with
 |_ k ih=>
  intro hk r q hr hq hrq
  cases hq with
  |refl=>exact hr
  |step h0 hq=>
   have hA:=T.up _ h0 hk
   have:=ziz T hq (by omega)
   cases hr with
   |refl=>omega
   |step _ hr=>exact ih _ hA (by omega) hr hq hrq
theorem zj9 (T:znp N S A){a:Int}:∀(k:Nat),k<N→a∈S k→∃r,0<r∧Anc A r k∧a∈S r∧a∉S (A r):=by
 intro k
 induction k using Nat.strongRecOn with
 |_ k ih=>
  intro hk ha
  have h0:0<k:=Nat.pos_of_ne_zero fun h=>by subst h;rw[T.nil] at ha;simp at ha
  by_cases h:a∈S (A k)
  ·have hA:=T.up _ h0 hk
   obtain⟨r,h1,h2,h3⟩:=ih _ hA (by omega) h
   exact⟨r,h1,.step h0 h2,h3⟩
  exact⟨k,h0,.refl k,ha,h⟩
theorem zhq (T:znp N S A){a:Int}{r k:Nat}(h0:0<r)(hr:r<N)(h1:a∈S r)(h2:a∉S (A r))(hk:k<N)(ha:a∈S k):Anc A r k:=by
 obtain⟨q,g0,g1,g2,g3⟩:=zj9 T k hk ha
 have:=ziz T g1 hk
 rw[T.one a r q h0 hr g0 (by omega) h1 h2 g2 g3];exact g1
theorem dist (T:znp N S A){k m:Nat}(hk:k<N)(hm:m<N)(h:∀n,n∈S k↔n∈S m):k=m:=by
 have key:∀ {k m:Nat},k<N→m<N→(∀n,n∈S k↔n∈S m)→k≤m:=by
  intro k m hk hm h
  rcases Nat.eq_zero_or_pos k with h0|h0
  ·omega
  obtain⟨b,h1,h2⟩:=T.lt k h0 hk
  exact ziz T (zhq T h0 hk h1 h2 hm ((h b).1 h1)) hm
 exact Nat.le_antisymm (key hk hm h) (key hm hk fun n=>(h n).symm)
structure zq0 (N:Nat) (S:Nat→List Int) (A:Nat→Nat) (C:List (List Int)):Prop where
  stand:∀c∈C,∃k,k<N∧∀n,n∈S k↔n∈c
  full:∀k,0<k→k<N→(∃c∈C,∀n,n∈S k↔n∈c)∨∃i j,i≠j∧i<N∧j<N∧0<i∧0<j∧A i=k∧A j=k
variable {C:List (List Int)}
theorem leads (T:znp N S A)(P:zq0 N S A C):∀(d k:Nat),N - k=d→0<k→k<N→∃c∈C,∃m,m<N∧Anc A k m∧∀n,n∈S m↔n∈c:=by
 intro d
 induction d using Nat.strongRecOn with
 |_ d ih=>
  intro k hd h0 hk
  rcases P.full k h0 hk with⟨c,hc,h⟩|⟨i,j,hij,hi,hj,i0,j0,e,_⟩
  ·exact⟨c,hc,k,hk,.refl k,h⟩
  have:=T.up i i0 hi
  obtain⟨c,hc,m,hm,h1,h2⟩:=ih (N - i) (by omega) i rfl i0 hi
  exact⟨c,hc,m,hm,zg1 h1 (.step i0 (e▸.refl _)),h2⟩
theorem share (T:znp N S A)(P:zq0 N S A C){c d:List Int}(hc:c∈C)(hd:d∈C):∃k,k<N∧∀n,n∈S k↔n∈c∧n∈d:=by
 obtain⟨p,hp,ep⟩:=P.stand c hc
 obtain⟨q,hq,eq⟩:=P.stand d hd
 have:∀m,∃k,k<N∧Anc A k p∧Anc A k q∧∀r,r≤m→Anc A r p→Anc A r q→r≤k:=by
  intro m
  have zero:∀k,k<N→Anc A 0 k:=by
   intro k
   induction k using Nat.strongRecOn with
   |_ k ih=>
    intro hk
    rcases Nat.eq_zero_or_pos k with rfl|h0
    ·exact .refl 0
    have:=T.up k h0 hk;exact .step h0 (ih _ this (by omega))
  induction m with
  |zero=>exact⟨0,T.pos,zero p hp,zero q hq,fun r h _ _=>h⟩
  |succ m ih=>
   obtain⟨k,h1,h2,h3,h4⟩:=ih
   by_cases h:Anc A (m+1) p∧Anc A (m+1) q∧k≤m+1
   ·exact⟨m+1,by have:=ziz T h.1 hp;omega,h.1,h.2.1,fun r hr _ _=>hr⟩
   refine⟨k,h1,h2,h3,fun r hr g1 g2=>?_⟩
   by_cases e:r=m+1
   ·subst e;exact Decidable.by_contra fun hn=>h ⟨g1,g2,by omega⟩
   exact h4 r (by omega) g1 g2
 obtain⟨k,hk,h1,h2,h3⟩:=this N
 refine⟨k,hk,fun n=>⟨fun hn=>⟨(ep n).1 (zg9 T h1 hp n hn),(eq n).1 (zg9 T h2 hq n hn)⟩,fun⟨a1,a2⟩=>?_⟩⟩
 obtain⟨r,r0,r1,r2,r3⟩:=zj9 T p hp ((ep n).2 a1)
 have hr:=ziz T r1 hp
 have r4:=zhq T r0 (by omega) r2 r3 hq ((eq n).2 a2)
 have r5:=h3 r (by omega) r1 r4
 exact zg9 T (zmv T p hp r1 h1 r5) hk n r2
theorem z6y (T:znp N S A)(P:zq0 N S A C){k:Nat}(h0:0<k)(hk:k<N):∃c∈C,∃d∈C,∀n,n∈S k↔n∈c∧n∈d:=by
 rcases P.full k h0 hk with⟨c,hc,h⟩|⟨i,j,hij,hi,hj,i0,j0,ei,ej⟩
 ·exact⟨c,hc,c,hc,fun n=>by rw[h n];exact⟨fun h=>⟨h,h⟩,fun h=>h.1⟩⟩
 have ui:=T.up i i0 hi
 have uj:=T.up j j0 hj
 obtain⟨c,hc,p,hp,ap,ep⟩:=leads T P _ i rfl i0 hi
 obtain⟨d,hd,q,hq,aq,eq⟩:=leads T P _ j rfl j0 hj
 have ki:Anc A k i:=.step i0 (ei▸.refl _)
 have kj:Anc A k j:=.step j0 (ej▸.refl _)
 refine⟨c,hc,d,hd,fun n=>⟨fun hn=>⟨(ep n).1 (zg9 T (zg1 ap ki) hp n hn),(eq n).1 (zg9 T (zg1 aq kj) hq n hn)⟩,fun⟨a1,a2⟩=>?_⟩⟩
 obtain⟨r,r0,r1,r2,r3⟩:=zj9 T p hp ((ep n).2 a1)
 have hr:=ziz T r1 hp
 have r4:=zhq T r0 (by omega) r2 r3 hq ((eq n).2 a2)
 have par:∀ {i r p:Nat},i<N→0<i→A i=k→p<N→Anc A r p→Anc A i p→r<i→Anc A r k:=by
  intro i r p hi i0 ei hp h1 h2 h3
  have h4:=zmv T p hp h1 h2 (by omega)
  cases h4 with
  |refl=>omega
  |step _ h=>rw[ei] at h;exact h
 by_cases h1:r<i
 ·exact zg9 T (par hi i0 ei hp r1 ap h1) hk n r2
 by_cases h2:r<j
 ·exact zg9 T (par hj j0 ej hq r4 aq h2) hk n r2
 · -- i lies above r, r above q, so i and j are both above q
  have h3:=zmv T p hp ap r1 (by omega)
  have h4:=zg1 r4 h3
  rcases Nat.lt_or_ge i j with h|h
  ·have:=ziz T (par hj j0 ej hq h4 aq h) hk;omega
  have:=ziz T (par hi i0 ei hq aq h4 (by omega)) hk;omega
theorem z1i (T:znp N S A)(P:zq0 N S A C)(a b:Int)(h:(∃w∈C,a∈w∧b∈w)∧(∃w∈C,a∈w∧b∉w)∧∃w∈C,b∈w∧a∉w):False:=by
 obtain⟨⟨c,hc,c1,c2⟩,⟨d,hd,d1,d2⟩,e,he,e1,e2⟩:=h
 obtain⟨p,hp,ep⟩:=P.stand c hc
 obtain⟨q,hq,eq⟩:=P.stand d hd
 obtain⟨o,ho,eo⟩:=P.stand e he
 obtain⟨r,r0,r1,r2,r3⟩:=zj9 T p hp ((ep a).2 c1)
 obtain⟨s,s0,s1,s2,s3⟩:=zj9 T p hp ((ep b).2 c2)
 have hr:=ziz T r1 hp
 have hs:=ziz T s1 hp
 have ro:=zhq T r0 (by omega) r2 r3 hq ((eq a).2 d1)
 have so:=zhq T s0 (by omega) s2 s3 ho ((eo b).2 e1)
 rcases Nat.le_total r s with h|h
 ·exact e2 ((eo a).1 (zg9 T (zg1 so (zmv T p hp r1 s1 h)) ho a r2))
 exact d2 ((eq b).1 (zg9 T (zg1 ro (zmv T p hp s1 r1 h)) hq b s2))
end Go.Am.Ds
end
section
namespace Go.Am.Ds
structure Br where
  above:Int
  slips:List Int
  cops:List Int
def arP (T:List Br)(n:Int)(k:Nat):Bool:=decide (0<k)&&((T.getD k ⟨0,[],[]⟩).slips.any (·==n))&&!((T.getD (T.getD k ⟨0,[],[]⟩).above.toNat ⟨0,[],[]⟩).slips.any (·==n))
def arN (T:List Br)(n:Int):Nat:=(List.range T.length).countP (arP T n)
def belN (T:List Br)(k:Nat):Nat:=T.countP fun b=>decide (b.above=(k:Int))
structure Both (T:List Br) (held:List Int):Prop where
  ne:T≠[]
  first:∀b,T[0]?=some b→b.above = -1∧b.slips=[]
  next:∀(k:Nat) (b:Br),0<k→T[k]?=some b→∃(j:Nat) (u:Br),j<k∧b.above=(j:Int)∧T[j]?=some u∧(∀n∈u.slips,n∈b.slips)∧u.slips.length<b.slips.length∧(b.cops=[]→2≤belN T k)
  rise:∀b∈T,b.slips.Pairwise (·<·)
  ar:∀n∈held,arN T n=1
def sOf (T:List Br)(k:Nat):List Int:=(T.getD k ⟨0,[],[]⟩).slips
def aOf (T:List Br)(k:Nat):Nat:=(T.getD k ⟨0,[],[]⟩).above.toNat
theorem getD_some {T:List Br}{k:Nat}{b:Br}(h:T[k]?=some b):T.getD k ⟨0,[],[]⟩=b:=by rw[List.getD_eq_getElem?_getD,h];rfl
theorem zhe {T:List Br}{k:Nat}(h:k<T.length):∃b,T[k]?=some b:=⟨T[k],List.getElem?_eq_getElem h⟩
theorem zon {α:Type}{p:α→Bool}:∀ {l:List α},2≤l.countP p→∃(i j:Nat) (a b:α),i<j∧l[i]?=some a∧l[j]?=some b∧p a=true∧p b=true
 |[],h=>by simp at h
 |x::l,h=>by
  by_cases hx:p x=true
  ·rw[List.countP_cons_of_pos hx] at h
   have:0<l.countP p:=by omega
   obtain⟨a,ha,hp⟩:=List.countP_pos_iff.1 this
   obtain⟨j,hj⟩:=List.getElem?_of_mem ha
   exact⟨0,j+1,x,a,by omega,rfl,by simpa using hj,hx,hp⟩
  rw[List.countP_cons_of_neg hx] at h
  obtain⟨i,j,a,b,h1,h2,h3,h4⟩:=zon h
  exact⟨i+1,j+1,a,b,by omega,by simpa using h2,by simpa using h3,h4⟩
theorem zl6 {T:List Br}{held:List Int}(B:Both T held)(hh:∀b∈T,∀n∈b.slips,n∈held):znp T.length (sOf T) (aOf T) where
  pos:=List.length_pos_iff.2 B.ne
  nil:=by
    obtain⟨b,hb⟩:=zhe (List.length_pos_iff.2 B.ne)
    unfold sOf;rw[getD_some hb];exact(B.first b hb).2
  up k h0 hk:=by
    obtain⟨b,hb⟩:=zhe hk
    obtain⟨j,u,h1,h2,h3,_⟩:=B.next k b h0 hb
    unfold aOf;rw[getD_some hb,h2];simpa using h1
  sub k h0 hk:=by
    obtain⟨b,hb⟩:=zhe hk
    obtain⟨j,u,h1,h2,h3,h4,_⟩:=B.next k b h0 hb
    have e:aOf T k=j:=by unfold aOf;rw[getD_some hb,h2];simp
    rw[e];unfold sOf;rw[getD_some hb,getD_some h3];exact h4
  lt k h0 hk:=by
    obtain⟨b,hb⟩:=zhe hk
    obtain⟨j,u,h1,h2,h3,h4,h5,_⟩:=B.next k b h0 hb
    have e:aOf T k=j:=by unfold aOf;rw[getD_some hb,h2];simp
    rw[e];unfold sOf;rw[getD_some hb,getD_some h3]
    refine Decidable.by_contra fun hn=>?_
    have hs:∀n∈b.slips,n∈u.slips:=fun n hnb=>Decidable.by_contra fun h=>hn ⟨n,hnb,h⟩
    have nd:b.slips.Nodup:=(B.rise b (List.mem_of_getElem? hb)).imp fun h=>by omega
    have:=nd.length_le_of_subset hs
    omega
  one a k m hk0 hk hm0 hm a1 a2 a3 a4:=by
    have hc:arN T a=1:=by
      obtain⟨b,hb⟩:=zhe hk
      refine B.ar a (hh b (List.mem_of_getElem? hb) a ?_)
      unfold sOf at a1;rw[getD_some hb] at a1;exact a1
    refine Decidable.by_contra fun hne=>?_
    have hp:∀k,0<k→a∈sOf T k→a∉sOf T (aOf T k)→arP T a k=true:=by
      intro k h0 h1 h2
      unfold sOf at h1 h2;unfold aOf at h2;unfold arP
      simp only[xfr,decide_eq_true_eq,Bool.not_eq_true',List.any_eq_true,List.any_eq_false,beq_iff_eq]
      exact⟨⟨h0,a,h1,rfl⟩,fun x hx e=>h2 (e▸hx)⟩
    have key:∀k m,k<m→m<T.length→0<k→0<m→a∈sOf T k→a∉sOf T (aOf T k)→a∈sOf T m→a∉sOf T (aOf T m)→False:=by
      intro k m hkm hm k0 m0 a1 a2 a3 a4
      have hsub:([k,m]:List Nat).Sublist (List.range T.length):=by
        have h1:([k,m]:List Nat).Sublist (List.range (m+1)):=by
          rw[List.range_succ]
          exact(List.singleton_sublist.2 (List.mem_range.2 hkm)).append (List.Sublist.refl [m])
        exact h1.trans (List.range_sublist.2 (by omega))
      have:=hsub.countP_le (p:=arP T a)
      rw[List.countP_cons_of_pos (hp k k0 a1 a2),List.countP_cons_of_pos (hp m m0 a3 a4)] at this
      unfold arN at hc;omega
    rcases Nat.lt_or_gt_of_ne hne with h|h
    · exact key k m h hm hk0 hm0 a1 a2 a3 a4
    exact key m k h hk hm0 hk0 a3 a4 a1 a2
end Go.Am.Ds
end
section
namespace Go.Am.Ds
def IsEx (W:List (Int×List Int))(l e:List Int):Prop:=e.Pairwise (·<·)∧∀id,id∈e↔(id,l)∈W
structure z0y (W:List (Int×List Int)) (held:List Int) (T:List Br):Prop where
  both:Both T held
  cr:∀b∈T,b.cops.Pairwise (·<·)
  st:∀b∈T,∀id∈b.cops,(id,b.slips)∈W
  sum:(T.flatMap (·.cops)).length=W.length
  nod:(T.flatMap (·.cops)).Nodup
structure RefP (W:List (Int×List Int)) (held:List Int) (T:List Br):Prop where
  both:Both T held
  ex:∀b∈T,IsEx W b.slips b.cops
  hd:∀b∈T,∀n∈b.slips,n∈held
  sum:(T.flatMap (·.cops)).length=W.length
theorem zrc {T:List Br}{k:Nat}(h:2≤belN T k):∃(i j:Nat) (a b:Br),i<j∧T[i]?=some a∧T[j]?=some b∧a.above=(k:Int)∧b.above=(k:Int):=by
 obtain⟨i,j,a,b,h1,h2,h3,h4,h5⟩:=zon h
 exact⟨i,j,a,b,h1,h2,h3,by simpa using h4,by simpa using h5⟩
theorem zqk {T:List Br}{held:List Int}(B:Both T held){i k:Nat}{a b:Br}(hi:T[i]?=some a)(hk:T[k]?=some b)(ha:a.above=(k:Int)):k<i∧∀n∈b.slips,n∈a.slips:=by
 have h0:0<i:=Nat.pos_of_ne_zero fun h=>by subst h;have:=(B.first a hi).1;omega
 obtain⟨j,u,h1,h2,h3,h4,_⟩:=B.next i a h0 hi
 have:j=k:=by omega
 subst this
 rw[hk] at h3;cases h3
 exact⟨h1,h4⟩
theorem zq9 {W:List (Int×List Int)}{held:List Int}{T:List Br}(hh:∀x∈W,∀n∈x.2,n∈held)(P:z0y W held T):∀b∈T,∀n∈b.slips,n∈held:=by
 have key:∀(d k:Nat) (b:Br),T.length - k=d→T[k]?=some b→∀n∈b.slips,n∈held:=by
  intro d
  induction d using Nat.strongRecOn with
  |_ d ih=>
   intro k b hd hb n hn
   have hk:=(List.getElem?_eq_some_iff.1 hb).1
   rcases Nat.eq_zero_or_pos k with h0|h0
   ·subst h0;rw[(P.both.first b hb).2] at hn;simp at hn
   obtain⟨j,u,_,_,_,_,_,h6⟩:=P.both.next k b h0 hb
   cases hc:b.cops with
   |nil=>
    obtain⟨i,_,a,_,_,h2,_,h3,_⟩:=zrc (h6 hc)
    obtain⟨g1,g2⟩:=zqk P.both h2 hb h3
    have:=(List.getElem?_eq_some_iff.1 h2).1
    exact ih (T.length - i) (by omega) i a rfl h2 n (g2 n hn)
   |cons id l=>
    exact hh _ (P.st b (List.mem_of_getElem? hb) id (by rw[hc];exact List.mem_cons_self)) n hn
 intro b hb n hn
 obtain⟨k,hk⟩:=List.getElem?_of_mem hb
 exact key _ k b rfl hk n hn
theorem zie {W:List (Int×List Int)}(hid:(W.map (·.1)).Nodup){id:Int}{l m:List Int}(h1:(id,l)∈W)(h2:(id,m)∈W):l=m:=by
 obtain⟨i,hi,e1⟩:=List.mem_iff_getElem.1 h1
 obtain⟨j,hj,e2⟩:=List.mem_iff_getElem.1 h2
 have:i=j:=(List.getElem_inj (i:=i) (j:=j) (h₀:=by simpa using hi) (h₁:=by simpa using hj) hid).1 (by simp[e1,e2])
 subst this
 rw[e1] at e2;exact(xfn _ _ _ _▸e2).2
theorem zoy {T:List Br}{held:List Int}(B:Both T held)(hd:∀b∈T,∀n∈b.slips,n∈held){i j:Nat}{a b:Br}(hi:T[i]?=some a)(hj:T[j]?=some b)(h:a.slips=b.slips):i=j:=
 dist (zl6 B hd) (List.getElem?_eq_some_iff.1 hi).1 (List.getElem?_eq_some_iff.1 hj).1 fun n=>by unfold sOf;rw[getD_some hi,getD_some hj,h]
theorem zph {W:List (Int×List Int)}{held:List Int}{T:List Br}(hid:(W.map (·.1)).Nodup)(hh:∀x∈W,∀n∈x.2,n∈held):z0y W held T↔RefP W held T:=by
 constructor
 ·intro P
  have hd:=zq9 hh P
  refine⟨P.both,fun b hb=>⟨P.cr b hb,fun id=>⟨P.st b hb id,fun hw=>?_⟩⟩,hd,P.sum⟩
  have hsub:∀x∈T.flatMap (·.cops),x∈W.map (·.1):=by
   intro x hx
   obtain⟨b,hb,hxb⟩:=List.mem_flatMap.1 hx
   exact List.mem_map.2 ⟨_,P.st b hb x hxb,rfl⟩
  have hin:id∈T.flatMap (·.cops):=by
   refine Decidable.by_contra fun hn=>?_
   have nd:(id::T.flatMap (·.cops)).Nodup:=List.nodup_cons.2 ⟨hn,P.nod⟩
   have:=nd.length_le_of_subset (l₂:=W.map (·.1)) (fun m hm=>by
    rcases List.mem_cons.1 hm with rfl|hm
    ·exact List.mem_map.2 ⟨_,hw,rfl⟩
    exact hsub m hm)
   rw[List.length_cons,P.sum,List.length_map] at this;omega
  obtain⟨b',hb',hi⟩:=List.mem_flatMap.1 hin
  have e:=zie hid hw (P.st b' hb' id hi)
  obtain⟨i,hi'⟩:=List.getElem?_of_mem hb
  obtain⟨j,hj'⟩:=List.getElem?_of_mem hb'
  have:=zoy P.both hd hi' hj' e
  subst this
  rw[hi'] at hj';cases hj';exact hi
 intro R
 refine⟨R.both,fun b hb=>(R.ex b hb).1,fun b hb id h=>((R.ex b hb).2 id).1 h,R.sum,?_⟩
 unfold List.Nodup
 rw[List.pairwise_flatMap]
 refine⟨fun b hb=>(R.ex b hb).1.imp fun h=>by omega,List.pairwise_iff_getElem.2 fun i j hi hj hij x hx y hy=>?_⟩
 rintro rfl
 have e:=zie hid (((R.ex _ (List.getElem_mem hi)).2 x).1 hx) (((R.ex _ (List.getElem_mem hj)).2 x).1 hy)
 have:=zoy R.both R.hd (List.getElem?_eq_getElem hi) (List.getElem?_eq_getElem hj) e
 omega
end Go.Am.Ds
end
section
namespace Go.Am.Ds
def abF (F:List (List Int))(k:Nat):Int:=(List.range k).foldl (fun (a:Int) (j:Nat)=>if (F.getD j []).all (fun n=>decide (n∈F.getD k []))=true then (j:Int) else a) (-1)
def zf9 (e:List Int→List Int)(F:List (List Int)):List Br:=(List.range F.length).map fun k=>⟨abF F k,F.getD k [],e (F.getD k [])⟩
theorem zrh (p:Nat→Bool):∀m,(List.range m).foldl (fun (a:Int) (j:Nat)=>if p j=true then (j:Int) else a) (-1) = -1∧(∀j,j<m→p j=false)∨∃j,j<m∧(List.range m).foldl (fun (a:Int) (j:Nat)=>if p j=true then (j:Int) else a) (-1)=(j:Int)∧p j=true∧∀i,j<i→i<m→p i=false
 |0=>.inl ⟨rfl,fun j h=>by omega⟩
 |m+1=>by
  rw[List.range_succ,List.foldl_append,List.foldl_cons,List.foldl_nil]
  by_cases h:p m=true
  ·rw[if_pos h];exact .inr ⟨m,by omega,rfl,h,fun i h1 h2=>by omega⟩
  rw[if_neg h]
  rcases zrh p m with⟨h1,h2⟩|⟨j,h1,h2,h3,h4⟩
  ·refine .inl ⟨h1,fun j hj=>?_⟩
   by_cases e:j=m
   ·subst e;simpa using h
   exact h2 j (by omega)
  refine .inr ⟨j,by omega,h2,h3,fun i g1 g2=>?_⟩
  by_cases e:i=m
  ·subst e;simpa using h
  exact h4 i g1 (by omega)
theorem gD {F:List (List Int)}{k:Nat}{x:List Int}(h:F[k]?=some x):F.getD k []=x:=by rw[List.getD_eq_getElem?_getD,h];rfl
theorem zt4 {C F:List (List Int)}(hC:∀a b,¬crXL C a b)(R:Row C F){k:Nat}(h0:0<k)(hk:k<F.length):∃j:Nat,abF F k=(j:Int)∧Up F j k:=by
 have hy:=List.getElem?_eq_getElem hk
 rcases zrh (fun j=>(F.getD j []).all (fun n=>decide (n∈F.getD k []))) k with⟨_,h2⟩|⟨j,h1,h2,h3,h4⟩
 ·have:=h2 0 h0
  rw[gD R.nil] at this;simp at this
 have hx:=List.getElem?_eq_getElem (show j<F.length by omega)
 refine⟨j,h2,zxv hC R h1 hx hy (fun n hn=>?_) fun i z g1 g2 hz hs=>?_⟩
 ·rw[gD hx,gD hy] at h3;simpa using List.all_eq_true.1 h3 n hn
 have:=h4 i g1 g2
 rw[gD hz,gD hy] at this
 rw[List.all_eq_true.2 fun n hn=>by simpa using hs n hn] at this
 cases this
theorem zhu {e:List Int→List Int}{F:List (List Int)}{k:Nat}{b:Br}(h:(zf9 e F)[k]?=some b):k<F.length∧F[k]?=some b.slips∧b.above=abF F k∧b.cops=e b.slips:=by
 unfold zf9 at h
 rw[List.getElem?_map] at h
 obtain⟨a,ha,rfl⟩:=Option.map_eq_some_iff.1 h
 obtain⟨hl,rfl⟩:=List.getElem?_eq_some_iff.1 ha
 rw[List.length_range] at hl
 rw[List.getElem_range] 
 exact⟨hl,by rw[gD (List.getElem?_eq_getElem hl)];exact List.getElem?_eq_getElem hl,rfl,rfl⟩
theorem zgh {e:List Int→List Int}{F:List (List Int)}{k:Nat}{x:List Int}(h:F[k]?=some x):(zf9 e F)[k]?=some ⟨abF F k,x,e x⟩:=by
 have hl:=(List.getElem?_eq_some_iff.1 h).1
 unfold zf9
 rw[List.getElem?_map,List.getElem?_range hl,Option.map_some,gD h]
theorem zv3 {p:Nat→Bool}{N k:Nat}(hk:k<N)(hp:p k=true)(hu:∀m,m<N→p m=true→m=k):(List.range N).countP p=1:=by
 have:(List.range N).filter p=[k]:=by
  have h1:((List.range N).filter p).Nodup:=List.nodup_range.filter _
  have h2:∀x,x∈(List.range N).filter p↔x∈[k]:=by
   intro x;rw[List.mem_filter,List.mem_range,List.mem_singleton]
   exact⟨fun h=>hu x h.1 h.2,fun h=>h▸⟨hk,hp⟩⟩
  exact List.perm_singleton.1 ((List.perm_ext_iff_of_nodup h1 (by simp)).2 h2)
 rw[List.countP_eq_length_filter,this];rfl
theorem zvz {W:List (Int×List Int)}{F:List (List Int)}{e:List Int→List Int}{held:List Int}(hC:∀a b,¬crXL (W.map (·.2)) a b)(R:Row (W.map (·.2)) F)(hr:∀x∈W,x.2.Pairwise (·<·))(rise:∀x∈F,x.Pairwise (·<·))(he:∀x∈F,IsEx W x (e x))(hh:∀n∈held,∃x∈W,n∈x.2):Both (zf9 e F) held where
  ne:=by
    intro h
    have:=zgh (e:=e) R.nil
    rw[h] at this;simp at this
  first b hb:=by
    obtain⟨_,h2,h3,_⟩:=zhu hb
    rw[R.nil] at h2
    exact⟨h3,(Option.some.inj h2).symm⟩
  next k b h0 hb:=by
    obtain⟨hk,hs,ha,hc⟩:=zhu hb
    obtain⟨j,hj,hu⟩:=zt4 hC R h0 hk
    obtain⟨hlt,x,y,hx,hy,s,g⟩:=id hu
    rw[hs] at hy;cases hy
    refine⟨j,⟨abF F j,x,e x⟩,hlt,ha.trans hj,zgh hx,s,?_,fun hc0=>?_⟩
    · refine Decidable.by_contra fun hn=>?_
      have h2:=sub_eq (R.nod x (List.mem_of_getElem? hx)) s (Nat.le_of_not_lt hn)
      have:=R.one j k x b.slips hx hs fun n=>⟨s n,h2 n⟩
      omega
    rw[hc] at hc0
    obtain⟨i,i',hne,u1,u2⟩:=zwg hC R hs (by omega) fun c hc1 hce=>by
      obtain⟨w,hw,rfl⟩:=List.mem_map.1 hc1
      have e1:=znr (rise _ (List.mem_of_getElem? hs)) (hr w hw) hce
      have:=((he _ (List.mem_of_getElem? hs)).2 w.1).2 (by rw[e1];exact hw)
      rw[hc0] at this;simp at this
    have key:∀i,Up F k i→∃b',(zf9 e F)[i]?=some b'∧b'.above=(k:Int):=by
      intro i u
      obtain⟨h1,x1,y1,h2,h3,_⟩:=id u
      obtain⟨j',h4,h5⟩:=zt4 hC R (by omega) (List.getElem?_eq_some_iff.1 h3).1
      exact⟨_,zgh h3,by rw[← z2a R h5 u];exact h4⟩
    obtain⟨b1,e1,e2⟩:=key i u1
    obtain⟨b2,g1,g2⟩:=key i' u2
    have two:∀ {l:List Br} {i j:Nat} {a b:Br} {p:Br→Bool},i<j→l[i]?=some a→l[j]?=some b→p a=true→p b=true→2≤l.countP p:=by
      intro l i j a b p hij hi hj pa pb
      have h1:l.countP p=(l.take j).countP p+(l.drop j).countP p:=by rw[← List.countP_append,List.take_append_drop]
      have h2:0<(l.take j).countP p:=List.countP_pos_iff.2 ⟨a,List.mem_of_getElem? (by rw[List.getElem?_take,if_pos hij];exact hi),pa⟩
      have h3:0<(l.drop j).countP p:=List.countP_pos_iff.2 ⟨b,List.mem_of_getElem? (i:=0) (by rw[List.getElem?_drop];simpa using hj),pb⟩
      omega
    unfold belN
    rcases Nat.lt_or_gt_of_ne hne with h|h
    · exact two h e1 g1 (by simpa using e2) (by simpa using g2)
    exact two h g1 e1 (by simpa using g2) (by simpa using e2)
  rise b hb:=by
    obtain⟨k,hk⟩:=List.getElem?_of_mem hb
    exact rise _ (List.mem_of_getElem? (zhu hk).2.1)
  ar n hn:=by
    obtain⟨w,hw,hnw⟩:=hh n hn
    obtain⟨j,k,x,y,u,hx,hy,ny,nx⟩:=zve hC R (List.mem_map.2 ⟨w,hw,rfl⟩) hnw
    have hk:=(List.getElem?_eq_some_iff.1 hy).1
    have len:(zf9 e F).length=F.length:=by simp[zf9]
    have ab:∀ {j k:Nat},Up F j k→(abF F k).toNat=j:=by
      intro j k u
      obtain⟨h1,x1,y1,h2,h3,_⟩:=id u
      obtain⟨j',h4,h5⟩:=zt4 hC R (by omega) (List.getElem?_eq_some_iff.1 h3).1
      rw[h4,← z2a R h5 u];rfl
    unfold arN;rw[len]
    refine zv3 hk ?_ fun m hm hp=>?_
    · unfold arP
      rw[getD_some (zgh hy)]
      simp only[ab u]
      rw[getD_some (zgh hx)]
      simp only[xfr,decide_eq_true_eq,Bool.not_eq_true',List.any_eq_true,List.any_eq_false,beq_iff_eq]
      exact⟨⟨by have:=u.1;omega,n,ny,rfl⟩,fun z hz e=>nx (e▸hz)⟩
    have hy':=List.getElem?_eq_getElem hm
    unfold arP at hp
    rw[getD_some (zgh hy')] at hp
    simp only[xfr,decide_eq_true_eq,Bool.not_eq_true',List.any_eq_true,List.any_eq_false,beq_iff_eq] at hp
    obtain⟨⟨m0,z,hz,rfl⟩,h3⟩:=hp
    obtain⟨j',h4,h5⟩:=zt4 hC R m0 hm
    obtain⟨_,x',_,hx',_⟩:=id h5
    rw[ab h5,getD_some (zgh hx')] at h3
    exact(zwv hC R u h5 hx hy hx' hy' ny nx hz fun h=>h3 _ h rfl).symm
theorem zx4 {W:List (Int×List Int)}{F:List (List Int)}{e:List Int→List Int}{held:List Int}(hid:(W.map (·.1)).Nodup)(hC:∀a b,¬crXL (W.map (·.2)) a b)(R:Row (W.map (·.2)) F)(hr:∀x∈W,x.2.Pairwise (·<·))(rise:∀x∈F,x.Pairwise (·<·))(he:∀x∈F,IsEx W x (e x))(hh:∀n,n∈held↔∃x∈W,n∈x.2):RefP W held (zf9 e F):=by
 have B:=zvz hC R hr rise he fun n=>(hh n).1
 have mem:∀b∈zf9 e F,b.slips∈F∧b.cops=e b.slips:=fun b hb=>by
  obtain⟨k,hk⟩:=List.getElem?_of_mem hb
  exact⟨List.mem_of_getElem? (zhu hk).2.1,(zhu hk).2.2.2⟩
 have ex:∀b∈zf9 e F,IsEx W b.slips b.cops:=fun b hb=>by rw[(mem b hb).2];exact he _ (mem b hb).1
 have hd:∀b∈zf9 e F,∀n∈b.slips,n∈held:=fun b hb n hn=>by
  rcases zpo (R.mem _ (mem b hb).1) with h|⟨c,hc,h⟩
  ·rw[h] at hn;simp at hn
  obtain⟨w,hw,rfl⟩:=List.mem_map.1 hc
  exact(hh n).2 ⟨w,hw,h n hn⟩
 refine⟨B,ex,hd,?_⟩
 have nod:((zf9 e F).flatMap (·.cops)).Nodup:=by
  unfold List.Nodup
  rw[List.pairwise_flatMap]
  refine⟨fun b hb=>(ex b hb).1.imp fun h=>by omega,List.pairwise_iff_getElem.2 fun i j hi hj hij x hx y hy=>?_⟩
  rintro rfl
  have e:=zie hid (((ex _ (List.getElem_mem hi)).2 x).1 hx) (((ex _ (List.getElem_mem hj)).2 x).1 hy)
  have:=zoy B hd (List.getElem?_eq_getElem hi) (List.getElem?_eq_getElem hj) e
  omega
 have h1:=nod.length_le_of_subset (l₂:=W.map (·.1)) fun x hx=>by
  obtain⟨b,hb,hxb⟩:=List.mem_flatMap.1 hx
  exact List.mem_map.2 ⟨_,((ex b hb).2 x).1 hxb,rfl⟩
 have h2:=hid.length_le_of_subset (l₂:=(zf9 e F).flatMap (·.cops)) fun x hx=>by
  obtain⟨w,hw,rfl⟩:=List.mem_map.1 hx
  obtain⟨y,hy,ey⟩:=R.all w.2 (List.mem_map.2 ⟨w,hw,rfl⟩) w.2 (List.mem_map.2 ⟨w,hw,rfl⟩)
  have e1:=znr (rise y hy) (hr w hw) fun n=>by rw[ey n];exact⟨fun h=>h.1,fun h=>⟨h,h⟩⟩
  obtain⟨k,hk⟩:=List.getElem?_of_mem hy
  have hb:=List.mem_of_getElem? (zgh (e:=e) hk)
  exact List.mem_flatMap.2 ⟨_,hb,((ex _ hb).2 w.1).2 (by show (w.1,y)∈W;rw[e1];exact hw)⟩
 rw[List.length_map] at h1 h2
 omega
end Go.Am.Ds
end
section
namespace Go.Am.Ds
theorem zwq {W:List (Int×List Int)}{held:List Int}{T:List Br}(P:z0y W held T){w:Int×List Int}(hw:w∈W):w.1∈T.flatMap (·.cops):=by
 refine Decidable.by_contra fun hn=>?_
 have nd:(w.1::T.flatMap (·.cops)).Nodup:=List.nodup_cons.2 ⟨hn,P.nod⟩
 have:=nd.length_le_of_subset (l₂:=W.map (·.1)) (fun m hm=>by
  rcases List.mem_cons.1 hm with rfl|hm
  ·exact List.mem_map.2 ⟨_,hw,rfl⟩
  obtain⟨b,hb,hxb⟩:=List.mem_flatMap.1 hm
  exact List.mem_map.2 ⟨_,P.st b hb m hxb,rfl⟩)
 rw[List.length_cons,P.sum,List.length_map] at this;omega
theorem zqr {W:List (Int×List Int)}{held:List Int}{T:List Br}(hid:(W.map (·.1)).Nodup)(hh:∀x∈W,∀n∈x.2,n∈held)(R:RefP W held T):zq0 T.length (sOf T) (aOf T) (W.map (·.2)) where
  stand c hc:=by
    have P:=(zph hid hh).2 R
    obtain⟨w,hw,rfl⟩:=List.mem_map.1 hc
    obtain⟨b,hb,hi⟩:=List.mem_flatMap.1 (zwq P hw)
    have e:=zie hid hw (P.st b hb w.1 hi)
    obtain⟨k,hk⟩:=List.getElem?_of_mem hb
    exact⟨k,(List.getElem?_eq_some_iff.1 hk).1,fun n=>by unfold sOf;rw[getD_some hk,e]⟩
  full k h0 hk:=by
    obtain⟨b,hb⟩:=zhe hk
    cases hc:b.cops with
    | nil =>
      obtain⟨_,_,_,_,_,_,_,h6⟩:=R.both.next k b h0 hb
      obtain⟨i,j,a,d,hij,hi,hj,ha,hd⟩:=zrc (h6 hc)
      have g1:=(zqk R.both hi hb ha).1
      have g2:=(zqk R.both hj hb hd).1
      exact .inr ⟨i,j,by omega,(List.getElem?_eq_some_iff.1 hi).1,(List.getElem?_eq_some_iff.1 hj).1,by omega,by omega,by unfold aOf;rw[getD_some hi,ha];rfl,by unfold aOf;rw[getD_some hj,hd];rfl⟩
    | cons id l =>
      have:=((R.ex b (List.mem_of_getElem? hb)).2 id).1 (by rw[hc];exact List.mem_cons_self)
      exact .inl ⟨b.slips,List.mem_map.2 ⟨_,this,rfl⟩,fun n=>by unfold sOf;rw[getD_some hb]⟩
theorem zuc {W:List (Int×List Int)}{held:List Int}{T:List Br}(hid:(W.map (·.1)).Nodup)(hh:∀x∈W,∀n∈x.2,n∈held)(R:RefP W held T)(x:List Int):x∈T.map (·.slips)↔x.Pairwise (·<·)∧Fam (W.map (·.2)) x:=by
 have TP:=zl6 R.both R.hd
 have SP:=zqr hid hh R
 constructor
 ·intro hx
  obtain⟨b,hb,rfl⟩:=List.mem_map.1 hx
  refine⟨R.both.rise b hb,?_⟩
  obtain⟨k,hk⟩:=List.getElem?_of_mem hb
  rcases Nat.eq_zero_or_pos k with h0|h0
  ·subst h0;exact .inl (R.both.first b hk).2
  obtain⟨c,hc,d,hd,e⟩:=z6y TP SP h0 (List.getElem?_eq_some_iff.1 hk).1
  refine .inr ⟨c,hc,d,hd,fun n=>?_⟩
  have:=e n;unfold sOf at this;rw[getD_some hk] at this;exact this
 rintro⟨hr,rfl|⟨c,hc,d,hd,e⟩⟩
 ·obtain⟨b,hb⟩:=zhe TP.pos
  exact List.mem_map.2 ⟨b,List.mem_of_getElem? hb,(R.both.first b hb).2⟩
 obtain⟨k,hk,ek⟩:=share TP SP hc hd
 obtain⟨b,hb⟩:=zhe hk
 refine List.mem_map.2 ⟨b,List.mem_of_getElem? hb,znr (R.both.rise b (List.mem_of_getElem? hb)) hr fun n=>?_⟩
 have:=ek n;unfold sOf at this;rw[getD_some hb] at this;rw[this,e n]
theorem zqy {W:List (Int×List Int)}{held:List Int}{T:List Br}(R:RefP W held T):(T.map (·.slips)).Nodup:=by
 unfold List.Nodup
 rw[List.pairwise_map]
 refine List.pairwise_iff_getElem.2 fun i j hi hj hij e=>?_
 have:=zoy R.both R.hd (List.getElem?_eq_getElem hi) (List.getElem?_eq_getElem hj) e
 omega
theorem zzq {W:List (Int×List Int)}{held:List Int}{T T':List Br}(hid:(W.map (·.1)).Nodup)(hh:∀x∈W,∀n∈x.2,n∈held)(R:RefP W held T)(R':RefP W held T'):(T.map (·.slips)).Perm (T'.map (·.slips)):=
 (List.perm_ext_iff_of_nodup (zqy R) (zqy R')).2 fun x=>by rw[zuc hid hh R,zuc hid hh R']
def zgn (T:List Br):Nat:=(T.drop 1).countP fun b=>b.cops.isEmpty
def z4x (W:List (Int×List Int))(x:List Int):Bool:=!x.isEmpty&&!W.any fun w=>decide (w.2=x)
theorem zw7 {W:List (Int×List Int)}{held:List Int}{T:List Br}(R:RefP W held T):zgn T=(T.map (·.slips)).countP (z4x W):=by
 rw[List.countP_map]
 obtain⟨b0,l,rfl⟩:∃b l,T=b::l:=by
  cases h:T with
  |nil=>exact absurd h R.both.ne
  |cons b l=>exact⟨b,l,rfl⟩
 have h0:=(R.both.first b0 rfl).2
 rw[List.countP_cons_of_neg (by simp[z4x,h0])]
 unfold zgn
 rw[List.drop_one,List.tail_cons]
 refine List.countP_congr fun b hb=>?_
 obtain⟨k,hk⟩:=List.getElem?_of_mem hb
 obtain⟨_,u,_,_,_,_,h5,_⟩:=R.both.next (k+1) b (by omega) (by simpa using hk)
 have hne:b.slips.isEmpty=false:=by cases h:b.slips with
  |nil=>rw[h] at h5;simp at h5
  |cons a l=>rfl
 have ex:=R.ex b (List.mem_cons_of_mem _ hb)
 simp only[Function.comp,z4x,hne,Bool.not_false,Bool.true_and,Bool.not_eq_true',List.any_eq_false,decide_eq_true_eq]
 rw[List.isEmpty_iff]
 constructor
 ·intro h w hw e
  have:=(ex.2 w.1).2 (by rw[← e];exact hw)
  rw[h] at this;simp at this
 intro h
 cases hc:b.cops with
 |nil=>rfl
 |cons id l=>exact absurd rfl (h _ ((ex.2 id).1 (by rw[hc];exact List.mem_cons_self)))
theorem z0j {W:List (Int×List Int)}{held:List Int}{T T':List Br}(hid:(W.map (·.1)).Nodup)(hh:∀x∈W,∀n∈x.2,n∈held)(R:RefP W held T)(R':RefP W held T'):T.length=T'.length∧zgn T=zgn T':=by
 have p:=zzq hid hh R R'
 refine⟨by simpa using p.length_eq,?_⟩
 rw[zw7 R,zw7 R',p.countP_eq]
end Go.Am.Ds
end
section
namespace Go.Am.Ds
theorem z1y {p:Nat→Bool}{f:Nat→Nat}:∀l:List Nat,(∀k∈l,p k=true→2≤f k)→2*l.countP p≤(l.map f).sum
 |[],_=>by simp
 |k::l,h=>by
  have ih:=z1y l fun k hk=>h k (List.mem_cons_of_mem _ hk)
  rw[List.map_cons,List.sum_cons]
  by_cases hp:p k=true
  ·rw[List.countP_cons_of_pos hp];have:=h k List.mem_cons_self hp;omega
  rw[List.countP_cons_of_neg hp];omega
theorem z3i (a:Int):∀N:Nat,((List.range N).map fun k:Nat=>if a=(k:Int) then 1 else 0).sum≤if 0≤a then 1 else 0
 |0=>by simp
 |N+1=>by
  have key:∀N:Nat,((List.range N).map fun k:Nat=>if a=(k:Int) then 1 else 0).sum=if 0≤a∧a<N then 1 else 0:=by
   intro N
   induction N with
   |zero=>simp
   |succ N ih=>
    rw[List.range_succ,List.map_append,List.sum_append,ih,List.map_cons,List.map_nil,List.sum_cons,List.sum_nil]
    split<;>split<;>split<;>omega
  rw[key];split<;>split<;>omega
theorem zy2 (N:Nat):∀T:List Br,((List.range N).map fun k=>belN T k).sum≤T.countP fun b=>decide (0≤b.above)
 |[]=>by
  have:∀l:List Nat,(l.map fun k=>belN [] k).sum=0:=by
   intro l;induction l with
   |nil=>rfl
   |cons a l ih=>rw[List.map_cons,List.sum_cons,ih];rfl
  rw[this];exact Nat.zero_le _
 |b::T=>by
  have ih:=zy2 N T
  have e:∀l:List Nat,(l.map fun k=>belN (b::T) k).sum=(l.map fun k=>belN T k).sum+(l.map fun k:Nat=>if b.above=(k:Int) then 1 else 0).sum:=by
   intro l;induction l with
   |nil=>rfl
   |cons a l ih=>
    simp only[List.map_cons,List.sum_cons,ih]
    have:belN (b::T) a=belN T a+if b.above=(a:Int) then 1 else 0:=by
     unfold belN
     by_cases h:b.above=(a:Int)
     ·rw[List.countP_cons_of_pos (by simpa using h),if_pos h]
     rw[List.countP_cons_of_neg (by simpa using h),if_neg h];rfl
    omega
  rw[e]
  have:=z3i b.above N
  by_cases h:0≤b.above
  ·rw[List.countP_cons_of_pos (by simpa using h)];rw[if_pos h] at this;omega
  rw[List.countP_cons_of_neg (by simpa using h)];rw[if_neg h] at this;omega
theorem zw8:∀T:List Br,T.countP (fun b=>!b.cops.isEmpty)≤(T.flatMap (·.cops)).length
 |[]=>by simp
 |b::T=>by
  have ih:=zw8 T
  rw[List.flatMap_cons,List.length_append]
  cases h:b.cops with
  |nil=>rw[List.countP_cons_of_neg (by simp[h])];simpa using ih
  |cons a l=>rw[List.countP_cons_of_pos (by simp[h]),List.length_cons];omega
theorem zzs {W:List (Int×List Int)}{held:List Int}{T:List Br}(R:RefP W held T):T.length≤2*W.length+1:=by
 have h1:=z1y (p:=fun k=>decide (0<k)&&(T.getD k ⟨0,[],[]⟩).cops.isEmpty) (f:=belN T) (List.range T.length) fun k hk hp=>by
  simp only[xfr,decide_eq_true_eq] at hp
  obtain⟨b,hb⟩:=zhe (List.mem_range.1 hk)
  obtain⟨_,_,_,_,_,_,_,h6⟩:=R.both.next k b hp.1 hb
  rw[getD_some hb] at hp
  exact h6 (List.isEmpty_iff.1 hp.2)
 have h2:((List.range T.length).map (belN T)).sum≤T.countP fun b=>decide (0≤b.above):=zy2 T.length T
 have h3:=zw8 T
 rw[R.sum] at h3
 obtain⟨b0,l,rfl⟩:∃b l,T=b::l:=by
  cases h:T with
  |nil=>exact absurd h R.both.ne
  |cons b l=>exact⟨b,l,rfl⟩
 have hb:=(R.both.first b0 rfl).1
 rw[List.countP_cons_of_neg (by simp[hb])] at h2
 have h4:l.countP (fun b=>decide (0≤b.above))≤l.length:=List.countP_le_length
 have h5:(List.range (b0::l).length).countP (fun k=>decide (0<k)&&((b0::l).getD k ⟨0,[],[]⟩).cops.isEmpty)=l.countP fun b=>b.cops.isEmpty:=by
  rw[List.length_cons,List.range_succ_eq_map,List.countP_cons_of_neg (by simp),List.countP_map]
  have:∀l:List Br,(List.range l.length).countP (fun k=>(l.getD k ⟨0,[],[]⟩).cops.isEmpty)=l.countP fun b=>b.cops.isEmpty:=by
   intro l;induction l with
   |nil=>rfl
   |cons b l ih=>
    rw[List.length_cons,List.range_succ_eq_map,List.countP_cons,List.countP_map,List.countP_cons,← ih]
    rfl
  rw[← this l]
  refine List.countP_congr fun k _=>?_
  simp
 rw[h5] at h1
 have h6:l.length=l.countP (fun b=>b.cops.isEmpty)+l.countP (fun b=>!b.cops.isEmpty):=by
  rw[List.length_eq_countP_add_countP (fun b:Br=>b.cops.isEmpty)];congr 1;exact List.countP_congr fun b _=>by simp
 have h7:l.countP (fun b=>!b.cops.isEmpty)≤(b0::l).countP (fun b=>!b.cops.isEmpty):=by rw[List.countP_cons];omega
 rw[List.length_cons];omega
end Go.Am.Ds
end
section
namespace Go.Am.Ds
def posL (O:List (List Int))(x:List Int):Nat→Nat
 |0=>0
 |j+1=>if x.length<((O[j]?).getD []).length then posL O x j else j+1
def insL (O:List (List Int))(x:List Int):List (List Int):=O.take (posL O x O.length)++x::O.drop (posL O x O.length)
def srtL (l:List (List Int)):List (List Int):=l.foldl insL []
theorem zyd (O:List (List Int))(x:List Int):(insL O x).Perm (x::O):=by
 unfold insL
 exact List.perm_middle.trans (List.Perm.cons x (by rw[List.take_append_drop]))
theorem zwh (l:List (List Int))(x:List Int):srtL (l++[x])=insL (srtL l) x:=by unfold srtL;rw[List.foldl_append];rfl
theorem zom:∀(l a:List (List Int)),(l.foldl insL a).Perm (a++l)
 |[],a=>by simp
 |x::r,a=>by
  rw[List.foldl_cons]
  refine(zom r (insL a x)).trans ?_
  refine((zyd a x).append_right r).trans ?_
  exact List.perm_middle.symm
theorem zg2 (l:List (List Int)):(srtL l).Perm l:=by
 have:=zom l []
 rwa [List.nil_append] at this
theorem zlq (l:List (List Int)):(srtL l).length=l.length:=(zg2 l).length_eq
theorem zwn (O:List (List Int))(x:List Int):∀m,posL O x m≤m
 |0=>Nat.le_refl 0
 |m+1=>by
  unfold posL
  split
  ·exact Nat.le_succ_of_le (zwn O x m)
  exact Nat.le_refl _
theorem zyf (O:List (List Int))(x:List Int):∀m j,posL O x m≤j→j<m→x.length<((O[j]?).getD []).length
 |0,j,_,h=>by omega
 |m+1,j,h1,h2=>by
  unfold posL at h1
  split at h1
  ·rename_i h
   by_cases hj:j=m
   ·subst hj;exact h
   exact zyf O x m j h1 (by omega)
  omega
theorem zwz (O:List (List Int))(x:List Int):∀m,0<posL O x m→((O[posL O x m - 1]?).getD []).length≤x.length
 |0,h=>by simp[posL] at h
 |m+1,h=>by
  unfold posL at h ⊢
  split
  ·rename_i hh
   rw[if_pos hh] at h
   exact zwz O x m h
  rename_i hh
  simp only[Nat.add_sub_cancel];omega
theorem zth {O:List (List Int)}{x:List Int}(h:O.Pairwise fun a b=>a.length≤b.length):(insL O x).Pairwise fun a b=>a.length≤b.length:=by
 have hle:=zwn O x O.length
 have hgt:=zyf O x O.length
 have hat:=zwz O x O.length
 unfold insL
 obtain⟨p,hp⟩:∃p,posL O x O.length=p:=⟨_,rfl⟩
 rw[hp] at hle hgt hat ⊢
 have g:∀ {i:Nat} (hi:i<O.length),(O[i]?).getD []=O[i]:=fun hi=>by rw[List.getElem?_eq_getElem hi];rfl
 have hpw:=List.pairwise_iff_getElem.1 h
 rw[List.pairwise_append]
 refine⟨h.sublist (List.take_sublist _ _),List.pairwise_cons.2 ⟨fun b hb=>?_,h.sublist (List.drop_sublist _ _)⟩,fun a ha b hb=>?_⟩
 ·obtain⟨i,hi,rfl⟩:=List.mem_iff_getElem.1 hb
  rw[List.getElem_drop]
  rw[List.length_drop] at hi
  have:=hgt (p+i) (by omega) (by omega)
  rw[g (by omega)] at this
  omega
 obtain⟨i,hi,rfl⟩:=List.mem_iff_getElem.1 ha
 rw[List.length_take] at hi
 rw[List.getElem_take]
 have h1:O[i].length≤x.length:=by
  have h2:=hat (by omega)
  rw[g (by omega)] at h2
  by_cases he:i=p - 1
  ·subst he;exact h2
  exact Nat.le_trans (hpw i (p - 1) (by omega) (by omega) (by omega)) h2
 rcases List.mem_cons.1 hb with rfl|hb
 ·exact h1
 obtain⟨j,hj,rfl⟩:=List.mem_iff_getElem.1 hb
 rw[List.getElem_drop]
 rw[List.length_drop] at hj
 exact hpw i (p+j) (by omega) (by omega) (by omega)
theorem zk7:∀(l:List (List Int)) {a:List (List Int)},(a.Pairwise fun a b=>a.length≤b.length)→(l.foldl insL a).Pairwise fun a b=>a.length≤b.length
 |[],_,h=>h
 |x::r,a,h=>by rw[List.foldl_cons];exact zk7 r (zth h)
theorem zhk (l:List (List Int)):(srtL l).Pairwise fun a b=>a.length≤b.length:=zk7 l .nil
def mvL (O:List (List Int))(x:List Int)(j:Nat)(T:List (List Int)):List (List Int):=O.take j++x::(O.drop j++T)
theorem z5a {O:List (List Int)}{x:List Int}{j:Nat}{T:List (List Int)}:(mvL O x j T).length=O.length+1+T.length:=by
 have h:=congrArg List.length (List.take_append_drop j O)
 rw[List.length_append] at h
 unfold mvL
 simp only[List.length_append,List.length_cons]
 omega
theorem xbe {O:List (List Int)}{x:List Int}{j:Nat}{T:List (List Int)}(h:j≤O.length):(mvL O x j T)[j]?=some x:=by
 unfold mvL
 rw[List.getElem?_append_right (by rw[List.length_take];omega),List.length_take,show j - min j O.length=0 by omega]
 rfl
theorem z4b {O:List (List Int)}{x:List Int}{j:Nat}{T:List (List Int)}(h0:0<j)(h:j≤O.length):(mvL O x j T)[j - 1]?=O[j - 1]?:=by
 unfold mvL
 rw[List.getElem?_append_left (by rw[List.length_take];omega),List.getElem?_take,if_pos (by omega)]
theorem zzn {O:List (List Int)}{x:List Int}{j:Nat}{T:List (List Int)}{o:List Int}(h0:0<j)(h:j≤O.length)(ho:O[j - 1]?=some o):((mvL O x j T).set j o).set (j - 1) x=mvL O x (j - 1) T:=by
 obtain⟨k,rfl⟩:∃k,j=k+1:=⟨j - 1,by omega⟩
 simp only[Nat.add_sub_cancel] at ho ⊢
 obtain⟨hk,hok⟩:=List.getElem?_eq_some_iff.1 ho
 have e1:O.take (k+1)=O.take k++[o]:=by rw[List.take_succ_eq_append_getElem hk,hok]
 have e2:O.drop k=o::O.drop (k+1):=by rw[List.drop_eq_getElem_cons hk,hok]
 have hl:(O.take k).length=k:=by rw[List.length_take];omega
 unfold mvL
 rw[e1,e2]
 generalize O.take k=A at hl ⊢
 subst hl
 simp[List.set_append]
theorem xeg {O:List (List Int)}{x:List Int}{T:List (List Int)}:mvL O x O.length T=O++x::T:=by
 unfold mvL;rw[List.take_length,List.drop_length];rfl
theorem zxe {O:List (List Int)}{x:List Int}{T:List (List Int)}:mvL O x (posL O x O.length) T=insL O x++T:=by unfold mvL insL;simp
theorem z4y {O:List (List Int)}{x o:List Int}{j:Nat}(h0:0<j)(ho:O[j - 1]?=some o)(h:x.length<o.length):posL O x j=posL O x (j - 1):=by
 obtain⟨k,rfl⟩:∃k,j=k+1:=⟨j - 1,by omega⟩
 simp only[Nat.add_sub_cancel] at ho ⊢
 simp only[posL,ho,Option.getD_some,h,if_true]
theorem zyj {O:List (List Int)}{x o:List Int}{j:Nat}(h0:0<j)(ho:O[j - 1]?=some o)(h:¬x.length<o.length):posL O x j=j:=by
 obtain⟨k,rfl⟩:∃k,j=k+1:=⟨j - 1,by omega⟩
 simp only[Nat.add_sub_cancel] at ho
 simp only[posL,ho,Option.getD_some,h,if_false]
end Go.Am.Ds
end
section
namespace Go.Am.Ds
open Go Go.Am Go.Proofs Tryz
attribute [local simp] vrun zaz zbg vop vopA zb2 zab.back hidI hidF zdh bm Nat.testBit_eq_decide_div_mod_eq za6 zbo zb4 vO zbc vlen zbs zbz zd2 zaq zak zcj vbox zbe zdu zby zge zdt zcm zau zcn zav zcl zbf zci zbr zbl vbnd zcz vidx zbp zdk zar zbt zct zdj zd9 zd6 vbin vsc vsc1 vscs vscl zbv aint zb3 zdl za8 zcx zd0 pvcV pvc pvcs tput tget zdd zab.get zab.alloc zab.put zab.drop zab.empty zce vput zdi zbb zca zda chunk List.range List.range.loop za0 zbu za1 frz frzL PV.isF PV.allF PV.scal PV.allS retP subT zds PV.one PV.ids PV.idsL zcc beq_eq zbw zbx
theorem p181 (a b:List Int)(ha:a.length<4294967296)(hb:b.length<4294967296):zat prog 181 [ints a,ints b] fun r=>r=.bool (decide (a=b)):=by
 refine .zah func181 rfl rfl ?_
 refine .sr ?_
 refine .seq (.sr ?_)
 refine .cs ?_ ?_<;>intro c10
 ·try simp at c10
  refine .sr ?_
  refine .ret ?_
  refine⟨_,_,zz4,zz4,?_⟩
  have h:¬a=b:=by intro h;subst h;omega
  simp[h]
 try simp at c10
 have hlen:b.length=a.length:=by omega
 clear c10
 refine .skip (.seq (.sr ?_))
 refine .block ?_
 refine .zco (fun i:Nat=>([(0,ints a),(1,ints b),(12,.int .i64 a.length),(13,.int .i64 i)],zab.empty)) (fun i=>i≤a.length∧a.take i=b.take i) (fun i=>a.length - i) 0 (by simp) (.pure (by simp[*]) (by simp)) ?_
 rintro i ⟨hi,hr⟩
 simp only at hi hr ⊢
 refine .sr ?_
 refine .seq ?_
 refine .cs ?_ ?_<;>intro c14
 ·try simp at c14
  have hw2:=wr1 i
  have hia:i<a.length:=by omega
  have hib:i<b.length:=by omega
  refine .skip (.seq (.block (.sr ?_)))
  refine .seq ?_
  refine .drawn (ms:=[0,0,3,7,0,0,48,112,255]) (W:=[]) (items:=[.op 0,.op 1,.op 2,.op 3,.op 4,.op 5,.op 6,.op 7,.op 8]) rfl zz0 zz0 zz0 ?_
  iterate 9 refine .rx ?_
  refine .done ?_
  refine .cs ?_ ?_<;>intro c24
  ·try simp at c24
   refine .sr ?_
   refine .ret ?_
   refine⟨_,_,zz4,zz4,?_⟩
   have h:¬a=b:=by intro h;subst h;simp at c24
   simp[h]
  try simp at c24
  refine .skip (.rn ?_)
  refine⟨i+1,⟨zz5,?_⟩,zz5,.pure (by simp[*]) (by simp)⟩
  rw[List.take_succ_eq_append_getElem hia,List.take_succ_eq_append_getElem hib,hr,c24]
 try simp at c14
 have:i=a.length:=by omega
 have hab:a=b:=by
  rw[this,List.take_length] at hr
  rw[hr];exact List.take_of_length_le (by omega)
 refine .exit (.sr ?_)
 refine .ret ?_
 refine⟨_,_,zz4,zz4,?_⟩
 simp[hab]
theorem p180 (x l:List Int)(hx:x.length<4294967296)(hl:l.length<4294967296):zat prog 180 [ints x,.vp [ints l]] fun r=>r=.bool (decide (x=l)):=by
 refine .zah func180 rfl rfl ?_
 refine .sr ?_
 refine .seq ?_
 refine .zac [0,1,2,3] rfl zz0 ?_
 refine .rn [0,1] _ ?_
 refine .pc rfl rfl rfl rfl rfl call181 (p181 x l hx hl) ?_
 refine .rn [3] [] ?_
 refine .done (.ret ?_)
 refine⟨_,_,zz4,zz4,?_⟩
 first|rfl|(simp[*];done)|(simp_all;done)
def eS (l:List Int):PV:=if l=[] then .sl0 else ints l
theorem xdf {l:List Int}(h:l≠[]):eS l=ints l:=if_neg h
@[simp] theorem zu8 (l:List Int):(eS l).cells=[eS l]:=by unfold eS;split<;>rfl
@[simp] theorem xa5 (l:List Int):(eS l).isF=true:=by unfold eS;split<;>simp[PV.isF]
theorem zi2 (l:List Int):(eS l).one=true:=by unfold eS;split<;>simp[PV.one]
attribute [local simp ↓ high] zi2
@[simp] theorem frz_eS (vh:zab)(l:List Int):frz vh (eS l)=some (eS l):=z1r vh (xa5 l)
@[simp] theorem xbs (l:List (List Int)):zfu 1 (l.map eS)=true:=zf7 (f:=eS) (n:=1) (fun _=>by simp) l
@[simp] theorem z7p (l:List (List Int)):zdr (l.map eS)=true:=zfi (f:=eS) (fun l=>by rw[zu8,List.all_cons,zi2];rfl) l
theorem z1u {vh:zab}{n2:Nat}{D:Nat→Bool}{ρ:Nat→Nat}(l:List Int):Alt vh n2 D ρ (eS l) (ints l):=by
 unfold eS
 split
 ·rename_i h;subst h;exact .sl0v
 exact .same _ (by simp)
theorem xc3 (x l:List Int)(hx:x.length<4294967296)(hl:l.length<4294967296):zat prog 180 [eS x,.vp [ints l]] fun r=>r=.bool (decide (x=l)):=by
 unfold eS
 split
 ·rename_i h;subst h;exact zat.sl0k (p180 [] l hx hl)
 exact p180 x l hx hl
def fstL (p:List Int→Bool)(l:List (List Int)):PV:=match l.find? p with
 |some x=>eS x
 |none=>.sl0
theorem zw1 (p:List Int→Bool)(l:List (List Int))(i:Nat)(h:i<l.length):fstL p (l.drop i)=if p l[i] then eS l[i] else fstL p (l.drop (i+1)):=by
 rw[List.drop_eq_getElem_cons h]
 simp only[fstL,List.find?_cons]
 cases p l[i]<;>rfl
theorem p201 (n:Int)(ks:List Int):zat prog 201 [.int .i64 n,.vp [.vmap (mp ks)]] fun r=>r=.bool (!decide (n∈ks)):=by
 refine .zah func201 rfl rfl ?_
 refine .sr ?_
 refine .seq ?_
 refine .zac [0,1,2,3,4] rfl zz0 ?_
 refine .rn [0,1] _ ?_
 refine .pc rfl rfl rfl rfl rfl call115 (p115 ks n) ?_
 refine .rn [3,4] [] ?_
 refine .done (.ret ?_)
 refine⟨_,_,zz4,zz4,?_⟩
 first|rfl|(simp[*];done)|(simp_all;done)
theorem xde (b:List Int)(h2:b.length<4294967296):zat prog 182 [.vec [],ints b] fun r=>r=.vec []:=by
 refine .zah func182 rfl rfl ?_
 refine .sr ?_
 refine .seq ?_
 refine .zac [0,1,2,3,4] rfl zz0 ?_
 refine .rn [0,1] _ ?_
 refine .step rfl rfl (.take rfl rfl rfl call116 (by decide) (by first|(simp<;>rfl)|(simp[*]<;>rfl)|(simp[*];done)) (p116 [b] (by simp) (by simp[h2])) ?_)
 rintro _ rfl
 refine .rn [3,4] [] ?_
 refine .done (.seq ?_)
 refine .zac [0,1,2,3,4] rfl zz0 ?_
 refine .rn [0] _ ?_
 refine .pc rfl rfl rfl rfl rfl call167 (z8o) ?_
 refine .rn [2] _ ?_
 refine .step rfl rfl (.take rfl rfl rfl call134 (by decide) (by first|(simp<;>rfl)|(simp[*]<;>rfl)|(simp[*];done)) (xd1 201 [] [.vp [.vmap (mp (setK [b]))]] rfl rfl call201) ?_)
 rintro _ rfl
 refine .rn [4] [] ?_
 refine .done (.ret ?_)
 refine⟨_,_,zz4,zz4,?_⟩
 first|rfl|(simp[*];done)|(simp_all;done)
theorem xeb (a b:List Int)(h1:a.length<4294967296)(h2:b.length<4294967296)(h0:0<a.length):zat prog 182 [ints a,ints b] fun r=>r=ints (a.filter fun n=>!(!decide (n∈setK [b]))):=by
 refine .zah func182 rfl rfl ?_
 refine .sr ?_
 refine .seq ?_
 refine .zac [0,1,2,3,4] rfl zz0 ?_
 refine .rn [0,1] _ ?_
 refine .step rfl rfl (.take rfl rfl rfl call116 (by decide) (by first|(simp<;>rfl)|(simp[*]<;>rfl)|(simp[*];done)) (p116 [b] (by simp) (by simp[h2])) ?_)
 rintro _ rfl
 refine .rn [3,4] [] ?_
 refine .done (.seq ?_)
 refine .rec (vts2:=[(0,ints a),(5,.vp [.vmap (mp (setK [b]))])]) (vh2:=⟨2,[]⟩) (.mk [1] [] zz18 zz19 rfl rfl rfl) ?_
 refine .zac [0,1,2,3,4] rfl zz0 ?_
 refine .rn [0] _ ?_
 refine .step rfl rfl (.call rfl rfl rfl call167 (by decide) (((zbj.fresh' (by simp) (p167 a h0 h1) rfl h0)).mono ?_))
 rintro _ _ ⟨rfl,rfl⟩
 refine .rn [2] _ ?_
 refine .step rfl rfl (.call rfl rfl rfl call134 (by decide) (((z5g a (fun n=>!decide (n∈setK [b])) 201 [] [.vp [.vmap (mp (setK [b]))]] h1 h0 rfl rfl call201 (fun n _=>p201 n _) 2 false rfl)).mono ?_))
 rintro _ _ ⟨rfl,rfl⟩
 refine .rn [4] [] ?_
 refine .done (.ret ?_)
 refine⟨_,_,zz4,zz4,?_⟩
 first|rfl|(simp[*];done)|(simp_all;done)
theorem p182 (a b:List Int)(h1:a.length<4294967296)(h2:b.length<4294967296):zat prog 182 [ints a,ints b] fun r=>r=ints (com a b):=by
 rcases Nat.eq_zero_or_pos a.length with h0|h0
 ·have:a=[]:=List.eq_nil_of_length_eq_zero h0
  subst this
  exact xde b h2
 refine(xeb a b h1 h2 h0).alt fun r h=>⟨r,.same _ (by rw[h];simp),by rw[h];simp,?_⟩
 rw[h]
 unfold com
 congr 1
 refine List.filter_congr fun n _=>?_
 rw[Bool.not_not]
 simp[zly]
theorem p184 (a b:List Int)(ha:a.length<4294967296)(hb:b.length<4294967296):zat prog 184 [ints a,ints b] fun r=>r=.int .i64 ((a.length:Int) - (b.length:Int)):=by
 have hw:IntKind.i64.wrap ((a.length:Int) - (b.length:Int))=(a.length:Int) - (b.length:Int):=wrap64 (by omega) (by omega)
 refine .zah func184 rfl rfl ?_
 refine .sr ?_
 refine .sr ?_
 refine .ret ?_
 refine⟨_,_,zz4,zz4,?_⟩
 first|rfl|(simp[*];done)|(simp_all;done)
theorem xch (b:List Int)(hb:b.length<4294967296):zat prog 184 [.sl0,ints b] fun r=>r=.int .i64 ((0:Int) - (b.length:Int)):=by
 have hw:IntKind.i64.wrap (-(b.length:Int)) = -(b.length:Int):=wrap64 (by omega) (by omega)
 refine .zah func184 rfl rfl ?_
 refine .sr ?_
 refine .sr ?_
 refine .ret ?_
 refine⟨_,_,zz4,zz4,?_⟩
 first|rfl|(simp[*];done)|(simp_all;done)
theorem xe8 (a:List Int)(ha:a.length<4294967296):zat prog 184 [ints a,.sl0] fun r=>r=.int .i64 ((a.length:Int) - (0:Int)):=by
 have hw:IntKind.i64.wrap ((a.length:Int))=(a.length:Int):=wrap64 (by omega) (by omega)
 refine .zah func184 rfl rfl ?_
 refine .sr ?_
 refine .sr ?_
 refine .ret ?_
 refine⟨_,_,zz4,zz4,?_⟩
 first|rfl|(simp[*];done)|(simp_all;done)
theorem xd6  : zat prog 184 [.sl0,.sl0] fun r=>r=.int .i64 0:=by
 refine .zah func184 rfl rfl ?_
 refine .sr ?_
 refine .sr ?_
 refine .ret ?_
 refine⟨_,_,zz4,zz4,?_⟩
 first|rfl|(simp[*];done)|(simp_all;done)
theorem zym (a b:List Int)(ha:a.length<4294967296)(hb:b.length<4294967296):zat prog 184 [eS a,eS b] fun r=>r=.int .i64 ((a.length:Int) - (b.length:Int)):=by
 unfold eS
 by_cases h1:a=[]
 ·subst h1
  by_cases h2:b=[]
  ·subst h2;simpa using xd6
  rw[if_pos rfl,if_neg h2];exact xch b hb
 rw[if_neg h1]
 by_cases h2:b=[]
 ·subst h2;rw[if_pos rfl];exact xe8 a ha
 rw[if_neg h2];exact p184 a b ha hb
def segS (C:List (List Int))(a i:Nat):List (List Int):=C.take a++srtL ((C.take i).drop a)++C.drop i
def pmv (P O:List (List Int))(x:List Int)(j:Nat)(T:List (List Int)):List (List Int):=P++mvL O x j T
theorem zwi (C:List (List Int))(a:Nat):C.take a++srtL ((C.take (a+1)).drop a)++C.drop (a+1)=C:=by
 rcases Nat.lt_or_ge a C.length with h|h
 ·have e:(C.take (a+1)).drop a=[C[a]]:=by
   rw[List.take_succ_eq_append_getElem h,List.drop_left' (by rw[List.length_take];omega)]
  rw[e]
  have:srtL [C[a]]=[C[a]]:=rfl
  rw[this,List.append_assoc,List.singleton_append,← List.drop_eq_getElem_cons h,List.take_append_drop]
 have e:(C.take (a+1)).drop a=[]:=List.drop_eq_nil_of_le (by rw[List.length_take];omega)
 rw[e,List.take_of_length_le h,List.drop_eq_nil_of_le (by omega)]
 simp[srtL]
theorem znu {C:List (List Int)}{a i:Nat}(h:a≤i)(hi:i<C.length):(C.take (i+1)).drop a=(C.take i).drop a++[C[i]]:=by
 rw[List.take_succ_eq_append_getElem hi,List.drop_append_of_le_length (by rw[List.length_take];omega)]
theorem zyy {P:List (List Int)}{L:List (List Int)}{a j:Nat}(h:P.length=a)(hj:a≤j)(x:List Int):(P++L).set j x=P++L.set (j - a) x:=by
 subst h
 rw[List.set_append,if_neg (by omega)]
theorem zhp {C:List (List Int)}{j:Nat}(h:j<C.length)(x:List Int):List.take j (C.map eS)++eS x::List.drop (j+1) (C.map eS)=(C.set j x).map eS:=by
 rw[List.set_eq_take_append_cons_drop,if_pos h];simp
theorem p218 (C:List (List Int))(m a b:Nat)(hab:a≤b)(hbm:b≤m)(hm:m≤C.length)(hl:C.length<4294967296)(hC:∀c∈C,c.length<4294967296):zbj prog 218 [.sub 0 0 m,.int .i64 a,.int .i64 b,.func 184 [] []] ⟨3,[(0,.arr false 1 (C.map eS))]⟩ fun v vh'=>v=.tup []∧vh'.get 0=some (.arr false 1 ((segS C a b).map eS)):=by
 have hwa:=wr1 a
 refine .zah func218 rfl rfl ?_
 refine .sr ?_
 refine .block ?_
 refine .zco (fun i:Nat=>([(0,.sub 0 0 m),(1,.int .i64 a),(2,.int .i64 b),(3,.func 184 [] []),(8,.int .i64 i)],⟨3,[(0,.arr false 1 ((segS C a i).map eS))]⟩)) (fun i=>a+1≤i∧(i≤b∨i=a+1)) (fun i=>b - i) (a+1) ⟨by omega,.inr rfl⟩ (by have e:segS C a (a+1)=C:=zwi C a;rw[e];exact(.mk [] [] zz20 zz21 rfl rfl rfl)) ?_
 rintro i ⟨hi1,him⟩
 simp only at hi1 him ⊢
 refine .seq (.sr ?_)
 refine .cs ?_ ?_<;>intro c14
 ·try simp at c14
  have hw2:=wr1 i
  have hic:i<C.length:=by omega
  have hPl:(C.take a).length=a:=by rw[List.length_take];omega
  have hseg:(C.take (i+1)).drop a=(C.take i).drop a++[C[i]]:=znu (by omega) hic
  obtain⟨O,hO⟩:∃O,srtL ((C.take i).drop a)=O:=⟨_,rfl⟩
  have hOl:O.length=i - a:=by rw[← hO,zlq,List.length_drop,List.length_take];omega
  obtain⟨x,hx⟩:∃x,C[i]=x:=⟨_,rfl⟩
  obtain⟨T,hT⟩:∃T,C.drop (i+1)=T:=⟨_,rfl⟩
  have hTl:T.length+i+1=C.length:=by rw[← hT,List.length_drop];omega
  obtain⟨P,hP⟩:∃P,C.take a=P:=⟨_,rfl⟩
  rw[hP] at hPl
  have hst:segS C a i=pmv P O x (i - a) T:=by rw[segS,pmv,hO,hP,List.append_assoc,List.drop_eq_getElem_cons hic,hx,hT,← hOl,xeg]
  have hnx:segS C a (i+1)=P++(insL O x++T):=by rw[segS,hseg,zwh,hO,hx,hT,hP,List.append_assoc]
  have hxl:x.length<4294967296:=hx▸hC _ (List.getElem_mem hic)
  have hOC:∀o∈O,o.length<4294967296:=fun o ho=>hC o (List.mem_of_mem_take (List.mem_of_mem_drop ((zg2 _).mem_iff.1 (hO▸ho))))
  rw[hst]
  clear hst hO hseg
  refine .skip (.seq (.block (.sr ?_)))
  refine .block ?_
  refine .zco (fun j:Nat=>([(0,.sub 0 0 m),(1,.int .i64 a),(2,.int .i64 b),(3,.func 184 [] []),(8,.int .i64 i),(9,.int .i64 j)],⟨3,[(0,.arr false 1 ((pmv P O x (j - a) T).map eS))]⟩)) (fun j=>a≤j∧j≤i∧posL O x (j - a)=posL O x O.length) (fun j=>j) i ⟨by omega,Nat.le_refl _,by rw[hOl]⟩ (.mk [] [] zz20 zz21 rfl rfl rfl) ?_
  rintro j ⟨haj,hji,hpj⟩
  simp only at haj hji hpj ⊢
  rcases Nat.eq_or_lt_of_le haj with hEq|h0j
  ·skip
   refine .seq (.seq ?_)
   subst hEq
   refine .drawn (ms:=[0,0,3,7,15,15,15,111,239,15,15,1039,3599,7695,16383,32767,65535]) (W:=[14]) (items:=[.op 0,.op 1,.op 2,.op 3,.op 4,.op 5,.op 6,.op 7,.op 8,.op 9,.op 10,.op 11,.op 12,.op 13,.op 14,.op 15,.op 16]) rfl zz0 zz0 zz0 ?_
   iterate 4 refine .rx ?_
   refine .split (t:=21) rfl (fun c21=>?_) (fun c21=>?_)
   ·first|cases c21|(have h:=bnt c21;cases h)|(have h:=bnf c21;cases h)|try rw[c21]
    try simp at c21
   first|cases c21|(have h:=bnt c21;cases h)|(have h:=bnf c21;cases h)|try rw[c21]
   try simp at c21
   iterate 12 refine .ux ?_
   refine .rx ?_
   refine .done (.zd3 rfl (.exit (.rn ?_)))
   refine⟨i+1,⟨zz5,zz5⟩,zz5,by rw[hnx];have e:pmv P O x 0 T=P++(insL O x++T):=(by rw[pmv,← zxe,← hpj,Nat.sub_self];rfl);rw[e];exact(.mk [] [] zz20 zz21 rfl rfl rfl)⟩
  skip
  refine .seq (.seq ?_)
  have hw3:IntKind.i64.wrap ((j:Int) - 1)=((j - 1:Nat):Int):=by rw[wrap64 (by omega) (by omega)];omega
  have hj1:j - 1<m:=by omega
  have hjm:j<m:=by omega
  have hCl:(pmv P O x (j - a) T).length=C.length:=by rw[pmv,List.length_append,z5a,hPl,hOl];omega
  obtain⟨o,ho⟩:∃o,O[j - a - 1]?=some o:=⟨O[j - a - 1],List.getElem?_eq_getElem (by omega)⟩
  have hol:o.length<4294967296:=hOC o (List.mem_of_getElem? ho)
  have hgx:(pmv P O x (j - a) T)[j]?=some x:=by rw[pmv,List.getElem?_append_right (by omega),hPl,xbe (by omega)]
  have hgo:(pmv P O x (j - a) T)[j - 1]?=some o:=by rw[pmv,List.getElem?_append_right (by omega),hPl,show j - 1 - a=j - a - 1 by omega,z4b (by omega) (by omega),ho]
  have hsw:((pmv P O x (j - a) T).set j o).set (j - 1) x=pmv P O x (j - 1 - a) T:=by rw[pmv,pmv,zyy hPl (by omega),zyy hPl (by omega),show j - 1 - a=j - a - 1 by omega,zzn (by omega) (by omega) ho]
  obtain⟨D,hD⟩:∃D,pmv P O x (j - a) T=D:=⟨_,rfl⟩
  rw[hD] at hgx hgo hsw hCl ⊢
  obtain⟨hjl,hgx2⟩:=List.getElem?_eq_some_iff.1 hgx
  obtain⟨hjl1,hgo2⟩:=List.getElem?_eq_some_iff.1 hgo
  have hb1:j<D.length:=by omega
  have hb2:j - 1<D.length:=by omega
  have hb4:j+1≤D.length:=by omega
  have hb6:j - 1+1=j:=by omega
  have hset1:=zhp hjl o
  obtain⟨D1,hD1⟩:∃D1,D.set j o=D1:=⟨_,rfl⟩
  have hD1l:D1.length=D.length:=by rw[← hD1];simp
  rw[hD1] at hset1 hsw
  have hset2:=zhp (C:=D1) (show j - 1<D1.length by omega) x
  rw[hsw] at hset2
  rw[hb6] at hset2
  have hb3:j - 1<D1.length:=by omega
  have hb5:j≤D1.length:=by omega
  have hb7:j - 1+1≤D1.length:=by omega
  obtain⟨v,hv⟩:∃v,(x.length:Int) - (o.length:Int)=v:=⟨_,rfl⟩
  have h184:=zym x o hxl hol
  rw[hv] at h184
  obtain⟨bv,hbv⟩:∃bv,decide (v<0)=bv:=⟨_,rfl⟩
  clear hCl hD1l
  refine .drawn (ms:=[0,0,3,7,15,15,15,111,239,15,15,1039,3599,7695,16383,32767,65535]) (W:=[14]) (items:=[.op 0,.op 1,.op 2,.op 3,.op 4,.op 5,.op 6,.op 7,.op 8,.op 9,.op 10,.op 11,.op 12,.op 13,.op 14,.op 15,.op 16]) rfl zz0 zz0 zz0 ?_
  iterate 4 refine .rx ?_
  refine .split (t:=21) rfl (fun c21=>?_) (fun c21=>?_)
  ·first|cases c21|(have h:=bnt c21;cases h)|(have h:=bnf c21;cases h)|try rw[c21]
   try simp at c21
   iterate 10 refine .rx ?_
   refine .wp rfl rfl rfl rfl rfl call184 (h184) ?_
   iterate 2 refine .rx ?_
   refine .done ?_
   refine .cs ?_ ?_<;>intro c34
   ·try simp at c34
    refine .skip (.seq (.block ?_))
    refine .drawn (ms:=[0,0,0,0,8,0,0,64,224,480,0,0,3072,7168,16355,32739,65535,131071]) (W:=[15,17]) (items:=[.op 0,.op 1,.op 2,.op 3,.op 4,.op 5,.op 6,.op 7,.op 8,.op 9,.op 10,.op 11,.op 12,.op 13,.op 14,.op 15,.op 16,.op 17]) rfl zz0 zz0 zz0 ?_
    iterate 15 refine .rx ?_
    refine .wv ?_
    refine .rx ?_
    refine .wv ?_
    refine .done (.rn ?_)
    refine⟨j - 1,⟨zz5,zz5,(by rw[show j - 1 - a=j - a - 1 by omega];exact(z4y (by omega) ho (by have:v<0:=(by have h:=hbv.trans c34;simpa using h);omega)).symm.trans hpj)⟩,zz5,(.mk [] [] zz20 zz21 rfl rfl rfl)⟩
   try simp at c34
   refine .exit (.rn ?_)
   refine⟨i+1,⟨zz5,zz5⟩,zz5,by rw[hnx];have e:D=P++(insL O x++T):=(by rw[← hD,pmv,← zxe,← hpj,zyj (by omega) ho (by have:¬v<0:=(by have h:=hbv.trans c34;simpa using h);omega)]);rw[e];exact(.mk [] [] zz20 zz21 rfl rfl rfl)⟩
  first|cases c21|(have h:=bnt c21;cases h)|(have h:=bnf c21;cases h)|try rw[c21]
  try simp at c21
 try simp at c14
 refine .exit ?_
 refine⟨_,zz4,rfl,?_⟩
 have e:segS C a i=segS C a b:=by
  rcases him with h|h
  ·rw[show i=b by omega]
  subst h
  by_cases hb1:b=a+1
  ·rw[hb1]
  rw[segS,segS,zwi,show b=a by omega]
  have:(C.take a).drop a=[]:=List.drop_eq_nil_of_le (by rw[List.length_take];omega)
  rw[this]
  simp[srtL]
 rw[e];rfl
theorem z2s (C:List (List Int))(m a b:Nat)(hab:a≤b)(hbm:b≤m)(hm:m≤C.length)(hl:C.length<4294967296)(hC:∀c∈C,c.length<4294967296):zbj prog 218 [.sub 0 0 m,.int .i64 a,.int .i64 b,.func 184 [] []] ⟨3,[(0,.arr false 1 (C.map eS))]⟩ fun v vh'=>v=.tup []∧∃n,vh'=⟨n,[(0,.arr false 1 ((segS C a b).map eS))]⟩:=
 zbj.only (p218 C m a b hab hbm hm hl hC) fun v vh' ⟨h1,h2⟩=>⟨_,zvf h2,rfl,h1,_,rfl⟩
theorem p202 (C:List (List Int))(m:Nat)(hm:m≤C.length)(hm2:m<20)(hl:C.length<4294967296)(hC:∀c∈C,c.length<4294967296):zbj prog 202 [.sub 0 0 m,.int .i64 m,.func 184 [] []] ⟨3,[(0,.arr false 1 (C.map eS))]⟩ fun v vh'=>v=.tup []∧vh'.get 0=some (.arr false 1 ((segS C 0 m).map eS)):=by
 refine .zah func202 rfl rfl ?_
 refine .sr ?_
 refine .sr ?_
 refine .seq (.block ?_)
 refine .zco (fun _:Unit=>([(0,.sub 0 0 m),(1,.int .i64 m),(2,.func 184 [] []),(6,.int .i64 20),(7,.int .i64 0),(8,.int .i64 20)],⟨3,[(0,.arr false 1 (C.map eS))]⟩)) (fun _=>True) (fun _=>0) () trivial (.mk [] [] zz20 zz21 rfl rfl rfl) ?_
 rintro _ _
 simp only
 refine .seq (.sr ?_)
 refine .cs ?_ ?_<;>intro c13
 ·try simp at c13
  exfalso;omega
 try simp at c13
 refine .exit (.seq ?_)
 refine .zac [0,1,2,3,4] rfl zz0 ?_
 refine .rn [0,1,2,3] _ ?_
 refine .step rfl rfl (.call rfl rfl rfl call218 (by decide) (((z2s C m 0 m (Nat.zero_le _) (Nat.le_refl _) hm hl hC)).mono ?_))
 rintro _ _ ⟨rfl,n,rfl⟩
 refine .done (.block ?_)
 refine .zco (fun _:Unit=>([(0,.sub 0 0 m),(1,.int .i64 m),(2,.func 184 [] []),(6,.int .i64 20)],⟨3,[(0,.arr false 1 ((segS C 0 m).map eS))]⟩)) (fun _=>True) (fun _=>0) () trivial (.mk [] [] zz20 zz21 rfl rfl rfl) ?_
 rintro _ _
 simp only
 refine .seq (.sr ?_)
 refine .cs ?_ ?_<;>intro c30
 ·try simp at c30
  exfalso;omega
 try simp at c30
 refine .exit ?_
 exact⟨_,zz4,rfl,rfl⟩
theorem p183 (C:List (List Int))(hm2:C.length<20)(hC:∀c∈C,c.length<4294967296):zbj prog 183 [.sub 0 0 C.length,.func 184 [] []] ⟨3,[(0,.arr false 1 (C.map eS))]⟩ fun v vh'=>v=.tup []∧vh'.get 0=some (.arr false 1 ((srtL C).map eS)):=by
 have e:segS C 0 C.length=srtL C:=by unfold segS;simp
 refine .zah func183 rfl rfl ?_
 refine .zac [0,1,2,3,4] rfl zz0 ?_
 refine .rn [0,1,2,3] _ ?_
 refine .step rfl rfl (.call rfl rfl rfl call202 (by decide) (((p202 C C.length (Nat.le_refl _) hm2 (by omega) hC)).mono ?_))
 rintro _ vh1 ⟨rfl,hg⟩
 rw[e] at hg
 refine .done ?_
 exact⟨_,zz4,rfl,hg⟩
theorem xb0 (C:List (List Int))(hm2:C.length<20)(hC:∀c∈C,c.length<4294967296):zbj prog 183 [.sub 0 0 C.length,.func 184 [] []] ⟨3,[(0,.arr false 1 (C.map eS))]⟩ fun v vh'=>v=.tup []∧∃n,vh'=⟨n,[(0,.arr false 1 ((srtL C).map eS))]⟩:=
 zbj.only (p183 C hm2 hC) fun v vh' ⟨h1,h2⟩=>⟨_,zvf h2,rfl,h1,_,rfl⟩
theorem p205 (k:List Int)(n:Int):zat prog 205 [.vmap (mp k),.vp [.func 115 [] []],.vp [.int .i64 n]] fun r=>r=.bool (decide (n∈k)):=by
 refine .zah func205 rfl rfl ?_
 refine .sr ?_
 refine .seq ?_
 refine .zac [0,1,2,3,4] rfl zz0 ?_
 refine .rn [0,1,2] _ ?_
 refine .pc rfl rfl rfl rfl rfl call115 (p115 k n) ?_
 refine .rn [4] [] ?_
 refine .done (.ret ?_)
 refine⟨_,_,zz4,zz4,?_⟩
 first|rfl|(simp[*];done)|(simp_all;done)
theorem p220 {α:Type}(l:List α)(enc:α→PV)(p:α→Bool)(f:FuncId)(xs ys:List PV)(hl:l.length<4294967296)(he:∀a,(enc a).cells=[enc a])(hx:PV.allF xs=true)(hy:PV.allF ys=true)(hF:∀a,(enc a).isF=true)(hcf:∀cs w,(callFunc f cs).run prog w=.ok (.enter f cs) w)(hp:∀a∈l,zat prog f (xs++[enc a]++ys) fun r=>r=.bool (p a)):zat prog 220 [.vec (l.map enc),.func f xs ys] fun r=>r=.int .i64 (idxF p 0 l):=by
 refine .zah func220 rfl rfl ?_
 refine .sr ?_
 refine .seq (.sr ?_)
 refine .block ?_
 refine .zco (fun s:Nat=>([(0,.vec (l.map enc)),(1,.func f xs ys),(7,.int .i64 l.length),(8,.int .i64 s)],zab.empty)) (fun s=>s≤l.length∧idxF p s (l.drop s)=idxF p 0 l) (fun s=>l.length - s) 0 ⟨by simp,by simp⟩ (.pure (by simp[*]) (by simp)) ?_
 rintro i ⟨hi,hr⟩
 simp only at hi hr ⊢
 refine .sr ?_
 refine .seq ?_
 refine .cs ?_ ?_<;>intro c9
 ·try simp at c9
  have hw2:=wr1 i
  rw[zgx p l i c9] at hr
  have he:=he l[i]
  have hp:=hp l[i] (List.getElem_mem c9)
  refine .skip (.seq (.block (.sr ?_)))
  refine .seq ?_
  refine .zac [0,1,2,3,4,5] rfl zz0 ?_
  refine .rn [0,1,2,3,4] _ ?_
  refine .step rfl rfl (.pure rfl rfl rfl hcf (by decide) (hp) (by first|rfl|simp[*]) ?_)
  rintro _ rfl
  refine .done ?_
  refine .cs ?_ ?_<;>intro c16
  ·try simp at c16
   refine .sr ?_
   refine .ret ?_
   refine⟨_,_,zz4,zz4,?_⟩
   rw[← hr,if_pos c16]
  try simp at c16
  refine .skip (.rn ?_)
  refine⟨i+1,⟨zz5,?_⟩,zz5,.pure (by simp[*]) (by simp)⟩
  rw[← hr,if_neg (by simp[c16])]
 try simp at c9
 have:i=l.length:=by omega
 refine .exit (.sr ?_)
 refine .ret ?_
 refine⟨_,_,zz4,zz4,?_⟩
 rw[← hr,this,List.drop_length];rfl
theorem p204 {α:Type}(l:List α)(enc:α→PV)(p:α→Bool)(f:FuncId)(xs ys:List PV)(hl:l.length<4294967296)(he:∀a,(enc a).cells=[enc a])(hx:PV.allF xs=true)(hy:PV.allF ys=true)(hF:∀a,(enc a).isF=true)(hcf:∀cs w,(callFunc f cs).run prog w=.ok (.enter f cs) w)(hp:∀a∈l,zat prog f (xs++[enc a]++ys) fun r=>r=.bool (p a)):zat prog 204 [.vec (l.map enc),.func f xs ys] fun r=>r=.bool (l.any p):=by
 refine .zah func204 rfl rfl ?_
 refine .sr ?_
 refine .seq ?_
 refine .zac [0,1,2,3,4] rfl zz0 ?_
 refine .rn [0,1] _ ?_
 refine .pc rfl rfl rfl rfl rfl call220 (p220 l enc p f xs ys hl he hx hy hF hcf hp) ?_
 refine .rn [3,4] [] ?_
 refine .done (.ret ?_)
 refine⟨_,_,zz4,zz4,?_⟩
 rw[← zlx _ l 0]
theorem p203 (n:Int)(k:List Int):zat prog 203 [.int .i64 n,.vp [.vec [.vmap (mp k)]],.vp [.func 115 [] []]] fun r=>r=.bool (!decide (n∈k)):=by
 refine .zah func203 rfl rfl ?_
 refine .sr ?_
 refine .seq ?_
 refine .zac [0,1,2,3,4] rfl zz0 ?_
 refine .rn [0,1] _ ?_
 refine .step rfl rfl (.borrow rfl rfl rfl call204 (by decide) (by first|(simp<;>rfl)|(simp[*]<;>rfl)|(simp[*];done)) (p204 [k] (fun k=>.vmap (mp k)) (fun k=>decide (n∈k)) 205 [] [.vp [.func 115 [] []],.vp [.int .i64 n]] (by simp) (fun _=>rfl) rfl rfl (fun _=>rfl) call205 (fun k _=>p205 k n)) (by rintro _ rfl<;>first|(simp;done)|rfl) ?_)
 rintro _ rfl
 refine .rn [3,4] [] ?_
 refine .done (.ret ?_)
 refine⟨_,_,zz4,zz4,?_⟩
 first|rfl|(simp[*];done)|(simp_all;done)
theorem p185 (l:List Int)(k:List Int)(hl:l.length<4294967296):zat prog 185 [ints l,.vec [.vmap (mp k)]] fun r=>r=.bool (l.all fun n=>decide (n∈k)):=by
 refine .zah func185 rfl rfl ?_
 refine .sr ?_
 refine .sr ?_
 refine .seq ?_
 refine .zac [0,1,2,3,4] rfl zz0 ?_
 refine .rn [0,1] _ ?_
 refine .step rfl rfl (.borrow rfl rfl rfl call169 (by decide) (by first|(simp<;>rfl)|(simp[*]<;>rfl)|(simp[*];done)) (p169 l (PV.int .i64) (fun n=>!decide (n∈k)) 203 [] [.vp [.vec [.vmap (mp k)]],.vp [.func 115 [] []]] hl (fun _=>rfl) rfl rfl (fun _=>rfl) call203 (fun n _=>p203 n k)) (by rintro _ rfl<;>first|(simp;done)|rfl) ?_)
 rintro _ rfl
 refine .rn [3,4] [] ?_
 refine .done (.ret ?_)
 refine⟨_,_,zz4,zz4,?_⟩
 first|rfl|(simp[List.all_eq_not_any_not];done)|simp[List.all_eq_not_any_not]
theorem xc8 (l:List Int)(hne:0<l.length)(hl:l.length<4294967296):zat prog 167 [ints l] fun r=>r=ints l:=by
 obtain⟨a,r,rfl⟩:∃a r,l=a::r:=by
  cases l with
  |nil=>simp at hne
  |cons a r=>exact⟨a,r,rfl⟩
 have h1:r.length+1≤4294967296:=by simp at hl;omega
 have h2:r.length≤4294967295:=by omega
 have hS:zfu 1 (PV.int .i64 a::r.map (PV.int .i64))=true:=zqo .i64 (a::r)
 have hO:zdr (PV.int .i64 a::r.map (PV.int .i64))=true:=zov .i64 (a::r)
 refine .zah func167 rfl rfl ?_
 refine .sr ?_
 refine .seq (.seq ?_)
 refine .run zz0 (by simp[ints, *]<;>first|exact⟨rfl,rfl⟩|exact rfl) ?_
 refine .zd3 rfl (.skip (.seq ?_))
 refine .run zz0 (by simp[ints, *]<;>first|exact⟨rfl,rfl⟩|exact rfl) ?_
 refine .ret ?_
 exact⟨_,_,zz4,zz4,rfl⟩
theorem z8f (l:List Int)(hl:l.length<4294967296):zat prog 167 [ints l] fun r=>r=ints l:=by
 rcases Nat.eq_zero_or_pos l.length with h0|h0
 ·have:l=[]:=List.eq_nil_of_length_eq_zero h0
  subst this;exact z8o
 exact xc8 l h0 hl
def allG (vh':zab):List (Nat×VObj)→Prop
 |[]=>True
 |(i,x)::r=>vh'.get i=some x∧allG vh' r
theorem zrj {vh':zab}:∀ {l:List (Nat×VObj)},allG vh' l→∀j y,(⟨vh'.next,l⟩:zab).get j=some y→vh'.get j=some y
 |[],_,j,y,h=>by cases h
 |(i,x)::r,hl,j,y,h=>by
  simp only[zab.get,zce,beq_eq] at h
  by_cases h0:j=i
  ·subst h0;simp at h;subst h;exact hl.1
  simp[h0] at h;exact zrj hl.2 j y h
theorem z2r {F:List (List Int)}{l:List Int}(h:l≠[]):(F++[l]).map eS=F.map eS++[ints l]:=by rw[List.map_append,List.map_cons,List.map_nil,xdf h]
theorem xbh (F:List (List Int))(l:List Int)(hF:F.length<4294967296)(hFl:∀x∈F,x.length<4294967296)(hl:l.length<4294967296):zbj prog 179 [.grow 2 F.length false,.func 180 [] [.ptr 3 0]] ⟨4,[(3,.box [ints l]),(2,.grow 1 (F.map eS)),(1,.box [.grow 2 F.length false]),(0,.box [.sl0])]⟩ fun v vh'=>v=.tup [fstL (fun x=>decide (x=l)) F,.int .i64 (idxF (fun x=>decide (x=l)) 0 F)]∧vh'=⟨4,[(3,.box [ints l]),(2,.grow 1 (F.map eS)),(1,.box [.grow 2 F.length false]),(0,.box [.sl0])]⟩:=by
 refine .zah func179 rfl rfl ?_
 refine .sr ?_
 refine .seq (.sr ?_)
 refine .block ?_
 refine .zco (fun s:Nat=>([(1,.func 180 [] [.ptr 3 0]),(9,.grow 2 F.length false),(10,.int .i64 F.length),(11,.int .i64 s)],⟨4,[(3,.box [ints l]),(2,.grow 1 (F.map eS)),(1,.box [.grow 2 F.length false]),(0,.box [.sl0])]⟩)) (fun s=>s≤F.length∧idxF (fun x=>decide (x=l)) s (F.drop s)=idxF (fun x=>decide (x=l)) 0 F∧fstL (fun x=>decide (x=l)) (F.drop s)=fstL (fun x=>decide (x=l)) F) (fun s=>F.length - s) 0 ⟨by simp,by simp,by simp⟩ (.mk [] [] zz20 zz21 rfl rfl rfl) ?_
 rintro i ⟨hi,hr,hr2⟩
 simp only at hi hr hr2 ⊢
 refine .sr ?_
 refine .seq ?_
 refine .cs ?_ ?_<;>intro c12
 ·try simp at c12
  have hw2:=wr1 i
  rw[zgx (fun x=>decide (x=l)) F i c12] at hr
  rw[zw1 (fun x=>decide (x=l)) F i c12] at hr2
  have hFi:=hFl F[i] (List.getElem_mem c12)
  refine .skip (.seq (.block (.seq ?_)))
  refine .zac [0,1,2,3,4] rfl zz0 ?_
  refine .rn [0] _ ?_
  refine .step rfl rfl (.idxG (q:=i) rfl rfl rfl rfl c12 (by decide) ?_)
  refine .step rfl rfl (.ldG1 (q:=i) (es:=F.map eS) rfl rfl rfl (by rw[List.getElem?_map,List.getElem?_eq_getElem c12];rfl) (zu8 _) rfl (by decide) ?_)
  refine .rn [3,4] [] ?_
  refine .done (.seq ?_)
  refine .zac [0,1,2] rfl zz0 ?_
  refine .rn [0,1] _ ?_
  refine .step rfl rfl (.borrow rfl rfl rfl call180 (by decide) (by first|(simp<;>rfl)|(simp[*]<;>rfl)|(simp[*];done)) (xc3 F[i] l hFi hl) (by rintro _ rfl<;>first|(simp;done)|rfl) ?_)
  rintro _ rfl
  refine .done ?_
  refine .cs ?_ ?_<;>intro c18
  ·try simp at c18
   refine .sr ?_
   refine .ret ?_
   exact⟨_,zz4,by rw[← hr,if_pos (by simp[c18]),← hr2,if_pos (by simp[c18]),c18]<;>rfl,rfl⟩
  try simp at c18
  refine .skip (.rn ?_)
  refine⟨i+1,⟨zz5,?_,?_⟩,zz5,(.mk [] [] zz20 zz21 rfl rfl rfl)⟩
  ·rw[← hr,if_neg (by simp[c18])]
  rw[← hr2,if_neg (by simp[c18])]
 try simp at c12
 have:i=F.length:=by omega
 refine .exit (.sr ?_)
 refine .sr ?_
 refine .ret ?_
 exact⟨_,zz4,by rw[← hr,← hr2,this,List.drop_length];rfl,rfl⟩
theorem xc0 (F:List (List Int))(l:List Int)(hF:F.length<4294967296)(hFl:∀x∈F,x.length<4294967296)(hl:l.length<4294967296)(h:l∈F):zbj prog 178 [ints l,.ptr 1 0] ⟨3,[(2,.grow 1 (F.map eS)),(1,.box [.grow 2 F.length false]),(0,.box [.sl0])]⟩ fun v vh'=>v=.tup []∧vh'=⟨4,[(3,.box [ints l]),(2,.grow 1 (F.map eS)),(1,.box [.grow 2 F.length false]),(0,.box [.sl0])]⟩:=by
 have hx:0≤idxF (fun x=>decide (x=l)) 0 F:=by
  rcases zna (fun x=>decide (x=l)) F 0 with⟨_,h2⟩|⟨h2,_⟩
  ·rw[List.any_eq_false] at h2;exact absurd (decide_eq_true rfl) (h2 l h)
  omega
 refine .zah func178 rfl rfl ?_
 refine .sr ?_
 refine .seq ?_
 refine .zac [0,1,2,3,4,5,6,7] rfl zz0 ?_
 refine .rn [0,1] _ ?_
 refine .step rfl rfl (.call rfl rfl rfl call179 (by decide) (((xbh F l hF hFl hl)).mono ?_))
 rintro _ _ ⟨rfl,rfl⟩
 refine .rn [3,4,5,6,7] [] ?_
 refine .done (.sr ?_)
 refine .cs ?_ ?_<;>intro c12
 ·try simp at c12
  exfalso;omega
 try simp at c12
 refine .skip ?_
 exact⟨_,zz4,rfl,rfl⟩
theorem xfj (F:List (List Int))(l:List Int)(hF:F.length<4294967295)(hFl:∀x∈F,x.length<4294967296)(hl:l.length<4294967296)(h:l∉F):zbj prog 178 [ints l,.ptr 1 0] ⟨3,[(2,.grow 1 (F.map eS)),(1,.box [.grow 2 F.length false]),(0,.box [.sl0])]⟩ fun v vh'=>v=.tup []∧vh'.get 0=some (.box [.sl0])∧vh'.get 1=some (.box [.grow 5 (F.length+1) false])∧vh'.get 5=some (.grow 1 (F.map eS++[ints l])):=by
 have hx:idxF (fun x=>decide (x=l)) 0 F = -1:=by
  rcases zna (fun x=>decide (x=l)) F 0 with⟨h2,_⟩|⟨_,_,h2⟩
  ·exact h2
  rw[List.any_eq_true] at h2;obtain⟨x,h3,h4⟩:=h2;simp at h4;subst h4;exact absurd h3 h
 have hb:F.length+1≤4294967296:=by omega
 refine .zah func178 rfl rfl ?_
 refine .sr ?_
 refine .seq ?_
 refine .zac [0,1,2,3,4,5,6,7] rfl zz0 ?_
 refine .rn [0,1] _ ?_
 refine .step rfl rfl (.call rfl rfl rfl call179 (by decide) (((xbh F l (by omega) hFl hl)).mono ?_))
 rintro _ _ ⟨rfl,rfl⟩
 refine .rn [3,4,5,6,7] [] ?_
 refine .done (.sr ?_)
 refine .cs ?_ ?_<;>intro c12
 ·try simp at c12
  refine .rn ?_
  exact⟨_,zz4,rfl,by simp,by simp,by simp⟩
 try simp at c12
theorem z2u (F:List (List Int))(l:List Int)(hF:F.length<4294967296)(hFl:∀x∈F,x.length<4294967296)(hl:l.length<4294967296)(h:l∈F):zbj prog 178 [ints l,.ptr 1 0] ⟨3,[(2,.grow 1 (F.map eS)),(1,.box [.grow 2 F.length false]),(0,.box [.sl0])]⟩ fun v vh'=>v=.tup []∧∃n,vh'=⟨n,[(2,.grow 1 (F.map eS)),(1,.box [.grow 2 F.length false]),(0,.box [.sl0])]⟩:=
 zbj.only (xc0 F l hF hFl hl h) fun v vh' ⟨h1,h2⟩=>⟨⟨vh'.next,[(2,.grow 1 (F.map eS)),(1,.box [.grow 2 F.length false]),(0,.box [.sl0])]⟩,zrj (by subst h2;exact⟨rfl,rfl,rfl,trivial⟩),rfl,h1,_,rfl⟩
theorem z2j (F:List (List Int))(l:List Int)(hF:F.length<4294967295)(hFl:∀x∈F,x.length<4294967296)(hl:l.length<4294967296)(h:l∉F)(h0:l≠[]):zbj prog 178 [ints l,.ptr 1 0] ⟨3,[(2,.grow 1 (F.map eS)),(1,.box [.grow 2 F.length false]),(0,.box [.sl0])]⟩ fun v vh'=>v=.tup []∧∃n,vh'=⟨n,[(5,.grow 1 ((F++[l]).map eS)),(1,.box [.grow 5 (F++[l]).length false]),(0,.box [.sl0])]⟩:=
 zbj.only (xfj F l hF hFl hl h) fun v vh' ⟨h1,h2,h3,h4⟩=>⟨⟨vh'.next,[(5,.grow 1 ((F++[l]).map eS)),(1,.box [.grow 5 (F++[l]).length false]),(0,.box [.sl0])]⟩,zrj ⟨by rw[z2r h0];exact h4,by rw[List.length_append,List.length_singleton];exact h3,h2,trivial⟩,rfl,h1,_,rfl⟩
def zcf (b:Br):PV:=.agg [.int .i64 b.above,ints b.slips,ints b.cops]
@[simp] theorem z4f (b:Br):(zcf b).cells=[.int .i64 b.above,ints b.slips,ints b.cops]:=rfl
@[simp] theorem zys (b:Br):(zcf b).isF=true:=by simp[zcf]
@[simp] theorem zsf (s:List Br):zfu 3 (s.map zcf)=true:=zf7 (f:=zcf) (n:=3) (fun _=>rfl) s
@[simp] theorem zlj (s:List Br):zdr (s.map zcf)=true:=zfi (f:=zcf) (fun _=>by simp[PV.one]) s
def encT (T:List Br):PV:=.agg [.vec (T.map zcf)]
@[simp] theorem xbw (T:List Br):(encT T).isF=true:=by simp[encT]
def exL (s:List Wit)(l:List Int):List Int:=((s.filter fun w=>decide (w.slips=l)).map Wit.id).mergeSort fun x y=>decide (x≤y)
def slC (s:List Wit):List (List Int):=s.map Wit.slips
def zfx (C:List (List Int))(F:List (List Int))(c:List Int)(j:Nat):List (List Int):=(C.take j).foldl (fun f d=>addL f (com c d)) F
theorem zkn {C F:List (List Int)}{c:List Int}{j:Nat}(h:j<C.length):zfx C F c (j+1)=addL (zfx C F c j) (com c C[j]):=by
 unfold zfx;rw[List.take_succ_eq_append_getElem h,List.foldl_append];rfl
theorem zkq {C:List (List Int)}{k:Nat}(h:k<C.length):zef C (k+1)=zfx C (addL (zef C k) C[k]) C[k] k:=by
 have e:C.getD k []=C[k]:=by rw[List.getD_eq_getElem?_getD,List.getElem?_eq_getElem h];rfl
 show stepT C (zef C k) k=_
 unfold stepT zfx;rw[e]
theorem zsw {F:List (List Int)}{l:List Int}(h:l∈F):addL F l=F:=if_pos h
theorem zo7 {F:List (List Int)}{l:List Int}(h:l∉F):addL F l=F++[l]:=if_neg h
theorem zt9 (F:List (List Int))(l:List Int):(addL F l).length≤F.length+1:=by
 unfold addL;split
 ·omega
 simp
theorem zke (C F:List (List Int))(c:List Int):∀j,(zfx C F c j).length≤F.length+j
 |0=>by simp[zfx]
 |j+1=>by
  have ih:=zke C F c j
  rcases Nat.lt_or_ge j C.length with h|h
  ·rw[zkn h]
   have:=zt9 (zfx C F c j) (com c C[j])
   omega
  have:zfx C F c (j+1)=zfx C F c j:=by
   unfold zfx;rw[List.take_of_length_le (by omega),List.take_of_length_le h]
  rw[this];omega
theorem zr1 {C:List (List Int)}(hC:C.length≤24):∀k,k≤C.length→(zef C k).length≤1+30*k
 |0,_=>by simp[zef]
 |k+1,hk=>by
  have ih:=zr1 hC k (by omega)
  rw[zkq (by omega)]
  have h1:=zke C (addL (zef C k) C[k]) C[k] k
  have h2:=zt9 (zef C k) C[k]
  omega
theorem z0x {F:List (List Int)}{l:List Int}{n:Nat}(hF:∀x∈F,x.length≤n)(hl:l.length≤n):∀x∈addL F l,x.length≤n:=fun x hx=>by
 rcases zpp.1 hx with h|rfl
 ·exact hF x h
 exact hl
theorem zsc (a b:List Int):(com a b).length≤a.length:=List.length_filter_le _ _
theorem zm0 {C F:List (List Int)}{c:List Int}{n:Nat}(hF:∀x∈F,x.length≤n)(hc:c.length≤n)(j:Nat):∀x∈zfx C F c j,x.length≤n:=fun x hx=>by
 rcases zjr.1 hx with h|⟨d,_,rfl⟩
 ·exact hF x h
 exact Nat.le_trans (zsc c d) hc
theorem zj5 {C:List (List Int)}{n:Nat}(hC:∀x∈C,x.length≤n):∀k,k≤C.length→∀x∈zef C k,x.length≤n
 |0,_=>by simp[zef]
 |k+1,hk=>by
  rw[zkq (by omega)]
  exact zm0 (z0x (zj5 hC k (by omega)) (hC _ (List.getElem_mem _))) (hC _ (List.getElem_mem _)) k
theorem zrw {C:List (List Int)}{k:Nat}(hk:k≤C.length):[]∈zef C k:=(zfo C hk).2 (.inl rfl)
theorem zq2 {C F:List (List Int)}{c:List Int}(h:[]∈F)(j:Nat):[]∈zfx C F c j:=zjr.2 (.inl h)
def abJ (F:List (List Int))(k j:Nat):Int:=(List.range j).foldl (fun (a:Int) (i:Nat)=>if (F.getD i []).all (fun n=>decide (n∈F.getD k []))=true then (i:Int) else a) (-1)
theorem z0a (F:List (List Int))(k j:Nat):abJ F k (j+1)=if (F.getD j []).all (fun n=>decide (n∈F.getD k []))=true then (j:Int) else abJ F k j:=by
 unfold abJ;rw[List.range_succ,List.foldl_append];rfl
def brT (e:List Int→List Int)(F:List (List Int))(k:Nat):Br:=⟨abF F k,F.getD k [],e (F.getD k [])⟩
def brL (e:List Int→List Int)(F:List (List Int))(k:Nat):List Br:=(List.range k).map (brT e F)
theorem z3n (e:List Int→List Int)(F:List (List Int))(k:Nat):(brL e F k).length=k:=by unfold brL;rw[List.length_map,List.length_range]
theorem z0o (e:List Int→List Int)(F:List (List Int))(k:Nat):brL e F (k+1)=brL e F k++[brT e F k]:=by unfold brL;rw[List.range_succ,List.map_append];rfl
theorem xaw {e:List Int→List Int}{F:List (List Int)}{k j:Nat}(h:j<k):(brL e F k)[j]?=some (brT e F j):=by
 unfold brL
 rw[List.getElem?_map,List.getElem?_range h];rfl
theorem zuk:∀ {L:List Br} {j:Nat} {b:Br},L[j]?=some b→((L.map zcf).flatMap PV.cells)[j*3+1]?=some (ints b.slips)
 |[],j,b,h=>by simp at h
 |a::r,0,b,h=>by simp at h;subst h;rfl
 |a::r,j+1,b,h=>by
  have ih:=zuk (L:=r) (j:=j) (b:=b) (by simpa using h)
  rw[List.map_cons,List.flatMap_cons,show (j+1)*3+1=(j*3+1)+3 by omega,List.getElem?_append_right (by simp)]
  simpa using ih
theorem zu0 (x l:List Int):(x.all fun n=>decide (n∈setK [l]))=x.all fun n=>decide (n∈l):=by
 congr 1;funext n;rw[decide_eq_decide,zly];simp
theorem z1o {F:List (List Int)}(h0:0<F.length){vh:zab}{n2:Nat}{D:Nat→Bool}{ρ:Nat→Nat}:AltO vh n2 D ρ (.grow 1 (F.map eS)) (.arr false 1 (F.map eS)):=by
 refine⟨rfl,?_,?_⟩
 ·cases F with
  |nil=>simp at h0
  |cons a r=>exact⟨_,_,rfl⟩
 rw[List.flatMap_map]
 clear h0
 induction F with
 |nil=>rfl
 |cons a r ih=>rw[List.flatMap_cons,ih];simp
end Go.Am.Ds
end
