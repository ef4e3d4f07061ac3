/-
 What is used in the proof of a statement (part DsC); no condition.
-/
import Derived.Test.YtnablaecbohhmaaGreatDsZ
import Derived.Test.YtnablaecbohhmaaGreatVm2
import Derived.Test.YtnablaecbohhmaaGreatDsT
import Derived.Test.YtnablaecbohhmaaGreatDsB
set_option linter.all false
set_option maxHeartbeats 40000000
set_option maxRecDepth 100000
section
namespace Go.Am.Ds
open Go Go.Am Go.Proofs Tryz
attribute [local simp] vrun zay zbm vop vopA zcn zab.back hidI hidF zd4 bm Nat.testBit_eq_decide_div_mod_eq za2 zbp zck vO zbj vlen zbv zb6 zev zau zap zcx vbox zbh zeq zcb zer zcw zaw zcy zax zc0 zbi zcz zbu zbq vbnd zdh vidx zbr zee zav zbx zde zeh zfd zfa vbin vsc vsc1 vscs vscl zb8 aint zca zef zbb zdb zex pvcV pvc pvcs tput tget zdx zab.get zab.alloc zab.put zab.drop zab.empty zce vput zei zbd zcf zdu chunk List.range List.range.loop za7 zb2 za8 frz frzL PV.isF PV.allF PV.scal PV.allS retP subT zem PV.one PV.ids PV.idsL zcj beq_eq zb9 zcc
attribute [local simp] zW tup2
def encC (x:List Int×Int):PV:=.agg [ints x.1,.int .i64 x.2]
@[simp] theorem xa3 (l:List (List Int×Int)):zdt 2 (l.map encC)=true:=zga (f:=encC) (n:=2) (fun _=>rfl) l
@[simp] theorem z8u (l:List (List Int×Int)):zcm (l.map encC)=true:=zfj (f:=encC) (fun _=>rfl) l
def lowN (l:List Int)(n:Int):Nat:=match l with
 |[]=>0
 |a::r=>if a<n then lowN r n+1 else 0
def putS (l:List Int)(n:Int):List Int:=if l[lowN l n]?=some n then l else l.take (lowN l n)++[n]++l.drop (lowN l n)
theorem z0d (l:List Int)(n:Int)(i:Nat)(h:i<l.length):lowN (l.drop i) n=if l[i]<n then lowN (l.drop (i+1)) n+1 else 0:=by
 rw[List.drop_eq_getElem_cons h];rfl
theorem zji (l:List Int)(k:Nat):zdt 1 ((l.map (PV.int .i64)).take k)=true:=zxy (zkx .i64 l)
theorem zjj (l:List Int)(k:Nat):zdt 1 ((l.map (PV.int .i64)).drop k)=true:=zx0 (zkx .i64 l)
theorem zih (l:List Int)(k:Nat):zcm ((l.map (PV.int .i64)).take k)=true:=by rw[← List.map_take];exact zim .i64 _
theorem zh1 (l:List Int)(k:Nat):zcm ((l.map (PV.int .i64)).drop k)=true:=by rw[← List.map_drop];exact zim .i64 _
theorem p104 (s:List Wit)(id:Int)(hl:s.length<4294967296):zaj prog 104 [encS s,.int .i64 id] fun r=>r=.int .i64 (zsq s id):=by
 refine .zag func104 rfl rfl ?_
 refine .sr ?_
 refine .seq (.sr ?_)
 refine .block ?_
 refine .zbl (fun i:Nat=>([(1,.int .i64 id),(2,.ptr 0 0),(5,.int .i64 i)],⟨1,[(0,.box [.vec (s.map encW)])]⟩)) (fun i=>i≤s.length∧idxF (fun w:Wit=>decide (w.id=id)) i (s.drop i)=zsq s id) (fun i=>s.length - i) 0 ⟨by simp,rfl⟩ (.mk [] [] zz10 zz11 rfl rfl rfl) ?_
 rintro i ⟨hi,hr⟩
 simp only at hi hr ⊢
 refine .seq (.sr ?_)
 refine .cs ?_ ?_<;>intro c10
 ·try simp at c10
  have hw2:=wr1 i
  rw[zf8 _ s i c10] at hr
  have hE:encW s[i]=.agg [.int .i64 s[i].id,.int .i64 s[i].known,ints s[i].slips,ints s[i].mended,ints s[i].models,.int .i64 s[i].lo,.int .i64 s[i].hi]:=rfl
  refine .skip (.seq (.block (.sr ?_)))
  refine .cs ?_ ?_<;>intro c20
  ·try simp at c20
   refine .sr ?_
   refine .ret ?_
   refine⟨_,_,zz4,zz4,?_⟩
   rw[← hr,if_pos (by simp[c20])]
  try simp at c20
  refine .skip (.rn ?_)
  refine⟨i+1,⟨zz5,?_⟩,zz5,(.mk [] [] zz10 zz11 rfl rfl rfl)⟩
  rw[← hr,if_neg (by simp[c20])]
 try simp at c10
 have:i=s.length:=by omega
 refine .exit (.sr ?_)
 refine .ret ?_
 refine⟨_,_,zz4,zz4,?_⟩
 rw[← hr,this,List.drop_length];rfl
theorem p147 (l:List Int)(n:Int)(hl:l.length<4294967295):zaj prog 147 [ints l,.int .i64 n] fun r=>r=ints (putS l n):=by
 refine .zag func147 rfl rfl ?_
 refine .sr ?_
 refine .sr ?_
 refine .seq (.block ?_)
 refine .zbl (fun i:Nat=>([(0,ints l),(1,.int .i64 n),(5,.int .i64 i)],zab.empty)) (fun i=>i≤l.length∧i+lowN (l.drop i) n=lowN l n) (fun i=>l.length - i) 0 ⟨by simp,by simp⟩ (.pure (by simp[*]) (by simp)) ?_
 rintro i ⟨hi,hr⟩
 simp only at hi hr ⊢
 refine .seq (.seq ?_)
 refine .zac [0,1,2,3,4,5,6,7,8,9,10,11] rfl zz0 ?_
 refine .rn [0,1,2,3,4] _ ?_
 refine .split (t:=10) rfl (fun c10=>?_) (fun c10=>?_)
 ·try rw[c10]
  try simp at c10
  have hw2:=wr1 i
  rw[z0d l n i c10] at hr
  refine .rn [5,6,7,8,9,10,11] [] ?_
  refine .done ?_
  refine .cs ?_ ?_<;>intro c17
  ·try simp at c17
   refine .skip (.block (.rn ?_))
   refine⟨i+1,⟨zz5,?_⟩,zz5,.pure (by simp[*]) (by simp)⟩
   rw[← hr,if_pos c17];omega
  try simp at c17
  have hlow:lowN l n=i:=by rw[← hr,if_neg (by omega)];rfl
  have g1:=zji l i
  have g2:=zjj l i
  have g3:=zih l i
  have g4:=zh1 l i
  have g5:min i l.length=i:=Nat.min_eq_left hi
  have g6:i≤4294967296:=by omega
  have g7:i+1≤4294967296:=by omega
  have g8:i+1+(l.length - i)≤4294967296:=by omega
  have g9:zcm [PV.int .i64 n]=true:=rfl
  have g20:i+(l.length - i+1)=i+1+(l.length - i):=by omega
  have g10:List.take (l.length - i) (List.drop i (l.map (PV.int .i64)))=List.drop i (l.map (PV.int .i64)):=List.take_of_length_le (by simp)
  refine .exit (.seq (.seq ?_))
  refine .zac [0,1,2,3,4,5,6,7,8,9,10,11] rfl zz0 ?_
  refine .rn [0,1,2,3,4] _ ?_
  refine .split (t:=24) rfl (fun c24=>?_) (fun c24=>?_)
  ·try rw[c24]
   try simp at c24
   refine .rn [5,6,7,8,9,10,11] [] ?_
   refine .done ?_
   refine .cs ?_ ?_<;>intro c31
   ·try simp at c31
    refine .sr ?_
    refine .ret ?_
    refine⟨_,_,zz4,zz4,?_⟩
    have e:putS l n=l:=by unfold putS;rw[hlow,if_pos (by rw[List.getElem?_eq_getElem c10,c31])]
    rw[e]
   try simp at c31
   refine .skip (.seq ?_)
   refine .zp1 (ms:=[0,0,0,6,15,0,32,127,0,0,768,2047,4095]) (W:=[0,4,7,11]) (As:=[6]) (items:=[.op 1,.op 2,.op 3,.op 5,.op 6,.op 8,.op 9,.op 10,.op 0,.op 4,.op 7,.op 11,.op 12]) rfl zz0 zz0 zz0 zz0 (by decide) ?_
   iterate 4 refine .rf ?_
   refine .al rfl rfl (by decide) (by decide) (by decide) (by decide) zz1 ?_
   iterate 3 refine .rf ?_
   refine .wr rfl rfl (by decide) (.vop zz1 (by decide) ?_)
   refine .wr rfl rfl (by decide) (.vop zz1 (by decide) ?_)
   refine .wr rfl rfl (by decide) (.vop zz1 (by decide) ?_)
   refine .wr rfl rfl (by decide) (.vop zz1 (by decide) ?_)
   refine .rf ?_
   refine .done (.ret ?_)
   refine⟨_,_,zz4,(by simp[g5,g20]<;>rfl),?_⟩
   have e:putS l n=l.take i++[n]++l.drop i:=by unfold putS;rw[hlow,if_neg (by rw[List.getElem?_eq_getElem c10];simpa using c31)]
   rw[e];simp[ints]
  try rw[c24]
  try simp at c24
 try rw[c10]
 try simp at c10
 have hil:i=l.length:=by omega
 have hlow:lowN l n=i:=by rw[← hr,List.drop_of_length_le c10];rfl
 subst hil
 have g1:=zji l l.length
 have g2:=zjj l l.length
 have g3:=zih l l.length
 have g4:=zh1 l l.length
 have g6:l.length≤4294967296:=by omega
 have g7:l.length+1≤4294967296:=by omega
 have g8:l.length+1+(l.length - l.length)≤4294967296:=by omega
 have g9:zcm [PV.int .i64 n]=true:=rfl
 have g11:List.drop l.length (l.map (PV.int .i64))=[]:=List.drop_of_length_le (by simp)
 have g12:zdt 1 []=true:=rfl
 have g13:zcm []=true:=rfl
 refine .rn [5,6,7,8,9,10,11] [] ?_
 refine .done (.zjp rfl (.exit (.seq (.seq ?_))))
 refine .zac [0,1,2,3,4,5,6,7,8,9,10,11] rfl zz0 ?_
 refine .rn [0,1,2,3,4] _ ?_
 refine .split (t:=24) rfl (fun c24=>?_) (fun c24=>?_)
 ·try rw[c24]
  try simp at c24
 try rw[c24]
 try simp at c24
 refine .rn [5,6,7,8,9,10,11] [] ?_
 refine .done (.zjp rfl (.skip (.seq ?_)))
 refine .zp1 (ms:=[0,0,0,6,15,0,32,127,0,0,768,2047,4095]) (W:=[0,4,7,11]) (As:=[6]) (items:=[.op 1,.op 2,.op 3,.op 5,.op 6,.op 8,.op 9,.op 10,.op 0,.op 4,.op 7,.op 11,.op 12]) rfl zz0 zz0 zz0 zz0 (by decide) ?_
 iterate 4 refine .rf ?_
 refine .al rfl rfl (by decide) (by decide) (by decide) (by decide) zz1 ?_
 iterate 3 refine .rf ?_
 refine .wr rfl rfl (by decide) (.vop zz1 (by decide) ?_)
 refine .wr rfl rfl (by decide) (.vop zz1 (by decide) ?_)
 refine .wr rfl rfl (by decide) (.vop zz1 (by decide) ?_)
 refine .wr rfl rfl (by decide) (.vop zz1 (by decide) ?_)
 refine .rf ?_
 refine .done (.ret ?_)
 refine⟨_,_,zz4,zz4,?_⟩
 have e:putS l n=l++[n]:=by unfold putS;rw[hlow,if_neg (by rw[List.getElem?_eq_none (Nat.le_refl _)];simp)];simp
 rw[e];simp[ints]
theorem zrk (l:List Int)(n:Int):(putS l n).length≤l.length+1:=by
 unfold putS
 split
 ·omega
 simp;omega
theorem z3p {l:List Int}{n m:Int}(h:m∈putS l n):m∈l∨m=n:=by
 unfold putS at h
 split at h
 ·exact .inl h
 rcases List.mem_append.1 h with h|h
 ·rcases List.mem_append.1 h with h|h
  ·exact .inl (List.mem_of_mem_take h)
  exact .inr (by simpa using h)
 exact .inl (List.mem_of_mem_drop h)
end Go.Am.Ds
end
section
namespace Go.Am.Ds
open Go Go.Am Go.Proofs
attribute [local simp] vrun zay zbm vop vopA zcn zab.back hidI hidF zd4 bm Nat.testBit_eq_decide_div_mod_eq za2 zbp zck vO zbj vlen zbv zb6 zev zau zap zcx vbox zbh zeq zcb zer zcw zaw zcy zax zc0 zbi zcz zbu zbq vbnd zdh vidx zbr zee zav zbx zde zeh zfd zfa vbin vsc vsc1 vscs vscl zb8 aint zca zef zbb zdb zex pvcV pvc pvcs tput tget zdx zab.get zab.alloc zab.put zab.drop zab.empty zce vput zei zbd zcf zdu chunk List.range List.range.loop za7 zb2 za8 frz frzL PV.isF PV.allF PV.scal PV.allS retP subT zem PV.one PV.ids PV.idsL zcj beq_eq zb9 zcc
attribute [local simp] zW tup2
end Go.Am.Ds
end
/-
 Descent: what the program says of models is what the reference says.
-/
section
namespace Go.Am.Ds
open Go Go.Am Go.Proofs
theorem zl3:∀ {l:List Wit} {seen:List Int},zgs l seen=0→(l.map Wit.id).Nodup∧∀w∈l,w.id∉seen
 |[],_,_=>⟨.nil,fun w hw=>by cases hw⟩
 |a::r,seen,h=>by
  simp only[zgs] at h
  split at h
  ·split at h
   ·simp at h
   rename_i hn
   obtain⟨h1,h2⟩:=zl3 h
   refine⟨?_,fun w hw=>?_⟩
   ·rw[List.map_cons,List.nodup_cons]
    refine⟨fun hm=>?_,h1⟩
    obtain⟨w,hw,he⟩:=List.mem_map.1 hm
    exact h2 w hw ((zqo _ _ _).2 (.inr he))
   rcases List.mem_cons.1 hw with rfl|hw
   ·exact hn
   exact fun hs=>h2 w hw ((zqo _ _ _).2 (.inl hs))
  rename_i h0;exact absurd h h0
theorem zcg {s:List Wit}(h:zai s=0):(s.map Wit.id).Nodup:=by
 unfold zai at h
 split at h
 ·simp at h
 exact(zl3 h).1
theorem zx1 {s:List Wit}(h:zai s=0):∀w∈s,0<w.id:=fun w hw=>by
 have:=(zbc h).2 w hw
 unfold witE at this
 split at this
 ·cases this
 omega
theorem zoo:∀ {l m:List Int},l.Pairwise (·<·)→m.Pairwise (·<·)→(∀x,x∈l↔x∈m)→l=m
 |[],[],_,_,_=>rfl
 |[],b::s,_,_,h=>absurd ((h b).2 List.mem_cons_self) (by simp)
 |a::r,[],_,_,h=>absurd ((h a).1 List.mem_cons_self) (by simp)
 |a::r,b::s,hl,hm,h=>by
  rw[List.pairwise_cons] at hl hm
  have h1:a=b:=by
   rcases List.mem_cons.1 ((h a).1 List.mem_cons_self) with h1|h1
   ·exact h1
   rcases List.mem_cons.1 ((h b).2 List.mem_cons_self) with h2|h2
   ·exact h2.symm
   have:=hl.1 b h2
   have:=hm.1 a h1
   omega
  subst h1
  rw[zoo hl.2 hm.2 fun x=>⟨fun hx=>?_,fun hx=>?_⟩]
  ·rcases List.mem_cons.1 ((h x).1 (List.mem_cons_of_mem _ hx)) with rfl|h2
   ·have:=hl.1 x hx;omega
   exact h2
  rcases List.mem_cons.1 ((h x).2 (List.mem_cons_of_mem _ hx)) with rfl|h2
  ·have:=hm.1 x hx;omega
  exact h2
theorem zte (n:Int):∀(l:List Int),l.Pairwise (·<·)→(∀x∈l.take (lowN l n),x<n)∧(∀x∈l.drop (lowN l n),n≤x)
 |[],_=>⟨fun x hx=>by simp[lowN] at hx,fun x hx=>by simp at hx⟩
 |a::r,h=>by
  rw[List.pairwise_cons] at h
  obtain⟨h1,h2⟩:=zte n r h.2
  simp only[lowN]
  by_cases ha:a<n
  ·rw[if_pos ha]
   refine⟨fun x hx=>?_,fun x hx=>?_⟩
   ·rw[List.take_succ_cons] at hx
    rcases List.mem_cons.1 hx with rfl|hx
    ·exact ha
    exact h1 x hx
   rw[List.drop_succ_cons] at hx;exact h2 x hx
  rw[if_neg ha]
  refine⟨fun x hx=>by simp at hx,fun x hx=>?_⟩
  rw[List.drop_zero] at hx
  rcases List.mem_cons.1 hx with rfl|hx
  ·omega
  have:=h.1 x hx;omega
theorem zq9 {l:List Int}{n m:Int}:m∈putS l n↔m∈l∨m=n:=by
 refine⟨z3p,fun h=>?_⟩
 unfold putS
 split
 ·rename_i hg
  rcases h with h|h
  ·exact h
  rw[h];exact List.mem_of_getElem? hg
 rcases h with h|h
 ·rw[← List.take_append_drop (lowN l n) l] at h
  rcases List.mem_append.1 h with h|h
  ·exact List.mem_append_left _ (List.mem_append_left _ h)
  exact List.mem_append_right _ h
 exact List.mem_append_left _ (List.mem_append_right _ (by simp[h]))
theorem zj6 {l:List Int}{n:Int}(h:l.Pairwise (·<·)):(putS l n).Pairwise (·<·):=by
 unfold putS
 split
 ·exact h
 rename_i hg
 obtain⟨h1,h2⟩:=zte n l h
 have h3:∀x∈l.drop (lowN l n),n<x:=fun x hx=>by
  have h4:=h2 x hx
  rcases Int.lt_or_eq_of_le h4 with h5|h5
  ·exact h5
  exfalso
  cases hd:l.drop (lowN l n) with
  |nil=>rw[hd] at hx;cases hx
  |cons b r=>
   have hb:l[lowN l n]?=some b:=by
    have:=congrArg (·[0]?) hd
    simpa using this
   rw[hd] at hx h2
   have hbn:=h2 b List.mem_cons_self
   have hs:(b::r).Pairwise (·<·):=hd▸h.sublist (List.drop_sublist _ _)
   rw[List.pairwise_cons] at hs
   rcases List.mem_cons.1 hx with h6|h6
   ·exact hg (by rw[hb,← h6,h5])
   have:=hs.1 x h6;omega
 have ht:=h.sublist (List.take_sublist (lowN l n) l)
 have hd:=h.sublist (List.drop_sublist (lowN l n) l)
 rw[List.pairwise_append,List.pairwise_append]
 refine⟨⟨ht,by simp,fun a ha b hb=>?_⟩,hd,fun a ha b hb=>?_⟩
 ·rw[List.mem_singleton] at hb;rw[hb];exact h1 a ha
 have hb':=h3 b hb
 rcases List.mem_append.1 ha with ha|ha
 ·have:=h1 a ha;omega
 rw[List.mem_singleton] at ha;omega
theorem zj3 {s:List Wit}(h:(s.map Wit.id).Nodup):(idsS s).Pairwise (·<·):=by
 unfold idsS
 have h1:=List.pairwise_mergeSort (le:=fun x y:Int=>decide (x≤y)) (fun a b c h1 h2=>by simp only[decide_eq_true_eq] at *;omega) (fun a b=>by simp only[Bool.or_eq_true,decide_eq_true_eq];omega) (s.map Wit.id)
 have h2:((s.map Wit.id).mergeSort fun x y=>decide (x≤y)).Nodup:=(List.mergeSort_perm _ _).nodup_iff.2 h
 have h3:=h1.and h2
 exact h3.imp fun⟨h4,h5⟩=>by
  simp only[decide_eq_true_eq] at h4
  rcases Int.lt_or_eq_of_le h4 with h6|h6
  ·exact h6
  exact absurd h6 h5
end Go.Am.Ds
end
