/-
 What is used in the proof of a statement (part Am3); no condition.
-/
import Derived.Laws.IdiomRangeMap
import Derived.Sort.Row
import Derived.Sort.Grow
import Derived.Shelf.SortM.Plain
import Derived.Test.YtnablaecbohhmaaGreatAm2
set_option linter.all false
set_option maxHeartbeats 40000000
set_option maxRecDepth 100000
/-
 The abstract machine, part W: ranges over maps.
-/
section
namespace Go.Am
section
variable {P:Program}
theorem zho {w:World}{b:Nat}{m:Option Nat}{x y:Nat}{s:Array Nat}(h:w.heap[b]?=some (.mapIter m x s y)):(getObj b).run P w=.ok (.mapIter m x s y) w:=by simp[getObj,Sem.run,h]
theorem zhw {w:World}{b:Nat}{es:Array MapEntry}{c:Nat}(h:w.heap[b]?=some (.map es c)):(getObj b).run P w=.ok (.map es c) w:=by simp[getObj,Sem.run,h]
theorem zm4 {w:World}{b:Nat}{m:Option Nat}{x y:Nat}{s:Array Nat}(o':Obj)(h:w.heap[b]?=some (.mapIter m x s y)):(setObj b o').run P w=.ok () (w.putObj b o'):=by simp[setObj,Sem.run,h,World.putObj]
theorem ztj (w:World)(ty:TypeId)(bi bm clock:Nat)(seen:Array Nat)(es:Array MapEntry)(hi:w.heap[bi]?=some (.mapIter (some bm) clock seen clock))(hb:w.heap[bm]?=some (.map es clock))(hold:∀x∈es.toList,x.born<clock) :
  ((∀e∈es.toList,e.born∈seen.toList)∧(Instr.next (.pointer (some ⟨bi,0,none⟩)) false ty).run P w=.ok (.tuple #[.bool false]) w)∨
  ∃e∈es.toList,e.born∉seen.toList∧∃w1,(w1=w∨w1=w.drew)∧(Instr.next (.pointer (some ⟨bi,0,none⟩)) false ty).run P w=.ok (.tuple #[.bool true,e.key,e.val]) (w1.putObj bi (.mapIter (some bm) clock (seen.push e.born) clock)):=by
 have ht:=next_test_false seen es clock clock hold (Nat.le_refl _)
 simp only[Instr.next,Sem.run_bind,zho hi,zhw hb,Result.andThen_ok,ht,Bool.false_eq_true,if_false]
 have hmem:∀x∈(Array.filter (fun e=>!seen.contains e.born) es).toList,x∈es.toList∧x.born∉seen.toList:=fun x hx=>by
  simp at hx ⊢;exact hx
 have hall:∀x∈es.toList,x.born∉seen.toList→x∈(Array.filter (fun e=>!seen.contains e.born) es).toList:=fun x hx hn=>by
  simp at hx hn ⊢;exact⟨hx,hn⟩
 generalize Array.filter (fun e=>!seen.contains e.born) es=L at hmem hall ⊢
 have e1:L.filter (fun x=>decide (x.born<clock))=L:=Array.filter_eq_self.2 (fun x hx=>by simpa using hold x (hmem x (by simpa using hx)).1)
 have e2:L.filter (fun x=>decide (x.born≥clock))=#[]:=by
  rw[Array.filter_eq_empty_iff]
  intro x hx
  have:=hold x (hmem x (by simpa using hx)).1
  simp
  omega
 simp only[e1,e2,Array.append_empty]
 by_cases h0:L.size=0
 ·left
  have:L=#[]:=Array.eq_empty_of_size_eq_zero h0
  subst this
  refine⟨fun e he=>?_,?_⟩
  ·rcases Classical.em (e.born∈seen.toList) with h|h
   ·exact h
   have:=hall e he h;simp at this
  simp[choose,Sem.run,Question.forced]
 right
 have hne:L.isEmpty=false:=by simp[Array.isEmpty,h0]
 simp only[hne,Bool.false_eq_true,if_false,Array.empty_append,Array.size_map]
 have hch:∃(j:Nat) (w1:World),j<L.size∧(w1=w∨w1=w.drew)∧(choose (Question.mapNext L.size)).run P w=.ok j w1:=by
  by_cases hf:L.size≤1
  ·exact⟨0,w,by omega,.inl rfl,by simp[choose,Sem.run,Question.forced,hf]⟩
  exact⟨_,w.drew,Nat.mod_lt _ (by omega),.inr rfl,by
   simp only[choose,Sem.run,Question.forced,decide_eq_true_eq,hf,if_false,Question.cut]
   rfl⟩
 obtain⟨j,w1,hj,hal,hrun⟩:=hch
 have hj1:=hmem L[j] (by simp)
 refine⟨L[j],hj1.1,hj1.2,w1,hal,?_⟩
 have hi1:w1.heap[bi]?=some (.mapIter (some bm) clock seen clock):=by rcases hal with rfl|rfl<;>exact hi
 simp only[hrun,Array.getElem?_map,Array.getElem?_eq_getElem hj,Option.map_some,Sem.run_bind,zm4 _ hi1,Result.andThen_ok,Sem.run_pure]
theorem zq6 (w:World)(bi bm since:Nat)(seen:Array Nat)(es:Array MapEntry)(clock:Nat)(e:MapEntry)(hi:w.heap[bi]?=some (.mapIter (some bm) since (seen.push e.born) clock))(hb:w.heap[bm]?=some (.map es clock))(he:e∈es.toList)(hn:(es.toList.map (·.born)).Nodup) :
  (Instr.entry (.pointer (some ⟨bi,0,none⟩))).run P w=.ok (.tuple #[e.key,e.val]) w:=by
 have hf:es.find? (·.born==e.born)=some e:=by rw[← Array.find?_toList];exact find_born e es.toList hn he
 simp only[Instr.entry,Sem.run_bind,zho hi,zhw hb,Result.andThen_ok,Array.back?_push,bne_self_eq_false,Bool.false_eq_true,if_false,hf,Sem.run_pure]
structure Seen (l:List (Value×Value)) (ents:Array MapEntry) (vis:List (Value×Value)) (seen:Array Nat):Prop where
  sub:∀p∈vis,p∈l
  nodup:(vis.map (·.1)).Nodup
  iff:∀(i:Nat) p e,l[i]?=some p→ents[i]?=some e→(p∈vis↔e.born∈seen.toList)
theorem key_inj {l:List (Value×Value)}(hn:(l.map (·.1)).Nodup){i j:Nat}{p q:Value×Value}(hp:l[i]?=some p)(hq:l[j]?=some q)(hk:p.1=q.1):i=j:=by
 have h1:(l.map (·.1))[i]?=some p.1:=by rw[List.getElem?_map,hp];rfl
 have h2:(l.map (·.1))[j]?=some p.1:=by rw[List.getElem?_map,hq,hk];rfl
 exact(List.getElem?_inj (List.getElem?_eq_some_iff.1 h1).1 hn).1 (h1.trans h2.symm)
theorem born_inj {ents:Array MapEntry}(hn:(ents.toList.map (·.born)).Nodup){i j:Nat}{e f:MapEntry}(he:ents[i]?=some e)(hf:ents[j]?=some f)(hb:e.born=f.born):i=j:=by
 have h1:(ents.toList.map (·.born))[i]?=some e.born:=by rw[List.getElem?_map,show ents.toList[i]?=ents[i]? by simp,he];rfl
 have h2:(ents.toList.map (·.born))[j]?=some e.born:=by rw[List.getElem?_map,show ents.toList[j]?=ents[j]? by simp,hf,hb];rfl
 exact(List.getElem?_inj (List.getElem?_eq_some_iff.1 h1).1 hn).1 (h1.trans h2.symm)
theorem Seen.step {l:List (Value×Value)}{ents:Array MapEntry}{vis:List (Value×Value)}{seen:Array Nat}(s:Seen l ents vis seen)(hk:(l.map (·.1)).Nodup)(hb:(ents.toList.map (·.born)).Nodup)
  {i:Nat} {p:Value×Value} {e:MapEntry} (hp:l[i]?=some p) (he:ents[i]?=some e) (hn:e.born∉seen.toList):p∈l∧p.1∉vis.map (·.1)∧Seen l ents (vis++[p]) (seen.push e.born):=by
 have hpl:=List.mem_of_getElem? hp
 have hpv:p∉vis:=fun h=>hn ((s.iff i p e hp he).1 h)
 have hkv:p.1∉vis.map (·.1):=fun h=>by
  obtain⟨q,hq,hqk⟩:=List.mem_map.1 h
  obtain⟨j,hj⟩:=List.mem_iff_getElem?.1 (s.sub q hq)
  have:=key_inj hk hj hp hqk
  subst this
  rw[hp] at hj;injection hj with hj;subst hj
  exact hpv hq
 refine⟨hpl,hkv,⟨fun q hq=>?_,?_,fun j q f hq hf=>?_⟩⟩
 ·rcases List.mem_append.1 hq with h|h
  ·exact s.sub q h
  rw[List.mem_singleton.1 h];exact hpl
 ·rw[List.map_append,List.nodup_append]
  refine⟨s.nodup,by simp,fun a ha b hb=>?_⟩
  simp only[List.map_cons,List.map_nil,List.mem_singleton] at hb
  subst hb
  rintro rfl;exact hkv ha
 rw[Array.toList_push,List.mem_append,List.mem_append,s.iff j q f hq hf,List.mem_singleton,List.mem_singleton]
 constructor
 ·rintro (h|rfl)
  ·exact .inl h
  have:=key_inj hk hq hp rfl
  subst this
  rw[he] at hf;injection hf with hf;subst hf
  exact .inr rfl
 rintro (h|h)
 ·exact .inl h
 have:=born_inj hb hf he h
 subst this
 rw[hp] at hq;injection hq with hq;subst hq
 exact .inr rfl
theorem zcv {F:Fence}{n:Nat}{ops:Array Oper}{Q:Exit→Act→World→Prop}:∀(l l2:List Nat) (a:Act) (w:World),
  wpOpsIn F n P ops (fun e a w=>match e with|.normal=>wpOpsIn F n P ops Q l2 a w|e=>Q e a w) l a w→wpOpsIn F n P ops Q (l++l2) a w
 |[],l2,a,w,h=>h
 |i::r,l2,a,w,h=>by
  simp only[List.cons_append,wpOpsIn] at h ⊢
  cases ho:ops[i]? with
  |none=>rw[ho] at h;exact zcv r l2 a w h
  |some o=>
   rw[ho] at h
   simp only at h ⊢
   split
   ·rename_i hw
    rw[if_pos hw] at h
    refine⟨h.1,?_⟩
    have h2:=h.2
    generalize (o.semAt F.round a.eval).run P w=res at h2
    cases res with
    |ok x w'=>
     cases x<;>simp only[Oper.uponIn] at h2 ⊢ <;>
      first
       |exact zcv r l2 _ _ h2
       |exact⟨h2.1,CallsIn.mono h2.2 (fun e w'' he=>by cases e<;>first|exact zcv r l2 _ _ he|exact he)⟩
       |exact⟨h2.1,RowsIn.mono h2.2 (fun _ _ he=>zcv r l2 _ _ he)⟩
       |exact⟨h2.1,RoundIn.mono h2.2 (fun e w'' he=>by cases e<;>first|exact zcv r l2 _ _ he|exact he)⟩
    |halt x w'=>cases x<;>simp only[Oper.uponIn] at h2 ⊢ <;> exact h2
   rename_i hw
   rw[if_neg hw] at h
   exact⟨h.1,zcv r l2 _ _ h.2⟩
theorem zde {F:Fence}{n:Nat}{ops:Array Oper}{Q Q':Exit→Act→World→Prop}:∀ {l:List Nat} {a:Act} {w:World},wpOpsIn F n P ops Q l a w→(∀e a w,Q e a w→Q' e a w)→wpOpsIn F n P ops Q' l a w
 |[],a,w,h,hq=>hq _ _ _ h
 |i::r,a,w,h,hq=>by
  simp only[wpOpsIn] at h ⊢
  cases ho:ops[i]? with
  |none=>rw[ho] at h;exact zde h hq
  |some o=>
   rw[ho] at h
   simp only at h ⊢
   split
   ·rename_i hw
    rw[if_pos hw] at h
    refine⟨h.1,?_⟩
    have h2:=h.2
    have out:LetsOut Q→LetsOut Q':=fun⟨a,w,h⟩=>⟨a,w,hq _ _ _ h⟩
    generalize (o.semAt F.round a.eval).run P w=res at h2
    cases res with
    |ok x w'=>
     cases x<;>simp only[Oper.uponIn] at h2 ⊢ <;>
      first
       |exact zde h2 hq
       |exact⟨h2.1,CallsIn.mono h2.2 (fun e w'' he=>by cases e<;>first|exact zde he hq|exact hq _ _ _ he|exact out he)⟩
       |exact⟨h2.1,RowsIn.mono h2.2 (fun _ _ he=>zde he hq)⟩
       |exact⟨h2.1,RoundIn.mono h2.2 (fun e w'' he=>by cases e<;>first|exact zde he hq|exact hq _ _ _ he|exact out he)⟩
    |halt x w'=>cases x<;>simp only[Oper.uponIn] at h2 ⊢ <;> first|exact hq _ _ _ h2|exact h2
   rename_i hw
   rw[if_neg hw] at h
   exact⟨h.1,zde h.2 hq⟩
theorem zoc {μ:Mu}{lo:Nat}{h:zaa}{w:World}(r:Rel μ lo h w){m bm a C:Nat}{x:AObj}(hml:m<lo)(hg:h.get m=some x)(hm:μ m=some (bm,a,C)):¬Own μ lo h bm:=by
 rintro⟨o,y,a',C',h1,h2,h3⟩
 have:=r.inj o m y x bm a' C' a C h1 h2 hg h3 hm
 omega
theorem zb5.is {B:Nat}{μ:Mu}{h:zaa}{w:World}:∀ {ds:List Deferred},zb5 B μ h w ds→∀d∈ds,∃r,d={ target:=.collected r,args:=#[] }∧w.heap[r]?=some (.deferred (some []))
 |[],_,d,hd=>by cases hd
 |_::_,⟨⟨r,h1,_,h3,_⟩,hr⟩,d,hd=>by
  rcases List.mem_cons.1 hd with rfl|hd
  ·exact⟨r,h1,h3⟩
  exact hr.is d hd
theorem zvs {B lo:Nat}{μ μ':Mu}{h h':zaa}{w w':World}{ms ms':List Deferred}(hm:zb5 B μ h w ms)(f:Frame lo μ h w μ' h' w')(hB:B≤w.heap.size)(hm':zb5 w.heap.size μ' h' w' ms'):zb5 B μ' h' w' (ms'++ms):=
 zb5.append hB (hm.frame f) (fun d hd=>by obtain⟨r,h8,_,h9⟩:=hm.lt d hd;exact⟨r,h8,h9⟩) hm'
theorem zkc {μ:Mu}{ts:Tmps}{a:Act}(ht:RelT μ ts a.tmps)(t:Nat):RelV μ (ts.getD t Go.undef) (a.eval (.tmp t)):=zan ht rfl
theorem zc7 {ts:Tmps}{t:Nat}{v:Value}(h:t<ts.length):(aput ts (some t) v).getD t Go.undef=v:=by
 simp[aput,h]
theorem zck {ts:Tmps}{t u:Nat}{v:Value}(h:t≠u):(aput ts (some t) v).getD u Go.undef=ts.getD u Go.undef:=by
 rw[List.getD_eq_getElem?_getD,List.getD_eq_getElem?_getD,zf8 (by intro hh;injection hh with hh;exact h hh)]
section
variable {lo:Nat} {i j id1 id2 tI tN tB tE m it nT:Nat} {o1 o2 o3:Oper} {ops2:Array Oper} {body:Code} {es:List (Value×Value)} {Inv:List (Value×Value)→Tmps→zaa→Prop} {Q:zev}
theorem zmp (h1:o1.op=.next (.tmp tI) false)(g1:o1.guard=none)(d1:o1.dst=some tN)(h2:o2.op=.extract (.tmp tN) 0)(g2:o2.guard=none)(d2:o2.dst=some tB)
  (h3:ops2[0]?=some o3) (h3op:o3.op=.entry (.tmp tI)) (g3:o3.guard=none) (d3:o3.dst=some tE)
  (hN:tN<nT) (hB:tB<nT) (hIN:tN≠tI) (hIB:tB≠tI) (hml:m<lo) (hkeys:∀p∈es,zen p.1=true)
  (hlen:∀vis ts h,Inv vis ts h→ts.length=nT) (hI:∀vis ts h,Inv vis ts h→ts.getD tI Go.undef=.pointer (some ⟨it,0,none⟩))
  (step:∀vis p ts h,Inv vis ts h→p∈es→p.1∉vis.map (·.1)→h.get m=some (.map es)→
   AOps P lo ops2 (fun ts' h'=>AW P lo body (zb6 j (ziw (Inv (vis++[p])) (zb6 i Q))) ts' h') (List.range' 1 (ops2.size - 1))
    (aput (aput (aput ts (some tN) (.tuple #[.bool true,p.1,p.2])) (some tB) (.bool true)) (some tE) (.tuple #[p.1,p.2])) h)
  (fin:∀vis ts h,Inv vis ts h→(∀p∈es,p∈vis)→(∀p∈vis,p∈es)→(vis.map (·.1)).Nodup→h.get m=some (.map es)→
   Q .normal (aput (aput ts (some tN) (.tuple #[.bool false])) (some tB) (.bool false)) h)
  {F:Fence} (hF:Wide F) {n:Nat} {μ0:Mu} {h0:zaa} {w0:World} {ds:List Deferred} (ro:zh4 F μ0 h0 w0) {l:List (Value×Value)} {ents:Array MapEntry} {clock:Nat} (hl:l.Perm es) (hlk:(l.map (·.1)).Nodup) (hll:l.length=ents.size)
  (hborn:(ents.toList.map (·.born)).Nodup) (hclock:∀e∈ents.toList,e.born<clock) {bi bm C:Nat} (hbi:w0.heap.size≤bi) :
  ∀(k:Nat) (vis:List (Value×Value)) (seen:Array Nat) (ts:Tmps) (h:zaa) (μ:Mu) (a:Act) (w:World) (ms:List Deferred),Inv vis ts h→RelT μ ts a.tmps→Rel μ lo h w→Frame lo μ0 h0 w0 μ h w→a.defers=ms++ds→zb5 w0.heap.size μ h w ms→
   μ it=some (bi,0,0)→w.heap[bi]?=some (.mapIter (some bm) clock seen clock)→Unm μ h bi→μ m=some (bm,0,C)→h.get m=some (.map es)→w.heap[bm]?=some (.map ents clock)→
   (∀(x:Nat) p e,l[x]?=some p→ents[x]?=some e→RelE μ p e)→Seen l ents vis seen→(ents.toList.filter fun e=>decide (e.born∉seen.toList)).length<k→
   Code.roundsIn F n P (.seq (.region id1 #[o1,o2] false) (.seq (.cond (.tmp tB) .skip (.exit i)) (.block j (.seq (.region id2 ops2 false) body)))) (Exit.inBlock i (LiftM lo μ0 h0 w0 ds Q)) k a w
 |0,_,_,_,_,_,_,_,_,_,_,_,_,_,_,_,_,_,_,_,_,_,_,hk=>by omega
 |k+1,vis,seen,ts,h,μ,a,w,ms,hinv,ht,r,f,hd,hm,hit,hib,hu,hmm,hg,hmb,hre,hs,hk=>by
  have hptr:a.eval (.tmp tI)=.pointer (some ⟨bi,0,none⟩):=by
   have:=zkc ht tI
   rw[hI vis ts h hinv] at this
   generalize a.eval (.tmp tI)=v at this
   cases this with
   |ptr _ _ b a0 C0 hm0=>rw[hit] at hm0;injection hm0 with hm0;injection hm0 with e1 e2;injection e2 with e2 e3;subst e1;subst e2;rfl
  have hnT:=hlen vis ts h hinv
  have hw1:∀y,Region.wanted o1 y=true:=fun y=>by simp[Region.wanted,g1]
  have hw2:∀y,Region.wanted o2 y=true:=fun y=>by simp[Region.wanted,g2]
  have reg:∀(v v':Value) (vs vs':Array Value) (b:Bool) (w2:World) (Q':Exit→Act→World→Prop),v=.tuple vs→v'=.tuple vs'→vs.toList[0]?=some (.bool b)→RelV μ v v'→(Instr.next (.pointer (some ⟨bi,0,none⟩)) false o1.type).run P w=.ok v' w2→
    (∀a2,RelT μ (aput (aput ts (some tN) v) (some tB) (.bool b)) a2.tmps→a2.defers=a.defers→Q' .normal a2 w2)→(Code.region id1 #[o1,o2] false).wpIn F n P Q' a w:=by
   intro v v' vs vs' b w2 Q' hv hv' hb hrel hrun hq
   refine wpIn_region ?_
   show wpOpsIn F n P #[o1,o2] Q' [0,1] a w
   simp only[wpOpsIn,List.getElem?_toArray,List.getElem?_cons_zero,List.getElem?_cons_succ,hw1,hw2,if_true]
   refine⟨zc3 F hF,?_⟩
   rw[Oper.semAt_eq _ _ _ (fun c hc=>by rw[h1] at hc;cases hc)]
   have e1:(execOp a.eval o1).run P w=.ok (.value v') w2:=by
    simp only[execOp,h1,hptr,Sem.run_bind,hrun,Result.andThen_ok,Sem.run_pure]
   rw[e1]
   simp only[Oper.uponIn]
   have ht1:RelT μ (aput ts (some tN) v) (a.put o1.dst v').tmps:=d1▸zek ht hrel o1.dst
   refine⟨zc3 F hF,?_⟩
   rw[Oper.semAt_eq _ _ _ (fun c hc=>by rw[h2] at hc;cases hc)]
   have hx:=zkc ht1 tN
   rw[zc7 (by rw[hnT];exact hN)] at hx
   obtain⟨b',hb1,hb2⟩:=zmf (P:=P) (w:=w2) (i:=0) (v:=.bool b) hx (by rw[hv];exact hb)
   have e2:(execOp (a.put o1.dst v').eval o2).run P w2=.ok (.value b') w2:=by
    simp only[execOp,h2,Sem.run_bind,hb1,Result.andThen_ok,Sem.run_pure]
   rw[e2]
   simp only[Oper.uponIn]
   exact hq _ (d2▸zek ht1 hb2 o2.dst) (by rw[put_defers,put_defers])
  have hlow:=zoc r hml hg hmm
  rcases ztj (P:=P) w o1.type bi bm clock seen ents hib hmb hclock with⟨hall,hrun⟩|⟨e,he,hes,w1,hw1',hrun⟩
  · -- nothing is left
   refine wpIn_seq (reg _ _ #[.bool false] #[.bool false] false w _ rfl rfl rfl (.tuple' (cs:=[.bool false]) (cs':=[.bool false]) (.cons (.bool _) (.nil _))) hrun fun a2 ht2 hd2=>?_)
   have hcond:a2.eval (.tmp tB)=.bool false:=by
    have:=zkc ht2 tB
    rw[zc7 (by rw[zje,hnT];exact hB)] at this
    generalize a2.eval (.tmp tB)=v at this
    cases this;rfl
   refine wpIn_seq (wpIn_cond hcond ?_)
   refine wpIn_exit ?_
   show Exit.inBlock i (LiftM lo μ0 h0 w0 ds Q) (.exit i) a2 w
   simp only[Exit.inBlock,if_true]
   refine⟨_,h,μ,ms,ht2,r,f,by rw[hd2,hd],hm,fin vis ts h hinv (fun p hp=>?_) (fun p hp=>hl.subset (hs.sub p hp)) hs.nodup hg⟩
   obtain⟨x,hx⟩:=List.mem_iff_getElem?.1 (hl.symm.subset hp)
   have hxl:x<ents.size:=by rw[← hll];exact(List.getElem?_eq_some_iff.1 hx).1
   exact(hs.iff x p ents[x] hx (by simp[hxl])).2 (hall _ (by simp))
  · -- one comes up
   obtain⟨x,hx⟩:=List.mem_iff_getElem?.1 he
   have hx':ents[x]?=some e:=by simpa using hx
   have hxl:x<l.length:=by rw[hll];exact(Array.getElem?_eq_some_iff.1 hx').1
   obtain⟨p,hp⟩:∃p,l[x]?=some p:=⟨l[x],by simp[hxl]⟩
   obtain⟨hpl,hpk,hs'⟩:=hs.step hlk hborn hp hx' hes
   have hpes:=hl.subset hpl
   obtain⟨ek,ev⟩:=hre x p e hp hx'
   have hkk:RelV μ p.1 e.key:=by rw[ek];exact .zfv (hkeys p hpes)
   have hbmi:bm≠bi:=by rintro rfl;exact hu m _ 0 C hg hmm
   obtain⟨r1,f1,hm1,hib1,hmb1⟩:Rel μ lo h w1∧Frame lo μ0 h0 w0 μ h w1∧zb5 w0.heap.size μ h w1 ms∧w1.heap[bi]?=some (.mapIter (some bm) clock seen clock)∧w1.heap[bm]?=some (.map ents clock):=by
    rcases hw1' with rfl|rfl
    ·exact⟨r,f,hm,hib,hmb⟩
    exact⟨r.drew,f.trans (Frame.drew _ _ _ _),hm.frame (Frame.drew lo _ _ _),hib,hmb⟩
   have r2:=zg7 (.mapIter (some bm) clock (seen.push e.born) clock) r1 hu
   have f2:=zfr (.mapIter (some bm) clock (seen.push e.born) clock) f1 (.inl hbi)
   have hm2:zb5 w0.heap.size μ h (w1.putObj bi (.mapIter (some bm) clock (seen.push e.born) clock)) ms:=hm1.putObj _ fun d hd=>by
    obtain⟨rr,k1,k2⟩:=hm1.is d hd
    rintro rfl
    injection k1 with k1 _;injection k1 with k1
    subst k1
    rw[hib1] at k2;cases k2
   have hib2:(w1.putObj bi (.mapIter (some bm) clock (seen.push e.born) clock)).heap[bi]?=some (.mapIter (some bm) clock (seen.push e.born) clock):=World.putObj_heap_same (zbm hib1)
   have hmb2:(w1.putObj bi (.mapIter (some bm) clock (seen.push e.born) clock)).heap[bm]?=some (.map ents clock):=by rw[World.putObj_heap_other hbmi];exact hmb1
   generalize w1.putObj bi (.mapIter (some bm) clock (seen.push e.born) clock)=w2 at hrun r2 f2 hm2 hib2 hmb2
   refine wpIn_seq (reg (.tuple #[.bool true,p.1,p.2]) _ #[.bool true,p.1,p.2] #[.bool true,e.key,e.val] true w2 _ rfl rfl rfl (.tuple' (cs:=[.bool true,p.1,p.2]) (cs':=[.bool true,e.key,e.val]) (.cons (.bool _) (.cons hkk (.cons ev (.nil _))))) hrun fun a2 ht2 hd2=>?_)
   have hcond:a2.eval (.tmp tB)=.bool true:=by
    have:=zkc ht2 tB
    rw[zc7 (by rw[zje,hnT];exact hB)] at this
    generalize a2.eval (.tmp tB)=v at this
    cases this;rfl
   refine wpIn_seq (wpIn_cond hcond (wpIn_skip ?_))
   have hptr2:a2.eval (.tmp tI)=.pointer (some ⟨bi,0,none⟩):=by
    have:=zkc ht2 tI
    rw[zck hIB,zck hIN,hI vis ts h hinv] at this
    generalize a2.eval (.tmp tI)=v at this
    cases this with
    |ptr _ _ b a0 C0 hm0=>rw[hit] at hm0;injection hm0 with hm0;injection hm0 with e1 e2;injection e2 with e2 e3;subst e1;subst e2;rfl
   have hstep:=step vis p ts h hinv hpes hpk hg
   have hsz:ops2.size=(ops2.size - 1)+1:=by have:=(Array.getElem?_eq_some_iff.1 h3).1;omega
   have hregion:(Code.region id2 ops2 false).wpIn F n P (Lift lo μ h w2 a2.defers (ziw (AW P lo body (zb6 j (ziw (Inv (vis++[p])) (zb6 i Q)))) fun _ _ _=>False)) a2 w2:=by
    refine wpIn_region ?_
    rw[List.range_eq_range',hsz,List.range'_succ]
    simp only[wpOpsIn,h3]
    have hw3:Region.wanted o3 (yielded ops2 a2.tmps)=true:=by simp[Region.wanted,g3]
    rw[if_pos hw3]
    refine⟨zc3 F hF,?_⟩
    rw[Oper.semAt_eq _ _ _ (fun c hc=>by rw[h3op] at hc;cases hc)]
    have e3:(execOp a2.eval o3).run P w2=.ok (.value (.tuple #[e.key,e.val])) w2:=by
     simp only[execOp,h3op,hptr2,Sem.run_bind,zq6 w2 bi bm clock seen ents clock e hib2 hmb2 he hborn,Result.andThen_ok,Sem.run_pure]
    rw[e3]
    simp only[Oper.uponIn]
    have ht3:RelT μ (aput (aput (aput ts (some tN) (.tuple #[.bool true,p.1,p.2])) (some tB) (.bool true)) (some tE) (.tuple #[p.1,p.2])) (a2.put o3.dst (.tuple #[e.key,e.val])).tmps:=
     d3▸zek ht2 (.tuple' (cs:=[p.1,p.2]) (cs':=[e.key,e.val]) (.cons hkk (.cons ev (.nil _)))) o3.dst
    have:=zi7 (Q:=ziw (AW P lo body (zb6 j (ziw (Inv (vis++[p])) (zb6 i Q)))) fun _ _ _=>False) (n:=n) hF _ _ h μ h w2 μ _ w2 ht3 r2 (Frame.refl _ _ _ _) hstep
    rw[put_defers] at this
    exact this
   refine wpIn_block (wpIn_seq (wpIn_mono hregion fun e3 a' w' hl=>?_))
   obtain⟨ts',h',μ',ht',r',g,hd',hq⟩:=hl
   cases e3 with
   |normal=>
    have f3:=f2.trans g
    have hd3:a'.defers=ms++ds:=by rw[hd',hd2,hd]
    refine wpIn_mono (hq F hF n μ' a' w' ht' r' (ro.frame f3)) fun e4 a4 w4 hl4=>?_
    obtain⟨ts4,h4,μ4,ms4,ht4,r4,g4,hd4,hm4,hq4⟩:=hl4
    have f4:=f3.trans g4
    have gg:=g.trans g4
    have hmk:=zvs (hm2.frame g) g4 f3.size hm4
    have hd4':a4.defers=(ms4++ms)++ds:=by rw[hd4,hd3,List.append_assoc]
    have out:∀e',Q e' ts4 h4→LiftM lo μ0 h0 w0 ds Q e' a4 w4:=fun e' hq'=>⟨ts4,h4,μ4,ms4++ms,ht4,r4,f4,hd4',hmk,hq'⟩
    have cont:Inv (vis++[p]) ts4 h4→Code.roundsIn F n P (.seq (.region id1 #[o1,o2] false) (.seq (.cond (.tmp tB) .skip (.exit i)) (.block j (.seq (.region id2 ops2 false) body)))) (Exit.inBlock i (LiftM lo μ0 h0 w0 ds Q)) k a4 w4:=fun hinv4=>by
     have hb2:=zbm hib2
     have hlow2:=zoc r2 hml hg hmm
     refine zmp h1 g1 d1 h2 g2 d2 h3 h3op g3 d3 hN hB hIN hIB hml hkeys hlen hI step fin hF ro hl hlk hll hborn hclock hbi k (vis++[p]) (seen.push e.born) ts4 h4 μ4 a4 w4 (ms4++ms) hinv4 ht4 r4 f4 hd4' hmk
      (gg.le _ _ hit) (by rw[gg.kept bi hb2 hu.own];exact hib2) (hu.frame hb2 gg) (gg.le _ _ hmm) (by rw[gg.low m hml];exact hg) (by rw[gg.kept bm (zbm hmb2) hlow2];exact hmb2)
      (fun x p e hp he=>⟨(hre x p e hp he).1,(hre x p e hp he).2.mono gg.le⟩) hs' ?_
     have:=filter_lt (fun e=>decide (e.born∉seen.toList)) (fun e'=>decide (e'.born∉(seen.push e.born).toList)) (fun x hx=>by
      simp only[decide_eq_true_eq,Array.toList_push,List.mem_append,List.mem_singleton,not_or] at hx ⊢;exact hx.1) e (by simpa using hes) (by simp) ents.toList he
     omega
    have outX:∀e',e'≠.normal→zb6 i Q e' ts4 h4→Exit.inBlock i (LiftM lo μ0 h0 w0 ds Q) e' a4 w4:=fun e' hne hq'=>by
     cases e' with
     |normal=>exact absurd rfl hne
     |exit id=>
      simp only[Exit.inBlock]
      by_cases hi:id=i
      ·simp only[zb6,hi,if_true] at hq' ⊢;exact out _ hq'
      simp only[zb6,hi,if_false] at hq' ⊢;exact out _ hq'
     |goto l=>exact out _ hq'
     |ret=>exact out _ hq'
     |panic ch=>exact out _ hq'
     |outgrown=>exact out _ hq'
    cases e4 with
    |normal=>exact cont hq4
    |exit id=>
     simp only[Exit.inBlock]
     by_cases hj:id=j
     ·simp only[zb6,hj,if_true] at hq4 ⊢;exact cont hq4
     simp only[zb6,hj,if_false] at hq4 ⊢
     exact outX (.exit id) (by simp) hq4
    |goto l=>exact outX (.goto l) (by simp) hq4
    |ret=>exact outX .ret (by simp) hq4
    |panic ch=>exact outX (.panic ch) (by simp) hq4
    |outgrown=>exact outX .outgrown (by simp) hq4
   |exit id=>exact hq.elim
   |goto l=>exact hq.elim
   |ret=>exact hq.elim
   |panic ch=>exact hq.elim
   |outgrown=>exact hq.elim
structure zpe (P:Program) (lo i j tI tN tB tE m it nT:Nat) (ops2:Array Oper) (body:Code) (es:List (Value×Value)) (Inv:List (Value×Value)→Tmps→zaa→Prop) (Q:zev):Prop where
  hN:tN<nT
  hB:tB<nT
  hIN:tN≠tI
  hIB:tB≠tI
  hml:m<lo
  hkeys:∀p∈es,zen p.1=true
  hlen:∀vis ts h,Inv vis ts h→ts.length=nT
  hI:∀vis ts h,Inv vis ts h→ts.getD tI Go.undef=.pointer (some ⟨it,0,none⟩)
  step:∀vis p ts h,Inv vis ts h→p∈es→p.1∉vis.map (·.1)→h.get m=some (.map es)→
      AOps P lo ops2 (fun ts' h'=>AW P lo body (zb6 j (ziw (Inv (vis++[p])) (zb6 i Q))) ts' h') (List.range' 1 (ops2.size - 1))
        (aput (aput (aput ts (some tN) (.tuple #[.bool true,p.1,p.2])) (some tB) (.bool true)) (some tE) (.tuple #[p.1,p.2])) h
  fin : ∀ vis ts h, Inv vis ts h → (∀ p ∈ es, p ∈ vis) → (∀ p ∈ vis, p ∈ es) → (vis.map (·.1)).Nodup → h.get m = some (.map es) →
      Q .normal (aput (aput ts (some tN) (.tuple #[.bool false])) (some tB) (.bool false)) h
theorem ztt {μ:Mu}{h:zaa}{w:World}(r:Rel μ lo h w){id:Nat}(x:Nat×Nat×Nat)(hid:id<h.next)(hg:h.get id=none)(hm:μ id=none):μ.le (μ.put id x)∧Rel (μ.put id x) lo h w:=by
 have hle:μ.le (μ.put id x):=fun o y hy=>by
  have:o≠id:=by rintro rfl;rw[hm] at hy;cases hy
  rw[Mu.zaj _ this];exact hy
 have hne:∀o y,h.get o=some y→o≠id:=fun o y hy ho=>by subst ho;rw[hg] at hy;cases hy
 refine⟨hle,⟨fun o y hy=>?_,fun o o' y y' b a C a' C' hl hy hy' h1 h2=>?_,fun o y hy=>?_,fun o y b a C hl hy h1 off=>?_,r.lole⟩⟩
 ·obtain⟨b,a,C,h1,h2⟩:=r.objs o y hy
  exact⟨b,a,C,hle _ _ h1,h2.mono hle⟩
 ·rw[Mu.zaj _ (hne o y hy)] at h1
  rw[Mu.zaj _ (hne o' y' hy')] at h2
  exact r.inj o o' y y' b a C a' C' hl hy hy' h1 h2
 ·by_cases ho:o=id
  ·subst ho;exact hid
  rw[Mu.zaj _ ho] at hy;exact r.dom o y hy
 rw[Mu.zaj _ (hne o y hy)] at h1
 exact r.thaw o y b a C hl hy h1 off
theorem AW.mapRange {id0 k:Nat}{ops0:Array Oper}{o0:Oper}{ty kt et:TypeId}{x:Operand}{ts:Tmps}{h:zaa}(hr:ops0[k]?=some o0)(hk:ops0.size=k+1)(h0:o0.op=.range ty x)(g0:o0.guard=none)(d0:o0.dst=some tI)(hu:P.underlying ty=some (.map kt et))
  (h1:o1.op=.next (.tmp tI) false) (g1:o1.guard=none) (d1:o1.dst=some tN) (h2:o2.op=.extract (.tmp tN) 0) (g2:o2.guard=none) (d2:o2.dst=some tB)
  (h3:ops2[0]?=some o3) (h3op:o3.op=.entry (.tmp tI)) (g3:o3.guard=none) (d3:o3.dst=some tE)
  (pre:AOps P lo ops0 (fun ts1 hh=>∃m es nT Inv,za7 ts1 x=some (.map (some m))∧hh.get m=some (.map es)∧zpe P lo i j tI tN tB tE m hh.next nT ops2 body es Inv Q∧
   Inv [] (aput ts1 (some tI) (.pointer (some ⟨hh.next,0,none⟩))) (zaa.zbi 1 hh)) (List.range k) ts h) :
  AW P lo (.seq (.region id0 ops0 false) (.block i (.loop (.seq (.region id1 #[o1,o2] false) (.seq (.cond (.tmp tB) .skip (.exit i)) (.block j (.seq (.region id2 ops2 false) body))))))) Q ts h:=by
 intro F hF n μ a w ht r ro
 refine wpIn_seq (wpIn_region ?_)
 have hrange:List.range ops0.size=List.range k++[k]:=by rw[hk,List.range_succ]
 rw[hrange]
 refine zcv _ _ _ _ ?_
 have hops:=zi7 (Q:=ziw (fun ts1 hh=>∃m es nT Inv,za7 ts1 x=some (.map (some m))∧hh.get m=some (.map es)∧zpe P lo i j tI tN tB tE m hh.next nT ops2 body es Inv Q∧
   Inv [] (aput ts1 (some tI) (.pointer (some ⟨hh.next,0,none⟩))) (zaa.zbi 1 hh)) fun _ _ _=>False) (n:=n) hF (List.range k) ts h μ h w μ a w ht r (Frame.refl _ _ _ _) pre
 refine zde hops fun e a1 w1 hl=>?_
 obtain⟨ts1,hh,μ1,ht1,r1,f1,hd1,hq⟩:=hl
 cases e with
 |normal=>
  obtain⟨m,es,nT,Inv,hx,hget,ml,hinv⟩:=hq
  have hxr:=zan ht1 hx
  simp only[wpOpsIn,hr]
  have hw0:Region.wanted o0 (yielded ops0 a1.tmps)=true:=by simp[Region.wanted,g0]
  rw[if_pos hw0]
  refine⟨zc3 F hF,?_⟩
  rw[Oper.semAt_eq _ _ _ (fun c hc=>by rw[h0] at hc;cases hc)]
  generalize hxe:a1.eval x=xv at hxr
  cases hxr with
  |map _ bm C hm=>
   obtain⟨b',a',C',hm',hob⟩:=r1.objs m _ hget
   rw[hm] at hm';injection hm' with hm';injection hm' with k1 k2;injection k2 with k2 k3;subst k1;subst k2;subst k3
   obtain⟨_,ents,clock,hmb,l,hperm,hlk,hll,hre,hpw,hclk⟩:=hob
   have hrun:(execOp a1.eval o0).run P w1=.ok (.value (.pointer (some ⟨w1.heap.size,0,none⟩))) (w1.alloc (.mapIter (some bm) clock #[] clock)):=by
    simp only[execOp,h0,hxe,Sem.run_bind,run_range_map w1 ty kt et bm ents clock hu hmb,Result.andThen_ok,Sem.run_pure]
   rw[hrun]
   simp only[Oper.uponIn]
   obtain⟨r2,f2,hun⟩:=zhv (.mapIter (some bm) clock #[] clock) r1
   have r3:=r2.zbi 1
   have f3:=(f1.trans f2).trans (Frame.zbi (lo:=lo) (μ:=μ1) (h:=hh) (w:=w1.alloc (.mapIter (some bm) clock #[] clock)) 1)
   have hgn:(zaa.zbi 1 hh).get hh.next=none:=by
    rw[zaa.zbq]
    cases hg:hh.get hh.next with
    |none=>rfl
    |some y=>have:=zaa.zai hg;omega
   have hnn:hh.next<(zaa.zbi 1 hh).next:=by rw[zaa.zcu];omega
   have hmn:=r1.zkb (Nat.le_refl hh.next)
   obtain⟨hle,r4⟩:=ztt r3 (w1.heap.size,0,0) hnn hgn hmn
   have f4:Frame lo μ h w (μ1.put hh.next (w1.heap.size,0,0)) (zaa.zbi 1 hh) (w1.alloc (.mapIter (some bm) clock #[] clock)):=by
    refine⟨Mu.le_trans f3.le hle,f3.size,f3.next,f3.kept,fun b hb=>?_,f3.low,fun o ho=>?_,f3.born,f3.calm⟩
    ·rintro⟨o,y,a,C',k1,k2,k3⟩
     have hne:o≠hh.next:=fun ho=>by subst ho;rw[hgn] at k2;cases k2
     rw[Mu.zaj _ hne] at k3
     exact f3.own b hb ⟨o,y,a,C',k1,k2,k3⟩
    have:=f1.next
    rw[Mu.zaj _ (by omega)];exact f3.old o ho
   have ht4:RelT (μ1.put hh.next (w1.heap.size,0,0)) (aput ts1 (some tI) (.pointer (some ⟨hh.next,0,none⟩))) (a1.put o0.dst (.pointer (some ⟨w1.heap.size,0,none⟩))).tmps:=by
    have hp:RelV (μ1.put hh.next (w1.heap.size,0,0)) (.pointer (some ⟨hh.next,0,none⟩)) (.pointer (some ⟨w1.heap.size,0,none⟩)):=by
     have:=RelV.ptr hh.next 0 w1.heap.size 0 0 (Mu.zaf μ1 hh.next (w1.heap.size,0,0))
     simpa using this
    exact d0▸zek (ht1.mono hle) hp o0.dst
   have hd4:(a1.put o0.dst (.pointer (some ⟨w1.heap.size,0,none⟩))).defers=a.defers:=by rw[put_defers,hd1]
   refine wpIn_block (wpIn_loop_rounds (ents.size+1) ?_)
   have hbornN:(ents.toList.map (·.born)).Nodup:=hpw.imp (fun h=>Nat.ne_of_lt h)
   have hu4:Unm (μ1.put hh.next (w1.heap.size,0,0)) (zaa.zbi 1 hh) w1.heap.size:=fun o y a' C' hy hmu=>by
    have hne:o≠hh.next:=fun ho=>by subst ho;rw[hgn] at hy;cases hy
    rw[Mu.zaj _ hne] at hmu
    rw[zaa.zbq] at hy
    exact hun o y a' C' hy hmu
   refine zmp (P:=P) (it:=hh.next) h1 g1 d1 h2 g2 d2 h3 h3op g3 d3 ml.hN ml.hB ml.hIN ml.hIB ml.hml ml.hkeys ml.hlen ml.hI ml.step ml.fin hF ro hperm hlk hll hbornN (fun e he=>hclk e he) (bm:=bm) (C:=C) (by have:=f1.size;exact this) (ents.size+1) [] #[]
    _ _ _ _ _ [] hinv ht4 r4 f4 hd4 trivial (Mu.zaf _ _ _) (by rw[heap_alloc];simp) hu4 (hle _ _ hm) (by rw[zaa.zbq];exact hget) ?_ (fun y p e hp he=>⟨(hre y p e hp he).1,(hre y p e hp he).2.mono hle⟩)
    ⟨fun _ h=>(by cases h),.nil,fun _ _ _ _ _=>⟨fun h=>(by cases h),fun h=>(by cases h)⟩⟩ ?_
   ·rw[heap_alloc_old _ _ (zbm hmb)];exact hmb
   have:=List.length_filter_le (fun e:MapEntry=>decide (e.born∉(#[]:Array Nat).toList)) ents.toList
   have h5:ents.toList.length=ents.size:=by simp
   omega
 |exit id=>exact hq.elim
 |goto l=>exact hq.elim
 |ret=>exact hq.elim
 |panic ch=>exact hq.elim
 |outgrown=>exact hq.elim
end
end
end Go.Am
end
/-
 The abstract machine, part X: the library's sort, by the kit's contract.
-/
section
namespace Go.Am
section
variable {P:Program} {lo:Nat} {h:zaa}
theorem zc0.zu6 {f:FuncId}{args:List Value}{R:Value→zaa→Prop}
  (hc:∀μ w cargs,zas μ args cargs.toList→Rel μ lo h w→Calls P f cargs w fun e w'=>∃r v h' μ',e=.returned v∧RelV μ' r v∧Rel μ' lo h' w'∧Frame lo μ h w μ' h' w'∧R r h'):zc0 P lo f args h R:=by
 intro F hF hro n μ w cargs ha r
 rw[hF.eq hro]
 exact callsIn_wide.2 (hc μ w cargs ha r)
theorem z0t {μ:Mu}{w:World}(os:Array Obj)(n:Nat)(r:Rel μ lo h w):Rel μ lo h (Sort.grow (Sort.ahead w n) os)∧Frame lo μ h w μ h (Sort.grow (Sort.ahead w n) os):=by
 have hk:∀b,b<w.heap.size→(Sort.grow (Sort.ahead w n) os).heap[b]?=w.heap[b]?:=fun b hb=>by
  simp only[Sort.grow,Sort.heap_ahead,Array.getElem?_append,hb,if_true]
 refine⟨⟨fun o x hx=>?_,r.inj,r.dom,fun o x b a C hl hx hm off=>?_,r.lole⟩,⟨Mu.le_refl _,by simp[Sort.grow],Nat.le_refl _,fun b hb _=>hk b hb,fun _ _ h=>h,fun _ _=>rfl,fun _ _=>rfl,fun _ _ h=>h,⟨rfl,rfl⟩⟩⟩
 ·obtain⟨b,a,C,h1,h2⟩:=r.objs o x hx
  exact⟨b,a,C,h1,h2.kept (hk b h2.zcq)⟩
 rw[zbn (hk b (ze0 r hx hm).zcq)]
 exact r.thaw o x b a C hl hx hm off
theorem zvw {μ:Mu}{w:World}(r:Rel μ lo h w){o off s b a C:Nat}{cs:List Value}{α:Type}[Inhabited α](enc:α→Value)(henc:∀x,zen (enc x)=true)(d d0:List α)(hlen:d.length=d0.length)
  (hg:h.get o=some (.cells s cs)) (hl:lo≤o) (hm:μ o=some (b,a,C)) (hd0:∀i x,d0[i]?=some x→cs[off+i]?=some (enc x)) (hoff:off≤cs.length) :
  Sort.Holds enc w b (a+off) d0.toArray∧Rel μ lo (h.put o (some (.cells s (zcb cs off (d.map enc))))) (Sort.putRow enc w b (a+off) d.toArray)∧
  Frame lo μ h w μ (h.put o (some (.cells s (zcb cs off (d.map enc))))) (Sort.putRow enc w b (a+off) d.toArray):=by
 have hob:=ze0 r hg hm
 have hH:Sort.Holds enc w b (a+off) d0.toArray:=by
  intro j hj
  have hj':j<d0.length:=by simpa using hj
  obtain⟨v',h1,h2⟩:=hob.2.1 (off+j) _ (hd0 j d0[j] (by simp[hj']))
  have:=zp2 (henc _) h2
  subst this
  refine⟨?_,r.thaw o _ b a C hl hg hm _⟩
  have e:d0.toArray[j]! = d0[j]:=by simp[hj']
  rw[e,Nat.add_assoc];exact h1
 refine⟨hH,?_⟩
 have hle:off+(d.map enc).length≤cs.length:=by
  rw[List.length_map,hlen]
  rcases Nat.eq_zero_or_pos d0.length with h0|h0
  ·omega
  have:=hd0 (d0.length - 1) d0[d0.length - 1] (by simp)
  have:=(List.getElem?_eq_some_iff.1 this).1
  omega
 refine zkw r hg hl hm _ (by simp) (fun b' hb'=>?_) ⟨by simp;exact hob.1,fun i v hv=>?_,fun hs=>⟨by rw[zjy _ _ _ hle];exact(hob.2.2 hs).1,fun i hi=>?_⟩⟩ (fun o'=>by rw[Sort.frozen?_putRow];exact r.thaw o _ b a C hl hg hm o') ⟨rfl,rfl⟩
 ·have:b≠b':=fun h=>hb' h.symm
  simp only[Sort.putRow,Sort.mapBlock,Array.getElem?_modify,this,if_false]
 ·rw[ziq _ _ _ hle] at hv
  by_cases hi:off≤i∧i<off+(d.map enc).length
  ·rw[if_pos hi] at hv
   rw[List.length_map] at hi
   rw[List.getElem?_map] at hv
   have hid:i - off<d.length:=by omega
   rw[List.getElem?_eq_getElem hid] at hv
   simp only[Option.map_some,xfm] at hv
   subst hv
   refine⟨_,?_,.zfv (henc _)⟩
   have:=Sort.cell?_putRow enc w b (a+off) d0.toArray d.toArray hH (by simpa using hlen) (i - off) (by simpa using hid)
   have e:a+off+(i - off)=a+i:=by omega
   rw[e] at this
   rw[this]
   simp[hid]
  rw[if_neg hi] at hv
  rw[List.length_map] at hi
  obtain⟨v',h1,h2⟩:=hob.2.1 i v hv
  refine⟨v',?_,h2⟩
  rw[Sort.cell?_putRow_other]
  ·exact h1
  right;simp only[List.size_toArray];omega
 obtain⟨v',h1⟩:=(hob.2.2 hs).2 i hi
 by_cases hi2:off≤i∧i<off+d.length
 ·have:=Sort.cell?_putRow enc w b (a+off) d0.toArray d.toArray hH (by simpa using hlen) (i - off) (by simp;omega)
  have e:a+off+(i - off)=a+i:=by omega
  rw[e] at this
  exact⟨_,this⟩
 refine⟨v',?_⟩
 rw[Sort.cell?_putRow_other]
 ·exact h1
 right;simp only[List.size_toArray];omega
theorem zc0.z0z {ρ:Go.Shelf.Ren}(Ly:Go.Proofs.SlLaysM.n5 P ρ){o off s k:Nat}{cs:List Value}{zs:List Int}(hg:h.get o=some (.cells s cs))(hl:lo≤o)(hoff:off≤cs.length)(hz:∀i x,zs[i]?=some x→cs[off+i]?=some (.int .i64 x))(hsz:zs.length<4611686018427387904)
  (hk:k<unk) (hpos:0<zs.length):zc0 P lo (ρ.f 5) [.slice (some ⟨o,off,none⟩) zs.length k] h fun r h'=>
   r=.tuple #[]∧h'=h.put o (some (.cells s (zcb cs off ((zs.mergeSort fun x y=>decide (x≤y)).map (.int .i64))))):=by
 refine .zu6 fun μ w cargs ha r=>?_
 obtain⟨v',r',hcs,hv,hr⟩:=ha.zax
 obtain⟨L,hL⟩:∃L,zs.length=L:=⟨_,rfl⟩
 rw[hL] at hv
 have:=hr.zcd;subst this
 have hargs:cargs=#[v']:=Array.ext' (by simpa using hcs)
 subst hargs
 cases hv with
 |slice _ _ _ _ b a C hm hlc hk'=>
  subst hL
  have hob:=ze0 r hg hm
  obtain⟨hH,hr2,hf2⟩:=zvw r (Value.int .i64) (fun _=>rfl) (zs.mergeSort fun x y=>decide (x≤y)) zs (List.length_mergeSort zs) hg hl hm hz hoff
  refine(Go.Proofs.AnyM.slices_Sort_int Ly b (a+off) (zcy C k) zs w hH hob.zcq hsz).mono fun e w' ⟨h1,n,os,h2⟩=>?_
  subst h2
  obtain⟨hr3,hf3⟩:=z0t (lo:=lo) os n hr2
  exact⟨.tuple #[],_,_,μ,h1,.tuple #[] #[] rfl (fun i h=>by simp at h),hr3,hf2.trans hf3,rfl,rfl⟩
 |sliceZ=>exact absurd hk (Nat.lt_irrefl _)
 |slice0=>omega
end
end Go.Am
end
/-
 The abstract machine, part Y: the same world under another description.
-/
section
namespace Go.Am
def zkd (lo:Nat)(h h2:zaa):Prop:=
 ∀μ w μ0 h0 w0,Rel μ lo h w→Frame lo μ0 h0 w0 μ h w→Rel μ lo h2 w∧Frame lo μ0 h0 w0 μ h2 w
theorem zkd.sub {lo:Nat}{h h2:zaa}(hn:h2.next=h.next)(hs:∀o x,h2.get o=some x→h.get o=some x)(hlow:∀o,o<lo→h2.get o=h.get o):zkd lo h h2:=fun μ w μ0 h0 w0 r f=>
 ⟨r.sub (Nat.le_of_eq hn.symm) hs (Nat.le_refl _) (hn▸r.lole),⟨f.le,f.size,hn▸f.next,f.kept,fun b hb ⟨o,x,a,C,k1,k2,k3⟩=>f.own b hb ⟨o,x,a,C,k1,hs o x k2,k3⟩,fun o ho=>by rw[hlow o ho,f.low o ho],f.old,fun o ho hn=>by
  cases hx:h2.get o with
  |none=>rfl
  |some x=>have:=hs o x hx;rw[f.born o ho hn] at this;exact absurd this (by simp),f.calm⟩⟩
theorem RelM.perm {μ:Mu}{es es':List (Value×Value)}{entries:Array MapEntry}{clock:Nat}(h:RelM μ es entries clock)(hp:es.Perm es'):RelM μ es' entries clock:=by
 obtain⟨l,h1,h2⟩:=h
 exact⟨l,h1.trans hp,h2⟩
theorem zkd.perm {lo:Nat}{h:zaa}{o:Nat}{es es':List (Value×Value)}(hg:h.get o=some (.map es))(hp:es.Perm es')(hlo:lo≤o):zkd lo h (h.put o (some (.map es'))):=by
 intro μ w μ0 h0 w0 r f
 have hl:=zaa.zai hg
 have old:∀p y,(h.put o (some (.map es'))).get p=some y→∃z,h.get p=some z∧(p≠o→z=y):=fun p y hy=>by
  rw[zaa.zaw _ _ _ _ hl] at hy
  by_cases hpo:p=o
  ·subst hpo;exact⟨_,hg,fun h=>absurd rfl h⟩
  simp[hpo] at hy;exact⟨y,hy,fun _=>rfl⟩
 refine⟨⟨fun p y hy=>?_,fun p p' y y' b a C a' C' hlp hy hy' h1 h2=>?_,r.dom,fun p y b a C hlp hy hm off=>?_,r.lole⟩,⟨f.le,f.size,f.next,f.kept,fun b hb=>?_,fun p hp'=>?_,f.old,fun p hp' hn=>?_,f.calm⟩⟩
 ·rw[zaa.zaw _ _ _ _ hl] at hy
  by_cases hpo:p=o
  ·subst hpo;simp at hy;subst hy
   obtain⟨b,a,C,h1,h2,entries,clock,h3,h4⟩:=r.objs p _ hg
   exact⟨b,a,C,h1,h2,entries,clock,h3,h4.perm hp⟩
  exact r.objs p y (by simpa[hpo] using hy)
 ·obtain⟨z,hz,_⟩:=old p y hy
  obtain⟨z',hz',_⟩:=old p' y' hy'
  exact r.inj p p' z z' b a C a' C' hlp hz hz' h1 h2
 ·obtain⟨z,hz,_⟩:=old p y hy
  exact r.thaw p z b a C hlp hz hm off
 ·rintro⟨p,y,a,C,k1,k2,k3⟩
  obtain⟨z,hz,_⟩:=old p y k2
  exact f.own b hb ⟨p,z,a,C,k1,hz,k3⟩
 ·rw[zaa.zaw _ _ _ _ hl,if_neg (by omega)];exact f.low p hp'
 have:=f.born p hp' hn
 rw[zaa.zaw _ _ _ _ hl,if_neg (by rintro rfl;rw[hg] at this;cases this)]
 exact this
theorem zc0.zty {P:Program}{lo:Nat}{h:zaa}{f:FuncId}{args:List Value}{R R':Value→zaa→Prop}(hc:zc0 P lo f args h R)(hr:∀r h',R r h'→∃h2,zkd lo h' h2∧R' r h2):zc0 P lo f args h R':=
 fun F hF hro n μ w cargs ha r=>(hc F hF hro n μ w cargs ha r).mono fun _ _ ⟨r',v,h',μ',h1,h2,h3,h4,h5⟩=>by
  obtain⟨h'',k1,k2⟩:=hr _ _ h5
  obtain⟨k3,k4⟩:=k1 _ _ _ _ _ h3 h4
  exact⟨r',v,h'',μ',h1,h2,k3,k4,k2⟩
end Go.Am
end
/-
 The abstract machine, part Z: a region without calls, run at one go.
-/
section
namespace Go.Am
def zlg (P:Program)(lo:Nat)(ops:Array Oper):List Nat→Tmps→zaa→Option (Tmps×zaa)
 |[],ts,h=>some (ts,h)
 |i::r,ts,h=>match ops[i]? with
  |none=>none
  |some o=>match Region.wanted o (za2 ops ts) with
   |true=>match aop P lo ts h o.op with
    |some (v,h')=>zlg P lo ops r (aput ts o.dst v) h'
    |none=>none
   |false=>zlg P lo ops r (aput ts o.dst Go.undef) h
theorem AOps.run {P:Program}{lo:Nat}{ops:Array Oper}{K:Tmps→zaa→Prop}:∀ {l:List Nat} {ts ts':Tmps} {h h':zaa},zlg P lo ops l ts h=some (ts',h')→K ts' h'→AOps P lo ops K l ts h
 |[],ts,ts',h,h',hr,hk=>by
  simp only[zlg,xfm,xfn] at hr
  obtain⟨rfl,rfl⟩:=hr;exact hk
 |i::r,ts,ts',h,h',hr,hk=>by
  simp only[zlg] at hr
  simp only[AOps]
  cases ho:ops[i]? with
  |none=>rw[ho] at hr;cases hr
  |some o=>
   rw[ho] at hr
   simp only at hr ⊢
   cases hw:Region.wanted o (za2 ops ts) with
   |true=>
    rw[hw] at hr
    simp only[if_true] at hr ⊢
    split at hr
    ·rename_i v h1 ha
     exact .op ha (AOps.run hr hk)
    cases hr
   |false=>
    rw[hw] at hr
    simp only[Bool.false_eq_true,if_false] at hr ⊢
    exact AOps.run hr hk
end Go.Am
end
/-
 The value machine, part A: values with slices inline, and what they stand for in an abstract heap.
-/
section
namespace Go.Am
inductive PV where
  |bool (b:Bool)
  |int (k:IntKind) (n:Int)
  |str (s:ByteArray)
  |nilFunc
  |nilIface
  |ptr0
  |sl0
  |map0
  |e0
  |func (f:FuncId) (xs ys:List PV)
  |agg (cs:List PV)
  |tup (cs:List PV)
  |iface (t:TypeId) (v:PV)
  |vec (es:List PV)
  |vp (cs:List PV)
  |vmap (es:List (PV×PV))
  |ptr (i off:Nat)
  |own (i off len k:Nat)
  |sub (i off len:Nat)
  |grow (i n:Nat) (nl:Bool)
  |mapv (i:Nat)
  |yld (i:Nat)
  deriving Inhabited
def PV.cells:PV→List PV
 |.agg cs=>cs
 |v=>[v]
mutual
def PV.isF:PV→Bool
 |.func _ xs ys=>PV.allF xs&&PV.allF ys
 |.agg cs=>PV.allF cs
 |.tup cs=>PV.allF cs
 |.iface _ v=>v.isF
 |.ptr .. | .own .. | .sub .. | .grow .. | .mapv .. | .yld ..=>false
 |_=>true
def PV.allF:List PV→Bool
 |[]=>true
 |v::r=>v.isF&&PV.allF r
end
mutual
def PV.scal:PV→Bool
 |.func _ xs ys=>PV.allS xs&&PV.allS ys
 |.agg cs=>PV.allS cs
 |.tup cs=>PV.allS cs
 |.iface _ v=>v.scal
 |.bool .. | .int .. | .str .. | .nilFunc|.nilIface|.ptr0|.sl0|.map0=>true
 |_=>false
def PV.allS:List PV→Bool
 |[]=>true
 |v::r=>v.scal&&PV.allS r
end
theorem PV.zh9:∀ {l:List PV} {i:Nat} {v:PV},PV.allF l=true→l[i]?=some v→v.isF=true
 |[],i,v,_,h=>by simp at h
 |u::r,i,v,ha,h=>by
  simp only[PV.allF,xfr] at ha
  cases i with
  |zero=>simp at h;subst h;exact ha.1
  |succ i=>simp at h;exact PV.zh9 ha.2 h
theorem PV.zj8:∀ {l:List PV} {i:Nat} {v:PV},PV.allS l=true→l[i]?=some v→v.scal=true
 |[],i,v,_,h=>by simp at h
 |u::r,i,v,ha,h=>by
  simp only[PV.allS,xfr] at ha
  cases i with
  |zero=>simp at h;subst h;exact ha.1
  |succ i=>simp at h;exact PV.zj8 ha.2 h
theorem PV.zr7:∀ {l:List PV},(∀v∈l,v.isF=true)→PV.allF l=true
 |[],_=>rfl
 |v::r,h=>by simp only[PV.allF,xfr];exact⟨h v (by simp),PV.zr7 fun u hu=>h u (List.mem_cons_of_mem _ hu)⟩
abbrev Fz:=Nat→Option AObj
inductive FR (g:Fz):PV→Value→Prop where
  |bool (b:Bool):FR g (.bool b) (.bool b)
  |int (k:IntKind) (n:Int):FR g (.int k n) (.int k n)
  |str (s:ByteArray):FR g (.str s) (.string s)
  |nilFunc:FR g .nilFunc .nilFunc
  |nilIface:FR g .nilIface .nilIface
  |ptr0:FR g .ptr0 (.pointer none)
  |sl0:FR g .sl0 (.slice none 0 0)
  |map0:FR g .map0 (.map none)
  |e0N:FR g .e0 (.slice none 0 0)
  |e0 (o off:Nat):FR g .e0 (.slice (some ⟨o,off,none⟩) 0 0)
  |func (f:FuncId) (xs ys:List PV) (xs' ys':Array Value) (hx:xs.length=xs'.size) (hy:ys.length=ys'.size)
      (rx:∀(i:Nat) v v',xs[i]?=some v→xs'[i]?=some v'→FR g v v') (ry:∀(i:Nat) v v',ys[i]?=some v→ys'[i]?=some v'→FR g v v') :
      FR g (.func f xs ys) (.func (.func f) xs' ys')
  |agg (cs:List PV) (cs':Array Value) (hs:cs.length=cs'.size) (r:∀(i:Nat) v v',cs[i]?=some v→cs'[i]?=some v'→FR g v v'):FR g (.agg cs) (.agg cs')
  |tup (cs:List PV) (cs':Array Value) (hs:cs.length=cs'.size) (r:∀(i:Nat) v v',cs[i]?=some v→cs'[i]?=some v'→FR g v v'):FR g (.tup cs) (.tuple cs')
  |iface (t:TypeId) (v:PV) (v':Value) (h:FR g v v'):FR g (.iface t v) (.iface t v')
  |vecN:FR g (.vec []) (.slice none 0 0)
  |vec0 (o off k:Nat):FR g (.vec []) (.slice (some ⟨o,off,none⟩) 0 k)
  |vec (es:List PV) (o off k s sz:Nat) (cs':List Value) (hk:es.length≤k) (hku:k+es.length<unk) (hg:g o=some (.cells s cs')) (h0:0<sz) (hsz:∀(i:Nat) e,es[i]?=some e→e.cells.length=sz) (hlen:off+es.length*sz≤cs'.length)
      (r:∀(i:Nat) e (j:Nat) v v',es[i]?=some e→e.cells[j]?=some v→cs'[off+i*sz+j]?=some v'→FR g v v'):FR g (.vec es) (.slice (some ⟨o,off,none⟩) es.length k)
  |vp (cs:List PV) (o off s:Nat) (cs':List Value) (hg:g o=some (.cells s cs')) (hlen:off+cs.length≤cs'.length)
      (r:∀(j:Nat) v v',cs[j]?=some v→cs'[off+j]?=some v'→FR g v v'):FR g (.vp cs) (.pointer (some ⟨o,off,none⟩))
  |vmap (es:List (PV×PV)) (o:Nat) (es':List (Value×Value)) (hg:g o=some (.map es')) (hlen:es.length=es'.length)
      (rk:∀(j:Nat) p p',es[j]?=some p→es'[j]?=some p'→FR g p.1 p'.1) (rv:∀(j:Nat) p p',es[j]?=some p→es'[j]?=some p'→FR g p.2 p'.2):FR g (.vmap es) (.map (some o))
def Fz.le (g g':Fz):Prop:=∀o x,g o=some x→g' o=some x
theorem Fz.le_refl (g:Fz):g.le g:=fun _ _ h=>h
theorem Fz.le_trans {a b c:Fz}(h:a.le b)(h':b.le c):a.le c:=fun o x hx=>h' o x (h o x hx)
theorem FR.mono {g g':Fz}(hle:g.le g'){v:PV}{v':Value}(h:FR g v v'):FR g' v v':=by
 induction h with
 |bool b=>exact .bool b
 |int k n=>exact .int k n
 |str s=>exact .str s
 |nilFunc=>exact .nilFunc
 |nilIface=>exact .nilIface
 |ptr0=>exact .ptr0
 |sl0=>exact .sl0
 |map0=>exact .map0
 |e0N=>exact .e0N
 |e0 o off=>exact .e0 o off
 |func f xs ys xs' ys' hx hy _ _ rx ry=>exact .func f xs ys xs' ys' hx hy rx ry
 |agg cs cs' hs _ r=>exact .agg cs cs' hs r
 |tup cs cs' hs _ r=>exact .tup cs cs' hs r
 |iface t v v' _ ih=>exact .iface t v v' ih
 |vecN=>exact .vecN
 |vec0 o off k=>exact .vec0 o off k
 |vec es o off k s sz cs' hk hku hg h0 hsz hlen _ r=>exact .vec es o off k s sz cs' hk hku (hle _ _ hg) h0 hsz hlen r
 |vp cs o off s cs' hg hlen _ r=>exact .vp cs o off s cs' (hle _ _ hg) hlen r
 |vmap es o es' hg hlen _ _ rk rv=>exact .vmap es o es' (hle _ _ hg) hlen rk rv
abbrev Sg:=Nat→Nat×Nat×Nat
inductive VR (g:Fz) (σ:Sg) (n:Nat):PV→Value→Prop where
  |fr (v:PV) (v':Value) (h:FR g v v'):VR g σ n v v'
  |ptr (i off o a k:Nat) (hi:i<n) (h:σ i=(o,a,k)):VR g σ n (.ptr i off) (.pointer (some ⟨o,a+off,none⟩))
  |own (i off len k o a kk:Nat) (hi:i<n) (h:σ i=(o,a,kk)) (hl:len≤k) (hk:k<inex):VR g σ n (.own i off len k) (.slice (some ⟨o,a+off,none⟩) len k)
  |sub (i off len k o a kk:Nat) (hi:i<n) (h:σ i=(o,a,kk)) (hl:len≤k) (hk:k+len<unk):VR g σ n (.sub i off len) (.slice (some ⟨o,a+off,none⟩) len k)
  |growN (i:Nat) (nl:Bool):VR g σ n (.grow i 0 nl) (.slice none 0 0)
  |grow0 (i o off:Nat):VR g σ n (.grow i 0 false) (.slice (some ⟨o,off,none⟩) 0 0)
  |grow (i m o a k:Nat) (nl:Bool) (hi:i<n) (h:σ i=(o,a,k)) (hn:0<m):VR g σ n (.grow i m nl) (.slice (some ⟨o,a,none⟩) m k)
  |mapv (i o a k:Nat) (hi:i<n) (h:σ i=(o,a,k)):VR g σ n (.mapv i) (.map (some o))
  |yld (i o a k:Nat) (hi:i<n) (h:σ i=(o,a,k)):VR g σ n (.yld i) (.func (.yield o) #[] #[])
  |agg (cs:List PV) (cs':Array Value) (hs:cs.length=cs'.size) (r:∀(i:Nat) v v',cs[i]?=some v→cs'[i]?=some v'→VR g σ n v v'):VR g σ n (.agg cs) (.agg cs')
  |tup (cs:List PV) (cs':Array Value) (hs:cs.length=cs'.size) (r:∀(i:Nat) v v',cs[i]?=some v→cs'[i]?=some v'→VR g σ n v v'):VR g σ n (.tup cs) (.tuple cs')
  |func (f:FuncId) (xs ys:List PV) (xs' ys':Array Value) (hx:xs.length=xs'.size) (hy:ys.length=ys'.size)
      (rx:∀(i:Nat) v v',xs[i]?=some v→xs'[i]?=some v'→VR g σ n v v') (ry:∀(i:Nat) v v',ys[i]?=some v→ys'[i]?=some v'→VR g σ n v v') :
      VR g σ n (.func f xs ys) (.func (.func f) xs' ys')
theorem VR.mono {g g':Fz}{σ σ':Sg}{n n':Nat}(hle:g.le g')(hn:n≤n')(hσ:∀i,i<n→σ' i=σ i){v:PV}{v':Value}(h:VR g σ n v v'):VR g' σ' n' v v':=by
 induction h with
 |fr v v' h=>exact .fr v v' (h.mono hle)
 |ptr i off o a k hi h=>exact .ptr i off o a k (by omega) ((hσ i hi).trans h)
 |own i off len k o a kk hi h hl hk=>exact .own i off len k o a kk (by omega) ((hσ i hi).trans h) hl hk
 |sub i off len k o a kk hi h hl hk=>exact .sub i off len k o a kk (by omega) ((hσ i hi).trans h) hl hk
 |growN i nl=>exact .growN i nl
 |grow0 i o off=>exact .grow0 i o off
 |grow i m o a k nl hi h hn=>exact .grow i m o a k nl (by omega) ((hσ i hi).trans h) hn
 |mapv i o a k hi h=>exact .mapv i o a k (by omega) ((hσ i hi).trans h)
 |yld i o a k hi h=>exact .yld i o a k (by omega) ((hσ i hi).trans h)
 |agg cs cs' hs _ r=>exact .agg cs cs' hs r
 |tup cs cs' hs _ r=>exact .tup cs cs' hs r
 |func f xs ys xs' ys' hx hy _ _ rx ry=>exact .func f xs ys xs' ys' hx hy rx ry
theorem PV.zuy {f:FuncId}{xs ys:List PV}:(PV.func f xs ys).isF=(PV.allF xs&&PV.allF ys):=by simp only[PV.isF]
theorem PV.zs4 {cs:List PV}:(PV.agg cs).isF=PV.allF cs:=by simp only[PV.isF]
theorem PV.zy1 {cs:List PV}:(PV.tup cs).isF=PV.allF cs:=by simp only[PV.isF]
theorem VR.isF {g:Fz}{σ:Sg}{n:Nat}{v:PV}{v':Value}(h:VR g σ n v v'):v.isF=true→FR g v v':=by
 induction h with
 |fr v v' h=>exact fun _=>h
 |ptr=>intro h;simp[PV.isF] at h
 |own=>intro h;simp[PV.isF] at h
 |sub=>intro h;simp[PV.isF] at h
 |growN=>intro h;simp[PV.isF] at h
 |grow0=>intro h;simp[PV.isF] at h
 |grow=>intro h;simp[PV.isF] at h
 |mapv=>intro h;simp[PV.isF] at h
 |yld=>intro h;simp[PV.isF] at h
 |agg cs cs' hs _ r=>intro h;rw[PV.zs4] at h;exact .agg cs cs' hs fun i v v' hv hv'=>r i v v' hv hv' (PV.zh9 h hv)
 |tup cs cs' hs _ r=>intro h;rw[PV.zy1] at h;exact .tup cs cs' hs fun i v v' hv hv'=>r i v v' hv hv' (PV.zh9 h hv)
 |func f xs ys xs' ys' hx hy _ _ rx ry=>intro h;rw[PV.zuy,xfr] at h;exact .func f xs ys xs' ys' hx hy (fun i v v' hv hv'=>rx i v v' hv hv' (PV.zh9 h.1 hv)) (fun i v v' hv hv'=>ry i v v' hv hv' (PV.zh9 h.2 hv))
end Go.Am
end
/-
 The value machine, part B: lists of values, heaps, states.
-/
section
namespace Go.Am
def PRs (R:PV→Value→Prop)(l:List PV)(l':List Value):Prop:=l.length=l'.length∧∀(i:Nat) v v',l[i]?=some v→l'[i]?=some v'→R v v'
section
variable {R R':PV→Value→Prop}
theorem PRs.mono (hm:∀v v',R v v'→R' v v'){l:List PV}{l':List Value}(h:PRs R l l'):PRs R' l l':=⟨h.1,fun i v v' a b=>hm _ _ (h.2 i v v' a b)⟩
theorem PRs.nil:PRs R [] []:=⟨rfl,fun i v v' h=>by simp at h⟩
theorem PRs.cons {v:PV}{v':Value}{l:List PV}{l':List Value}(hv:R v v')(h:PRs R l l'):PRs R (v::l) (v'::l'):=by
 refine⟨by simp[h.1],fun i u u' hu hu'=>?_⟩
 cases i with
 |zero=>simp at hu hu';subst hu;subst hu';exact hv
 |succ i=>simp at hu hu';exact h.2 i u u' hu hu'
theorem PRs.zcd {l:List Value}(h:PRs R [] l):l=[]:=by
 have:=h.1;simp at this;exact List.eq_nil_of_length_eq_zero this.symm
theorem PRs.zax {v:PV}{l:List PV}{r:List Value}(h:PRs R (v::l) r):∃v' l',r=v'::l'∧R v v'∧PRs R l l':=by
 cases r with
 |nil=>have:=h.1;simp at this
 |cons v' l'=>exact⟨v',l',rfl,h.2 0 v v' (by simp) (by simp),by have:=h.1;simpa using this,fun i x x' hx hx'=>h.2 (i+1) x x' (by simpa using hx) (by simpa using hx')⟩
theorem PRs.get {l:List PV}{l':List Value}(h:PRs R l l'){i:Nat}{v:PV}(hv:l[i]?=some v):∃v',l'[i]?=some v'∧R v v':=by
 have hlt:i<l.length:=by
  rcases Nat.lt_or_ge i l.length with h|h
  ·exact h
  rw[List.getElem?_eq_none h] at hv;cases hv
 have:i<l'.length:=h.1▸hlt
 exact⟨l'[i],by simp[this],h.2 i v _ hv (by simp[this])⟩
theorem PRs.append {l r:List PV}{l' r':List Value}(h:PRs R l l')(h2:PRs R r r'):PRs R (l++r) (l'++r'):=by
 refine⟨by simp[h.1,h2.1],fun i v v' hv hv'=>?_⟩
 by_cases hi:i<l.length
 ·rw[List.getElem?_append_left hi] at hv
  rw[List.getElem?_append_left (by have:=h.1;omega)] at hv'
  exact h.2 i v v' hv hv'
 rw[List.getElem?_append_right (by omega)] at hv
 rw[List.getElem?_append_right (by have:=h.1;omega),← h.1] at hv'
 exact h2.2 _ v v' hv hv'
theorem PRs.take {l:List PV}{l':List Value}(n:Nat)(h:PRs R l l'):PRs R (l.take n) (l'.take n):=by
 refine⟨by simp[h.1],fun i v v' hv hv'=>?_⟩
 rw[List.getElem?_take] at hv hv'
 split at hv
 ·rename_i hlt;simp only[hlt,if_true] at hv';exact h.2 i v v' hv hv'
 simp at hv
theorem PRs.drop {l:List PV}{l':List Value}(n:Nat)(h:PRs R l l'):PRs R (l.drop n) (l'.drop n):=by
 refine⟨by simp[h.1],fun i v v' hv hv'=>?_⟩
 rw[List.getElem?_drop] at hv hv'
 exact h.2 _ v v' hv hv'
def zbb (cs:List PV)(off:Nat)(vs:List PV):List PV:=cs.take off++vs++cs.drop (off+vs.length)
theorem PRs.zcb {l r:List PV}{l' r':List Value}(off:Nat)(h:PRs R l l')(h2:PRs R r r'):PRs R (zbb l off r) (zcb l' off r'):=by
 unfold zbb Go.Am.zcb
 rw[h2.1]
 exact((h.take off).append h2).append (h.drop _)
theorem PRs.isF {g:Fz}{σ:Sg}{n:Nat}{l:List PV}{l':List Value}(h:PRs (VR g σ n) l l')(hf:PV.allF l=true):PRs (FR g) l l':=⟨h.1,fun i v v' hv hv'=>(h.2 i v v' hv hv').isF (PV.zh9 hf hv)⟩
theorem PRs.vr {g:Fz}{σ:Sg}{n:Nat}{l:List PV}{l':List Value}(h:PRs (FR g) l l'):PRs (VR g σ n) l l':=h.mono fun _ _ h=>.fr _ _ h
end
theorem FR.cells {g:Fz}{v:PV}{v':Value}(h:FR g v v'):PRs (FR g) v.cells v'.cells.toList:=by
 cases h with
 |agg cs cs' hs r=>exact⟨by simpa[PV.cells,Value.cells] using hs,fun i v v' hv hv'=>r i v v' hv (by simpa[Value.cells] using hv')⟩
 |bool=>exact .cons (.bool _) .nil
 |int=>exact .cons (.int _ _) .nil
 |str=>exact .cons (.str _) .nil
 |nilFunc=>exact .cons .nilFunc .nil
 |nilIface=>exact .cons .nilIface .nil
 |ptr0=>exact .cons .ptr0 .nil
 |sl0=>exact .cons .sl0 .nil
 |map0=>exact .cons .map0 .nil
 |e0N=>exact .cons .e0N .nil
 |e0 o off=>exact .cons (.e0 o off) .nil
 |func f xs ys xs' ys' hx hy rx ry=>exact .cons (.func f xs ys xs' ys' hx hy rx ry) .nil
 |tup cs cs' hs r=>exact .cons (.tup cs cs' hs r) .nil
 |iface t v v' h=>exact .cons (.iface t v v' h) .nil
 |vecN=>exact .cons .vecN .nil
 |vec0 o off k=>exact .cons (.vec0 o off k) .nil
 |vec es o off k s sz cs' hk hku hg h0 hsz hlen r=>exact .cons (.vec es o off k s sz cs' hk hku hg h0 hsz hlen r) .nil
 |vp cs o off s cs' hg hlen r=>exact .cons (.vp cs o off s cs' hg hlen r) .nil
 |vmap es o es' hg hlen rk rv=>exact .cons (.vmap es o es' hg hlen rk rv) .nil
theorem VR.cells {g:Fz}{σ:Sg}{n:Nat}{v:PV}{v':Value}(h:VR g σ n v v'):PRs (VR g σ n) v.cells v'.cells.toList:=by
 cases h with
 |fr _ _ h=>exact h.cells.vr
 |agg cs cs' hs r=>exact⟨by simpa[PV.cells,Value.cells] using hs,fun i v v' hv hv'=>r i v v' hv (by simpa[Value.cells] using hv')⟩
 |ptr i off o a k hi h=>exact .cons (.ptr i off o a k hi h) .nil
 |own i off len k o a kk hi h hl hk=>exact .cons (.own i off len k o a kk hi h hl hk) .nil
 |sub i off len k o a kk hi h hl hk=>exact .cons (.sub i off len k o a kk hi h hl hk) .nil
 |growN i nl=>exact .cons (.growN i nl) .nil
 |grow0 i o off=>exact .cons (.grow0 i o off) .nil
 |grow i m o a k nl hi h hn=>exact .cons (.grow i m o a k nl hi h hn) .nil
 |mapv i o a k hi h=>exact .cons (.mapv i o a k hi h) .nil
 |yld i o a k hi h=>exact .cons (.yld i o a k hi h) .nil
 |tup cs cs' hs r=>exact .cons (.tup cs cs' hs r) .nil
 |func f xs ys xs' ys' hx hy rx ry=>exact .cons (.func f xs ys xs' ys' hx hy rx ry) .nil
def PV.one:PV→Bool
 |.agg _=>false
 |.tup _=>false
 |_=>true
theorem FR.one {g:Fz}{v:PV}{v':Value}(h:FR g v v'):v'.oneCell'=v.one:=by cases h<;>rfl
theorem VR.one {g:Fz}{σ:Sg}{n:Nat}{v:PV}{v':Value}(h:VR g σ n v v'):v'.oneCell'=v.one:=by
 cases h with
 |fr _ _ h=>exact h.one
 |_=>rfl
theorem PRs.ones {g:Fz}{σ:Sg}{n:Nat}{l:List PV}{l':List Value}(h:PRs (VR g σ n) l l')(ho:l.all PV.one=true):l'.all (·.oneCell')=true:=by
 rw[List.all_eq_true] at ho ⊢
 intro v' hv'
 obtain⟨i,hi⟩:=List.getElem?_of_mem hv'
 have hlt:i<l'.length:=by
  rcases Nat.lt_or_ge i l'.length with h|h
  ·exact h
  rw[List.getElem?_eq_none h] at hi;cases hi
 have hl:i<l.length:=h.1▸hlt
 rw[(h.2 i l[i] v' (by simp[hl]) hi).one]
 exact ho _ (List.getElem_mem hl)
inductive VObj where
  |box (cs:List PV)
  |arr (ag:Bool) (sz:Nat) (cs:List PV)
  |grow (sz:Nat) (es:List PV)
  |map (es:List (PV×PV))
  |fmap (es:List (PV×PV))
  |fgrow (es:List PV)
  |emap (es:List (PV×PV)) (k:Value) (born:Nat)
  |loop (N:Nat) (ps:Array Tmp) (assign body:Code) (vts:List (Nat×PV)) (jump:Option Code)
  deriving Inhabited
structure zab where
  next:Nat
  objs:List (Nat×VObj)
def zce (i:Nat):List (Nat×VObj)→Option VObj
 |[]=>none
 |(j,x)::r=>bif Nat.beq i j then some x else zce i r
def zab.get (vh:zab)(i:Nat):Option VObj:=zce i vh.objs
def zab.alloc (vh:zab)(x:VObj):zab:=⟨vh.next+1,(vh.next,x)::vh.objs⟩
def vput (i:Nat)(x:VObj):List (Nat×VObj)→List (Nat×VObj)
 |[]=>[]
 |(j,y)::r=>bif Nat.beq i j then (j,x)::vput i x r else (j,y)::vput i x r
def zab.put (vh:zab)(i:Nat)(x:VObj):zab:=⟨vh.next,vput i x vh.objs⟩
def zdi (i:Nat):List (Nat×VObj)→List (Nat×VObj)
 |[]=>[]
 |(j,y)::r=>bif Nat.beq i j then zdi i r else (j,y)::zdi i r
def zab.drop (vh:zab)(i:Nat):zab:=⟨vh.next,zdi i vh.objs⟩
def zab.empty:zab:=⟨0,[]⟩
theorem beq_eq (i j:Nat):Nat.beq i j=decide (i=j):=by rw[Bool.eq_iff_iff];simp
theorem zq5 (i j:Nat)(x:VObj):∀l,zce j (vput i x l)=if j=i then (zce i l).map (fun _=>x) else zce j l
 |[]=>by simp[vput,zce]
 |(k,y)::r=>by
  have ih:=zq5 i j x r
  simp only[vput,beq_eq]
  by_cases hik:i=k
  ·subst hik
   simp only[decide_true,xfp,zce,beq_eq,ih]
   by_cases hji:j=i<;>simp[hji]
  simp only[hik,decide_false,xfq,zce,beq_eq,ih]
  by_cases hjk:j=k
  ·subst hjk
   have:¬j=i:=fun h=>hik h.symm
   simp[this]
  by_cases hji:j=i
  ·subst hji;simp[hjk]
  simp[hjk,hji]
theorem zod (i j:Nat):∀l,zce j (zdi i l)=if j=i then none else zce j l
 |[]=>by simp[zdi,zce]
 |(k,y)::r=>by
  have ih:=zod i j r
  simp only[zdi,beq_eq]
  by_cases hik:i=k
  ·subst hik
   simp only[decide_true,xfp,zce,beq_eq,ih]
   by_cases hji:j=i<;>simp[hji]
  simp only[hik,decide_false,xfq,zce,beq_eq,ih]
  by_cases hjk:j=k
  ·subst hjk
   have:¬j=i:=fun h=>hik h.symm
   simp[this]
  simp[hjk]
theorem zab.zay (vh:zab)(x:VObj)(j:Nat):(vh.alloc x).get j=if j=vh.next then some x else vh.get j:=by
 simp only[zab.get,zab.alloc,zce,beq_eq]
 by_cases h:j=vh.next<;>simp[h]
theorem zab.zaw (vh:zab)(i j:Nat)(x y:VObj)(hy:vh.get i=some y):(vh.put i x).get j=if j=i then some x else vh.get j:=by
 have hy:zce i vh.objs=some y:=hy
 simp only[zab.get,zab.put,zq5,hy,Option.map_some]
theorem zab.z1b (vh:zab)(i j:Nat):(vh.drop i).get j=if j=i then none else vh.get j:=by
 simp only[zab.get,zab.drop,zod]
def VObj.live:VObj→Bool
 |.grow _ []=>false
 |_=>true
abbrev VTs:=List (Nat×PV)
def tget (t:Nat):VTs→Option PV
 |[]=>none
 |(u,v)::r=>bif Nat.beq t u then some v else tget t r
def VT (g:Fz)(σ:Sg)(n:Nat)(vts:VTs)(ts:Tmps):Prop:=∀t v,tget t vts=some v→VR g σ n v (ts.getD t Go.undef)
def VRO (g:Fz)(σ:Sg)(n:Nat)(h:zaa)(i:Nat):VObj→Prop
 |.box cs=>∃s cs',h.get (σ i).1=some (.cells s cs')∧(σ i).2.1=0∧PRs (VR g σ n) cs cs'
 |.arr _ sz cs=>0<sz∧∃s cs',h.get (σ i).1=some (.cells s cs')∧(σ i).2.1=0∧PRs (FR g) cs cs'
 | .grow sz es => 0 < sz ∧ (∀ e ∈ es, e.cells.length = sz) ∧ es.length < inex ∧ (es = [] ∨ ∃ s cs', h.get (σ i).1 = some (.cells s cs') ∧ (σ i).2.1 = 0 ∧ PRs (FR g) (es.flatMap PV.cells) cs' ∧
  ((σ i).2.2=inex∧s=sz∨(σ i).2.2=es.length))
 |.map es=>∃es',h.get (σ i).1=some (.map es')∧(σ i).2.1=0∧PRs (FR g) (es.map (·.1)) (es'.map (·.1))∧PRs (FR g) (es.map (·.2)) (es'.map (·.2))
 |.fmap es=>∃es',h.get (σ i).1=some (.map es')∧(σ i).2.1=0∧PRs (FR g) (es.map (·.1)) (es'.map (·.1))∧PRs (VR g σ n) (es.map (·.2)) (es'.map (·.2))
 |.fgrow es=>es≠[]∧(∀e∈es,e.cells=[e])∧es.length<inex∧∃s cs',h.get (σ i).1=some (.cells s cs')∧(σ i).2.1=0∧PRs (VR g σ n) es cs'∧((σ i).2.2=inex∧s=1∨(σ i).2.2=es.length)
 |.emap es k born=>∃es',h.get (σ i).1=some (.emap es' k born)∧(σ i).2.1=0∧PRs (FR g) (es.map (·.1)) (es'.map (·.1))∧PRs (FR g) (es.map (·.2)) (es'.map (·.2))
 |.loop N ps a bd vts jump=>∃L,h.get (σ i).1=some (.loop L jump)∧L.params=ps∧L.assign=a∧L.body=bd∧L.ts.length=N∧VT g σ n vts L.ts
structure VS (lo:Nat) (g:Fz) (σ:Sg) (vh:zab) (h:zaa):Prop where
  obj:∀i x,vh.get i=some x→i<vh.next∧VRO g σ vh.next h i x
  inj:∀i j x y,vh.get i=some x→vh.get j=some y→x.live=true→y.live=true→(σ i).1=(σ j).1→i=j
  low:∀i x,vh.get i=some x→x.live=true→lo≤(σ i).1
  fz:∀o x,g o=some x→h.get o=some x
  dis:∀i x,vh.get i=some x→x.live=true→g (σ i).1=none
  lole:lo≤h.next
theorem VT.mono {g g':Fz}{σ σ':Sg}{n n':Nat}(hle:g.le g')(hn:n≤n')(hσ:∀i,i<n→σ' i=σ i){vts:VTs}{ts:Tmps}(h:VT g σ n vts ts):VT g' σ' n' vts ts:=fun t v hv=>(h t v hv).mono hle hn hσ
structure VF (σ:Sg) (vh:zab) (h:zaa) (σ':Sg) (vh':zab) (h':zaa):Prop where
  next:h.next≤h'.next
  pres:∀o,o<h.next→(∀i x,vh.get i=some x→x.live=true→(σ i).1≠o)→h'.get o=h.get o
  own:∀i x,vh'.get i=some x→x.live=true→(σ' i).1<h.next→∃j y,vh.get j=some y∧y.live=true∧(σ j).1=(σ' i).1
theorem VF.refl (σ:Sg)(vh:zab)(h:zaa):VF σ vh h σ vh h:=⟨Nat.le_refl _,fun _ _ _=>rfl,fun i x hx hl _=>⟨i,x,hx,hl,rfl⟩⟩
theorem VF.trans {σ σ1 σ2:Sg}{vh vh1 vh2:zab}{h h1 h2:zaa}(a:VF σ vh h σ1 vh1 h1)(b:VF σ1 vh1 h1 σ2 vh2 h2):VF σ vh h σ2 vh2 h2 where
  next:=Nat.le_trans a.next b.next
  pres o ho hn:=by
    rw[b.pres o (Nat.lt_of_lt_of_le ho a.next) (fun i x hx hl he=>?_),a.pres o ho hn]
    obtain⟨j,y,hj,hlj,hje⟩:=a.own i x hx hl (he▸ho)
    exact hn j y hj hlj (hje.trans he)
  own i x hx hl hlt:=by
    obtain⟨j,y,hj,hlj,hje⟩:=b.own i x hx hl (Nat.lt_of_lt_of_le hlt a.next)
    obtain⟨k,z,hk,hlk,hke⟩:=a.own j y hj hlj (hje▸hlt)
    exact⟨k,z,hk,hlk,hke.trans hje⟩
end Go.Am
end
/-
 The value machine, part C: operations that read.
-/
section
namespace Go.Am
def pvc:Value→Option PV
 |.bool b=>some (.bool b)
 |.int k n=>some (.int k n)
 |.string s=>some (.str s)
 |.nilFunc=>some .nilFunc
 |.nilIface=>some .nilIface
 |.pointer none=>some .ptr0
 |.slice none 0 0=>some .sl0
 |.map none=>some .map0
 |_=>none
def pvcs:List Value→Option (List PV)
 |[]=>some []
 |v::r=>match pvc v,pvcs r with
  |some p,some l=>some (p::l)
  |_,_=>none
def pvcV:Value→Option PV
 |.agg cs=>(pvcs cs.toList).map .agg
 |.tuple cs=>(pvcs cs.toList).map .tup
 |v=>pvc v
theorem ztx {g:Fz}{v:Value}{p:PV}(h:pvc v=some p):FR g p v∧zdg v=true:=by
 unfold pvc at h
 split at h<;>first|cases h;done|(injection h with h;subst h;first|exact⟨.bool _,rfl⟩|exact⟨.int _ _,rfl⟩|exact⟨.str _,rfl⟩|exact⟨.nilFunc,rfl⟩|exact⟨.nilIface,rfl⟩|exact⟨.ptr0,rfl⟩|exact⟨.sl0,rfl⟩|exact⟨.map0,rfl⟩)
theorem zql {g:Fz}:∀ {l:List Value} {ps:List PV},pvcs l=some ps→PRs (FR g) ps l∧l.all zdg=true
 |[],ps,h=>by simp only[pvcs,xfm] at h;subst h;exact⟨.nil,rfl⟩
 |v::r,ps,h=>by
  simp only[pvcs] at h
  split at h
  ·rename_i p l h1 h2
   injection h with h;subst h
   have ih:=zql (g:=g) h2
   have h3:=ztx (g:=g) h1
   exact⟨.cons h3.1 ih.1,by simp[h3.2,ih.2]⟩
  cases h
theorem zhx {g:Fz}{v:Value}{p:PV}(h:pvcV v=some p):FR g p v∧zen v=true:=by
 unfold pvcV at h
 split at h
 ·obtain⟨l,h1,rfl⟩:=zad h
  have:=zql (g:=g) h1
  exact⟨.agg _ _ (by simpa using this.1.1) (fun i v v' hv hv'=>this.1.2 i v v' hv (by simpa using hv')),this.2⟩
 ·obtain⟨l,h1,rfl⟩:=zad h
  have:=zql (g:=g) h1
  exact⟨.tup _ _ (by simpa using this.1.1) (fun i v v' hv hv'=>this.1.2 i v v' hv (by simpa using hv')),this.2⟩
 rename_i hx hy
 have:=ztx (g:=g) h
 refine⟨this.1,?_⟩
 unfold zen
 split
 ·exact absurd rfl (hx _)
 ·exact absurd rfl (hy _)
 exact this.2
def za6 (vts:VTs):Operand→Option PV
 |.tmp t=>tget t vts
 |.const v=>pvcV v
 |.func f=>some (.func f [] [])
 |.global _=>none
section
variable {P:Program} {lo:Nat} {g:Fz} {σ:Sg} {vh:zab} {h:zaa} {vts:VTs} {ts:Tmps}
theorem zao {n:Nat}(ht:VT g σ n vts ts){x:Operand}{v:PV}(hv:za6 vts x=some v):∃v',za7 ts x=some v'∧VR g σ n v v':=by
 cases x with
 |tmp t=>exact⟨_,rfl,ht t v hv⟩
 |const u=>
  have:=zhx (g:=g) hv
  exact⟨u,by simp[za7,this.2],.fr _ _ this.1⟩
 |func f=>
  simp only[za6,xfm] at hv;subst hv
  exact⟨_,rfl,.fr _ _ (.func f [] [] #[] #[] rfl rfl (fun i v v' h=>by simp at h) (fun i v v' h=>by simp at h))⟩
 |global=>simp[za6] at hv
def zbo (vts:VTs):List Operand→Option (List PV)
 |[]=>some []
 |x::r=>match za6 vts x,zbo vts r with
  |some v,some l=>some (v::l)
  |_,_=>none
theorem zf6 {n:Nat}(ht:VT g σ n vts ts):∀ {xs:List Operand} {l:List PV},zbo vts xs=some l→∃l',zea ts xs=some l'∧PRs (VR g σ n) l l'
 |[],l,h=>by simp only[zbo,xfm] at h;subst h;exact⟨[],rfl,.nil⟩
 |x::r,l,h=>by
  simp only[zbo] at h
  split at h
  ·rename_i v l1 h1 h2
   injection h with h;subst h
   obtain⟨v',k1,k2⟩:=zao ht h1
   obtain⟨l',k3,k4⟩:=zf6 ht h2
   exact⟨v'::l',by simp[zea,k1,k3],.cons k2 k4⟩
  cases h
def zb4 (vts:VTs):List (Nat×Operand)→Option (List (Nat×PV))
 |[]=>some []
 |(i,x)::r=>match za6 vts x,zb4 vts r with
  |some v,some l=>some ((i,v)::l)
  |_,_=>none
def PPs (R:PV→Value→Prop)(l:List (Nat×PV))(l':List (Nat×Value)):Prop:=l.map (·.1)=l'.map (·.1)∧PRs R (l.map (·.2)) (l'.map (·.2))
theorem zj2 {n:Nat}(ht:VT g σ n vts ts):∀ {xs:List (Nat×Operand)} {l:List (Nat×PV)},zb4 vts xs=some l→∃l',zgg ts xs=some l'∧PPs (VR g σ n) l l'
 |[],l,h=>by simp only[zb4,xfm] at h;subst h;exact⟨[],rfl,rfl,.nil⟩
 |(i,x)::r,l,h=>by
  simp only[zb4] at h
  split at h
  ·rename_i v l1 h1 h2
   injection h with h;subst h
   obtain⟨v',k1,k2⟩:=zao ht h1
   obtain⟨l',k3,k4,k5⟩:=zj2 ht h2
   exact⟨(i,v')::l',by simp[zgg,k1,k3],by simp[k4],.cons k2 k5⟩
  cases h
def vsc1:PV→Option Value
 |.bool b=>some (.bool b)
 |.int k n=>some (.int k n)
 |.str s=>some (.string s)
 |.nilFunc=>some .nilFunc
 |.nilIface=>some .nilIface
 |.ptr0=>some (.pointer none)
 |.sl0=>some (.slice none 0 0)
 |.map0=>some (.map none)
 |_=>none
def vscs:List PV→Option (List Value)
 |[]=>some []
 |v::r=>match vsc1 v,vscs r with
  |some p,some l=>some (p::l)
  |_,_=>none
def vsc:PV→Option Value
 |.agg cs=>(vscs cs).map fun l=>.agg l.toArray
 |v=>vsc1 v
theorem zyq {v:PV}{v' x:Value}(hv:FR g v v')(h:vsc1 v=some x):v'=x:=by
 unfold vsc1 at h
 split at h<;>first|cases h;done|(injection h with h;subst h;cases hv;rfl)
theorem zw9:∀ {l:List PV} {l' xs:List Value},PRs (FR g) l l'→vscs l=some xs→l'=xs
 |[],l',xs,hl,h=>by simp only[vscs,xfm] at h;subst h;exact hl.zcd
 |v::r,l',xs,hl,h=>by
  simp only[vscs] at h
  split at h
  ·rename_i p l h1 h2
   injection h with h;subst h
   obtain⟨v',r',rfl,k1,k2⟩:=hl.zax
   rw[zyq k1 h1,zw9 k2 h2]
  cases h
theorem zt6 {v:PV}{x:Value}(h:vsc1 v=some x):v.isF=true:=by
 unfold vsc1 at h
 split at h<;>first|cases h;done|simp[PV.isF]
theorem zup:∀ {l:List PV} {xs:List Value},vscs l=some xs→PV.allF l=true
 |[],_,_=>rfl
 |v::r,xs,h=>by
  simp only[vscs] at h
  split at h
  ·rename_i h1 h2
   simp[PV.allF,zt6 h1,zup h2]
  cases h
theorem zrm {n:Nat}{v:PV}{v' x:Value}(hv:VR g σ n v v')(h:vsc v=some x):v'=x:=by
 unfold vsc at h
 split at h
 ·obtain⟨l,h1,rfl⟩:=zad h
  have hf:=hv.isF (by rw[PV.zs4];exact zup h1)
  cases hf with
  |agg cs cs' hs r=>
   have:=zw9 (g:=g) (l':=cs'.toList) ⟨by simpa using hs,fun i v v' hv hv'=>r i v v' hv (by simpa using hv')⟩ h1
   rw[← this]
 exact zyq (hv.isF (zt6 h)) h
def VOK (lo:Nat)(g:Fz)(σ:Sg)(vh:zab)(h:zaa)(v:PV)(vh':zab)(v':Value)(h':zaa):Prop:=
 ∃σ',VR g σ' vh'.next v v'∧VS lo g σ' vh' h'∧VF σ vh h σ' vh' h'∧vh.next≤vh'.next∧∀i,i<vh.next→σ' i=σ i
theorem VOK.same {v:PV}{v':Value}(s:VS lo g σ vh h)(hv:VR g σ vh.next v v'):VOK lo g σ vh h v vh v' h:=
 ⟨σ,hv,s,VF.refl _ _ _,Nat.le_refl _,fun _ _=>rfl⟩
def zd9:PV→Option Bool
 |.vp _=>some false
 |.ptr _ _=>some false
 |_=>none
def zd6:PV→Option Bool
 |.vec (_::_)=>some false
 |.own _ _ _ _=>some false
 |.sub _ _ _=>some false
 |.grow _ n true=>some (Nat.beq n 0)
 |.grow _ (_+1) false=>some false
 |_=>none
def zdj (P:Program)(t:TypeId)(a b:PV):Option Bool:=
 match b,P.underlying t with
 |.ptr0,some (.pointer _)=>zd9 a
 |.sl0,some (.slice _)=>zd6 a
 |_,_=>none
def vbin (P:Program)(op:BinOp)(t:TypeId)(a b:PV):Option PV:=
 match vsc a,vsc b with
 |some x,some y=>(zbv P op t x y).bind pvcV
 |_,_=>match op with
  |.eql=>(zdj P t a b).map .bool
  |.neq=>(zdj P t a b).map fun r=>.bool !r
  |_=>none
theorem ztq {n:Nat}{t:TypeId}{a b:PV}{a' b':Value}{r:Bool}(ha:VR g σ n a a')(hb:VR g σ n b b')(hq:zdj P t a b=some r):aeql P t a' b'=some r:=by
 unfold zdj at hq
 split at hq
 ·rename_i hu
  have:=hb.isF rfl;cases this
  unfold zd9 at hq
  split at hq
  ·injection hq with hq;subst hq
   have:=ha.isF rfl;cases this;simp[aeql,hu]
  ·injection hq with hq;subst hq
   cases ha with
   |fr _ _ h=>cases h
   |ptr=>simp[aeql,hu]
  cases hq
 ·rename_i hu
  have:=hb.isF rfl;cases this
  unfold zd6 at hq
  split at hq
  ·injection hq with hq;subst hq
   have:=ha.isF rfl;cases this;simp[aeql,hu]
  ·injection hq with hq;subst hq
   cases ha with
   |fr _ _ h=>cases h
   |own=>simp[aeql,hu]
  ·injection hq with hq;subst hq
   cases ha with
   |fr _ _ h=>cases h
   |sub=>simp[aeql,hu]
  ·injection hq with hq;subst hq
   cases ha with
   |fr _ _ h=>cases h
   |growN=>simp[aeql,hu]
   |grow i m o a k nl hi h hn=>
    simp only[aeql,hu,beq_eq]
    simp
    omega
  ·injection hq with hq;subst hq
   cases ha with
   |fr _ _ h=>cases h
   |grow i m o a k nl hi h hn=>simp[aeql,hu]
  cases hq
 cases hq
theorem zkv {t:TypeId}{a b:Value}{r:Bool}(h:aeql P t a b=some r)(h1:∀k x k' y,¬(a=.int k x∧b=.int k' y))(h2:∀x y,¬(a=.string x∧b=.string y)) :
  zbv P .eql t a b=some (.bool r)∧zbv P .neq t a b=some (.bool !r):=by
 constructor
 ·unfold zbv
  split<;>first|(simp_all;done)|(simp[aeql] at h;done)
 unfold zbv
 split<;>first|(simp_all;done)|(simp[aeql] at h;done)
theorem zhc {n:Nat}{t:TypeId}{a b:PV}{b':Value}{r:Bool}(hb:VR g σ n b b')(hq:zdj P t a b=some r):b'=.pointer none∨b'=.slice none 0 0:=by
 unfold zdj at hq
 split at hq
 ·have:=hb.isF rfl;cases this;exact .inl rfl
 ·have:=hb.isF rfl;cases this;exact .inr rfl
 cases hq
theorem z4j {n:Nat}{op:BinOp}{t:TypeId}{a b v:PV}{a' b':Value}(ha:VR g σ n a a')(hb:VR g σ n b b')(hv:vbin P op t a b=some v):∃v',zbv P op t a' b'=some v'∧FR g v v':=by
 unfold vbin at hv
 split at hv
 ·rename_i x y h1 h2
  rw[zrm ha h1,zrm hb h2]
  cases h3:zbv P op t x y with
  |none=>rw[h3] at hv;cases hv
  |some u=>rw[h3] at hv;exact⟨u,rfl,(zhx hv).1⟩
 split at hv
 ·obtain⟨r,h1,rfl⟩:=zad hv
  have:=ztq ha hb h1
  refine⟨_,(zkv this ?_ ?_).1,.bool _⟩
  ·rintro k x k' y ⟨_,rfl⟩;rcases zhc hb h1 with h|h<;>cases h
  rintro x y ⟨_,rfl⟩;rcases zhc hb h1 with h|h<;>cases h
 ·obtain⟨r,h1,rfl⟩:=zad hv
  have:=ztq ha hb h1
  refine⟨_,(zkv this ?_ ?_).2,.bool _⟩
  ·rintro k x k' y ⟨_,rfl⟩;rcases zhc hb h1 with h|h<;>cases h
  rintro x y ⟨_,rfl⟩;rcases zhc hb h1 with h|h<;>cases h
 cases hv
def zdt (P:Program)(t:TypeId)(cs:List PV)(off n:Nat):Option PV:=
 match tagg P t with
 |some true=>bif Nat.ble (off+n) cs.length then some (.agg ((cs.drop off).take n)) else none
 |some false=>cs[off]?
 |none=>none
theorem zoi {n:Nat}{cs:List PV}{cs':List Value}(h:PRs (VR g σ n) cs cs'):VR g σ n (.agg cs) (.agg cs'.toArray):=
 .agg _ _ (by simpa using h.1) fun i v v' hv hv'=>h.2 i v v' hv (by simpa using hv')
theorem zua {n m:Nat}{t:TypeId}{cs:List PV}{cs':List Value}{off:Nat}{v:PV}(h:PRs (VR g σ n) cs cs')(hv:zdt P t cs off m=some v):∃v',apart P t cs' off m=some v'∧VR g σ n v v':=by
 unfold zdt at hv
 unfold apart
 split at hv
 ·rename_i hg
  cases hb:Nat.ble (off+m) cs.length with
  |false=>rw[hb] at hv;cases hv
  |true=>
   rw[hb] at hv;simp only[xfp,xfm] at hv;subst hv
   rw[h.1] at hb
   exact⟨_,by simp[hg,hb],zoi ((h.drop off).take m)⟩
 ·rename_i hg
  obtain⟨v',h1,h2⟩:=h.get hv
  exact⟨v',by simp[hg,h1],h2⟩
 cases hv
theorem zkt {n:Nat}{cs:List PV}{v':Value}(h:VR g σ n (.agg cs) v'):∃cs':Array Value,v'=.agg cs'∧PRs (VR g σ n) cs cs'.toList:=by
 cases h with
 |fr _ _ h=>cases h with
  |agg _ cs' hs r=>exact⟨cs',rfl,by simpa using hs,fun i v v' hv hv'=>.fr _ _ (r i v v' hv (by simpa using hv'))⟩
 |agg _ cs' hs r=>exact⟨cs',rfl,by simpa using hs,fun i v v' hv hv'=>r i v v' hv (by simpa using hv')⟩
theorem zkm {n:Nat}{cs:List PV}{v':Value}(h:VR g σ n (.tup cs) v'):∃cs':Array Value,v'=.tuple cs'∧PRs (VR g σ n) cs cs'.toList:=by
 cases h with
 |fr _ _ h=>cases h with
  |tup _ cs' hs r=>exact⟨cs',rfl,by simpa using hs,fun i v v' hv hv'=>.fr _ _ (r i v v' hv (by simpa using hv'))⟩
 |tup _ cs' hs r=>exact⟨cs',rfl,by simpa using hs,fun i v v' hv hv'=>r i v v' hv (by simpa using hv')⟩
def zcn (P:Program)(t:TypeId)(x:PV)(f:Nat):Option PV:=
 match x,zbk P t f with
 |.agg cs,some (ty,off,n)=>zdt P ty cs off n
 |_,_=>none
theorem zxy {n:Nat}{t:TypeId}{x v:PV}{x':Value}{f:Nat}(hx:VR g σ n x x')(hv:zcn P t x f=some v):∃v',zou P t x' f=some v'∧VR g σ n v v':=by
 unfold zcn at hv
 split at hv
 ·rename_i hf
  obtain⟨cs',rfl,hc⟩:=zkt hx
  obtain⟨v',h1,h2⟩:=zua hc hv
  exact⟨v',by simp[zou,hf,h1],h2⟩
 cases hv
def vidx (n:Int)(len:Nat):Option Nat:=if 0≤n∧n<len then some n.toNat else none
theorem zji (n:Int)(len:Nat):within n len=vidx n len:=by
 unfold within vidx
 cases n with
 |ofNat k=>
  simp only[Int.ofNat_eq_natCast]
  by_cases h:k<len
  ·have:Nat.blt k len=true:=by rw[Nat.blt_eq];exact h
   simp[this,h]
  have:Nat.blt k len=false:=by rw[← Bool.not_eq_true,Nat.blt_eq];exact h
  simp[this,h]
 |negSucc k=>simp
def zcl (P:Program)(t:TypeId)(x i:PV):Option PV:=
 match x,i with
 |.agg cs,.int _ n=>
  match tarr P t with
  |some (len,e,sz)=>match vidx n len with
   |some k=>zdt P e cs (k*sz) sz
   |none=>none
  |none=>none
 |.str s,.int k n=>(zll P t (.string s) (.int k n)).bind pvcV
 |_,_=>none
theorem zwl {n:Nat}{t:TypeId}{x i v:PV}{x' i':Value}(hx:VR g σ n x x')(hi:VR g σ n i i')(hv:zcl P t x i=some v):∃v',zll P t x' i'=some v'∧VR g σ n v v':=by
 unfold zcl at hv
 split at hv
 ·rename_i k m
  have:=hi.isF rfl;cases this
  obtain⟨cs',rfl,hc⟩:=zkt hx
  split at hv
  ·rename_i ha
   split at hv
   ·rename_i hw
    obtain⟨v',h1,h2⟩:=zua hc hv
    exact⟨v',by simp[zll,ha,zji,hw,h1],h2⟩
   cases hv
  cases hv
 ·have:=hi.isF rfl;cases this
  have:=hx.isF rfl;cases this
  rename_i s k m
  cases h3:zll P t (.string s) (.int k m) with
  |none=>rw[h3] at hv;cases hv
  |some u=>rw[h3] at hv;exact⟨u,rfl,.fr _ _ (zhx hv).1⟩
 cases hv
def zbf (x:PV)(i:Nat):Option PV:=
 match x with
 |.tup vs=>vs[i]?
 |_=>none
theorem zsk {n:Nat}{x v:PV}{x':Value}{i:Nat}(hx:VR g σ n x x')(hv:zbf x i=some v):∃v',zhg x' i=some v'∧VR g σ n v v':=by
 unfold zbf at hv
 split at hv
 ·obtain⟨cs',rfl,hc⟩:=zkm hx
  obtain⟨v',h1,h2⟩:=hc.get hv
  exact⟨v',by simpa[zhg] using h1,h2⟩
 cases hv
def zau (P:Program)(s:TypeId)(p:PV)(f:Nat):Option PV:=
 match p,zbk P s f with
 |.ptr i off,some (_,fo,n)=>bif Nat.beq n 0 then none else some (.ptr i (off+fo))
 |.vp cs,some (_,fo,n)=>bif Nat.beq n 0||!Nat.ble fo cs.length then none else some (.vp (cs.drop fo))
 |_,_=>none
theorem zkl {cs:List PV}{o off s:Nat}{cs':List Value}(hg:g o=some (.cells s cs'))(hlen:off+cs.length≤cs'.length)(r:∀(j:Nat) v v',cs[j]?=some v→cs'[off+j]?=some v'→FR g v v'){k:Nat}(hk:k≤cs.length) :
  FR g (.vp (cs.drop k)) (.pointer (some ⟨o,off+k,none⟩)):=
 .vp _ o (off+k) s cs' hg (by simp;omega) fun j v v' hv hv'=>r (k+j) v v' (by rw[List.getElem?_drop] at hv;exact hv) (by rw[show off+(k+j)=off+k+j by omega];exact hv')
theorem zp0 {n:Nat}{t:TypeId}{p v:PV}{p':Value}{f:Nat}(hp:VR g σ n p p')(hv:zau P t p f=some v):∃v',zfg P t p' f=some v'∧VR g σ n v v':=by
 unfold zau at hv
 split at hv
 ·rename_i i off ty fo m hf
  cases hb:Nat.beq m 0 with
  |true=>rw[hb] at hv;cases hv
  |false=>
   rw[hb] at hv;simp only[xfq,xfm] at hv;subst hv
   cases hp with
   |fr _ _ h=>cases h
   |ptr _ _ o a k hi hs=>
    exact⟨_,by simp only[zfg,hf,hb,xfq];rfl,by have:=VR.ptr (g:=g) i (off+fo) o a k hi hs;rwa [show a+(off+fo)=a+off+fo by omega] at this⟩
 ·rename_i cs ty fo m hf
  cases hb:Nat.beq m 0 with
  |true=>rw[hb] at hv;cases hv
  |false=>
   cases hc:Nat.ble fo cs.length with
   |false=>rw[hb,hc] at hv;cases hv
   |true=>
    rw[hb,hc] at hv;simp only[Bool.not_true,Bool.or_false,xfq,xfm] at hv;subst hv
    have:=hp.isF rfl
    cases this with
    |vp _ o off s cs' hg hlen r=>
     exact⟨_,by simp only[zfg,hf,hb,xfq],.fr _ _ (zkl hg hlen r (by simpa using hc))⟩
 cases hv
def zav (P:Program)(t:TypeId)(x i:PV):Option PV:=
 match x,i with
 |.vec es,.int _ n=>
  match zc8 P t,vidx n es.length with
  |some (_,sz),some k=>match es[k]? with
   |some e=>bif Nat.beq e.cells.length sz then some (.vp e.cells) else none
   |none=>none
  |_,_=>none
 |.own i off len _,.int _ n=>
  match zc8 P t,vidx n len with
  |some (_,sz),some k=>some (.ptr i (off+k*sz))
  |_,_=>none
 |.sub i off len,.int _ n=>
  match zc8 P t,vidx n len with
  |some (_,sz),some k=>some (.ptr i (off+k*sz))
  |_,_=>none
 |.ptr i off,.int _ n=>
  match tarr P t with
  |some (len,_,sz)=>match vidx n len with
   |some k=>some (.ptr i (off+k*sz))
   |none=>none
  |none=>none
 |.grow i m _,.int _ n=>
  match zc8 P t,vidx n m with
  |some (_,sz),some k=>some (.ptr i (k*sz))
  |_,_=>none
 |_,_=>none
theorem zss {es:List PV}{o off k s sz:Nat}{cs':List Value}(hg:g o=some (.cells s cs'))(hsz:∀(i:Nat) e,es[i]?=some e→e.cells.length=sz)(hlen:off+es.length*sz≤cs'.length)
  (r:∀(i:Nat) e (j:Nat) v v',es[i]?=some e→e.cells[j]?=some v→cs'[off+i*sz+j]?=some v'→FR g v v') {e:PV} (he:es[k]?=some e):FR g (.vp e.cells) (.pointer (some ⟨o,off+k*sz,none⟩)):=by
 have hk:k<es.length:=by
  rcases Nat.lt_or_ge k es.length with h|h
  ·exact h
  rw[List.getElem?_eq_none h] at he;cases he
 refine .vp _ o _ s cs' hg ?_ (fun j v v' hv hv'=>r k e j v v' he hv hv')
 rw[hsz k e he]
 have h1:k*sz+sz≤es.length*sz:=by rw[← Nat.succ_mul];exact Nat.mul_le_mul_right _ hk
 omega
theorem zpt {n:Nat}{t:TypeId}{x i v:PV}{x' i':Value}(hx:VR g σ n x x')(hi:VR g σ n i i')(hv:zav P t x i=some v):∃v',zc9 P t x' i'=some v'∧VR g σ n v v':=by
 unfold zav at hv
 split at hv
 ·rename_i es k m
  have:=hi.isF rfl;cases this
  split at hv
  ·rename_i ty sz q ht hw
   split at hv
   ·rename_i e he
    cases hb:Nat.beq e.cells.length sz with
    |false=>rw[hb] at hv;cases hv
    |true=>
     rw[hb] at hv;simp only[xfp,xfm] at hv;subst hv
     have hb:e.cells.length=sz:=by simpa using hb
     have:=hx.isF rfl
     cases this with
     |vecN=>simp at he
     |vec0=>simp at he
     |vec _ o off k0 s sz0 cs' hk hku hg h0 hsz hlen r=>
      have:sz0=sz:=by rw[← hsz q e he,hb]
      subst this
      exact⟨_,by simp only[zc9,ht,zji,hw],.fr _ _ (zss hg hsz hlen r he)⟩
   cases hv
  cases hv
 ·rename_i i0 off len k0 k m
  have:=hi.isF rfl;cases this
  split at hv
  ·rename_i ty sz q ht hw
   injection hv with hv;subst hv
   cases hx with
   |fr _ _ h=>cases h
   |own _ _ _ _ o a kk hi hs hl hk=>
    exact⟨.pointer (some ⟨o,a+off+q*sz,none⟩),by simp only[zc9,ht,zji,hw],by have:=VR.ptr (g:=g) i0 (off+q*sz) o a kk hi hs;rwa [show a+(off+q*sz)=a+off+q*sz by omega] at this⟩
  cases hv
 ·rename_i i0 off len k m
  have:=hi.isF rfl;cases this
  split at hv
  ·rename_i ty sz q ht hw
   injection hv with hv;subst hv
   cases hx with
   |fr _ _ h=>cases h
   |sub _ _ _ _ o a kk hi hs hl hk=>
    exact⟨.pointer (some ⟨o,a+off+q*sz,none⟩),by simp only[zc9,ht,zji,hw],by have:=VR.ptr (g:=g) i0 (off+q*sz) o a kk hi hs;rwa [show a+(off+q*sz)=a+off+q*sz by omega] at this⟩
  cases hv
 ·rename_i i0 off k m
  have:=hi.isF rfl;cases this
  split at hv
  ·rename_i len ty sz ht
   split at hv
   ·rename_i q hw
    injection hv with hv;subst hv
    cases hx with
    |fr _ _ h=>cases h
    |ptr _ _ o a kk hi hs=>
     exact⟨.pointer (some ⟨o,a+off+q*sz,none⟩),by simp only[zc9,ht,zji,hw],by have:=VR.ptr (g:=g) i0 (off+q*sz) o a kk hi hs;rwa [show a+(off+q*sz)=a+off+q*sz by omega] at this⟩
   cases hv
  cases hv
 ·rename_i i0 m nl k q0
  have:=hi.isF rfl;cases this
  split at hv
  ·rename_i ty sz q ht hw
   injection hv with hv;subst hv
   have hq:q<m:=by
    unfold vidx at hw
    split at hw
    ·rename_i h1;injection hw with hw;omega
    cases hw
   cases hx with
   |fr _ _ h=>cases h
   |growN=>omega
   |grow0=>omega
   |grow _ _ o a kk _ hi hs hn=>
    exact⟨.pointer (some ⟨o,a+q*sz,none⟩),by simp only[zc9,ht,zji,hw],.ptr i0 (q*sz) o a kk hi hs⟩
  cases hv
 cases hv
def zby (P:Program)(t:TypeId)(cs:List PV)(off:Nat):Option PV:=
 match tagg P t with
 |some true=>match tsz P t with
  |some n=>bif Nat.ble (off+n) cs.length then some (.agg ((cs.drop off).take n)) else none
  |none=>none
 |some false=>cs[off]?
 |none=>none
def zge (P:Program)(t:TypeId)(cs:List PV)(off:Nat):Option PV:=
 match tsz P t with
 |some (_+1)=>zby P t cs off
 |_=>none
def zdu (P:Program)(vh:zab)(t:TypeId)(p:PV):Option PV:=
 match p with
 |.vp cs=>zby P t cs 0
 |.ptr i off=>match vh.get i with
  |some (.box cs)=>zby P t cs off
  |some (.arr _ _ cs)=>zby P t cs off
  |some (.grow _ es)=>zge P t (es.flatMap PV.cells) off
  |_=>none
 |_=>none
theorem zju {n:Nat}{t:TypeId}{cs:List PV}{cs':List Value}{off o s:Nat}{v:PV}(hg:h.get o=some (.cells s cs'))(hc:PRs (VR g σ n) cs cs')(hv:zby P t cs off=some v):∃v',zjd P h t (.pointer (some ⟨o,off,none⟩))=some v'∧VR g σ n v v':=by
 unfold zby at hv
 simp only[zjd,hg]
 split at hv
 ·rename_i ha
  split at hv
  ·rename_i m hm
   cases hb:Nat.ble (off+m) cs.length with
   |false=>rw[hb] at hv;cases hv
   |true=>
    rw[hb] at hv;simp only[xfp,xfm] at hv;subst hv
    rw[hc.1] at hb
    exact⟨_,by simp only[ha,hm,hb,xfp],zoi ((hc.drop off).take m)⟩
  cases hv
 ·rename_i ha
  obtain⟨v',h1,h2⟩:=hc.get hv
  exact⟨v',by simp[ha,h1],h2⟩
 cases hv
theorem zuw {t:TypeId}{p v:PV}{p':Value}(s:VS lo g σ vh h)(hp:VR g σ vh.next p p')(hv:zdu P vh t p=some v):∃v',zjd P h t p'=some v'∧VR g σ vh.next v v':=by
 unfold zdu at hv
 split at hv
 ·rename_i cs
  have:=hp.isF rfl
  cases this with
  |vp _ o off s0 cs' hg hlen r=>
   have hgh:=s.fz _ _ hg
   have hc:PRs (VR g σ vh.next) cs ((cs'.drop off).take cs.length):=⟨by simp;omega,fun i v v' hv hv'=>.fr _ _ (r i v v' hv (by
    rw[List.getElem?_take] at hv'
    split at hv'
    ·rwa [List.getElem?_drop] at hv'
    cases hv'))⟩
   unfold zby at hv
   simp only[zjd,hgh]
   split at hv
   ·rename_i ha
    split at hv
    ·rename_i m hm
     cases hb:Nat.ble (0+m) cs.length with
     |false=>rw[hb] at hv;cases hv
     |true=>
      rw[hb] at hv;simp only[xfp,xfm] at hv;subst hv
      have hb:m≤cs.length:=by simpa using hb
      have hb2:Nat.ble (off+m) cs'.length=true:=by rw[Nat.ble_eq];omega
      refine⟨.agg ((cs'.drop off).take m).toArray,by simp only[ha,hm,hb2,xfp],zoi ?_⟩
      have h2:=hc.take m
      rw[List.take_take,show min m cs.length=m by omega] at h2
      simpa using h2
    cases hv
   ·rename_i ha
    obtain⟨v',h1,h2⟩:=hc.get hv
    refine⟨v',?_,h2⟩
    rw[List.getElem?_take] at h1
    split at h1
    ·simpa[ha,List.getElem?_drop] using h1
    cases h1
   cases hv
 ·rename_i i off
  cases hp with
  |fr _ _ h=>cases h
  |ptr _ _ o a k hi hs=>
   split at hv
   ·rename_i cs hg
    obtain⟨s0,cs',h1,h2,h3⟩:=(s.obj i _ hg).2
    rw[hs] at h1 h2
    simp only at h1 h2;subst h2
    rw[Nat.zero_add]
    exact zju h1 h3 hv
   ·rename_i ag sz cs hg
    obtain⟨_,s0,cs',h1,h2,h3⟩:=(s.obj i _ hg).2
    rw[hs] at h1 h2
    simp only at h1 h2;subst h2
    rw[Nat.zero_add]
    exact zju h1 h3.vr hv
   ·rename_i sz es hg
    obtain⟨_,_,_,h0⟩:=(s.obj i _ hg).2
    unfold zge at hv
    split at hv
    ·rename_i n hn
     rcases h0 with rfl|⟨s0,cs',h1,h2,h3,_⟩
     ·unfold zby at hv
      rw[hn] at hv
      split at hv
      ·simp only[List.flatMap_nil,List.length_nil] at hv
       rw[show Nat.ble (off+(n+1)) 0=false by rfl,xfq] at hv
       cases hv
      ·simp at hv
      cases hv
     rw[hs] at h1 h2
     simp only at h1 h2;subst h2
     rw[Nat.zero_add]
     exact zju h1 h3.vr hv
    cases hv
   cases hv
 cases hv
def vbnd (v:PV)(y:Nat):Option Nat:=
 match v with
 |.int _ i=>if 0≤i∧i≤y then some i.toNat else none
 |_=>none
theorem zp7 {n:Nat}{v:PV}{v':Value}{y k:Nat}(h:VR g σ n v v')(hb:vbnd v y=some k):abnd v' y=some k:=by
 unfold vbnd at hb
 split at hb
 ·have:=h.isF rfl;cases this
  rename_i kd i
  unfold abnd
  cases i with
  |ofNat j=>
   by_cases hj:j≤y
   ·have:Nat.ble j y=true:=by simpa using hj
    simp[hj] at hb;subst hb;simp[this]
   simp[hj] at hb
  |negSucc j=>
   have:¬(0≤Int.negSucc j∧Int.negSucc j≤y):=by omega
   simp[this] at hb
 cases hb
theorem zpl {v:PV}{y k:Nat}(hb:vbnd v y=some k):k≤y:=by
 unfold vbnd at hb
 split at hb
 ·rename_i kd i
  by_cases h:0≤i∧i≤y
  ·simp only[h,and_self,if_true,xfm] at hb;omega
  rw[if_neg h] at hb;cases hb
 cases hb
theorem zri {v:Value}{y y' k:Nat}(hb:abnd v y=some k)(hy:y≤y'):abnd v y'=some k:=by
 unfold abnd at hb ⊢
 split at hb
 ·rename_i i
  cases h:Nat.ble i y with
  |false=>rw[h] at hb;cases hb
  |true=>
   rw[h] at hb
   have h1:i≤y:=by simpa using h
   have:Nat.ble i y'=true:=by rw[Nat.ble_eq];omega
   simp only[this,xfp] at hb ⊢;exact hb
 cases hb
def vO (vts:VTs):Option Operand→Option (Option PV)
 |none=>some none
 |some x=>(za6 vts x).map some
def VRop (g:Fz)(σ:Sg)(n:Nat):Option PV→Option Value→Prop
 |none,none=>True
 |some v,some v'=>VR g σ n v v'
 |_,_=>False
theorem zqu {n:Nat}(ht:VT g σ n vts ts){x:Option Operand}{v:Option PV}(hv:vO vts x=some v):∃v',zg3 ts x=some v'∧VRop g σ n v v':=by
 cases x with
 |none=>simp only[vO,xfm] at hv;subst hv;exact⟨none,rfl,trivial⟩
 |some x=>
  obtain⟨u,h1,rfl⟩:=zad hv
  obtain⟨v',h2,h3⟩:=zao ht h1
  exact⟨some v',by simp[zg3,h2],h3⟩
def zbl (len known:Nat)(lo hi:Option PV):Option (Nat×Nat):=
 match (match hi with|some v=>vbnd v known|none=>some len) with
 |none=>none
 |some u=>match (match lo with|some v=>vbnd v u|none=>some 0) with
  |none=>none
  |some l=>some (l,u)
theorem zdc {n:Nat}{len known known' l u:Nat}{lo hi:Option PV}{lo' hi':Option Value}(hk:known≤known')(hlo:VRop g σ n lo lo')(hhi:VRop g σ n hi hi')(hb:zbl len known lo hi=some (l,u)) :
  zem len known' lo' hi' none=some (l,u,none)∧l≤u∧(len≤known→u≤known):=by
 unfold zbl at hb
 split at hb
 ·cases hb
 rename_i u0 hu
 split at hb
 ·cases hb
 rename_i l0 hl
 simp only[xfm,xfn] at hb
 obtain⟨rfl,rfl⟩:=hb
 have e1:bH len known' hi' none=some u0∧(len≤known→u0≤known):=by
  cases hi with
  |none=>cases hi' with
   |none=>simp only[xfm] at hu;subst hu;exact⟨rfl,fun h=>h⟩
   |some=>exact hhi.elim
  |some v=>cases hi' with
   |none=>exact hhi.elim
   |some v'=>exact⟨zri (zp7 hhi hu) hk,fun _=>zpl hu⟩
 have e2:bL u0 lo'=some l0∧l0≤u0:=by
  cases lo with
  |none=>cases lo' with
   |none=>simp only[xfm] at hl;subst hl;exact⟨rfl,Nat.zero_le _⟩
   |some=>exact hlo.elim
  |some v=>cases lo' with
   |none=>exact hlo.elim
   |some v'=>exact⟨zp7 hlo hl,zpl hl⟩
 simp only[zem,bM]
 rw[e1.1]
 simp only
 rw[e2.1]
 exact⟨rfl,e2.2,e1.2⟩
def zfu (n:Nat)(es:List PV):Bool:=es.all fun e=>Nat.beq e.cells.length n
def zci (P:Program)(t:TypeId)(x:PV)(lo hi:Option PV):Option PV:=
 match zc8 P t with
 |none=>none
 |some (_,sz)=>match x with
  |.sl0=>(zbl 0 0 lo hi).map fun _=>.sl0
  |.vec es=>bif zfu sz es then (zbl es.length es.length lo hi).map fun p=>.vec ((es.drop p.1).take (p.2 - p.1)) else none
  |.own i off len k=>(zbl len k lo hi).map fun p=>.own i (bif Nat.beq k p.1 then off else off+p.1*sz) (p.2 - p.1) (k - p.1)
  |.sub i off len=>(zbl len len lo hi).map fun p=>bif Nat.beq p.2 p.1 then .vec [] else .sub i (off+p.1*sz) (p.2 - p.1)
  |_=>none
theorem zrk {es:List PV}{o off k s sz:Nat}{cs':List Value}(hk:es.length≤k)(hku:k+es.length<unk)(hg:g o=some (.cells s cs'))(h0:0<sz)(hsz:∀(i:Nat) e,es[i]?=some e→e.cells.length=sz)(hlen:off+es.length*sz≤cs'.length)
  (r:∀(i:Nat) e (j:Nat) v v',es[i]?=some e→e.cells[j]?=some v→cs'[off+i*sz+j]?=some v'→FR g v v') {l u k':Nat} (hl:l≤u) (hu:u≤es.length) (hk':u - l≤k') (hku':k'+(u - l)<unk) :
  FR g (.vec ((es.drop l).take (u - l))) (.slice (some ⟨o,off+l*sz,none⟩) (u - l) k'):=by
 have hle:((es.drop l).take (u - l)).length=u - l:=by simp;omega
 have:=FR.vec (g:=g) ((es.drop l).take (u - l)) o (off+l*sz) k' s sz cs' (by omega) (by omega) hg h0 (fun i e he=>?_) ?_ (fun i e j v v' he hv hv'=>?_)
 ·rwa [hle] at this
 ·rw[List.getElem?_take] at he
  split at he
  ·rw[List.getElem?_drop] at he;exact hsz _ e he
  cases he
 ·rw[hle]
  have:l*sz+(u - l)*sz≤es.length*sz:=by rw[← Nat.add_mul];exact Nat.mul_le_mul_right _ (by omega)
  omega
 rw[List.getElem?_take] at he
 split at he
 ·rw[List.getElem?_drop] at he
  refine r (l+i) e j v v' he hv ?_
  rw[Nat.add_mul,show off+(l*sz+i*sz)+j=off+l*sz+i*sz+j by omega];exact hv'
 cases he
theorem zw5 {n:Nat}{t:TypeId}{x v:PV}{x':Value}{lo hi:Option PV}{lo' hi':Option Value}(hx:VR g σ n x x')(hlo:VRop g σ n lo lo')(hhi:VRop g σ n hi hi')(hv:zci P t x lo hi=some v) :
  ∃v',zdb P t x' lo' hi' none=some v'∧VR g σ n v v':=by
 unfold zci at hv
 split at hv
 ·cases hv
 rename_i ty sz ht
 split at hv
 ·obtain⟨⟨l,u⟩,h1,rfl⟩:=zad hv
  have:=hx.isF rfl;cases this
  obtain⟨h2,_⟩:=zdc (Nat.le_refl _) hlo hhi h1
  exact⟨_,by simp only[zdb,ht,h2],.fr _ _ .sl0⟩
 ·rename_i es
  cases hall:zfu sz es with
  |false=>rw[hall] at hv;cases hv
  |true=>
  rw[hall,xfp] at hv
  obtain⟨⟨l,u⟩,h1,rfl⟩:=zad hv
  simp only
  have:=hx.isF rfl
  cases this with
  |vecN=>
   obtain⟨h2,h3,h4⟩:=zdc (Nat.le_refl _) hlo hhi h1
   exact⟨.slice none 0 0,by simp only[zdb,ht];simp only[List.length_nil] at h2;simp only[h2],by simp only[List.drop_nil,List.take_nil];exact .fr _ _ .vecN⟩
  |vec0 o off k=>
   have h4:=(zdc (known':=0) (Nat.le_refl _) hlo hhi h1).2.2 (Nat.le_refl _)
   have h3:=(zdc (known':=0) (Nat.le_refl _) hlo hhi h1).2.1
   have hu:u=0:=by simpa using h4
   have hl:l=0:=by omega
   subst hu;subst hl
   simp only[List.drop_nil,List.take_nil]
   by_cases hki:k<inex
   ·have e1:Nat.blt k inex=true:=by rw[Nat.blt_eq];exact hki
    have h2:=(zdc (known':=k) (by simp) hlo hhi h1).1
    simp only[List.length_nil] at h2
    refine⟨_,by simp only[zdb,ht,e1,xfp,h2];rfl,?_⟩
    cases hbk:Nat.beq k 0<;>exact .fr _ _ (.vec0 _ _ _)
   have e1:Nat.blt k inex=false:=by rw[← Bool.not_eq_true,Nat.blt_eq];exact hki
   have h2:=(zdc (known':=0) (Nat.le_refl _) hlo hhi h1).1
   simp only[List.length_nil] at h2
   by_cases hku:k<unk
   ·have e2:Nat.blt k unk=true:=by rw[Nat.blt_eq];exact hku
    exact⟨.slice (some ⟨o,off,none⟩) 0 k,by simp only[zdb,ht,e1,e2,xfp,xfq,h2,Nat.beq_refl],.fr _ _ (.vec0 _ _ _)⟩
   have e2:Nat.blt k unk=false:=by rw[← Bool.not_eq_true,Nat.blt_eq];exact hku
   exact⟨.slice (some ⟨o,off,none⟩) 0 unk,by simp only[zdb,ht,e1,e2,xfq,h2],.fr _ _ (.vec0 _ _ _)⟩
  |vec _ o off k s sz0 cs' hk hku hg h0 hsz hlen r=>
   obtain⟨h2,h3,h4⟩:=zdc (known':=es.length) (Nat.le_refl _) hlo hhi h1
   have h4:=h4 (Nat.le_refl _)
   have hemp:u - l=0→((es.drop l).take (u - l))=[]:=fun h=>by rw[h,List.take_zero]
   have hsame:0<u - l→sz0=sz:=fun hlt=>by
    have hl:0<es.length:=by omega
    have h5:=hsz 0 es[0] (by simp[hl])
    unfold zfu at hall
    rw[List.all_eq_true] at hall
    have h6:=hall es[0] (List.getElem_mem hl)
    rw[beq_eq,decide_eq_true_eq] at h6
    omega
   have fin:∀k',0<u - l→u - l≤k'→k'+(u - l)<unk→VR g σ n (.vec ((es.drop l).take (u - l))) (.slice (some ⟨o,off+l*sz,none⟩) (u - l) k'):=fun k' hlt h5 h6=>by
    have hsz':=hsame hlt;subst hsz'
    exact .fr _ _ (zrk hk hku hg h0 hsz hlen r h3 h4 h5 h6)
   by_cases hki:k<inex
   ·have e1:Nat.blt k inex=true:=by rw[Nat.blt_eq];exact hki
    have h2:=(zdc (known':=k) hk hlo hhi h1).1
    refine⟨_,by simp only[zdb,ht,e1,xfp,h2];rfl,?_⟩
    simp only[Option.getD_none]
    rcases zam k l with⟨hq,hq'⟩|⟨hq,hq'⟩
    ·have hz:u - l=0:=by omega
     rw[hq,hemp hz,hz];exact .fr _ _ (.vec0 _ _ _)
    rw[hq,xfq]
    by_cases hz:u - l=0
    ·rw[hemp hz,hz];exact .fr _ _ (.vec0 _ _ _)
    exact fin _ (by omega) (by omega) (by omega)
   have e1:Nat.blt k inex=false:=by rw[← Bool.not_eq_true,Nat.blt_eq];exact hki
   have e2:Nat.blt k unk=true:=by rw[Nat.blt_eq];omega
   have e3:Nat.blt (k+l) unk=true:=by rw[Nat.blt_eq];omega
   rcases zam l 0 with⟨hq,hq'⟩|⟨hq,hq'⟩
   ·subst hq'
    refine⟨.slice (some ⟨o,off,none⟩) u k,by simp only[zdb,ht,e1,e2,xfp,xfq,h2,Nat.beq_refl],?_⟩
    by_cases hz:u=0
    ·subst hz;simp only[Nat.sub_self,List.take_zero];exact .fr _ _ (.vec0 _ _ _)
    have:=fin k (by omega) (by omega) (by omega)
    simpa using this
   rcases zam u l with⟨hr,hr'⟩|⟨hr,hr'⟩
   ·refine⟨.slice (some ⟨o,off,none⟩) 0 unk,by simp only[zdb,ht,e1,e2,xfp,xfq,h2,hq,hr],?_⟩
    have hz:u - l=0:=by omega
    rw[hemp hz];exact .fr _ _ (.vec0 _ _ _)
   exact⟨.slice (some ⟨o,off+l*sz,none⟩) (u - l) (k+l),by simp only[zdb,ht,e1,e2,e3,xfp,xfq,h2,hq,hr],fin _ (by omega) (by omega) (by omega)⟩
 ·rename_i i off len k
  obtain⟨⟨l,u⟩,h1,rfl⟩:=zad hv
  simp only
  cases hx with
  |fr _ _ h=>cases h
  |own _ _ _ _ o a kk hi hs hl hk=>
   obtain⟨h2,h3,h4⟩:=zdc (known':=k) (Nat.le_refl _) hlo hhi h1
   have h4:=h4 hl
   have e1:Nat.blt k inex=true:=by rw[Nat.blt_eq];exact hk
   refine⟨_,by simp only[zdb,ht,e1,xfp,h2];rfl,?_⟩
   simp only[Option.getD_none]
   rcases zam k l with⟨hq,hq'⟩|⟨hq,hq'⟩
   ·rw[hq];exact .own i off (u - l) (k - l) o a kk hi hs (by omega) (by omega)
   rw[hq]
   have:=VR.own (g:=g) i (off+l*sz) (u - l) (k - l) o a kk hi hs (by omega) (by omega)
   simpa[show a+(off+l*sz)=a+off+l*sz by omega] using this
 ·rename_i i off len
  obtain⟨⟨l,u⟩,h1,rfl⟩:=zad hv
  simp only
  cases hx with
  |fr _ _ h=>cases h
  |sub _ _ _ k o a kk hi hs hl hk=>
   rcases Nat.lt_or_ge k inex with hki|hki
   ·obtain⟨h2,h3,h4⟩:=zdc (known':=k) hl hlo hhi h1
    have h4:=h4 (Nat.le_refl _)
    have e1:Nat.blt k inex=true:=by rw[Nat.blt_eq];exact hki
    refine⟨_,by simp only[zdb,ht,e1,xfp,h2];rfl,?_⟩
    simp only[Option.getD_none]
    rcases zam u l with⟨hq,hq'⟩|⟨hq,hq'⟩
    ·rw[hq]
     have hz:u - l=0:=by omega
     rw[hz];exact .fr _ _ (.vec0 _ _ _)
    rw[hq]
    rcases zam k l with⟨hr,hr'⟩|⟨hr,hr'⟩
    ·omega
    rw[hr]
    have:=VR.sub (g:=g) i (off+l*sz) (u - l) (k - l) o a kk hi hs (by omega) (by omega)
    simpa[show a+(off+l*sz)=a+off+l*sz by omega] using this
   obtain⟨h2,h3,h4⟩:=zdc (known':=len) (Nat.le_refl _) hlo hhi h1
   have h4:=h4 (Nat.le_refl _)
   have e1:Nat.blt k inex=false:=by rw[Bool.eq_false_iff];intro h;rw[Nat.blt_eq] at h;omega
   have e2:Nat.blt k unk=true:=by rw[Nat.blt_eq];omega
   rcases zam l 0 with⟨hq,hq'⟩|⟨hq,hq'⟩
   ·refine⟨.slice (some ⟨o,a+off,none⟩) u k,by simp only[zdb,ht,e1,e2,xfp,xfq,h2,hq],?_⟩
    subst hq'
    rcases zam u 0 with⟨hr,hr'⟩|⟨hr,hr'⟩
    ·rw[hr];subst hr';exact .fr _ _ (.vec0 _ _ _)
    rw[hr]
    have:=VR.sub (g:=g) i (off+0*sz) (u - 0) k o a kk hi hs (by omega) (by omega)
    simpa using this
   rcases zam u l with⟨hr,hr'⟩|⟨hr,hr'⟩
   ·exact⟨.slice (some ⟨o,a+off,none⟩) 0 unk,by simp only[zdb,ht,e1,e2,xfp,xfq,h2,hq,hr],by rw[hr];exact .fr _ _ (.vec0 _ _ _)⟩
   have e3:Nat.blt (k+l) unk=true:=by rw[Nat.blt_eq];omega
   refine⟨.slice (some ⟨o,a+off+l*sz,none⟩) (u - l) (k+l),by simp only[zdb,ht,e1,e2,e3,xfp,xfq,h2,hq,hr],?_⟩
   rw[hr]
   have:=VR.sub (g:=g) i (off+l*sz) (u - l) (k+l) o a kk hi hs (by omega) (by omega)
   simpa[show a+(off+l*sz)=a+off+l*sz by omega] using this
 cases hv
def zbr (P:Program)(t:TypeId)(x:PV):Option PV:=
 match zc8 P t with
 |none=>none
 |some _=>match x with
  |.sl0=>some .sl0
  |.e0=>some .e0
  |.vec _=>some .e0
  |.grow _ _ _=>some .e0
  |_=>none
def zi8 (P:Program)(t:TypeId)(x:PV)(lo hi mx:Option PV):Option PV:=
 match x with
 |.sub i off len=>match lo,hi,mx with
  |none,some u,some m=>match zc8 P t,vbnd m len with
   |some _,some b=>match vbnd u b with
    |some a=>some (.own i off a b)
    |none=>none
   |_,_=>none
  |_,_,_=>none
 |_=>none
@[simp] theorem z2f (P:Program)(t:TypeId)(es:List PV)(lo hi mx:Option PV):zi8 P t (.vec es) lo hi mx=none:=rfl
@[simp] theorem z1t (P:Program)(t:TypeId)(i n:Nat)(nl:Bool)(lo hi mx:Option PV):zi8 P t (.grow i n nl) lo hi mx=none:=rfl
@[simp] theorem z3x (P:Program)(t:TypeId)(lo hi mx:Option PV):zi8 P t .sl0 lo hi mx=none:=rfl
@[simp] theorem z5v (P:Program)(t:TypeId)(lo hi mx:Option PV):zi8 P t .e0 lo hi mx=none:=rfl
theorem zvv {n:Nat}{t:TypeId}{x v:PV}{x':Value}{lo hi mx:Option PV}{lo' hi' mx':Option Value}(hx:VR g σ n x x')(hlo:VRop g σ n lo lo')(hhi:VRop g σ n hi hi')(hmx:VRop g σ n mx mx')(hv:zi8 P t x lo hi mx=some v) :
  ∃v',zdb P t x' lo' hi' mx'=some v'∧VR g σ n v v':=by
 unfold zi8 at hv
 split at hv
 ·rename_i i off len
  split at hv
  ·rename_i u m
   split at hv
   ·rename_i ty b ht hb
    split at hv
    ·rename_i a ha
     injection hv with hv;subst hv
     cases lo' with
     |some _=>exact hlo.elim
     |none=>
     cases hi' with
     |none=>exact hhi.elim
     |some u'=>
     cases mx' with
     |none=>exact hmx.elim
     |some m'=>
     have h1:=zp7 (v:=m) hmx hb
     have h2:=zp7 (v:=u) hhi ha
     have h3:=zpl hb
     have h4:=zpl ha
     cases hx with
     |fr _ _ h=>cases h
     |sub _ _ _ k o a0 kk hi hs hl hk=>
      obtain⟨ty,sz⟩:=ty
      have hlen:b<inex:=by
       rcases Nat.lt_or_ge k inex with h|h
       ·omega
       have:unk=inex+inex:=rfl
       omega
      have hr:VR g σ n (.own i off a b) (.slice (some ⟨o,a0+off,none⟩) a b):=.own i off a b o a0 kk hi hs h4 hlen
      have hoff:(bif Nat.beq b 0 then a0+off else a0+off+0*sz)=a0+off:=by cases Nat.beq b 0<;>simp
      cases hki:Nat.blt k inex with
      |true=>
       have e:zem len k none (some u') (some m')=some (0,a,some b):=by simp only[zem,bM,zri h1 hl,Option.map_some,bH,h2,bL]
       exact⟨_,by simp only[zdb,ht,hki,xfp,e,Option.getD_some,hoff,Nat.sub_zero],hr⟩
      |false=>
       have hku:Nat.blt k unk=true:=by rw[Nat.blt_eq];omega
       have e:zem len len none (some u') (some m')=some (0,a,some b):=by simp only[zem,bM,h1,Option.map_some,bH,h2,bL]
       have hbi:Nat.blt b inex=true:=by rw[Nat.blt_eq];exact hlen
       exact⟨_,by simp only[zdb,ht,hki,hku,xfp,xfq,e,hbi,hoff,Nat.sub_zero],hr⟩
    cases hv
   cases hv
  cases hv
 cases hv
def zcz (v:Option PV):Bool:=match v with
 |some (.int _ n)=>decide (n=0)
 |_=>false
theorem zqp {n len known:Nat}{lo hi mx:Option PV}{lo' hi' mx':Option Value}(hlo:VRop g σ n lo lo')(hhi:VRop g σ n hi hi')(hmx:VRop g σ n mx mx')(h1:lo=none∨zcz lo=true)(h2:zcz hi=true)(h3:zcz mx=true) :
  zem len known lo' hi' mx'=some (0,0,some 0):=by
 have val:∀ {v:Option PV} {v':Option Value},VRop g σ n v v'→zcz v=true→∃k,v'=some (.int k 0):=fun {v v'} hr hz=>by
  unfold zcz at hz
  split at hz
  ·rename_i k m
   simp only[decide_eq_true_eq] at hz;subst hz
   cases v' with
   |none=>exact hr.elim
   |some v'=>have:=VR.isF hr rfl;cases this;exact⟨k,rfl⟩
  cases hz
 obtain⟨k1,rfl⟩:=val hhi h2
 obtain⟨k2,rfl⟩:=val hmx h3
 have e:∀y,Nat.ble 0 y=true:=fun y=>by rw[Nat.ble_eq];exact Nat.zero_le _
 have hb:∀(k:IntKind) y,abnd (.int k 0) y=some 0:=fun k y=>by
  show (bif Nat.ble 0 y then some 0 else none)=some 0
  rw[e];rfl
 have hbl:bL 0 lo'=some 0:=by
  rcases h1 with rfl|h1
  ·cases lo' with
   |none=>rfl
   |some=>exact hlo.elim
  obtain⟨k3,rfl⟩:=val hlo h1
  exact hb k3 0
 simp only[zem,bM,hb,Option.map_some,bH,hbl]
theorem zv2 {n:Nat}{t:TypeId}{x v:PV}{x':Value}{lo hi mx:Option PV}{lo' hi' mx':Option Value}(hx:VR g σ n x x')(hlo:VRop g σ n lo lo')(hhi:VRop g σ n hi hi')(hmx:VRop g σ n mx mx')
  (h1:lo=none∨zcz lo=true) (h2:zcz hi=true) (h3:zcz mx=true) (hv:zbr P t x=some v):∃v',zdb P t x' lo' hi' mx'=some v'∧VR g σ n v v':=by
 have hb:∀len known,zem len known lo' hi' mx'=some (0,0,some 0):=fun len known=>zqp hlo hhi hmx h1 h2 h3
 have any:∀o off len k,∀ty,zc8 P t=some ty→∃o' off',zdb P t (.slice (some ⟨o,off,none⟩) len k) lo' hi' mx'=some (.slice (some ⟨o',off',none⟩) 0 0):=fun o off len k ty ht=>by
  obtain⟨ty,sz⟩:=ty
  simp only[zdb,ht,hb]
  cases Nat.blt k inex with
  |true=>exact⟨_,_,rfl⟩
  |false=>
   cases Nat.blt k unk with
   |true=>exact⟨_,_,rfl⟩
   |false=>exact⟨_,_,rfl⟩
 have nilc:∀ty,zc8 P t=some ty→zdb P t (.slice none 0 0) lo' hi' mx'=some (.slice none 0 0):=fun ty ht=>by simp only[zdb,ht,hb]
 unfold zbr at hv
 split at hv
 ·cases hv
 rename_i ty ht
 split at hv
 ·injection hv with hv;subst hv
  have:=hx.isF rfl;cases this
  exact⟨_,nilc _ ht,.fr _ _ .sl0⟩
 ·injection hv with hv;subst hv
  have:=hx.isF rfl
  cases this with
  |e0N=>exact⟨_,nilc _ ht,.fr _ _ .e0N⟩
  |e0 o off=>
   obtain⟨o',off',h⟩:=any o off 0 0 _ ht
   exact⟨_,h,.fr _ _ (.e0 _ _)⟩
 ·injection hv with hv;subst hv
  have:=hx.isF rfl
  cases this with
  |vecN=>exact⟨_,nilc _ ht,.fr _ _ .e0N⟩
  |vec0 o off k=>
   obtain⟨o',off',h⟩:=any o off 0 k _ ht
   exact⟨_,h,.fr _ _ (.e0 _ _)⟩
  |vec es o off k=>
   obtain⟨o',off',h⟩:=any o off _ k _ ht
   exact⟨_,h,.fr _ _ (.e0 _ _)⟩
 ·injection hv with hv;subst hv
  cases hx with
  |fr _ _ h=>cases h
  |growN=>exact⟨_,nilc _ ht,.fr _ _ .e0N⟩
  |grow0 i o off=>
   obtain⟨o',off',h⟩:=any o off 0 0 _ ht
   exact⟨_,h,.fr _ _ (.e0 _ _)⟩
  |grow i m o a k=>
   obtain⟨o',off',h⟩:=any o a _ k _ ht
   exact⟨_,h,.fr _ _ (.e0 _ _)⟩
 cases hv
def vlen (P:Program)(vh:zab)(t:TypeId)(x:PV):Option PV:=
 match P.underlying t,x with
 |some .string,.str s=>some (.int .i64 s.size)
 |some (.slice _),.sl0=>some (.int .i64 0)
 |some (.slice _),.e0=>some (.int .i64 0)
 |some (.slice _),.vec es=>some (.int .i64 es.length)
 |some (.slice _),.own _ _ n _=>some (.int .i64 n)
 |some (.slice _),.sub _ _ n=>some (.int .i64 n)
 |some (.slice _),.grow _ n _=>some (.int .i64 n)
 |some (.array n _),_=>some (.int .i64 n)
 |some (.map _ _),.map0=>some (.int .i64 0)
 |some (.map _ _),.vmap es=>some (.int .i64 es.length)
 |some (.map _ _),.mapv i=>match vh.get i with
  |some (.map es)=>some (.int .i64 es.length)
  |_=>none
 |_,_=>none
theorem z3p {t:TypeId}{x v:PV}{x':Value}(s:VS lo g σ vh h)(hx:VR g σ vh.next x x')(hv:vlen P vh t x=some v):∃v',zec P h t x'=some v'∧FR g v v':=by
 unfold vlen at hv
 split at hv
 ·rename_i hu;injection hv with hv;subst hv
  have:=hx.isF rfl;cases this
  exact⟨_,by simp[zec,hu,zdq],.int _ _⟩
 ·rename_i hu;injection hv with hv;subst hv
  have:=hx.isF rfl;cases this
  exact⟨_,by simp[zec,hu,zdq],.int _ _⟩
 ·rename_i hu;injection hv with hv;subst hv
  have:=hx.isF rfl;cases this<;>exact⟨_,by simp[zec,hu,zdq],.int _ _⟩
 ·rename_i hu;injection hv with hv;subst hv
  have:=hx.isF rfl;cases this<;>exact⟨_,by first|(simp only[zec,hu,zdq];done)|(simp only[zec,hu,zdq];rfl),.int _ _⟩
 ·rename_i hu;injection hv with hv;subst hv
  cases hx with
  |fr _ _ h=>cases h
  |own=>exact⟨_,by simp[zec,hu,zdq],.int _ _⟩
 ·rename_i hu;injection hv with hv;subst hv
  cases hx with
  |fr _ _ h=>cases h
  |sub=>exact⟨_,by simp only[zec,hu,zdq],.int _ _⟩
 ·rename_i hu;injection hv with hv;subst hv
  cases hx with
  |fr _ _ h=>cases h
  |growN=>exact⟨_,by simp only[zec,hu,zdq],.int _ _⟩
  |grow0=>exact⟨_,by simp only[zec,hu,zdq],.int _ _⟩
  |grow=>exact⟨_,by simp only[zec,hu,zdq],.int _ _⟩
 ·rename_i hu;injection hv with hv;subst hv
  refine⟨_,by unfold zec;simp only[hu,zdq],.int _ _⟩
 ·rename_i hu;injection hv with hv;subst hv
  have:=hx.isF rfl;cases this
  exact⟨_,by simp[zec,hu,zdq],.int _ _⟩
 ·rename_i es hu;injection hv with hv;subst hv
  have:=hx.isF rfl
  cases this with
  |vmap _ o es' hg hlen rk rv=>exact⟨.int .i64 es'.length,by simp only[zec,hu,s.fz _ _ hg,zdq],by rw[hlen];exact .int _ _⟩
 ·rename_i i hu
  split at hv
  ·rename_i es hg
   injection hv with hv;subst hv
   cases hx with
   |fr _ _ h=>cases h
   |mapv _ o a k hi hs=>
    obtain⟨es',h1,h2,h3,h4⟩:=(s.obj i _ hg).2
    rw[hs] at h1
    have hl:=h3.1
    simp only[List.length_map] at hl
    exact⟨.int .i64 es'.length,by simp only[zec,hu,h1,zdq],by rw[hl];exact .int _ _⟩
  cases hv
 cases hv
end
end Go.Am
end
/-
 The value machine, part D: how heaps change.
-/
section
namespace Go.Am
def Sg.put (σ:Sg)(i:Nat)(x:Nat×Nat×Nat):Sg:=fun j=>if j=i then x else σ j
theorem Sg.zaf (σ:Sg)(i:Nat)(x:Nat×Nat×Nat):σ.put i x i=x:=by simp[Sg.put]
theorem Sg.zix (σ:Sg){i j:Nat}(x:Nat×Nat×Nat)(h:j≠i):σ.put i x j=σ j:=by simp[Sg.put,h]
section
variable {P:Program} {lo:Nat} {g:Fz} {σ:Sg} {vh:zab} {h:zaa}
theorem PRs.zyz {g g':Fz}{σ σ':Sg}{n n':Nat}(hle:g.le g')(hn:n≤n')(hσ:∀i,i<n→σ' i=σ i){l:List PV}{l':List Value}(hp:PRs (VR g σ n) l l'):PRs (VR g' σ' n') l l':=hp.mono fun _ _ hv=>hv.mono hle hn hσ
theorem VRO.mono {g':Fz}{σ':Sg}{n n':Nat}{h':zaa}{i:Nat}{x:VObj}(hle:g.le g')(hn:n≤n')(hσ:∀i,i<n→σ' i=σ i)(hi:i<n)(hg:x.live=true→h'.get (σ i).1=h.get (σ i).1)(hx:VRO g σ n h i x):VRO g' σ' n' h' i x:=by
 have hs:=hσ i hi
 cases x with
 |box cs=>
  obtain⟨s,cs',h1,h2,h3⟩:=hx
  exact⟨s,cs',by rw[hs,hg rfl];exact h1,by rw[hs];exact h2,h3.zyz hle hn hσ⟩
 |arr ag sz cs=>
  obtain⟨h0,s,cs',h1,h2,h3⟩:=hx
  exact⟨h0,s,cs',by rw[hs,hg rfl];exact h1,by rw[hs];exact h2,h3.mono fun _ _ h=>h.mono hle⟩
 |grow sz es=>
  obtain⟨h0,h1,h2,h3⟩:=hx
  cases es with
  |nil=>exact⟨h0,h1,h2,.inl rfl⟩
  |cons e r=>exact⟨h0,h1,h2,h3.imp_right fun⟨s,cs',k1,k2,k3,k4⟩=>⟨s,cs',by rw[hs,hg rfl];exact k1,by rw[hs];exact k2,k3.mono fun _ _ h=>h.mono hle,by rw[hs];exact k4⟩⟩
 |map es=>
  obtain⟨es',h1,h2,h3,h4⟩:=hx
  exact⟨es',by rw[hs,hg rfl];exact h1,by rw[hs];exact h2,h3.mono fun _ _ h=>h.mono hle,h4.mono fun _ _ h=>h.mono hle⟩
 |fmap es=>
  obtain⟨es',h1,h2,h3,h4⟩:=hx
  exact⟨es',by rw[hs,hg rfl];exact h1,by rw[hs];exact h2,h3.mono fun _ _ h=>h.mono hle,h4.zyz hle hn hσ⟩
 |fgrow es=>
  obtain⟨h0,h1,h2,s,cs',k1,k2,k3,k4⟩:=hx
  exact⟨h0,h1,h2,s,cs',by rw[hs,hg rfl];exact k1,by rw[hs];exact k2,k3.zyz hle hn hσ,by rw[hs];exact k4⟩
 |emap es k born=>
  obtain⟨es',h1,h2,h3,h4⟩:=hx
  exact⟨es',by rw[hs,hg rfl];exact h1,by rw[hs];exact h2,h3.mono fun _ _ h=>h.mono hle,h4.mono fun _ _ h=>h.mono hle⟩
 |loop N ps a bd vts jump=>
  obtain⟨L,h1,h2,h3,h4,h5,h6⟩:=hx
  exact⟨L,by rw[hs,hg rfl];exact h1,h2,h3,h4,h5,h6.mono hle hn hσ⟩
theorem VRO.lt {n:Nat}{i:Nat}{x:VObj}(hl:x.live=true)(hx:VRO g σ n h i x):(σ i).1<h.next:=by
 cases x with
 |box cs=>obtain⟨s,cs',h1,_⟩:=hx;exact zaa.zai h1
 |arr ag sz cs=>obtain⟨_,s,cs',h1,_⟩:=hx;exact zaa.zai h1
 |grow sz es=>
  obtain⟨_,_,_,h3⟩:=hx
  rcases h3 with rfl|⟨s,cs',h1,_⟩
  ·cases hl
  exact zaa.zai h1
 |map es=>obtain⟨es',h1,_⟩:=hx;exact zaa.zai h1
 |fmap es=>obtain⟨es',h1,_⟩:=hx;exact zaa.zai h1
 |fgrow es=>obtain⟨_,_,_,s,cs',h1,_⟩:=hx;exact zaa.zai h1
 |emap es=>obtain⟨es',h1,_⟩:=hx;exact zaa.zai h1
 |loop=>obtain⟨L,h1,_⟩:=hx;exact zaa.zai h1
theorem VS.z3o (s:VS lo g σ vh h){o:Nat}(ho:h.next≤o):g o=none:=by
 cases hg:g o with
 |none=>rfl
 |some x=>have:=zaa.zai (s.fz o x hg);omega
theorem VS.alloc (s:VS lo g σ vh h){x:VObj}(y:AObj)(k:Nat)(hx:VRO g (σ.put vh.next (h.next,0,k)) (vh.next+1) (h.alloc y) vh.next x) :
  VS lo g (σ.put vh.next (h.next,0,k)) (vh.alloc x) (h.alloc y)∧VF σ vh h (σ.put vh.next (h.next,0,k)) (vh.alloc x) (h.alloc y):=by
 have hσ:∀i,i<vh.next→(σ.put vh.next (h.next,0,k)) i=σ i:=fun i hi=>Sg.zix _ _ (by omega)
 have hold:∀o,o<h.next→(h.alloc y).get o=h.get o:=fun o ho=>by rw[zaa.zay,if_neg (by omega)]
 have split:∀i z,(vh.alloc x).get i=some z→(i=vh.next∧z=x)∨(i<vh.next∧vh.get i=some z):=fun i z hz=>by
  rw[zab.zay] at hz
  by_cases hi:i=vh.next
  ·subst hi;simp at hz;exact .inl ⟨rfl,hz.symm⟩
  simp[hi] at hz;exact .inr ⟨(s.obj i z hz).1,hz⟩
 refine⟨⟨fun i z hz=>?_,fun i j z z' hz hz' hl hl' he=>?_,fun i z hz hl=>?_,fun o z hz=>?_,fun i z hz hl=>?_,?_⟩,⟨?_,fun o ho hn=>hold o ho,fun i z hz hl hlt=>?_⟩⟩
 ·rcases split i z hz with⟨rfl,rfl⟩|⟨hi,hz⟩
  ·exact⟨by simp[zab.alloc],hx⟩
  refine⟨by simp[zab.alloc];omega,(s.obj i z hz).2.mono (Fz.le_refl g) (Nat.le_succ _) hσ hi fun hl=>hold _ ((s.obj i z hz).2.lt hl)⟩
 ·rcases split i z hz with⟨rfl,rfl⟩|⟨hi,hz2⟩<;>rcases split j z' hz' with⟨rfl,rfl⟩|⟨hj,hz2'⟩
  ·rfl
  ·rw[Sg.zaf,hσ j hj] at he
   have:=(s.obj j z' hz2').2.lt hl';simp only at he;omega
  ·rw[Sg.zaf,hσ i hi] at he
   have:=(s.obj i z hz2).2.lt hl;simp only at he;omega
  rw[hσ i hi,hσ j hj] at he
  exact s.inj i j z z' hz2 hz2' hl hl' he
 ·rcases split i z hz with⟨rfl,rfl⟩|⟨hi,hz⟩
  ·rw[Sg.zaf];exact s.lole
  rw[hσ i hi];exact s.low i z hz hl
 ·have:=s.fz o z hz
  rw[hold o (zaa.zai this)];exact this
 ·rcases split i z hz with⟨rfl,rfl⟩|⟨hi,hz⟩
  ·rw[Sg.zaf];exact s.z3o (Nat.le_refl _)
  rw[hσ i hi];exact s.dis i z hz hl
 ·have:=s.lole;simp;omega
 ·simp
 rcases split i z hz with⟨rfl,rfl⟩|⟨hi,hz⟩
 ·rw[Sg.zaf] at hlt;simp only at hlt;omega
 rw[hσ i hi];exact⟨i,z,hz,hl,rfl⟩
theorem VS.xac (s:VS lo g σ vh h){x:VObj}(p:Nat×Nat×Nat)(hx:VRO g (σ.put vh.next p) (vh.next+1) h vh.next x)(hp:x.live=true→lo≤p.1∧g p.1=none∧∀i y,vh.get i=some y→y.live=true→(σ i).1≠p.1)
  : VS lo g (σ.put vh.next p) (vh.alloc x) h:=by
 have hσ:∀i,i<vh.next→(σ.put vh.next p) i=σ i:=fun i hi=>Sg.zix _ _ (by omega)
 have split:∀i z,(vh.alloc x).get i=some z→(i=vh.next∧z=x)∨(i<vh.next∧vh.get i=some z):=fun i z hz=>by
  rw[zab.zay] at hz
  by_cases hi:i=vh.next
  ·subst hi;simp at hz;exact .inl ⟨rfl,hz.symm⟩
  simp[hi] at hz;exact .inr ⟨(s.obj i z hz).1,hz⟩
 refine⟨fun i z hz=>?_,fun i j z z' hz hz' hl hl' he=>?_,fun i z hz hl=>?_,s.fz,fun i z hz hl=>?_,s.lole⟩
 ·rcases split i z hz with⟨rfl,rfl⟩|⟨hi,hz⟩
  ·exact⟨by simp[zab.alloc],hx⟩
  exact⟨by simp[zab.alloc];omega,(s.obj i z hz).2.mono (Fz.le_refl g) (Nat.le_succ _) hσ hi fun hl=>rfl⟩
 ·rcases split i z hz with⟨rfl,rfl⟩|⟨hi,hz2⟩<;>rcases split j z' hz' with⟨rfl,rfl⟩|⟨hj,hz2'⟩
  ·rfl
  ·rw[Sg.zaf,hσ j hj] at he
   exact absurd he.symm ((hp hl).2.2 j z' hz2' hl')
  ·rw[Sg.zaf,hσ i hi] at he
   exact absurd he ((hp hl').2.2 i z hz2 hl)
  rw[hσ i hi,hσ j hj] at he
  exact s.inj i j z z' hz2 hz2' hl hl' he
 ·rcases split i z hz with⟨rfl,rfl⟩|⟨hi,hz⟩
  ·rw[Sg.zaf];exact(hp hl).1
  rw[hσ i hi];exact s.low i z hz hl
 rcases split i z hz with⟨rfl,rfl⟩|⟨hi,hz⟩
 ·rw[Sg.zaf];exact(hp hl).2.1
 rw[hσ i hi];exact s.dis i z hz hl
theorem VS.sub (s:VS lo g σ vh h){vh2:zab}(hn:vh2.next=vh.next)(hs:∀i x,vh2.get i=some x→vh.get i=some x):VS lo g σ vh2 h∧VF σ vh h σ vh2 h:=
 ⟨⟨fun i x hx=>by rw[hn];exact s.obj i x (hs i x hx),fun i j x y hx hy=>s.inj i j x y (hs i x hx) (hs j y hy),fun i x hx=>s.low i x (hs i x hx),s.fz,fun i x hx=>s.dis i x (hs i x hx),s.lole⟩,
  ⟨Nat.le_refl _,fun _ _ _=>rfl,fun i x hx hl _=>⟨i,x,hs i x hx,hl,rfl⟩⟩⟩
theorem zbd {i j:Nat}{x:VObj}(hx:(vh.drop i).get j=some x):j≠i∧vh.get j=some x:=by
 rw[zab.z1b] at hx
 by_cases h:j=i
 ·simp[h] at hx
 simp[h] at hx;exact⟨h,hx⟩
theorem VS.kill (s:VS lo g σ vh h){i:Nat}{x:VObj}(hx:vh.get i=some x)(hl:x.live=true):VS lo g σ (vh.drop i) (h.put (σ i).1 none)∧VF σ vh h σ (vh.drop i) (h.put (σ i).1 none):=by
 have hlt:=(s.obj i x hx).2.lt hl
 have hkeep:∀o,o≠(σ i).1→(h.put (σ i).1 none).get o=h.get o:=fun o ho=>by rw[zaa.zaw _ _ _ _ hlt,if_neg ho]
 have hne:∀j y,(vh.drop i).get j=some y→y.live=true→(σ j).1≠(σ i).1:=fun j y hy hly he=>by
  obtain⟨h1,h2⟩:=zbd hy
  exact h1 (s.inj j i y x h2 hx hly hl he)
 refine⟨⟨fun j y hy=>?_,fun j k y z hy hz=>s.inj j k y z (zbd hy).2 (zbd hz).2,fun j y hy=>s.low j y (zbd hy).2,fun o z hz=>?_,fun j y hy=>s.dis j y (zbd hy).2,s.lole⟩,⟨Nat.le_refl _,fun o ho hn=>hkeep o fun he=>hn i x hx hl he.symm,fun j y hy hly _=>⟨j,y,(zbd hy).2,hly,rfl⟩⟩⟩
 ·obtain⟨k1,k2⟩:=s.obj j y (zbd hy).2
  exact⟨k1,k2.mono (Fz.le_refl g) (Nat.le_refl _) (fun _ _=>rfl) k1 fun hly=>hkeep _ (hne j y hy hly)⟩
 have hd:=s.dis i x hx hl
 rw[hkeep o (by rintro rfl;rw[hd] at hz;cases hz)]
 exact s.fz o z hz
theorem zhf {i j:Nat}{x x' y:VObj}(hx:vh.get i=some x)(hy:(vh.put i x').get j=some y):(j=i∧y=x')∨(j≠i∧vh.get j=some y):=by
 rw[zab.zaw vh i j x' x hx] at hy
 by_cases h:j=i
 ·simp[h] at hy;exact .inl ⟨h,hy.symm⟩
 simp[h] at hy;exact .inr ⟨h,hy⟩
theorem VS.write (s:VS lo g σ vh h){i:Nat}{x x':VObj}(hx:vh.get i=some x)(hl:x.live=true)(y:AObj)(hx':VRO g σ vh.next (h.put (σ i).1 (some y)) i x'):VS lo g σ (vh.put i x') (h.put (σ i).1 (some y))∧VF σ vh h σ (vh.put i x') (h.put (σ i).1 (some y)):=by
 have hlt:=(s.obj i x hx).2.lt hl
 have hkeep:∀o,o≠(σ i).1→(h.put (σ i).1 (some y)).get o=h.get o:=fun o ho=>by rw[zaa.zaw _ _ _ _ hlt,if_neg ho]
 have hne:∀j z,j≠i→vh.get j=some z→z.live=true→(σ j).1≠(σ i).1:=fun j z hj hz hlz he=>hj (s.inj j i z x hz hx hlz hl he)
 refine⟨⟨fun j z hz=>?_,fun j k z z' hz hz' hlz hlz' he=>?_,fun j z hz hlz=>?_,fun o z hz=>?_,fun j z hz hlz=>?_,s.lole⟩,⟨Nat.le_refl _,fun o ho hn=>hkeep o fun he=>hn i x hx hl he.symm,fun j z hz hlz _=>?_⟩⟩
 ·rcases zhf hx hz with⟨rfl,rfl⟩|⟨hj,hz⟩
  ·exact⟨(s.obj j x hx).1,hx'⟩
  obtain⟨k1,k2⟩:=s.obj j z hz
  exact⟨k1,k2.mono (Fz.le_refl g) (Nat.le_refl _) (fun _ _=>rfl) k1 fun hlz=>hkeep _ (hne j z hj hz hlz)⟩
 ·rcases zhf hx hz with⟨rfl,rfl⟩|⟨hj,hz2⟩<;>rcases zhf hx hz' with⟨rfl,rfl⟩|⟨hk,hz2'⟩
  ·rfl
  ·exact absurd he.symm (hne k z' hk hz2' hlz')
  ·exact absurd he (hne j z hj hz2 hlz)
  exact s.inj j k z z' hz2 hz2' hlz hlz' he
 ·rcases zhf hx hz with⟨rfl,rfl⟩|⟨hj,hz⟩
  ·exact s.low j x hx hl
  exact s.low j z hz hlz
 ·have hd:=s.dis i x hx hl
  rw[hkeep o (by rintro rfl;rw[hd] at hz;cases hz)]
  exact s.fz o z hz
 ·rcases zhf hx hz with⟨rfl,rfl⟩|⟨hj,hz⟩
  ·exact s.dis j x hx hl
  exact s.dis j z hz hlz
 rcases zhf hx hz with⟨rfl,rfl⟩|⟨hj,hz⟩
 ·exact⟨j,x,hx,hl,rfl⟩
 exact⟨j,z,hz,hlz,rfl⟩
def vbox (vh:zab)(v:PV):PV×zab:=(.ptr vh.next 0,vh.alloc (.box v.cells))
theorem zy4 (s:VS lo g σ vh h){cs:List PV}{cs':List Value}(hc:PRs (VR g σ vh.next) cs cs'):VOK lo g σ vh h (.ptr vh.next 0) (vh.alloc (.box cs)) (.pointer (some ⟨h.next,0,none⟩)) (h.alloc (.cells 0 cs')):=by
 have hσ:∀i,i<vh.next→(σ.put vh.next (h.next,0,0)) i=σ i:=fun i hi=>Sg.zix _ _ (by omega)
 obtain⟨h1,h2⟩:=s.alloc (x:=.box cs) (.cells 0 cs') 0 ⟨0,cs',by rw[Sg.zaf,zaa.zay,if_pos rfl],by rw[Sg.zaf],hc.zyz (Fz.le_refl g) (Nat.le_succ _) hσ⟩
 refine⟨_,?_,h1,h2,Nat.le_succ _,hσ⟩
 have:=VR.ptr (g:=g) (σ:=σ.put vh.next (h.next,0,0)) (n:=(vh.alloc (.box cs)).next) vh.next 0 h.next 0 0 (Nat.lt_succ_self _) (Sg.zaf _ _ _)
 simpa using this
theorem z4p (s:VS lo g σ vh h){v:PV}{v':Value}(hv:VR g σ vh.next v v'):VOK lo g σ vh h (vbox vh v).1 (vbox vh v).2 (abox h v').1 (abox h v').2:=zy4 s hv.cells
def zb1 (P:Program)(t:TypeId):Option (List PV):=(zg8 P t).bind pvcs
theorem zfa {t:TypeId}{z:List PV}(hz:zb1 P t=some z):∃z',zg8 P t=some z'∧PRs (FR g) z z':=by
 unfold zb1 at hz
 cases h1:zg8 P t with
 |none=>rw[h1] at hz;cases hz
 |some z'=>rw[h1] at hz;exact⟨z',rfl,(zql hz).1⟩
def zcj (P:Program)(vh:zab)(t:TypeId):Option (PV×zab):=
 match zb1 P t with
 |some z=>some (.ptr vh.next 0,vh.alloc (.box z))
 |none=>none
theorem zx7 (s:VS lo g σ vh h){t:TypeId}{v:PV}{vh':zab}(hv:zcj P vh t=some (v,vh')):∃v' h',zl2 P h t=some (v',h')∧VOK lo g σ vh h v vh' v' h':=by
 unfold zcj at hv
 split at hv
 ·rename_i z hz
  simp only[xfm,xfn] at hv
  obtain⟨rfl,rfl⟩:=hv
  obtain⟨z',h1,h2⟩:=zfa (g:=g) hz
  exact⟨_,_,by simp only[zl2,h1],zy4 s h2.vr⟩
 cases hv
def zbe (vh:zab):PV×zab:=(.mapv vh.next,vh.alloc (.map []))
theorem zsl (s:VS lo g σ vh h):VOK lo g σ vh h (zbe vh).1 (zbe vh).2 (.map (some h.next)) (h.alloc (.map [])):=by
 have hσ:∀i,i<vh.next→(σ.put vh.next (h.next,0,0)) i=σ i:=fun i hi=>Sg.zix _ _ (by omega)
 obtain⟨h1,h2⟩:=s.alloc (x:=.map []) (.map []) 0 ⟨[],by rw[Sg.zaf,zaa.zay,if_pos rfl],by rw[Sg.zaf],.nil,.nil⟩
 exact⟨_,VR.mapv vh.next h.next 0 0 (Nat.lt_succ_self _) (Sg.zaf _ _ _),h1,h2,Nat.le_succ _,hσ⟩
def zca (place:Nat→Option (Nat×Nat)):List PV→List (Nat×PV)→Option (List PV)
 |cells,[]=>some cells
 |cells,(i,v)::rest=>
  match place i with
  |none=>none
  |some (off,size)=>
   bif Nat.beq v.cells.length size&&Nat.ble (off+v.cells.length) cells.length then zca place (zbb cells off v.cells) rest else none
theorem zjo {n:Nat}{place:Nat→Option (Nat×Nat)}:∀ {parts:List (Nat×PV)} {parts':List (Nat×Value)} {cells out:List PV} {cells':List Value},PPs (VR g σ n) parts parts'→PRs (VR g σ n) cells cells'→zca place cells parts=some out→
  ∃out',zj3 place cells' parts'=some out'∧PRs (VR g σ n) out out'
 |[],parts',cells,out,cells',hp,hc,ho=>by
  simp only[zca,xfm] at ho;subst ho
  have:=hp.1;simp at this;subst this
  exact⟨cells',rfl,hc⟩
 |(i,v)::rest,parts',cells,out,cells',hp,hc,ho=>by
  cases parts' with
  |nil=>have:=hp.1;simp at this
  |cons q r=>
   obtain⟨i',v'⟩:=q
   have h1:=hp.1
   simp only[List.map_cons,List.cons.injEq] at h1
   obtain⟨rfl,h1⟩:=h1
   obtain⟨u,l,h2,h3,h4⟩:=hp.2.zax
   simp only[List.map_cons,List.cons.injEq] at h2
   obtain⟨rfl,rfl⟩:=h2
   simp only[zca] at ho
   simp only[zj3]
   have h3c:=h3.cells
   split at ho
   ·cases ho
   rename_i off size hpl
   simp only[hpl]
   rw[← h3c.1,← hc.1]
   cases hb:(Nat.beq v.cells.length size&&Nat.ble (off+v.cells.length) cells.length) with
   |false=>rw[hb] at ho;cases ho
   |true=>
    rw[hb] at ho
    simp only[xfp] at ho ⊢
    exact zjo ⟨h1,h4⟩ (hc.zcb off h3c) ho
def zed (P:Program)(t:TypeId)(parts:List (Nat×PV)):Option PV:=
 match zb1 P t,P.underlying t with
 |some z,some (.struct fields)=>
  match zkz P fields.toList with
  |some l=>(zca (l[·]?) z parts).map .agg
  |none=>none
 |some z,some (.array _ e)=>
  match tsz P e with
  |some n=>(zca (fun i=>some (i*n,n)) z parts).map .agg
  |none=>none
 |_,_=>none
theorem zwx {n:Nat}{t:TypeId}{parts:List (Nat×PV)}{parts':List (Nat×Value)}{v:PV}(hp:PPs (VR g σ n) parts parts')(hv:zed P t parts=some v):∃v',zmj P t parts'=some v'∧VR g σ n v v':=by
 unfold zed at hv
 split at hv
 ·rename_i z fields hz hu
  obtain⟨z',h1,h2⟩:=zfa (g:=g) hz
  split at hv
  ·rename_i l hl
   obtain⟨cs,h3,rfl⟩:=zad hv
   obtain⟨cs',h4,h5⟩:=zjo hp h2.vr h3
   exact⟨.agg cs'.toArray,by simp only[zmj,h1,hu,hl,h4,Option.map_some],zoi h5⟩
  cases hv
 ·rename_i z m e hz hu
  obtain⟨z',h1,h2⟩:=zfa (g:=g) hz
  split at hv
  ·rename_i sz hl
   obtain⟨cs,h3,rfl⟩:=zad hv
   obtain⟨cs',h4,h5⟩:=zjo hp h2.vr h3
   exact⟨.agg cs'.toArray,by simp only[zmj,h1,hu,hl,h4,Option.map_some],zoi h5⟩
  cases hv
 cases hv
def zda (z:List PV)(n:Nat):List PV:=(List.replicate n z).flatten
theorem zim {R:PV→Value→Prop}{z:List PV}{z':List Value}(hz:PRs R z z'):∀n,PRs R (zda z n) (reps z' n)
 |0=>.nil
 |n+1=>by
  simp only[zda,List.replicate_succ,List.flatten_cons,reps]
  exact hz.append (zim hz n)
theorem zxd (s:VS lo g σ vh h){ag:Bool}{cs:List PV}{cs':List Value}{sz len k:Nat}(h0:0<sz)(hlk:len≤k)(hk:k<inex)(hc:PRs (FR g) cs cs') :
  VOK lo g σ vh h (.own vh.next 0 len k) (vh.alloc (.arr ag sz cs)) (.slice (some ⟨h.next,0,none⟩) len k) (h.alloc (.cells 0 cs')):=by
 have hσ:∀i,i<vh.next→(σ.put vh.next (h.next,0,0)) i=σ i:=fun i hi=>Sg.zix _ _ (by omega)
 obtain⟨h1,h2⟩:=s.alloc (x:=.arr ag sz cs) (.cells 0 cs') 0 ⟨h0,0,cs',by rw[Sg.zaf,zaa.zay,if_pos rfl],by rw[Sg.zaf],hc⟩
 refine⟨_,?_,h1,h2,Nat.le_succ _,hσ⟩
 have:=VR.own (g:=g) (σ:=σ.put vh.next (h.next,0,0)) (n:=(vh.alloc (.arr ag sz cs)).next) vh.next 0 len k h.next 0 0 (Nat.lt_succ_self _) (Sg.zaf _ _ _) hlk hk
 simpa using this
def zak (P:Program)(vh:zab)(t:TypeId)(len:Nat)(parts:List (Nat×PV)):Option (PV×zab):=
 match zc8 P t with
 |some (e,n)=>
  match zb1 P e,tagg P e with
  |some z,some ag=>
   bif Nat.beq z.length n&&Nat.ble (len*n) 16777216&&Nat.blt 0 n then
    match zca (fun i=>some (i*n,n)) (zda z len) parts with
    |some cs=>bif PV.allF cs then some (.own vh.next 0 len len,vh.alloc (.arr ag n cs)) else none
    |none=>none
   else none
  |_,_=>none
 |none=>none
theorem zn5 (s:VS lo g σ vh h){t:TypeId}{len:Nat}{parts:List (Nat×PV)}{parts':List (Nat×Value)}{v:PV}{vh':zab}(hp:PPs (VR g σ vh.next) parts parts')(hv:zak P vh t len parts=some (v,vh')) :
  ∃v' h',zdy P h t len parts'=some (v',h')∧VOK lo g σ vh h v vh' v' h':=by
 unfold zak at hv
 split at hv
 ·rename_i e n ht
  split at hv
  ·rename_i z ag hz hag
   obtain⟨z',h1,h2⟩:=zfa (g:=g) hz
   cases hb:(Nat.beq z.length n&&Nat.ble (len*n) 16777216&&Nat.blt 0 n) with
   |false=>rw[hb] at hv;cases hv
   |true=>
    rw[hb] at hv
    simp only[xfp] at hv
    split at hv
    ·rename_i cs hf
     cases ha:PV.allF cs with
     |false=>rw[ha] at hv;cases hv
     |true=>
      rw[ha] at hv
      simp only[xfp,xfm,xfn] at hv
      obtain⟨rfl,rfl⟩:=hv
      obtain⟨cs',h4,h5⟩:=zjo hp (zim h2.vr len) hf
      have hb':(Nat.beq z'.length n&&Nat.ble (len*n) 16777216&&Nat.blt 0 n)=true:=by rw[← h2.1];exact hb
      simp only[xfr,Nat.blt_eq,Nat.ble_eq] at hb
      have hlen:len≤len*n:=Nat.le_mul_of_pos_right _ hb.2
      have:(16777216:Nat)<inex:=by decide
      exact⟨_,_,by simp only[zdy,ht,h1,hb',xfp,h4],zxd s hb.2 (Nat.le_refl _) (by omega) (h5.isF ha)⟩
    cases hv
  cases hv
 cases hv
def zaq (P:Program)(vh:zab)(t:TypeId)(l c:PV):Option (PV×zab):=
 match l,c,zc8 P t with
 |.int .i64 l,.int .i64 c,some (e,n)=>
  match zb1 P e,(P.info? e).map (·.bytes),tagg P e with
  |some z,some bytes,some ag=>
   bif decide (0≤l∧l≤c∧c≤4294967296)&&Nat.beq z.length n&&Nat.ble bytes 4096&&Nat.blt 0 n then
    some (.own vh.next 0 l.toNat c.toNat,vh.alloc (.arr ag n (zda z c.toNat)))
   else none
  |_,_,_=>none
 |_,_,_=>none
theorem zqd (s:VS lo g σ vh h){t:TypeId}{l c v:PV}{l' c':Value}{vh':zab}(hl:VR g σ vh.next l l')(hc:VR g σ vh.next c c')(hv:zaq P vh t l c=some (v,vh')) :
  ∃v' h',zfh P h t l' c'=some (v',h')∧VOK lo g σ vh h v vh' v' h':=by
 unfold zaq at hv
 split at hv
 ·rename_i l c e n ht
  have:=hl.isF rfl;cases this
  have:=hc.isF rfl;cases this
  split at hv
  ·rename_i z bytes ag hz hby hag
   obtain⟨z',h1,h2⟩:=zfa (g:=g) hz
   cases hb:(decide (0≤l∧l≤c∧c≤4294967296)&&Nat.beq z.length n&&Nat.ble bytes 4096&&Nat.blt 0 n) with
   |false=>rw[hb] at hv;cases hv
   |true=>
    rw[hb] at hv
    simp only[xfp,xfm,xfn] at hv
    obtain⟨rfl,rfl⟩:=hv
    simp only[xfr,decide_eq_true_eq,Nat.blt_eq,Nat.ble_eq] at hb
    obtain⟨⟨⟨⟨hb1,hb2,hb3⟩,hb4⟩,hb5⟩,hb6⟩:=hb
    have hzl:z'.length=n:=by rw[← h2.1];simpa using hb4
    cases l with
    |negSucc l=>omega
    |ofNat l=>
     cases c with
     |negSucc c=>omega
     |ofNat c=>
      have e1:l≤c:=by have:(l:Int)≤(c:Int):=hb2;omega
      have e2:c≤4294967296:=by have:(c:Int)≤4294967296:=hb3;omega
      have e3:bytes*c≤4096*4294967296:=Nat.mul_le_mul hb5 e2
      have hcond:(Nat.beq z'.length n&&Nat.ble l c&&Nat.ble (bytes*c) 281474976710656&&Nat.blt 0 n&&Nat.ble c 281474976710656)=true:=by
       simp only[xfr,Nat.ble_eq,Nat.blt_eq]
       exact⟨⟨⟨⟨by rw[hzl];exact Nat.beq_refl n,e1⟩,by omega⟩,hb6⟩,by omega⟩
      have:(4294967296:Nat)<inex:=by decide
      exact⟨.slice (some ⟨h.next,0,none⟩) l c,h.alloc (.cells 0 (reps z' c)),by simp only[zfh,ht,h1,hby,hcond,xfp],zxd s hb6 e1 (by omega) (zim h2 c)⟩
  cases hv
 cases hv
def zcm (P:Program)(vh:zab)(t:TypeId)(p v:PV):Option zab:=
 match p with
 |.ptr i off=>
  match vh.get i,tsz P t with
  |some (.box cs),some n=>bif Nat.beq v.cells.length n&&v.cells.all PV.one&&Nat.ble (off+n) cs.length then some (vh.put i (.box (zbb cs off v.cells))) else none
  |some (.arr ag sz cs),some n=>bif Nat.beq v.cells.length n&&v.cells.all PV.one&&Nat.ble (off+n) cs.length&&PV.allF v.cells then some (vh.put i (.arr ag sz (zbb cs off v.cells))) else none
  |_,_=>none
 |_=>none
theorem zx2 (s:VS lo g σ vh h){t:TypeId}{p v:PV}{p' v':Value}{vh':zab}(hp:VR g σ vh.next p p')(hvv:VR g σ vh.next v v')(hv:zcm P vh t p v=some vh') :
  ∃h',zj6 P lo h t p' v'=some h'∧VOK lo g σ vh h (.tup []) vh' Go.undef h':=by
 unfold zcm at hv
 split at hv
 ·rename_i i off
  cases hp with
  |fr _ _ h=>cases h
  |ptr _ _ o a k hi hs=>
   have hcv:=hvv.cells
   split at hv
   ·rename_i cs n hg hn
    cases hb:(Nat.beq v.cells.length n&&v.cells.all PV.one&&Nat.ble (off+n) cs.length) with
    |false=>rw[hb] at hv;cases hv
    |true=>
     rw[hb] at hv;simp only[xfp,xfm] at hv;subst hv
     obtain⟨s0,cs',h1,h2,h3⟩:=(s.obj i _ hg).2
     have hlow:=s.low i _ hg rfl
     simp only[xfr,Nat.ble_eq,Nat.beq_eq_true_eq] at hb
     obtain⟨⟨hb1,hb2⟩,hb3⟩:=hb
     have h4:=s.write hg rfl (x':=.box (zbb cs off v.cells)) (.cells s0 (zcb cs' off v'.cells.toList)) ⟨s0,_,by rw[zaa.zaw _ _ _ _ (zaa.zai h1),if_pos rfl],h2,h3.zcb off hcv⟩
     rw[hs] at h1 h2 hlow h4
     simp only at h1 h2 hlow h4;subst h2
     have hcond:(Nat.ble lo o&&Nat.beq v'.cells.toList.length n&&v'.cells.toList.all (·.oneCell')&&Nat.ble (0+off+n) cs'.length)=true:=by
      simp only[xfr,Nat.ble_eq,Nat.beq_eq_true_eq]
      exact⟨⟨⟨hlow,by rw[← hcv.1];exact hb1⟩,hcv.ones hb2⟩,by rw[← h3.1];omega⟩
     rw[Nat.zero_add] at hcond ⊢
     refine⟨_,by simp only[zj6,h1,hn,hcond,xfp],σ,.fr _ _ ?_,h4.1,h4.2,Nat.le_refl _,fun _ _=>rfl⟩
     exact .tup [] #[] rfl (fun i v v' h=>by simp at h)
   ·rename_i ag sz cs n hg hn
    cases hb:(Nat.beq v.cells.length n&&v.cells.all PV.one&&Nat.ble (off+n) cs.length&&PV.allF v.cells) with
    |false=>rw[hb] at hv;cases hv
    |true=>
     rw[hb] at hv;simp only[xfp,xfm] at hv;subst hv
     obtain⟨h0,s0,cs',h1,h2,h3⟩:=(s.obj i _ hg).2
     have hlow:=s.low i _ hg rfl
     simp only[xfr,Nat.ble_eq,Nat.beq_eq_true_eq] at hb
     obtain⟨⟨⟨hb1,hb2⟩,hb3⟩,hb4⟩:=hb
     have h4:=s.write hg rfl (x':=.arr ag sz (zbb cs off v.cells)) (.cells s0 (zcb cs' off v'.cells.toList)) ⟨h0,s0,_,by rw[zaa.zaw _ _ _ _ (zaa.zai h1),if_pos rfl],h2,h3.zcb off (hcv.isF hb4)⟩
     rw[hs] at h1 h2 hlow h4
     simp only at h1 h2 hlow h4;subst h2
     have hcond:(Nat.ble lo o&&Nat.beq v'.cells.toList.length n&&v'.cells.toList.all (·.oneCell')&&Nat.ble (0+off+n) cs'.length)=true:=by
      simp only[xfr,Nat.ble_eq,Nat.beq_eq_true_eq]
      exact⟨⟨⟨hlow,by rw[← hcv.1];exact hb1⟩,hcv.ones hb2⟩,by rw[← h3.1];omega⟩
     rw[Nat.zero_add] at hcond ⊢
     refine⟨_,by simp only[zj6,h1,hn,hcond,xfp],σ,.fr _ _ ?_,h4.1,h4.2,Nat.le_refl _,fun _ _=>rfl⟩
     exact .tup [] #[] rfl (fun i v v' h=>by simp at h)
   cases hv
 cases hv
end
end Go.Am
end
/-
 The value machine, part E: maps, append, copy.
-/
section
namespace Go.Am
section
variable {P:Program} {lo:Nat} {g:Fz} {σ:Sg} {vh:zab} {h:zaa}
theorem zdz {n:Nat}:∀ {es:List PV},(∀e∈es,e.cells.length=n)→(es.flatMap PV.cells).length=es.length*n
 |[],_=>by simp
 |e::r,hl=>by
  simp only[List.flatMap_cons,List.length_append,List.length_cons]
  rw[zdz fun x hx=>hl x (List.mem_cons_of_mem _ hx),hl e (by simp),Nat.succ_mul]
  omega
theorem zuz {R:PV→Value→Prop}{n:Nat}{cs':List Value}:∀ {es:List PV} {off:Nat},(∀e∈es,e.cells.length=n)→(∀(i:Nat) e (j:Nat) v v',es[i]?=some e→e.cells[j]?=some v→cs'[off+i*n+j]?=some v'→R v v')→
  off+es.length*n≤cs'.length→PRs R (es.flatMap PV.cells) ((cs'.drop off).take (es.length*n))
 |[],off,_,_,_=>by simp only[List.flatMap_nil,List.length_nil,Nat.zero_mul,List.take_zero];exact .nil
 |e::r,off,hl,hr,hlen=>by
  simp only[List.length_cons,Nat.succ_mul] at hlen
  have he:=hl e (by simp)
  have ih:=zuz (R:=R) (n:=n) (cs':=cs') (es:=r) (off:=off+n) (fun x hx=>hl x (List.mem_cons_of_mem _ hx)) (fun i x j v v' hx hv hv'=>hr (i+1) x j v v' (by simpa using hx) hv (by rw[Nat.succ_mul,show off+(i*n+n)+j=off+n+i*n+j by omega];exact hv')) (by omega)
  have h1:PRs R e.cells ((cs'.drop off).take n):=⟨by simp;omega,fun j v v' hv hv'=>by
   rw[List.getElem?_take] at hv'
   split at hv'
   ·rw[List.getElem?_drop] at hv'
    exact hr 0 e j v v' (by simp) hv (by simpa using hv')
   cases hv'⟩
  have h2:=h1.append ih
  simp only[List.flatMap_cons,List.length_cons,Nat.succ_mul]
  have h3:(cs'.drop off).take (r.length*n+n)=(cs'.drop off).take n++(cs'.drop (off+n)).take (r.length*n):=by
   rw[Nat.add_comm,List.take_add,List.drop_drop]
  rw[h3];exact h2
theorem zgs {R:PV→Value→Prop}{n:Nat}:∀ {es:List PV} {cs':List Value},(∀e∈es,e.cells.length=n)→PRs R (es.flatMap PV.cells) cs'→∀(i:Nat) e (j:Nat) v v',es[i]?=some e→e.cells[j]?=some v→cs'[i*n+j]?=some v'→R v v'
 |[],_,_,_,i,e,j,v,v',he,_,_=>by simp at he
 |x::r,cs',hl,hr,i,e,j,v,v',he,hv,hv'=>by
  have hx:=hl x (by simp)
  simp only[List.flatMap_cons] at hr
  cases i with
  |zero=>
   simp at he;subst he
   have hj:j<x.cells.length:=by
    rcases Nat.lt_or_ge j x.cells.length with h|h
    ·exact h
    rw[List.getElem?_eq_none h] at hv;cases hv
   exact hr.2 j v v' (by rw[List.getElem?_append_left hj];exact hv) (by simpa using hv')
  |succ i=>
   have h2:PRs R (r.flatMap PV.cells) (cs'.drop n):=by
    have:=hr.drop n
    rwa [show (x.cells++r.flatMap PV.cells).drop n=r.flatMap PV.cells by rw[← hx];simp] at this
   exact zgs (fun y hy=>hl y (List.mem_cons_of_mem _ hy)) h2 i e j v v' (by simpa using he) hv (by rw[List.getElem?_drop,show n+(i*n+j)=(i+1)*n+j by rw[Nat.succ_mul];omega];exact hv')
theorem zxk {n:Nat}{es:List PV}(h:zfu n es=true):∀e∈es,e.cells.length=n:=fun e he=>by
 unfold zfu at h
 rw[List.all_eq_true] at h
 simpa using h e he
def chunk (ag:Bool)(sz n:Nat)(cs:List PV):List PV:=bif ag then (List.range n).map fun i=>.agg ((cs.drop (i*sz)).take sz) else cs.take n
theorem zks {sz:Nat}:∀ {n:Nat} {cs:List PV},n*sz≤cs.length→(chunk true sz n cs).flatMap PV.cells=cs.take (n*sz)
 |0,cs,_=>by simp[chunk]
 |n+1,cs,h=>by
  have ih:=zks (sz:=sz) (n:=n) (cs:=cs.drop sz) (by rw[Nat.succ_mul] at h;simp;omega)
  simp only[chunk,xfp] at ih ⊢
  rw[List.range_succ_eq_map,List.map_cons,List.flatMap_cons,List.map_map]
  have he:((fun i=>PV.agg ((cs.drop (i*sz)).take sz))∘Nat.succ)=fun i=>PV.agg (((cs.drop sz).drop (i*sz)).take sz):=by
   funext i
   simp only[Function.comp,List.drop_drop]
   rw[Nat.succ_mul,Nat.add_comm sz]
  rw[he,ih]
  simp only[Nat.zero_mul,List.drop_zero,PV.cells]
  rw[Nat.succ_mul,Nat.add_comm (n*sz),List.take_add]
theorem zmq:∀ {n:Nat} {cs:List PV},zfu 1 (cs.take n)=true→cs.all PV.one=true→(chunk false 1 n cs).flatMap PV.cells=cs.take n
 |n,cs,_,ho=>by
  simp only[chunk,xfq]
  have h1:∀l:List PV,l.all PV.one=true→l.flatMap PV.cells=l:=fun l=>by
   induction l with
   |nil=>intro _;rfl
   |cons e r ih=>
    intro h
    simp only[List.all_cons,xfr] at h
    rw[List.flatMap_cons,ih h.2]
    cases e<;>first|rfl|(simp[PV.one] at h)
  exact h1 _ (by rw[List.all_eq_true] at ho ⊢;exact fun x hx=>ho x (List.mem_of_mem_take hx))
def zbz (vh:zab)(n:Nat)(x:PV):Option (List PV):=
 match x with
 |.sl0=>some []
 |.e0=>some []
 |.vec es=>bif zfu n es then some es else none
 |.own i off len _=>match vh.get i with
  |some (.arr ag sz cs)=>bif Nat.beq sz n&&(ag||(Nat.beq sz 1&&cs.all PV.one))&&Nat.ble (off+len*n) cs.length then some (chunk ag sz len (cs.drop off)) else none
  |_=>none
 |.sub i off len=>match vh.get i with
  |some (.arr ag sz cs)=>bif Nat.beq sz n&&(ag||(Nat.beq sz 1&&cs.all PV.one))&&Nat.ble (off+len*n) cs.length then some (chunk ag sz len (cs.drop off)) else none
  |_=>none
 |.grow i m _=>bif Nat.beq m 0 then some [] else match vh.get i with
  |some (.grow sz es)=>bif Nat.beq sz n&&Nat.beq es.length m then some es else none
  |_=>none
 |_=>none
theorem zgt (s:VS lo g σ vh h){n:Nat}(hn:0<n){x:PV}{x':Value}{es:List PV}(hx:VR g σ vh.next x x')(he:zbz vh n x=some es) :
  alen x'=some es.length∧(∀e∈es,e.cells.length=n)∧∀m,m≤es.length→∃xs',zdp h n x' m=some xs'∧PRs (FR g) ((es.take m).flatMap PV.cells) xs':=by
 have nil:∀ {x':Value},∀m,m≤([]:List PV).length→∃xs',zdp h n x' m=some xs'∧PRs (FR g) ((([]:List PV).take m).flatMap PV.cells) xs':=fun m hm=>by
  have:m=0:=by simpa using hm
  subst this
  exact⟨[],by simp[zdp],.nil⟩
 have src:∀ {o off k s0:Nat} {cs':List Value} {es:List PV},h.get o=some (.cells s0 cs')→off+es.length*n≤cs'.length→(∀e∈es,e.cells.length=n)→PRs (FR g) (es.flatMap PV.cells) ((cs'.drop off).take (es.length*n))→
   ∀m,m≤es.length→∃xs',zdp h n (.slice (some ⟨o,off,none⟩) es.length k) m=some xs'∧PRs (FR g) ((es.take m).flatMap PV.cells) xs':=fun {o off k s0 cs' es} hg hlen hl hr m hm=>by
  rcases zam m 0 with⟨hq,hq'⟩|⟨hq,hq'⟩
  ·subst hq';exact⟨[],by simp[zdp],by simp;exact .nil⟩
  have h1:m*n≤es.length*n:=Nat.mul_le_mul_right _ hm
  have h2:Nat.ble (off+m*n) cs'.length=true:=by rw[Nat.ble_eq];omega
  refine⟨(cs'.drop off).take (m*n),by simp only[zdp,hq,xfq,hg,h2,xfp],?_⟩
  have h3:=hr.take (m*n)
  rw[List.take_take,Nat.min_eq_left h1] at h3
  have h4:(es.flatMap PV.cells).take (m*n)=(es.take m).flatMap PV.cells:=by
   have h5:es.flatMap PV.cells=(es.take m).flatMap PV.cells++(es.drop m).flatMap PV.cells:=by rw[← List.flatMap_append,List.take_append_drop]
   have h6:=zdz (es:=es.take m) fun e he=>hl e (List.mem_of_mem_take he)
   rw[h5,List.take_left' (by rw[h6,List.length_take,Nat.min_eq_left hm])]
  rw[h4] at h3;exact h3
 unfold zbz at he
 split at he
 ·injection he with he;subst he
  have:=hx.isF rfl;cases this
  exact⟨rfl,by simp,nil⟩
 ·injection he with he;subst he
  have:=hx.isF rfl;cases this<;>exact⟨rfl,by simp,nil⟩
 ·rename_i es0
  cases hall:zfu n es0 with
  |false=>rw[hall] at he;cases he
  |true=>
   rw[hall] at he;simp only[xfp,xfm] at he;subst he
   have hl:=zxk hall
   have:=hx.isF rfl
   cases this with
   |vecN=>exact⟨rfl,by simp,nil⟩
   |vec0=>exact⟨rfl,by simp,nil⟩
   |vec _ o off k s0 sz cs' hk hku hg h0 hsz hlen r=>
    refine⟨rfl,hl,?_⟩
    by_cases hes:es0=[]
    ·subst hes;exact nil
    have:sz=n:=by
     have h1:0<es0.length:=by
      cases es0 with
      |nil=>exact absurd rfl hes
      |cons=>simp
     rw[← hsz 0 es0[0] (by simp[h1])]
     exact hl _ (List.getElem_mem h1)
    subst this
    exact src (s.fz _ _ hg) hlen hl (zuz hl r hlen)
 ·rename_i i off len k
  split at he
  ·rename_i ag sz cs hgi
   cases hb:(Nat.beq sz n&&(ag||(Nat.beq sz 1&&cs.all PV.one))&&Nat.ble (off+len*n) cs.length) with
   |false=>rw[hb] at he;cases he
   |true=>
    rw[hb] at he;simp only[xfp,xfm] at he;subst he
    simp only[xfr,Bool.or_eq_true,Nat.ble_eq,beq_eq,decide_eq_true_eq] at hb
    obtain⟨⟨hb1,hb2⟩,hb3⟩:=hb
    subst hb1
    obtain⟨h0,s0,cs',h1,h2,h3⟩:=(s.obj i _ hgi).2
    cases hx with
    |fr _ _ h=>cases h
    |own _ _ _ _ o a kk hi hs hl hk=>
     rw[hs] at h1 h2;simp only at h1 h2;subst h2
     have hcl:∀e∈chunk ag sz len (cs.drop off),e.cells.length=sz:=by
      intro e hec
      cases ag with
      |true=>
       simp only[chunk,xfp,List.mem_map,List.mem_range] at hec
       obtain⟨i,hi,rfl⟩:=hec
       have:i*sz+sz≤len*sz:=by rw[← Nat.succ_mul];exact Nat.mul_le_mul_right _ hi
       simp[PV.cells];omega
      |false=>
       simp only[Bool.false_eq_true,false_or] at hb2
       simp only[chunk,xfq] at hec
       have h5:=(List.all_eq_true.1 hb2.2) e (List.mem_of_mem_drop (List.mem_of_mem_take hec))
       rw[hb2.1]
       cases e<;>first|rfl|(simp[PV.one] at h5)
     have hlen:(chunk ag sz len (cs.drop off)).length=len:=by
      cases ag with
      |true=>simp[chunk]
      |false=>
       simp only[Bool.false_eq_true,false_or] at hb2
       have:=hb2.1;subst this
       simp[chunk];omega
     have hfl:(chunk ag sz len (cs.drop off)).flatMap PV.cells=(cs.drop off).take (len*sz):=by
      cases ag with
      |true=>exact zks (by simp;omega)
      |false=>
       simp only[Bool.false_eq_true,false_or] at hb2
       have:=hb2.1;subst this
       have hall:(cs.drop off).all PV.one=true:=by rw[List.all_eq_true];exact fun x hx=>(List.all_eq_true.1 hb2.2) x (List.mem_of_mem_drop hx)
       have h1:zfu 1 ((cs.drop off).take len)=true:=by
        unfold zfu
        rw[List.all_eq_true]
        intro e hec
        have h5:=(List.all_eq_true.1 hall) e (List.mem_of_mem_take hec)
        cases e<;>first|rfl|(simp[PV.one] at h5)
       rw[zmq h1 hall,Nat.mul_one]
     refine⟨by simp only[alen];rw[hlen],hcl,?_⟩
     have h4:PRs (FR g) ((chunk ag sz len (cs.drop off)).flatMap PV.cells) ((cs'.drop off).take ((chunk ag sz len (cs.drop off)).length*sz)):=by
      rw[hfl,hlen];exact(h3.drop off).take _
     have h5:=src (o:=o) (off:=off) (k:=k) h1 (by rw[hlen,← h3.1];exact hb3) hcl h4
     rw[hlen] at h5
     rw[Nat.zero_add,hlen];exact h5
  cases he
 ·rename_i i off len
  split at he
  ·rename_i ag sz cs hgi
   cases hb:(Nat.beq sz n&&(ag||(Nat.beq sz 1&&cs.all PV.one))&&Nat.ble (off+len*n) cs.length) with
   |false=>rw[hb] at he;cases he
   |true=>
    rw[hb] at he;simp only[xfp,xfm] at he;subst he
    simp only[xfr,Bool.or_eq_true,Nat.ble_eq,beq_eq,decide_eq_true_eq] at hb
    obtain⟨⟨hb1,hb2⟩,hb3⟩:=hb
    subst hb1
    obtain⟨h0,s0,cs',h1,h2,h3⟩:=(s.obj i _ hgi).2
    cases hx with
    |fr _ _ h=>cases h
    |sub _ _ _ k o a kk hi hs hl hk=>
     rw[hs] at h1 h2;simp only at h1 h2;subst h2
     have hcl:∀e∈chunk ag sz len (cs.drop off),e.cells.length=sz:=by
      intro e hec
      cases ag with
      |true=>
       simp only[chunk,xfp,List.mem_map,List.mem_range] at hec
       obtain⟨i,hi,rfl⟩:=hec
       have:i*sz+sz≤len*sz:=by rw[← Nat.succ_mul];exact Nat.mul_le_mul_right _ hi
       simp[PV.cells];omega
      |false=>
       simp only[Bool.false_eq_true,false_or] at hb2
       simp only[chunk,xfq] at hec
       have h5:=(List.all_eq_true.1 hb2.2) e (List.mem_of_mem_drop (List.mem_of_mem_take hec))
       rw[hb2.1]
       cases e<;>first|rfl|(simp[PV.one] at h5)
     have hlen:(chunk ag sz len (cs.drop off)).length=len:=by
      cases ag with
      |true=>simp[chunk]
      |false=>
       simp only[Bool.false_eq_true,false_or] at hb2
       have:=hb2.1;subst this
       simp[chunk];omega
     have hfl:(chunk ag sz len (cs.drop off)).flatMap PV.cells=(cs.drop off).take (len*sz):=by
      cases ag with
      |true=>exact zks (by simp;omega)
      |false=>
       simp only[Bool.false_eq_true,false_or] at hb2
       have:=hb2.1;subst this
       have hall:(cs.drop off).all PV.one=true:=by rw[List.all_eq_true];exact fun x hx=>(List.all_eq_true.1 hb2.2) x (List.mem_of_mem_drop hx)
       have h1:zfu 1 ((cs.drop off).take len)=true:=by
        unfold zfu
        rw[List.all_eq_true]
        intro e hec
        have h5:=(List.all_eq_true.1 hall) e (List.mem_of_mem_take hec)
        cases e<;>first|rfl|(simp[PV.one] at h5)
       rw[zmq h1 hall,Nat.mul_one]
     refine⟨by simp only[alen];rw[hlen],hcl,?_⟩
     have h4:PRs (FR g) ((chunk ag sz len (cs.drop off)).flatMap PV.cells) ((cs'.drop off).take ((chunk ag sz len (cs.drop off)).length*sz)):=by
      rw[hfl,hlen];exact(h3.drop off).take _
     have h5:=src (o:=o) (off:=off) (k:=k) h1 (by rw[hlen,← h3.1];exact hb3) hcl h4
     rw[hlen] at h5
     rw[Nat.zero_add,hlen];exact h5
  cases he
 ·rename_i i m nl
  rcases zam m 0 with⟨hq,hq'⟩|⟨hq,hq'⟩
  ·rw[hq] at he;simp only[xfp,xfm] at he;subst he;subst hq'
   cases hx with
   |fr _ _ h=>cases h
   |growN=>exact⟨rfl,by simp,nil⟩
   |grow0=>exact⟨rfl,by simp,nil⟩
   |grow _ _ _ _ _ _ _ _ hn=>omega
  rw[hq] at he;simp only[xfq] at he
  split at he
  ·rename_i sz es0 hgi
   cases hb:(Nat.beq sz n&&Nat.beq es0.length m) with
   |false=>rw[hb] at he;cases he
   |true=>
    rw[hb] at he;simp only[xfp,xfm] at he;subst he
    simp only[xfr,Nat.beq_eq_true_eq] at hb
    obtain⟨hb1,hb2⟩:=hb
    have hb1:sz=n:=by simpa using hb1
    have hb2:es0.length=m:=by simpa using hb2
    subst hb1
    obtain⟨h0,hl,hinx,hor⟩:=(s.obj i _ hgi).2
    rcases hor with rfl|⟨s0,cs',h1,h2,h3,h4⟩
    ·exact absurd hb2.symm hq'
    cases hx with
    |fr _ _ h=>cases h
    |growN=>exact absurd rfl hq'
    |grow0=>exact absurd rfl hq'
    |grow _ _ o a k _ hi hs hm=>
     subst hb2
     rw[hs] at h1 h2;simp only at h1 h2;subst h2
     have hfl:=zdz hl
     refine⟨rfl,hl,src h1 (by rw[← hfl,h3.1];simp) hl ?_⟩
     rw[List.drop_zero,← hfl,h3.1,List.take_length];exact h3
  cases he
 cases he
end
end Go.Am
end
