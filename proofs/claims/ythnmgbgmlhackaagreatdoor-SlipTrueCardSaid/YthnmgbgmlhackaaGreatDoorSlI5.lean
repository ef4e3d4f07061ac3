/-
 What is used in the proof of a statement (part SlI5); no condition.
-/
import Derived.Test.YthnmgbgmlhackaaGreatDoorSlH
import Derived.Test.YthnmgbgmlhackaaGreatDoorSlK0
import Derived.Test.YthnmgbgmlhackaaGreatDoorSlI0
import Derived.Test.YthnmgbgmlhackaaGreatDoorSlI2
set_option linter.all false
set_option maxHeartbeats 40000000
set_option maxRecDepth 100000
section
namespace Go.Am.Sl
theorem WE:∀ {l pre:List gZ},mc pre l=true→∀x∈l,dB x.t=true
 |[],_,_=>fun x hx=>by cases hx
 |a::r,pre,h=>fun x hx=>by
  unfold mc at h
  rw[bS] at h
  rcases List.mem_cons.1 hx with rfl|hx
  ·have:=h.1
   unfold mT at this
   simp only[bS] at this
   exact this.1.1.1.2
  exact WE h.2 x hx
theorem z5c {c:aj}(h:bl c=0){o:List Int}(hl:o.length≤48)(hw:o.all dB=true):bl { c with c:=o }=0:=by
 obtain⟨h1,h2,h3,h4,h5,h6,h7⟩:=Gs h
 unfold bl
 have e1:oe { c with c:=o }=0:=h1
 rw[e1]
 simp only[ne_eq,not_true_eq_false,if_false]
 rw[if_neg (by omega),h5,hw,h7];rfl
theorem z3r {c:aj}(h:oe c=0):mc [] c.mx=true:=by
 unfold oe at h
 split at h
 ·split at h
  ·cases h
  split at h
  ·assumption
  cases h
 cases h
theorem zxe {c:aj}(hk:bl c=0){s:aq}{n:Int}{i':Nat}{w:List Int}(hd:aJ c s=some (n,i',w)):w.all dB=true:=by
 obtain⟨h1,_,_,_,h5,_,h7⟩:=Gs hk
 unfold aJ at hd
 split at hd
 ·rename_i h0
  simp only at hd
  split at hd
  ·split at hd
   ·cases hm:ed c.mx (c.t.getD s.a.toNat 0) s.w with
    |none=>rw[hm] at hd;cases hd
    |some v=>
     rw[hm] at hd
     simp only[Option.map_some,ax,bG] at hd
     obtain⟨_,_,rfl⟩:=hd
     obtain⟨x,hx,e⟩:=LV hm
     have:=WE (z3r h1) x hx
     rw[e.2.1] at this
     simp[this]
   cases hd
  split at hd
  ·split at hd
   ·simp only[ax,bG] at hd;obtain⟨_,_,rfl⟩:=hd;rfl
   cases hd
  split at hd
  ·split at hd
   ·simp only[ax,bG] at hd;obtain⟨_,_,rfl⟩:=hd;rfl
   cases hd
  split at hd
  ·split at hd
   ·simp only[ax,bG] at hd
    obtain⟨_,_,rfl⟩:=hd
    rw[List.all_eq_true] at h5 ⊢
    exact fun x hx=>h5 x (List.mem_of_mem_drop (List.mem_of_mem_take hx))
   cases hd
  split at hd
  ·split at hd
   ·rename_i hg
    simp only[ax,bG] at hd
    obtain⟨_,_,rfl⟩:=hd
    have aP:s.l.toNat<c.g.length:=by omega
    rw[List.getD_eq_getElem?_getD,List.getElem?_eq_getElem aP,Option.getD_some]
    rw[List.all_eq_true] at h7
    have:=h7 _ (List.getElem_mem aP)
    unfold jr at this
    rw[bS] at this
    exact this.2
   cases hd
  split at hd
  ·split at hd
   ·rename_i hg
    simp only[ax,bG] at hd
    obtain⟨_,_,rfl⟩:=hd
    simp[hg.1]
   cases hd
  cases hd
 cases hd
def Jp (c:aj)(s:aq):Int:=match aJ c s with|some (n,_,_)=>n|none=>0
theorem WG {c:aj}(hk:bl c=0):∀ {l:List aq} {out:List Int} {i:Nat} {sum:Int} {o:List Int} {m:Int},lL c l out i sum=some (o,m)→out.all dB=true→
  o.all dB=true∧m=sum+(l.map (Jp c)).sum∧out.length≤o.length∧∀s∈l,s.i≤(o.length:Int)∧aJ c s≠none
 |[],out,i,sum,o,m,h,hw=>by
  unfold lL at h
  simp only[ax,bG] at h
  obtain⟨rfl,rfl⟩:=h
  have h5:=(Gs hk).2.2.2.2.1
  refine⟨?_,by simp,by simp,fun s hs=>by cases hs⟩
  rw[List.all_append,hw,Bool.true_and]
  rw[List.all_eq_true] at h5 ⊢
  exact fun x hx=>h5 x (List.mem_of_mem_drop hx)
 |s::r,out,i,sum,o,m,h,hw=>by
  rw[Bi] at h
  split at h
  ·split at h
   ·rename_i n i' w hd
    split at h
    ·rename_i hi
     have h5:=(Gs hk).2.2.2.2.1
     have et:(out++(c.t.drop i).take (s.a.toNat - i)++w).all dB=true:=by
      rw[List.all_append,List.all_append,hw,zxe hk hd]
      have:((c.t.drop i).take (s.a.toNat - i)).all dB=true:=by
       rw[List.all_eq_true] at h5 ⊢
       exact fun x hx=>h5 x (List.mem_of_mem_drop (List.mem_of_mem_take hx))
      rw[this];rfl
     obtain⟨g1,g2,g3,g4⟩:=WG hk h et
     have yX:Jp c s=n:=by unfold Jp;rw[hd]
     refine⟨g1,by rw[g2,List.map_cons,List.sum_cons,yX];omega,?_,fun x hx=>?_⟩
     ·simp only[List.length_append] at g3;omega
     rcases List.mem_cons.1 hx with rfl|hx
     ·rw[hi]
      refine⟨?_,by rw[hd];simp⟩
      simp only[List.length_append] at g3 ⊢;omega
     exact g4 x hx
    cases h
   cases h
  cases h
theorem WH {c:aj}(o:List Int):∀(l:List aq) (out:List Int) (i:Nat) (sum:Int),lL { c with c:=o } l out i sum=lL c l out i sum
 |[],_,_,_=>rfl
 |s::r,out,i,sum=>by
  rw[Bi,Bi]
  have hd:aJ { c with c:=o } s=aJ c s:=rfl
  rw[hd]
  show (if (i:Int)≤s.a∧s.a≤(c.t.length:Int) then _ else _)=_
  split
  ·split
   ·rw[WH o r]
   rfl
  rfl
def jL (a:Nat):aq×Nat×Nat:=(⟨0,0,0,0,0⟩,a,0)
def CQ (v:Int)(lo:Nat):List Int→Nat→Option Nat
 |[],_=>none
 |x::r,k=>if x=v∧lo≤k then some k else CQ v lo r (k+1)
def CR (a:Nat):List lj→Nat→Option (Nat×Nat)
 |[],_=>none
 |g::r,k=>if g.at_=(a:Int) then some (k,g.ws.length) else CR a r (k+1)
def lu (c:aj)(a:Nat):List gZ:=c.mx.filter fun x=>decide (x.f=c.t.getD a 0)
def tQ (c:aj)(m:sd)(a j:Nat):aq×Nat×Nat:=
 if m.kind % 6=0 then (if a=c.t.length∨lu c a=[] then jL a else (⟨1,a,j,0,((lu c a).getD (m.im % (lu c a).length) ⟨0,0,0⟩).t⟩,a+1,1))
 else if m.kind % 6=1 then (if a=c.t.length then jL a else (⟨2,a,j,0,0⟩,a+1,0))
 else if m.kind % 6=2 then (if a=0 then jL a else match CQ (c.t.getD (a - 1) 0) (a+m.im % 3) (c.t.drop a) a with|some k=>(⟨3,a,j,(k+1 - a:Nat),0⟩,k+1,0)|none=>jL a)
 else if m.kind % 6=3 then (if a=0 then jL a else (⟨4,a,j,(1+m.im % a:Nat),0⟩,a,1+m.im % a))
 else if m.kind % 6=4 then (match CR a c.g 0 with|some (k,n)=>(⟨5,a,j,k,0⟩,a,n)|none=>jL a)
 else (⟨6,a,j,0,(1+m.word % 9999:Nat)⟩,a,1)
theorem WJ {v:Int}{lo r:Nat}:∀ {l:List Int} {k:Nat},CQ v lo l k=some r→k≤r∧r<k+l.length∧l[r - k]?=some v∧lo≤r
 |[],_,h=>by cases h
 |x::l,k,h=>by
  unfold CQ at h
  split at h
  ·rename_i hx
   cases h
   refine⟨Nat.le_refl _,by simp,by simp[hx.1],hx.2⟩
  obtain⟨h1,h2,h3,h4⟩:=WJ h
  refine⟨by omega,by simp only[List.length_cons];omega,?_,h4⟩
  rw[show r - k=(r - (k+1))+1 by omega,List.getElem?_cons_succ];exact h3
theorem WK {a r n:Nat}:∀ {l:List lj} {k:Nat},CR a l k=some (r,n)→k≤r∧∃g,l[r - k]?=some g∧g.at_=(a:Int)∧g.ws.length=n
 |[],_,h=>by cases h
 |x::l,k,h=>by
  unfold CR at h
  split at h
  ·rename_i hx
   simp only[ax,bG] at h
   obtain⟨rfl,rfl⟩:=h
   exact⟨Nat.le_refl _,x,by simp,hx,rfl⟩
  obtain⟨h1,g,h3,h4⟩:=WK h
  refine⟨by omega,g,?_,h4⟩
  rw[show r - k=(r - (k+1))+1 by omega,List.getElem?_cons_succ];exact h3
theorem WL {f t:Int}:∀ {l:List gZ} {x:gZ},x∈l→x.f=f→x.t=t→∃n,ed l f t=some n
 |[],_,h,_,_=>by cases h
 |y::l,x,h,hf,ht=>by
  unfold ed
  split
  ·exact⟨_,rfl⟩
  rename_i hy
  rcases List.mem_cons.1 h with rfl|h
  ·exact absurd ⟨hf,ht⟩ hy
  exact WL h hf ht
theorem WM {c:aj}(hk:bl c=0){m:sd}{a j:Nat}(ha:a≤c.t.length){x:aq×Nat×Nat}(hx:tQ c m a j=x)(h:x.1.k≠0) :
  x.1.a=a∧x.1.i=j∧a≤x.2.1∧x.2.1≤c.t.length∧∃p w,aJ c x.1=some (p,x.2.1,w)∧w.length=x.2.2:=by
 unfold tQ at hx
 split at hx
 ·split at hx
  ·subst hx;exact absurd rfl h
  rename_i h1
  have h2:a≠c.t.length:=fun e=>h1 (.inl e)
  have h3:lu c a≠[]:=fun e=>h1 (.inr e)
  have aP:m.im % (lu c a).length<(lu c a).length:=Nat.mod_lt _ (List.length_pos_iff.2 h3)
  obtain⟨y,hy⟩:∃y,(lu c a).getD (m.im % (lu c a).length) ⟨0,0,0⟩=y:=⟨_,rfl⟩
  have Gd:y∈lu c a:=by rw[← hy];exact OU aP
  rw[hy] at hx
  unfold lu at Gd
  rw[List.mem_filter,decide_eq_true_eq] at Gd
  obtain⟨n,hn⟩:=WL Gd.1 Gd.2 rfl
  subst hx
  refine⟨rfl,rfl,by simp only;omega,by simp only;omega,n,[y.t],?_,rfl⟩
  unfold aJ
  rw[if_pos ⟨by simp only;omega,by simp only;omega,by simp only;omega⟩]
  dsimp only
  repeat rw[Int.toNat_natCast]
  rw[if_pos rfl,if_pos ⟨by omega,rfl⟩,hn];rfl
 split at hx
 ·split at hx
  ·subst hx;exact absurd rfl h
  rename_i h1
  subst hx
  refine⟨rfl,rfl,by simp only;omega,by simp only;omega,c.om,[],?_,rfl⟩
  unfold aJ
  rw[if_pos ⟨by simp only;omega,by simp only;omega,by simp only;omega⟩]
  dsimp only
  repeat rw[Int.toNat_natCast]
  rw[if_neg (by decide),if_pos rfl,if_pos ⟨by omega,rfl,rfl⟩]
 split at hx
 ·split at hx
  ·subst hx;exact absurd rfl h
  rename_i h1
  split at hx
  ·rename_i k hl
   obtain⟨g1,g2,g3,g4⟩:=WJ hl
   rw[List.length_drop] at g2
   rw[List.getElem?_drop,show a+(k - a)=k by omega] at g3
   subst hx
   refine⟨rfl,rfl,by simp only;omega,by simp only;omega,c.le,[],?_,rfl⟩
   unfold aJ
   rw[if_pos ⟨by simp only;omega,by simp only;omega,by simp only;omega⟩]
   dsimp only
   repeat rw[Int.toNat_natCast]
   have hq:c.t.getD (a+(k+1 - a) - 1) 0=c.t.getD (a - 1) 0:=by
    have Cd:a+(k+1 - a) - 1=k:=by omega
    rw[Cd,List.getD_eq_getElem?_getD,g3];rfl
   rw[if_neg (by decide),if_neg (by decide),if_pos rfl,if_pos ⟨by omega,by omega,by omega,rfl,hq⟩]
   have zo:a+(k+1 - a)=k+1:=by omega
   rw[zo]
  subst hx;exact absurd rfl h
 split at hx
 ·split at hx
  ·subst hx;exact absurd rfl h
  rename_i h1
  have h2:m.im % a<a:=Nat.mod_lt _ (by omega)
  subst hx
  refine⟨rfl,rfl,Nat.le_refl _,ha,c.tw,(c.t.drop (a - (1+m.im % a))).take (1+m.im % a),?_,?_⟩
  ·unfold aJ
   rw[if_pos ⟨by simp only;omega,by simp only;omega,by simp only;omega⟩]
   dsimp only
   repeat rw[Int.toNat_natCast]
   rw[if_neg (by decide),if_neg (by decide),if_neg (by decide),if_pos rfl,if_pos ⟨by omega,by omega,rfl⟩]
  simp only[List.length_take,List.length_drop];omega
 split at hx
 ·split at hx
  ·rename_i k n hg
   obtain⟨g1,g,g2,g3,g4⟩:=WK hg
   rw[Nat.sub_zero] at g2
   have aP:k<c.g.length:=(List.getElem?_eq_some_iff.1 g2).1
   have hD:c.g.getD k ⟨0,[]⟩=g:=by rw[List.getD_eq_getElem?_getD,g2];rfl
   subst hx
   refine⟨rfl,rfl,Nat.le_refl _,ha,c.gl,g.ws,?_,g4⟩
   unfold aJ
   rw[if_pos ⟨by simp only;omega,by simp only;omega,by simp only;omega⟩]
   dsimp only
   repeat rw[Int.toNat_natCast]
   rw[if_neg (by decide),if_neg (by decide),if_neg (by decide),if_neg (by decide),if_pos rfl,hD,if_pos ⟨by omega,by omega,rfl,g3⟩]
  subst hx;exact absurd rfl h
 have h2:m.word % 9999<9999:=Nat.mod_lt _ (by omega)
 subst hx
 refine⟨rfl,rfl,Nat.le_refl _,ha,c.ad,[((1+m.word % 9999:Nat):Int)],?_,rfl⟩
 unfold aJ
 rw[if_pos ⟨by simp only;omega,by simp only;omega,by simp only;omega⟩]
 dsimp only
 repeat rw[Int.toNat_natCast]
 have hq:dB ((1+m.word % 9999:Nat):Int)=true:=by
  unfold dB
  rw[decide_eq_true (by omega),decide_eq_true (by omega)];rfl
 rw[if_neg (by decide),if_neg (by decide),if_neg (by decide),if_neg (by decide),if_neg (by decide),if_pos rfl,if_pos ⟨hq,rfl⟩]
def pD (c:aj):List sd→Nat→Nat→List aq
 |[],_,_=>[]
 |m::r,i,j=>
  if (tQ c m (i+min (m.after % 4) (c.t.length - i)) (j+min (m.after % 4) (c.t.length - i))).1.k=0 then pD c r i j
  else (tQ c m (i+min (m.after % 4) (c.t.length - i)) (j+min (m.after % 4) (c.t.length - i))).1::pD c r (tQ c m (i+min (m.after % 4) (c.t.length - i)) (j+min (m.after % 4) (c.t.length - i))).2.1
   (j+min (m.after % 4) (c.t.length - i)+(tQ c m (i+min (m.after % 4) (c.t.length - i)) (j+min (m.after % 4) (c.t.length - i))).2.2)
theorem WN {c:aj}{m:sd}{r:List sd}{i j o:Nat}(ho:min (m.after % 4) (c.t.length - i)=o){x:aq×Nat×Nat}(hx:tQ c m (i+o) (j+o)=x)(h:x.1.k=0):pD c (m::r) i j=pD c r i j:=by
 rw[pD,ho,hx,if_pos h]
theorem WO {c:aj}{m:sd}{r:List sd}{i j o:Nat}(ho:min (m.after % 4) (c.t.length - i)=o){x:aq×Nat×Nat}(hx:tQ c m (i+o) (j+o)=x)(h:x.1.k≠0):pD c (m::r) i j=x.1::pD c r x.2.1 (j+o+x.2.2):=by
 rw[pD,ho,hx,if_neg h]
theorem QT (c:aj):∀(l:List sd) (i j:Nat),(pD c l i j).length≤l.length
 |[],_,_=>Nat.le_refl _
 |m::r,i,j=>by
  rw[pD]
  split
  ·have:=QT c r i j;simp only[List.length_cons];omega
  simp only[List.length_cons]
  exact Nat.succ_le_succ (QT c r _ _)
theorem QU {c:aj}(hk:bl c=0):∀(l:List sd) (i j:Nat) (out:List Int) (sum:Int),i≤c.t.length→out.length=j→∃o n,lL c (pD c l i j) out i sum=some (o,n)
 |[],i,j,out,sum,hi,hj=>⟨_,_,rfl⟩
 |m::r,i,j,out,sum,hi,hj=>by
  obtain⟨o,ho⟩:∃o,min (m.after % 4) (c.t.length - i)=o:=⟨_,rfl⟩
  obtain⟨x,hx⟩:∃x,tQ c m (i+o) (j+o)=x:=⟨_,rfl⟩
  by_cases h0:x.1.k=0
  ·rw[WN ho hx h0];exact QU hk r i j out sum hi hj
  rw[WO ho hx h0,Bi]
  obtain⟨h1,h2,h3,h4,p,w,h5,h6⟩:=WM hk (by omega) hx h0
  have hT:x.1.a.toNat=i+o:=by omega
  rw[if_pos ⟨by omega,by omega⟩,h5]
  simp only
  have hl:(out++List.take (x.1.a.toNat - i) (List.drop i c.t)).length=j+o:=by
   rw[hT,List.length_append,List.length_take,List.length_drop];omega
  rw[if_pos (by rw[hl,h2])]
  exact QU hk r _ _ _ _ h4 (by rw[List.length_append,hl,h6])
theorem z5k {c:aj}(hk:bl c=0)(l:List sd)(hl:l.length≤100):∃o n,LF c (pD c l 0 0)=o∧LG c (pD c l 0 0)=0∧o.length≤96*l.length+48∧
  (bl { c with c:=o }≠0→48<o.length)∧(bl { c with c:=o }=0→cJ { c with c:=o } (pD c l 0 0)=some n∧du { c with c:=o }≤n∧n=((pD c l 0 0).map (x7 { c with c:=o })).sum∧∀s∈pD c l 0 0,Iu { c with c:=o } s=0):=by
 obtain⟨o,n,hw⟩:=QU hk l 0 0 [] 0 (Nat.zero_le _) rfl
 have hlen:=QT c l 0 0
 obtain⟨d,hd⟩:∃d,pD c l 0 0=d:=⟨_,rfl⟩
 rw[hd] at hw hlen ⊢
 obtain⟨a1,a2,a3,a4⟩:=WG hk hw rfl
 have vV:eE c d=some (o,n):=hw
 have hb:=O5 (gR hk) d [] 0 0 hw
 refine⟨o,n,?_,?_,by simp only[List.length_nil] at hb;omega,fun h=>?_,fun h=>?_⟩
 ·unfold LF;rw[if_pos hk,if_neg (by omega),vV]
 ·unfold LG;rw[if_pos hk,if_neg (by omega),vV]
 ·refine Decidable.by_contra fun h2=>h (z5c hk (by omega) a1)
 have he:cJ { c with c:=o } d=some n:=by
  unfold cJ
  rw[if_neg (by omega)]
  have:eE { c with c:=o } d=some (o,n):=by unfold eE;rw[WH];exact hw
  rw[this]
  simp only
  rw[if_pos trivial]
 have rP:∀s,aJ { c with c:=o } s=aJ c s:=fun _=>rfl
 have yX:∀s∈d,x7 { c with c:=o } s=Jp c s∧Iu { c with c:=o } s=0:=fun s hs=>by
  obtain⟨b1,b2⟩:=a4 s hs
  unfold x7 Jp Iu
  rw[if_pos h,if_pos h,rP]
  cases hd:aJ c s with
  |none=>exact absurd hd b2
  |some v=>obtain⟨x,y,z⟩:=v;simp[b1]
 refine⟨he,UN (gR h) he,?_,fun s hs=>(yX s hs).2⟩
 rw[a2,Int.zero_add]
 congr 1
 exact(List.map_congr_left fun s hs=>(yX s hs).1).symm
open Go Go.Am Go.Proofs Tryz
attribute [local simp] eQ ij pV dH gk mz ai.back cS fW lg bm Nat.testBit_eq_decide_div_mod_eq cC iE mw vO ph gF pj iP cU nG nF pe gG pf n4 lZ pT n3 pg o7 o4 o8 o5 o6 o9 pa mR eZ jW eP pn nH oc po pq mQ pR pS gE my fK fy fL kV gg nS nv ny jF oR bj nZ fx bP bK lD ai.get ai.alloc ai.put ai.drop ai.empty bt cZ iw jn gA cz chunk List.range List.range.loop lh pW l9 bI b6 PV.aG PV.aF PV.dc PV.fu gY gH od PV.one PV.ids PV.cF gI beq_eq qD rE
attribute [local simp] cQ bQ fN gJ fI
attribute [local simp ↓ high] sD rJ
def wI (c:aj)(v:Int)(k:Nat):List gZ:=(c.mx.take k).filter fun x=>decide (x.f=v)
theorem z5d {c:aj}{v:Int}{k:Nat}{x:gZ}(h:c.mx[k]?=some x):wI c v (k+1)=wI c v k++if x.f=v then [x] else []:=by
 obtain⟨h1,h2⟩:=List.getElem?_eq_some_iff.1 h
 unfold wI
 rw[List.take_succ_eq_append_getElem h1,h2,List.filter_append]
 by_cases hx:x.f=v
 ·rw[if_pos hx,List.filter_cons_of_pos (by rw[decide_eq_true hx])];rfl
 rw[if_neg hx,List.filter_cons_of_neg (by rw[decide_eq_false hx];decide)];rfl
theorem z7m (c:aj)(v:Int)(k:Nat):(wI c v k).length≤c.mx.length:=by
 unfold wI
 have:=List.length_filter_le (fun x:gZ=>decide (x.f=v)) (c.mx.take k)
 rw[List.length_take] at this
 omega
theorem WQ:∀ {l:List gZ} {i:Nat} {y:gZ},l[i]?=some y→((l.map bk).flatMap PV.cells)[i*3+1]?=some (.int .i64 y.t)
 |[],_,_,h=>by cases h
 |x::r,0,y,h=>by
  simp only[List.getElem?_cons_zero,ax] at h
  subst h;rfl
 |x::r,i+1,y,h=>by
  have:=WQ (l:=r) (i:=i) (y:=y) (by simpa using h)
  rw[show (i+1)*3+1=i*3+1+1+1+1 by omega]
  exact this
theorem Jq (a b:Nat):((a:Int)).tmod (b:Int)=((a % b:Nat):Int):=by
 rw[Int.tmod_eq_emod_of_nonneg (by omega)];omega
theorem WR {α:Type}{l:List α}{k:Nat}{x:α}(h:l[k]?=some x):l.drop k=x::l.drop (k+1):=by
 obtain⟨h1,h2⟩:=List.getElem?_eq_some_iff.1 h
 rw[← h2];exact List.drop_eq_getElem_cons h1
theorem xcr {c:aj}{k:Nat}{g:lj}(h:c.g[k]?=some g):(c.g.map bV)[k]?=some (.agg [.int .i64 g.at_,ints g.ws]):=by rw[List.getElem?_map,h];rfl
variable [bF] in
theorem p56 (c:aj)(m:sd)(a j:Nat)(hk:bl c=0)(hm:Jr m)(ha:a≤c.t.length)(hj:j≤1000):aN prog 56 [aH c,z8 m,.int .i64 a,.int .i64 j] fun r=>r=.bx [encS (tQ c m a j).1,.int .i64 (tQ c m a j).2.1,.int .i64 (tQ c m a j).2.2]:=by
 have bo:=gR hk
 have oh:=bo.tl
 have sE:=bo.wc
 have GZ:=bo.HI
 have hC:cR c=(cQ c):=rfl
 have hE:∀s:aq,encS s=.agg [.int .i64 s.k,.int .i64 s.a,.int .i64 s.i,.int .i64 s.l,.int .i64 s.w]:=fun _=>rfl
 obtain⟨m1,m2,m3,m4⟩:=hm
 obtain⟨x,hx⟩:∃x,tQ c m a j=x:=⟨_,rfl⟩
 rw[hx,hE]
 unfold tQ at hx
 obtain⟨maf,Js,BK,Jt⟩:=m
 simp only at hx m1 m2 m3 m4
 obtain⟨q,hq⟩:∃q,Js % 6=q:=⟨_,rfl⟩
 have hq6:q<6:=by omega
 have t6:(Js:Int).tmod 6=((Js % 6:Nat):Int):=Jq Js 6
 have t3:(BK:Int).tmod 3=((BK % 3:Nat):Int):=Jq BK 3
 have ta:=Jq BK a
 have tw:(Jt:Int).tmod 9999=((Jt % 9999:Nat):Int):=Jq Jt 9999
 rw[hq] at hx t6
 obtain⟨w3,qF⟩:∃q,BK % 3=q:=⟨_,rfl⟩
 have yar:w3<3:=by omega
 rw[qF] at hx t3
 obtain⟨wa,FQ⟩:∃q,BK % a=q:=⟨_,rfl⟩
 have Ju:0<a→wa<a:=fun h=>by rw[← FQ];exact Nat.mod_lt _ h
 rw[FQ] at hx ta
 obtain⟨ww,Hr⟩:∃q,Jt % 9999=q:=⟨_,rfl⟩
 have yas:ww<9999:=by omega
 rw[Hr] at hx tw
 have tC:=fun n:Nat=>Jq BK n
 unfold z8
 simp only
 obtain⟨af,haf⟩:∃u:Int,(maf:Int)=u:=⟨_,rfl⟩
 obtain⟨kd,KR⟩:∃u:Int,(Js:Int)=u:=⟨_,rfl⟩
 obtain⟨wh,QV⟩:∃u:Int,(BK:Int)=u:=⟨_,rfl⟩
 obtain⟨wo,sK⟩:∃u:Int,(Jt:Int)=u:=⟨_,rfl⟩
 have b1:IntKind.i64.wrap kd=kd:=wrap64 (by omega) (by omega)
 have b2:IntKind.i64.wrap wh=wh:=wrap64 (by omega) (by omega)
 have b3:IntKind.i64.wrap wo=wo:=wrap64 (by omega) (by omega)
 rw[haf,KR,QV,sK]
 rw[KR] at t6
 rw[QV] at t3 ta
 rw[sK] at tw
 simp only[QV] at tC
 obtain⟨K,hK⟩:∃K:Int,1+(q:Int)=K:=⟨_,rfl⟩
 have b4:IntKind.i64.wrap K=K:=wrap64 (by omega) (by omega)
 obtain⟨e1,gn⟩:∃b,(K==1)=b:=⟨_,rfl⟩
 obtain⟨e2,xE⟩:∃b,(K==2)=b:=⟨_,rfl⟩
 obtain⟨e3,Mk⟩:∃b,(K==3)=b:=⟨_,rfl⟩
 obtain⟨e4,WS⟩:∃b,(K==4)=b:=⟨_,rfl⟩
 obtain⟨e5,WT⟩:∃b,(K==5)=b:=⟨_,rfl⟩
 obtain⟨an,oq⟩:∃b,((a:Int)==(c.t.length:Int))=b:=⟨_,rfl⟩
 have yat:(a==c.t.length)=an:=by rw[← oq,Bool.eq_iff_iff,beq_iff_eq,beq_iff_eq];omega
 obtain⟨a0,yY⟩:∃b,((a:Int)==0)=b:=⟨_,rfl⟩
 have BL:(a==0)=a0:=by rw[← yY,Bool.eq_iff_iff,beq_iff_eq,beq_iff_eq];omega
 obtain⟨ap,WU⟩:∃b,decide (0<a)=b:=⟨_,rfl⟩
 have c3:(3:Int)≠0:=by decide
 unfold aH
 rw[hC]
 refine .bT func56 rfl rfl ?_
 refine .sr ?_
 refine .sr ?_
 refine .sr ?_
 refine .sr ?_
 refine .seq (.sr ?_)
 refine .block (.sr ?_)
 refine .cs ?_ ?_<;>intro dX
 ·try simp at dX
  have q0:q=0:=by rw[dX,beq_iff_eq] at gn;omega
  rw[if_pos q0] at hx
  clear t3 ta tw
  refine .seq (.sr ?_)
  refine .cs ?_ ?_<;>intro kP
  ·try simp at kP
   have EV:a=c.t.length:=by rw[kP,beq_iff_eq] at oq;omega
   rw[if_pos (.inl EV)] at hx
   refine .sr ?_
   refine .ret (au ?_)
   first|(rw[← hx];rfl)|(rw[← hx];simp[jL];done)|(rw[← hx];simp[jL];omega)
  try simp at kP
  have EV:a<c.t.length:=by
   have:¬((a:Int)=(c.t.length:Int)):=fun h=>by rw[kP,beq_eq_false_iff_ne] at oq;exact oq h
   omega
  obtain⟨v,hv⟩:∃v,c.t[a]?=some v:=⟨_,List.getElem?_eq_getElem EV⟩
  obtain⟨iS,eN⟩:=List.getElem?_eq_some_iff.1 hv
  have hvD:c.t.getD a 0=v:=by rw[List.getD_eq_getElem?_getD,hv];rfl
  have QW:wI c v c.mx.length=lu c a:=by unfold wI lu;rw[List.take_length,hvD]
  have lA:wI c v 0=[]:=rfl
  refine .skip (.sr ?_)
  refine .seq (.sr ?_)
  refine .block ?_
  refine .dw (fun k:Nat=>([(2,.int .i64 a),(4,.ptr 0 0),(5,.ptr 1 0),(8,.ptr 2 0),(11,.ptr 3 0),(13,.ptr 4 0),(14,.grow 5 (wI c v k).length true),(15,.int .i64 k)],⟨6,[(5,.grow 3 ((wI c v k).map bk)),(4,.box [.int .i64 K,.int .i64 a,.int .i64 j,.int .i64 0,.int .i64 0]),(3,.box [.int .i64 0,.int .i64 0,.int .i64 0,.int .i64 0,.int .i64 0]),(2,.box [.int .i64 0,.int .i64 0,.int .i64 0,.int .i64 0,.int .i64 0]),(1,.box [.int .u8 af,.int .u8 kd,.int .u8 wh,.int .u16 wo]),(0,.box (cQ c))]⟩)) (fun k=>k≤c.mx.length) (fun k=>c.mx.length - k) 0 (Nat.zero_le _) bn ?_
  rintro k eG
  simp only at eG ⊢
  have CA:=z7m c v k
  have Is:(wI c v k).length+1≤4294967296:=by omega
  have It:(wI c v k).length≤4294967295:=by omega
  refine .seq (.sr ?_)
  refine .cs ?_ ?_<;>intro qI
  ·try simp at qI
   have fO:k<c.mx.length:=by omega
   have uX:=fA k
   obtain⟨y,hy⟩:∃y,c.mx[k]?=some y:=⟨_,List.getElem?_eq_getElem fO⟩
   obtain⟨wF,Gx⟩:=List.getElem?_eq_some_iff.1 hy
   have hS:=z5d (v:=v) hy
   obtain⟨yb,Mp⟩:∃b,(y.f==v)=b:=⟨_,rfl⟩
   have hyE:bk y=.agg [.int .i64 y.f,.int .i64 y.t,.int .i64 y.c]:=rfl
   refine .skip (.seq (.block (.seq ?_)))
   refine .drawn (ms:=[0,1,3,0,15,31,63,0,128,0,896,1920,4095]) (W:=[]) (items:=Oh) rfl ae ae ae ?_
   iterate 13 refine .rx ?_
   refine .done ?_
   refine .cs ?_ ?_<;>intro qk
   ·try simp at qk
    rw[qk,beq_iff_eq] at Mp
    rw[if_pos Mp] at hS
    refine .rn ?_
    refine .rn ?_
    refine⟨k+1,bp,bp,by rw[hS];exact(.mk [] [(5,7)] ia ix rfl rfl rfl)⟩
   try simp at qk
   rw[qk,beq_eq_false_iff_ne] at Mp
   rw[if_neg Mp,List.append_nil] at hS
   refine .skip (.rn ?_)
   refine⟨k+1,bp,bp,by rw[hS];exact bn⟩
  try simp at qI
  obtain rfl:k=c.mx.length:=by omega
  rw[QW] at CA Is It ⊢
  obtain⟨CL,hCL⟩:∃x,lu c a=x:=⟨_,rfl⟩
  rw[hCL] at hx CA Is It ⊢
  obtain⟨n0,Ed⟩:∃b,((CL.length:Int)==0)=b:=⟨_,rfl⟩
  have BM:(CL.length==0)=n0:=by rw[← Ed,Bool.eq_iff_iff,beq_iff_eq,beq_iff_eq];omega
  have tCL:=tC CL.length
  refine .exit (.seq (.sr ?_))
  refine .cs ?_ ?_<;>intro Mq
  ·try simp at Mq
   have h0:CL=[]:=List.eq_nil_of_length_eq_zero (by rw[Mq,beq_iff_eq] at BM;exact BM)
   rw[if_pos (.inr h0)] at hx
   refine .sr ?_
   refine .ret (au ?_)
   first|(rw[← hx];rfl)|(rw[← hx];simp[jL];done)|(rw[← hx];simp[jL];omega)
  try simp at Mq
  have h0:0<CL.length:=by
   have:CL.length≠0:=fun h=>by rw[Mq,beq_eq_false_iff_ne] at BM;exact BM h
   omega
  rw[if_neg (fun h=>h.elim (fun h=>by omega) (fun h=>by rw[h] at h0;cases h0))] at hx
  obtain⟨ci,WV⟩:∃i,BK % CL.length=i:=⟨_,rfl⟩
  have eM:ci<CL.length:=by rw[← WV];exact Nat.mod_lt _ h0
  rw[WV] at hx tCL
  obtain⟨y,hy⟩:∃y,CL[ci]?=some y:=⟨_,List.getElem?_eq_getElem eM⟩
  obtain⟨wF,Gx⟩:=List.getElem?_eq_some_iff.1 hy
  rw[List.getD_eq_getElem?_getD,hy,Option.getD_some] at hx
  have hyE:bk y=.agg [.int .i64 y.f,.int .i64 y.t,.int .i64 y.c]:=rfl
  have EW:=fA a
  have cY:¬CL=[]:=fun h=>by rw[h] at h0;cases h0
  have b7:¬((CL.length:Int)=0):=by omega
  have mu:=WQ hy
  refine .skip (.sr ?_)
  refine .sr ?_
  refine .ret (au ?_)
  first|(rw[← hx];rfl)|(rw[← hx];simp[jL];done)|(rw[← hx];simp[jL];omega)
 try simp at dX
 have q0:q≠0:=fun h=>by rw[h] at hK;rw[dX,beq_eq_false_iff_ne] at gn;omega
 rw[if_neg q0] at hx
 refine .sr ?_
 refine .cs ?_ ?_<;>intro sC
 ·try simp at sC
  have q1:q=1:=by rw[sC,beq_iff_eq] at xE;omega
  rw[if_pos q1] at hx
  have EW:=fA a
  refine .seq (.sr ?_)
  refine .cs ?_ ?_<;>intro Mr
  ·try simp at Mr
   have EV:a=c.t.length:=by rw[Mr,beq_iff_eq] at oq;omega
   rw[if_pos EV] at hx
   refine .sr ?_
   refine .ret (au ?_)
   first|(rw[← hx];rfl)|(rw[← hx];simp[jL];done)|(rw[← hx];simp[jL];omega)
  try simp at Mr
  have EV:¬(a=c.t.length):=fun h=>by rw[h] at oq;rw[Mr,beq_eq_false_iff_ne] at oq;exact oq rfl
  rw[if_neg EV] at hx
  refine .skip (.sr ?_)
  refine .ret (au ?_)
  first|(rw[← hx];rfl)|(rw[← hx];simp[jL];done)|(rw[← hx];simp[jL];omega)
 try simp at sC
 have q1:q≠1:=fun h=>by rw[h] at hK;rw[sC,beq_eq_false_iff_ne] at xE;omega
 rw[if_neg q1] at hx
 refine .sr ?_
 refine .cs ?_ ?_<;>intro sS
 ·try simp at sS
  have q2:q=2:=by rw[sS,beq_iff_eq] at Mk;omega
  rw[if_pos q2] at hx
  refine .seq (.sr ?_)
  refine .block ?_
  refine .dw (fun k:Nat=>([(2,.int .i64 a),(4,.ptr 0 0),(5,.ptr 1 0),(8,.ptr 2 0),(11,.ptr 3 0),(12,.int .i64 c.t.length),(13,.ptr 4 0),(16,.int .i64 k)],⟨5,[(4,.box [.int .i64 K,.int .i64 a,.int .i64 j,.int .i64 0,.int .i64 0]),(3,.box [.int .i64 0,.int .i64 0,.int .i64 0,.int .i64 0,.int .i64 0]),(2,.box [.int .i64 0,.int .i64 0,.int .i64 0,.int .i64 0,.int .i64 0]),(1,.box [.int .u8 af,.int .u8 kd,.int .u8 wh,.int .u16 wo]),(0,.box (cQ c))]⟩)) (fun k=>a≤k∧k≤c.t.length∧CQ (c.t.getD (a - 1) 0) (a+w3) (c.t.drop k) k=CQ (c.t.getD (a - 1) 0) (a+w3) (c.t.drop a) a) (fun k=>c.t.length - k) a ⟨Nat.le_refl _,ha,rfl⟩ bn ?_
  rintro k ⟨kz,gh,ki⟩
  simp only at kz gh ki ⊢
  refine .seq (.seq (.ay ik rfl ae (.rn [0,1,2] _ ?_)))
  refine .split (t:=103) rfl (fun iX=>?_) (fun iX=>?_)
  ·try subst iX
   try simp at iX
   have h0:0<a:=of_decide_eq_true WU
   rw[if_neg (by omega)] at hx
   rw[← ki] at hx
   obtain⟨lk,FJ⟩:∃b,decide (k<c.t.length)=b:=⟨_,rfl⟩
   refine .rn [3,4,5,6] [] ?_
   refine .done ?_
   refine .cs ?_ ?_<;>intro oJ
   ·try simp at oJ
    have eG:k<c.t.length:=of_decide_eq_true (FJ.trans oJ)
    obtain⟨v,hv⟩:∃v,c.t[a - 1]?=some v:=⟨_,List.getElem?_eq_getElem (by omega)⟩
    obtain⟨iS,eN⟩:=List.getElem?_eq_some_iff.1 hv
    obtain⟨u,hu⟩:∃v,c.t[k]?=some v:=⟨_,List.getElem?_eq_getElem (by omega)⟩
    obtain⟨Hu,Ez⟩:=List.getElem?_eq_some_iff.1 hu
    rw[List.getD_eq_getElem?_getD,hv,Option.getD_some] at hx ki
    rw[WR hu] at hx ki
    have hwm:IntKind.i64.wrap ((a:Int) - 1)=((a - 1:Nat):Int):=by rw[wrap64 (by omega) (by omega)];omega
    have uX:IntKind.i64.wrap ((k:Int)+1)=((k+1:Nat):Int):=by rw[wrap64 (by omega) (by omega)];omega
    have A5:IntKind.i64.wrap ((a:Int)+(w3:Int))=((a+w3:Nat):Int):=by rw[wrap64 (by omega) (by omega)];omega
    have u4:IntKind.i64.wrap (((k+1:Nat):Int) - (a:Int))=((k+1 - a:Nat):Int):=by rw[wrap64 (by omega) (by omega)];omega
    obtain⟨k1,se⟩:∃x,k+1=x:=⟨_,rfl⟩
    obtain⟨lo,cg⟩:∃x,a+w3=x:=⟨_,rfl⟩
    obtain⟨kl,Jv⟩:∃x,k1 - a=x:=⟨_,rfl⟩
    obtain⟨am,yZ⟩:∃x,a - 1=x:=⟨_,rfl⟩
    have hN:CQ v lo (u::c.t.drop k1) k=if u=v∧lo≤k then some k else CQ v lo (c.t.drop k1) k1:=by rw[← se];rfl
    rw[se,cg,hN] at hx ki
    simp only[se] at uX u4 
    rw[Jv] at u4
    rw[cg] at A5
    simp only[yZ] at hwm iS eN
    obtain⟨ub,Jw⟩:∃b,(u==v)=b:=⟨_,rfl⟩
    obtain⟨gb,CS⟩:∃b,decide (lo≤k)=b:=⟨_,rfl⟩
    have yau:decide ((lo:Int)≤(k:Int))=gb:=by rw[← CS];exact decide_eq_decide.2 (by omega)
    refine .skip (.seq (.block (.seq ?_)))
    refine .drawn (ms:=[0,1,0,7,15,0,32,0,128,480,992,2047,4095,8191,8191,8191,40959,106495,237567,516095,1048575,2097151]) (W:=[]) (items:=[.op 0,.op 1,.op 2,.op 3,.op 4,.op 5,.op 6,.op 7,.op 8,.op 9,.op 10,.op 11,.op 12,.op 13,.op 14,.op 15,.op 16,.op 17,.op 18,.op 19,.op 20,.op 21]) rfl ae ae ae ?_
    iterate 13 refine .rx ?_
    refine .split (t:=122) rfl (fun ef=>?_) (fun ef=>?_)
    ·try subst ef
     try simp at ef
     iterate 9 refine .rx ?_
     refine .done ?_
     refine .cs ?_ ?_<;>intro js
     ·try simp at js
      have h1:u=v:=by rw[beq_iff_eq] at Jw;exact Jw
      have h2:lo≤k:=of_decide_eq_true (CS.trans js)
      rw[if_pos ⟨h1,h2⟩] at hx
      dsimp only at hx
      rw[se,Jv] at hx
      refine .sr ?_
      refine .sr ?_
      refine .ret (au ?_)
      first|(rw[← hx];rfl)|(rw[← hx];simp[jL];done)|(rw[← hx];simp[jL];omega)
     try simp at js
     have h2:¬(lo≤k):=of_decide_eq_false (CS.trans js)
     rw[if_neg fun h=>h2 h.2] at hx ki
     refine .skip (.rn ?_)
     refine⟨k1,⟨by omega,by omega,?_⟩,by omega,bn⟩
     rw[yZ,List.getD_eq_getElem?_getD,← yZ,hv,Option.getD_some,cg];exact ki
    try subst ef
    try simp at ef
    have h2:¬(u=v):=fun h=>by rw[h] at Jw;rw[beq_eq_false_iff_ne] at Jw;exact Jw rfl
    rw[if_neg fun h=>h2 h.1] at hx ki
    iterate 8 refine .ux ?_
    refine .rx ?_
    refine .done (.fD rfl (.skip (.rn ?_)))
    refine⟨k1,⟨by omega,by omega,?_⟩,by omega,bn⟩
    rw[yZ,List.getD_eq_getElem?_getD,← yZ,hv,Option.getD_some,cg];exact ki
   try simp at oJ
   have eG:¬(k<c.t.length):=of_decide_eq_false (FJ.trans oJ)
   rw[List.drop_of_length_le (by omega)] at hx
   refine .exit (.sr ?_)
   refine .ret (au ?_)
   first|(rw[← hx];rfl)|(rw[← hx];simp[jL];done)|(rw[← hx];simp[jL];omega)
  try subst iX
  try simp at iX
  have h0:¬(0<a):=of_decide_eq_false WU
  rw[if_pos (by omega)] at hx
  refine .rn [3,4,5,6] [] ?_
  refine .done (.fD rfl (.exit (.sr ?_)))
  refine .ret (au ?_)
  first|(rw[← hx];rfl)|(rw[← hx];simp[jL];done)|(rw[← hx];simp[jL];omega)
 try simp at sS
 have q2:q≠2:=fun h=>by rw[h] at hK;rw[sS,beq_eq_false_iff_ne] at Mk;omega
 rw[if_neg q2] at hx
 refine .sr ?_
 refine .cs ?_ ?_<;>intro BN
 ·try simp at BN
  have q3:q=3:=by rw[BN,beq_iff_eq] at WS;omega
  rw[if_pos q3] at hx
  refine .seq (.sr ?_)
  refine .cs ?_ ?_<;>intro oG
  ·try simp at oG
   have h0:a=0:=by rw[oG,beq_iff_eq] at BL;exact BL
   rw[if_pos h0] at hx
   refine .sr ?_
   refine .ret (au ?_)
   first|(rw[← hx];rfl)|(rw[← hx];simp[jL];done)|(rw[← hx];simp[jL];omega)
  try simp at oG
  have h0:¬(a=0):=fun h=>by rw[oG,beq_eq_false_iff_ne] at BL;exact BL h
  rw[if_neg h0] at hx
  have Ju:=Ju (by omega)
  have Pu:IntKind.i64.wrap (1+(wa:Int))=((1+wa:Nat):Int):=by rw[wrap64 (by omega) (by omega)];omega
  obtain⟨wa1,EW⟩:∃x,1+wa=x:=⟨_,rfl⟩
  rw[EW] at hx Pu
  have b7:¬((a:Int)=0):=by omega
  refine .skip (.sr ?_)
  refine .seq ?_
  refine .drawn (ms:=[0,0,0,4,1,19,63]) (W:=[4]) (items:=[.op 0,.op 1,.op 2,.op 3,.op 4,.ck 3,.op 5,.op 6]) rfl ae ae ae ?_
  iterate 4 refine .rx ?_
  refine .wr rfl rfl (by decide) (.Jx (cV:=[3]) rfl rfl rfl rfl eX rfl (⟨⟨dO,_,_,rfl,eX⟩,trivial⟩) ?_)
  refine .ck rfl dO ?_
  iterate 2 refine .rx ?_
  refine .done (.ret (au ?_))
  first|(rw[← hx];rfl)|(rw[← hx];simp[jL];done)|(rw[← hx];simp[jL];omega)
 try simp at BN
 have q3:q≠3:=fun h=>by rw[h] at hK;rw[BN,beq_eq_false_iff_ne] at WS;omega
 rw[if_neg q3] at hx
 refine .sr ?_
 refine .cs ?_ ?_<;>intro BO
 ·try simp at BO
  have q4:q=4:=by rw[BO,beq_iff_eq] at WT;omega
  rw[if_pos q4] at hx
  refine .seq (.sr ?_)
  refine .block ?_
  refine .dw (fun k:Nat=>([(2,.int .i64 a),(4,.ptr 0 0),(8,.ptr 2 0),(11,.ptr 3 0),(13,.ptr 4 0),(17,.int .i64 k)],⟨5,[(4,.box [.int .i64 K,.int .i64 a,.int .i64 j,.int .i64 0,.int .i64 0]),(3,.box [.int .i64 0,.int .i64 0,.int .i64 0,.int .i64 0,.int .i64 0]),(2,.box [.int .i64 0,.int .i64 0,.int .i64 0,.int .i64 0,.int .i64 0]),(1,.box [.int .u8 af,.int .u8 kd,.int .u8 wh,.int .u16 wo]),(0,.box (cQ c))]⟩)) (fun k=>k≤c.g.length∧CR a (c.g.drop k) k=CR a c.g 0) (fun k=>c.g.length - k) 0 ⟨Nat.zero_le _,rfl⟩ bn ?_
  rintro k ⟨kz,gh⟩
  simp only at kz gh ⊢
  rw[← gh] at hx
  refine .seq (.sr ?_)
  refine .cs ?_ ?_<;>intro r6
  ·try simp at r6
   have eG:k<c.g.length:=by omega
   obtain⟨g,hg⟩:∃y,c.g[k]?=some y:=⟨_,List.getElem?_eq_getElem eG⟩
   obtain⟨rK,tc⟩:=List.getElem?_eq_some_iff.1 hg
   have TL:=xcr hg
   have uX:IntKind.i64.wrap ((k:Int)+1)=((k+1:Nat):Int):=by rw[wrap64 (by omega) (by omega)];omega
   rw[WR hg] at hx gh
   obtain⟨k1,se⟩:∃x,k+1=x:=⟨_,rfl⟩
   have hN:CR a (g::c.g.drop k1) k=if g.at_=(a:Int) then some (k,g.ws.length) else CR a (c.g.drop k1) k1:=by rw[← se];rfl
   rw[se,hN] at hx gh
   rw[se] at uX
   obtain⟨gb,CS⟩:∃b,(g.at_==(a:Int))=b:=⟨_,rfl⟩
   refine .skip (.seq (.block (.sr ?_)))
   refine .cs ?_ ?_<;>intro BP
   ·try simp at BP
    rw[BP,beq_iff_eq] at CS
    rw[if_pos CS] at hx
    refine .sr ?_
    refine .seq ?_
    refine .drawn (ms:=[0,0,0,4,0,28,60,124,252,1,515,2047]) (W:=[9]) (items:=[.op 0,.op 1,.op 2,.op 3,.op 4,.op 5,.op 6,.op 7,.op 8,.op 9,.ck 8,.ck 7,.ck 3,.op 10,.op 11]) rfl ae ae ae ?_
    iterate 9 refine .rx ?_
    refine .wr rfl rfl (by decide) (.Jx (cV:=[8,7,3]) rfl rfl rfl rfl eX rfl (⟨⟨dO,_,_,rfl,eX⟩,⟨⟨dO,_,_,rfl,eX⟩,⟨⟨dO,_,_,rfl,eX⟩,trivial⟩⟩⟩) ?_)
    refine .ck rfl dO ?_
    refine .ck rfl dO ?_
    refine .ck rfl dO ?_
    iterate 2 refine .rx ?_
    refine .done (.ret (au ?_))
    first|(rw[← hx];rfl)|(rw[← hx];simp[jL];done)|(rw[← hx];simp[jL];omega)
   try simp at BP
   rw[BP,beq_eq_false_iff_ne] at CS
   rw[if_neg CS] at hx gh
   refine .skip (.rn ?_)
   exact⟨k1,⟨by omega,gh⟩,by omega,bn⟩
  try simp at r6
  obtain rfl:k=c.g.length:=by omega
  rw[List.drop_length] at hx
  refine .exit (.sr ?_)
  refine .ret (au ?_)
  first|(rw[← hx];rfl)|(rw[← hx];simp[jL];done)|(rw[← hx];simp[jL];omega)
 try simp at BO
 have q4:q≠4:=fun h=>by rw[h] at hK;rw[BO,beq_eq_false_iff_ne] at WT;omega
 rw[if_neg q4] at hx
 have hw7:IntKind.i64.wrap (1+(ww:Int))=((1+ww:Nat):Int):=by rw[wrap64 (by omega) (by omega)];omega
 have hK6:K=6:=by omega
 refine .skip (.sr ?_)
 refine .sr ?_
 refine .ret (au ?_)
 first|(rw[← hx];rfl)|(rw[← hx];simp[jL];done)|(rw[← hx];simp[jL];omega)
def wJ (c:aj)(D:List aq)(k:Nat):Int:=((D.take k).map (x7 c)).sum
theorem WW {c:aj}{D:List aq}{k:Nat}{s:aq}(h:D[k]?=some s):wJ c D (k+1)=wJ c D k+x7 c s:=by
 obtain⟨h1,h2⟩:=List.getElem?_eq_some_iff.1 h
 unfold wJ
 rw[List.take_succ_eq_append_getElem h1,h2,List.map_append,List.sum_append]
 simp
theorem z8r {c:aj}(hk:bl c=0)(s:aq):0≤x7 c s∧x7 c s≤100:=by
 unfold x7
 rw[if_pos hk]
 cases hd:aJ c s with
 |none=>simp
 |some v=>
  obtain⟨n,i',w⟩:=v
  have:=kN (gR hk) hd
  simp only
  split<;>omega
theorem WX {c:aj}(hk:bl c=0){D:List aq}:∀ {k:Nat},k≤D.length→0≤wJ c D k∧wJ c D k≤100*(k:Int)
 |0,_=>by unfold wJ;simp
 |k+1,h=>by
  have h1:=WX hk (D:=D) (k:=k) (by omega)
  have h2:=z8r hk D[k]
  rw[WW (List.getElem?_eq_getElem (by omega))]
  omega
theorem WY {c:aj}(hk:bl c=0):BC c:=by
 obtain⟨h1,h2,h3,h4,h5,h6,h7⟩:=Gs hk
 have hm:=(gR hk).HI
 refine⟨by omega,by omega,by omega,by omega,fun x hx=>?_⟩
 rw[List.all_eq_true] at h7
 have:=h7 x hx
 unfold jr at this
 simp only[bS,decide_eq_true_eq] at this
 omega
theorem xdq (a b:Nat):((a:Int)).tmod (b:Int)=((a % b:Nat):Int):=by
 rw[Int.tmod_eq_emod_of_nonneg (by omega)];omega
section
variable [bF]
theorem QX (hN:Names)(c:aj)(l:List sd)(hc:c.c=[])(hB:BC c)(hl:l.length<4611686018427387904)(z6:∀m∈l,Jr m):aN prog 11 [.agg [.int .i64 c.om,.int .i64 c.le,.int .i64 c.tw,.int .i64 c.gl,.int .i64 c.ad,.vec (c.mx.map bk)],ints c.t,.vec (c.g.map bV),.vec (l.map z8)] fun r=>r=.bool true:=by
 have qS:=Qr hN
 have ct:=sB c hB
 have hC:cR c=(cQ c):=rfl
 have v8:=hB.ht
 have hbg:=hB.hg
 have hbm:=hB.hm
 obtain⟨e,he⟩:∃e,bl c=e:=⟨_,rfl⟩
 have dz:=he
 rw[he] at ct
 unfold aH at ct
 rw[hC] at ct
 unfold cQ at ct
 rw[hc] at ct
 obtain⟨b1,kf⟩:∃b,decide (12<(c.t.length:Int))=b:=⟨_,rfl⟩
 obtain⟨b2,cT⟩:∃b,decide (6<(c.g.length:Int))=b:=⟨_,rfl⟩
 obtain⟨b3,nY⟩:∃b,decide (6<(l.length:Int))=b:=⟨_,rfl⟩
 obtain⟨b4,zA⟩:∃b,decide (20<(c.mx.length:Int))=b:=⟨_,rfl⟩
 have QY:decide (12<c.t.length)=b1:=by rw[← kf];exact decide_eq_decide.2 (by omega)
 have QZ:decide (6<c.g.length)=b2:=by rw[← cT];exact decide_eq_decide.2 (by omega)
 have Jy:decide (6<l.length)=b3:=by rw[← nY];exact decide_eq_decide.2 (by omega)
 have Q0:decide (20<c.mx.length)=b4:=by rw[← zA];exact decide_eq_decide.2 (by omega)
 refine .bT func11 rfl rfl ?_
 refine .sr ?_
 refine .seq (.seq (.ay Jf rfl ae (.rn eD _ ?_)))
 refine .split (t:=32) rfl (fun dX=>?_) (fun dX=>?_)
 ·try subst dX
  try simp at dX
  refine .rn [4,5,6,7,8,9,10,11,12,13,14,15,16,17,18] [] ?_
  refine .done (.eA rfl (.seq ?_))
  refine .ay [0,1] rfl ae ?_
  refine .pc rfl rfl rfl rfl rfl call20 (qS) ?_
  refine .rn [1] [] ?_
  refine .done (.ret (au ?_))
  exact zk
 try subst dX
 try simp at dX
 refine .rn [4,5,6,7,8] _ ?_
 refine .split (t:=37) rfl (fun nK=>?_) (fun nK=>?_)
 ·try subst nK
  try simp at nK
  refine .rn [9,10,11,12,13,14,15,16,17,18] [] ?_
  refine .done (.eA rfl (.seq ?_))
  refine .ay [0,1] rfl ae ?_
  refine .pc rfl rfl rfl rfl rfl call20 (qS) ?_
  refine .rn [1] [] ?_
  refine .done (.ret (au ?_))
  exact zk
 try subst nK
 try simp at nK
 refine .rn [9,10,11,12,13] _ ?_
 refine .split (t:=42) rfl (fun Cx=>?_) (fun Cx=>?_)
 ·try subst Cx
  try simp at Cx
  refine .rn [14,15,16,17,18] [] ?_
  refine .done (.eA rfl (.seq ?_))
  refine .ay [0,1] rfl ae ?_
  refine .pc rfl rfl rfl rfl rfl call20 (qS) ?_
  refine .rn [1] [] ?_
  refine .done (.ret (au ?_))
  exact zk
 try subst Cx
 try simp at Cx
 have hl6:l.length≤6:=by have:=of_decide_eq_false Jy;omega
 refine .rn [14,15,16,17,18] [] ?_
 refine .done ?_
 refine .cs ?_ ?_<;>intro A0
 ·try simp at A0
  refine .seq (.ay [0,1] rfl ae ?_)
  refine .pc rfl rfl rfl rfl rfl call20 (qS) ?_
  refine .rn [1] [] ?_
  refine .done (.ret (au ?_))
  exact zk
 try simp at A0
 refine .skip (.sr ?_)
 refine .seq (.seq ?_)
 refine .rec (aA:=[(1,ints c.t),(3,.vec (l.map z8)),(9,.ptr 1 0)]) (aV:=⟨2,[(1,.box [.int .i64 c.om,.int .i64 c.le,.int .i64 c.tw,.int .i64 c.gl,.int .i64 c.ad,.vec (c.mx.map bk),ints c.t,.vec (c.g.map bV),ints ([]:List Int)])]⟩) bn ?_
 refine .ay [0,1,2] rfl ae (.rn [0] _ ?_)
 refine .pc rfl rfl rfl rfl rfl call55 (ct) ?_
 refine .rn [2] [] ?_
 refine .done ?_
 refine .cs ?_ ?_<;>intro Q1
 ·try simp at Q1
  refine .seq (.ay [0,1] rfl ae ?_)
  refine .pc rfl rfl rfl rfl rfl call20 (qS) ?_
  refine .rn [1] [] ?_
  refine .done (.ret (au ?_))
  exact zk
 try simp at Q1
 subst Q1
 obtain⟨bo,oh⟩:Rt c∧c.t.length≤48:=⟨gR dz,(gR dz).tl⟩
 clear kf cT nY zA QY QZ Jy Q0 hB
 refine .skip (.sr ?_)
 refine .sr ?_
 refine .sr ?_
 refine .seq (.sr ?_)
 refine .block ?_
 refine .dw (fun z:Nat×Nat×Nat×List aq=>([(1,ints c.t),(3,.vec (l.map z8)),(9,.ptr 1 0),(10,.grow 2 z.2.2.2.length true),(11,.int .i64 z.2.1),(12,.int .i64 z.2.2.1),(13,.int .i64 z.1)],⟨3,[(2,.grow 5 (z.2.2.2.map encS)),(1,.box [.int .i64 c.om,.int .i64 c.le,.int .i64 c.tw,.int .i64 c.gl,.int .i64 c.ad,.vec (c.mx.map bk),ints c.t,.vec (c.g.map bV),ints ([]:List Int)])]⟩)) (fun z=>z.1≤l.length∧z.2.1≤c.t.length∧z.2.2.1≤51*z.1∧z.2.2.2.length≤z.1∧z.2.2.2++pD c (l.drop z.1) z.2.1 z.2.2.1=pD c l 0 0) (fun z=>l.length - z.1) (0,0,0,[]) ⟨Nat.zero_le _,Nat.zero_le _,Nat.le_refl _,Nat.le_refl _,rfl⟩ bn ?_
 rintro⟨k,i,j,D⟩ ⟨eG,hi,hj,hD,hG⟩
 simp only at eG hi hj hD hG ⊢
 refine .seq (.sr ?_)
 refine .cs ?_ ?_<;>intro kj
 ·try simp at kj
  have gh:k<l.length:=by omega
  obtain⟨m,hm⟩:∃m,l[k]?=some m:=⟨_,List.getElem?_eq_getElem gh⟩
  obtain⟨cj,ig⟩:=List.getElem?_eq_some_iff.1 hm
  have WZ:=z6 m (List.mem_of_getElem? hm)
  have jc:z8 m=.agg [.int .u8 m.after,.int .u8 m.kind,.int .u8 m.im,.int .u16 m.word]:=rfl
  have CT:l.drop k=m::l.drop (k+1):=by rw[← ig];exact List.drop_eq_getElem_cons cj
  rw[CT] at hG
  obtain⟨o,ho⟩:∃o,min (m.after % 4) (c.t.length - i)=o:=⟨_,rfl⟩
  obtain⟨x,hx⟩:∃x,tQ c m (i+o) (j+o)=x:=⟨_,rfl⟩
  have BQ:=p56 c m (i+o) (j+o) dz WZ (by omega) (by omega)
  rw[hx] at BQ
  have Jz:=fun h=>WM dz (show i+o≤c.t.length by omega) hx h
  have tA:=fun h=>WN (r:=l.drop (k+1)) ho hx h
  have rK:=fun h=>WO (r:=l.drop (k+1)) ho hx h
  have w0:IntKind.i64.wrap (m.after:Int)=(m.after:Int):=by have:=WZ.a;exact wrap64 (by omega) (by omega)
  have t4:(m.after:Int).tmod 4=((m.after % 4:Nat):Int):=xdq m.after 4
  have w1:IntKind.i64.wrap ((c.t.length:Int) - (i:Int))=((c.t.length - i:Nat):Int):=by rw[wrap64 (by omega) (by omega)];omega
  obtain⟨A,hA⟩:∃A,m.after % 4=A:=⟨_,rfl⟩
  obtain⟨B,hBb⟩:∃B,c.t.length - i=B:=⟨_,rfl⟩
  rw[hA] at ho t4
  rw[hBb] at ho w1
  have nV:(if B<A then (B:Int) else (A:Int))=(o:Int):=by split<;>omega
  have w2:IntKind.i64.wrap ((i:Int)+(o:Int))=((i+o:Nat):Int):=by rw[wrap64 (by omega) (by omega)];omega
  have w3:IntKind.i64.wrap ((j:Int)+(o:Int))=((j+o:Nat):Int):=by rw[wrap64 (by omega) (by omega)];omega
  have w4:=fA k
  obtain⟨s,bg,many⟩:=x
  simp only at BQ Jz tA rK
  obtain⟨jo,hjo⟩:∃x,j+o=x:=⟨_,rfl⟩
  obtain⟨io,hio⟩:∃x,i+o=x:=⟨_,rfl⟩
  rw[hjo] at BQ w3 Jz rK
  rw[hio] at BQ w2 Jz
  have IS:encS s=.agg [.int .i64 s.k,.int .i64 s.a,.int .i64 s.i,.int .i64 s.l,.int .i64 s.w]:=rfl
  obtain⟨zb,JA⟩:∃b,(s.k==0)=b:=⟨_,rfl⟩
  unfold aH at BQ
  rw[hC] at BQ
  unfold cQ at BQ
  rw[hc] at BQ
  have Is:D.length+1≤4294967296:=by omega
  have It:D.length≤4294967295:=by omega
  rw[IS] at BQ
  rw[jc] at BQ
  refine .skip (.seq (.block (.sr ?_)))
  refine .seq ?_
  refine .tf (ms:=[0,0,0,6,14,0,0,96,0,0,768,2047,4095,8191,8191,8191,0,81919,229375,524287]) (W:=[11,17]) (As:=[16]) (items:=[.op 0,.op 1,.op 2,.op 3,.op 4,.op 5,.op 6,.op 7,.op 8,.op 9,.op 10,.op 16,.op 11,.op 12,.op 13,.op 14,.op 15,.op 17,.op 18,.op 19]) rfl ae ae ae ae (by decide) ?_
  iterate 11 refine .rf ?_
  refine .al rfl rfl (by decide) (by decide) (by decide) (by decide) eX ?_
  refine .wr rfl rfl (by decide) (.pure rfl rfl rfl call56 (by decide) (BQ) (by first|rfl|simp[*]) ?_)
  rintro _ rfl
  iterate 4 refine .rf ?_
  refine .wr rfl rfl (by decide) (.dH eX (by decide) ?_)
  iterate 2 refine .rf ?_
  refine .done (.seq (.sr ?_))
  refine .cs ?_ ?_<;>intro uy
  ·try simp at uy
   have h0:s.k=0:=by rw[uy,beq_iff_eq] at JA;exact JA
   rw[tA h0] at hG
   refine .exit (.rn ?_)
   refine⟨(k+1,i,j,D),⟨by simp only;omega,hi,by simp only;omega,by simp only;omega,hG⟩,by simp only;omega,bn⟩
  try simp at uy
  have h0:s.k≠0:=fun h=>by rw[h] at JA;rw[uy] at JA;cases JA
  rw[rK h0] at hG
  obtain⟨d1,d2,d3,d4,p,w,d5,d6⟩:=Jz h0
  have ud:=(kN bo d5).2.2.2.2.2
  clear h0 Jz tA rK
  have f1:jo+many≤51*(k+1):=by omega
  have f2:D.length+1≤k+1:=by omega
  have f3:l.length - (k+1)<l.length - k:=by omega
  have f4:k+1≤l.length:=by omega
  have w5:IntKind.i64.wrap ((jo:Int)+(many:Int))=((jo+many:Nat):Int):=by rw[wrap64 (by omega) (by omega)];omega
  refine .skip (.sr ?_)
  refine .sr ?_
  refine .rn ?_
  refine .rn ?_
  refine⟨(k+1,bg,jo+many,D++[s]),⟨f4,d4,f1,by simp only[List.length_append,List.length_singleton];exact f2,by rw[List.append_assoc];exact hG⟩,f3,?_⟩
  simp only[List.map_append,List.map_cons,List.map_nil,IS]
  exact(.mk [] [(2,5)] ia ix rfl rfl rfl)
 try simp at kj
 obtain rfl:k=l.length:=by omega
 rw[List.drop_length] at hG
 have hG:D=pD c l 0 0:=by rw[← hG];exact(List.append_nil D).symm
 obtain⟨ow,n,t1,t2,t3,t4,t5⟩:=z5k dz l (by omega)
 rw[← hG] at t1 t2 t5
 clear hG
 have GA:=p53 c D (WY dz) (by omega)
 rw[t1,t2] at GA
 have GA:=aN.soft GA (by simp[PV.aG,PV.aF])
 have Ms:BC { c with c:=ow }:=⟨hbm,v8,by show ow.length<_;omega,hbg,(WY dz).hw⟩
 have ct:=sB { c with c:=ow } Ms
 have tO:=U2 { c with c:=ow } D Ms (by omega)
 have pC:=Ib { c with c:=ow } Ms
 have EX:=fun s=>p52 { c with c:=ow } s Ms
 have Me:cR { c with c:=ow }=[.int .i64 c.om,.int .i64 c.le,.int .i64 c.tw,.int .i64 c.gl,.int .i64 c.ad,.vec (c.mx.map bk),ints c.t,.vec (c.g.map bV),ints ow]:=rfl
 obtain⟨e1,gn⟩:∃e,bl { c with c:=ow }=e:=⟨_,rfl⟩
 rw[gn] at ct t4 t5
 unfold aH at GA ct tO pC EX
 rw[hC] at GA
 unfold cQ at GA
 rw[hc] at GA
 rw[Me] at ct tO pC EX
 obtain⟨lo,cg⟩:∃b,decide (48<(ow.length:Int))=b:=⟨_,rfl⟩
 have kY:decide (48<ow.length)=lo:=by rw[← cg];exact decide_eq_decide.2 (by omega)
 refine .exit (.seq ?_)
 refine .rec (aA:=[(1,ints c.t),(3,.vec (l.map z8)),(9,.ptr 1 0),(10,.vec (D.map encS))]) (aV:=⟨3,[(1,.box [.int .i64 c.om,.int .i64 c.le,.int .i64 c.tw,.int .i64 c.gl,.int .i64 c.ad,.vec (c.mx.map bk),ints c.t,.vec (c.g.map bV),ints ([]:List Int)])]⟩) (.mk [2] [] ia ix rfl rfl rfl) ?_
 refine .ay mC rfl ae (.rn [0,1] _ ?_)
 refine .pc rfl rfl rfl rfl rfl call53 (GA) ?_
 refine .rn [3,4,5,6,7] [] ?_
 refine .done (.seq (.sr ?_))
 refine .cs ?_ ?_<;>intro gM
 ·try simp at gM
 try simp at gM
 refine .skip (.sr ?_)
 refine .seq (.seq (.ay [0,1,2] rfl ae (.rn [0] _ ?_)))
 refine .pc rfl rfl rfl rfl rfl call55 (ct) ?_
 refine .rn [2] [] ?_
 refine .done ?_
 refine .cs ?_ ?_<;>intro mV
 ·try simp at mV
  have h0:e1≠0:=fun h=>by rw[h] at mV;simp at mV
  have yav:lo=true:=by rw[← kY];exact decide_eq_true (t4 h0)
  refine .seq (.ay ik rfl ae ?_)
  refine .pc rfl rfl rfl rfl rfl call20 (qS) ?_
  refine .rn [1] _ ?_
  refine .split (t:=118) rfl (fun ee=>?_) (fun ee=>?_)
  ·try subst ee
   try simp at ee
   refine .rn [2,3,4,5,6] [] ?_
   refine .done (.ret (au ?_))
   exact zk
  try subst ee
  try simp at ee
 try simp at mV
 subst mV
 obtain⟨t6,t7,t8,t9⟩:=t5 rfl
 rw[t6,gn] at tO
 rw[gn] at pC
 simp only[if_true,Option.getD_some,Option.isSome_some] at tO pC
 obtain⟨L,hL⟩:∃L,du { c with c:=ow }=L:=⟨_,rfl⟩
 rw[show aX { c with c:=ow } ({ c with c:=ow }:aj).t.length ({ c with c:=ow }:aj).c.length=L from hL] at pC
 rw[hL] at t7
 have AA:decide (L≤n)=true:=decide_eq_true t7
 obtain⟨c1,iC⟩:∃c1:aj,{ c with c:=ow }=c1:=⟨_,rfl⟩
 rw[iC] at t8 t9 EX gn
 have CP:n=wJ c1 D D.length:=by unfold wJ;rw[List.take_length];exact t8
 have hD6:D.length≤6:=by omega
 refine .skip (.seq (.ay fM rfl ae (.rn [0,1] _ ?_)))
 refine .pc rfl rfl rfl rfl rfl call40 (tO) ?_
 refine .rn [3,4,5,6,7,8,9] [] ?_
 refine .done (.seq (.ay ik rfl ae ?_))
 refine .rn [0] _ ?_
 refine .pc rfl rfl rfl rfl rfl call43 (pC) ?_
 refine .rn [2,3,4,5,6] [] ?_
 refine .done (.sr ?_)
 refine .seq (.sr ?_)
 refine .block ?_
 refine .dw (fun k:Nat=>([(9,.ptr 1 0),(10,.vec (D.map encS)),(20,.int .i64 n),(21,.bool true),(22,.int .i64 0),(23,.int .i64 L),(24,.int .i64 0),(25,.int .i64 (wJ c1 D k)),(26,.int .i64 k)],⟨3,[(1,.box [.int .i64 c.om,.int .i64 c.le,.int .i64 c.tw,.int .i64 c.gl,.int .i64 c.ad,.vec (c.mx.map bk),ints c.t,.vec (c.g.map bV),ints ow])]⟩)) (fun k=>k≤D.length) (fun k=>D.length - k) 0 (Nat.zero_le _) bn ?_
 rintro k hkD
 simp only at hkD ⊢
 refine .seq (.sr ?_)
 refine .cs ?_ ?_<;>intro sc
 ·try simp at sc
  have ki:k<D.length:=by omega
  obtain⟨s,hs⟩:∃s,D[k]?=some s:=⟨_,List.getElem?_eq_getElem ki⟩
  obtain⟨rp,gy⟩:=List.getElem?_eq_some_iff.1 hs
  have IS:∀s:aq,encS s=.agg [.int .i64 s.k,.int .i64 s.a,.int .i64 s.i,.int .i64 s.l,.int .i64 s.w]:=fun _=>rfl
  have EX:=EX s
  rw[t9 s (List.mem_of_getElem? hs),IS] at EX
  have hS:=WW (c:=c1) hs
  have hb:=WX gn (D:=D) (k:=k+1) (by omega)
  rw[hS] at hb
  have w6:IntKind.i64.wrap (wJ c1 D k+x7 c1 s)=wJ c1 D (k+1):=by rw[hS];exact wrap64 (by omega) (by omega)
  have w7:=fA k
  refine .skip (.seq (.block (.seq ?_)))
  refine .drawn (ms:=[0,0,0,6,14,31,63,127,127,255,1023]) (W:=[5]) (items:=yf) rfl ae ae ae ?_
  iterate 5 refine .rx ?_
  refine .wp rfl rfl rfl rfl rfl call52 (EX) ?_
  iterate 5 refine .rx ?_
  refine .done (.seq (.sr ?_))
  refine .cs ?_ ?_<;>intro JB
  ·try simp at JB
  try simp at JB
  refine .skip (.rn ?_)
  refine .rn ?_
  refine⟨k+1,bp,bp,bn⟩
 try simp at sc
 obtain rfl:k=D.length:=by omega
 have yaw:wJ c1 D D.length=n:=CP.symm
 clear CP t8
 refine .exit (.seq (.ay [0,1,2,3,4,5,6,7,8,9,10,11,12,13,14,15,16,17,18,19,20,21,22] rfl ae ?_))
 refine .pc rfl rfl rfl rfl rfl call20 (qS) ?_
 refine .rn [1] _ ?_
 refine .split (t:=156) rfl (fun y3=>?_) (fun y3=>?_)
 ·try subst y3
  try simp at y3
  refine .rn [2,3,4,5] _ ?_
  refine .split (t:=160) rfl (fun ng=>?_) (fun ng=>?_)
  ·try subst ng
   try simp at ng
   refine .rn [6,7,8,9] _ ?_
   refine .split (t:=164) rfl (fun y4=>?_) (fun y4=>?_)
   ·try subst y4
    try simp at y4
    refine .rn [10,11,12] _ ?_
    refine .split (t:=167) rfl (fun ot=>?_) (fun ot=>?_)
    ·try subst ot
     try simp at ot
     refine .rn [13,14,15,16,17] _ ?_
     refine .split (t:=172) rfl (fun oE=>?_) (fun oE=>?_)
     ·try subst oE
      try simp at oE
      refine .rn [18,19,20,21,22] [] ?_
      refine .done (.ret (au ?_))
      exact zk
     try subst oE
     try simp at oE
    try subst ot
    try simp at ot
   try subst y4
   try simp at y4
  try subst ng
  try simp at ng
 try subst y3
 try simp at y3
theorem p11 (hN:Names)(a b d e f:Int)(m:List gZ)(t:List Int)(g:List lj)(l:List sd)(hm:m.length<4611686018427387904)(ht:t.length<4611686018427387904)(hg:g.length<4611686018427387904)(hw:∀x∈g,x.ws.length<4611686018427387904)(hl:l.length<4611686018427387904)(hk:∀x∈l,Jr x) :
  aN prog 11 [.agg [.int .i64 a,.int .i64 b,.int .i64 d,.int .i64 e,.int .i64 f,.vec (m.map bk)],ints t,.vec (g.map bV),.vec (l.map z8)] fun r=>r=.bool true:=
 QX hN ⟨a,b,d,e,f,m,t,g,[]⟩ l rfl ⟨hm,ht,(show (0:Nat)<4611686018427387904 by decide),hg,hw⟩ hl hk
end
end Go.Am.Sl
end
