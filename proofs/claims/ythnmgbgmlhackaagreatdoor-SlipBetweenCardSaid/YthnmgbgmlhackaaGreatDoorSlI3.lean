/-
 What is used in the proof of a statement (part SlI3); no condition.
-/
import Derived.Test.YthnmgbgmlhackaaGreatDoorSlH
import Derived.Test.YthnmgbgmlhackaaGreatDoorSlK0
import Derived.Test.YthnmgbgmlhackaaGreatDoorSlI0
import Derived.Test.YthnmgbgmlhackaaGreatDoorSlI1
set_option linter.all false
set_option maxHeartbeats 40000000
set_option maxRecDepth 100000
section
namespace Go.Am.Sl
open Go Go.Am Go.Proofs Tryz
attribute [local simp] eQ ij pV dH gk mz ai.back cS fW lg bm Nat.testBit_eq_decide_div_mod_eq cC iE mw vO ph gF pj iP cU nG nF pe gG pf n4 lZ pT n3 pg o7 o4 o8 o5 o6 o9 pa mR eZ jW eP pn nH oc po pq mQ pR pS gE my fK fy fL kV gg nS nv ny jF oR bj nZ fx bP bK lD ai.get ai.alloc ai.put ai.drop ai.empty bt cZ iw jn gA cz chunk List.range List.range.loop lh pW l9 bI b6 PV.aG PV.aF PV.dc PV.fu gY gH od PV.one PV.ids PV.cF gI beq_eq qD rE
attribute [local simp] cQ bQ fN pZ Bz ti p7 p9 pw gJ fI
attribute [local simp ↓ high] sD rJ
attribute [local simp] cQ bQ fN pZ ti p7 p9 pw gJ fI
variable [bF] in
theorem p38 (l:List aq):aN prog 38 [.vec (l.map encS)] fun r=>r=.bool (decide (l.length≤120)):=by
 refine .bT func38 rfl rfl ?_
 refine .sr ?_
 refine .sr ?_
 refine .ret (au ?_)
 refine congrArg PV.bool ?_
 rw[Bool.eq_iff_iff]
 simp only[decide_eq_true_eq]
 omega
end Go.Am.Sl
end
section
namespace Go.Am.Sl
def BB (D:Nat→Nat→Int)(x:aK):Nat→Nat→Int:=bB D x.i' x.j' (min (D x.i' x.j') (D x.i x.j+x.n))
def Gt (L:List aK):Nat→Nat→Int:=L.foldl BB (bB (fun _ _=>1073741824) 0 0 0)
abbrev j4:Int:=1073741824
theorem zy1 (l:List aK):∀ {o:lJ} {k:Nat},lK o k→100*(k:Int)+100*(l.length:Int)+100≤j4→(∀x∈l,0≤x.n∧x.n≤100)→l.foldl BB (val j4 o)=val j4 (zN o l):=by
 induction l with
 |nil=>exact fun _ _ _=>rfl
 |cons x r ih=>
  intro o k h hf hx
  have h1:=hx x List.mem_cons_self
  have Lu:=fun y hy=>hx y (List.mem_cons_of_mem _ hy)
  simp only[List.length_cons,j4] at hf
  rw[List.foldl_cons]
  have:BB (val j4 o) x=val j4 (mF o x):=by
   unfold BB
   rw[Un h (by simp only[j4];omega) h1.1 h1.2]
  rw[this]
  exact ih (h.mF h1.1 h1.2) (by simp only[j4];omega) Lu
theorem zwm:bB (fun _ _=>(1073741824:Int)) 0 0 0=val j4 start:=by
 funext a b
 unfold bB val start
 split<;>rfl
structure Sub (c:aj) (L:List aK):Prop where
  sub:L.Sublist (graph c)
theorem Sub.mem {c:aj}{L:List aK}(h:Sub c L){x:aK}(hx:x∈L):x∈graph c:=h.sub.subset hx
theorem Sub.len {c:aj}{L:List aK}(h:Sub c L)(hr:Rt c):L.length≤139258:=Nat.le_trans h.sub.length_le (Il hr)
theorem Sub.filter {c:aj}{L:List aK}(h:Sub c L)(p:aK→Bool):Sub c (L.filter p):=⟨List.filter_sublist.trans h.sub⟩
theorem Sub.graph (c:aj):Sub c (graph c):=⟨List.Sublist.refl _⟩
theorem Sub.BD {c:aj}{L:List aK}(h:Sub c L)(hr:Rt c):lK (mg L) 139258:=by
 have h1:=(lK.foldl (l:=L) lK.start fun x hx=>Im hr x (h.mem hx))
 exact h1.mono (by have:=h.len hr;omega)
theorem V7 {c:aj}(hr:Rt c){L:List aK}(h:Sub c L):Gt L=val j4 (mg L):=by
 unfold Gt
 rw[zwm]
 have:=h.len hr
 exact zy1 L lK.start (by simp only[j4];omega) fun x hx=>Im hr x (h.mem hx)
theorem V8 {c:aj}(hr:Rt c){L:List aK}(h:Sub c L){a b:Nat}(aP:Gt L a b<j4):∃w,Way L 0 0 a b (Gt L a b) w:=by
 rw[V7 hr h] at aP ⊢
 obtain⟨v,hv⟩:=(Mg (h.BD hr) (by simp only[j4];omega)).1 aP
 rw[F7 hv]
 exact Ux hv
theorem V9 {c:aj}(hr:Rt c)(p:aK→Bool){a b:Nat}:(Gt ((graph c).filter p) a b<j4↔fwd c p a b<iB)∧(fwd c p a b<iB→Gt ((graph c).filter p) a b=fwd c p a b):=by
 have hs:=(Sub.graph c).filter p
 rw[V7 hr hs,Uo hr p]
 refine⟨by rw[Mg (hs.BD hr) (by simp only[j4];omega),Mg (hs.BD hr) (by simp only[iB];omega)],fun h=>?_⟩
 obtain⟨v,hv⟩:=(Mg (hs.BD hr) (by simp only[iB];omega)).1 h
 rw[F7 hv,F7 hv]
theorem Way.mono {L K:List aK}{i j a b:Nat}{n:Int}{w:List aK}(h:Way L i j a b n w)(hw:∀x∈w,x∈K):Way K i j a b n w:=by
 induction h with
 |nil i j=>exact .nil i j
 |cons x hx h ih=>exact .cons x (hw x List.mem_cons_self) (ih fun y hy=>hw y (List.mem_cons_of_mem _ hy))
theorem Way.I9 {L:List aK}{i j a b:Nat}{n:Int}{w:List aK}(h:Way L i j a b n w):∀x∈w,x∈L:=by
 induction h with
 |nil i j=>exact fun x hx=>by cases hx
 |cons x hx h ih=>
  intro y hy
  rcases List.mem_cons.1 hy with rfl|hy
  ·exact hx
  exact ih y hy
theorem xdk {c:aj}(hr:Rt c)(p:aK→Bool):du c≤fwd c p c.t.length c.c.length:=by
 have hs:=(Sub.graph c).filter p
 by_cases h:fwd c p c.t.length c.c.length<iB
 ·obtain⟨h3,h4⟩:=V9 hr p (a:=c.t.length) (b:=c.c.length)
  obtain⟨w,hw⟩:=V8 hr hs (h3.2 h)
  rw[h4 h] at hw
  exact Er hr (hw.mono fun x hx=>(List.mem_filter.1 (hw.I9 x hx)).1)
 have h0:=(Bf hr (Nat.le_refl c.t.length) (Nat.le_refl c.c.length)).2.2
 have:=hr.tl;have:=hr.cl
 unfold du
 simp only[iB] at h
 omega
theorem Qu {c:aj}(hr:Rt c){s:aq}{n:Int}{i':Nat}{w:List Int}(hd:aJ c s=some (n,i',w))(hh:hasB c s.i.toNat w=true):(⟨s.a.toNat,s.i.toNat,i',s.i.toNat+w.length,n,some s⟩:aK)∈graph c:=by
 have h1:=UJ hd hh
 have h2:=(kN hr hd).2.1
 have h3:=Uc hh
 exact zO (by omega) (by omega) h1
theorem xhz {c:aj}(hr:Rt c){s:aq}{v:Int}(h:rQ c s=some v):0≤v:=by
 unfold rQ at h
 split at h
 ·rename_i n i' w hd
  split at h
  ·rename_i hb
   injection h with h
   have:=z4n hr (Qu hr hd hb)
   unfold du at this
   simp only at this
   omega
  cases h
 cases h
theorem xh3 {c:aj}(hr:Rt c)(s:aq):aX c c.t.length c.c.length≤nO c s:=xdk hr _
abbrev Pr:=Int×Int
def nj (bg:Int)(p:Pr)(n:Int):Pr:=if bg≤n∨n=p.1∨n=p.2 then p else if n<p.1 then (n,p.1) else (p.1,min p.2 n)
def dI (D:Nat→Nat→Pr)(i j:Nat)(v:Pr):Nat→Nat→Pr:=fun a b=>if a=i∧b=j then v else D a b
def fC (bg:Int)(D:Nat→Nat→Pr)(x:aK):Nat→Nat→Pr:=dI D x.i' x.j' (nj bg (nj bg (D x.i' x.j') ((D x.i x.j).1+x.n)) ((D x.i x.j).2+x.n))
def r7 (bg:Int):Nat→Nat→Pr:=dI (fun _ _=>(bg,bg)) 0 0 (0,bg)
def iW (bg:Int)(L:List aK):Nat→Nat→Pr:=L.foldl (fC bg) (r7 bg)
def BE (bg:Int)(p:Pr):Prop:=(p.1<p.2∨p=(bg,bg))∧0≤p.1∧p.1≤bg∧p.2≤bg
def qQ (p:Pr)(v:Int):Prop:=v=p.1∨v=p.2∨p.2<v
theorem Mh {bg:Int}{p:Pr}{n:Int}(h:BE bg p)(hn:0≤n):BE bg (nj bg p n):=by
 obtain⟨h1,h2,h3,h4⟩:=h
 unfold nj
 split
 ·exact⟨h1,h2,h3,h4⟩
 rename_i hc
 have GY:¬bg≤n∧¬n=p.1∧¬n=p.2:=by omega
 split
 ·exact⟨.inl (by assumption),hn,by simp only;omega,h3⟩
 refine⟨.inl ?_,h2,h3,by simp only;omega⟩
 rcases h1 with h1|h1
 ·simp only;omega
 have e1:p.1=bg:=by rw[h1]
 have e2:p.2=bg:=by rw[h1]
 simp only;omega
theorem Qv {bg:Int}{p:Pr}{n v:Int}(h:BE bg p)(hv:qQ p v):qQ (nj bg p n) v:=by
 obtain⟨h1,h2,h3,h4⟩:=h
 unfold nj
 split
 ·exact hv
 rename_i hc
 have h5:p.1<p.2∨p.1=bg∧p.2=bg:=by
  rcases h1 with h1|h1
  ·exact .inl h1
  exact .inr ⟨by rw[h1],by rw[h1]⟩
 unfold qQ at *
 split
 ·simp only;omega
 simp only;omega
theorem Wa {bg:Int}{p:Pr}{n:Int}(hn:n<bg):qQ (nj bg p n) n:=by
 unfold nj
 split
 ·unfold qQ;omega
 unfold qQ
 split
 ·exact .inl rfl
 simp only;omega
theorem Wb {bg:Int}{p:Pr}{n v:Int}(h:v=(nj bg p n).1∨v=(nj bg p n).2):(v=p.1∨v=p.2)∨v=n:=by
 unfold nj at h
 split at h
 ·exact .inl h
 split at h
 ·simp only at h;omega
 simp only at h;omega
def oH (bg:Int)(D:Nat→Nat→Pr):Prop:=∀a b,BE bg (D a b)
theorem Qw {bg:Int}{D:Nat→Nat→Pr}{x:aK}(h:oH bg D)(hn:0≤x.n):oH bg (fC bg D x):=fun a b=>by
 unfold fC dI
 split
 ·have h1:=h x.i x.j
  have h2:0≤(D x.i x.j).2:=by
   obtain⟨g1,g2,g3,g4⟩:=h1
   rcases g1 with g1|g1
   ·omega
   rw[g1] at g2 ⊢;exact g2
  exact Mh (Mh (h _ _) (by have:=h1.2.1;omega)) (by omega)
 exact h a b
theorem z3u {bg:Int}{D:Nat→Nat→Pr}{x:aK}(h:oH bg D)(hn:0≤x.n){a b:Nat}{v:Int}(hv:qQ (D a b) v):qQ (fC bg D x a b) v:=by
 unfold fC dI
 split
 ·rename_i iL
  obtain⟨rfl,rfl⟩:=iL
  exact Qv (Mh (h _ _) (by have:=(h x.i x.j).2.1;omega)) (Qv (h _ _) hv)
 exact hv
theorem Mi {bg:Int}:∀ {l:List aK} {D:Nat→Nat→Pr},(∀x∈l,0≤x.n)→oH bg D→oH bg (l.foldl (fC bg) D)
 |[],_,_,h=>h
 |x::l,D,hx,h=>Mi (l:=l) (fun y hy=>hx y (List.mem_cons_of_mem _ hy)) (Qw h (hx x List.mem_cons_self))
theorem Qx {bg:Int}:∀ {l:List aK} {D:Nat→Nat→Pr} {a b:Nat} {v:Int},(∀x∈l,0≤x.n)→oH bg D→qQ (D a b) v→qQ (l.foldl (fC bg) D a b) v
 |[],_,_,_,_,_,_,h=>h
 |x::l,D,a,b,v,hx,ho,h=>Qx (l:=l) (fun y hy=>hx y (List.mem_cons_of_mem _ hy)) (Qw ho (hx x List.mem_cons_self)) (z3u ho (hx x List.mem_cons_self) h)
theorem Wc {bg:Int}:∀ {l:List aK} {D:Nat→Nat→Pr} {a b:Nat},(∀x∈l,¬(a=x.i'∧b=x.j'))→l.foldl (fC bg) D a b=D a b
 |[],D,a,b,_=>rfl
 |x::l,D,a,b,h=>by
  rw[List.foldl_cons,Wc fun y hy=>h y (List.mem_cons_of_mem _ hy)]
  unfold fC dI
  rw[if_neg (h x List.mem_cons_self)]
theorem Wd {bg:Int}:∀ {l:List aK} {D:Nat→Nat→Pr},BF l→(∀x∈l,0≤x.n)→oH bg D→∀x∈l,∀v,(v=(l.foldl (fC bg) D x.i x.j).1∨v=(l.foldl (fC bg) D x.i x.j).2)→v+x.n<bg→qQ (l.foldl (fC bg) D x.i' x.j') (v+x.n)
 |[],_,_,_,_,x,hx,_,_,_=>by cases hx
 |y::l,D,hs,hn,ho,x,hx,v,hv,hf=>by
  have Gi:=fun z hz=>hn z (List.mem_cons_of_mem y hz)
  have lz:=Qw ho (hn y List.mem_cons_self)
  rcases List.mem_cons.1 hx with rfl|hx
  ·have gC:∀z∈x::l,¬(x.i=z.i'∧x.j=z.j'):=fun z hz he=>by
    have h1:=hs.on z hz
    rcases List.mem_cons.1 hz with rfl|hz
    ·rw[he.1,he.2] at h1
     rw[← he.1,← he.2] at h1
     rcases h1 with h1|⟨_,h1⟩<;>omega
    have h2:=(List.pairwise_cons.1 hs.up).1 z hz
    exact h2 (by rw[he.1,he.2];exact h1)
   rw[Wc gC] at hv
   rw[List.foldl_cons]
   refine Qx Gi lz ?_
   unfold fC dI
   rw[if_pos ⟨rfl,rfl⟩]
   have h1:=(ho x.i x.j).2.1
   have h0:=hn x List.mem_cons_self
   rcases hv with rfl|rfl
   ·exact Qv (Mh (ho _ _) (by omega)) (Wa hf)
   exact Wa hf
  rw[List.foldl_cons] at hv ⊢
  exact Wd hs.tail Gi lz x hx v hv hf
theorem We {bg:Int}{L:List aK}:∀ {l:List aK} {D:Nat→Nat→Pr},(∀x∈l,x∈L∧0≤x.n)→(∀a b v,(v=(D a b).1∨v=(D a b).2)→v<bg→∃w,Way L 0 0 a b v w)→∀a b v,(v=(l.foldl (fC bg) D a b).1∨v=(l.foldl (fC bg) D a b).2)→v<bg→∃w,Way L 0 0 a b v w
 |[],D,_,hD,a,b,v,h,hv=>hD a b v h hv
 |x::l,D,hl,hD,a,b,v,h,hv=>by
  refine We (l:=l) (D:=fC bg D x) (fun y hy=>hl y (List.mem_cons_of_mem _ hy)) (fun a b v hv hf=>?_) a b v h hv
  unfold fC dI at hv
  split at hv
  ·rename_i iL
   obtain⟨rfl,rfl⟩:=iL
   obtain⟨hxL,vM⟩:=hl x List.mem_cons_self
   have key:∀u,(u=(D x.i x.j).1∨u=(D x.i x.j).2)→v=u+x.n→∃w,Way L 0 0 x.i' x.j' v w:=fun u hu e=>by
    obtain⟨w,hw⟩:=hD x.i x.j u hu (by omega)
    exact⟨w++[x],e▸hw.snoc hxL rfl rfl⟩
   rcases Wb hv with h1|h1
   ·rcases Wb h1 with h2|h2
    ·exact hD _ _ _ h2 hf
    exact key _ (.inl rfl) h2
   exact key _ (.inr rfl) h1
  exact hD a b v hv hf
structure Wf (bg:Int) (L:List aK) (D:Nat→Nat→Pr):Prop where
  ord:oH bg D
  snd:∀a b v,(v=(D a b).1∨v=(D a b).2)→v<bg→∃w,Way L 0 0 a b v w
  Wg:∀a b v w,Way L 0 0 a b v w→v<bg→qQ (D a b) v
theorem xe7 {L:List aK}(hn:∀x∈L,0≤x.n){i j a b:Nat}{n:Int}{w:List aK}(h:Way L i j a b n w):0≤n:=by
 induction h with
 |nil i j=>omega
 |cons x hx h ih=>have:=hn x hx;omega
theorem xdp {bg:Int}(hf:0<bg){L:List aK}(hs:BF L)(hn:∀x∈L,0≤x.n):Wf bg L (iW bg L):=by
 have Qy:oH bg (r7 bg):=fun a b=>by
  unfold r7 dI
  split
  ·exact⟨.inl hf,Int.le_refl _,by simp only;omega,Int.le_refl _⟩
  exact⟨.inr rfl,by simp only;omega,Int.le_refl _,Int.le_refl _⟩
 have ho:=Mi (l:=L) hn Qy
 refine⟨ho,We (fun x hx=>⟨hx,hn x hx⟩) fun a b v hv Wh=>?_,?_⟩
 ·unfold r7 dI at hv
  split at hv
  ·rename_i iL
   obtain⟨rfl,rfl⟩:=iL
   simp only at hv
   obtain rfl:v=0:=by omega
   exact⟨[],.nil 0 0⟩
  simp only at hv;omega
 have uv:qQ (iW bg L 0 0) 0:=Qx hn Qy (by unfold r7 dI;rw[if_pos ⟨rfl,rfl⟩];exact .inl rfl)
 have key:∀ {i j a b:Nat} {n:Int} {w:List aK},Way L i j a b n w→∀v,qQ (iW bg L i j) v→v+n<bg→qQ (iW bg L a b) (v+n):=by
  intro i j a b n w h
  induction h with
  |nil i j=>intro v hv _;rwa [Int.add_zero]
  | @cons x hx a b n l h ih=>
   intro v hv Wh
   have Ed:=xe7 hn h
   have h0:=hn x hx
   have:=ih (v+x.n) ?_ (by omega)
   ·rwa [Int.add_assoc] at this
   have cN:=Wd (bg:=bg) hs hn Qy x hx
   rcases hv with hv|hv|hv
   ·exact cN v (.inl hv) (by omega)
   ·exact cN v (.inr hv) (by omega)
   obtain⟨g1,g2,g3,g4⟩:=ho x.i x.j
   have e:L.foldl (fC bg) (r7 bg)=iW bg L:=rfl
   rw[e] at g1 g2 g3 g4 cN
   have g5:(iW bg L x.i x.j).1<(iW bg L x.i x.j).2:=by
    rcases g1 with g1|g1
    ·exact g1
    rw[g1] at hv;simp only at hv;omega
   have c1:=cN _ (.inl rfl) (by omega)
   have c2:=cN _ (.inr rfl) (by omega)
   unfold qQ at c1 c2 ⊢
   omega
 intro a b v w hw Wh
 have:=key hw 0 uv (by omega)
 rwa [Int.zero_add] at this
theorem Mj {c:aj}(hr:Rt c){i j a b:Nat}{n:Int}{w:List aK}(h:Way (graph c) i j a b n w):0≤n∧n≤100*(((a+b:Nat):Int) - ((i+j:Nat):Int)):=by
 induction h with
 |nil i j=>omega
 |cons x hx h ih=>
  have ho:=ib hr (wu hr hx).1
  have:=ho.vc;have:=ho.vd;have:=ho.on;have:=ho.n0;have:=ho.n1
  omega
def ls (bg:Int)(c:aj):Pr:=iW bg (graph c) c.t.length c.c.length
theorem Qz {c:aj}(hr:Rt c){bg:Int}(hf:0<bg):Wf bg (graph c) (iW bg (graph c)):=xdp hf (OX hr) fun x hx=>(Im hr x hx).1
theorem Wi {c:aj}(hr:Rt c){bg:Int}(hf:10000<bg):(ls bg c).1=du c:=by
 have h:=Qz hr (bg:=bg) (by omega)
 have hw:=LB hr
 have hc:=Mj hr hw
 have:=hr.tl;have:=hr.cl
 have h1:=h.Wg _ _ _ _ hw (by omega)
 obtain⟨g1,g2,g3,g4⟩:=h.ord c.t.length c.c.length
 have e:iW bg (graph c) c.t.length c.c.length=ls bg c:=rfl
 rw[e] at h1 g1 g2 g3 g4
 have h2:(ls bg c).1<bg→du c≤(ls bg c).1:=fun aP=>by
  obtain⟨w,hw⟩:=h.snd _ _ _ (.inl rfl) aP
  exact Er hr hw
 have g5:(ls bg c).1<(ls bg c).2∨(ls bg c).1=bg∧(ls bg c).2=bg:=by
  rcases g1 with g1|g1
  ·exact .inl g1
  exact .inr ⟨by rw[g1],by rw[g1]⟩
 unfold qQ at h1
 omega
theorem xa2 {c:aj}(hr:Rt c){bg:Int}(hf:10000<bg){v:Int}{w:List aK}(hw:Way (graph c) 0 0 c.t.length c.c.length v w)(hv:v≠du c):(ls bg c).2≤v:=by
 have h:=Qz hr (bg:=bg) (by omega)
 have hc:=Mj hr hw
 have:=hr.tl;have:=hr.cl
 have h1:=h.Wg _ _ _ _ hw (by omega)
 have h2:=Wi hr hf
 have e:iW bg (graph c) c.t.length c.c.length=ls bg c:=rfl
 rw[e] at h1
 unfold qQ at h1
 omega
theorem xez {c:aj}(hr:Rt c){bg:Int}(hf:10000<bg):du c<(ls bg c).2:=by
 have h:=Qz hr (bg:=bg) (by omega)
 obtain⟨g1,g2,g3,g4⟩:=h.ord c.t.length c.c.length
 have h2:=Wi hr hf
 have hc:=Mj hr (LB hr)
 have:=hr.tl;have:=hr.cl
 have e:iW bg (graph c) c.t.length c.c.length=ls bg c:=rfl
 rw[e] at g1
 rcases g1 with g1|g1
 ·omega
 rw[g1] at h2 ⊢;simp only at *;omega
def fb (c:aj):Int:=(ls 1099511627776 c).2
theorem z8d {c:aj}(hr:Rt c)(p:aK→Bool){a b:Nat}(h:fwd c p a b<1099511627776):∃w,Way (graph c) 0 0 a b (fwd c p a b) w:=by
 have g:=V9 hr p (a:=a) (b:=b)
 obtain⟨w,hw⟩:=V8 hr ((Sub.graph c).filter p) (g.1.2 h)
 rw[g.2 h] at hw
 exact⟨w,hw.mono fun x hx=>(List.mem_filter.1 (hw.I9 x hx)).1⟩
theorem xbs {c:aj}(hk:bl c=0):du c<fb c∧(∀l n,cJ c l=some n→n≠du c→fb c≤n∧fb c<1099511627776)∧
  (∀s v,rQ c s=some v→v≠0→fb c≤du c+v∧fb c<1099511627776)∧∀s,nO c s<1099511627776→nO c s≠du c→fb c≤nO c s∧fb c<1099511627776:=by
 have hr:=gR hk
 have nV:∀ {v:Int} {w:List aK},Way (graph c) 0 0 c.t.length c.c.length v w→v≠du c→fb c≤v∧fb c<1099511627776:=fun {v w} hw hv=>by
  have h1:=xa2 hr (bg:=1099511627776) (by omega) hw hv
  have h2:=(Mj hr hw).2
  have:=hr.tl;have:=hr.cl
  unfold fb
  omega
 refine⟨xez hr (by omega),fun l n h hn=>?_,fun s v h hv=>?_,fun s h hn=>?_⟩
 ·obtain⟨w,hw,_⟩:=(UM hr).1 h
  exact nV hw hn
 ·unfold rQ at h
  split at h
  ·rename_i n i' w hd
   split at h
   ·rename_i hb
    injection h with h
    have hg:=Qu hr hd hb
    obtain⟨g1,g2,g3⟩:=wu hr hg
    have g4:=(ib hr g1)
    obtain⟨w1,h1⟩:=LA hr g2 g3
    have g5:=OY hr (.cons _ hg (.nil _ _)) g2 g3
    obtain⟨w2,h2⟩:=Lz hr _ _ _ g5.1 g5.2 (Nat.le_refl _)
    have h3:=(h1.append (.cons _ hg h2))
    have e:du c=aX c c.t.length c.c.length:=rfl
    dsimp only at h3
    have:=nV h3 (by omega)
    refine⟨?_,this.2⟩
    have:=this.1
    omega
   cases h
  cases h
 obtain⟨w,hw⟩:=z8d hr _ h
 exact nV hw hn
open Go Go.Am Go.Proofs Tryz
attribute [local simp] eQ ij pV dH gk mz ai.back cS fW lg bm Nat.testBit_eq_decide_div_mod_eq cC iE mw vO ph gF pj iP cU nG nF pe gG pf n4 lZ pT n3 pg o7 o4 o8 o5 o6 o9 pa mR eZ jW eP pn nH oc po pq mQ pR pS gE my fK fy fL kV gg nS nv ny jF oR bj nZ fx bP bK lD ai.get ai.alloc ai.put ai.drop ai.empty bt cZ iw jn gA cz chunk List.range List.range.loop lh pW l9 bI b6 PV.aG PV.aF PV.dc PV.fu gY gH od PV.one PV.ids PV.cF gI beq_eq qD rE
theorem xhx:zn prog 196=some (137,198,2):=by decide +kernel
attribute [local simp] cQ bQ fN pZ xhx p7 p9 pw gJ fI
attribute [local simp ↓ high] sD rJ
def nk (p:Pr):PV:=.agg [.int .i64 p.1,.int .i64 p.2]
def oI (ps:List (Nat×Nat))(D:Nat→Nat→Pr):List (PV×PV):=ps.map fun p=>(pl p.1 p.2,nk (D p.1 p.2))
theorem Gu (a b:Nat)(D:Nat→Nat→Pr):∀ps:List (Nat×Nat),kB (qR a b) (oI ps D)=some (if (a,b)∈ps then some (nk (D a b)) else none)
 |[]=>rfl
 |(i,j)::r=>by
  have hc:=Wj (l:=qR a b) (m:=qR i j) (ds:=[.int .i64 i,.int .i64 j]) (v:=nk (D i j)) rfl (QA a b i j) (Gu a b D r)
  refine Eq.trans hc ?_
  by_cases h1:a=i∧b=j
  ·obtain⟨rfl,rfl⟩:=h1
   simp
  have:(decide (a=i)&&decide (b=j))=false:=by
   rw[Bool.eq_false_iff];intro hh;rw[bS,decide_eq_true_eq,decide_eq_true_eq] at hh;exact h1 hh
  simp only[this,bz]
  have hm:(a,b)∈(i,j)::r↔(a,b)∈r:=by
   rw[List.mem_cons]
   constructor
   ·rintro (h|h)
    ·injection h with e1 e2;exact absurd ⟨e1,e2⟩ h1
    exact h
   exact .inr
  simp only[hm]
theorem QB {a b:Nat}{D:Nat→Nat→Pr}{ps:List (Nat×Nat)}(h:(a,b)∈ps)(v:Pr):nJ [.int .i64 a,.int .i64 b] [.int .i64 a,.int .i64 b] (.agg [.int .i64 v.1,.int .i64 v.2]) (oI ps D)=some (oI ps (dI D a b v)):=by
 have hf:=Gu a b D ps
 unfold qR at hf
 unfold nJ
 rw[hf,if_pos h]
 simp only[oI,List.map_map]
 refine congrArg some (List.map_congr_left fun p _=>?_)
 have hq:=Wl a b p.1 p.2
 unfold qR at hq
 simp only[Function.comp,Gv,hq,dI]
 by_cases h1:a=p.1∧b=p.2
 ·obtain⟨rfl,rfl⟩:=h1
  simp[pl,nk]
 have h2:(decide (a=p.1)&&decide (b=p.2))=false:=by
  rw[Bool.eq_false_iff];intro hh;rw[bS,decide_eq_true_eq,decide_eq_true_eq] at hh;exact h1 hh
 rw[h2,bz,if_neg fun hh=>h1 ⟨hh.1.symm,hh.2.symm⟩]
theorem zw0 {a b:Nat}{D:Nat→Nat→Pr}{ps:List (Nat×Nat)}(h:(a,b)∉ps)(v:Pr):nJ [.int .i64 a,.int .i64 b] [.int .i64 a,.int .i64 b] (.agg [.int .i64 v.1,.int .i64 v.2]) (oI ps D)=some (oI (ps++[(a,b)]) (dI D a b v)):=by
 have hf:=Gu a b D ps
 unfold qR at hf
 unfold nJ
 rw[hf,if_neg h]
 simp only[oI,List.map_append,List.map_cons,List.map_nil]
 refine congrArg some ?_
 congr 1
 ·refine List.map_congr_left fun p hp=>?_
  have h1:¬(p.1=a∧p.2=b):=fun hh=>h (by rw[← hh.1,← hh.2];exact hp)
  simp only[dI,if_neg h1]
 simp[dI,pl,nk]
theorem z5g (a b:Nat):dI (fun _ _=>(((1099511627776:Int),(1099511627776:Int)):Pr)) a b (1099511627776,1099511627776)=fun _ _=>(1099511627776,1099511627776):=by
 funext x y
 unfold dI
 split<;>rfl
theorem z3n {m i j:Nat}:nJ [.int .i64 i,.int .i64 j] [.int .i64 i,.int .i64 j] (.agg [.int .i64 1099511627776,.int .i64 1099511627776]) (oI (kC m i j) fun _ _=>(1099511627776,1099511627776))=some (oI (kC m i (j+1)) fun _ _=>(1099511627776,1099511627776)):=by
 have:=zw0 (D:=fun _ _=>(1099511627776,1099511627776)) (a:=i) (b:=j) (ps:=kC m i j) (by rw[Ol];omega) (1099511627776,1099511627776)
 rw[z5g,← FV] at this
 exact this
theorem xam (D:Nat→Nat→Pr)(a b:Nat)(v:Pr):dI D a b v a b=v:=by unfold dI;rw[if_pos ⟨rfl,rfl⟩]
theorem zwj (D:Nat→Nat→Pr)(a b:Nat)(v w:Pr):dI (dI D a b v) a b w=dI D a b w:=by
 funext x y
 unfold dI
 by_cases h:x=a∧y=b
 ·rw[if_pos h,if_pos h]
 rw[if_neg h,if_neg h,if_neg h]
theorem z8b {ps:List (Nat×Nat)}{D:Nat→Nat→Pr}{i j a b:Nat}(h1:(i,j)∈ps)(h2:(a,b)∈ps)(v w:Int):∃(Mf:Nat→List (PV×PV)) (V1 V2:Pr),V1=nj 1099511627776 (D a b) v∧V2=nj 1099511627776 V1 w∧Mf 0=oI ps D∧Mf 2=oI ps (dI D a b V2)∧
  kB [.int .i64 i,.int .i64 j] (Mf 0)=some (some (.agg [.int .i64 (D i j).1,.int .i64 (D i j).2]))∧kB [.int .i64 a,.int .i64 b] (Mf 0)=some (some (.agg [.int .i64 (D a b).1,.int .i64 (D a b).2]))∧
  nJ [.int .i64 a,.int .i64 b] [.int .i64 a,.int .i64 b] (.agg [.int .i64 V1.1,.int .i64 V1.2]) (Mf 0)=some (Mf 1)∧kB [.int .i64 a,.int .i64 b] (Mf 1)=some (some (.agg [.int .i64 V1.1,.int .i64 V1.2]))∧
  nJ [.int .i64 a,.int .i64 b] [.int .i64 a,.int .i64 b] (.agg [.int .i64 V2.1,.int .i64 V2.2]) (Mf 1)=some (Mf 2):=by
 have hf:=fun D=>Gu i j D ps
 have hg:=fun D=>Gu a b D ps
 unfold qR nk at hf hg
 simp only[if_pos h1] at hf
 simp only[if_pos h2] at hg
 refine⟨fun z=>if z=0 then oI ps D else if z=1 then oI ps (dI D a b (nj 1099511627776 (D a b) v)) else oI ps (dI D a b (nj 1099511627776 (nj 1099511627776 (D a b) v) w)),_,_,rfl,rfl,rfl,rfl,hf D,hg D,QB h2 _,?_,?_⟩
 ·have:=hg (dI D a b (nj 1099511627776 (D a b) v))
  rw[xam] at this
  exact this
 have:=QB (D:=dI D a b (nj 1099511627776 (D a b) v)) h2 (nj 1099511627776 (nj 1099511627776 (D a b) v) w)
 rw[zwj] at this
 exact this
def uB (c:aj)(i j:Nat):Nat→Nat→Pr:=((kC (c.c.length+1) i j).flatMap fun q=>steps c q.1 q.2).foldl (fC 1099511627776) (r7 1099511627776)
theorem z4v (c:aj)(i j:Nat):uB c i (j+1)=(steps c i j).foldl (fC 1099511627776) (uB c i j):=by
 unfold uB;rw[FV,List.flatMap_append,List.foldl_append];simp
theorem z6w (c:aj)(i:Nat):uB c i (c.c.length+1)=uB c (i+1) 0:=by unfold uB;rw[FW]
theorem z7t (c:aj):uB c (c.t.length+1) 0=iW 1099511627776 (graph c):=by unfold uB iW graph;rw[Ef]
theorem xat {c:aj}(hr:Rt c)(i j:Nat):oH 1099511627776 (uB c i j):=by
 unfold uB
 refine Mi (fun x hx=>?_) fun a b=>?_
 ·obtain⟨q,_,hx⟩:=List.mem_flatMap.1 hx
  exact(ib hr hx).n0
 unfold r7 dI
 split
 ·exact⟨.inl (show (0:Int)<1099511627776 by decide),Int.le_refl _,(show (0:Int)≤1099511627776 by decide),Int.le_refl _⟩
 exact⟨.inr rfl,(show (0:Int)≤1099511627776 by decide),Int.le_refl _,Int.le_refl _⟩
section
variable [bF]
theorem Ja (p:Pr)(n:Int):aN prog 124 [nk p,.int .i64 n] fun r=>r=nk (nj 1099511627776 p n):=by
 obtain⟨a,b⟩:=p
 obtain⟨e0,dz⟩:∃e,decide (1099511627776≤n)=e:=⟨_,rfl⟩
 obtain⟨e1,gn⟩:∃e,(n==a)=e:=⟨_,rfl⟩
 obtain⟨e2,xE⟩:∃e,(n==b)=e:=⟨_,rfl⟩
 obtain⟨e3,Mk⟩:∃e,decide (n<a)=e:=⟨_,rfl⟩
 have hW:nj 1099511627776 (a,b) n=bif (e0||(e1||e2)) then (a,b) else bif e3 then (n,a) else (a,min b n):=by
  rw[← dz,← gn,← xE,← Mk]
  unfold nj
  by_cases h0:1099511627776≤n∨n=a∨n=b
  ·rw[if_pos h0]
   have:(decide (1099511627776≤n)||(n==a||n==b))=true:=by simpa using h0
   rw[this];rfl
  rw[if_neg h0]
  have:(decide (1099511627776≤n)||(n==a||n==b))=false:=by
   rw[not_or,not_or] at h0
   simp[h0.1,h0.2.1,h0.2.2]
  rw[this]
  by_cases h1:n<a
  ·rw[if_pos h1,decide_eq_true h1];rfl
  rw[if_neg h1,decide_eq_false h1];rfl
 have hm:(if n<b then n else b)=min b n:=by split<;>omega
 rw[hW]
 unfold nk
 clear hW
 refine .bT func124 rfl rfl ?_
 refine .sr ?_
 refine .seq (.block (.seq (.ay [0,1,2,3,4,5,6,7,8,9,10,11,12,13,14] rfl ae (.rn [0,1,2] _ ?_))))
 refine .split (t:=8) rfl (fun c8=>?_) (fun c8=>?_)
 ·try subst c8
  try simp at c8
  refine .rn [3,4,5,6,7,8,9,10,11,12,13,14] [] ?_
  refine .done (.eA rfl (.sr ?_))
  refine .ret (au ?_)
  exact zk
 try subst c8
 try simp at c8
 refine .rn [3,4,5,6,7,8] _ ?_
 refine .split (t:=14) rfl (fun iy=>?_) (fun iy=>?_)
 ·try subst iy
  try simp at iy
  refine .rn [9,10,11,12,13,14] [] ?_
  refine .done (.eA rfl (.sr ?_))
  refine .ret (au ?_)
  exact zk
 try subst iy
 try simp at iy
 refine .rn [9,10,11,12,13,14] [] ?_
 refine .done ?_
 refine .cs ?_ ?_<;>intro c5
 ·try simp at c5
  refine .sr ?_
  refine .ret (au ?_)
  exact zk
 try simp at c5
 refine .sr ?_
 refine .cs ?_ ?_<;>intro dm
 ·try simp at dm
  refine .sr ?_
  refine .ret (au ?_)
  exact zk
 try simp at dm
 refine .skip (.sr ?_)
 refine .ret (au ?_)
 exact zk
theorem p60 (c:aj)(hB:BC c):aN prog 60 [aH c] fun r=>r=.bx [.int .i64 (if bl c=0 then (if fb c<1099511627776 then fb c else 0) else 0),.int .i64 (if bl c=0 then (if fb c<1099511627776 then 0 else 5) else bl c)]:=by
 have ct:=sB c hB
 have hC:cR c=(cQ c):=rfl
 have ll:=fun i j:Int=>HO c i j
 have jx:=F3 c
 obtain⟨e,he⟩:∃e,bl c=e:=⟨_,rfl⟩
 have dz:=he
 rw[he] at ct jx ⊢
 have lA:oI [] (fun _ _=>(1099511627776,1099511627776))=[]:=rfl
 have Lg:kC (c.c.length+1) 0 0=[]:=rfl
 have km:=QB (a:=0) (b:=0) (D:=fun _ _=>(1099511627776,1099511627776)) (ps:=places c) (uq.2 ⟨Nat.zero_le _,Nat.zero_le _⟩) (0,1099511627776)
 have uv:dI (fun _ _=>(1099511627776,1099511627776)) 0 0 (0,1099511627776)=uB c 0 0:=rfl
 rw[uv] at km
 simp only[Int.ofNat_zero] at km
 unfold aH at ct ll jx ⊢
 unfold iF at ll jx
 rw[hC] at ct ll jx ⊢
 refine .bT func60 rfl rfl ?_
 refine .sr ?_
 refine .seq (.seq (.ay [0,1,2] rfl ae (.rn [0] _ ?_)))
 refine .pc rfl rfl rfl rfl rfl call55 (ct) ?_
 refine .rn [2] [] ?_
 refine .done (.sr ?_)
 refine .cs ?_ ?_<;>intro py
 ·try simp at py
  refine .sr ?_
  refine .ret (au ?_)
  exact zk
 try simp at py
 subst py
 have hk:=dz
 have bo:=gR hk
 have oh:=bo.tl
 have eM:=bo.cl
 have zj:IntKind.i64.wrap ((c.t.length:Int)+1)=(c.t.length:Int)+1:=wrap64 (by omega) (by omega)
 have lX:IntKind.i64.wrap ((c.c.length:Int)+1)=(c.c.length:Int)+1:=wrap64 (by omega) (by omega)
 refine .skip (.sr ?_)
 refine .seq (.sr ?_)
 refine .block ?_
 refine .dw (fun i:Nat=>([(1,.ptr 0 0),(5,.ptr 2 0),(24,.int .i64 ((c.t.length:Int)+1)),(25,.int .i64 i)],⟨3,[(2,.box [.aW 1]),(1,.map (oI (kC (c.c.length+1) i 0) (fun _ _=>(1099511627776,1099511627776)))),(0,.box (cQ c))]⟩)) (fun i=>i≤c.t.length+1) (fun i=>c.t.length+1 - i) 0 (Nat.zero_le _) (by rw[Lg,lA];exact bn) ?_
 rintro i hi
 simp only at hi ⊢
 refine .sr ?_
 refine .seq ?_
 refine .cs ?_ ?_<;>intro jI
 ·try simp at jI
  have et:=fA i
  refine .skip (.seq (.block (.sr ?_)))
  refine .sr ?_
  refine .block ?_
  refine .dw (fun j:Nat=>([(1,.ptr 0 0),(5,.ptr 2 0),(6,.int .i64 i),(24,.int .i64 ((c.t.length:Int)+1)),(25,.int .i64 i),(31,.int .i64 ((c.c.length:Int)+1)),(32,.int .i64 j)],⟨3,[(2,.box [.aW 1]),(1,.map (oI (kC (c.c.length+1) i j) (fun _ _=>(1099511627776,1099511627776)))),(0,.box (cQ c))]⟩)) (fun j=>j≤c.c.length+1) (fun j=>c.c.length+1 - j) 0 (Nat.zero_le _) bn ?_
  rintro j hj
  simp only at hj ⊢
  refine .sr ?_
  refine .seq ?_
  refine .cs ?_ ?_<;>intro rG
  ·try simp at rG
   have qF:=fA j
   have Ci:=@z3n (c.c.length+1) i j
   refine .skip (.seq (.block (.sr ?_)))
   refine .rn ?_
   refine .rn ?_
   refine⟨j+1,bp,bp,bn⟩
  try simp at rG
  obtain rfl:j=c.c.length+1:=by omega
  refine .exit (.rn ?_)
  refine⟨i+1,bp,bp,by rw[← FW];exact bn⟩
 try simp at jI
 obtain rfl:i=c.t.length+1:=by omega
 rw[Ef]
 refine .exit (.sr ?_)
 refine .seq (.sr ?_)
 refine .block ?_
 refine .dw (fun i:Nat=>([(1,.ptr 0 0),(5,.ptr 2 0),(48,.int .i64 ((c.t.length:Int)+1)),(49,.int .i64 i)],⟨3,[(2,.box [.aW 1]),(1,.map (oI (places c) (uB c i 0))),(0,.box (cQ c))]⟩)) (fun i=>i≤c.t.length+1) (fun i=>c.t.length+1 - i) 0 (Nat.zero_le _) bn ?_
 rintro i hi
 simp only at hi ⊢
 refine .sr ?_
 refine .seq ?_
 refine .cs ?_ ?_<;>intro zM
 ·try simp at zM
  have et:=fA i
  have ox:i≤c.t.length:=by omega
  refine .skip (.seq (.block (.sr ?_)))
  refine .sr ?_
  refine .block ?_
  refine .dw (fun j:Nat=>([(1,.ptr 0 0),(5,.ptr 2 0),(8,.int .i64 i),(48,.int .i64 ((c.t.length:Int)+1)),(49,.int .i64 i),(55,.int .i64 ((c.c.length:Int)+1)),(56,.int .i64 j)],⟨3,[(2,.box [.aW 1]),(1,.map (oI (places c) (uB c i j))),(0,.box (cQ c))]⟩)) (fun j=>j≤c.c.length+1) (fun j=>c.c.length+1 - j) 0 (Nat.zero_le _) bn ?_
  rintro j hj
  simp only at hj ⊢
  refine .sr ?_
  refine .seq ?_
  refine .cs ?_ ?_<;>intro wE
  ·try simp at wE
   have qF:=fA j
   have nI:j≤c.c.length:=by omega
   have QC:=z4v c i j
   have QD:=xat bo i j
   obtain⟨D0,gp⟩:∃D,uB c i j=D:=⟨_,rfl⟩
   rw[gp] at QC QD ⊢
   refine .skip (.seq (.block (.sr ?_)))
   refine .sr ?_
   refine .seq (.ay [0,1,2] rfl ae (.rn [0,1] _ ?_))
   refine .pc rfl rfl rfl rfl rfl call79 (ll i j) ?_
   refine .done (.block ?_)
   refine .rec (aA:=[(1,.ptr 0 0),(5,.ptr 2 0),(8,.int .i64 i),(10,.ptr 3 0),(48,.int .i64 ((c.t.length:Int)+1)),(49,.int .i64 i),(55,.int .i64 ((c.c.length:Int)+1)),(56,.int .i64 j),(64,.func 138 [] [.vp [.int .i64 i,.int .i64 j],.vp (cR c)])]) (aV:=⟨1000,[(3,.box [.int .i64 i,.int .i64 j]),(2,.box [.aW 1]),(1,.map (oI (places c) D0)),(0,.box (cQ c))]⟩) bn ?_
   refine Li c i j _ (fun pre n L=>L=[(3,.box [.int .i64 i,.int .i64 j]),(2,.box [.aW 1]),(1,.map (oI (places c) (pre.foldl (fC 1099511627776) D0))),(0,.box (cQ c))]) (fun e n L=>False) hk ox nI rfl rfl (by decide) rfl (fun _ _ _ _ h _=>h) ?_ ?_ (fun _ _ h=>h.elim) (fun _ _ _ h=>h.elim)
   ·skip
    rintro pre x kD n L iA hn rfl
    have hx:x∈steps c i j:=by rw[iA];simp
    have gz:=ib bo hx
    obtain⟨m,rfl⟩:∃m,n=m+1000:=⟨n - 1000,by omega⟩
    obtain⟨a0,a1,a2,a3,a4,fU⟩:=xR x.s
    rw[xS x fU]
    have oX:=gz.fi;have uh:=gz.fj;have T7:=gz.it;have KH:=gz.jt;have Ed:=gz.n0;have jY:=gz.n1
    have uR:∀y∈pre,0≤y.n:=fun y hy=>(ib bo (i:=i) (j:=j) (by rw[iA];simp[hy])).n0
    have EF:=Mi (l:=pre) uR QD
    rw[List.foldl_append,List.foldl_cons,List.foldl_nil]
    obtain⟨D,hD⟩:∃D,pre.foldl (fC 1099511627776) D0=D:=⟨_,rfl⟩
    rw[hD] at EF ⊢
    have QE:=gz.Wm
    rw[oX,uh] at QE
    have iI:(x.i',x.j')∈places c:=uq.2 ⟨by omega,by omega⟩
    obtain⟨u0,u1⟩:=EF i j
    obtain⟨Mf,V1,V2,QF,zZ,IE,Wn,f0,f1,f2,f3,f4⟩:=z8b (D:=D) (uq.2 ⟨ox,nI⟩) iI ((D i j).1+x.n) ((D i j).2+x.n)
    have hE:fC 1099511627776 D x=dI D x.i' x.j' V2:=by unfold fC;rw[oX,uh,zZ,QF]
    rw[hE,← IE]
    rw[← Wn]
    have qa:=Ja (D x.i' x.j') ((D i j).1+x.n)
    have qb:=Ja V1 ((D i j).2+x.n)
    rw[← QF] at qa
    rw[← zZ] at qb
    unfold nk at qa qb
    obtain⟨⟨p1,p2⟩,hP⟩:∃p,D i j=p:=⟨_,rfl⟩
    obtain⟨⟨r1,r2⟩,hR⟩:∃p,D x.i' x.j'=p:=⟨_,rfl⟩
    rw[hP] at u0 u1 f0 qa qb
    rw[hR] at f1 qa
    obtain⟨v1,v2⟩:=V1
    obtain⟨w1,w2⟩:=V2
    simp only at u0 u1 f0 f1 f2 f3 f4 qa qb
    have u2:0≤p2:=by
     rcases u0 with u0|u0
     ·omega
     injection u0 with e1 e2;omega
    have k1:IntKind.i64.wrap (p1+x.n)=p1+x.n:=wrap64 (by omega) (by omega)
    have k2:IntKind.i64.wrap (p2+x.n)=p2+x.n:=wrap64 (by omega) (by omega)
    clear QC QD fU oX uh gz uR EF IE Wn QF zZ hE hP hR u0 hD iA hx
    unfold Ei
    refine .rn ?_
    refine .block (.sr ?_)
    refine .block ?_
    refine .loop (fun q ab vh=>∃k:Nat,k+q=2∧bK 5 ab=some (.ptr 2 0)∧bK 11 ab=some (.ptr (m+1000) 0)∧bK 68 ab=some (.agg [.int .i64 p1,.int .i64 p2])∧bK 69 ab=some (.int .i64 k)∧vh=⟨m+1000+1,[(m+1000,.box [.int .i64 x.i,.int .i64 x.j,.int .i64 x.i',.int .i64 x.j',.int .i64 a0,.int .i64 a1,.int .i64 a2,.int .i64 a3,.int .i64 a4,.int .i64 x.n,.bool x.s.isNone]),(3,.box [.int .i64 i,.int .i64 j]),(2,.box [.aW 1]),(1,.map (Mf k)),(0,.box (cQ c))]⟩) 2 ⟨0,rfl,by simp,by simp,by simp,by simp,by simp⟩ ?_
    rintro q ab vh ⟨k,hkq,t5,t11,t68,t69,rfl⟩
    refine .sr ?_
    refine .seq ?_
    refine .cs ?_ ?_<;>intro iz
    ·try simp at iz
     have EP:k=0∨k=1:=by omega
     have Ky:IntKind.i64.wrap 1=1:=by decide
     have Cd:IntKind.i64.wrap 2=2:=by decide
     refine EP.elim (fun rh=>?_) (fun rh=>?_)
     ·skip
      refine .skip (.seq (.block (.seq ?_)))
      clear EP
      subst rh
      refine .rn ?_
      refine .drawn (ms:=[0,0,2,0,0,16,56,0,0,256,896,2040,4095]) (W:=[11,12]) (items:=Jb) rfl ae ae ae ?_
      iterate 11 refine .rx ?_
      refine .wp rfl rfl rfl rfl rfl call124 (qa) ?_
      refine .ck rfl dO ?_
      refine .ck rfl dO ?_
      refine .wv ?_
      refine .done (.rn ?_)
      exact⟨1,by omega,1,rfl,by simp[*],by simp[*],by simp[*],by simp[*],by simp⟩
     skip
     refine .skip (.seq (.block (.seq ?_)))
     clear EP
     subst rh
     refine .rn ?_
     refine .drawn (ms:=[0,0,2,0,0,16,56,0,0,256,896,2040,4095]) (W:=[11,12]) (items:=Jb) rfl ae ae ae ?_
     iterate 11 refine .rx ?_
     refine .wp rfl rfl rfl rfl rfl call124 (qb) ?_
     refine .ck rfl dO ?_
     refine .ck rfl dO ?_
     refine .wv ?_
     refine .done (.rn ?_)
     exact⟨0,by omega,2,rfl,by simp[*],by simp[*],by simp[*],by simp[*],by simp⟩
    try simp at iz
    obtain rfl:k=2:=by omega
    refine .exit ?_
    refine⟨none,[(3,.box [.int .i64 i,.int .i64 j]),(2,.box [.aW 1]),(1,.map (Mf 2)),(0,.box (cQ c))],rfl,bR,lq,rfl⟩
   skip
   rintro n L hn rfl
   rw[← QC]
   refine .rn ?_
   refine⟨j+1,bp,bp,bn⟩
  try simp at wE
  obtain rfl:j=c.c.length+1:=by omega
  refine .exit (.rn ?_)
  refine⟨i+1,bp,bp,by rw[← z6w];exact bn⟩
 try simp at zM
 obtain rfl:i=c.t.length+1:=by omega
 rw[z7t]
 have Jc:=Gu c.t.length c.c.length (iW 1099511627776 (graph c)) (places c)
 rw[if_pos (uq.2 ⟨Nat.le_refl _,Nat.le_refl _⟩)] at Jc
 unfold qR nk at Jc
 rw[show (iW 1099511627776 (graph c) c.t.length c.c.length).2=fb c from rfl] at Jc
 obtain⟨sv,Wo⟩:∃v,fb c=v:=⟨_,rfl⟩
 rw[Wo] at Jc
 rw[Wo]
 obtain⟨q1,Ky⟩:∃v,(iW 1099511627776 (graph c) c.t.length c.c.length).1=v:=⟨_,rfl⟩
 rw[Ky] at Jc
 obtain⟨sb,By⟩:∃b,decide (sv<1099511627776)=b:=⟨_,rfl⟩
 refine .exit (.seq (.seq ?_))
 refine .drawn (ms:=[0,0,2,7,15,31]) (W:=[2]) (items:=Uj) rfl ae ae ae ?_
 iterate 2 refine .rx ?_
 refine .wp rfl rfl rfl rfl rfl call78 (jx rfl) ?_
 refine .ck rfl dO ?_
 iterate 3 refine .rx ?_
 refine .done (.sr ?_)
 refine .cs ?_ ?_<;>intro uy
 ·try simp at uy
  have h9:=of_decide_eq_true (By.trans uy)
  refine .sr ?_
  refine .ret (au ?_)
  exact zk
 try simp at uy
 have h9:=of_decide_eq_false (By.trans uy)
 refine .skip (.sr ?_)
 refine .ret (au ?_)
 exact zk
end
attribute [local simp] cQ bQ fN gJ fI
theorem xcv {c:aj}(hr:Rt c){s:aq}{v:Int}(h:rQ c s=some v):v≤30000:=by
 unfold rQ at h
 split at h
 ·rename_i n i' w hd
  split at h
  ·rename_i hb
   injection h with h
   have hg:=Qu hr hd hb
   obtain⟨g1,g2,g3⟩:=wu hr hg
   have g5:=OY hr (.cons _ hg (.nil _ _)) g2 g3
   have h1:=Bf hr g2 g3
   have h2:=Ly hr _ _ _ g5.1 g5.2 rfl
   have h3:=Bf hr (Nat.le_refl c.t.length) (Nat.le_refl c.c.length)
   have h4:=(kN hr hd).1
   have:=hr.tl;have:=hr.cl
   simp only at g2 g3 g5 h1 h2
   omega
  cases h
 cases h
variable [bF] in
theorem p15 (hN:Names)(c:aj)(l:List aq)(s:aq)(hB:BC c)(hl:l.length<4611686018427387904):aN prog 15 [aH c,.vec (l.map encS),encS s] fun r=>r=.bool true:=by
 have qS:=Qr hN
 have BG:=V6 c
 have Wp:=p38 l
 have pC:=Ib c hB
 have Jd:=p60 c hB
 have tO:=fun fc=>U2 c l hB fc
 have ER:=Ug c s hB
 have BH:=Uh c s hB
 have hC:cR c=(cQ c):=rfl
 have hE:∀s:aq,encS s=.agg [.int .i64 s.k,.int .i64 s.a,.int .i64 s.i,.int .i64 s.l,.int .i64 s.w]:=fun _=>rfl
 obtain⟨e,he⟩:∃e,bl c=e:=⟨_,rfl⟩
 have dz:=he
 rw[he] at pC Jd tO ER BH
 rw[show aX c c.t.length c.c.length=du c from rfl] at pC BH
 obtain⟨L,hL⟩:∃x,(if e=0 then du c else 0)=x:=⟨_,rfl⟩
 rw[hL] at pC
 obtain⟨S,hS⟩:∃x,(if e=0 then (if fb c<1099511627776 then fb c else 0) else 0)=x:=⟨_,rfl⟩
 obtain⟨E2,zT⟩:∃x,(if e=0 then (if fb c<1099511627776 then 0 else 5) else e:Int)=x:=⟨_,rfl⟩
 rw[hS,zT] at Jd
 obtain⟨nsb,By⟩:∃b,qo c = !b:=⟨!qo c,by simp⟩
 rw[By] at BG
 obtain⟨s1,rp⟩:∃b,decide (l.length≤120) = !b:=⟨!decide (l.length≤120),by simp⟩
 rw[rp] at Wp
 unfold aH at BG pC Jd tO ER BH ⊢
 rw[hE] at ER BH ⊢
 rw[hC] at BG pC Jd tO ER BH ⊢
 refine .bT func15 rfl rfl ?_
 refine .sr ?_
 refine .seq (.seq (.ay mC rfl ae (.rn [0] _ ?_)))
 refine .pc rfl rfl rfl rfl rfl call19 (BG) ?_
 refine .rn [2,3] _ ?_
 refine .split (t:=21) rfl (fun dm=>?_) (fun dm=>?_)
 ·try subst dm
  try simp at dm
  refine .rn [4,5,6,7] [] ?_
  refine .done (.eA rfl (.seq ?_))
  refine .ay [0,1] rfl ae ?_
  refine .pc rfl rfl rfl rfl rfl call20 (qS) ?_
  refine .rn [1] [] ?_
  refine .done (.ret (au ?_))
  exact zk
 try subst dm
 try simp at dm
 refine .rn [4] _ ?_
 refine .pc rfl rfl rfl rfl rfl call38 (Wp) ?_
 refine .rn [6,7] [] ?_
 refine .done ?_
 refine .cs ?_ ?_<;>intro gq
 ·try simp at gq
  refine .seq (.ay [0,1] rfl ae ?_)
  refine .pc rfl rfl rfl rfl rfl call20 (qS) ?_
  refine .rn [1] [] ?_
  refine .done (.ret (au ?_))
  exact zk
 try simp at gq
 have fc:l.length≤120:=of_decide_eq_true (by rw[rp,gq];rfl)
 have tO:=tO (by omega)
 refine .skip (.seq (.ay ik rfl ae (.rn [0] _ ?_)))
 refine .pc rfl rfl rfl rfl rfl call43 (pC) ?_
 refine .rn [2,3,4,5,6] [] ?_
 refine .done (.seq (.ay ik rfl ae ?_))
 refine .rn [0] _ ?_
 refine .pc rfl rfl rfl rfl rfl call60 (Jd) ?_
 refine .rn [2,3,4,5,6] [] ?_
 refine .done (.seq (.sr ?_))
 refine .cs ?_ ?_<;>intro kM
 ·try simp at kM
  have hee:E2=e:=by rw[← zT,if_neg kM]
  subst hee
  refine .seq (.ay ik rfl ae ?_)
  refine .pc rfl rfl rfl rfl rfl call20 (qS) ?_
  refine .rn [1] _ ?_
  refine .split (t:=40) rfl (fun kO=>?_) (fun kO=>?_)
  ·try subst kO
   try simp at kO
   refine .rn [2,3,4,5,6] [] ?_
   refine .done (.ret (au ?_))
   exact zk
  try subst kO
  try simp at kO
 try simp at kM
 subst kM
 rw[if_pos rfl] at hL hS zT
 simp only[if_true] at tO ER BH
 obtain⟨b1,b2,b3,b4⟩:=xbs dz
 have bo:=gR dz
 rw[hL] at b1 b2 b3 b4 BH
 have hLb:0≤L∧L≤9600:=by
  have h3:=Bf bo (Nat.le_refl c.t.length) (Nat.le_refl c.c.length)
  have:=bo.tl;have:=bo.cl
  have h4:aX c c.t.length c.c.length=L:=hL
  omega
 obtain⟨ns,QG⟩:∃b,decide (fb c<1099511627776) = !b:=⟨!decide (fb c<1099511627776),by simp⟩
 have cN:ns=true∨(S=fb c∧E2=0∧fb c<1099511627776):=by
  cases h:ns with
  |true=>exact .inl rfl
  |false=>
   have h1:=of_decide_eq_true (QG.trans (by rw[h];rfl))
   rw[if_pos h1] at hS zT
   exact .inr ⟨hS.symm,zT.symm,h1⟩
 have vA:ns=false∨(E2=5∧¬fb c<1099511627776):=by
  cases h:ns with
  |false=>exact .inl rfl
  |true=>
   have h1:=of_decide_eq_false (QG.trans (by rw[h];rfl))
   rw[if_neg h1] at hS zT
   exact .inr ⟨zT.symm,h1⟩
 have x0:(E2 != 0)=ns:=by
  cases h:ns with
  |false=>rw[(cN.resolve_left (by rw[h];decide)).2.1];rfl
  |true=>rw[(vA.resolve_left (by rw[h];decide)).1];rfl
 have x5:(E2 != 5) = !ns:=by
  cases h:ns with
  |false=>rw[(cN.resolve_left (by rw[h];decide)).2.1];rfl
  |true=>rw[(vA.resolve_left (by rw[h];decide)).1];rfl
 have y0:(E2==0) = !ns:=by
  cases h:ns with
  |false=>rw[(cN.resolve_left (by rw[h];decide)).2.1];rfl
  |true=>rw[(vA.resolve_left (by rw[h];decide)).1];rfl
 have y5:(E2==5)=ns:=by
  cases h:ns with
  |false=>rw[(cN.resolve_left (by rw[h];decide)).2.1];rfl
  |true=>rw[(vA.resolve_left (by rw[h];decide)).1];rfl
 have QH:ns=true∨decide (S≤L)=false:=cN.imp id fun h=>decide_eq_false (by rw[h.1];omega)
 obtain⟨X,hX⟩:∃X,cJ c l=X:=⟨_,rfl⟩
 rw[hX] at tO
 obtain⟨v,hv⟩:∃v,X.getD 0=v:=⟨_,rfl⟩
 obtain⟨xb,ye⟩:∃b,X.isSome=b:=⟨_,rfl⟩
 rw[hv,ye] at tO
 obtain⟨nb,KT⟩:∃b,(v != L)=b:=⟨_,rfl⟩
 have key:∀z:Int,fb c≤z∧fb c<1099511627776→ns=false∧decide (z<S)=false:=fun z hz=>by
  have h1:ns=false:=by
   cases h:ns with
   |false=>rfl
   |true=>exact absurd hz.2 (vA.resolve_left (by rw[h];decide)).2
  exact⟨h1,decide_eq_false (by rw[(cN.resolve_left (by rw[h1];decide)).1];omega)⟩
 have QI:xb=false∨nb=false∨(ns=false∧decide (v<S)=false):=by
  cases h:xb with
  |false=>exact .inl rfl
  |true=>
   cases h2:nb with
   |false=>exact .inr (.inl rfl)
   |true=>
    refine .inr (.inr (key v (b2 l v ?_ ?_)))
    ·rw[hX]
     rw[h] at ye
     cases X with
     |none=>cases ye
     |some y=>rw[← hv];rfl
    rw[h2] at KT;simpa using KT
 obtain⟨md,z6⟩:∃x,(rQ c s).getD 0=x:=⟨_,rfl⟩
 obtain⟨me,Je⟩:∃x,(if rQ c s=none then 5 else 0:Int)=x:=⟨_,rfl⟩
 rw[z6,Je] at ER
 obtain⟨wo,sK⟩:∃x,(if nO c s<1099511627776 then nO c s - L else 0)=x:=⟨_,rfl⟩
 obtain⟨we,PE⟩:∃x,(if nO c s<1099511627776 then 0 else 5:Int)=x:=⟨_,rfl⟩
 rw[sK,PE] at BH
 obtain⟨mb,Wq⟩:∃b,(me==0)=b:=⟨_,rfl⟩
 obtain⟨mp,hmp⟩:∃b,decide (0<md)=b:=⟨_,rfl⟩
 obtain⟨kb,Gg⟩:∃b,(we==0)=b:=⟨_,rfl⟩
 obtain⟨kp,P7⟩:∃b,decide (0<wo)=b:=⟨_,rfl⟩
 have hM:mb=false∨mp=false∨(ns=false∧decide (L+md<S)=false):=by
  cases h:mb with
  |false=>exact .inl rfl
  |true=>
   cases h2:mp with
   |false=>exact .inr (.inl rfl)
   |true=>
    have h3:=of_decide_eq_true (hmp.trans h2)
    cases hm:rQ c s with
    |none=>rw[hm] at Je;rw[if_pos rfl] at Je;rw[← Je,h] at Wq;cases Wq
    |some z=>
     rw[hm] at z6
     have h4:z=md:=z6
     exact .inr (.inr (key _ (by have:=b3 s z hm (by omega);rw[← h4];exact this)))
 have hW:kb=false∨kp=false∨(ns=false∧decide (L+wo<S)=false):=by
  cases h:kb with
  |false=>exact .inl rfl
  |true=>
   cases h2:kp with
   |false=>exact .inr (.inl rfl)
   |true=>
    have h3:=of_decide_eq_true (P7.trans h2)
    by_cases aP:nO c s<1099511627776
    ·rw[if_pos aP] at sK
     exact .inr (.inr (key _ (by have:=b4 s aP (by omega);rw[show L+wo=nO c s by omega];exact this)))
    rw[if_neg aP] at sK;omega
 have lX:IntKind.i64.wrap (L+md)=L+md:=by
  have h1:0≤md∧md≤30000:=by
   cases hm:rQ c s with
   |none=>rw[hm] at z6;have:(0:Int)=md:=z6;omega
   |some z=>
    rw[hm] at z6
    have h4:z=md:=z6
    have:=xcv bo hm
    have:=xhz bo hm
    omega
  exact wrap64 (by omega) (by omega)
 have et:IntKind.i64.wrap (L+wo)=L+wo:=by
  have h1:0≤wo∧wo≤1099511627776:=by
   have h2:=xh3 bo s
   have h4:aX c c.t.length c.c.length=L:=hL
   by_cases aP:nO c s<1099511627776
   ·rw[if_pos aP] at sK;omega
   rw[if_neg aP] at sK;omega
  exact wrap64 (by omega) (by omega)
 clear key b1 b2 b3 b4 cN vA QG zT hS hX hv ye z6 Je sK PE hL
 refine .skip (.seq (.ay fM rfl ae (.rn [0,1] _ ?_)))
 refine .pc rfl rfl rfl rfl rfl call40 (tO) ?_
 refine .rn [3,4,5,6,7,8,9] [] ?_
 refine .done ?_
 refine .join (fun _:Unit=>([(3,.ptr 0 0),(5,.ptr 1 0),(7,.int .i64 L),(9,.int .i64 S),(10,.int .i64 E2),(11,.int .i64 v),(12,.bool xb)],⟨2,[(1,.box [.int .i64 s.k,.int .i64 s.a,.int .i64 s.i,.int .i64 s.l,.int .i64 s.w]),(0,.box (cQ c))]⟩)) (fun _=>True) ?_ ?_
 ·skip
  refine .seq (.ay Jf rfl ae (.rn [0,1,2] _ ?_))
  refine .split (t:=54) rfl (fun sI=>?_) (fun sI=>?_)
  ·try subst sI
   try simp at sI
  try subst sI
  try simp at sI
  refine .rn [3,4,5] _ ?_
  refine .split (t:=57) rfl (fun wE=>?_) (fun wE=>?_)
  ·try subst wE
   try simp at wE
   refine .rn [6,7,8,9,10] _ ?_
   refine .split (t:=62) rfl (fun Jg=>?_) (fun Jg=>?_)
   ·try subst Jg
    try simp at Jg
   try subst Jg
   try simp at Jg
   refine .rn [11,12,13] _ ?_
   refine .split (t:=65) rfl (fun qJ=>?_) (fun qJ=>?_)
   ·try subst qJ
    try simp at qJ
   try subst qJ
   try simp at qJ
   refine .rn [14,15,16,17,18] [] ?_
   refine .done (.fD rfl (.skip ?_))
   exact⟨(),trivial,bn⟩
  try subst wE
  try simp at wE
  refine .rn [6,7,8,9,10,11,12,13] _ ?_
  refine .split (t:=65) rfl (fun qJ=>?_) (fun qJ=>?_)
  ·try subst qJ
   try simp at qJ
   have h9:=QH.resolve_left (by decide)
   clear QH
   refine .rn [14,15,16,17,18] [] ?_
   refine .done ?_
   refine .cs ?_ ?_<;>intro iz
   ·try simp at iz
   try simp at iz
   refine .skip ?_
   exact⟨(),trivial,bn⟩
  try subst qJ
  try simp at qJ
 skip
 rintro _ _
 simp only
 clear QH
 refine .join (fun _:Unit=>([(3,.ptr 0 0),(5,.ptr 1 0),(7,.int .i64 L),(9,.int .i64 S),(10,.int .i64 E2)],⟨2,[(1,.box [.int .i64 s.k,.int .i64 s.a,.int .i64 s.i,.int .i64 s.l,.int .i64 s.w]),(0,.box (cQ c))]⟩)) (fun _=>True) ?_ ?_
 ·skip
  refine .seq (.ay [0,1,2,3,4,5,6,7,8,9,10,11,12,13,14] rfl ae (.rn [0,1] _ ?_))
  refine .split (t:=72) rfl (fun Jh=>?_) (fun Jh=>?_)
  ·try subst Jh
   try simp at Jh
   refine .rn [2,3,4,5,6] _ ?_
   refine .split (t:=77) rfl (fun qK=>?_) (fun qK=>?_)
   ·try subst qK
    try simp at qK
    have h8:ns=false∧decide (v<S)=false:=(QI.resolve_left (by decide)).resolve_left (by decide)
    have h9:=h8.1
    have wq:=h8.2
    clear QI h8
    refine .rn [7,8,9] _ ?_
    refine .split (t:=80) rfl (fun rH=>?_) (fun rH=>?_)
    ·try subst rH
     try simp at rH
    try subst rH
    try simp at rH
    refine .rn [10,11,12,13,14] [] ?_
    refine .done ?_
    refine .cs ?_ ?_<;>intro EK
    ·try simp at EK
    try simp at EK
    refine .skip ?_
    exact⟨(),trivial,bn⟩
   try subst qK
   try simp at qK
   refine .rn [7,8,9,10,11,12,13,14] [] ?_
   refine .done (.fD rfl (.skip ?_))
   exact⟨(),trivial,bn⟩
  try subst Jh
  try simp at Jh
  refine .rn [2,3,4,5,6,7,8,9,10,11,12,13,14] [] ?_
  refine .done (.fD rfl (.skip ?_))
  exact⟨(),trivial,bn⟩
 skip
 rintro _ _
 simp only
 clear QI
 refine .seq (.ay mC rfl ae (.rn [0,1] _ ?_))
 refine .pc rfl rfl rfl rfl rfl call30 (ER) ?_
 refine .rn [3,4,5,6,7] [] ?_
 refine .done (.seq (.ay mC rfl ae ?_))
 refine .rn [0,1] _ ?_
 refine .pc rfl rfl rfl rfl rfl call32 (BH) ?_
 refine .rn [3,4,5,6,7] [] ?_
 refine .done ?_
 refine .join (fun _:Unit=>(([]:a7),⟨2,[(1,.box [.int .i64 s.k,.int .i64 s.a,.int .i64 s.i,.int .i64 s.l,.int .i64 s.w]),(0,.box (cQ c))]⟩)) (fun _=>True) ?_ ?_
 ·skip
  refine .seq (.ay [0,1,2,3,4,5,6,7,8,9,10,11,12,13,14,15,16,17,18,19,20,21,22,23,24,25,26,27,28,29,30,31,32,33,34,35] rfl ae (.rn [0,1,2] _ ?_))
  refine .split (t:=100) rfl (fun yN=>?_) (fun yN=>?_)
  ·try subst yN
   try simp at yN
   refine .rn [3,4,5,6] _ ?_
   refine .split (t:=104) rfl (fun iR=>?_) (fun iR=>?_)
   ·try subst iR
    try simp at iR
    have h8:ns=false∧decide (L+md<S)=false:=(hM.resolve_left (by decide)).resolve_left (by decide)
    have h9:=h8.1
    have wq:=h8.2
    clear hM h8
    refine .rn [7,8,9] _ ?_
    refine .split (t:=107) rfl (fun oJ=>?_) (fun oJ=>?_)
    ·try subst oJ
     try simp at oJ
    try subst oJ
    try simp at oJ
    refine .rn [10,11,12,13,14,15,16,17] _ ?_
    refine .split (t:=115) rfl (fun yO=>?_) (fun yO=>?_)
    ·try subst yO
     try simp at yO
    try subst yO
    try simp at yO
    refine .rn [18,19,20] _ ?_
    refine .split (t:=118) rfl (fun ee=>?_) (fun ee=>?_)
    ·try subst ee
     try simp at ee
     refine .rn [21,22,23,24] _ ?_
     refine .split (t:=122) rfl (fun ef=>?_) (fun ef=>?_)
     ·try subst ef
      try simp at ef
      have h8:ns=false∧decide (L+wo<S)=false:=(hW.resolve_left (by decide)).resolve_left (by decide)
      have ON:=h8.1
      have Ws:=h8.2
      clear hW h8
      refine .rn [25,26,27] _ ?_
      refine .split (t:=125) rfl (fun gN=>?_) (fun gN=>?_)
      ·try subst gN
       try simp at gN
      try subst gN
      try simp at gN
      refine .rn [28,29,30,31,32,33,34,35] [] ?_
      refine .done ?_
      refine .cs ?_ ?_<;>intro r8
      ·try simp at r8
      try simp at r8
      refine .skip ?_
      exact⟨(),trivial,bn⟩
     try subst ef
     try simp at ef
     refine .rn [25,26,27,28,29,30,31,32,33,34,35] [] ?_
     refine .done (.fD rfl (.skip ?_))
     exact⟨(),trivial,bn⟩
    try subst ee
    try simp at ee
    refine .rn [21,22,23,24,25,26,27,28,29,30,31,32,33,34,35] [] ?_
    refine .done (.fD rfl (.skip ?_))
    exact⟨(),trivial,bn⟩
   try subst iR
   try simp at iR
   refine .rn [7,8,9,10,11,12,13,14,15,16,17,18,19,20] _ ?_
   refine .split (t:=118) rfl (fun ee=>?_) (fun ee=>?_)
   ·try subst ee
    try simp at ee
    refine .rn [21,22,23,24] _ ?_
    refine .split (t:=122) rfl (fun ef=>?_) (fun ef=>?_)
    ·try subst ef
     try simp at ef
     have h8:ns=false∧decide (L+wo<S)=false:=(hW.resolve_left (by decide)).resolve_left (by decide)
     have ON:=h8.1
     have Ws:=h8.2
     clear hW h8
     refine .rn [25,26,27] _ ?_
     refine .split (t:=125) rfl (fun gN=>?_) (fun gN=>?_)
     ·try subst gN
      try simp at gN
     try subst gN
     try simp at gN
     refine .rn [28,29,30,31,32,33,34,35] [] ?_
     refine .done ?_
     refine .cs ?_ ?_<;>intro r8
     ·try simp at r8
     try simp at r8
     refine .skip ?_
     exact⟨(),trivial,bn⟩
    try subst ef
    try simp at ef
    refine .rn [25,26,27,28,29,30,31,32,33,34,35] [] ?_
    refine .done (.fD rfl (.skip ?_))
    exact⟨(),trivial,bn⟩
   try subst ee
   try simp at ee
   refine .rn [21,22,23,24,25,26,27,28,29,30,31,32,33,34,35] [] ?_
   refine .done (.fD rfl (.skip ?_))
   exact⟨(),trivial,bn⟩
  try subst yN
  try simp at yN
  refine .rn [3,4,5,6,7,8,9,10,11,12,13,14,15,16,17,18,19,20] _ ?_
  refine .split (t:=118) rfl (fun ee=>?_) (fun ee=>?_)
  ·try subst ee
   try simp at ee
   refine .rn [21,22,23,24] _ ?_
   refine .split (t:=122) rfl (fun ef=>?_) (fun ef=>?_)
   ·try subst ef
    try simp at ef
    have h8:ns=false∧decide (L+wo<S)=false:=(hW.resolve_left (by decide)).resolve_left (by decide)
    have ON:=h8.1
    have Ws:=h8.2
    clear hW h8
    refine .rn [25,26,27] _ ?_
    refine .split (t:=125) rfl (fun gN=>?_) (fun gN=>?_)
    ·try subst gN
     try simp at gN
    try subst gN
    try simp at gN
    refine .rn [28,29,30,31,32,33,34,35] [] ?_
    refine .done ?_
    refine .cs ?_ ?_<;>intro r8
    ·try simp at r8
    try simp at r8
    refine .skip ?_
    exact⟨(),trivial,bn⟩
   try subst ef
   try simp at ef
   refine .rn [25,26,27,28,29,30,31,32,33,34,35] [] ?_
   refine .done (.fD rfl (.skip ?_))
   exact⟨(),trivial,bn⟩
  try subst ee
  try simp at ee
  refine .rn [21,22,23,24,25,26,27,28,29,30,31,32,33,34,35] [] ?_
  refine .done (.fD rfl (.skip ?_))
  exact⟨(),trivial,bn⟩
 skip
 rintro _ _
 simp only
 refine .seq (.ay [0,1] rfl ae ?_)
 refine .pc rfl rfl rfl rfl rfl call20 (qS) ?_
 refine .rn [1] [] ?_
 refine .done (.ret (au ?_))
 exact zk
end Go.Am.Sl
end
