/-
 What is used in the proof of a statement (part SlB); no condition.
-/
import Derived.Test.YthnmgbgmlhackaaGreatDoorSlZ
import Derived.Test.YthnmgbgmlhackaaGreatDoorVm2
import Derived.Test.YthnmgbgmlhackaaGreatDoorSlT
import Derived.Test.YthnmgbgmlhackaaGreatDoorSlA
set_option linter.all false
set_option maxHeartbeats 40000000
set_option maxRecDepth 100000
section
namespace Go.Am.Sl
open Go Go.Am Go.Proofs Tryz
attribute [local simp] fx ie rS dS ig nD ah.back de gJ l8 bm Nat.testBit_eq_decide_div_mod_eq cF iX ny vO qE ja qF jw cW oX oV qB jb qC pI mW rR pH qD qv qq qw qt qu qz qA od fI kl fw qG oZ pK qH qI oc rP rQ iY nz gp fY gq lV hU pA oD oE jY qi bo pG fX bU bS l9 ah.get ah.alloc ah.put ah.drop ah.empty bh dm iF jP gI cB chunk List.range List.range.loop ma rT mX bz b9 PV.aB PV.aG PV.dy PV.fW jc jd pL PV.one PV.ids PV.cO gx beq_eq sJ tW
attribute [local simp] cQ bQ jf ua
attribute [local simp ↓ high] vm tZ
def pO (c:aq)(i j:Nat):List ai:=(if j<c.c.length then [⟨1,i,j,0,c.c.getD j 0⟩] else [])++[⟨2,i,j,0,0⟩]
def og (i j n:Nat):List ai:=(List.range n).map fun n:Nat=>⟨3,i,j,(n+1:Nat),0⟩
def o5 (i j n:Nat):List ai:=(List.range n).map fun n:Nat=>⟨4,i,j,(n+1:Nat),0⟩
def pP (i j n:Nat):List ai:=(List.range n).map fun n:Nat=>⟨5,i,j,n,0⟩
theorem If (i j n:Nat):og i j (n+1)=og i j n++[⟨3,i,j,(n+1:Nat),0⟩]:=by unfold og;rw[List.range_succ,List.map_append];rfl
theorem Ig (i j n:Nat):o5 i j (n+1)=o5 i j n++[⟨4,i,j,(n+1:Nat),0⟩]:=by unfold o5;rw[List.range_succ,List.map_append];rfl
theorem Ih (i j n:Nat):pP i j (n+1)=pP i j n++[⟨5,i,j,n,0⟩]:=by unfold pP;rw[List.range_succ,List.map_append];rfl
theorem P3 (c:aq)(i j:Nat):kS c i j=pO c i j++og i j (c.t.length - i)++o5 i j i++pP i j c.g.length++(if j<c.c.length then [⟨6,i,j,0,c.c.getD j 0⟩] else []):=rfl
theorem XK {e:PV}(he:e.aB=true):et (.bp [.aF,e]) (.bp [.vec [],e]):=BT (.cons .dJ (.cons (.same _ he) .nil))
theorem yR:wZ prog 132=some (137,3,2):=by decide +kernel
attribute [local simp] cQ bQ jf ua yR rY sR pQ gz fG
def BU:Option ai→List PV
 |some s=>[.int .i64 s.k,.int .i64 s.a,.int .i64 s.i,.int .i64 s.l,.int .i64 s.w]
 |none=>[.int .i64 0,.int .i64 0,.int .i64 0,.int .i64 0,.int .i64 0]
def cP (x:aO):PV:=.agg ([.int .i64 x.i,.int .i64 x.j,.int .i64 x.i',.int .i64 x.j']++BU x.s++[.int .i64 x.n,.bool x.s.isNone])
def ed (p:aO→Bool)(D:Nat→Nat→Int)(x:aO):Nat→Nat→Int:=if D x.i x.j<1099511627776∧p x=true then bu D x.i' x.j' (min (D x.i' x.j') (D x.i x.j+x.n)) else D
def eu (c:aq)(i j:Nat)(p:aO→Bool)(D:Nat→Nat→Int)(s:ai):Nat→Nat→Int:=match stepOf c i j s with
 |some x=>ed p D x
 |none=>D
noncomputable abbrev kH (y:Nat) (c:aq) (i j:Int) (x:Option Code):aI:=vw f138 0 [(1,.vp [.int .i64 i,.int .i64 j]),(2,.vp (dh c)),(3,.ptr y 0)] x
noncomputable abbrev sS (x:Option Code):aI:=vw f135 0 [(3,.ptr 1 0),(5,.ptr 3 0),(10,.ptr 4 0)] x
theorem P4 (c:aq)(i j:Nat)(s:ai):(aR c s=none∧stepOf c i j s=none)∨(∃n i' w,aR c s=some (n,i',w)∧hasB c j w=false∧stepOf c i j s=none)∨∃n i' w,aR c s=some (n,i',w)∧hasB c j w=true∧stepOf c i j s=some ⟨i,j,i',j+w.length,n,some s⟩:=by
 unfold stepOf
 cases hd:aR c s with
 |none=>exact .inl ⟨rfl,rfl⟩
 |some x=>
  obtain⟨n,i',w⟩:=x
  cases hb:hasB c j w
  ·exact .inr (.inl ⟨n,i',w,rfl,hb,by simp[hb]⟩)
  exact .inr (.inr ⟨n,i',w,rfl,hb,by simp[hb]⟩)
variable [bE] in
theorem BV (c:aq)(i j:Nat)(D:Nat→Nat→Int)(p:aO→Bool)(f:FuncId)(xs ys:List PV)(k l w k0 l0 w0:Int)(hk:bP c=0)(hi:i≤c.t.length)(hj:j≤c.c.length)(hD:∀a b,0≤D a b∧D a b≤1099511627776)(hx:PV.aG xs=true)(hy:PV.aG ys=true)(dM:∀cs w,(callFunc f cs).run prog w=.ok (.enter f cs) w)(hp:∀x:aO,aM prog f (xs++[cP x]++ys) fun r=>r=.bool (p x)):cR prog 167 [.int .i64 k,.int .i64 l,.int .i64 w,.ptr 9 0,.ptr 8 0] ⟨10,[(9,.box [.int .i64 k0,.int .i64 i,.int .i64 j,.int .i64 l0,.int .i64 w0]),(8,.box [.bN 7]),(7,kH 6 c i j none),(6,.box [.bN 5]),(5,sS none),(4,.box [.int .i64 i,.int .i64 j]),(3,.box [.aY 2]),(2,.map (a8 (places c) D)),(1,.box [.func f xs ys])]⟩ fun v ak=>v=.bool true∧ak=⟨10,[(9,.box [.int .i64 k,.int .i64 i,.int .i64 j,.int .i64 l,.int .i64 w]),(8,.box [.bN 7]),(7,kH 6 c i j none),(6,.box [.bN 5]),(5,sS none),(4,.box [.int .i64 i,.int .i64 j]),(3,.box [.aY 2]),(2,.map (a8 (places c) (eu c i j p D ⟨k,i,j,l,w⟩))),(1,.box [.func f xs ys])]⟩:=by
 have bq:=j7 hk
 have ep:=bq.cl
 have o6:j≤48:=by omega
 have db:=Ff c ⟨k,i,j,l,w⟩ hk
 have BW:=P4 c i j ⟨k,i,j,l,w⟩
 have hE:encS ⟨k,i,j,l,w⟩=.agg [.int .i64 k,.int .i64 i,.int .i64 j,.int .i64 l,.int .i64 w]:=rfl
 have hC:dh c=(cQ c):=rfl
 have fJ:=hD i j
 have jN:kq [.int .i64 i,.int .i64 j] (a8 (places c) D)=some (some (.int .i64 (D i j))):=by
  have:=vx i j D (places c)
  rw[if_pos (xu.2 ⟨hi,hj⟩)] at this
  exact this
 obtain⟨d0,mz⟩:∃d,D i j=d:=⟨_,rfl⟩
 obtain⟨e0,eC⟩:∃b,decide (d0<1099511627776)=b:=⟨_,rfl⟩
 rw[mz] at jN fJ
 rw[hE] at db
 unfold aK at db
 refine .bV func167 rfl rfl ?_
 rcases BW with⟨hd,dw⟩|⟨n,i',wr,hd,hb,dw⟩|⟨n,i',wr,hd,hb,dw⟩
 ·
  have ho:eu c i j p D ⟨k,i,j,l,w⟩=D:=by unfold eu;rw[dw]
  rw[Ah hd] at db
  unfold ik at db
  rw[ho]
  refine .sr ?_
  refine .sr ?_
  refine .seq (.aD dU rfl af (.rn [0,1] _ ?_))
  refine .step rfl rfl (.yield rfl rfl rfl rfl rfl (by decide) rfl ?_)
  refine .rn ?_
  refine .block (.seq (.aD j5 rfl af (.rn [0,1] _ ?_)))
  refine .pc rfl rfl rfl rfl rfl call95 (db) ?_
  refine .rn [3,4,5,6,7,8,9,10,11,12] [] ?_
  refine .done (.seq (.aD nJ rfl af ?_))
  refine .rn [0,1] _ ?_
  refine .split (t:=63) rfl (fun gh=>?_) (fun gh=>?_)
  ·try subst gh
   try simp at gh
  try subst gh
  try simp at gh
  refine .rn [2,3,4,5,6,7,8,9,10,11,12,13,14,15,16,17] [] ?_
  refine .done (.iM rfl (.skip ?_))
  change bO _ _ _ _ _ _ _ _
  refine .rn [3] [] ?_
  refine .done ?_
  refine .rec (ay:=[(8,.bool true)]) (aQ:=⟨10,[(9,.box [.int .i64 k,.int .i64 i,.int .i64 j,.int .i64 l,.int .i64 w]),(8,.box [.bN 7]),(7,kH 6 c i j none),(6,.box [.bN 5]),(5,sS none),(4,.box [.int .i64 i,.int .i64 j]),(3,.box [.aY 2]),(2,.map (a8 (places c) D)),(1,.box [.func f xs ys])]⟩) (.mk [] [] Fo Fp rfl rfl rfl) ?_
  refine .ret ?_
  exact⟨_,gj,rfl,rfl⟩
 ·
  have ho:eu c i j p D ⟨k,i,j,l,w⟩=D:=by unfold eu;rw[dw]
  rw[yI hd] at db
  unfold ik at db
  rw[ho]
  have ss:=(mf bq hd).2.2.2.2.2
  have kr:=sQ c wr j ep (by omega)
  rw[hb] at kr
  unfold aK at kr
  refine .sr ?_
  refine .sr ?_
  refine .seq (.aD dU rfl af (.rn [0,1] _ ?_))
  refine .step rfl rfl (.yield rfl rfl rfl rfl rfl (by decide) rfl ?_)
  refine .rn ?_
  refine .block (.seq (.aD j5 rfl af (.rn [0,1] _ ?_)))
  refine .pc rfl rfl rfl rfl rfl call95 (db) ?_
  refine .rn [3,4,5,6,7,8,9,10,11,12] [] ?_
  refine .done (.seq (.aD nJ rfl af ?_))
  refine .rn [0,1] _ ?_
  refine .split (t:=63) rfl (fun gh=>?_) (fun gh=>?_)
  ·try subst gh
   try simp at gh
   refine .rn [2,3,4,5] _ ?_
   refine .pc rfl rfl rfl rfl rfl call96 (kr) ?_
   refine .rn [7,8] _ ?_
   refine .split (t:=70) rfl (fun jg=>?_) (fun jg=>?_)
   ·try subst jg
    try simp at jg
   try subst jg
   try simp at jg
   refine .rn [9,10,11,12,13,14,15,16,17] [] ?_
   refine .done (.iM rfl (.skip ?_))
   change bO _ _ _ _ _ _ _ _
   refine .rn [3] [] ?_
   refine .done ?_
   refine .rec (ay:=[(8,.bool true)]) (aQ:=⟨10,[(9,.box [.int .i64 k,.int .i64 i,.int .i64 j,.int .i64 l,.int .i64 w]),(8,.box [.bN 7]),(7,kH 6 c i j none),(6,.box [.bN 5]),(5,sS none),(4,.box [.int .i64 i,.int .i64 j]),(3,.box [.aY 2]),(2,.map (a8 (places c) D)),(1,.box [.func f xs ys])]⟩) (.mk [] [] Fo Fp rfl rfl rfl) ?_
   refine .ret ?_
   exact⟨_,gj,rfl,rfl⟩
  try subst gh
  try simp at gh
 ·
  have ho:eu c i j p D ⟨k,i,j,l,w⟩=ed p D ⟨i,j,i',j+wr.length,n,some ⟨k,i,j,l,w⟩⟩:=by unfold eu;rw[dw]
  rw[yI hd] at db
  unfold ik at db
  rw[ho]
  have im:=mf bq hd
  have ss:=im.2.2.2.2.2
  have BX:=im.1
  have xx:i'≤c.t.length:=im.2.2.2.1
  have kr:=sQ c wr j ep (by omega)
  have dN:j+wr.length≤c.c.length:=by unfold hasB at hb;rw[bR,decide_eq_true_eq] at hb;exact hb.1
  rw[hb] at kr
  unfold aK at kr
  obtain⟨j1,BY⟩:∃j1,j+wr.length=j1:=⟨_,rfl⟩
  have vy:IntKind.i64.wrap ((j:Int)+(wr.length:Int))=(j1:Int):=by rw[wrap64 (by omega) (by omega)];omega
  rw[BY] at dN ⊢
  simp only[vy] at db
  have pR:=hp ⟨i,j,i',j1,n,some ⟨k,i,j,l,w⟩⟩
  have yS:cP ⟨i,j,i',j1,n,some ⟨k,i,j,l,w⟩⟩=.agg [.int .i64 i,.int .i64 j,.int .i64 i',.int .i64 j1,.int .i64 k,.int .i64 i,.int .i64 j,.int .i64 l,.int .i64 w,.int .i64 n,.bool false]:=rfl
  rw[yS] at pR
  obtain⟨pv,Du⟩:∃b,p ⟨i,j,i',j1,n,some ⟨k,i,j,l,w⟩⟩=b:=⟨_,rfl⟩
  rw[Du] at pR
  have iq:=hD i' j1
  have xy:kq [.int .i64 i',.int .i64 j1] (a8 (places c) D)=some (some (.int .i64 (D i' j1))):=by
   have:=vx i' j1 D (places c)
   rw[if_pos (xu.2 ⟨xx,dN⟩)] at this
   exact this
  have sU:∀v,o7 [.int .i64 i',.int .i64 j1] [.int .i64 i',.int .i64 j1] (.int .i64 v) (a8 (places c) D)=some (a8 (places c) (bu D i' j1 v)):=fun v=>Fq (xu.2 ⟨xx,dN⟩) v
  have qQ:ed p D ⟨i,j,i',j1,n,some ⟨k,i,j,l,w⟩⟩=if d0<1099511627776∧pv=true then bu D i' j1 (min (D i' j1) (d0+n)) else D:=by unfold ed;simp only[mz,Du]
  rw[qQ]
  obtain⟨d1,j3⟩:∃d,D i' j1=d:=⟨_,rfl⟩
  rw[j3] at xy iq ⊢
  have BO:IntKind.i64.wrap (d0+n)=d0+n:=wrap64 (by omega) (by omega)
  clear hD vy ho dw hE hb hd im ss
  refine .sr ?_
  refine .sr ?_
  refine .seq (.aD dU rfl af (.rn [0,1] _ ?_))
  refine .step rfl rfl (.yield rfl rfl rfl rfl rfl (by decide) rfl ?_)
  refine .rn ?_
  refine .block (.seq (.aD j5 rfl af (.rn [0,1] _ ?_)))
  refine .pc rfl rfl rfl rfl rfl call95 (db) ?_
  refine .rn [3,4,5,6,7,8,9,10,11,12] [] ?_
  refine .done (.seq (.aD nJ rfl af ?_))
  refine .rn [0,1] _ ?_
  refine .split (t:=63) rfl (fun gh=>?_) (fun gh=>?_)
  ·try subst gh
   try simp at gh
   refine .rn [2,3,4,5] _ ?_
   refine .pc rfl rfl rfl rfl rfl call96 (kr) ?_
   refine .rn [7,8] _ ?_
   refine .split (t:=70) rfl (fun jg=>?_) (fun jg=>?_)
   ·try subst jg
    try simp at jg
    refine .rn [9,10,11,12,13,14] _ ?_
    refine .step rfl rfl (.yield rfl rfl rfl rfl rfl (by decide) rfl ?_)
    refine .rn ?_
    refine .block (.seq (.aD qJ rfl af (.rn gy _ ?_)))
    refine .split (t:=60) rfl (fun j8=>?_) (fun j8=>?_)
    ·try subst j8
     try simp at j8
     have aU:d0<1099511627776:=by simpa using eC
     refine .rn [5,6] _ ?_
     refine .step rfl rfl (.pure rfl rfl rfl dM (by decide) (pR) (by first|rfl|simp[*]) ?_)
     rintro _ rfl
     refine .rn [8] [] ?_
     refine .done ?_
     refine .cs ?_ ?_<;>intro o8
     ·try simp at o8
      rw[if_pos ⟨aU,o8⟩]
      have u5:(if d0+n<d1 then d0+n else d1)=min d1 (d0+n):=by split<;>omega
      refine .drawn (ms:=[0,0,2,0,0,16,56,0,0,384,0,1024,3968,8184,16383]) (W:=[14]) (items:=P5) rfl af af af ?_
      iterate 14 refine .rx ?_
      refine .wv ?_
      refine .done ?_
      change bO _ _ _ _ _ _ _ _
      refine .rn [16,17] [] ?_
      refine .done (.iM rfl (.skip ?_))
      change bO _ _ _ _ _ _ _ _
      refine .rn [3] [] ?_
      refine .done ?_
      refine .rec (ay:=[(8,.bool true)]) (aQ:=⟨10,[(9,.box [.int .i64 k,.int .i64 i,.int .i64 j,.int .i64 l,.int .i64 w]),(8,.box [.bN 7]),(7,kH 6 c i j none),(6,.box [.bN 5]),(5,sS none),(4,.box [.int .i64 i,.int .i64 j]),(3,.box [.aY 2]),(2,.map (a8 (places c) (bu D i' j1 (min d1 (d0+n))))),(1,.box [.func f xs ys])]⟩) (.mk [] [] Fo Fp rfl rfl rfl) ?_
      refine .ret ?_
      exact⟨_,gj,rfl,rfl⟩
     try simp at o8
     rw[if_neg (fun hh=>by rw[o8] at hh;cases hh.2)]
     refine .skip ?_
     change bO _ _ _ _ _ _ _ _
     refine .rn [16,17] [] ?_
     refine .done (.iM rfl (.skip ?_))
     change bO _ _ _ _ _ _ _ _
     refine .rn [3] [] ?_
     refine .done ?_
     refine .rec (ay:=[(8,.bool true)]) (aQ:=⟨10,[(9,.box [.int .i64 k,.int .i64 i,.int .i64 j,.int .i64 l,.int .i64 w]),(8,.box [.bN 7]),(7,kH 6 c i j none),(6,.box [.bN 5]),(5,sS none),(4,.box [.int .i64 i,.int .i64 j]),(3,.box [.aY 2]),(2,.map (a8 (places c) D)),(1,.box [.func f xs ys])]⟩) (.mk [] [] Fo Fp rfl rfl rfl) ?_
     refine .ret ?_
     exact⟨_,gj,rfl,rfl⟩
    try subst j8
    try simp at j8
    rw[if_neg (fun hh=>by simp[hh.1] at eC)]
    refine .rn [5,6,7,8] [] ?_
    refine .done (.iM rfl (.skip ?_))
    change bO _ _ _ _ _ _ _ _
    refine .rn [16,17] [] ?_
    refine .done (.iM rfl (.skip ?_))
    change bO _ _ _ _ _ _ _ _
    refine .rn [3] [] ?_
    refine .done ?_
    refine .rec (ay:=[(8,.bool true)]) (aQ:=⟨10,[(9,.box [.int .i64 k,.int .i64 i,.int .i64 j,.int .i64 l,.int .i64 w]),(8,.box [.bN 7]),(7,kH 6 c i j none),(6,.box [.bN 5]),(5,sS none),(4,.box [.int .i64 i,.int .i64 j]),(3,.box [.aY 2]),(2,.map (a8 (places c) D)),(1,.box [.func f xs ys])]⟩) (.mk [] [] Fo Fp rfl rfl rfl) ?_
    refine .ret ?_
    exact⟨_,gj,rfl,rfl⟩
   try subst jg
   try simp at jg
  try subst gh
  try simp at gh
def iN (D:Nat→Nat→Int):Prop:=∀a b,0≤D a b∧D a b≤1099511627776
theorem KZ {D:Nat→Nat→Int}{p:aO→Bool}{x:aO}(h:iN D)(hn:0≤x.n):iN (ed p D x):=fun a b=>by
 unfold ed
 split
 ·rename_i hh
  unfold bu
  have h1:=h x.i x.j
  have h2:=h x.i' x.j'
  split
  ·omega
  exact h a b
 exact h a b
theorem P6 {c:aq}(hr:Rt c){i j:Nat}{D:Nat→Nat→Int}{p:aO→Bool}{s:ai}(h:iN D):iN (eu c i j p D s):=by
 unfold eu
 cases hs:stepOf c i j s with
 |none=>exact h
 |some x=>
  refine KZ h ?_
  unfold stepOf at hs
  cases hd:aR c s with
  |none=>rw[hd] at hs;cases hs
  |some y=>
   obtain⟨n,i',w⟩:=y
   rw[hd] at hs
   simp only at hs
   split at hs
   ·cases hs
    have:=(mf hr hd).1
    show 0≤n
    omega
   cases hs
theorem Fs {c:aq}(hr:Rt c){i j:Nat}{p:aO→Bool}:∀(l:List ai) {D:Nat→Nat→Int},iN D→iN (l.foldl (eu c i j p) D)
 |[],_,h=>h
 |s::r,_,h=>Fs hr r (P6 hr h)
theorem P7 {c:aq}{i j:Nat}{p:aO→Bool}:∀(l:List ai) (D:Nat→Nat→Int),l.foldl (eu c i j p) D=(l.filterMap (stepOf c i j)).foldl (ed p) D
 |[],_=>rfl
 |s::r,D=>by
  rw[List.foldl_cons,P7 r,List.filterMap_cons]
  unfold eu
  cases stepOf c i j s<;>rfl
def cg (c:aq)(i j:Nat):List aO:=if i<c.t.length∧j<c.c.length∧c.t.getD i 0=c.c.getD j 0 then [⟨i,j,i+1,j+1,0,none⟩] else []
theorem XM (c:aq)(i j:Nat)(p:aO→Bool)(D:Nat→Nat→Int):(steps c i j).foldl (ed p) D=(kS c i j).foldl (eu c i j p) ((cg c i j).foldl (ed p) D):=by
 rw[P7];unfold steps cg;rw[List.foldl_append]
theorem XN {c:aq}{i j:Nat}{p:aO→Bool}{D:Nat→Nat→Int}(h:iN D):iN ((cg c i j).foldl (ed p) D):=by
 unfold cg
 split
 ·exact KZ h (by simp)
 exact h
def qR (c:aq)(p:aO→Bool)(i j:Nat):Nat→Nat→Int:=((mg (c.c.length+1) i j).flatMap fun q=>steps c q.1 q.2).foldl (ed p) (bu (fun _ _=>1099511627776) 0 0 0)
def fwd (c:aq)(p:aO→Bool):Nat→Nat→Int:=(graph c).foldl (ed p) (bu (fun _ _=>1099511627776) 0 0 0)
theorem XO (c:aq)(p:aO→Bool):qR c p 0 0=bu (fun _ _=>1099511627776) 0 0 0:=rfl
theorem XP (c:aq)(p:aO→Bool)(i j:Nat):qR c p i (j+1)=(steps c i j).foldl (ed p) (qR c p i j):=by
 unfold qR;rw[Ii,List.flatMap_append,List.foldl_append];simp
theorem XQ (c:aq)(p:aO→Bool)(i:Nat):qR c p i (c.c.length+1)=qR c p (i+1) 0:=by unfold qR;rw[Ij]
theorem P8 (c:aq)(p:aO→Bool):qR c p (c.t.length+1) 0=fwd c p:=by unfold qR fwd graph;rw[Ft]
theorem XR:iN (bu (fun _ _=>1099511627776) 0 0 0):=fun a b=>by
 unfold bu
 split
 ·exact⟨by decide,by decide⟩
 show (0:Int)≤1099511627776∧(1099511627776:Int)≤1099511627776
 decide
theorem P9 {p:aO→Bool}:∀(l:List aO) {D:Nat→Nat→Int},(∀x∈l,0≤x.n)→iN D→iN (l.foldl (ed p) D)
 |[],_,_,h=>h
 |x::r,_,hx,h=>P9 r (fun y hy=>hx y (List.mem_cons_of_mem _ hy)) (KZ h (hx x List.mem_cons_self))
theorem Qa {c:aq}(hr:Rt c)(p:aO→Bool)(i j:Nat):iN (qR c p i j):=by
 unfold qR
 refine P9 _ (fun x hx=>?_) XR
 obtain⟨q,_,hq⟩:=List.mem_flatMap.1 hx
 exact(jh hr hq).n0
theorem XS (i j:Nat):bu (fun _ _=>(1099511627776:Int)) i j 1099511627776=fun _ _=>1099511627776:=by
 funext a b;unfold bu;split<;>rfl
theorem XU {m i j:Nat}:o7 [.int .i64 i,.int .i64 j] [.int .i64 i,.int .i64 j] (.int .i64 1099511627776) (a8 (mg m i j) fun _ _=>1099511627776)=some (a8 (mg m i (j+1)) fun _ _=>1099511627776):=by
 have:=Fu (a:=i) (b:=j) (D:=fun _ _=>1099511627776) (ps:=mg m i j) (by rw[Qb];omega) 1099511627776
 rw[XS,← Ii] at this
 exact this
theorem XV {c:aq}:o7 [.int .i64 0,.int .i64 0] [.int .i64 0,.int .i64 0] (.int .i64 0) (a8 (places c) fun _ _=>1099511627776)=some (a8 (places c) (bu (fun _ _=>1099511627776) 0 0 0)):=
 Fq (a:=0) (b:=0) (xu.2 ⟨Nat.zero_le _,Nat.zero_le _⟩) 0
variable [bE] in
theorem Fv (c:aq)(p:aO→Bool)(f:FuncId)(xs ys:List PV)(hk:bP c=0)(hx:PV.aG xs=true)(hy:PV.aG ys=true)(dM:∀cs w,(callFunc f cs).run prog w=.ok (.enter f cs) w)(hp:∀x:aO,aM prog f (xs++[cP x]++ys) fun r=>r=.bool (p x)):aM prog 135 [aK c,.func f xs ys] fun r=>r=.az (a8 (places c) (fwd c p)):=by
 have bq:=j7 hk
 have o4:=bq.tl
 have ep:=bq.cl
 have qL:=bq.vn
 have hC:dh c=(cQ c):=rfl
 have x6:IntKind.i64.wrap ((c.t.length:Int)+1)=(c.t.length:Int)+1:=wrap64 (by omega) (by omega)
 have mT:IntKind.i64.wrap ((c.c.length:Int)+1)=(c.c.length:Int)+1:=wrap64 (by omega) (by omega)
 have Qc:mg (c.c.length+1) 0 0=[]:=rfl
 have lW:a8 [] (fun _ _=>1099511627776)=[]:=rfl
 have Qd:∀vh,b9 vh xs=some xs:=fun vh=>vz vh hx
 have Qe:∀vh,b9 vh ys=some ys:=fun vh=>vz vh hy
 have j9:=@XV c
 have mh:=fun i j:Nat=>Ie c i j
 have qS:=fun i j:Nat=>Fm c i j
 unfold aK at mh qS ⊢
 unfold ik at mh qS
 rw[hC] at mh qS ⊢
 refine .bV func135 rfl rfl ?_
 refine .sr ?_
 refine .sr ?_
 refine .seq (.sr ?_)
 refine .block ?_
 refine .dF (fun i:Nat=>([(2,.ptr 0 0),(3,.ptr 1 0),(5,.ptr 3 0),(16,.int .i64 ((c.t.length:Int)+1)),(17,.int .i64 i)],⟨4,[(3,.box [.aY 2]),(2,.map (a8 (mg (c.c.length+1) i 0) (fun _ _=>1099511627776))),(1,.box [.func f xs ys]),(0,.box (cQ c))]⟩)) (fun i=>i≤c.t.length+1) (fun i=>c.t.length+1 - i) 0 (by simp) (by simp only[Qc,lW];exact bx) ?_
 rintro i hi
 simp only at hi ⊢
 refine .sr ?_
 refine .seq ?_
 refine .cs ?_ ?_<;>intro pS
 ·try simp at pS
  have eP:=fy i
  refine .skip (.seq (.block (.sr ?_)))
  refine .sr ?_
  refine .block ?_
  refine .dF (fun j:Nat=>([(2,.ptr 0 0),(3,.ptr 1 0),(5,.ptr 3 0),(6,.int .i64 i),(16,.int .i64 ((c.t.length:Int)+1)),(17,.int .i64 i),(23,.int .i64 ((c.c.length:Int)+1)),(24,.int .i64 j)],⟨4,[(3,.box [.aY 2]),(2,.map (a8 (mg (c.c.length+1) i j) (fun _ _=>1099511627776))),(1,.box [.func f xs ys]),(0,.box (cQ c))]⟩)) (fun j=>j≤c.c.length+1) (fun j=>c.c.length+1 - j) 0 (by simp) bx ?_
  rintro j hj
  simp only at hj ⊢
  refine .sr ?_
  refine .seq ?_
  refine .cs ?_ ?_<;>intro fN
  ·try simp at fN
   have rV:=fy j
   have Bk:=@XU (c.c.length+1) i j
   refine .skip (.seq (.block (.sr ?_)))
   refine .rn ?_
   refine .rn ?_
   refine⟨j+1,bt,bt,bx⟩
  try simp at fN
  obtain rfl:j=c.c.length+1:=by omega
  refine .exit (.rn ?_)
  refine⟨i+1,bt,bt,by rw[← Ij];exact bx⟩
 try simp at pS
 obtain rfl:i=c.t.length+1:=by omega
 rw[Ft]
 refine .exit (.sr ?_)
 refine .seq (.sr ?_)
 refine .block ?_
 refine .dF (fun i:Nat=>([(2,.ptr 0 0),(3,.ptr 1 0),(5,.ptr 3 0),(38,.int .i64 ((c.t.length:Int)+1)),(39,.int .i64 i)],⟨4,[(3,.box [.aY 2]),(2,.map (a8 (places c) (qR c p i 0))),(1,.box [.func f xs ys]),(0,.box (cQ c))]⟩)) (fun i=>i≤c.t.length+1) (fun i=>c.t.length+1 - i) 0 (by simp) (by simp only[XO];exact bx) ?_
 rintro i hi
 simp only at hi ⊢
 refine .sr ?_
 refine .seq ?_
 refine .cs ?_ ?_<;>intro ka
 ·try simp at ka
  have eP:=fy i
  have oh:i≤c.t.length:=by omega
  refine .skip (.seq (.block (.sr ?_)))
  refine .sr ?_
  refine .block ?_
  refine .dF (fun j:Nat=>([(2,.ptr 0 0),(3,.ptr 1 0),(5,.ptr 3 0),(8,.int .i64 i),(38,.int .i64 ((c.t.length:Int)+1)),(39,.int .i64 i),(45,.int .i64 ((c.c.length:Int)+1)),(46,.int .i64 j)],⟨4,[(3,.box [.aY 2]),(2,.map (a8 (places c) (qR c p i j))),(1,.box [.func f xs ys]),(0,.box (cQ c))]⟩)) (fun j=>j≤c.c.length+1) (fun j=>c.c.length+1 - j) 0 (by simp) bx ?_
  rintro j hj
  simp only at hj ⊢
  refine .sr ?_
  refine .seq ?_
  refine .cs ?_ ?_<;>intro tX
  ·try simp at tX
   have rV:=fy j
   have nI:j≤c.c.length:=by omega
   have mS:=XP c p i j
   rw[XM,P3] at mS
   have hD:=Qa bq p i j
   obtain⟨D,Fw⟩:∃D,qR c p i j=D:=⟨_,rfl⟩
   rw[Fw] at mS hD ⊢
   have l5:¬(i<c.t.length∧j<c.c.length∧c.t.getD i 0=c.c.getD j 0)→(cg c i j).foldl (ed p) D=D:=fun h=>by unfold cg;rw[if_neg h];rfl
   have mZ:i<c.t.length∧j<c.c.length∧c.t.getD i 0=c.c.getD j 0→(cg c i j).foldl (ed p) D=ed p D ⟨i,j,i+1,j+1,0,none⟩:=fun h=>by unfold cg;rw[if_pos h];rfl
   have Fx:iN ((cg c i j).foldl (ed p) D):=XN hD
   obtain⟨D1,iq⟩:∃D1,(cg c i j).foldl (ed p) D=D1:=⟨_,rfl⟩
   rw[iq] at mS l5 mZ Fx
   have fJ:=hD i j
   have jN:kq [.int .i64 i,.int .i64 j] (a8 (places c) D)=some (some (.int .i64 (D i j))):=by
    have:=vx i j D (places c)
    rw[if_pos (xu.2 ⟨oh,nI⟩)] at this
    exact this
   obtain⟨d0,mz⟩:∃d,D i j=d:=⟨_,rfl⟩
   rw[mz] at jN fJ
   obtain⟨e0,eC⟩:∃b,decide (i<c.t.length)=b:=⟨_,rfl⟩
   obtain⟨e1,iL⟩:∃b,decide (j<c.c.length)=b:=⟨_,rfl⟩
   obtain⟨e2,Dr⟩:∃b,decide (d0<1099511627776)=b:=⟨_,rfl⟩
   have pR:=hp ⟨i,j,i+1,j+1,0,none⟩
   have yS:cP ⟨i,j,i+1,j+1,0,none⟩=.agg [.int .i64 i,.int .i64 j,.int .i64 ((i:Int)+1),.int .i64 ((j:Int)+1),.int .i64 0,.int .i64 0,.int .i64 0,.int .i64 0,.int .i64 0,.int .i64 0,.bool true]:=rfl
   rw[yS] at pR
   obtain⟨pv,Du⟩:∃b,p ⟨i,j,i+1,j+1,0,none⟩=b:=⟨_,rfl⟩
   rw[Du] at pR
   have qQ:ed p D ⟨i,j,i+1,j+1,0,none⟩=if d0<1099511627776∧pv=true then bu D (i+1) (j+1) (min (D (i+1) (j+1)) d0) else D:=by unfold ed;simp only[mz,Du,Int.add_zero]
   rw[qQ] at mZ
   have Qf:=hD (i+1) (j+1)
   obtain⟨d1,j3⟩:∃d,D (i+1) (j+1)=d:=⟨_,rfl⟩
   rw[j3] at mZ Qf
   have BO:IntKind.i64.wrap d0=d0:=wrap64 (by omega) (by omega)
   obtain⟨cv,iD⟩:∃v,c.c.getD j 0=v:=⟨_,rfl⟩
   rw[iD] at l5 mZ mS
   obtain⟨tv,nG⟩:∃v,c.t.getD i 0=v:=⟨_,rfl⟩
   rw[nG] at l5 mZ
   obtain⟨A,hA⟩:∃A,(pO c i j).foldl (eu c i j p) D1=A:=⟨_,rfl⟩
   have XW:iN A:=hA▸Fs bq _ Fx
   obtain⟨XL,Dv⟩:∃X:Nat→Nat→Nat→Int,∀n,X n=(og i j n).foldl (eu c i j p) A:=⟨_,fun _=>rfl⟩
   obtain⟨XT,Dw⟩:∃X:Nat→Nat→Nat→Int,∀n,X n=(o5 i j n).foldl (eu c i j p) (XL (c.t.length - i)):=⟨_,fun _=>rfl⟩
   obtain⟨XG,Dx⟩:∃X:Nat→Nat→Nat→Int,∀n,X n=(pP i j n).foldl (eu c i j p) (XT i):=⟨_,fun _=>rfl⟩
   have Fy:∀n,iN (XL n):=fun n=>by rw[Dv];exact Fs bq _ XW
   have FA:∀n,iN (XT n):=fun n=>by rw[Dw];exact Fs bq _ (Fy _)
   have FB:∀n,iN (XG n):=fun n=>by rw[Dx];exact Fs bq _ (FA _)
   have K0:XL 0=A:=Dv 0
   have K1:XT 0=XL (c.t.length - i):=Dw 0
   have K2:XG 0=XT i:=Dx 0
   have K3:∀n:Nat,eu c i j p (XL n) ⟨3,i,j,(n:Int)+1,0⟩=XL (n+1):=fun n=>by rw[Dv (n+1),If,List.foldl_append,← Dv];rfl
   have K4:∀n:Nat,eu c i j p (XT n) ⟨4,i,j,(n:Int)+1,0⟩=XT (n+1):=fun n=>by rw[Dw (n+1),Ig,List.foldl_append,← Dw];rfl
   have K5:∀n:Nat,eu c i j p (XG n) ⟨5,i,j,(n:Int),0⟩=XG (n+1):=fun n=>by rw[Dx (n+1),Ih,List.foldl_append,← Dx];rfl
   have cU:(if j<c.c.length then eu c i j p (XG c.g.length) ⟨6,i,j,0,cv⟩ else XG c.g.length)=qR c p i (j+1):=by
    rw[mS,List.foldl_append,List.foldl_append,List.foldl_append,List.foldl_append,hA,← Dv,← Dw,← Dx]
    split<;>rfl
   have pT:j<c.c.length→eu c i j p (eu c i j p D1 ⟨1,i,j,0,cv⟩) ⟨2,i,j,0,0⟩=A:=fun h=>by
    rw[← hA];unfold pO;rw[if_pos h,iD];rfl
   have BZ:¬j<c.c.length→eu c i j p D1 ⟨2,i,j,0,0⟩=A:=fun h=>by
    rw[← hA];unfold pO;rw[if_neg h];rfl
   clear Dv Dw Dx hA mS Fw yS qQ iq
   refine .skip (.seq (.block (.sr ?_)))
   refine .sr ?_
   refine .seq (.aD [0,1,2] rfl af (.rn [0,1] _ ?_))
   refine .pc rfl rfl rfl rfl rfl call79 (mh i j) ?_
   refine .done (.block ?_)
   refine .rangeFunc rfl call138 func138 rfl rfl rfl ?_
   refine .sr ?_
   refine .join (fun _:Unit=>([(1,.vp [.int .i64 i,.int .i64 j]),(2,.vp (dh c)),(3,.ptr 6 0)],⟨7,[(6,.box [.bN 5]),(5,sS none),(4,.box [.int .i64 i,.int .i64 j]),(3,.box [.aY 2]),(2,.map (a8 (places c) (D1))),(1,.box [.func f xs ys]),(0,.box (cQ c))]⟩)) (fun _=>True) ?_ ?_
   ·skip
    refine .seq ?_
    refine .drawn (ms:=[0,1,0,4,12,31,63,127,255,127,639,1663,4095,8191,16383,32767,65535,32767,163839,524287,1048575,32767,2129919,32767,8421375,31490047,65044479,134217727,268435455]) (W:=[]) (items:=Dy) rfl af af af ?_
    iterate 7 refine .rx ?_
    refine .split (t:=15) rfl (fun cq=>?_) (fun cq=>?_)
    ·try subst cq
     try simp at cq
     iterate 8 refine .rx ?_
     refine .split (t:=23) rfl (fun fO=>?_) (fun fO=>?_)
     ·try subst fO
      try simp at fO
      have xx:i<c.t.length:=by simpa using eC
      have dN:j<c.c.length:=by simpa using iL
      have Dz:c.t[i]=tv:=by rw[← nG,List.getD_eq_getElem?_getD,List.getElem?_eq_getElem xx];rfl
      have XX:c.c[j]=cv:=by rw[← iD,List.getD_eq_getElem?_getD,List.getElem?_eq_getElem dN];rfl
      iterate 14 refine .rx ?_
      refine .done ?_
      refine .cs ?_ ?_<;>intro pU
      ·try simp at pU
       have mZ:=mZ ⟨xx,dN,pU⟩
       have xy:kq [.int .i64 ((i:Int)+1),.int .i64 ((j:Int)+1)] (a8 (places c) D)=some (some (.int .i64 d1)):=by
        have:=vx (i+1) (j+1) D (places c)
        rw[if_pos (xu.2 ⟨xx,dN⟩),j3] at this
        exact this
       have sU:∀v,o7 [.int .i64 ((i:Int)+1),.int .i64 ((j:Int)+1)] [.int .i64 ((i:Int)+1),.int .i64 ((j:Int)+1)] (.int .i64 v) (a8 (places c) D)=some (a8 (places c) (bu D (i+1) (j+1) v)):=fun v=>Fq (xu.2 ⟨xx,dN⟩) v
       have u5:(if d0<d1 then d0 else d1)=min d1 d0:=by split<;>omega
       refine .seq (.aD yJ rfl af (.rn ij _ ?_))
       refine .step rfl rfl (.yield rfl rfl rfl rfl rfl (by decide) rfl ?_)
       refine .rn ?_
       refine .block (.seq (.aD qJ rfl af (.rn gy _ ?_)))
       refine .split (t:=60) rfl (fun j8=>?_) (fun j8=>?_)
       ·try subst j8
        try simp at j8
        have aU:d0<1099511627776:=by simpa using Dr
        refine .rn [5,6] _ ?_
        refine .step rfl rfl (.pure rfl rfl rfl dM (by decide) (pR) (by first|rfl|simp[*]) ?_)
        rintro _ rfl
        refine .rn [8] [] ?_
        refine .done ?_
        refine .cs ?_ ?_<;>intro o8
        ·try simp at o8
         rw[if_pos ⟨aU,o8⟩] at mZ
         refine .drawn (ms:=[0,0,2,0,0,16,56,0,0,384,0,1024,3968,8184,16383]) (W:=[14]) (items:=P5) rfl af af af ?_
         iterate 14 refine .rx ?_
         refine .wv ?_
         refine .done ?_
         change bO _ _ _ _ _ _ _ _
         refine .rn [11] [] ?_
         refine .done (.iM rfl (.skip ?_))
         refine⟨(),trivial,by rw[mZ];exact(.mk [] [] qT ji rfl rfl rfl)⟩
        try simp at o8
        rw[if_neg (fun hh=>by rw[o8] at hh;cases hh.2)] at mZ
        refine .skip ?_
        change bO _ _ _ _ _ _ _ _
        refine .rn [11] [] ?_
        refine .done (.iM rfl (.skip ?_))
        refine⟨(),trivial,by rw[mZ];exact(.mk [] [] qT ji rfl rfl rfl)⟩
       try subst j8
       try simp at j8
       rw[if_neg (fun hh=>by simp[hh.1] at Dr)] at mZ
       refine .rn [5,6,7,8] [] ?_
       refine .done (.iM rfl (.skip ?_))
       change bO _ _ _ _ _ _ _ _
       refine .rn [11] [] ?_
       refine .done (.iM rfl (.skip ?_))
       refine⟨(),trivial,by rw[mZ];exact(.mk [] [] qT ji rfl rfl rfl)⟩
      try simp at pU
      have mZ:=l5 (fun hh=>pU hh.2.2)
      refine .skip ?_
      refine⟨(),trivial,by rw[mZ];exact(.mk [] [] qT ji rfl rfl rfl)⟩
     try subst fO
     try simp at fO
     have mZ:=l5 (fun hh=>by simp[hh.2.1] at iL)
     iterate 13 refine .ux ?_
     refine .rx ?_
     refine .done (.iM rfl (.skip ?_))
     refine⟨(),trivial,by rw[mZ];exact(.mk [] [] qT ji rfl rfl rfl)⟩
    try subst cq
    try simp at cq
    have mZ:=l5 (fun hh=>by simp[hh.1] at eC)
    iterate 6 refine .ux ?_
    iterate 2 refine .rx ?_
    iterate 13 refine .ux ?_
    refine .rx ?_
    refine .done (.iM rfl (.skip ?_))
    refine⟨(),trivial,by rw[mZ];exact(.mk [] [] qT ji rfl rfl rfl)⟩
   skip
   rintro _ _
   simp only
   clear l5 mZ pR Du jN fJ Qf mz j3 BO Dr nG e2 d0 d1 pv tv hD
   refine .seq (.aD [0,1,2] rfl af (.rn [0,1] _ ?_))
   refine .pc rfl rfl rfl rfl rfl call139 (qS i j) ?_
   refine .done (.block ?_)
   refine .rangeFunc rfl call166 func166 rfl rfl rfl ?_
   refine .sr ?_
   refine .sr ?_
   refine .sr ?_
   refine .join (fun _:Unit=>([(1,.vp [.int .i64 i,.int .i64 j]),(2,.vp (dh c)),(5,.func 167 [] [.ptr 9 0,.ptr 8 0])],⟨10,[(9,.box [.int .i64 2,.int .i64 i,.int .i64 j,.int .i64 0,.int .i64 0]),(8,.box [.bN 7]),(7,kH 6 c i j none),(6,.box [.bN 5]),(5,sS none),(4,.box [.int .i64 i,.int .i64 j]),(3,.box [.aY 2]),(2,.map (a8 (places c) (A))),(1,.box [.func f xs ys]),(0,.box (cQ c))]⟩)) (fun _=>True) ?_ ?_
   ·skip
    refine .seq ?_
    refine .rec (ay:=[(1,.vp [.int .i64 i,.int .i64 j]),(2,.vp (dh c)),(5,.func 167 [] [.ptr 9 0,.ptr 8 0])]) (aQ:=⟨10,[(9,.box [.int .i64 0,.int .i64 i,.int .i64 j,.int .i64 0,.int .i64 0]),(8,.box [.bN 7]),(7,kH 6 c i j none),(6,.box [.bN 5]),(5,sS none),(4,.box [.int .i64 i,.int .i64 j]),(3,.box [.aY 2]),(2,.map (a8 (places c) (D1))),(1,.box [.func f xs ys]),(0,.box (cQ c))]⟩) (.mk [] [] qT ji rfl rfl rfl) ?_
    refine .aD FC rfl af (.rn iJ _ ?_)
    refine .split (t:=21) rfl (fun dG=>?_) (fun dG=>?_)
    ·try subst dG
     try simp at dG
     have dN:j<c.c.length:=by simpa using iL
     have vt:c.c[j]=cv:=by rw[← iD,List.getD_eq_getElem?_getD,List.getElem?_eq_getElem dN];rfl
     have w1:=BV c i j (D1) p f xs ys (1) (0) (cv) 0 0 0 hk oh nI (Fx) hx hy dM hp
     have hA:=pT dN
     obtain⟨L1,vA⟩:∃L,eu c i j p D1 ⟨1,i,j,0,cv⟩=L:=⟨_,rfl⟩
     have K6:iN L1:=vA▸P6 bq Fx
     rw[vA] at hA w1
     have w2:=BV c i j (L1) p f xs ys (2) (0) (0) 1 0 cv hk oh nI (K6) hx hy dM hp
     rw[hA] at w2
     refine .rn [7,8,9,10,11,12,13] _ ?_
     refine .step rfl rfl (.call rfl rfl rfl call167 (by decide) (((cR.frame (i:=0) rfl rfl w1)).mono ?_))
     rintro _ _ ⟨_,⟨rfl,rfl⟩,rfl⟩
     refine .rn [15,16,17] _ ?_
     refine .split (t:=32) rfl (fun eX=>?_) (fun eX=>?_)
     ·try subst eX
      try simp at eX
     try subst eX
     try simp at eX
     refine .rn [18] _ ?_
     refine .step rfl rfl (.call rfl rfl rfl call167 (by decide) (((cR.frame (i:=0) rfl rfl w2)).mono ?_))
     rintro _ _ ⟨_,⟨rfl,rfl⟩,rfl⟩
     refine .rn [20,21] [] ?_
     refine .done ?_
     refine .cs ?_ ?_<;>intro lE
     ·try simp at lE
     try simp at lE
     refine .skip ?_
     refine⟨(),trivial,(.mk [] [] qT ji rfl rfl rfl)⟩
    try subst dG
    try simp at dG
    have dN:¬j<c.c.length:=by simpa using iL
    have w2:=BV c i j (D1) p f xs ys (2) (0) (0) 0 0 0 hk oh nI (Fx) hx hy dM hp
    rw[BZ dN] at w2
    refine .rn [7,8,9,10,11,12,13,14,15,16,17,18] _ ?_
    refine .step rfl rfl (.call rfl rfl rfl call167 (by decide) (((cR.frame (i:=0) rfl rfl w2)).mono ?_))
    rintro _ _ ⟨_,⟨rfl,rfl⟩,rfl⟩
    refine .rn [20,21] [] ?_
    refine .done ?_
    refine .cs ?_ ?_<;>intro lE
    ·try simp at lE
    try simp at lE
    refine .skip ?_
    refine⟨(),trivial,(.mk [] [] qT ji rfl rfl rfl)⟩
   skip
   rintro _ _
   simp only
   have BP:IntKind.i64.wrap ((c.t.length:Int) - (i:Int))=(c.t.length:Int) - (i:Int):=wrap64 (by omega) (by omega)
   refine .seq (.sr ?_)
   refine .block ?_
   refine .dF (fun z:Nat×Int×Int×Int=>([(1,.vp [.int .i64 i,.int .i64 j]),(2,.vp (dh c)),(5,.func 167 [] [.ptr 9 0,.ptr 8 0]),(6,.int .i64 ((z.1:Int)+1))],⟨10,[(9,.box [.int .i64 z.2.1,.int .i64 i,.int .i64 j,.int .i64 z.2.2.1,.int .i64 z.2.2.2]),(8,.box [.bN 7]),(7,kH 6 c i j none),(6,.box [.bN 5]),(5,sS none),(4,.box [.int .i64 i,.int .i64 j]),(3,.box [.aY 2]),(2,.map (a8 (places c) (XL z.1))),(1,.box [.func f xs ys]),(0,.box (cQ c))]⟩)) (fun z=>z.1≤c.t.length - i) (fun z=>c.t.length - i - z.1) (0,2,0,0) (Nat.zero_le _) (by simp only[K0];exact(.mk [] [] qT ji rfl rfl rfl)) ?_
   rintro⟨n,k,l,w⟩ hn
   simp only at hn ⊢
   refine .seq (.sr ?_)
   refine .cs ?_ ?_<;>intro o9
   ·try simp at o9
    have jy:n<c.t.length - i:=by omega
    have w3:=BV c i j (XL n) p f xs ys (3) ((n:Int)+1) (0) k l w hk oh nI (Fy n) hx hy dM hp
    rw[K3] at w3
    have xt:IntKind.i64.wrap ((n:Int)+1+1)=(n:Int)+1+1:=wrap64 (by omega) (by omega)
    refine .skip (.seq (.block (.seq (.aD dU rfl af (.rn [0,1] _ ?_)))))
    refine .step rfl rfl (.call rfl rfl rfl call167 (by decide) (((cR.frame (i:=0) rfl rfl w3)).mono ?_))
    rintro _ _ ⟨_,⟨rfl,rfl⟩,rfl⟩
    refine .rn [3] [] ?_
    refine .done ?_
    refine .cs ?_ ?_<;>intro B0
    ·try simp at B0
    try simp at B0
    refine .skip (.rn ?_)
    refine⟨(n+1,3,(n:Int)+1,0),bt,bt,?_⟩
    simp only
    exact(.mk [] [] qT ji rfl rfl rfl)
   try simp at o9
   obtain rfl:n=c.t.length - i:=by omega
   refine .exit (.seq (.sr ?_))
   refine .block ?_
   refine .dF (fun z:Nat×Int×Int×Int=>([(1,.vp [.int .i64 i,.int .i64 j]),(2,.vp (dh c)),(5,.func 167 [] [.ptr 9 0,.ptr 8 0]),(7,.int .i64 ((z.1:Int)+1))],⟨10,[(9,.box [.int .i64 z.2.1,.int .i64 i,.int .i64 j,.int .i64 z.2.2.1,.int .i64 z.2.2.2]),(8,.box [.bN 7]),(7,kH 6 c i j none),(6,.box [.bN 5]),(5,sS none),(4,.box [.int .i64 i,.int .i64 j]),(3,.box [.aY 2]),(2,.map (a8 (places c) (XT z.1))),(1,.box [.func f xs ys]),(0,.box (cQ c))]⟩)) (fun z=>z.1≤i) (fun z=>i - z.1) (0,k,l,w) (Nat.zero_le _) (by simp only[K1];exact(.mk [] [] qT ji rfl rfl rfl)) ?_
   rintro⟨n,k,l,w⟩ hn
   simp only at hn ⊢
   refine .seq (.sr ?_)
   refine .cs ?_ ?_<;>intro xz
   ·try simp at xz
    have jy:n<i:=by omega
    have w3:=BV c i j (XT n) p f xs ys (4) ((n:Int)+1) (0) k l w hk oh nI (FA n) hx hy dM hp
    rw[K4] at w3
    have xt:IntKind.i64.wrap ((n:Int)+1+1)=(n:Int)+1+1:=wrap64 (by omega) (by omega)
    refine .skip (.seq (.block (.seq (.aD dU rfl af (.rn [0,1] _ ?_)))))
    refine .step rfl rfl (.call rfl rfl rfl call167 (by decide) (((cR.frame (i:=0) rfl rfl w3)).mono ?_))
    rintro _ _ ⟨_,⟨rfl,rfl⟩,rfl⟩
    refine .rn [3] [] ?_
    refine .done ?_
    refine .cs ?_ ?_<;>intro j8
    ·try simp at j8
    try simp at j8
    refine .skip (.rn ?_)
    refine⟨(n+1,4,(n:Int)+1,0),bt,bt,?_⟩
    simp only
    exact(.mk [] [] qT ji rfl rfl rfl)
   try simp at xz
   obtain rfl:i=n:=by omega
   refine .exit (.seq (.sr ?_))
   refine .block ?_
   refine .dF (fun z:Nat×Int×Int×Int=>([(1,.vp [.int .i64 i,.int .i64 j]),(2,.vp (dh c)),(5,.func 167 [] [.ptr 9 0,.ptr 8 0]),(63,.int .i64 c.g.length),(64,.int .i64 z.1)],⟨10,[(9,.box [.int .i64 z.2.1,.int .i64 i,.int .i64 j,.int .i64 z.2.2.1,.int .i64 z.2.2.2]),(8,.box [.bN 7]),(7,kH 6 c i j none),(6,.box [.bN 5]),(5,sS none),(4,.box [.int .i64 i,.int .i64 j]),(3,.box [.aY 2]),(2,.map (a8 (places c) (XG z.1))),(1,.box [.func f xs ys]),(0,.box (cQ c))]⟩)) (fun z=>z.1≤c.g.length) (fun z=>c.g.length - z.1) (0,k,l,w) (Nat.zero_le _) (by simp only[K2];exact(.mk [] [] qT ji rfl rfl rfl)) ?_
   rintro⟨n,k,l,w⟩ hn
   simp only at hn ⊢
   refine .sr ?_
   refine .seq ?_
   refine .cs ?_ ?_<;>intro DA
   ·try simp at DA
    have w3:=BV c i j (XG n) p f xs ys (5) ((n:Int)) (0) k l w hk oh nI (FB n) hx hy dM hp
    rw[K5] at w3
    have xt:=fy n
    refine .skip (.seq (.block (.sr ?_)))
    refine .seq (.aD dU rfl af (.rn [0,1] _ ?_))
    refine .step rfl rfl (.call rfl rfl rfl call167 (by decide) (((cR.frame (i:=0) rfl rfl w3)).mono ?_))
    rintro _ _ ⟨_,⟨rfl,rfl⟩,rfl⟩
    refine .rn [3] [] ?_
    refine .done ?_
    refine .cs ?_ ?_<;>intro jg
    ·try simp at jg
    try simp at jg
    refine .skip (.rn ?_)
    refine⟨(n+1,5,(n:Int),0),bt,bt,?_⟩
    simp only
    exact(.mk [] [] qT ji rfl rfl rfl)
   try simp at DA
   obtain rfl:n=c.g.length:=by omega
   refine .exit (.sr ?_)
   refine .cs ?_ ?_<;>intro ue
   ·try simp at ue
    have dN:j<c.c.length:=by rw[ue] at iL;simpa using iL
    rw[if_pos dN] at cU
    have vt:c.c[j]=cv:=by rw[← iD,List.getD_eq_getElem?_getD,List.getElem?_eq_getElem dN];rfl
    have w3:=BV c i j (XG c.g.length) p f xs ys (6) (0) (cv) k l w hk oh nI (FB _) hx hy dM hp
    rw[cU] at w3
    refine .aD lF rfl af (.rn iJ _ ?_)
    refine .step rfl rfl (.call rfl rfl rfl call167 (by decide) (((cR.frame (i:=0) rfl rfl w3)).mono ?_))
    rintro _ _ ⟨_,⟨rfl,rfl⟩,rfl⟩
    refine .done ?_
    change kU _ _ _ _
    refine B1 rfl ?_
    change kU _ _ _ _
    refine B1 rfl ?_
    refine .rn ?_
    refine⟨j+1,bt,bt,bx⟩
   try simp at ue
   have dN:¬j<c.c.length:=by rw[ue] at iL;simpa using iL
   rw[if_neg dN] at cU
   rw[cU]
   refine .skip ?_
   change kU _ _ _ _
   refine B1 rfl ?_
   change kU _ _ _ _
   refine B1 rfl ?_
   refine .rn ?_
   refine⟨j+1,bt,bt,bx⟩
  try simp at tX
  obtain rfl:j=c.c.length+1:=by omega
  refine .exit (.rn ?_)
  refine⟨i+1,bt,bt,by rw[← XQ];exact bx⟩
 try simp at ka
 obtain rfl:i=c.t.length+1:=by omega
 rw[P8]
 refine .exit (.sr ?_)
 refine .ret (aH ?_)
 exact zk
end Go.Am.Sl
end
