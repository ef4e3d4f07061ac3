/-
 What is used in the proof of a statement (part Vm1); no condition.
-/
import Derived.Test.YthnmgbgmlhackaaGreatDoorAm3
set_option linter.all false
set_option maxHeartbeats 40000000
set_option maxRecDepth 100000
section
namespace Go.Am
variable [bF]
section
variable {P:Program} {lo:Nat} {g:Fz} {σ:Sg} {vh:ai} {h:ah}
def ma (es:List PV):Bool:=es.all fun e=>e.cells.all PV.one
theorem YF {es:List PV}(h:ma es=true):(es.flatMap PV.cells).all PV.one=true:=by
 unfold ma at h
 rw[List.all_eq_true] at h ⊢
 intro v hv
 rw[List.mem_flatMap] at hv
 obtain⟨e,he,hv⟩:=hv
 exact(List.all_eq_true.1 (h e he)) v hv
theorem YG (s:VS lo g σ vh h){n:Nat}(hn:0<n){xs:List PV}{bw:List Value}(nl:Bool)(hl:∀e∈xs,e.cells.length=n)(hx:bh (FR g) (xs.flatMap PV.cells) bw)(aP:xs.length<az){v0:Value}(h0:v0=.slice none 0 0∨nl=false∧∃o off,v0=.slice (some ⟨o,off,none⟩) 0 0) :
  if xs.length=0 then jH lo g σ vh h (.grow vh.next xs.length nl) (vh.alloc (.grow n xs)) v0 h
  else jH lo g σ vh h (.grow vh.next xs.length nl) (vh.alloc (.grow n xs)) (.slice (some ⟨h.next,0,none⟩) xs.length az) (h.alloc (.cells n bw)):=by
 have cy:∀p i,i<vh.next→(σ.put vh.next p) i=σ i:=fun p i hi=>Sg.zy _ _ (by omega)
 split
 ·rename_i he
  have he:=List.eq_nil_of_length_eq_zero he
  subst he
  have h1:=s.Ts (x:=.grow n []) (0,0,0) ⟨hn,by simp,by decide,.inl rfl⟩ (fun hl=>by cases hl)
  refine⟨_,?_,h1,⟨Nat.le_refl _,fun _ _ _=>rfl,fun i x hx hl _=>?_⟩,Nat.le_succ _,cy _⟩
  ·rcases h0 with rfl|⟨rfl,o,off,rfl⟩
   ·exact .b8 _ _
   exact .b9 _ _ _
  rw[ai.jf] at hx
  by_cases hi:i=vh.next
  ·simp[hi] at hx;subst hx;cases hl
  simp[hi] at hx;rw[cy _ i (s.obj i x hx).1];exact⟨i,x,hx,hl,rfl⟩
 rename_i he
 obtain⟨h1,h2⟩:=s.alloc (x:=.grow n xs) (.cells n bw) az ⟨hn,hl,aP,.inr ⟨n,bw,by rw[Sg.cB,ah.jf,if_pos rfl],by rw[Sg.cB],hx,.inl ⟨by rw[Sg.cB],rfl⟩⟩⟩
 exact⟨_,.grow vh.next xs.length h.next 0 az nl (Nat.lt_succ_self _) (Sg.cB _ _ _) (by omega),h1,h2,Nat.le_succ _,cy _⟩
theorem jH.after {cn aV:ai}{h1 h2:ah}{v:PV}{v':Value}(hf:VF σ vh h σ cn h1)(hn:cn.next=vh.next)(hk:jH lo g σ cn h1 v aV v' h2):jH lo g σ vh h v aV v' h2:=by
 obtain⟨aR,k1,k2,k3,k4,k5⟩:=hk
 exact⟨aR,k1,k2,hf.trans k3,hn▸k4,fun i hi=>k5 i (hn▸hi)⟩
theorem YH (s:VS lo g σ vh h){n:Nat}(hn:0<n){i l o k s0:Nat}{x:aM}{es xs:List PV}{ar bw:List Value}(nl:Bool)(hg:vh.get i=some x)(kv:x.live=true)(hi:i<vh.next)(hs:σ i=(o,0,k)∨(σ i).1=o)(hl:∀e∈es,e.cells.length=n)(mq:∀e∈xs,e.cells.length=n)
  (ho:h.get o=some (.cells s0 ar)) (hc:bh (FR g) (es.flatMap PV.cells) ar) (hx:bh (FR g) (xs.flatMap PV.cells) bw) (rD:es.length=l) (lR:0<l) (aP:l+xs.length≤17592186044416) (hk:k=az∧s0=n∨k=l) :
  (xs.length=0→jH lo g σ vh h (.grow vh.next (l+xs.length) nl) ((vh.drop i).alloc (.grow n (es++xs))) (.slice (some ⟨o,0,none⟩) l k) h)∧
  (0<xs.length→jH lo g σ vh h (.grow vh.next (l+xs.length) nl) ((vh.drop i).alloc (.grow n (es++xs))) (.slice (some ⟨h.next,0,none⟩) (l+xs.length) az) (h.alloc (.cells n (ar++bw))))∧
  (0<xs.length→jH lo g σ vh h (.grow vh.next (l+xs.length) nl) ((vh.drop i).alloc (.grow n (es++xs))) (.slice (some ⟨h.next,0,none⟩) (l+xs.length) az) ((h.put o none).alloc (.cells n (ar++bw)))):=by
 have gz:(σ i).1=o:=by rcases hs with h|h;rw[h];exact h
 have cy:∀p i,i<vh.next→(σ.put vh.next p) i=σ i:=fun p i hi=>Sg.zy _ _ (by omega)
 have dx:(17592186044416:Nat)<az:=by decide
 have fc:∀e∈es++xs,e.cells.length=n:=fun e he=>(List.mem_append.1 he).elim (hl e) (mq e)
 have JJ:bh (FR g) ((es++xs).flatMap PV.cells) (ar++bw):=by rw[List.flatMap_append];exact hc.append hx
 have hlen:(es++xs).length=l+xs.length:=by simp[rD]
 refine⟨fun h0=>?_,fun h0=>?_,fun h0=>?_⟩
 ·have vM:=List.eq_nil_of_length_eq_zero h0
  subst vM
  obtain⟨s1,f1⟩:=s.sub (aV:=vh.drop i) rfl fun j y hy=>(kK hy).2
  have qC:uo g (σ.put vh.next (o,0,k)) (vh.next+1) h vh.next (.grow n (es++[])):=⟨hn,fc,by simp;omega,.inr ⟨s0,ar,by rw[Sg.cB];exact ho,by rw[Sg.cB],by simpa using hc,by rw[Sg.cB];rcases hk with h|h;exact .inl h;exact .inr (by simp[h,rD])⟩⟩
  have h1:VS lo g (σ.put vh.next (o,0,k)) ((vh.drop i).alloc (.grow n (es++[]))) h:=s1.Ts (x:=.grow n (es++[])) (o,0,k) qC
   (fun _=>⟨gz▸s.low i x hg kv,gz▸s.jU i x hg kv,fun j y hy jb he=>by
    obtain⟨g1,g2⟩:=kK hy
    exact g1 (s.inj j i y x g2 hg jb kv (he.trans gz.symm))⟩)
  refine⟨σ.put vh.next (o,0,k),?_,h1,⟨Nat.le_refl _,fun _ _ _=>rfl,fun j y hy jb oM=>?_⟩,Nat.le_succ _,cy _⟩
  ·have:=VR.grow (g:=g) (σ:=σ.put vh.next (o,0,k)) (n:=((vh.drop i).alloc (.grow n (es++[]))).next) vh.next l o 0 k nl (Nat.lt_succ_self _) (Sg.cB _ _ _) lR
   simpa using this
  rw[ai.jf,show (vh.drop i).next=vh.next from rfl] at hy
  by_cases hj:j=vh.next
  ·subst hj;rw[Sg.cB];exact⟨i,x,hg,kv,gz⟩
  rw[if_neg hj] at hy
  obtain⟨_,hy⟩:=kK hy
  rw[cy _ j (s.obj j y hy).1];exact⟨j,y,hy,jb,rfl⟩
 ·obtain⟨s1,f1⟩:=s.sub (aV:=vh.drop i) rfl fun j y hy=>(kK hy).2
  have qC:uo g (σ.put vh.next (h.next,0,az)) (vh.next+1) (h.alloc (.cells n (ar++bw))) vh.next (.grow n (es++xs)):=⟨hn,fc,by omega,.inr ⟨n,ar++bw,by rw[Sg.cB,ah.jf,if_pos rfl],by rw[Sg.cB],JJ,.inl ⟨by rw[Sg.cB],rfl⟩⟩⟩
  obtain⟨h1,h2⟩:=s1.alloc (x:=.grow n (es++xs)) (.cells n (ar++bw)) az qC
  exact⟨_,.grow vh.next (l+xs.length) h.next 0 az nl (Nat.lt_succ_self _) (Sg.cB _ _ _) (by omega),h1,f1.trans h2,Nat.le_succ _,cy _⟩
 obtain⟨s1,f1⟩:=s.kill hg kv
 rw[gz] at s1 f1
 have qC:uo g (σ.put vh.next (h.next,0,az)) (vh.next+1) ((h.put o none).alloc (.cells n (ar++bw))) vh.next (.grow n (es++xs)):=⟨hn,fc,by omega,.inr ⟨n,ar++bw,by rw[Sg.cB,ah.jf];exact if_pos rfl,by rw[Sg.cB],JJ,.inl ⟨by rw[Sg.cB],rfl⟩⟩⟩
 obtain⟨h1,h2⟩:=s1.alloc (x:=.grow n (es++xs)) (.cells n (ar++bw)) az qC
 exact⟨_,.grow vh.next (l+xs.length) h.next 0 az nl (Nat.lt_succ_self _) (Sg.cB _ _ _) (by omega),h1,f1.trans h2,Nat.le_succ _,cy _⟩
def qu (bytes m:Nat):Bool:=Nat.ble m 4294967296||(Nat.ble m 17592186044320&&Nat.ble bytes 8)
theorem Rx (b m:Nat):qu b m=(decide (m≤4294967296)||(decide (m≤17592186044320)&&decide (b≤8))):=by unfold qu;rw[Bool.eq_iff_iff];simp
theorem MA {b m:Nat}(h:qu b m=true):m≤17592186044416:=by
 rw[Rx] at h
 simp at h
 omega
theorem z9j {b m:Nat}(h:qu b m=true)(hb:b≤4096):(Nat.ble m 17592186044416&&Nat.ble ((2*m+192)*b) 281474976710656)=true:=by
 rw[Rx] at h
 simp at h
 simp only[bS,Nat.ble_eq]
 refine⟨by omega,?_⟩
 rcases h with h|⟨h,h2⟩
 ·have:(2*m+192)*b≤(2*4294967296+192)*4096:=Nat.mul_le_mul (by omega) hb
  omega
 have:(2*m+192)*b≤(2*17592186044320+192)*8:=Nat.mul_le_mul (by omega) h2
 omega
def pj (P:Program)(vh:ai)(sT xT:TypeId)(s x:PV):Option (PV×ai):=
 match gO P sT,gO P xT with
 |some (e,n),some _=>
  match ey P e,(P.info? e).map (·.bytes),iP vh n x with
  |some z,some bytes,some xs=>
   bif !(Nat.beq z.length n&&Nat.blt 0 n&&Nat.ble bytes 4096&&ma xs) then none else
   match s with
   |.aI=>bif qu bytes xs.length then some (.grow vh.next xs.length true,vh.alloc (.grow n xs)) else none
   |.e0=>bif qu bytes xs.length then some (.grow vh.next xs.length false,vh.alloc (.grow n xs)) else none
   |.own i off l k=>
    bif Nat.beq k 0 then (bif qu bytes xs.length then some (.grow vh.next xs.length false,vh.alloc (.grow n xs)) else none) else
    bif !(Nat.beq off 0&&Nat.beq l k&&qu bytes (l+xs.length)) then none else
    match vh.get i with
    | some (.arr ag sz cs) => bif Nat.beq cs.length (l * n) then
      match iP vh n (.own i off l k) with
      |some es=>some (.grow vh.next (l+xs.length) false,(vh.drop i).alloc (.grow n (es++xs)))
      |none=>none
     else bif Nat.beq xs.length 0 then some (.own i off l k,vh) else
      match iP vh n (.own i off l k) with
      |some es=>some (.grow vh.next (l+xs.length) false,vh.alloc (.grow n (es++xs)))
      |none=>none
    |_=>none
   |.grow i l nl=>
    match vh.get i with
    |some (.grow sz es)=>bif Nat.beq sz n&&Nat.beq es.length l&&qu bytes (l+xs.length) then some (.grow vh.next (l+xs.length) nl,(vh.drop i).alloc (.grow n (es++xs))) else none
    |_=>bif Nat.beq l 0&&qu bytes xs.length then some (.grow vh.next xs.length nl,(vh.drop i).alloc (.grow n xs)) else none
   |_=>none
  |_,_,_=>none
 |_,_=>none
theorem zw6 (s:VS lo g σ vh h){sT xT:TypeId}{a x v:PV}{a' x':Value}{ao:ai}(ha:VR g σ vh.next a a')(hx:VR g σ vh.next x x')(hv:pj P vh sT xT a x=some (v,ao)) :
  ∃v' h',q8 P lo h sT xT a' x'=some (v',h')∧jH lo g σ vh h v ao v' h':=by
 unfold pj at hv
 split at hv
 ·rename_i e n ex vv y6
  split at hv
  ·rename_i z bytes xs hz pU ra
   obtain⟨z',h1,h2⟩:=zz (g:=g) hz
   cases hb:(Nat.beq z.length n&&Nat.blt 0 n&&Nat.ble bytes 4096&&ma xs) with
   |false=>rw[hb] at hv;cases hv
   |true=>
   rw[hb] at hv
   simp only[Bool.not_true,bz] at hv
   simp only[bS,Nat.blt_eq,Nat.ble_eq] at hb
   obtain⟨⟨⟨kf,cT⟩,nY⟩,zA⟩:=hb
   obtain⟨eU,eM,s4⟩:=FN s cT hx ra
   obtain⟨bw,fp,yX⟩:=s4 xs.length (Nat.le_refl _)
   rw[List.take_length] at yX
   have de:(Nat.beq z'.length n&&Nat.blt 0 n&&bw.all (·.oneCell'))=true:=by
    simp only[bS,Nat.blt_eq]
    exact⟨⟨by rw[← h2.1];exact kf,cT⟩,(yX.vr (σ:=σ) (n:=0)).xu (YF zA)⟩
   have mJ:∀m,qu bytes m=true→(Nat.ble m 17592186044416&&Nat.ble ((2*m+192)*bytes) 281474976710656)=true:=fun m hm=>z9j hm nY
   have dx:(17592186044416:Nat)<az:=by decide
   have hiu:Nat.blt az dW=true:=by decide
   have VP:Nat.blt az az=false:=by decide
   have zero:∀ {a':Value} (nl:Bool) {cn:ai} {v0:PV},VS lo g σ cn h→VF σ vh h σ cn h→cn.next=vh.next→(a'=.slice none 0 0∨nl=false∧∃o off,a'=.slice (some ⟨o,off,none⟩) 0 0)→qu bytes xs.length=true→
     ∃v' h',q8 P lo h sT xT a' x'=some (v',h')∧jH lo g σ vh h (.grow vh.next xs.length nl) (cn.alloc (.grow n xs)) v' h':=fun {a'} nl {cn v0} s1 f1 jY h0 hle=>by
    have hk:=YG s1 cT nl eM yX (by have:=MA hle;omega) h0
    rw[← jY]
    by_cases km:xs.length=0
    ·rw[if_pos km] at hk
     refine⟨a',h,?_,.after f1 jY hk⟩
     have lA:Nat.beq xs.length 0=true:=by rw[km];rfl
     rcases h0 with rfl|⟨_,o,off,rfl⟩
     ·simp only[q8,vv,y6,eU,h1,pU,fp,de,Bool.not_true,bz,lA,aO]
     simp only[q8,vv,y6,eU,h1,pU,fp,de,Bool.not_true,bz,lA,aO]
    rw[if_neg km] at hk
    refine⟨_,_,?_,.after f1 jY hk⟩
    have lA:Nat.beq xs.length 0=false:=by rw[beq_eq];simpa using km
    rcases h0 with rfl|⟨_,o,off,rfl⟩
    ·simp only[q8,vv,y6,eU,h1,pU,fp,de,Bool.not_true,bz,lA,mJ _ hle,aO]
    have e1:Nat.blt 0 az=true:=by decide
    have e2:Nat.ble xs.length 0=false:=by rw[← Bool.not_eq_true,Nat.ble_eq];omega
    have e3:qx h n (.slice (some ⟨o,off,none⟩) 0 0) 0=some []:=by simp[qx]
    simp only[q8,vv,y6,eU,h1,pU,fp,de,Bool.not_true,bz,lA,e1,e2,e3,mJ _ hle,aO,List.nil_append,Nat.zero_add]
   split at hv
   · -- nil
    cases hc:qu bytes xs.length with
    |false=>rw[hc] at hv;cases hv
    |true=>
     rw[hc] at hv;simp only[aO,ax,bG] at hv
     obtain⟨rfl,rfl⟩:=hv
     have:=ha.aG rfl;cases this
     exact zero true (v0:=.aI) s (VF.refl _ _ _) rfl (.inl rfl) (by simpa using hc)
   ·cases hc:qu bytes xs.length with
    |false=>rw[hc] at hv;cases hv
    |true=>
     rw[hc] at hv;simp only[aO,ax,bG] at hv
     obtain⟨rfl,rfl⟩:=hv
     have:=ha.aG rfl
     cases this with
     |vW=>exact zero false (v0:=.aI) s (VF.refl _ _ _) rfl (.inl rfl) (by simpa using hc)
     |e0 o off=>exact zero false (v0:=.aI) s (VF.refl _ _ _) rfl (.inr ⟨rfl,o,off,rfl⟩) (by simpa using hc)
   ·rename_i i off l k
    cases rh:Nat.beq k 0 with
    |true=>
     rw[rh] at hv;simp only[aO] at hv
     have rh:k=0:=by simpa using rh
     subst rh
     cases hc:qu bytes xs.length with
     |false=>rw[hc] at hv;cases hv
     |true=>
      rw[hc] at hv;simp only[aO,ax,bG] at hv
      obtain⟨rfl,rfl⟩:=hv
      cases ha with
      |fr _ _ h=>cases h
      |own _ _ _ _ o a kk hi hs hl hk=>
       have:l=0:=by omega
       subst this
       exact zero false (v0:=.aI) s (VF.refl _ _ _) rfl (.inr ⟨rfl,_,_,rfl⟩) (by simpa using hc)
    |false=>
     rw[rh] at hv;simp only[bz] at hv
     cases hc:(Nat.beq off 0&&Nat.beq l k&&qu bytes (l+xs.length)) with
     |false=>rw[hc] at hv;cases hv
     |true=>
      rw[hc] at hv;simp only[Bool.not_true,bz] at hv
      simp only[bS,Nat.ble_eq,beq_eq,decide_eq_true_eq] at hc
      obtain⟨⟨iC,gW⟩,ji⟩:=hc
      subst iC;subst gW
      have rh:0<l:=by rw[beq_eq] at rh;simp at rh;omega
      split at hv
      ·rename_i ag sz cs vZ
       cases EZ:Nat.beq cs.length (l*n) with
       |false=>
        rw[EZ] at hv;simp only[bz] at hv
        cases km:Nat.beq xs.length 0 with
        |true=>
         rw[km] at hv;simp only[aO,ax,bG] at hv
         obtain⟨rfl,rfl⟩:=hv
         have hav:=ha
         cases ha with
         |fr _ _ h=>cases h
         |own _ _ _ _ o a kk hi hs hl hk=>
          exact⟨_,h,by simp only[q8,vv,y6,eU,h1,pU,fp,de,Bool.not_true,bz,km,aO],_,hav,s,VF.refl _ _ _,Nat.le_refl _,fun _ _=>rfl⟩
        |false=>
         rw[km] at hv;simp only[bz] at hv
         split at hv
         ·rename_i es rD
          simp only[ax,bG] at hv
          obtain⟨rfl,rfl⟩:=hv
          obtain⟨jB,vE,E0⟩:=FN s cT ha rD
          obtain⟨iK,g1,g2⟩:=E0 es.length (Nat.le_refl _)
          rw[List.take_length] at g2
          cases ha with
          |fr _ _ h=>cases h
          |own _ _ _ _ o a kk hi hs hl hk=>
           simp only[kr,ax] at jB
           rw[← jB] at g1
           have hxp:0<xs.length:=by rw[beq_eq] at km;simp at km;exact List.length_pos_iff.2 km
           have e1:Nat.blt l az=true:=by rw[Nat.blt_eq];omega
           have e2:Nat.ble (l+xs.length) l=false:=by rw[← Bool.not_eq_true,Nat.ble_eq];omega
           have fc:(es++xs).length=l+xs.length:=by rw[List.length_append,jB]
           have nC:=YG s cT (xs:=es++xs) (bw:=iK++bw) false (fun e he=>by
            rcases List.mem_append.1 he with h|h
            ·exact vE e h
            exact eM e h) (by rw[List.flatMap_append];exact g2.append yX) (by rw[fc];have:=MA ji;omega) (.inl rfl)
           rw[if_neg (by rw[fc];omega),fc] at nC
           exact⟨_,_,by simp only[q8,vv,y6,eU,h1,pU,fp,de,Bool.not_true,bz,km,e1,e2,g1,mJ _ ji,aO],nC⟩
         cases hv
       |true=>
        rw[EZ] at hv;simp only[aO] at hv
        split at hv
        ·rename_i es rD
         simp only[ax,bG] at hv
         obtain⟨rfl,rfl⟩:=hv
         obtain⟨jB,vE,E0⟩:=FN s cT ha rD
         obtain⟨h0,s0,ar,k1,k2,k3⟩:=(s.obj i _ vZ).2
         cases ha with
         |fr _ _ h=>cases h
         |own _ _ _ _ o a kk hi hs hl hk=>
          rw[hs] at k1 k2;simp only at k1 k2;subst k2
          simp only[kr,ax] at jB
          obtain⟨iK,g1,g2⟩:=E0 es.length (Nat.le_refl _)
          rw[List.take_length] at g2
          have lA:Nat.beq es.length 0=false:=by rw[← jB,beq_eq];simp;omega
          have JK:ar.length=l*n:=by rw[← k3.1];simpa using EZ
          have holds:iK=ar:=by
           have E1:Nat.ble (0+0+es.length*n) ar.length=true:=by rw[Nat.ble_eq,JK,jB];omega
           simp only[qx,lA,bz,k1,E1,aO,ax] at g1
           rw[← g1,← jB,← JK];simp
          subst holds
          have nC:=YH s cT (σ:=σ) false vZ rfl hi (.inr (by rw[hs])) vE eM k1 g2 yX jB.symm rh (MA ji) (.inr rfl)
          by_cases km:xs.length=0
          ·have cj:Nat.beq xs.length 0=true:=by rw[km];rfl
           exact⟨.slice (some ⟨o,0,none⟩) l l,h,by simp only[q8,vv,y6,eU,h1,pU,fp,de,Bool.not_true,bz,cj,aO,Nat.zero_add],nC.1 km⟩
          have cj:Nat.beq xs.length 0=false:=by rw[beq_eq];simpa using km
          have e1:Nat.blt l az=true:=by rw[Nat.blt_eq];omega
          have e2:Nat.ble (l+xs.length) l=false:=by rw[← Bool.not_eq_true,Nat.ble_eq];omega
          rw[← jB] at g1
          exact⟨_,_,by simp only[q8,vv,y6,eU,h1,pU,fp,de,Bool.not_true,bz,cj,e1,e2,g1,mJ _ ji,aO],nC.2.1 (by omega)⟩
        cases hv
      cases hv
   ·rename_i i l nl
    have CW:l=0→qu bytes xs.length=true→∃v' h',q8 P lo h sT xT a' x'=some (v',h')∧jH lo g σ vh h (.grow vh.next xs.length nl) ((vh.drop i).alloc (.grow n xs)) v' h':=fun lR hle=>by
     subst lR
     obtain⟨s1,f1⟩:=s.sub (aV:=vh.drop i) rfl fun j y hy=>(kK hy).2
     cases ha with
     |fr _ _ h=>cases h
     |b8=>exact zero nl (v0:=.aI) s1 f1 rfl (.inl rfl) hle
     |b9 _ o off=>exact zero false (v0:=.aI) s1 f1 rfl (.inr ⟨rfl,o,off,rfl⟩) hle
     |grow _ _ _ _ _ _ _ _ hn=>omega
    split at hv
    ·rename_i sz es vZ
     cases hc:(Nat.beq sz n&&Nat.beq es.length l&&qu bytes (l+xs.length)) with
     |false=>rw[hc] at hv;cases hv
     |true=>
      rw[hc] at hv;simp only[aO,ax,bG] at hv
      obtain⟨rfl,rfl⟩:=hv
      simp only[bS,Nat.ble_eq,beq_eq,decide_eq_true_eq] at hc
      obtain⟨⟨iC,gW⟩,ji⟩:=hc
      subst iC
      by_cases lR:l=0
      ·have rD:=List.eq_nil_of_length_eq_zero (gW.trans lR)
       subst rD
       have:=CW lR (by rw[lR,Nat.zero_add] at ji;exact ji)
       subst lR
       simpa using this
      have lR:0<l:=by omega
      obtain⟨h0,vE,NZ,l8⟩:=(s.obj i _ vZ).2
      rcases l8 with rfl|⟨s0,ar,k1,k2,k3,k4⟩
      ·simp at gW;omega
      have fZ:(aM.grow sz es).live=true:=by
       cases es with
       |nil=>simp at gW;omega
       |cons=>rfl
      cases ha with
      |fr _ _ h=>cases h
      |b8=>omega
      |b9=>omega
      |grow _ _ o a k _ hi hs hm=>
       have bJ:=s.low i _ vZ fZ
       rw[hs] at k1 k2 k4 bJ;simp only at k1 k2 k4 bJ;subst k2
       have K9:k=az∧s0=sz∨k=l:=by rcases k4 with h|h;exact .inl h;exact .inr (h.trans gW)
       have nC:=YH s cT (σ:=σ) nl vZ fZ hi (.inr (by rw[hs])) vE eM k1 k3 yX gW lR (MA ji) K9
       have qX:ar.length=l*sz:=by rw[← k3.1,Cv vE,gW]
       by_cases km:xs.length=0
       ·have cj:Nat.beq xs.length 0=true:=by rw[km];rfl
        exact⟨_,_,by simp only[q8,vv,y6,eU,h1,pU,fp,de,Bool.not_true,bz,cj,aO],nC.1 km⟩
       have cj:Nat.beq xs.length 0=false:=by rw[beq_eq];simpa using km
       rcases K9 with⟨rfl,rfl⟩|rfl
       ·have hmul:l*s0<(l+xs.length)*s0:=Nat.mul_lt_mul_of_pos_right (by omega) cT
        have e1:(Nat.ble lo o&&Nat.beq 0 ((az - az)*s0)&&Nat.beq s0 s0&&Nat.ble (l+xs.length) 17592186044416&&Nat.ble ((2*(l+xs.length)+192)*bytes) 281474976710656)=true:=by
         have:=mJ _ ji
         simp only[bS] at this ⊢
         refine⟨⟨⟨⟨by simpa using bJ,?_⟩,Nat.beq_refl _⟩,this.1⟩,this.2⟩
         rw[Nat.sub_self,Nat.zero_mul];rfl
        have e2:Nat.ble (0+(l+xs.length)*s0) ar.length=false:=by rw[← Bool.not_eq_true,Nat.ble_eq];omega
        have e3:Nat.ble (0+l*s0) ar.length=true:=by rw[Nat.ble_eq];omega
        have e4:(ar.drop 0).take (l*s0)=ar:=by rw[List.drop_zero,← qX,List.take_length]
        exact⟨_,_,by simp only[q8,vv,y6,eU,h1,pU,fp,de,Bool.not_true,bz,cj,VP,hiu,k1,e1,e2,e3,e4,aO],nC.2.2 (by omega)⟩
       have e1:Nat.blt k az=true:=by rw[Nat.blt_eq];omega
       have e2:Nat.ble (k+xs.length) k=false:=by rw[← Bool.not_eq_true,Nat.ble_eq];omega
       have ig:Nat.beq k 0=false:=by rw[beq_eq];simp;omega
       have E1:Nat.ble (0+k*sz) ar.length=true:=by rw[Nat.ble_eq];omega
       have e3:qx h sz (.slice (some ⟨o,0,none⟩) k k) k=some ar:=by
        simp only[qx,ig,bz,k1,E1,aO]
        rw[List.drop_zero,← qX,List.take_length]
       exact⟨_,_,by simp only[q8,vv,y6,eU,h1,pU,fp,de,Bool.not_true,bz,cj,e1,e2,e3,mJ _ ji,aO],nC.2.1 (by omega)⟩
    cases cT:(Nat.beq l 0&&qu bytes xs.length) with
    |false=>rw[cT] at hv;cases hv
    |true=>
     rw[cT] at hv;simp only[aO,ax,bG] at hv
     obtain⟨rfl,rfl⟩:=hv
     simp only[bS,Nat.ble_eq,beq_eq,decide_eq_true_eq] at cT
     exact CW cT.1 cT.2
   cases hv
  cases hv
 cases hv
end
attribute [simp] Rx
section
variable {P:Program} {lo:Nat} {g:Fz} {σ:Sg} {vh:ai} {h:ah}
theorem VS.cB (s:VS lo g σ vh h){i:Nat}{x:aM}(hx:vh.get i=some x):VS lo g σ (vh.put i x) h∧VF σ vh h σ (vh.put i x) h:=
 s.sub rfl fun j y hy=>by
  rcases DU hx hy with⟨rfl,rfl⟩|⟨_,hy⟩
  ·exact hx
  exact hy
def cU (P:Program)(vh:ai)(dT:TypeId)(d x:PV):Option (PV×ai):=
 match gO P dT,d with
 |some (_,n),.own i off len _=>
  match iP vh n x,vh.get i with
  |some xs,some (.arr ag sz cs)=>
   bif Nat.blt 0 n&&Nat.ble (off+(xs.take len).length*n) cs.length&&ma xs then
    some (.int .i64 (Nat.min xs.length len),vh.put i (.arr ag sz (jn cs off ((xs.take len).flatMap PV.cells))))
   else none
  |_,_=>none
 |_,_=>none
theorem ztw {es:List PV}(h:ma es=true)(n:Nat):ma (es.take n)=true:=by
 unfold ma at h ⊢
 rw[List.all_eq_true] at h ⊢
 exact fun e he=>h e (List.mem_of_mem_take he)
theorem z4b (s:VS lo g σ vh h){dT:TypeId}{d x v:PV}{d' x':Value}{ao:ai}(hd:VR g σ vh.next d d')(hx:VR g σ vh.next x x')(hv:cU P vh dT d x=some (v,ao)) :
  ∃v' h',Fx P lo h dT d' x'=some (v',h')∧jH lo g σ vh h v ao v' h':=by
 unfold cU at hv
 split at hv
 ·rename_i e n i off len k ht
  split at hv
  ·rename_i xs ag sz cs ra hg
   cases hb:(Nat.blt 0 n&&Nat.ble (off+(xs.take len).length*n) cs.length&&ma xs) with
   |false=>rw[hb] at hv;cases hv
   |true=>
    rw[hb] at hv;simp only[aO,ax,bG] at hv
    obtain⟨rfl,rfl⟩:=hv
    simp only[bS,Nat.blt_eq,Nat.ble_eq] at hb
    obtain⟨⟨kf,cT⟩,nY⟩:=hb
    obtain⟨eU,eM,hsr⟩:=FN s kf hx ra
    obtain⟨bw,g1,g2⟩:=hsr (Nat.min xs.length len) (Nat.min_le_left _ _)
    have zW:xs.take (Nat.min xs.length len)=xs.take len:=by
     rcases Nat.le_total xs.length len with hle|hle
     ·rw[show Nat.min xs.length len=xs.length from Nat.min_eq_left hle,List.take_length,List.take_of_length_le hle]
     rw[show Nat.min xs.length len=len from Nat.min_eq_right hle]
    rw[zW] at g2
    obtain⟨h0,s0,ar,k1,k2,k3⟩:=(s.obj i _ hg).2
    cases hd with
    |fr _ _ h=>cases h
    |own _ _ _ _ o a kk hi hs hl hk=>
     have bJ:=s.low i _ hg rfl
     rw[hs] at k1 k2 bJ;simp only at k1 k2 bJ;subst k2
     rw[Nat.zero_add]
     have AA:kr (.slice (some ⟨o,off,none⟩) len k)=some len:=rfl
     rcases kH (Nat.min xs.length len) 0 with⟨hq,cm⟩|⟨hq,cm⟩
     ·have vl:xs.take len=[]:=by
       rw[← zW,cm];rfl
      have h1:jn cs off ((xs.take len).flatMap PV.cells)=cs:=by rw[vl];simp[jn]
      rw[h1]
      obtain⟨s1,f1⟩:=s.cB hg
      refine⟨mr 0,h,by simp only[Fx,ht,AA,eU,g1,hq,aO],σ,?_,s1,f1,Nat.le_refl _,fun _ _=>rfl⟩
      rw[cm];exact .fr _ _ (.int _ _)
     have h4:=s.write hg rfl (x':=.arr ag sz (jn cs off ((xs.take len).flatMap PV.cells))) (.cells s0 (fT ar off bw)) ⟨h0,s0,_,by rw[ah.dJ _ _ _ _ (by rw[hs];exact ah.gx k1),if_pos rfl],by rw[hs],k3.fT off g2⟩
     rw[hs] at h4;simp only at h4
     have zl:bw.length=(xs.take len).length*n:=by rw[← g2.1,Cv fun e he=>eM e (List.mem_of_mem_take he)]
     have de:(Nat.ble lo o&&Nat.ble (off+bw.length) ar.length&&bw.all (·.oneCell'))=true:=by
      simp only[bS,Nat.ble_eq]
      exact⟨⟨bJ,by rw[zl,← k3.1];omega⟩,(g2.vr (σ:=σ) (n:=0)).xu (YF (ztw nY len))⟩
     exact⟨mr (Nat.min xs.length len),_,by simp only[Fx,ht,AA,eU,g1,hq,bz,k1,de,aO],σ,.fr _ _ (.int _ _),h4.1,h4.2,Nat.le_refl _,fun _ _=>rfl⟩
  cases hv
 cases hv
def Af (kd:IntKind)(n:Int):List (PV×PV)→Option (Option PV)
 |[]=>some none
 |(.int k a,v)::r=>
  bif decide (k=kd) then
   match Af kd n r with
   |none=>none
   |some q=>some (bif decide (a=n) then some v else q)
  else none
 |_=>none
def BT (R:PV→Value→Prop):Option PV→Option Value→Prop
 |none,none=>True
 |some v,some v'=>R v v'
 |_,_=>False
theorem GG {kd:IntKind}{n:Int}:∀ {es:List (PV×PV)} {br:List (Value×Value)} {r:Option PV},bh (FR g) (es.map (·.1)) (br.map (·.1))→bh (FR g) (es.map (·.2)) (br.map (·.2))→Af kd n es=some r→
  ∃r',wV kd n br=some r'∧BT (FR g) r r'
 |[],br,r,hk,hv,hr=>by
  simp only[Af,ax] at hr;subst hr
  cases br with
  |nil=>exact⟨none,rfl,trivial⟩
  |cons=>have:=hk.1;simp at this
 |(k,v)::es,br,r,hk,hv,hr=>by
  cases br with
  |nil=>have:=hk.1;simp at this
  |cons q br=>
   obtain⟨k',v'⟩:=q
   obtain⟨k1,l1,e1,kz,gh⟩:=hk.dE
   simp only[List.map_cons,List.cons.injEq] at e1;obtain⟨rfl,rfl⟩:=e1
   obtain⟨k1,l1,e1,iS,eN⟩:=hv.dE
   simp only[List.map_cons,List.cons.injEq] at e1;obtain⟨rfl,rfl⟩:=e1
   cases k with
   |int kk a=>
    cases kz
    simp only[Af] at hr
    simp only[wV]
    cases nC:decide (kk=kd) with
    |false=>rw[nC] at hr;cases hr
    |true=>
     rw[nC] at hr;simp only[aO] at hr ⊢
     split at hr
     ·cases hr
     rename_i q hq
     injection hr with hr;subst hr
     obtain⟨r',g1,g2⟩:=GG gh eN hq
     refine⟨_,by rw[g1],?_⟩
     cases decide (a=n) with
     |true=>exact iS
     |false=>exact g2
   |_=>simp[Af] at hr
def nH (vh:ai)(kd:IntKind)(n:Int)(m:PV):Option (Option PV):=
 match m with
 |.dF=>some none
 |.aC es=>Af kd n es
 |.aW i=>match vh.get i with
  |some (.map es)=>Af kd n es
  |_=>none
 |_=>none
theorem YI {g:Fz}{es:List (PV×PV)}{br:List (Value×Value)}(hlen:es.length=br.length)(rk:∀(j:Nat) p p',es[j]?=some p→br[j]?=some p'→FR g p.1 p'.1)(rv:∀(j:Nat) p p',es[j]?=some p→br[j]?=some p'→FR g p.2 p'.2) :
  bh (FR g) (es.map (·.1)) (br.map (·.1))∧bh (FR g) (es.map (·.2)) (br.map (·.2)):=by
 constructor
 ·refine⟨by simp[hlen],fun i v v' hv aQ=>?_⟩
  rw[List.getElem?_map] at hv aQ
  obtain⟨p,h1,rfl⟩:=dq hv
  obtain⟨p',h2,rfl⟩:=dq aQ
  exact rk i p p' h1 h2
 refine⟨by simp[hlen],fun i v v' hv aQ=>?_⟩
 rw[List.getElem?_map] at hv aQ
 obtain⟨p,h1,rfl⟩:=dq hv
 obtain⟨p',h2,rfl⟩:=dq aQ
 exact rv i p p' h1 h2
theorem z4o {g:Fz}{es:List (PV×PV)}{br:List (Value×Value)}(h1:bh (FR g) (es.map (·.1)) (br.map (·.1)))(h2:bh (FR g) (es.map (·.2)) (br.map (·.2))){o:Nat}(hg:g o=some (.map br)):FR g (.aC es) (.map (some o)):=
 .aC es o br hg (by have:=h1.1;simpa using this) (fun j p p' hp ua=>h1.2 j p.1 p'.1 (by simp[hp]) (by simp[ua])) (fun j p p' hp ua=>h2.2 j p.2 p'.2 (by simp[hp]) (by simp[ua]))
def YJ (P:Program)(vh:ai)(t:TypeId)(m k:PV)(ok:Bool):Option PV:=
 match mK P t,k with
 |some (_,e),.int kd n=>
  match (eu P e).bind bj with
  |some z=>
   match nH vh kd n m with
   |some (some v)=>some (bif ok then .bx [v,.bool true] else v)
   |some none=>some (bif ok then .bx [z,.bool false] else z)
   |none=>none
  |none=>none
 |_,_=>none
theorem MB {v:PV}{v':Value}{b:Bool}(hv:FR g v v'):FR g (.bx [v,.bool b]) (.tuple #[v',.bool b]):=
 .bx _ _ rfl fun i u u' hu s7=>by
  match i with
  |0=>simp at hu s7;subst hu;subst s7;exact hv
  |1=>simp at hu s7;subst hu;subst s7;exact .bool b
  |i+2=>simp at hu
theorem zsp (s:VS lo g σ vh h){t:TypeId}{m k v:PV}{m' k':Value}{ok:Bool}(hm:VR g σ vh.next m m')(hk:VR g σ vh.next k k')(hv:YJ P vh t m k ok=some v):∃v',vN P h t m' k' ok=some v'∧FR g v v':=by
 unfold YJ at hv
 split at hv
 ·rename_i kt e kd n ht
  have:=hk.aG rfl;cases this
  split at hv
  ·rename_i z hz
   cases lT:eu P e with
   |none=>rw[lT] at hz;cases hz
   |some z'=>
    rw[lT] at hz
    have JL:=(AT (g:=g) hz).1
    have fin:∀ {q:Option PV} {q':Option Value},nH vh kd n m=some q→BT (FR g) q q'→∃v',(match some q' with
      |some (some v)=>some (bif ok then .tuple #[v,.bool true] else v)
      |some none=>some (bif ok then .tuple #[z',.bool false] else z')
      |none=>none:Option Value)=some v'∧FR g v v':=fun {q q'} hq hr=>by
     rw[hq] at hv
     cases q with
     |none=>
      cases q' with
      |some=>exact hr.elim
      |none=>
       simp only[ax] at hv;subst hv
       refine⟨_,rfl,?_⟩
       cases ok with
       |true=>exact MB JL
       |false=>exact JL
     |some u=>
      cases q' with
      |none=>exact hr.elim
      |some u'=>
       simp only[ax] at hv;subst hv
       refine⟨_,rfl,?_⟩
       cases ok with
       |true=>exact MB hr
       |false=>exact hr
    cases hq:nH vh kd n m with
    |none=>rw[hq] at hv;cases hv
    |some q=>
     have E3:=hq
     unfold nH at hq
     split at hq
     ·injection hq with hq;subst hq
      have:=hm.aG rfl;cases this
      obtain⟨v',g1,g2⟩:=fin (q':=none) E3 trivial
      exact⟨v',by simp only[vN,ht,lT];exact g1,g2⟩
     ·have:=hm.aG rfl
      cases this with
      |aC _ o br hg hlen rk rv=>
       obtain⟨h3,h4⟩:=YI hlen rk rv
       obtain⟨r',g1,g2⟩:=GG h3 h4 hq
       obtain⟨v',g3,g4⟩:=fin E3 g2
       exact⟨v',by simp only[vN,ht,lT,s.fz _ _ hg,g1];exact g3,g4⟩
     ·rename_i i
      split at hq
      ·rename_i es hg
       cases hm with
       |fr _ _ h=>cases h
       |aW _ o a k hi hs=>
        obtain⟨br,h1,h2,h3,h4⟩:=(s.obj i _ hg).2
        rw[hs] at h1;simp only at h1
        obtain⟨r',g1,g2⟩:=GG h3 h4 hq
        obtain⟨v',g3,g4⟩:=fin E3 g2
        exact⟨v',by simp only[vN,ht,lT,h1,g1];exact g3,g4⟩
      cases hq
     cases hq
  cases hv
 cases hv
def y7 (n:Int)(v:PV)(p:PV×PV):PV×PV:=
 match p with
 |(.int k a,u)=>bif decide (a=n) then (.int k a,v) else (.int k a,u)
 |p=>p
def E4 (n:Int)(p:PV×PV):Bool:=
 match p.1 with
 |.int _ a=>!decide (a=n)
 |_=>true
def MC (kd:IntKind)(n:Int)(v:PV)(es:List (PV×PV)):Option (List (PV×PV)):=
 match Af kd n es with
 |some (some _)=>some (es.map (y7 n v))
 |some none=>some (es++[(.int kd n,v)])
 |none=>none
def YK (P:Program)(vh:ai)(t:TypeId)(m k v:PV):Option ai:=
 match mK P t,m,k with
 |some _,.aW i,.int kd n=>
  match vh.get i with
  |some (.map es)=>bif v.aG then (MC kd n v es).map fun es=>vh.put i (.map es) else none
  |_=>none
 |_,_,_=>none
def YL (P:Program)(vh:ai)(t:TypeId)(m k:PV):Option ai:=
 match mK P t,m,k with
 |some _,.aW i,.int kd n=>
  match vh.get i with
  |some (.map es)=>match Af kd n es with
   |some _=>some (vh.put i (.map (es.filter (E4 n))))
   |none=>none
  |_=>none
 |_,_,_=>none
theorem YM {n:Int}{v:PV}{v':Value}(hv:FR g v v'):∀ {es:List (PV×PV)} {br:List (Value×Value)},bh (FR g) (es.map (·.1)) (br.map (·.1))→bh (FR g) (es.map (·.2)) (br.map (·.2))→
  bh (FR g) ((es.map (y7 n v)).map (·.1)) ((br.map (jR n v')).map (·.1))∧bh (FR g) ((es.map (y7 n v)).map (·.2)) ((br.map (jR n v')).map (·.2))
 |[],br,hk,hv=>by
  cases br with
  |nil=>exact⟨.nil,.nil⟩
  |cons=>have:=hk.1;simp at this
 |(k,u)::es,br,hk,sA=>by
  cases br with
  |nil=>have:=hk.1;simp at this
  |cons q br=>
   obtain⟨k',u'⟩:=q
   obtain⟨k1,l1,e1,kz,gh⟩:=hk.dE
   simp only[List.map_cons,List.cons.injEq] at e1;obtain⟨rfl,rfl⟩:=e1
   obtain⟨k1,l1,e1,iS,eN⟩:=sA.dE
   simp only[List.map_cons,List.cons.injEq] at e1;obtain⟨rfl,rfl⟩:=e1
   have ih:=YM (n:=n) hv gh eN
   have Ry:=kz
   cases kz with
   |int kk a=>
    simp only[List.map_cons,y7,jR]
    cases hd:decide (a=n) with
    |true=>exact⟨.cons (.int _ _) ih.1,.cons hv ih.2⟩
    |false=>exact⟨.cons (.int _ _) ih.1,.cons iS ih.2⟩
   |_=>
    simp only[List.map_cons,y7,jR]
    exact⟨.cons Ry ih.1,.cons iS ih.2⟩
theorem YN {n:Int}:∀ {es:List (PV×PV)} {br:List (Value×Value)},bh (FR g) (es.map (·.1)) (br.map (·.1))→bh (FR g) (es.map (·.2)) (br.map (·.2))→
  bh (FR g) ((es.filter (E4 n)).map (·.1)) ((br.filter (re n)).map (·.1))∧bh (FR g) ((es.filter (E4 n)).map (·.2)) ((br.filter (re n)).map (·.2))
 |[],br,hk,hv=>by
  cases br with
  |nil=>exact⟨.nil,.nil⟩
  |cons=>have:=hk.1;simp at this
 |(k,u)::es,br,hk,sA=>by
  cases br with
  |nil=>have:=hk.1;simp at this
  |cons q br=>
   obtain⟨k',u'⟩:=q
   obtain⟨k1,l1,e1,kz,gh⟩:=hk.dE
   simp only[List.map_cons,List.cons.injEq] at e1;obtain⟨rfl,rfl⟩:=e1
   obtain⟨k1,l1,e1,iS,eN⟩:=sA.dE
   simp only[List.map_cons,List.cons.injEq] at e1;obtain⟨rfl,rfl⟩:=e1
   have ih:=YN (n:=n) gh eN
   have same:E4 n (k,u)=re n (k',u'):=by cases kz<;>rfl
   simp only[List.filter_cons]
   rw[← same]
   cases E4 n (k,u) with
   |false=>exact ih
   |true=>exact⟨.cons kz ih.1,.cons iS ih.2⟩
theorem z0u {kd:IntKind}{n:Int}{v:PV}{v':Value}{es out:List (PV×PV)}{br:List (Value×Value)}(hv:FR g v v')(h3:bh (FR g) (es.map (·.1)) (br.map (·.1)))(h4:bh (FR g) (es.map (·.2)) (br.map (·.2)))(ho:MC kd n v es=some out) :
  ∃fF,(match wV kd n br with
   |some (some _)=>some (br.map (jR n v'))
   |some none=>some (br++[(.int kd n,v')])
   |none=>none)=some fF∧bh (FR g) (out.map (·.1)) (fF.map (·.1))∧bh (FR g) (out.map (·.2)) (fF.map (·.2)):=by
 unfold MC at ho
 split at ho
 ·rename_i u hq
  injection ho with ho;subst ho
  obtain⟨q',h1,h2⟩:=GG h3 h4 hq
  cases q' with
  |none=>exact h2.elim
  |some u'=>exact⟨_,by rw[h1],YM hv h3 h4⟩
 ·rename_i hq
  injection ho with ho;subst ho
  obtain⟨q',h1,h2⟩:=GG h3 h4 hq
  cases q' with
  |some=>exact h2.elim
  |none=>
   refine⟨_,by rw[h1],?_,?_⟩
   ·simp only[List.map_append,List.map_cons,List.map_nil];exact h3.append (.cons (.int _ _) .nil)
   simp only[List.map_append,List.map_cons,List.map_nil];exact h4.append (.cons hv .nil)
 cases ho
theorem uC:FR g (.bx []) Go.undef:=.bx [] #[] rfl (fun i v v' h=>by simp at h)
theorem znz (s:VS lo g σ vh h){t:TypeId}{m k v:PV}{m' k' v':Value}{ao:ai}(hm:VR g σ vh.next m m')(hk:VR g σ vh.next k k')(sA:VR g σ vh.next v v')(hv:YK P vh t m k v=some ao) :
  ∃h',Dr P lo h t m' k' v'=some h'∧jH lo g σ vh h (.bx []) ao Go.undef h':=by
 unfold YK at hv
 split at hv
 ·rename_i ek i kd n ht
  have:=hk.aG rfl;cases this
  split at hv
  ·rename_i es hg
   cases hf:v.aG with
   |false=>rw[hf] at hv;cases hv
   |true=>
    rw[hf] at hv;simp only[aO] at hv
    obtain⟨out,ho,rfl⟩:=dq hv
    cases hm with
    |fr _ _ h=>cases h
    |aW _ o a k hi hs=>
     obtain⟨br,h1,h2,h3,h4⟩:=(s.obj i _ hg).2
     have bJ:=s.low i _ hg rfl
     obtain⟨fF,g1,g2,g3⟩:=z0u (sA.aG hf) h3 h4 ho
     have h5:=s.write hg rfl (x':=.map out) (.map fF) ⟨fF,by rw[ah.dJ _ _ _ _ (ah.gx h1),if_pos rfl],h2,g2,g3⟩
     rw[hs] at h1 bJ h5;simp only at h1 bJ h5
     have nt:Nat.ble lo o=true:=by rw[Nat.ble_eq];exact bJ
     refine⟨h.put o (some (.map fF)),?_,σ,.fr _ _ uC,h5.1,h5.2,Nat.le_refl _,fun _ _=>rfl⟩
     simp only[Dr,ht,h1,nt,aO]
     split at g1
     ·rename_i hq;simp only[hq];injection g1 with g1;rw[g1]
     ·rename_i hq;simp only[hq];injection g1 with g1;rw[g1]
     cases g1
  cases hv
 cases hv
theorem ztn (s:VS lo g σ vh h){t:TypeId}{m k:PV}{m' k':Value}{ao:ai}(hm:VR g σ vh.next m m')(hk:VR g σ vh.next k k')(hv:YL P vh t m k=some ao) :
  ∃h',Du P lo h t m' k'=some h'∧jH lo g σ vh h (.bx []) ao Go.undef h':=by
 unfold YL at hv
 split at hv
 ·rename_i ek i kd n ht
  have:=hk.aG rfl;cases this
  split at hv
  ·rename_i es hg
   split at hv
   ·rename_i q hq
    injection hv with hv;subst hv
    cases hm with
    |fr _ _ h=>cases h
    |aW _ o a k hi hs=>
     obtain⟨br,h1,h2,h3,h4⟩:=(s.obj i _ hg).2
     have bJ:=s.low i _ hg rfl
     obtain⟨g1,g2⟩:=YN (n:=n) h3 h4
     obtain⟨q',g3,_⟩:=GG h3 h4 hq
     have h5:=s.write hg rfl (x':=.map (es.filter (E4 n))) (.map (br.filter (re n))) ⟨_,by rw[ah.dJ _ _ _ _ (ah.gx h1),if_pos rfl],h2,g1,g2⟩
     rw[hs] at h1 bJ h5;simp only at h1 bJ h5
     have nt:Nat.ble lo o=true:=by rw[Nat.ble_eq];exact bJ
     exact⟨_,by simp only[Du,ht,h1,nt,aO,g3],σ,.fr _ _ uC,h5.1,h5.2,Nat.le_refl _,fun _ _=>rfl⟩
   cases hv
  cases hv
 cases hv
def gJ:List PV→Option (List Value)
 |[]=>some []
 |.int k n::r=>(gJ r).map (Value.int k n::·)
 |_=>none
theorem YO:∀ {ds:List PV} {l l':List Value},gJ ds=some l→bh (FR g) ds l'→l'=l
 |[],l,l',h,hr=>by simp only[gJ,ax] at h;subst h;exact hr.jM
 |d::r,l,l',h,hr=>by
  obtain⟨v',s,rfl,h1,h2⟩:=hr.dE
  cases d with
  |int k n=>
   simp only[gJ] at h
   obtain⟨q,hq,rfl⟩:=dq h
   cases h1
   rw[YO hq h2]
  |_=>simp[gJ] at h
theorem MD:∀ {ds:List PV} {l:List Value},gJ ds=some l→PV.aF ds=true
 |[],l,h=>rfl
 |d::r,l,h=>by
  cases d with
  |int k n=>
   simp only[gJ] at h
   obtain⟨q,hq,rfl⟩:=dq h
   simp only[PV.aF,PV.aG,Bool.true_and]
   exact MD hq
  |_=>simp[gJ] at h
theorem JN {ds:List PV}{l:List Value}{k':Value}(h:gJ ds=some l)(hk:FR g (.agg ds) k'):k'=.agg l.toArray:=by
 cases hk with
 |agg _ cs hl hr=>rw[show cs=l.toArray from Array.ext' (by simpa using YO h ⟨by simpa using hl,fun i v v' h1 h2=>hr i v v' h1 (by simpa using h2)⟩)]
def kB (l:List Value):List (PV×PV)→Option (Option PV)
 |[]=>some none
 |(.agg ds,v)::r=>match gJ ds with
  |some m=>match jj l m,kB l r with
   |some s,some q=>some (bif s then some v else q)
   |_,_=>none
  |none=>none
 |_=>none
theorem GH {l:List Value}:∀ {es:List (PV×PV)} {br:List (Value×Value)} {r:Option PV},bh (FR g) (es.map (·.1)) (br.map (·.1))→bh (FR g) (es.map (·.2)) (br.map (·.2))→kB l es=some r→
  ∃r',uN l br=some r'∧BT (FR g) r r'
 |[],br,r,hk,hv,hr=>by
  simp only[kB,ax] at hr;subst hr
  cases br with
  |nil=>exact⟨none,rfl,trivial⟩
  |cons=>have:=hk.1;simp at this
 |(k,v)::es,br,r,hk,hv,hr=>by
  cases br with
  |nil=>have:=hk.1;simp at this
  |cons q br=>
   obtain⟨k',v'⟩:=q
   obtain⟨k1,l1,e1,kz,gh⟩:=hk.dE
   simp only[List.map_cons,List.cons.injEq] at e1;obtain⟨rfl,rfl⟩:=e1
   obtain⟨k1,l1,e1,iS,eN⟩:=hv.dE
   simp only[List.map_cons,List.cons.injEq] at e1;obtain⟨rfl,rfl⟩:=e1
   cases k with
   |agg ds=>
    simp only[kB] at hr
    split at hr
    ·rename_i m hm
     have vY:=JN hm kz
     subst vY
     split at hr
     ·rename_i s q hs hq
      injection hr with hr;subst hr
      obtain⟨r',g1,g2⟩:=GH gh eN hq
      refine⟨bif s then some v' else r',by simp[uN,hs,g1],?_⟩
      cases s with
      |true=>exact iS
      |false=>exact g2
     cases hr
    cases hr
   |_=>simp[kB] at hr
def pw (vh:ai)(l:List Value)(m:PV):Option (Option PV):=
 match m with
 |.dF=>some none
 |.aC es=>kB l es
 |.aW i=>match vh.get i with
  |some (.map es)=>kB l es
  |_=>none
 |_=>none
def p7 (P:Program)(vh:ai)(t:TypeId)(m:PV)(ds:List PV)(ok:Bool):Option PV:=
 match zn P t,gJ ds with
 |some (_,e,n),some l=>
  bif !(fI l&&Nat.beq l.length n) then none else
  match (eu P e).bind bj with
  |some z=>
   match pw vh l m with
   |some (some v)=>some (bif ok then .bx [v,.bool true] else v)
   |some none=>some (bif ok then .bx [z,.bool false] else z)
   |none=>none
  |none=>none
 |_,_=>none
theorem zsq (s:VS lo g σ vh h){t:TypeId}{m v:PV}{ds:List PV}{m' k':Value}{ok:Bool}(hm:VR g σ vh.next m m')(hk:VR g σ vh.next (.agg ds) k')(hv:p7 P vh t m ds ok=some v):∃v',vP P h t m' k' ok=some v'∧FR g v v':=by
 unfold p7 at hv
 split at hv
 ·rename_i kt e n l ht hl
  have JO:=JN hl (hk.aG (by simp only[PV.aG];exact MD hl))
  subst JO
  cases hb:(!(fI l&&Nat.beq l.length n)) with
  |true=>rw[hb] at hv;cases hv
  |false=>
  rw[hb,bz] at hv
  split at hv
  ·rename_i z hz
   cases lT:eu P e with
   |none=>rw[lT] at hz;cases hz
   |some z'=>
    rw[lT] at hz
    have JL:=(AT (g:=g) hz).1
    have fin:∀ {q:Option PV} {q':Option Value},pw vh l m=some q→BT (FR g) q q'→∃v',(match some q' with
      |some (some v)=>some (bif ok then .tuple #[v,.bool true] else v)
      |some none=>some (bif ok then .tuple #[z',.bool false] else z')
      |none=>none:Option Value)=some v'∧FR g v v':=fun {q q'} hq hr=>by
     rw[hq] at hv
     cases q with
     |none=>
      cases q' with
      |some=>exact hr.elim
      |none=>
       simp only[ax] at hv;subst hv
       refine⟨_,rfl,?_⟩
       cases ok with
       |true=>exact MB JL
       |false=>exact JL
     |some u=>
      cases q' with
      |none=>exact hr.elim
      |some u'=>
       simp only[ax] at hv;subst hv
       refine⟨_,rfl,?_⟩
       cases ok with
       |true=>exact MB hr
       |false=>exact hr
    cases hq:pw vh l m with
    |none=>rw[hq] at hv;cases hv
    |some q=>
     have E3:=hq
     unfold pw at hq
     split at hq
     ·injection hq with hq;subst hq
      have:=hm.aG rfl;cases this
      obtain⟨v',g1,g2⟩:=fin (q':=none) E3 trivial
      exact⟨v',by simp only[vP,AG,ht,hb,bz,lT];exact g1,g2⟩
     ·have:=hm.aG rfl
      cases this with
      |aC _ o br hg hlen rk rv=>
       obtain⟨h3,h4⟩:=YI hlen rk rv
       obtain⟨r',g1,g2⟩:=GH h3 h4 hq
       obtain⟨v',g3,g4⟩:=fin E3 g2
       exact⟨v',by simp only[vP,AG,ht,hb,bz,lT,s.fz _ _ hg,g1];exact g3,g4⟩
     ·rename_i i
      split at hq
      ·rename_i es hg
       cases hm with
       |fr _ _ h=>cases h
       |aW _ o a k hi hs=>
        obtain⟨br,h1,h2,h3,h4⟩:=(s.obj i _ hg).2
        rw[hs] at h1;simp only at h1
        obtain⟨r',g1,g2⟩:=GH h3 h4 hq
        obtain⟨v',g3,g4⟩:=fin E3 g2
        exact⟨v',by simp only[vP,AG,ht,hb,bz,lT,h1,g1];exact g3,g4⟩
      cases hq
     cases hq
  cases hv
 cases hv
def tS (l:List Value)(k:PV):Bool:=match k with
 |.agg ds=>match gJ ds with
  |some m=>match jj l m with|some s=>s|none=>false
  |none=>false
 |_=>false
def Gv (l:List Value)(ds:List PV)(v:PV)(p:PV×PV):PV×PV:=bif tS l p.1 then (.agg ds,v) else p
def E5 (l:List Value)(p:PV×PV):Bool:=!tS l p.1
def nJ (l:List Value)(ds:List PV)(v:PV)(es:List (PV×PV)):Option (List (PV×PV)):=
 match kB l es with
 |some (some _)=>some (es.map (Gv l ds v))
 |some none=>some (es++[(.agg ds,v)])
 |none=>none
theorem Rz {l:List Value}:∀ {es:List (PV×PV)} {r:Option PV},kB l es=some r→∀p∈es,∃ds m s,p.1=.agg ds∧gJ ds=some m∧jj l m=some s
 |[],r,h,p,hp=>by cases hp
 |(k,v)::es,r,h,p,hp=>by
  cases k with
  |agg ds=>
   simp only[kB] at h
   split at h
   ·rename_i m hm
    split at h
    ·rename_i s q hs hq
     rcases List.mem_cons.1 hp with rfl|hp
     ·exact⟨ds,m,s,rfl,hm,hs⟩
     exact Rz hq p hp
    cases h
   cases h
  |_=>simp[kB] at h
theorem YP {l:List Value}{es:List (PV×PV)}{k:PV}{k':Value}(hk:∃ds m s,k=.agg ds∧gJ ds=some m∧jj l m=some s)(hr:FR g k k'):Cb l k'=tS l k:=by
 obtain⟨ds,m,s,rfl,h2,h3⟩:=hk
 rw[JN h2 hr]
 simp only[Cb,tS,h2,h3]
theorem YQ {l:List Value}{ds:List PV}{xs:Array Value}{v:PV}{v':Value}(hx:xs.toList=l)(hd:FR g (.agg ds) (.agg xs))(hv:FR g v v'):∀ {es:List (PV×PV)} {br:List (Value×Value)},(∀p∈es,∃ds m s,p.1=.agg ds∧gJ ds=some m∧jj l m=some s)→bh (FR g) (es.map (·.1)) (br.map (·.1))→bh (FR g) (es.map (·.2)) (br.map (·.2))→
  bh (FR g) ((es.map (Gv l ds v)).map (·.1)) ((br.map (AH xs v')).map (·.1))∧bh (FR g) ((es.map (Gv l ds v)).map (·.2)) ((br.map (AH xs v')).map (·.2))
 |[],br,_,hk,hv=>by
  cases br with
  |nil=>exact⟨.nil,.nil⟩
  |cons=>have:=hk.1;simp at this
 |(k,u)::es,br,ha,hk,sA=>by
  cases br with
  |nil=>have:=hk.1;simp at this
  |cons q br=>
   obtain⟨k',u'⟩:=q
   obtain⟨k1,l1,e1,kz,gh⟩:=hk.dE
   simp only[List.map_cons,List.cons.injEq] at e1;obtain⟨rfl,rfl⟩:=e1
   obtain⟨k1,l1,e1,iS,eN⟩:=sA.dE
   simp only[List.map_cons,List.cons.injEq] at e1;obtain⟨rfl,rfl⟩:=e1
   have ih:=YQ hx hd hv (fun p hp=>ha p (List.mem_cons_of_mem _ hp)) gh eN
   have he:=YP (es:=es) (ha (k,u) List.mem_cons_self) kz
   simp only[List.map_cons,Gv,AH,hx,he]
   cases tS l k with
   |true=>exact⟨.cons hd ih.1,.cons hv ih.2⟩
   |false=>exact⟨.cons kz ih.1,.cons iS ih.2⟩
theorem YR {l:List Value}{xs:Array Value}(hx:xs.toList=l):∀ {es:List (PV×PV)} {br:List (Value×Value)},(∀p∈es,∃ds m s,p.1=.agg ds∧gJ ds=some m∧jj l m=some s)→bh (FR g) (es.map (·.1)) (br.map (·.1))→bh (FR g) (es.map (·.2)) (br.map (·.2))→
  bh (FR g) ((es.filter (E5 l)).map (·.1)) ((br.filter (wZ xs)).map (·.1))∧bh (FR g) ((es.filter (E5 l)).map (·.2)) ((br.filter (wZ xs)).map (·.2))
 |[],br,_,hk,hv=>by
  cases br with
  |nil=>exact⟨.nil,.nil⟩
  |cons=>have:=hk.1;simp at this
 |(k,u)::es,br,ha,hk,sA=>by
  cases br with
  |nil=>have:=hk.1;simp at this
  |cons q br=>
   obtain⟨k',u'⟩:=q
   obtain⟨k1,l1,e1,kz,gh⟩:=hk.dE
   simp only[List.map_cons,List.cons.injEq] at e1;obtain⟨rfl,rfl⟩:=e1
   obtain⟨k1,l1,e1,iS,eN⟩:=sA.dE
   simp only[List.map_cons,List.cons.injEq] at e1;obtain⟨rfl,rfl⟩:=e1
   have ih:=YR hx (fun p hp=>ha p (List.mem_cons_of_mem _ hp)) gh eN
   have he:=YP (es:=es) (ha (k,u) List.mem_cons_self) kz
   have same:E5 l (k,u)=wZ xs (k',u'):=by unfold E5 wZ;rw[hx,he]
   simp only[List.filter_cons]
   rw[← same]
   cases E5 l (k,u) with
   |false=>exact ih
   |true=>exact⟨.cons kz ih.1,.cons iS ih.2⟩
def p9 (P:Program)(vh:ai)(t:TypeId)(m:PV)(ds:List PV)(v:PV):Option ai:=
 match zn P t,m,gJ ds with
 |some (_,_,n),.aW i,some l=>
  bif !(fI l&&Nat.beq l.length n) then none else
  match vh.get i with
  |some (.map es)=>bif v.aG then (nJ l ds v es).map fun es=>vh.put i (.map es) else none
  |_=>none
 |_,_,_=>none
theorem zn8 (s:VS lo g σ vh h){t:TypeId}{m v:PV}{ds:List PV}{m' k' v':Value}{ao:ai}(hm:VR g σ vh.next m m')(hk:VR g σ vh.next (.agg ds) k')(sA:VR g σ vh.next v v')(hv:p9 P vh t m ds v=some ao) :
  ∃h',Cc P lo h t m' k' v'=some h'∧jH lo g σ vh h (.bx []) ao Go.undef h':=by
 unfold p9 at hv
 split at hv
 ·rename_i kt e n i l ht hl
  have RA:=hk.aG (by simp only[PV.aG];exact MD hl)
  have JO:=JN hl RA
  subst JO
  cases hb:(!(fI l&&Nat.beq l.length n)) with
  |true=>rw[hb] at hv;cases hv
  |false=>
  rw[hb,bz] at hv
  split at hv
  ·rename_i es hg
   cases hf:v.aG with
   |false=>rw[hf] at hv;cases hv
   |true=>
    rw[hf] at hv;simp only[aO] at hv
    obtain⟨out,ho,rfl⟩:=dq hv
    cases hm with
    |fr _ _ h=>cases h
    |aW _ o a k hi hs=>
     obtain⟨br,h1,h2,h3,h4⟩:=(s.obj i _ hg).2
     have bJ:=s.low i _ hg rfl
     have YS:=sA.aG hf
     obtain⟨fF,g1,g2,g3⟩:∃fF,(match uN l br with
       |some (some _)=>some (br.map (AH l.toArray v'))
       |some none=>some (br++[(.agg l.toArray,v')])
       |none=>none)=some fF∧bh (FR g) (out.map (·.1)) (fF.map (·.1))∧bh (FR g) (out.map (·.2)) (fF.map (·.2)):=by
      unfold nJ at ho
      split at ho
      ·rename_i u hq
       injection ho with ho;subst ho
       obtain⟨q',e1,e2⟩:=GH h3 h4 hq
       cases q' with
       |none=>exact e2.elim
       |some u'=>exact⟨_,by rw[e1],YQ (by simp) RA YS (Rz hq) h3 h4⟩
      ·rename_i hq
       injection ho with ho;subst ho
       obtain⟨q',e1,e2⟩:=GH h3 h4 hq
       cases q' with
       |some=>exact e2.elim
       |none=>
        refine⟨_,by rw[e1],?_,?_⟩
        ·simp only[List.map_append,List.map_cons,List.map_nil];exact h3.append (.cons RA .nil)
        simp only[List.map_append,List.map_cons,List.map_nil];exact h4.append (.cons YS .nil)
      cases ho
     have h5:=s.write hg rfl (x':=.map out) (.map fF) ⟨fF,by rw[ah.dJ _ _ _ _ (ah.gx h1),if_pos rfl],h2,g2,g3⟩
     rw[hs] at h1 bJ h5;simp only at h1 bJ h5
     have nt:Nat.ble lo o=true:=by rw[Nat.ble_eq];exact bJ
     refine⟨h.put o (some (.map fF)),?_,σ,.fr _ _ uC,h5.1,h5.2,Nat.le_refl _,fun _ _=>rfl⟩
     simp only[Cc,Kv,ht,hb,bz,h1,nt,aO]
     split at g1
     ·rename_i hq;simp only[hq];injection g1 with g1;rw[g1]
     ·rename_i hq;simp only[hq];injection g1 with g1;rw[g1]
     cases g1
  cases hv
 cases hv
def RB (P:Program)(vh:ai)(t:TypeId)(m:PV)(ds:List PV):Option ai:=
 match zn P t,m,gJ ds with
 |some (_,_,n),.aW i,some l=>
  bif !(fI l&&Nat.beq l.length n) then none else
  match vh.get i with
  |some (.map es)=>match kB l es with
   |some _=>some (vh.put i (.map (es.filter (E5 l))))
   |none=>none
  |_=>none
 |_,_,_=>none
theorem zsb (s:VS lo g σ vh h){t:TypeId}{m:PV}{ds:List PV}{m' k':Value}{ao:ai}(hm:VR g σ vh.next m m')(hk:VR g σ vh.next (.agg ds) k')(hv:RB P vh t m ds=some ao) :
  ∃h',ri P lo h t m' k'=some h'∧jH lo g σ vh h (.bx []) ao Go.undef h':=by
 unfold RB at hv
 split at hv
 ·rename_i kt e n i l ht hl
  have JO:=JN hl (hk.aG (by simp only[PV.aG];exact MD hl))
  subst JO
  cases hb:(!(fI l&&Nat.beq l.length n)) with
  |true=>rw[hb] at hv;cases hv
  |false=>
  rw[hb,bz] at hv
  split at hv
  ·rename_i es hg
   split at hv
   ·rename_i q hq
    injection hv with hv;subst hv
    cases hm with
    |fr _ _ h=>cases h
    |aW _ o a k hi hs=>
     obtain⟨br,h1,h2,h3,h4⟩:=(s.obj i _ hg).2
     have bJ:=s.low i _ hg rfl
     obtain⟨g1,g2⟩:=YR (xs:=l.toArray) (by simp) (Rz hq) h3 h4
     obtain⟨q',g3,_⟩:=GH h3 h4 hq
     have h5:=s.write hg rfl (x':=.map (es.filter (E5 l))) (.map (br.filter (wZ l.toArray))) ⟨_,by rw[ah.dJ _ _ _ _ (ah.gx h1),if_pos rfl],h2,g1,g2⟩
     rw[hs] at h1 bJ h5;simp only at h1 bJ h5
     have nt:Nat.ble lo o=true:=by rw[Nat.ble_eq];exact bJ
     exact⟨_,by simp only[ri,Kw,ht,hb,bz,h1,nt,aO,g3],σ,.fr _ _ uC,h5.1,h5.2,Nat.le_refl _,fun _ _=>rfl⟩
   cases hv
  cases hv
 cases hv
def pn (P:Program)(vh:ai)(t:TypeId)(m k:PV)(ok:Bool):Option PV:=
 match k with
 |.agg ds=>p7 P vh t m ds ok
 |k=>
 match mK P t,k with
 |some (_,e),.int kd n=>
  match (eu P e).bind bj with
  |some z=>
   match nH vh kd n m with
   |some (some v)=>some (bif ok then .bx [v,.bool true] else v)
   |some none=>some (bif ok then .bx [z,.bool false] else z)
   |none=>none
  |none=>none
 |_,_=>none
def oc (P:Program)(vh:ai)(t:TypeId)(m k v:PV):Option ai:=
 match k with
 |.agg ds=>p9 P vh t m ds v
 |k=>
 match mK P t,m,k with
 |some _,.aW i,.int kd n=>
  match vh.get i with
  |some (.map es)=>bif v.aG then (MC kd n v es).map fun es=>vh.put i (.map es) else none
  |_=>none
 |_,_,_=>none
def po (P:Program)(vh:ai)(t:TypeId)(m k:PV):Option ai:=
 match k with
 |.agg ds=>RB P vh t m ds
 |k=>
 match mK P t,m,k with
 |some _,.aW i,.int kd n=>
  match vh.get i with
  |some (.map es)=>match Af kd n es with
   |some _=>some (vh.put i (.map (es.filter (E4 n))))
   |none=>none
  |_=>none
 |_,_,_=>none
theorem zye {P:Program}{h:ah}{t:TypeId}{m k v:Value}{ok:Bool}(ha:vN P h t m k ok=some v):vP P h t m k ok=some v:=by
 cases k with
 |agg xs=>unfold vN at ha;split at ha<;>simp_all
 |_=>exact ha
theorem zzq {P:Program}{lo:Nat}{h h':ah}{t:TypeId}{m k v:Value}(ha:Dr P lo h t m k v=some h'):Cc P lo h t m k v=some h':=by
 cases k with
 |agg xs=>unfold Dr at ha;split at ha<;>simp_all
 |_=>exact ha
theorem z3p {P:Program}{lo:Nat}{h h':ah}{t:TypeId}{m k:Value}(ha:Du P lo h t m k=some h'):ri P lo h t m k=some h':=by
 cases k with
 |agg xs=>unfold Du at ha;split at ha<;>simp_all
 |_=>exact ha
theorem zww (s:VS lo g σ vh h){t:TypeId}{m k v:PV}{m' k':Value}{ok:Bool}(hm:VR g σ vh.next m m')(hk:VR g σ vh.next k k')(hv:pn P vh t m k ok=some v):∃v',vP P h t m' k' ok=some v'∧FR g v v':=by
 unfold pn at hv
 split at hv
 ·exact zsq s hm hk hv
 obtain⟨v',h1,h2⟩:=zsp s hm hk hv
 exact⟨v',zye h1,h2⟩
theorem YT (s:VS lo g σ vh h){t:TypeId}{m k v:PV}{m' k' v':Value}{ao:ai}(hm:VR g σ vh.next m m')(hk:VR g σ vh.next k k')(sA:VR g σ vh.next v v')(hv:oc P vh t m k v=some ao) :
  ∃h',Cc P lo h t m' k' v'=some h'∧jH lo g σ vh h (.bx []) ao Go.undef h':=by
 unfold oc at hv
 split at hv
 ·exact zn8 s hm hk sA hv
 obtain⟨h',h1,h2⟩:=znz s hm hk sA hv
 exact⟨h',zzq h1,h2⟩
theorem zwk (s:VS lo g σ vh h){t:TypeId}{m k:PV}{m' k':Value}{ao:ai}(hm:VR g σ vh.next m m')(hk:VR g σ vh.next k k')(hv:po P vh t m k=some ao) :
  ∃h',ri P lo h t m' k'=some h'∧jH lo g σ vh h (.bx []) ao Go.undef h':=by
 unfold po at hv
 split at hv
 ·exact zsb s hm hk hv
 obtain⟨h',h1,h2⟩:=ztn s hm hk hv
 exact⟨h',z3p h1,h2⟩
def pq (P:Program)(vh:ai)(t:TypeId)(x:PV):Option ai:=
 match gO P t,x with
 |some _,.aI=>some vh
 |some _,.vec []=>some vh
 |some (e,n),.sub i off (l+1)=>
  match ey P e,vh.get i with
  |some z,some (.arr ag sz cs)=>bif Nat.beq z.length n&&Nat.beq sz n&&Nat.ble (off+(l+1)*n) cs.length&&z.all PV.one then some (vh.put i (.arr ag sz (jn cs off (cz z (l+1))))) else none
  |_,_=>none
 |_,_=>none
theorem z0e (s:VS lo g σ vh h){t:TypeId}{x:PV}{x':Value}{ao:ai}(hx:VR g σ vh.next x x')(hv:pq P vh t x=some ao) :
  ∃h',zm P lo h t x'=some h'∧jH lo g σ vh h (.bx []) ao Go.undef h':=by
 unfold pq at hv
 split at hv
 ·rename_i q ht
  injection hv with hv;subst hv
  have:=hx.aG rfl;cases this
  exact⟨h,by simp only[zm,ht],.same s (.fr _ _ uC)⟩
 ·rename_i q ht
  injection hv with hv;subst hv
  have:=hx.aG rfl
  cases this with
  |fw=>exact⟨h,by simp only[zm,ht],.same s (.fr _ _ uC)⟩
  |dv=>exact⟨h,by simp only[zm,ht],.same s (.fr _ _ uC)⟩
  |vec _ o off k s0 sz ar=>exact⟨h,by simp only[zm,ht,List.length_nil],.same s (.fr _ _ uC)⟩
 ·rename_i e n i off l ht
  split at hv
  ·rename_i z ag sz cs hz hg
   cases hb:(Nat.beq z.length n&&Nat.beq sz n&&Nat.ble (off+(l+1)*n) cs.length&&z.all PV.one) with
   |false=>rw[hb] at hv;cases hv
   |true=>
    rw[hb] at hv;simp only[aO,ax] at hv;subst hv
    simp only[bS,beq_eq,decide_eq_true_eq,Nat.ble_eq] at hb
    obtain⟨⟨⟨b1,b2⟩,b3⟩,b4⟩:=hb
    subst b2
    obtain⟨z',k1,k2⟩:=zz (g:=g) hz
    obtain⟨h0,s0,ar,h1,h2,h3⟩:=(s.obj i _ hg).2
    have bJ:=s.low i _ hg rfl
    cases hx with
    |fr _ _ h=>cases h
    |sub _ _ _ k o a kk hi hs hl hk=>
     rw[hs] at h1 h2 bJ;simp only at h1 h2 bJ;subst h2
     have iA:bh (FR g) (jn cs off (cz z (l+1))) (fT ar off (db z' (l+1))):=h3.fT off (FM k2 _)
     have hw:=s.write hg rfl (x':=.arr ag sz (jn cs off (cz z (l+1)))) (.cells s0 (fT ar off (db z' (l+1)))) ⟨h0,s0,_,by rw[hs,ah.dJ _ _ _ _ (ah.gx h1),if_pos rfl],by rw[hs],iA⟩
     rw[hs] at hw
     have e1:Nat.ble lo o=true:=by rw[Nat.ble_eq];exact bJ
     have e2:Nat.beq z'.length sz=true:=by rw[← k2.1,beq_eq];simpa using b1
     have e3:Nat.ble (0+off+(l+1)*sz) ar.length=true:=by rw[Nat.ble_eq,← h3.1];omega
     have e4:z'.all (·.oneCell')=true:=bh.xu (σ:=σ) (n:=vh.next) k2.vr b4
     refine⟨_,by simp only[zm,ht,k1,h1,e1,e2,e3,e4,Bool.and_true,aO];rfl,σ,.fr _ _ uC,?_,?_,Nat.le_refl _,fun _ _=>rfl⟩
     ·simpa using hw.1
     simpa using hw.2
  cases hv
 cases hv
end
def fL:List PV→Option (List Value)
 |[]=>some []
 |v::r=>match my v,fL r with
  |some x,some l=>some (x::l)
  |_,_=>none
def ph (P:Program)(vh:ai)(b:Builtin)(argTypes:List TypeId)(args:List PV):Option (PV×ai):=
 match b,argTypes,args with
 |.len,[t],[x]=>(gF P vh t x).map (·,vh)
 |.append,[s,x],[a,b]=>pj P vh s x a b
 |.copy,[d,_],[a,b]=>cU P vh d a b
 |.delete,[t,_],[m,k]=>(po P vh t m k).map fun ao=>(.bx [],ao)
 |.clear,[t],[x]=>(pq P vh t x).map fun ao=>(.bx [],ao)
 |.max,_,x::r=>match fL (x::r) with
  |some (x::r)=>((jF true x r).bind bj).map (·,vh)
  |_=>none
 |.min,_,x::r=>match fL (x::r) with
  |some (x::r)=>((jF false x r).bind bj).map (·,vh)
  |_=>none
 |_,_,_=>none
def dH (P:Program)(ab:a7)(vh:ai):Op→Option (PV×ai)
 |.move x=>(cC ab x).map (·,vh)
 |.assign x=>(cC ab x).map (·,vh)
 |.pick c a b=>match cC ab c with
  |some (.bool true)=>(cC ab a).map (·,vh)
  |some (.bool false)=>(cC ab b).map (·,vh)
  |_=>none
 |.alloc t=>pe P vh t
 |.box _ x=>(cC ab x).map (gG vh)
 |.build t parts=>match mw ab parts.toList with
  |some l=>(oa P t l).map (·,vh)
  |none=>none
 |.buildSlice t n parts=>match mw ab parts.toList with
  |some l=>nF P vh t n l
  |none=>none
 |.load t a=>match cC ab a with
  |some p=>(n4 P vh t p).map (·,vh)
  |none=>none
 |.store t a x=>match cC ab a,cC ab x with
  |some p,some v=>(pg P vh t p v).map fun ao=>(.bx [],ao)
  |_,_=>none
 |.nilCheck x=>match cC ab x with
  |some (.ptr i off)=>some (.ptr i off,vh)
  |some (.vp cs)=>some (.vp cs,vh)
  |some (.func f xs ys)=>some (.func f xs ys,vh)
  |_=>none
 |.binOp op t x y _=>match cC ab x,cC ab y with
  |some a,some b=>(gE P op t a b).map (·,vh)
  |_,_=>none
 |.unOp op _ x=>match (cC ab x).bind my with
  |some a=>((nv op a).bind bj).map (·,vh)
  |none=>none
 |.convert s d x=>match (cC ab x).bind my with
  |some a=>((ny P s d a).bind bj).map (·,vh)
  |none=>none
 |.makeFunc (.func f) first captured=>match iE ab first.toList,iE ab captured.toList with
  |some xs,some ys=>some (.func f xs ys,vh)
  |_,_=>none
 |.makeMap _ none=>some (pf vh)
 |.makeSlice t l c=>match cC ab l,cC ab c with
  |some a,some b=>nG P vh t a b
  |_,_=>none
 |.slice t x lo hi none=>match cC ab x,vO ab lo,vO ab hi with
  |some v,some l,some u=>(o9 P t v l u).map (·,vh)
  |_,_,_=>none
 |.slice t x lo hi (some mx)=>match cC ab x,vO ab lo,vO ab hi,vO ab (some mx) with
  |some v,some l,some u,some m=>match DS P t v l u m with
   |some r=>some (r,vh)
   |none=>bif (l.isNone||jW l)&&jW u&&jW m then (pa P t v).map (·,vh) else none
  |_,_,_,_=>none
 |.fieldAddr s x f=>match cC ab x with
  |some p=>(o7 P s p f).map (·,vh)
  |none=>none
 |.field s x f=>match cC ab x with
  |some p=>(o4 P s p f).map (·,vh)
  |none=>none
 |.indexAddr t x i=>match cC ab x,cC ab i with
  |some a,some b=>(o8 P t a b).map (·,vh)
  |_,_=>none
 |.index t x i=>match cC ab x,cC ab i with
  |some a,some b=>(o5 P t a b).map (·,vh)
  |_,_=>none
 |.lookup t m k ok=>match cC ab m,cC ab k with
  |some a,some b=>(pn P vh t a b ok).map (·,vh)
  |_,_=>none
 |.mapUpdate t m k x=>match cC ab m,cC ab k,cC ab x with
  |some a,some b,some c=>(oc P vh t a b c).map fun ao=>(.bx [],ao)
  |_,_,_=>none
 |.insert t m k x=>match cC ab m,cC ab k,cC ab x with
  |some a,some b,some c=>(oc P vh t a b c).map fun ao=>(.bx [],ao)
  |_,_,_=>none
 |.extract x i=>match cC ab x with
  |some a=>(o6 a i).map (·,vh)
  |none=>none
 |.call ⟨.builtin b,args,argTypes⟩=>match iE ab args.toList with
  |some l=>ph P vh b argTypes.toList l
  |none=>none
 |_=>none
section
variable {P:Program} {lo:Nat} {g:Fz} {σ:Sg} {vh:ai} {h:ah} {ab:a7} {ts:aL}
theorem RC {n:Nat}:∀ {l:List PV} {l' xs:List Value},bh (VR g σ n) l l'→fL l=some xs→l'=xs
 |[],l',xs,hl,h=>by simp only[fL,ax] at h;subst h;exact hl.jM
 |v::r,l',xs,hl,h=>by
  simp only[fL] at h
  split at h
  ·rename_i p l h1 h2
   injection h with h;subst h
   obtain⟨v',r',rfl,k1,k2⟩:=hl.dE
   rw[Hz k1 h1,RC k2 h2]
  cases h
theorem pE {α:Type}{o:Option PV}{vh ao:ai}{v:PV}(h:o.map (·,vh)=some (v,ao)):o=some v∧ao=vh:=by
 obtain⟨a,h1,h2⟩:=dq h
 simp only[bG] at h2
 exact⟨h2.1▸h1,h2.2.symm⟩
theorem zsg (s:VS lo g σ vh h){b:Builtin}{aT:List TypeId}{args:List PV}{aB:List Value}{v:PV}{ao:ai}(ha:bh (VR g σ vh.next) args aB)(hv:ph P vh b aT args=some (v,ao)) :
  ∃v' h',qB P lo h b aT aB=some (v',h')∧jH lo g σ vh h v ao v' h':=by
 unfold ph at hv
 split at hv
 ·obtain⟨h1,rfl⟩:=pE (α:=Unit) hv
  obtain⟨x',r1,rfl,hx,h2⟩:=ha.dE
  have:=h2.jM;subst this
  obtain⟨v',g1,g2⟩:=z6u s hx h1
  exact⟨v',h,by simp only[qB,g1,Option.map_some],.same s (.fr _ _ g2)⟩
 ·obtain⟨x',r1,rfl,hx,h2⟩:=ha.dE
  obtain⟨y',r2,rfl,hy,h3⟩:=h2.dE
  have:=h3.jM;subst this
  exact zw6 s hx hy hv
 ·obtain⟨x',r1,rfl,hx,h2⟩:=ha.dE
  obtain⟨y',r2,rfl,hy,h3⟩:=h2.dE
  have:=h3.jM;subst this
  exact z4b s hx hy hv
 ·obtain⟨cn,h1,h2⟩:=dq hv
  simp only[bG] at h2;obtain⟨rfl,rfl⟩:=h2
  obtain⟨x',r1,rfl,hx,h2⟩:=ha.dE
  obtain⟨y',r2,rfl,hy,h3⟩:=h2.dE
  have:=h3.jM;subst this
  obtain⟨h',g1,g2⟩:=zwk s hx hy h1
  exact⟨_,h',by simp only[qB,g1,Option.map_some],g2⟩
 ·obtain⟨cn,h1,h2⟩:=dq hv
  simp only[bG] at h2;obtain⟨rfl,rfl⟩:=h2
  obtain⟨x',r1,rfl,hx,h2⟩:=ha.dE
  have:=h2.jM;subst this
  obtain⟨h',g1,g2⟩:=z0e s hx h1
  exact⟨_,h',by simp only[qB,g1,Option.map_some],g2⟩
 ·split at hv
  ·rename_i x r hc
   obtain⟨h1,rfl⟩:=pE (α:=Unit) hv
   have:=RC ha hc;subst this
   cases hm:jF true x r with
   |none=>rw[hm] at h1;cases h1
   |some u=>rw[hm] at h1;exact⟨u,h,by simp only[qB,hm,Option.map_some],.same s (.fr _ _ (AT h1).1)⟩
  cases hv
 ·split at hv
  ·rename_i x r hc
   obtain⟨h1,rfl⟩:=pE (α:=Unit) hv
   have:=RC ha hc;subst this
   cases hm:jF false x r with
   |none=>rw[hm] at h1;cases h1
   |some u=>rw[hm] at h1;exact⟨u,h,by simp only[qB,hm,Option.map_some],.same s (.fr _ _ (AT h1).1)⟩
  cases hv
 cases hv
theorem BU (s:VS lo g σ vh h)(ht:VT g σ vh.next ab ts){op:Op}{v:PV}{ao:ai}(hv:dH P ab vh op=some (v,ao)):∃v' h',cu P lo ts h op=some (v',h')∧jH lo g σ vh h v ao v' h':=by
 have pure:∀ {o:Option PV} {v':Value},ao=vh→VR g σ vh.next v v'→cu P lo ts h op=some (v',h)→∃v' h',cu P lo ts h op=some (v',h')∧jH lo g σ vh h v ao v' h':=fun {o v'} e hr ha=>by
  subst e;exact⟨_,_,ha,.same s hr⟩
 unfold dH at hv
 split at hv
 ·obtain⟨h1,e⟩:=pE (α:=Unit) hv
  obtain⟨v',g1,g2⟩:=eO ht h1
  exact pure (o:=none) e g2 (by simp only[cu,g1,Option.map_some])
 ·obtain⟨h1,e⟩:=pE (α:=Unit) hv
  obtain⟨v',g1,g2⟩:=eO ht h1
  exact pure (o:=none) e g2 (by simp only[cu,g1,Option.map_some])
 ·split at hv
  ·rename_i hc
   obtain⟨h1,e⟩:=pE (α:=Unit) hv
   obtain⟨c',k1,k2⟩:=eO ht hc
   have:=k2.aG rfl;cases this
   obtain⟨v',g1,g2⟩:=eO ht h1
   exact pure (o:=none) e g2 (by simp only[cu,k1,g1,Option.map_some])
  ·rename_i hc
   obtain⟨h1,e⟩:=pE (α:=Unit) hv
   obtain⟨c',k1,k2⟩:=eO ht hc
   have:=k2.aG rfl;cases this
   obtain⟨v',g1,g2⟩:=eO ht h1
   exact pure (o:=none) e g2 (by simp only[cu,k1,g1,Option.map_some])
  cases hv
 ·obtain⟨v',h',g1,g2⟩:=zxp s hv
  exact⟨v',h',g1,g2⟩
 ·obtain⟨u,h1,h2⟩:=dq hv
  obtain⟨u',g1,g2⟩:=eO ht h1
  have:=z9s s g2
  rw[h2] at this
  exact⟨_,_,by simp only[cu,g1,Option.map_some],this⟩
 ·split at hv
  ·rename_i l hl
   obtain⟨h1,e⟩:=pE (α:=Unit) hv
   obtain⟨l',k1,k2⟩:=KX ht hl
   obtain⟨v',g1,g2⟩:=zyj k2 h1
   exact pure (o:=none) e g2 (by simp only[cu,k1,g1,Option.map_some])
  cases hv
 ·split at hv
  ·rename_i l hl
   obtain⟨l',k1,k2⟩:=KX ht hl
   obtain⟨v',h',g1,g2⟩:=zoa s k2 hv
   exact⟨v',h',by simp only[cu,k1,g1],g2⟩
  cases hv
 ·split at hv
  ·rename_i p hp
   obtain⟨h1,e⟩:=pE (α:=Unit) hv
   obtain⟨p',k1,k2⟩:=eO ht hp
   obtain⟨v',g1,g2⟩:=To s k2 h1
   exact pure (o:=none) e g2 (by simp only[cu,k1,g1,Option.map_some])
  cases hv
 ·split at hv
  ·rename_i p u hp hu
   obtain⟨cn,h1,h2⟩:=dq hv
   simp only[bG] at h2;obtain⟨rfl,rfl⟩:=h2
   obtain⟨p',k1,k2⟩:=eO ht hp
   obtain⟨u',k3,k4⟩:=eO ht hu
   obtain⟨h',g1,g2⟩:=zys s k2 k4 h1
   exact⟨_,h',by simp only[cu,k1,k3,g1,Option.map_some],g2⟩
  cases hv
 ·split at hv
  ·rename_i i off hp
   simp only[ax,bG] at hv;obtain⟨rfl,rfl⟩:=hv
   obtain⟨p',k1,k2⟩:=eO ht hp
   have k3:=k2
   cases k2 with
   |fr _ _ h=>cases h
   |ptr=>exact⟨_,_,by simp only[cu,k1,Fu,Option.map_some],.same s k3⟩
  ·rename_i cs hp
   simp only[ax,bG] at hv;obtain⟨rfl,rfl⟩:=hv
   obtain⟨p',k1,k2⟩:=eO ht hp
   have k3:=k2
   have:=k2.aG rfl;cases this
   exact⟨_,_,by simp only[cu,k1,Fu,Option.map_some],.same s k3⟩
  ·rename_i f xs ys hp
   simp only[ax,bG] at hv;obtain⟨rfl,rfl⟩:=hv
   obtain⟨p',k1,k2⟩:=eO ht hp
   have k3:=k2
   cases k2 with
   |fr _ _ h=>cases h;exact⟨_,_,by simp only[cu,k1,Fu,Option.map_some],.same s k3⟩
   |func=>exact⟨_,_,by simp only[cu,k1,Fu,Option.map_some],.same s k3⟩
  cases hv
 ·split at hv
  ·rename_i a b ha hb
   obtain⟨h1,e⟩:=pE (α:=Unit) hv
   obtain⟨a',k1,k2⟩:=eO ht ha
   obtain⟨b',k3,k4⟩:=eO ht hb
   obtain⟨v',g1,g2⟩:=xah k2 k4 h1
   exact pure (o:=none) e (.fr _ _ g2) (by simp only[cu,k1,k3,g1,Option.map_some])
  cases hv
 ·rename_i op ty x
  split at hv
  ·rename_i a ha
   cases hx:cC ab x with
   |none=>rw[hx] at ha;cases ha
   |some u=>
    rw[hx] at ha
    obtain⟨h1,e⟩:=pE (α:=Unit) hv
    obtain⟨u',k1,k2⟩:=eO ht hx
    have:=Hz k2 ha;subst this
    cases hu:nv op u' with
    |none=>rw[hu] at h1;cases h1
    |some w=>rw[hu] at h1;exact pure (o:=none) e (.fr _ _ (AT h1).1) (by simp only[cu,k1,hu,Option.map_some])
  cases hv
 ·rename_i sT dT x
  split at hv
  ·rename_i a ha
   cases hx:cC ab x with
   |none=>rw[hx] at ha;cases ha
   |some u=>
    rw[hx] at ha
    obtain⟨h1,e⟩:=pE (α:=Unit) hv
    obtain⟨u',k1,k2⟩:=eO ht hx
    have:=Hz k2 ha;subst this
    cases hu:ny P sT dT u' with
    |none=>rw[hu] at h1;cases h1
    |some w=>rw[hu] at h1;exact pure (o:=none) e (.fr _ _ (AT h1).1) (by simp only[cu,k1,hu,Option.map_some])
  cases hv
 ·split at hv
  ·rename_i xs ys ra hys
   simp only[ax,bG] at hv;obtain⟨rfl,rfl⟩:=hv
   obtain⟨bw,k1,k2⟩:=AU ht ra
   obtain⟨dK,k3,k4⟩:=AU ht hys
   exact⟨_,_,by simp only[cu,k1,k3],.same s (.func _ _ _ bw.toArray dK.toArray (by simpa using k2.1) (by simpa using k4.1) (fun i v v' hv aQ=>k2.2 i v v' hv (by simpa using aQ)) (fun i v v' hv aQ=>k4.2 i v v' hv (by simpa using aQ)))⟩
  cases hv
 ·simp only[ax] at hv
  have:=ztj s
  rw[hv] at this
  exact⟨_,_,rfl,this⟩
 ·split at hv
  ·rename_i a b ha hb
   obtain⟨a',k1,k2⟩:=eO ht ha
   obtain⟨b',k3,k4⟩:=eO ht hb
   obtain⟨v',h',g1,g2⟩:=zpx s k2 k4 hv
   exact⟨v',h',by simp only[cu,k1,k3,g1],g2⟩
  cases hv
 ·split at hv
  ·rename_i a l u ha hl hu
   obtain⟨h1,e⟩:=pE (α:=Unit) hv
   obtain⟨a',k1,k2⟩:=eO ht ha
   obtain⟨l',k3,k4⟩:=Cu ht hl
   obtain⟨u',k5,k6⟩:=Cu ht hu
   obtain⟨v',g1,g2⟩:=zx3 k2 k4 k6 h1
   exact pure (o:=none) e g2 (by simp only[cu,k1,k3,k5,show vR ts none=some none from rfl,g1,Option.map_some])
  cases hv
 ·rename_i t x fE dD mx
  split at hv
  ·rename_i a l u m ha hl hu hm
   split at hv
   ·rename_i r0 oQ
    obtain⟨a',k1,k2⟩:=eO ht ha
    obtain⟨l',k3,k4⟩:=Cu ht hl
    obtain⟨u',k5,k6⟩:=Cu ht hu
    obtain⟨m',k7,k8⟩:=Cu ht hm
    obtain⟨v',g1,g2⟩:=zwp k2 k4 k6 k8 oQ
    simp only[ax,bG] at hv
    obtain⟨rfl,rfl⟩:=hv
    exact pure (o:=none) rfl g2 (by simp only[cu,k1,k3,k5,k7,g1,Option.map_some])
   cases hb:((l.isNone||jW l)&&jW u&&jW m) with
   |false=>rw[hb] at hv;cases hv
   |true=>
    rw[hb] at hv;simp only[aO] at hv
    simp only[bS,Bool.or_eq_true] at hb
    obtain⟨⟨kf,cT⟩,nY⟩:=hb
    obtain⟨h1,e⟩:=pE (α:=Unit) hv
    obtain⟨a',k1,k2⟩:=eO ht ha
    obtain⟨l',k3,k4⟩:=Cu ht hl
    obtain⟨u',k5,k6⟩:=Cu ht hu
    obtain⟨m',k7,k8⟩:=Cu ht hm
    obtain⟨v',g1,g2⟩:=zwd k2 k4 k6 k8 (by rcases kf with h|h;exact .inl (by simpa using h);exact .inr h) cT nY h1
    exact pure (o:=none) e g2 (by simp only[cu,k1,k3,k5,k7,g1,Option.map_some])
  cases hv
 ·split at hv
  ·rename_i p hp
   obtain⟨h1,e⟩:=pE (α:=Unit) hv
   obtain⟨p',k1,k2⟩:=eO ht hp
   obtain⟨v',g1,g2⟩:=zp2 k2 h1
   exact pure (o:=none) e g2 (by simp only[cu,k1,g1,Option.map_some])
  cases hv
 ·split at hv
  ·rename_i p hp
   obtain⟨h1,e⟩:=pE (α:=Unit) hv
   obtain⟨p',k1,k2⟩:=eO ht hp
   obtain⟨v',g1,g2⟩:=zyy k2 h1
   exact pure (o:=none) e g2 (by simp only[cu,k1,g1,Option.map_some])
  cases hv
 ·split at hv
  ·rename_i a b ha hb
   obtain⟨h1,e⟩:=pE (α:=Unit) hv
   obtain⟨a',k1,k2⟩:=eO ht ha
   obtain⟨b',k3,k4⟩:=eO ht hb
   obtain⟨v',g1,g2⟩:=zpy k2 k4 h1
   exact pure (o:=none) e g2 (by simp only[cu,k1,k3,g1,Option.map_some])
  cases hv
 ·split at hv
  ·rename_i a b ha hb
   obtain⟨h1,e⟩:=pE (α:=Unit) hv
   obtain⟨a',k1,k2⟩:=eO ht ha
   obtain⟨b',k3,k4⟩:=eO ht hb
   obtain⟨v',g1,g2⟩:=zxt k2 k4 h1
   exact pure (o:=none) e g2 (by simp only[cu,k1,k3,g1,Option.map_some])
  cases hv
 ·split at hv
  ·rename_i a b ha hb
   obtain⟨h1,e⟩:=pE (α:=Unit) hv
   obtain⟨a',k1,k2⟩:=eO ht ha
   obtain⟨b',k3,k4⟩:=eO ht hb
   obtain⟨v',g1,g2⟩:=zww s k2 k4 h1
   exact pure (o:=none) e (.fr _ _ g2) (by simp only[cu,k1,k3,g1,Option.map_some])
  cases hv
 ·split at hv
  ·rename_i a b c ha hb hc
   obtain⟨cn,h1,h2⟩:=dq hv
   simp only[bG] at h2;obtain⟨rfl,rfl⟩:=h2
   obtain⟨a',k1,k2⟩:=eO ht ha
   obtain⟨b',k3,k4⟩:=eO ht hb
   obtain⟨c',k5,k6⟩:=eO ht hc
   obtain⟨h',g1,g2⟩:=YT s k2 k4 k6 h1
   exact⟨_,h',by simp only[cu,k1,k3,k5,g1,Option.map_some],g2⟩
  cases hv
 ·split at hv
  ·rename_i a b c ha hb hc
   obtain⟨cn,h1,h2⟩:=dq hv
   simp only[bG] at h2;obtain⟨rfl,rfl⟩:=h2
   obtain⟨a',k1,k2⟩:=eO ht ha
   obtain⟨b',k3,k4⟩:=eO ht hb
   obtain⟨c',k5,k6⟩:=eO ht hc
   obtain⟨h',g1,g2⟩:=YT s k2 k4 k6 h1
   exact⟨_,h',by simp only[cu,k1,k3,k5,g1,Option.map_some],g2⟩
  cases hv
 ·split at hv
  ·rename_i p hp
   obtain⟨h1,e⟩:=pE (α:=Unit) hv
   obtain⟨p',k1,k2⟩:=eO ht hp
   obtain⟨v',g1,g2⟩:=ztx k2 h1
   exact pure (o:=none) e g2 (by simp only[cu,k1,g1,Option.map_some])
  cases hv
 ·split at hv
  ·rename_i l hl
   obtain⟨l',k1,k2⟩:=AU ht hl
   obtain⟨v',h',g1,g2⟩:=zsg s k2 hv
   exact⟨v',h',by simp only[cu,k1,g1],g2⟩
  cases hv
 cases hv
end
def dU (g:Fz)(σ:Sg)(vh:ai)(h:ah)(g':Fz):Prop:=∀o x,g' o=some x→o<h.next→g o=some x∨∃i y,vh.get i=some y∧y.live=true∧(σ i).1=o
abbrev jd:=Exit→a7→ai→Prop
structure dV (N b lo:Nat) (g:Fz) (σ:Sg) (vh:ai) (h:ah) (bf:aL) (h':ah) (g':Fz) (aR:Sg) (aU:a7) (ao:ai):Prop where
  t:VT g' aR ao.next aU bf
  len:bf.length=N
  s:VS lo g' aR ao h'
  le:g.le g'
  agree:∀i,i<b→aR i=σ i
  f:VF σ vh h aR ao h'
  base:b≤ao.next
  own:dU g σ vh h g'
def qt (N b lo:Nat)(g:Fz)(σ:Sg)(vh:ai)(h:ah)(K:a7→ai→Prop)(bf:aL)(h':ah):Prop:=
 ∃g' aR aU ao,dV N b lo g σ vh h bf h' g' aR aU ao∧K aU ao
def VW (P:Program)(N b:Nat)(c:Code)(Q:jd)(ab:a7)(vh:ai):Prop:=
 ∀lo g σ h ts,VT g σ vh.next ab ts→ts.length=N→VS lo g σ vh h→b≤vh.next→AW P lo c (fun e=>qt N b lo g σ vh h (Q e)) ts h
def lN (P:Program)(N b:Nat)(o:Oper)(next:a7→ai→Prop)(ab:a7)(vh:ai):Prop:=
 ∀lo g σ h ts,VT g σ vh.next ab ts→ts.length=N→VS lo g σ vh h→b≤vh.next→rj P lo o ts h (qt N b lo g σ vh h next)
def dP (P:Program)(f:FuncId)(args:List PV)(vh:ai)(R:PV→ai→Prop):Prop:=
 ∀lo g σ h aB,bh (VR g σ vh.next) args aB→VS lo g σ vh h→nU P lo f aB h fun r h'=>∃g' aR v ao,VR g' aR ao.next v r∧VS lo g' aR ao h'∧g.le g'∧(∀i,i<vh.next→aR i=σ i)∧VF σ vh h aR ao h'∧vh.next≤ao.next∧
  dU g σ vh h g'∧R v ao
section
variable {P:Program} {N b:Nat} {Q Q':jd} {ab:a7} {vh:ai}
theorem dU.refl (g:Fz)(σ:Sg)(vh:ai)(h:ah):dU g σ vh h g:=fun o x hx _=>.inl hx
theorem dU.trans {g g1 g2:Fz}{σ rB:Sg}{vh cn:ai}{h h1:ah}(a:dU g σ vh h g1)(f:VF σ vh h rB cn h1)(c:dU g1 rB cn h1 g2):dU g σ vh h g2:=fun o x hx ho=>by
 rcases c o x hx (Nat.lt_of_lt_of_le ho f.next) with h|⟨i,y,h1,h2,h3⟩
 ·exact a o x h ho
 obtain⟨j,z,k1,k2,k3⟩:=f.own i y h1 h2 (h3▸ho)
 exact .inr ⟨j,z,k1,k2,k3.trans h3⟩
theorem dV.refl {lo:Nat}{g:Fz}{σ:Sg}{h:ah}{ts:aL}(ht:VT g σ vh.next ab ts)(hn:ts.length=N)(s:VS lo g σ vh h)(hb:b≤vh.next):dV N b lo g σ vh h ts h g σ ab vh:=
 ⟨ht,hn,s,Fz.le_refl g,fun _ _=>rfl,VF.refl _ _ _,hb,dU.refl _ _ _ _⟩
theorem dV.trans {lo:Nat}{g g1 g2:Fz}{σ rB dG:Sg}{cn aV:ai}{h h1 h2:ah}{jT nr:aL}{iY aA:a7}(a:dV N b lo g σ vh h jT h1 g1 rB iY cn)(c:dV N b lo g1 rB cn h1 nr h2 g2 dG aA aV):dV N b lo g σ vh h nr h2 g2 dG aA aV:=
 ⟨c.t,c.len,c.s,Fz.le_trans a.le c.le,fun i hi=>(c.agree i hi).trans (a.agree i hi),a.f.trans c.f,c.base,a.own.trans a.f c.own⟩
theorem qt.mono {lo:Nat}{g:Fz}{σ:Sg}{h:ah}{K K':a7→ai→Prop}{bf:aL}{h':ah}(hk:∀ab vh,K ab vh→K' ab vh):qt N b lo g σ vh h K bf h'→qt N b lo g σ vh h K' bf h':=
 fun⟨g',aR,aU,ao,a,k⟩=>⟨g',aR,aU,ao,a,hk _ _ k⟩
theorem qt.trans {lo:Nat}{g g1:Fz}{σ rB:Sg}{cn:ai}{h h1:ah}{jT nr:aL}{iY:a7}{K:a7→ai→Prop}{h2:ah}(a:dV N b lo g σ vh h jT h1 g1 rB iY cn):qt N b lo g1 rB cn h1 K nr h2→qt N b lo g σ vh h K nr h2:=
 fun⟨g',aR,aU,ao,c,k⟩=>⟨g',aR,aU,ao,a.trans c,k⟩
theorem VW.mono {c:Code}(hc:VW P N b c Q ab vh)(hq:∀e ab vh,Q e ab vh→Q' e ab vh):VW P N b c Q' ab vh:=
 fun lo g σ h ts ht hn s hb=>(hc lo g σ h ts ht hn s hb).mono fun e ts h hs=>hs.mono (hq e)
theorem dP.mono {f:FuncId}{args:List PV}{R R':PV→ai→Prop}(hc:dP P f args vh R)(hr:∀v vh,R v vh→R' v vh):dP P f args vh R':=
 fun lo g σ h aB ha s=>(hc lo g σ h aB ha s).mono fun r h' ⟨g',aR,v,ao,h1,h2,h3,h4,h5,h6,h7,h8⟩=>⟨g',aR,v,ao,h1,h2,h3,h4,h5,h6,h7,hr _ _ h8⟩
theorem VW.skip (hq:Q .normal ab vh):VW P N b .skip Q ab vh:=fun lo g σ h ts ht hn s hb=>.skip ⟨g,σ,ab,vh,.refl ht hn s hb,hq⟩
theorem VW.label {l:Nat}(hq:Q .normal ab vh):VW P N b (.label l) Q ab vh:=fun lo g σ h ts ht hn s hb=>.label ⟨g,σ,ab,vh,.refl ht hn s hb,hq⟩
theorem VW.exit {id:Nat}(hq:Q (.exit id) ab vh):VW P N b (.exit id) Q ab vh:=fun lo g σ h ts ht hn s hb=>.exit ⟨g,σ,ab,vh,.refl ht hn s hb,hq⟩
theorem VW.ret (hq:Q .ret ab vh):VW P N b .ret Q ab vh:=fun lo g σ h ts ht hn s hb=>.ret ⟨g,σ,ab,vh,.refl ht hn s hb,hq⟩
def BS (next:a7→ai→Prop)(Q:jd):jd
 |.normal=>next
 |e=>Q e
theorem VW.seq {x y:Code}(hx:VW P N b x (BS (VW P N b y Q) Q) ab vh):VW P N b (.seq x y) Q ab vh:=fun lo g σ h ts ht hn s hb=>
 .seq ((hx lo g σ h ts ht hn s hb).mono fun e bf h' ⟨g',aR,aU,ao,a,k⟩=>by
  cases e with
  |normal=>exact(k lo g' aR h' bf a.t a.len a.s a.base).mono fun e2 nr h2 hs=>hs.trans a
  |exit id=>exact⟨g',aR,aU,ao,a,k⟩
  |goto l=>exact⟨g',aR,aU,ao,a,k⟩
  |ret=>exact⟨g',aR,aU,ao,a,k⟩
  |panic ch=>exact⟨g',aR,aU,ao,a,k⟩
  |outgrown=>exact⟨g',aR,aU,ao,a,k⟩)
theorem VW.cond {c:Operand}{x y:Code}{v:Bool}(hc:cC ab c=some (.bool v))(hb:VW P N b (if v then x else y) Q ab vh):VW P N b (.cond c x y) Q ab vh:=fun lo g σ h ts ht hn s wC=>by
 obtain⟨v',k1,k2⟩:=eO ht hc
 have:=k2.aG rfl;cases this
 exact .cond k1 (hb lo g σ h ts ht hn s wC)
theorem VW.eA {c:Operand}{x y:Code}(hc:cC ab c=some (.bool true))(hb:VW P N b x Q ab vh):VW P N b (.cond c x y) Q ab vh:=.cond hc hb
theorem VW.fD {c:Operand}{x y:Code}(hc:cC ab c=some (.bool false))(hb:VW P N b y Q ab vh):VW P N b (.cond c x y) Q ab vh:=.cond hc hb
def YU (id:Nat)(Q:jd):jd
 |.exit AI=>if AI=id then Q .normal else Q (.exit AI)
 |e=>Q e
theorem VW.block {id:Nat}{c:Code}(hc:VW P N b c (YU id Q) ab vh):VW P N b (.block id c) Q ab vh:=fun lo g σ h ts ht hn s hb=>
 .block ((hc lo g σ h ts ht hn s hb).mono fun e bf h' hs=>by
  cases e with
  |exit AI=>
   simp only[KA,YU] at hs ⊢
   by_cases hi:AI=id
   ·simp only[hi,if_true] at hs ⊢;exact hs
   simp only[hi,if_false] at hs ⊢;exact hs
  |normal=>exact hs
  |goto l=>exact hs
  |ret=>exact hs
  |panic ch=>exact hs
  |outgrown=>exact hs)
def z9u (Q:jd):jd
 |.goto _=>fun _ _=>False
 |e=>Q e
theorem VW.scope {c:Code}(hc:VW P N b c (z9u Q) ab vh):VW P N b (.scope c) Q ab vh:=fun lo g σ h ts ht hn s hb=>
 .scope ((hc lo g σ h ts ht hn s hb).mono fun e bf h' hs=>by
  cases e with
  |goto l=>obtain⟨_,_,_,_,_,k⟩:=hs;exact k.elim
  |exit id=>exact hs
  |normal=>exact hs
  |ret=>exact hs
  |panic ch=>exact hs
  |outgrown=>exact hs)
theorem VW.loop {c:Code}(I:Nat→a7→ai→Prop)(m:Nat)(h0:I m ab vh)(round:∀m ab vh,I m ab vh→VW P N b c (BS (fun aU ao=>∃m',m'<m∧I m' aU ao) Q) ab vh):VW P N b (.loop c) Q ab vh:=fun lo g σ h ts ht hn s hb=>by
 refine AW.loop (fun m bf h'=>∃g' aR aU ao,dV N b lo g σ vh h bf h' g' aR aU ao∧I m aU ao) m ⟨g,σ,ab,vh,.refl ht hn s hb,h0⟩ ?_
 rintro m bf h' ⟨g',aR,aU,ao,a,k⟩
 refine(round m aU ao k lo g' aR h' bf a.t a.len a.s a.base).mono fun e nr h2 hs=>?_
 cases e with
 |normal=>
  obtain⟨g2,dG,aA,aV,c2,m',aP,k2⟩:=hs
  exact⟨m',aP,g2,dG,aA,aV,a.trans c2,k2⟩
 |exit id=>exact hs.trans a
 |goto l=>exact hs.trans a
 |ret=>exact hs.trans a
 |panic ch=>exact hs.trans a
 |outgrown=>exact hs.trans a
def bP (ab:a7)(dst:Option Tmp)(v:PV):a7:=
 match dst with
 |some d=>(d,v)::ab
 |none=>ab
def iq (N:Nat)(dst:Option Tmp):Bool:=
 match dst with
 |some d=>Nat.blt d N
 |none=>true
theorem sU {g g':Fz}{σ aR:Sg}{n n':Nat}{ts:aL}{v:PV}{v':Value}(hle:g.le g')(hn:n≤n')(cy:∀i,i<n→aR i=σ i)(ht:VT g σ n ab ts)(dst:Option Tmp)(hd:iq ts.length dst=true)(hv:VR g' aR n' v v') :
  VT g' aR n' (bP ab dst v) (bE ts dst v')∧(bE ts dst v').length=ts.length:=by
 cases dst with
 |none=>exact⟨ht.mono hle hn cy,rfl⟩
 |some d=>
  have hd:d<ts.length:=by simpa[iq] using hd
  refine⟨fun t u hu=>?_,by simp[bE]⟩
  simp only[bP,bK,beq_eq] at hu
  by_cases yg:t=d
  ·subst yg
   simp at hu;subst hu
   rw[zn6 hd];exact hv
  simp[yg] at hu
  rw[Tc (fun h=>yg h.symm)]
  exact(ht t u hu).mono hle hn cy
theorem lN.op {o:Oper}{v:PV}{ao:ai}{next:a7→ai→Prop}(hv:dH P ab vh o.op=some (v,ao))(hd:iq N o.dst=true)(hn:next (bP ab o.dst v) ao):lN P N b o next ab vh:=fun lo g σ h ts ht hl s hb=>by
 obtain⟨v',h',k1,aR,k2,k3,k4,k5,k6⟩:=BU s ht hv
 obtain⟨g1,g2⟩:=sU (Fz.le_refl g) k5 k6 ht o.dst (hl▸hd) k2
 exact .op k1 ⟨g,aR,_,ao,⟨g1,g2.trans hl,k3,Fz.le_refl g,fun i hi=>k6 i (by omega),k4,by omega,dU.refl _ _ _ _⟩,hn⟩
theorem lN.call {o:Oper}{fo:Operand}{args:Array Operand}{aT:Array TypeId}{f:FuncId}{xs ys l:List PV}{next:a7→ai→Prop}(ho:o.op=.call ⟨.value fo,args,aT⟩)
  (hf:cC ab fo=some (.func f xs ys)) (hl:iE ab args.toList=some l) (dM:∀cs w,(callFunc f cs).run P w=.ok (.enter f cs) w) (hd:iq N o.dst=true)
  (hc:dP P f (xs++l++ys) vh fun r ao=>next (bP ab o.dst r) ao):lN P N b o next ab vh:=fun lo g σ h ts ht hn s hb=>by
 obtain⟨f',k1,k2⟩:=eO ht hf
 obtain⟨l',k3,k4⟩:=AU ht hl
 have JI:∃bw dK:Array Value,f'=.func (.func f) bw dK∧bh (VR g σ vh.next) xs bw.toList∧bh (VR g σ vh.next) ys dK.toList:=by
  cases k2 with
  |fr _ _ h=>cases h with
   |func _ _ _ bw dK hx hy rx ry=>exact⟨bw,dK,rfl,⟨by simpa using hx,fun i v v' hv aQ=>.fr _ _ (rx i v v' hv (by simpa using aQ))⟩,⟨by simpa using hy,fun i v v' hv aQ=>.fr _ _ (ry i v v' hv (by simpa using aQ))⟩⟩
  |func _ _ _ bw dK hx hy rx ry=>exact⟨bw,dK,rfl,⟨by simpa using hx,fun i v v' hv aQ=>rx i v v' hv (by simpa using aQ)⟩,⟨by simpa using hy,fun i v v' hv aQ=>ry i v v' hv (by simpa using aQ)⟩⟩
 obtain⟨bw,dK,rfl,hx,hy⟩:=JI
 refine .No ho k1 k3 dM ((hc lo g σ h _ ((hx.append k4).append hy) s).mono fun r h' ⟨g',aR,v,ao,h1,h2,h3,h4,h5,h6,h7,h8⟩=>?_)
 obtain⟨g1,g2⟩:=sU h3 h6 h4 ht o.dst (hn▸hd) h1
 exact⟨g',aR,_,ao,⟨g1,g2.trans hn,h2,h3,fun i hi=>h4 i (by omega),h5,by omega,h7⟩,h8⟩
def pV (ops:Array Oper)(ab:a7)(j:Nat):Option PV:=
 match (ops[j]?).bind (·.dst) with
 |some d=>bK d ab
 |none=>none
def ij (ops:Array Oper)(o:Oper)(ab:a7):Option Bool:=
 match o.guard with
 |none=>some true
 |some (j,want)=>match pV ops ab j with
  |some (.bool v)=>some (bif want then v else !v)
  |some (.bx [])=>some false
  |_=>none
theorem CX {g:Fz}{σ:Sg}{n:Nat}{ts:aL}{ops:Array Oper}{o:Oper}{w:Bool}(hd:∀d∈(ops.toList.filterMap (·.dst)),d<ts.length)(ht:VT g σ n ab ts)(hw:ij ops o ab=some w):Region.wanted o (nD ops ts)=w:=by
 unfold ij at hw
 unfold Region.wanted
 split at hw
 ·rename_i hg;injection hw with hw;subst hw;rw[hg]
 rename_i j want hg
 rw[hg]
 simp only
 unfold pV at hw
 cases hj:(ops[j]?).bind (·.dst) with
 |none=>rw[hj] at hw;simp at hw
 |some d=>
  rw[hj] at hw
  simp only at hw
  have aP:d<ts.length:=by
   refine hd d ?_
   cases ho:ops[j]? with
   |none=>rw[ho] at hj;cases hj
   |some oo=>
    rw[ho] at hj
    rw[List.mem_filterMap]
    exact⟨oo,by have:=Array.mem_of_getElem? ho;simpa using this,hj⟩
  have gX:ts[d]?=some (ts.getD d Go.undef):=by simp[List.getD,aP]
  unfold nD
  rw[hj]
  simp only[Option.bind_some]
  rw[gX]
  split at hw
  ·rename_i v hv
   injection hw with hw;subst hw
   have GI:=(ht d _ hv).aG rfl
   generalize ts.getD d Go.undef=u at GI
   cases GI
   cases want<;>cases v<;>rfl
  ·rename_i hv
   injection hw with hw;subst hw
   have GI:=ht d _ hv
   obtain⟨ar,e,_⟩:=NU GI
   rw[e];rfl
  cases hw
def bZ (P:Program)(N b:Nat)(ops:Array Oper)(K:a7→ai→Prop):List Nat→a7→ai→Prop
 |[],ab,vh=>K ab vh
 |i::rest,ab,vh=>
  match ops[i]? with
  |none=>bZ P N b ops K rest ab vh
  |some o=>match ij ops o ab with
   |some true=>lN P N b o (bZ P N b ops K rest) ab vh
   |some false=>iq N o.dst=true∧bZ P N b ops K rest (bP ab o.dst (.bx [])) vh
   |none=>False
theorem ME {ops:Array Oper}(hd:∀d∈(ops.toList.filterMap (·.dst)),d<N){K:a7→ai→Prop}{lo:Nat}{g:Fz}{σ:Sg}{h:ah}:∀(l:List Nat) (bf:aL) (h':ah) (g':Fz) (aR:Sg) (aU:a7) (ao:ai),dV N b lo g σ vh h bf h' g' aR aU ao→
  bZ P N b ops K l aU ao→rl P lo ops (qt N b lo g σ vh h K) l bf h'
 |[],bf,h',g',aR,aU,ao,a,k=>⟨g',aR,aU,ao,a,k⟩
 |i::rest,bf,h',g',aR,aU,ao,a,k=>by
  simp only[bZ] at k
  simp only[rl]
  cases ho:ops[i]? with
  |none=>rw[ho] at k;exact ME hd rest bf h' g' aR aU ao a k
  |some o=>
   rw[ho] at k
   simp only at k ⊢
   split at k
   ·rename_i hw
    rw[CX (a.len▸hd) a.t hw]
    simp only[if_true]
    exact(k lo g' aR h' bf a.t a.len a.s a.base).mono fun nr h2 ⟨g2,dG,aA,aV,c,k2⟩=>ME hd rest nr h2 g2 dG aA aV (a.trans c) k2
   ·rename_i hw
    rw[CX (a.len▸hd) a.t hw]
    simp only[Bool.false_eq_true,if_false]
    obtain⟨g1,g2⟩:=sU (Fz.le_refl g') (Nat.le_refl _) (fun _ _=>rfl) a.t o.dst (a.len▸k.1) (.fr _ _ uC)
    exact ME hd rest _ h' g' aR _ ao ⟨g1,g2.trans a.len,a.s,a.le,a.agree,a.f,a.base,a.own⟩ k.2
   exact k.elim
def Ad (N:Nat)(ops:Array Oper):Bool:=ops.toList.all fun o=>iq N o.dst
theorem RD {N:Nat}{ops:Array Oper}(h:Ad N ops=true):∀d∈(ops.toList.filterMap (·.dst)),d<N:=fun d hd=>by
 rw[List.mem_filterMap] at hd
 obtain⟨o,ho,hd⟩:=hd
 have:=(List.all_eq_true.1 h) o ho
 rw[hd] at this
 simpa[iq] using this
theorem VW.region {id:Nat}{ops:Array Oper}(hd:Ad N ops=true)(hk:bZ P N b ops (Q .normal) (List.range ops.size) ab vh):VW P N b (.region id ops false) Q ab vh:=fun lo g σ h ts ht hn s hb=>
 .region (ME (RD hd) _ ts h g σ ab vh (.refl ht hn s hb) hk)
def eQ (P:Program)(N:Nat)(ops:Array Oper):List Nat→a7→ai→Option (a7×ai)
 |[],ab,vh=>some (ab,vh)
 |i::r,ab,vh=>match ops[i]? with
  |none=>none
  |some o=>match ij ops o ab with
   |some true=>match dH P ab vh o.op with
    |some (v,ao)=>eQ P N ops r (bP ab o.dst v) ao
    |none=>none
   |some false=>eQ P N ops r (bP ab o.dst (.bx [])) vh
   |none=>none
theorem bZ.run {ops:Array Oper}(hd:Ad N ops=true){K:a7→ai→Prop}:∀ {l r:List Nat} {ab aU:a7} {vh ao:ai},eQ P N ops l ab vh=some (aU,ao)→bZ P N b ops K r aU ao→bZ P N b ops K (l++r) ab vh
 |[],r,ab,aU,vh,ao,hr,hk=>by
  simp only[eQ,ax,bG] at hr
  obtain⟨rfl,rfl⟩:=hr;exact hk
 |i::l,r,ab,aU,vh,ao,hr,hk=>by
  simp only[eQ] at hr
  simp only[List.cons_append,bZ]
  cases ho:ops[i]? with
  |none=>rw[ho] at hr;cases hr
  |some o=>
   rw[ho] at hr
   simp only at hr ⊢
   have rP:iq N o.dst=true:=(List.all_eq_true.1 hd) o (by have:=Array.mem_of_getElem? ho;simpa using this)
   split at hr
   ·split at hr
    ·rename_i v cn hv
     exact .op hv rP (bZ.run hd hr hk)
    cases hr
   ·exact⟨rP,bZ.run hd hr hk⟩
   cases hr
theorem VW.run {id:Nat}{ops:Array Oper}{aU:a7}{ao:ai}(hd:Ad N ops=true)(hr:eQ P N ops (List.range ops.size) ab vh=some (aU,ao))(hk:Q .normal aU ao):VW P N b (.region id ops false) Q ab vh:=
 .region hd (by have:=bZ.run (b:=b) (K:=Q .normal) (r:=[]) hd hr hk;rwa [List.append_nil] at this)
def pW (P:Program)(ab:a7)(vh:ai):ResultVar→Option PV
 |.tmp t=>bK t ab
 |.cell a t=>match bK a ab with
  |some p=>n4 P vh t p
  |none=>none
def lh (P:Program)(ab:a7)(vh:ai):List ResultVar→Option (List PV)
 |[]=>some []
 |x::r=>match pW P ab vh x,lh P ab vh r with
  |some v,some l=>some (v::l)
  |_,_=>none
def l9 (l:List PV):PV:=
 match l with
 |[v]=>v
 |l=>.bx l
theorem YV {lo:Nat}{g:Fz}{σ:Sg}{h:ah}{ts:aL}(ht:VT g σ vh.next ab ts)(s:VS lo g σ vh h):∀ {rs:List ResultVar} {l:List PV},lh P ab vh rs=some l→∃l',uO P ts h rs=some l'∧bh (VR g σ vh.next) l l'
 |[],l,hl=>by simp only[lh,ax] at hl;subst hl;exact⟨[],rfl,.nil⟩
 |x::r,l,hl=>by
  simp only[lh] at hl
  split at hl
  ·rename_i v l1 h1 h2
   injection hl with hl;subst hl
   obtain⟨l',k1,k2⟩:=YV ht s h2
   cases x with
   |tmp t=>exact⟨_::l',by simp only[uO,G9,k1],.cons (ht t v h1) k2⟩
   |cell a t=>
    simp only[pW] at h1
    split at h1
    ·rename_i p hp
     obtain⟨v',g1,g2⟩:=To s (ht a p hp) h1
     exact⟨v'::l',by simp only[uO,G9,g1,k1],.cons g2 k2⟩
    cases h1
  cases hl
theorem zsn {g:Fz}{σ:Sg}{n:Nat}{l:List PV}{l':List Value}(h:bh (VR g σ n) l l'):VR g σ n (l9 l) (Ce l'):=by
 have JQ:∀ {l:List PV} {l':List Value},bh (VR g σ n) l l'→VR g σ n (.bx l) (.tuple l'.toArray):=fun {l l'} h=>.bx _ _ (by simpa using h.1) fun i v v' hv aQ=>h.2 i v v' hv (by simpa using aQ)
 match l,l',h with
 |[],l',h=>rw[h.jM];exact JQ .nil
 |[v],l',h=>
  obtain⟨v',r,rfl,h1,h2⟩:=h.dE
  rw[h2.jM];exact h1
 |v::u::r,l',h=>
  obtain⟨v',r',rfl,h1,h2⟩:=h.dE
  obtain⟨u',r2,rfl,h3,h4⟩:=h2.dE
  exact JQ (.cons h1 (.cons h3 h4))
def RE (P:Program)(fn:Func)(R:PV→ai→Prop):jd
 |.normal,ab,vh=>∃l,lh P ab vh fn.results.toList=some l∧R (l9 l) vh
 |.ret,ab,vh=>∃l,lh P ab vh fn.results.toList=some l∧R (l9 l) vh
 |_,_,_=>False
def lD:Nat→List PV→a7
 |_,[]=>[]
 |n,v::r=>(n,v)::lD (n+1) r
theorem RF:∀(l:List PV) (n t:Nat),bK t (lD n l)=if n≤t then l[t - n]? else none
 |[],n,t=>by simp[lD,bK]
 |v::r,n,t=>by
  simp only[lD,bK,beq_eq,RF r (n+1) t]
  by_cases h:t=n
  ·subst h;simp
  by_cases h2:n≤t
  ·have h3:n+1≤t:=by omega
   have h4:t - n=(t - (n+1))+1:=by omega
   simp[h,h2,h3,h4]
  have h3:¬n+1≤t:=by omega
  simp[h,h2,h3]
theorem dP.bT {f:FuncId}{fn:Func}{c:Code}{args:List PV}{R:PV→ai→Prop}(hf:P.funcs[f]?=some fn)(hb:fn.body=some c)(hn:Nat.ble args.length fn.ntmps=true)
  (hc:VW P fn.ntmps vh.next c (RE P fn R) (lD 0 args) vh):dP P f args vh R:=fun lo g σ h aB ha s=>by
 have hn:args.length≤fn.ntmps:=by simpa using hn
 have hlen:(aB++List.replicate (fn.ntmps - aB.length) Go.undef).length=fn.ntmps:=by
  have:=ha.1;simp;omega
 have ht:VT g σ vh.next (lD 0 args) (aB++List.replicate (fn.ntmps - aB.length) Go.undef):=fun t v hv=>by
  rw[RF] at hv
  simp at hv
  obtain⟨v',h1,h2⟩:=ha.get hv
  have aP:t<aB.length:=by
   rcases Nat.lt_or_ge t aB.length with h|h
   ·exact h
   rw[List.getElem?_eq_none h] at h1;cases h1
  have:(aB++List.replicate (fn.ntmps - aB.length) Go.undef).getD t Go.undef=v':=by
   rw[List.getD,List.getElem?_append_left aP,h1];rfl
  rw[this];exact h2
 refine .bT hf hb ((hc lo g σ h _ ht hlen s (Nat.le_refl _)).mono fun e bf h' ⟨g',aR,aU,ao,a,k⟩=>?_)
 have fin:(∃l,lh P aU ao fn.results.toList=some l∧R (l9 l) ao)→∃l',uO P bf h' fn.results.toList=some l'∧∃g' aR v ao,VR g' aR ao.next v (Ce l')∧VS lo g' aR ao h'∧g.le g'∧(∀i,i<vh.next→aR i=σ i)∧VF σ vh h aR ao h'∧vh.next≤ao.next∧
   dU g σ vh h g'∧R v ao:=fun⟨l,hl,hR⟩=>by
  obtain⟨l',k1,k2⟩:=YV a.t a.s hl
  exact⟨l',k1,g',aR,l9 l,ao,zsn k2,a.s,a.le,a.agree,a.f,a.base,a.own,hR⟩
 cases e with
 |normal=>exact fin k
 |ret=>exact fin k
 |exit id=>exact k.elim
 |goto l=>exact k.elim
 |panic ch=>exact k.elim
 |outgrown=>exact k.elim
end
inductive Alt (vh:ai) (n2:Nat) (D:Nat→Bool) (ρ:Nat→Nat):PV→PV→Prop where
  |same (v:PV) (h:v.aG=true):Alt vh n2 D ρ v v
  |ptr (i j off:Nat) (hj:j<n2) (hi:ρ j=i):Alt vh n2 D ρ (.ptr i off) (.ptr j off)
  |own (i j off len k:Nat) (hj:j<n2) (hi:ρ j=i):Alt vh n2 D ρ (.own i off len k) (.own j off len k)
  |sub (i j off len:Nat) (hj:j<n2) (hi:ρ j=i):Alt vh n2 D ρ (.sub i off len) (.sub j off len)
  |y8 (i off:Nat):Alt vh n2 D ρ (.sub i off 0) (.vec [])
  |RG (i j off len k:Nat) (hj:j<n2) (hi:ρ j=i):Alt vh n2 D ρ (.own i off len k) (.sub j off len)
  |yd (i j n:Nat) (nl:Bool) (sz:Nat) (es:List PV) (hj:j<n2) (hi:ρ j=i) (hg:vh.get i=some (.grow sz es)) (hn:es.length=n) (h0:0<n):Alt vh n2 D ρ (.grow i n nl) (.sub j 0 n)
  |E6 (i j n:Nat) (nl:Bool) (es:List PV) (hj:j<n2) (hi:ρ j=i) (hg:vh.get i=some (.bW es)) (hn:es.length=n):Alt vh n2 D ρ (.grow i n nl) (.sub j 0 n)
  |grow (i j n:Nat) (nl:Bool) (hj:j<n2) (hi:ρ j=i):Alt vh n2 D ρ (.grow i n nl) (.grow j n nl)
  |aW (i j:Nat) (hj:j<n2) (hi:ρ j=i):Alt vh n2 D ρ (.aW i) (.aW j)
  |bY (i j:Nat) (hj:j<n2) (hi:ρ j=i):Alt vh n2 D ρ (.bY i) (.bY j)
  |b9 (i j:Nat) (nl:Bool):Alt vh n2 D ρ (.grow i 0 nl) (.grow j 0 nl)
  |aI (j:Nat) (nl:Bool):Alt vh n2 D ρ .aI (.grow j 0 nl)
  |e0 (j:Nat):Alt vh n2 D ρ .e0 (.grow j 0 false)
  |mY (i j off:Nat):Alt vh n2 D ρ (.own i off 0 0) (.grow j 0 false)
  |dC:Alt vh n2 D ρ .aI (.vec [])
  |e0v:Alt vh n2 D ρ .e0 (.vec [])
  |y9 (i off k:Nat):Alt vh n2 D ρ (.own i off 0 k) (.vec [])
  |tW (i:Nat) (nl:Bool):Alt vh n2 D ρ (.grow i 0 nl) (.vec [])
  |E7 (i:Nat):Alt vh n2 D ρ (.grow i 0 true) .aI
  |iV (i off len k:Nat) (ag:Bool) (sz:Nat) (cs es:List PV) (hD:D i=true) (hg:vh.get i=some (.arr ag sz cs)) (he:iP vh sz (.own i off len k)=some es):Alt vh n2 D ρ (.own i off len k) (.vec es)
  |tD (i off len:Nat) (ag:Bool) (sz:Nat) (cs es:List PV) (hD:D i=true) (hg:vh.get i=some (.arr ag sz cs)) (he:iP vh sz (.sub i off len)=some es):Alt vh n2 D ρ (.sub i off len) (.vec es)
  |bW (i n:Nat) (nl:Bool) (sz:Nat) (es:List PV) (hD:D i=true) (hg:vh.get i=some (.grow sz es)) (hn:es.length=n):Alt vh n2 D ρ (.grow i n nl) (.vec es)
  |E8 (i off:Nat) (cs:List PV) (hD:D i=true) (hg:vh.get i=some (.box cs)) (hf:PV.aF cs=true) (hle:off≤cs.length):Alt vh n2 D ρ (.ptr i off) (.vp (cs.drop off))
  |za (i off:Nat) (ag:Bool) (sz:Nat) (cs:List PV) (hD:D i=true) (hg:vh.get i=some (.arr ag sz cs)) (hle:off≤cs.length):Alt vh n2 D ρ (.ptr i off) (.vp (cs.drop off))
  |dS (i:Nat) (es:List (PV×PV)) (hD:D i=true) (hg:vh.get i=some (.map es)):Alt vh n2 D ρ (.aW i) (.aC es)
  |agg (cs nq:List PV) (hs:cs.length=nq.length) (r:∀(i:Nat) v v2,cs[i]?=some v→nq[i]?=some v2→Alt vh n2 D ρ v v2):Alt vh n2 D ρ (.agg cs) (.agg nq)
  |bx (cs nq:List PV) (hs:cs.length=nq.length) (r:∀(i:Nat) v v2,cs[i]?=some v→nq[i]?=some v2→Alt vh n2 D ρ v v2):Alt vh n2 D ρ (.bx cs) (.bx nq)
  |func (f:FuncId) (xs ys MF MG:List PV) (hx:xs.length=MF.length) (hy:ys.length=MG.length) (rx:∀(i:Nat) v v2,xs[i]?=some v→MF[i]?=some v2→Alt vh n2 D ρ v v2)
      (ry:∀(i:Nat) v v2,ys[i]?=some v→MG[i]?=some v2→Alt vh n2 D ρ v v2):Alt vh n2 D ρ (.func f xs ys) (.func f MF MG)
def aD (vh:ai)(n2:Nat)(D:Nat→Bool)(ρ:Nat→Nat)(l l2:List PV):Prop:=l.length=l2.length∧∀(i:Nat) v v2,l[i]?=some v→l2[i]?=some v2→Alt vh n2 D ρ v v2
theorem aD.nil {vh:ai}{n2:Nat}{D:Nat→Bool}{ρ:Nat→Nat}:aD vh n2 D ρ [] []:=⟨rfl,fun i v v2 h=>by simp at h⟩
theorem aD.cons {vh:ai}{n2:Nat}{D:Nat→Bool}{ρ:Nat→Nat}{v v2:PV}{l l2:List PV}(h:Alt vh n2 D ρ v v2)(hl:aD vh n2 D ρ l l2):aD vh n2 D ρ (v::l) (v2::l2):=by
 refine⟨by simp[hl.1],fun i u u2 hu Ez=>?_⟩
 cases i with
 |zero=>simp at hu Ez;subst hu;subst Ez;exact h
 |succ i=>simp at hu Ez;exact hl.2 i u u2 hu Ez
theorem Alt.lO {vh:ai}{n2:Nat}{D:Nat→Bool}{ρ:Nat→Nat}{l l2:List PV}(h:aD vh n2 D ρ l l2):Alt vh n2 D ρ (.agg l) (.agg l2):=.agg _ _ h.1 h.2
theorem Alt.EY {vh:ai}{n2:Nat}{D:Nat→Bool}{ρ:Nat→Nat}{l l2:List PV}(h:aD vh n2 D ρ l l2):Alt vh n2 D ρ (.bx l) (.bx l2):=.bx _ _ h.1 h.2
theorem Alt.dQ {vh:ai}{n2:Nat}{D:Nat→Bool}{ρ:Nat→Nat}{f:FuncId}{l l2 r r2:List PV}(h:aD vh n2 D ρ l l2)(h':aD vh n2 D ρ r r2):Alt vh n2 D ρ (.func f l r) (.func f l2 r2):=.func _ _ _ _ _ h.1 h'.1 h.2 h'.2
noncomputable def Fz.more (g:Fz)(σ:Sg)(vh:ai)(h:ah)(D:Nat→Bool):Fz:=fun o=>
 open Classical in if ∃i x,D i=true∧vh.get i=some x∧x.live=true∧(σ i).1=o then h.get o else g o
section
variable {lo:Nat} {g:Fz} {σ:Sg} {vh:ai} {h:ah} {D:Nat→Bool} {ρ:Nat→Nat} {n2:Nat}
theorem vF (s:VS lo g σ vh h):g.le (g.more σ vh h D):=fun o x hx=>by
 unfold Fz.more
 split
 ·rename_i hc
  obtain⟨i,y,h1,h2,h3,h4⟩:=hc
  have:=s.jU i y h2 h3
  rw[h4,hx] at this;cases this
 exact hx
theorem GJ {i:Nat}{x:aM}(hD:D i=true)(hx:vh.get i=some x)(hl:x.live=true):g.more σ vh h D (σ i).1=h.get (σ i).1:=by
 unfold Fz.more
 rw[if_pos ⟨i,x,hD,hx,hl,rfl⟩]
theorem JR (s:VS lo g σ vh h):∀o x,g.more σ vh h D o=some x→h.get o=some x:=fun o x hx=>by
 unfold Fz.more at hx
 split at hx
 ·exact hx
 exact s.fz o x hx
theorem MH:dU g σ vh h (g.more σ vh h D):=fun o x hx _=>by
 unfold Fz.more at hx
 split at hx
 ·rename_i hc
  obtain⟨i,y,h1,h2,h3,h4⟩:=hc
  exact .inr ⟨i,y,h2,h3,h4⟩
 exact .inl hx
theorem MJ {v':Value}{f:FuncId}{xs ys:List PV}{n:Nat}(hv:VR g σ n (.func f xs ys) v'):∃bw dK:Array Value,v'=.func (.func f) bw dK∧bh (VR g σ n) xs bw.toList∧bh (VR g σ n) ys dK.toList:=by
 cases hv with
 |fr _ _ h=>cases h with
  |func _ _ _ bw dK hx hy rx ry=>exact⟨bw,dK,rfl,⟨by simpa using hx,fun i v v' hv aQ=>.fr _ _ (rx i v v' hv (by simpa using aQ))⟩,⟨by simpa using hy,fun i v v' hv aQ=>.fr _ _ (ry i v v' hv (by simpa using aQ))⟩⟩
 |func _ _ _ bw dK hx hy rx ry=>exact⟨bw,dK,rfl,⟨by simpa using hx,fun i v v' hv aQ=>rx i v v' hv (by simpa using aQ)⟩,⟨by simpa using hy,fun i v v' hv aQ=>ry i v v' hv (by simpa using aQ)⟩⟩
theorem JS {R:PV→Value→Prop}{R2:PV→Value→Prop}{l l2:List PV}{l':List Value}(hp:bh R l l')(hs:l.length=l2.length)(ih:∀(i:Nat) v v2,l[i]?=some v→l2[i]?=some v2→∀v',R v v'→R2 v2 v'):bh R2 l2 l':=
 ⟨hs▸hp.1,fun i v2 v' eN aQ=>by
  have aP:i<l2.length:=by
   rcases Nat.lt_or_ge i l2.length with h|h
   ·exact h
   rw[List.getElem?_eq_none h] at eN;cases eN
  have uK:i<l.length:=hs▸aP
  exact ih i l[i] v2 (by simp[uK]) eN v' (hp.2 i l[i] v' (by simp[uK]) aQ)⟩
theorem Alt.ok (s:VS lo g σ vh h){v v2:PV}(ha:Alt vh n2 D ρ v v2):∀v',VR g σ vh.next v v'→VR (g.more σ vh h D) (fun j=>σ (ρ j)) n2 v2 v':=by
 induction ha with
 |same v hf=>exact fun v' hv=>.fr _ _ ((hv.aG hf).mono (vF s))
 |ptr i j off hj hi=>
  intro v' hv
  cases hv with
  |fr _ _ h=>cases h
  |ptr _ _ o a k dD hs=>exact .ptr j off o a k hj (by rw[hi];exact hs)
 |own i j off len k hj hi=>
  intro v' hv
  cases hv with
  |fr _ _ h=>cases h
  |own _ _ _ _ o a kk dD hs hl hk=>exact .own j off len k o a kk hj (by rw[hi];exact hs) hl hk
 |sub i j off len hj hi=>
  intro v' hv
  cases hv with
  |fr _ _ h=>cases h
  |sub _ _ _ k o a kk dD hs hl hk=>exact .sub j off len k o a kk hj (by rw[hi];exact hs) hl hk
 |y8 i off=>
  intro v' hv
  cases hv with
  |fr _ _ h=>cases h
  |sub=>exact .fr _ _ (.dv _ _ _)
 |RG i j off len k hj hi=>
  intro v' hv
  cases hv with
  |fr _ _ h=>cases h
  |own _ _ _ _ o a kk dD hs hl hk=>exact .sub j off len k o a kk hj (by rw[hi];exact hs) hl (by simp only[az] at hk;simp only[dW];omega)
 |yd i j n nl sz es hj hi hg hn h0=>
  intro v' hv
  obtain⟨_,_,q2,q3⟩:=(s.obj i _ hg).2
  cases hv with
  |fr _ _ h=>cases h
  |b8=>omega
  |b9=>omega
  |grow _ _ o a k _ dD hs mo=>
   have rD:es≠[]:=by rintro rfl;simp at hn;omega
   rcases q3 with rfl|⟨s0,ar,_,q5,_,q6⟩
   ·exact absurd rfl rD
   rw[hs] at q5 q6;simp only at q5 q6
   subst q5
   have hk:n≤k∧k+n<dW:=by
    simp only[az] at q2 q6;simp only[dW]
    rcases q6 with⟨h1,_⟩|h1<;>omega
   have:=VR.sub (g:=g.more σ vh h D) (σ:=fun j=>σ (ρ j)) (n:=n2) j 0 n k o 0 k hj (by rw[hi];exact hs) hk.1 hk.2
   simpa using this
 |E6 i j n nl es hj hi hg hn=>
  intro v' hv
  obtain⟨q0,_,q2,s0,ar,_,q5,_,q6⟩:=(s.obj i _ hg).2
  have h0:0<n:=by rw[← hn];exact List.length_pos_iff.2 q0
  cases hv with
  |fr _ _ h=>cases h
  |b8=>omega
  |b9=>omega
  |grow _ _ o a k _ dD hs mo=>
   rw[hs] at q5 q6;simp only at q5 q6
   subst q5
   have hk:n≤k∧k+n<dW:=by
    simp only[az] at q2 q6;simp only[dW]
    rcases q6 with⟨h1,_⟩|h1<;>omega
   have:=VR.sub (g:=g.more σ vh h D) (σ:=fun j=>σ (ρ j)) (n:=n2) j 0 n k o 0 k hj (by rw[hi];exact hs) hk.1 hk.2
   simpa using this
 |grow i j n nl hj hi=>
  intro v' hv
  cases hv with
  |fr _ _ h=>cases h
  |b8=>exact .b8 _ _
  |b9=>exact .b9 _ _ _
  |grow _ _ o a k _ dD hs hn=>exact .grow j n o a k nl hj (by rw[hi];exact hs) hn
 |aW i j hj hi=>
  intro v' hv
  cases hv with
  |fr _ _ h=>cases h
  |aW _ o a k dD hs=>exact .aW j o a k hj (by rw[hi];exact hs)
 |bY i j hj hi=>
  intro v' hv
  cases hv with
  |fr _ _ h=>cases h
  |bY _ o a k dD hs=>exact .bY j o a k hj (by rw[hi];exact hs)
 |b9 i j nl=>
  intro v' hv
  cases hv with
  |fr _ _ h=>cases h
  |b8=>exact .b8 _ _
  |b9=>exact .b9 _ _ _
  |grow _ _ _ _ _ _ _ _ hn=>omega
 |aI j nl=>intro v' hv;have:=hv.aG rfl;cases this;exact .b8 _ _
 |e0 j=>
  intro v' hv
  have:=hv.aG rfl
  cases this with
  |vW=>exact .b8 _ _
  |e0 o off=>exact .b9 _ _ _
 |mY i j off=>
  intro v' hv
  cases hv with
  |fr _ _ h=>cases h
  |own=>exact .b9 _ _ _
 |dC=>intro v' hv;have:=hv.aG rfl;cases this;exact .fr _ _ .fw
 |e0v=>
  intro v' hv
  have:=hv.aG rfl
  cases this with
  |vW=>exact .fr _ _ .fw
  |e0 o off=>exact .fr _ _ (.dv _ _ _)
 |y9 i off k=>
  intro v' hv
  cases hv with
  |fr _ _ h=>cases h
  |own=>exact .fr _ _ (.dv _ _ _)
 |tW i nl=>
  intro v' hv
  cases hv with
  |fr _ _ h=>cases h
  |b8=>exact .fr _ _ .fw
  |b9=>exact .fr _ _ (.dv _ _ _)
  |grow _ _ _ _ _ _ _ _ hn=>omega
 |E7 i=>
  intro v' hv
  cases hv with
  |fr _ _ h=>cases h
  |b8=>exact .fr _ _ .aI
  |grow _ _ _ _ _ _ _ _ hn=>omega
 |iV i off len k ag sz cs es hD hg he=>
  intro v' hv
  have nu:=GJ (g:=g) (σ:=σ) (h:=h) (D:=D) hD hg rfl
  obtain⟨h0,s0,ar,h1,h2,h3⟩:=(s.obj i _ hg).2
  obtain⟨g1,g2,g3⟩:=FN s h0 hv he
  obtain⟨bw,g4,g5⟩:=g3 es.length (Nat.le_refl _)
  rw[List.take_length] at g5
  have g5:=g5.mono fun _ _ h=>FR.mono (vF (D:=D) s) h
  cases hv with
  |fr _ _ h=>cases h
  |own _ _ _ _ o a kk hi hs hl hk=>
   rw[hs] at h1 h2 nu;simp only at h1 h2 nu;subst h2
   simp only[kr,ax] at g1
   subst g1
   by_cases hz:es.length=0
   ·have:=List.eq_nil_of_length_eq_zero hz
    subst this
    exact .fr _ _ (.dv _ _ _)
   have hq:Nat.beq es.length 0=false:=by rw[beq_eq];simpa using hz
   simp only[qx,hq,bz,h1] at g4
   cases hb:Nat.ble (0+off+es.length*sz) ar.length with
   |false=>rw[hb] at g4;cases g4
   |true=>
    rw[hb] at g4;simp only[aO,ax] at g4
    have hb:0+off+es.length*sz≤ar.length:=by simpa using hb
    subst g4
    have AP:=HC g2 g5
    have dZ:k+es.length<dW:=by
     have h1:k<4611686018427387904:=hk
     show k+es.length<9223372036854775808
     omega
    refine .fr _ _ (.vec es o (0+off) k s0 sz ar hl dZ (by rw[nu];exact h1) h0 (fun i e he=>g2 e (List.mem_of_getElem? he)) hb fun i e j v v' he hv aQ=>AP i e j v v' he hv ?_)
    have hi:i<es.length:=by
     rcases Nat.lt_or_ge i es.length with h|h
     ·exact h
     rw[List.getElem?_eq_none h] at he;cases he
    have hj:j<sz:=by
     rw[← g2 e (List.mem_of_getElem? he)]
     rcases Nat.lt_or_ge j e.cells.length with h|h
     ·exact h
     rw[List.getElem?_eq_none h] at hv;cases hv
    have fH:i*sz+j<es.length*sz:=by
     have:i*sz+sz≤es.length*sz:=by rw[← Nat.succ_mul];exact Nat.mul_le_mul_right _ hi
     omega
    rw[List.getElem?_take,if_pos fH,List.getElem?_drop,show 0+off+(i*sz+j)=0+off+i*sz+j by omega]
    exact aQ
 |tD i off len ag sz cs es hD hg he=>
  intro v' hv
  have nu:=GJ (g:=g) (σ:=σ) (h:=h) (D:=D) hD hg rfl
  obtain⟨h0,s0,ar,h1,h2,h3⟩:=(s.obj i _ hg).2
  obtain⟨g1,g2,g3⟩:=FN s h0 hv he
  obtain⟨bw,g4,g5⟩:=g3 es.length (Nat.le_refl _)
  rw[List.take_length] at g5
  have g5:=g5.mono fun _ _ h=>FR.mono (vF (D:=D) s) h
  cases hv with
  |fr _ _ h=>cases h
  |sub _ _ _ k o a kk hi hs hl hk=>
   rw[hs] at h1 h2 nu;simp only at h1 h2 nu;subst h2
   simp only[kr,ax] at g1
   subst g1
   by_cases hz:es.length=0
   ·have:=List.eq_nil_of_length_eq_zero hz
    subst this
    exact .fr _ _ (.dv _ _ _)
   have hq:Nat.beq es.length 0=false:=by rw[beq_eq];simpa using hz
   simp only[qx,hq,bz,h1] at g4
   cases hb:Nat.ble (0+off+es.length*sz) ar.length with
   |false=>rw[hb] at g4;cases g4
   |true=>
    rw[hb] at g4;simp only[aO,ax] at g4
    have hb:0+off+es.length*sz≤ar.length:=by simpa using hb
    subst g4
    have AP:=HC g2 g5
    have dZ:k+es.length<dW:=hk
    refine .fr _ _ (.vec es o (0+off) k s0 sz ar hl dZ (by rw[nu];exact h1) h0 (fun i e he=>g2 e (List.mem_of_getElem? he)) hb fun i e j v v' he hv aQ=>AP i e j v v' he hv ?_)
    have hi:i<es.length:=by
     rcases Nat.lt_or_ge i es.length with h|h
     ·exact h
     rw[List.getElem?_eq_none h] at he;cases he
    have hj:j<sz:=by
     rw[← g2 e (List.mem_of_getElem? he)]
     rcases Nat.lt_or_ge j e.cells.length with h|h
     ·exact h
     rw[List.getElem?_eq_none h] at hv;cases hv
    have fH:i*sz+j<es.length*sz:=by
     have:i*sz+sz≤es.length*sz:=by rw[← Nat.succ_mul];exact Nat.mul_le_mul_right _ hi
     omega
    rw[List.getElem?_take,if_pos fH,List.getElem?_drop,show 0+off+(i*sz+j)=0+off+i*sz+j by omega]
    exact aQ
 |bW i n nl sz es hD hg hn=>
  intro v' hv
  subst hn
  obtain⟨h0,eM,dx,l8⟩:=(s.obj i _ hg).2
  by_cases hz:es=[]
  ·subst hz
   cases hv with
   |fr _ _ h=>cases h
   |b8=>exact .fr _ _ .fw
   |b9=>exact .fr _ _ (.dv _ _ _)
   |grow _ _ _ _ _ _ _ _ hn=>simp at hn
  have fZ:(aM.grow sz es).live=true:=by
   cases es with
   |nil=>exact absurd rfl hz
   |cons=>rfl
  have nu:=GJ (g:=g) (σ:=σ) (h:=h) (D:=D) hD hg fZ
  rcases l8 with rfl|⟨s0,ar,h1,h2,h3,h4⟩
  ·exact absurd rfl hz
  have h3:=h3.mono fun _ _ h=>FR.mono (vF (D:=D) s) h
  have hlen:0<es.length:=by
   cases es with
   |nil=>exact absurd rfl hz
   |cons=>simp
  generalize hm:es.length=m at hv
  cases hv with
  |fr _ _ h=>cases h
  |b8=>omega
  |b9=>omega
  |grow _ _ o a k _ hi hs hn=>
   subst hm
   rw[hs] at h1 h2 h4 nu;simp only at h1 h2 h4 nu;subst h2
   have mu:=Cv eM
   have AP:=HC eM h3
   have Bk:es.length<4611686018427387904:=dx
   have hk:es.length≤k∧k+es.length<dW:=by
    show es.length≤k∧k+es.length<9223372036854775808
    rcases h4 with⟨rfl,_⟩|rfl
    ·show es.length≤4611686018427387904∧4611686018427387904+es.length<9223372036854775808
     omega
    omega
   exact .fr _ _ (.vec es o 0 k s0 sz ar hk.1 hk.2 (by rw[nu];exact h1) h0 (fun i e he=>eM e (List.mem_of_getElem? he)) (by rw[← mu,h3.1];omega) fun i e j v v' he hv aQ=>AP i e j v v' he hv (by rw[Nat.zero_add] at aQ;exact aQ))
 |E8 i off cs hD hg hf hle=>
  intro v' hv
  have nu:=GJ (g:=g) (σ:=σ) (h:=h) (D:=D) hD hg rfl
  obtain⟨s0,ar,h1,h2,h3⟩:=(s.obj i _ hg).2
  have h3:=(h3.aG hf).mono fun _ _ h=>FR.mono (vF (D:=D) s) h
  cases hv with
  |fr _ _ h=>cases h
  |ptr _ _ o a k hi hs=>
   rw[hs] at h1 h2 nu;simp only at h1 h2 nu;subst h2
   exact .fr _ _ (NV (by rw[nu];exact h1) (by rw[h3.1];omega) (fun j v v' hv aQ=>h3.2 j v v' hv (by rw[Nat.zero_add] at aQ;exact aQ)) hle)
 |za i off ag sz cs hD hg hle=>
  intro v' hv
  have nu:=GJ (g:=g) (σ:=σ) (h:=h) (D:=D) hD hg rfl
  obtain⟨h0,s0,ar,h1,h2,h3⟩:=(s.obj i _ hg).2
  have h3:=h3.mono fun _ _ h=>FR.mono (vF (D:=D) s) h
  cases hv with
  |fr _ _ h=>cases h
  |ptr _ _ o a k hi hs=>
   rw[hs] at h1 h2 nu;simp only at h1 h2 nu;subst h2
   exact .fr _ _ (NV (by rw[nu];exact h1) (by rw[h3.1];omega) (fun j v v' hv aQ=>h3.2 j v v' hv (by rw[Nat.zero_add] at aQ;exact aQ)) hle)
 |dS i es hD hg=>
  intro v' hv
  have nu:=GJ (g:=g) (σ:=σ) (h:=h) (D:=D) hD hg rfl
  obtain⟨br,h1,h2,h3,h4⟩:=(s.obj i _ hg).2
  have h3:=h3.mono fun _ _ h=>FR.mono (vF (D:=D) s) h
  have h4:=h4.mono fun _ _ h=>FR.mono (vF (D:=D) s) h
  cases hv with
  |fr _ _ h=>cases h
  |aW _ o a k hi hs=>
   rw[hs] at h1 nu;simp only at h1 nu
   exact .fr _ _ (z4o h3 h4 (by rw[nu];exact h1))
 |agg cs nq hs _ ih=>
  intro v' hv
  obtain⟨ar,rfl,hc⟩:=NT hv
  have:=FK (JS hc hs ih)
  simpa using this
 |bx cs nq hs _ ih=>
  intro v' hv
  obtain⟨ar,rfl,hc⟩:=NU hv
  have:=JS hc hs ih
  exact .bx _ _ (by simpa using this.1) fun i v v' hv aQ=>this.2 i v v' hv (by simpa using aQ)
 |func f xs ys MF MG hx hy _ _ ihx ihy=>
  intro v' hv
  obtain⟨bw,dK,rfl,h1,h2⟩:=MJ hv
  have k1:=JS h1 hx ihx
  have k2:=JS h2 hy ihy
  exact .func _ _ _ _ _ (by simpa using k1.1) (by simpa using k2.1) (fun i v v' hv aQ=>k1.2 i v v' hv (by simpa using aQ)) (fun i v v' hv aQ=>k2.2 i v v' hv (by simpa using aQ))
theorem aD.ok (s:VS lo g σ vh h){l l2:List PV}(ha:aD vh n2 D ρ l l2){l':List Value}(hl:bh (VR g σ vh.next) l l'):bh (VR (g.more σ vh h D) (fun j=>σ (ρ j)) n2) l2 l':=
 JS hl ha.1 fun i v v2 hv eN=>(ha.2 i v v2 hv eN).ok s
def oL (ab:a7)(vh:ai)(n2:Nat)(D:Nat→Bool)(ρ:Nat→Nat):a7→Prop
 |[]=>True
 |(t,v2)::r=>(∃v,bK t ab=some v∧Alt vh n2 D ρ v v2)∧oL ab vh n2 D ρ r
theorem oL.get {ab:a7}{vh:ai}{n2:Nat}{D:Nat→Bool}{ρ:Nat→Nat}:∀ {aA:a7},oL ab vh n2 D ρ aA→∀t v2,bK t aA=some v2→∃v,bK t ab=some v∧Alt vh n2 D ρ v v2
 |[],_,t,v,h=>by simp[bK] at h
 |(u,w)::r,hs,t,v,h=>by
  simp only[bK,beq_eq] at h
  by_cases CY:t=u
  ·subst CY;simp at h;subst h;exact hs.1
  simp[CY] at h;exact oL.get hs.2 t v h
theorem z4x {es:List PV}(h:∀e∈es,e.cells=[e]):es.flatMap PV.cells=es:=by
 induction es with
 |nil=>rfl
 |cons e r ih=>rw[List.flatMap_cons,h e (List.mem_cons_self ..),ih fun x hx=>h x (List.mem_cons_of_mem _ hx)];rfl
structure sM (vh:ai) (n2:Nat) (D:Nat→Bool) (ρ:Nat→Nat) (N N2:Nat) (ps tX:Array Tmp) (a bd a2 JT:Code) (j j2:Option Code) (ab aA:a7):Prop where
  n:N=N2
  p:ps=tX
  a:a=a2
  b:bd=JT
  j:j=j2
  t:oL ab vh n2 D ρ aA
def mi (vh:ai)(n2:Nat)(D:Nat→Bool)(ρ:Nat→Nat):aM→aM→Prop
 |.box cs,.box nq=>aD vh n2 D ρ cs nq
 |.loop N ps a bd ab j,.loop N2 tX a2 JT aA j2=>sM vh n2 D ρ N N2 ps tX a bd a2 JT j j2 ab aA
 |.grow sz es,.arr _ Ac cs=>sz=Ac∧(∃e r,es=e::r)∧es.flatMap PV.cells=cs
 |.grow sz es,.bW nP=>sz=1∧es=nP∧es≠[]∧∀e∈es,e.cells=[e]
 |.bW es,.bW nP=>aD vh n2 D ρ es nP∧∀e∈nP,e.cells=[e]
 |.bW es,.box cs=>aD vh n2 D ρ es cs
 |.box cs,.arr _ sz nq=>0<sz∧aD vh n2 D ρ cs nq∧PV.aF nq=true
 |.dS es,.dS nP=>es.map (·.1)=nP.map (·.1)∧aD vh n2 D ρ (es.map (·.2)) (nP.map (·.2))
 |x,y=>x=y
structure zc (b:Nat) (D:Nat→Bool) (ρ:Nat→Nat) (ab:a7) (vh:ai) (aA:a7) (aV:ai):Prop where
  tmps:∀t v2,bK t aA=some v2→∃v,bK t ab=some v∧Alt vh aV.next D ρ v v2
  bq:∀j y,aV.get j=some y→j<aV.next∧((∃sz,y=.grow sz []∧0<sz)∨D (ρ j)=false∧∃x,vh.get (ρ j)=some x∧mi vh aV.next D ρ x y)
  inj:∀j k y z,aV.get j=some y→aV.get k=some z→y.live=true→z.live=true→ρ j=ρ k→j=k
  base:∀j,j<b→ρ j=j
  BD:b≤aV.next
theorem zc.Rs {N b:Nat}{ab aA:a7}{aV:ai}{ts:aL}(a:zc b D ρ ab vh aA aV)(ht:VT g σ vh.next ab ts)(hn:ts.length=N)(s:VS lo g σ vh h) :
  dV N b lo g σ vh h ts h (g.more σ vh h D) (fun j=>σ (ρ j)) aA aV:=by
 have live:∀j y,aV.get j=some y→y.live=true→D (ρ j)=false∧∃x,vh.get (ρ j)=some x∧mi vh aV.next D ρ x y∧x.live=true:=fun j y hy hl=>by
  rcases (a.bq j y hy).2 with⟨sz,rfl,_⟩|⟨h1,x,h2,h3⟩
  ·cases hl
  refine⟨h1,x,h2,h3,?_⟩
  cases x with
  |box cs=>rfl
  |arr ag sz cs=>rfl
  |map es=>rfl
  |dS es=>rfl
  |emap es=>rfl
  |bW es=>rfl
  |loop=>rfl
  |grow sz es=>
   cases y with
   |arr ag Ac cs=>
    obtain⟨_,⟨e,r,rfl⟩,_⟩:=(h3:sz=Ac∧(∃e r,es=e::r)∧es.flatMap PV.cells=cs)
    rfl
   |bW nP=>
    obtain⟨_,_,h0,_⟩:=(h3:sz=1∧es=nP∧es≠[]∧∀e∈es,e.cells=[e])
    cases es with
    |nil=>exact absurd rfl h0
    |cons=>rfl
   |box=>cases h3
   |map=>cases h3
   |emap=>cases h3
   |dS=>cases h3
   |loop=>cases h3
   |grow Ac nP=>
    have h3:aM.grow sz es=aM.grow Ac nP:=h3
    rw[h3];exact hl
 refine⟨fun t v2 eN=>?_,hn,⟨fun j y hy=>?_,fun j k y z hy hz jb b7 he=>?_,fun j y hy hl=>?_,JR s,fun j y hy hl=>?_,s.bO⟩,vF s,fun i hi=>by simp only[a.base i hi],⟨Nat.le_refl _,fun _ _ _=>rfl,fun j y hy hl _=>?_⟩,a.BD,MH⟩
 ·obtain⟨v,h1,h2⟩:=a.tmps t v2 eN
  exact h2.ok s _ (ht t v h1)
 ·obtain⟨hj,h1⟩:=a.bq j y hy
  refine⟨hj,?_⟩
  rcases h1 with⟨sz,rfl,eJ⟩|⟨h1,x,h2,h3⟩
  ·exact⟨eJ,by simp,by decide,.inl rfl⟩
  have hx:=(s.obj (ρ j) x h2).2
  have hle:=vF (D:=D) s
  cases x with
  |box cs=>
   cases y with
   |box nq=>
    obtain⟨s0,ar,k1,k2,k3⟩:=hx
    exact⟨s0,ar,k1,k2,aD.ok s h3 k3⟩
   |arr ag sz nq=>
    obtain⟨e0,e1,e2⟩:=(h3:0<sz∧aD vh aV.next D ρ cs nq∧PV.aF nq=true)
    obtain⟨s0,ar,k1,k2,k3⟩:=hx
    exact⟨e0,s0,ar,k1,k2,(aD.ok s e1 k3).aG e2⟩
   |bW=>cases h3
   |grow=>cases h3
   |map=>cases h3
   |emap=>cases h3
   |dS=>cases h3
   |loop=>cases h3
  |arr ag sz cs=>
   have h3:aM.arr ag sz cs=y:=h3
   subst h3
   obtain⟨h0,s0,ar,k1,k2,k3⟩:=hx
   exact⟨h0,s0,ar,k1,k2,k3.mono fun _ _ h=>h.mono hle⟩
  |grow sz es=>
   cases y with
   |arr ag Ac cs=>
    obtain⟨rfl,⟨e,r,rfl⟩,rfl⟩:=(h3:sz=Ac∧(∃e r,es=e::r)∧es.flatMap PV.cells=cs)
    obtain⟨h0,h1,h2,l8⟩:=hx
    rcases l8 with h4|⟨s0,ar,k1,k2,k3,k4⟩
    ·cases h4
    exact⟨h0,s0,ar,k1,k2,k3.mono fun _ _ h=>h.mono hle⟩
   |bW nP=>
    obtain⟨rfl,rfl,e1,e2⟩:=(h3:sz=1∧es=nP∧es≠[]∧∀e∈es,e.cells=[e])
    obtain⟨h0,h1,h2,l8⟩:=hx
    rcases l8 with h4|⟨s0,ar,k1,k2,k3,k4⟩
    ·exact absurd h4 e1
    exact⟨e1,e2,h2,s0,ar,k1,k2,((z4x e2▸k3:bh (FR g) es ar).mono fun _ _ h=>h.mono hle).vr,k4⟩
   |box=>cases h3
   |map=>cases h3
   |emap=>cases h3
   |dS=>cases h3
   |loop=>cases h3
   |grow Ac nP=>
   have h3:aM.grow sz es=aM.grow Ac nP:=h3
   injection h3 with h3 h4
   subst h3;subst h4
   obtain⟨h0,h1,h2,l8⟩:=hx
   exact⟨h0,h1,h2,l8.imp_right fun⟨s0,ar,k1,k2,k3,k4⟩=>⟨s0,ar,k1,k2,k3.mono fun _ _ h=>h.mono hle,k4⟩⟩
  |bW es=>
   obtain⟨h0,h1,h2,s0,ar,k1,k2,k3,k4⟩:=hx
   cases y with
   |bW nP=>
    obtain⟨e1,e2⟩:=(h3:aD vh aV.next D ρ es nP∧∀e∈nP,e.cells=[e])
    have hl:nP.length=es.length:=e1.1.symm
    exact⟨fun h=>h0 (List.eq_nil_of_length_eq_zero (by rw[← hl,h];rfl)),e2,by rw[hl];exact h2,s0,ar,k1,k2,aD.ok s e1 k3,by rw[hl];exact k4⟩
   |box cs=>
    exact⟨s0,ar,k1,k2,aD.ok s (h3:aD vh aV.next D ρ es cs) k3⟩
   |arr=>cases h3
   |grow=>cases h3
   |map=>cases h3
   |emap=>cases h3
   |dS=>cases h3
   |loop=>cases h3
  |map es=>
   have h3:aM.map es=y:=h3
   subst h3
   obtain⟨br,k1,k2,k3,k4⟩:=hx
   exact⟨br,k1,k2,k3.mono fun _ _ h=>h.mono hle,k4.mono fun _ _ h=>h.mono hle⟩
  |emap es k born=>
   have h3:aM.emap es k born=y:=h3
   subst h3
   obtain⟨br,k1,k2,k3,k4⟩:=hx
   exact⟨br,k1,k2,k3.mono fun _ _ h=>h.mono hle,k4.mono fun _ _ h=>h.mono hle⟩
  |dS es=>
   cases y with
   |dS nP=>
    obtain⟨e1,e2⟩:=(h3:es.map (·.1)=nP.map (·.1)∧aD vh aV.next D ρ (es.map (·.2)) (nP.map (·.2)))
    obtain⟨br,k1,k2,k3,k4⟩:=hx
    exact⟨br,k1,k2,e1▸k3.mono fun _ _ h=>h.mono hle,aD.ok s e2 k4⟩
   |box=>cases h3
   |arr=>cases h3
   |grow=>cases h3
   |map=>cases h3
   |emap=>cases h3
   |bW=>cases h3
   |loop=>cases h3
  |loop N ps a bd ab jump=>
   cases y with
   |loop N2 tX a2 JT aA j2=>
    obtain⟨rfl,rfl,rfl,rfl,rfl,h6⟩:=(h3:sM vh aV.next D ρ N N2 ps tX a bd a2 JT jump j2 ab aA)
    obtain⟨L,k1,k2,k3,k4,k5,k6⟩:=hx
    refine⟨L,k1,k2,k3,k4,k5,fun t v2 eN=>?_⟩
    obtain⟨v,q1,q2⟩:=oL.get h6 t v2 eN
    exact q2.ok s _ (k6 t v q1)
   |box=>cases h3
   |arr=>cases h3
   |grow=>cases h3
   |map=>cases h3
   |emap=>cases h3
   |bW=>cases h3
   |dS=>cases h3
 ·obtain⟨_,x,h1,_,h2⟩:=live j y hy jb
  obtain⟨_,x',pG,_,G0⟩:=live k z hz b7
  exact a.inj j k y z hy hz jb b7 (s.inj _ _ x x' h1 pG h2 G0 he)
 ·obtain⟨_,x,h1,_,h2⟩:=live j y hy hl
  exact s.low _ x h1 h2
 ·obtain⟨hD,x,h1,_,h2⟩:=live j y hy hl
  unfold Fz.more
  rw[if_neg]
  ·exact s.jU _ x h1 h2
  rintro⟨i,z,k1,k2,k3,k4⟩
  have:=s.inj i (ρ j) z x k2 h1 k3 h2 k4
  subst this
  rw[hD] at k1;cases k1
 obtain⟨_,x,h1,_,h2⟩:=live j y hy hl
 exact⟨ρ j,x,h1,h2,rfl⟩
end
section
variable {P:Program} {N b:Nat} {Q:jd} {ab aA:a7} {vh aV:ai}
theorem VW.xeu {c:Code}(D:Nat→Bool)(ρ:Nat→Nat)(a:zc b D ρ ab vh aA aV)(hc:VW P N b c Q aA aV):VW P N b c Q ab vh:=fun lo g σ h ts ht hn s hb=>by
 have:=a.Rs ht hn s
 exact(hc lo _ _ h ts this.t this.len this.s this.base).mono fun e bf h' hs=>hs.trans this
theorem bZ.zwz {o:Oper}{next:a7→ai→Prop}(D:Nat→Bool)(ρ:Nat→Nat)(a:zc b D ρ ab vh aA aV)(hc:lN P N b o next aA aV):lN P N b o next ab vh:=fun lo g σ h ts ht hn s hb=>by
 have:=a.Rs ht hn s
 exact(hc lo _ _ h ts this.t this.len this.s this.base).mono fun bf h' hs=>hs.trans this
mutual
def bI (vh:ai):PV→Option PV
 |.func f xs ys=>match b6 vh xs,b6 vh ys with
  |some a,some b=>some (.func f a b)
  |_,_=>none
 |.agg cs=>(b6 vh cs).map .agg
 |.bx cs=>(b6 vh cs).map .bx
 |.ptr i off=>match vh.get i with
  |some (.box cs)=>bif PV.aF cs&&Nat.ble off cs.length then some (.vp (cs.drop off)) else none
  |some (.arr _ _ cs)=>bif Nat.ble off cs.length then some (.vp (cs.drop off)) else none
  |_=>none
 |.own i off len k=>bif Nat.beq len 0 then some (.vec []) else match vh.get i with
  |some (.arr _ sz _)=>(iP vh sz (.own i off len k)).map .vec
  |_=>none
 |.sub i off len=>bif Nat.beq len 0 then some (.vec []) else match vh.get i with
  |some (.arr _ sz _)=>(iP vh sz (.sub i off len)).map .vec
  |_=>none
 |.grow i n nl=>match vh.get i with
  |some (.grow _ es)=>bif Nat.beq es.length n then some (.vec es) else none
  |_=>bif Nat.beq n 0 then some (.vec []) else none
 |.iface t v=>bif v.aG then some (.iface t v) else none
 |.aW i=>match vh.get i with
  |some (.map es)=>some (.aC es)
  |_=>none
 |.bY _=>none
 |v=>some v
def b6 (vh:ai):List PV→Option (List PV)
 |[]=>some []
 |v::r=>match bI vh v,b6 vh r with
  |some a,some l=>some (a::l)
  |_,_=>none
end
mutual
theorem YW (vh:ai):∀(v v2:PV),bI vh v=some v2→Alt vh 0 (fun _=>true) id v v2
 |.func f xs ys,v2,h=>by
  simp only[bI] at h
  split at h
  ·rename_i a c h1 h2
   injection h with h;subst h
   exact .dQ (GK vh xs a h1) (GK vh ys c h2)
  cases h
 |.agg cs,v2,h=>by
  simp only[bI] at h
  obtain⟨l,h1,rfl⟩:=dq h
  exact .lO (GK vh cs l h1)
 |.bx cs,v2,h=>by
  simp only[bI] at h
  obtain⟨l,h1,rfl⟩:=dq h
  exact .EY (GK vh cs l h1)
 |.ptr i off,v2,h=>by
  simp only[bI] at h
  split at h
  ·rename_i cs hg
   cases hb:(PV.aF cs&&Nat.ble off cs.length) with
   |false=>rw[hb] at h;cases h
   |true=>
    rw[hb] at h;simp only[aO,ax] at h;subst h
    simp only[bS,Nat.ble_eq] at hb
    exact .E8 i off cs rfl hg hb.1 hb.2
  ·rename_i ag sz cs hg
   cases hb:Nat.ble off cs.length with
   |false=>rw[hb] at h;cases h
   |true=>
    rw[hb] at h;simp only[aO,ax] at h;subst h
    exact .za i off ag sz cs rfl hg (by simpa using hb)
  cases h
 |.own i off len k,v2,h=>by
  simp only[bI] at h
  rcases kH len 0 with⟨hq,cm⟩|⟨hq,cm⟩
  ·rw[hq] at h;simp only[aO,ax] at h;subst h;subst cm;exact .y9 i off k
  rw[hq] at h;simp only[bz] at h
  split at h
  ·rename_i ag sz cs hg
   obtain⟨es,h1,rfl⟩:=dq h
   exact .iV i off len k ag sz cs es rfl hg h1
  cases h
 |.sub i off len,v2,h=>by
  simp only[bI] at h
  rcases kH len 0 with⟨hq,cm⟩|⟨hq,cm⟩
  ·rw[hq] at h;simp only[aO,ax] at h;subst h;subst cm;exact .y8 i off
  rw[hq] at h;simp only[bz] at h
  split at h
  ·rename_i ag sz cs hg
   obtain⟨es,h1,rfl⟩:=dq h
   exact .tD i off len ag sz cs es rfl hg h1
  cases h
 |.grow i n nl,v2,h=>by
  simp only[bI] at h
  split at h
  ·rename_i sz es hg
   rcases kH es.length n with⟨hq,cm⟩|⟨hq,cm⟩
   ·rw[hq] at h;simp only[aO,ax] at h;subst h;exact .bW i n nl sz es rfl hg cm
   rw[hq] at h;cases h
  rcases kH n 0 with⟨hq,cm⟩|⟨hq,cm⟩
  ·rw[hq] at h;simp only[aO,ax] at h;subst h;subst cm;exact .tW i nl
  rw[hq] at h;cases h
 |.iface t v,v2,h=>by
  simp only[bI] at h
  cases hf:v.aG with
  |false=>rw[hf] at h;cases h
  |true=>rw[hf] at h;simp only[aO,ax] at h;subst h;exact .same _ (by simp only[PV.aG];exact hf)
 |.aW i,v2,h=>by
  simp only[bI] at h
  split at h
  ·rename_i es hg
   injection h with h;subst h;exact .dS i es rfl hg
  cases h
 |.aC es,v2,h=>by simp only[bI,ax] at h;subst h;exact .same _ rfl
 |.bY _,v2,h=>by simp[bI] at h
 |.bool b,v2,h=>by simp only[bI,ax] at h;subst h;exact .same _ rfl
 |.int k n,v2,h=>by simp only[bI,ax] at h;subst h;exact .same _ rfl
 |.str s,v2,h=>by simp only[bI,ax] at h;subst h;exact .same _ rfl
 |.nilFunc,v2,h=>by simp only[bI,ax] at h;subst h;exact .same _ rfl
 |.nilIface,v2,h=>by simp only[bI,ax] at h;subst h;exact .same _ rfl
 |.ft,v2,h=>by simp only[bI,ax] at h;subst h;exact .same _ rfl
 |.aI,v2,h=>by simp only[bI,ax] at h;subst h;exact .same _ rfl
 |.dF,v2,h=>by simp only[bI,ax] at h;subst h;exact .same _ rfl
 |.e0,v2,h=>by simp only[bI,ax] at h;subst h;exact .same _ rfl
 |.vec es,v2,h=>by simp only[bI,ax] at h;subst h;exact .same _ rfl
 |.vp cs,v2,h=>by simp only[bI,ax] at h;subst h;exact .same _ rfl
theorem GK (vh:ai):∀(l l2:List PV),b6 vh l=some l2→aD vh 0 (fun _=>true) id l l2
 |[],l2,h=>by simp only[b6,ax] at h;subst h;exact .nil
 |v::r,l2,h=>by
  simp only[b6] at h
  split at h
  ·rename_i a l h1 h2
   injection h with h;subst h
   exact .cons (YW vh v a h1) (GK vh r l h2)
  cases h
end
mutual
theorem YX (vh:ai):∀(v v2:PV),bI vh v=some v2→v2.aG=true
 |.func f xs ys,v2,h=>by
  simp only[bI] at h
  split at h
  ·rename_i a c h1 h2
   injection h with h;subst h
   rw[PV.Te,E9 vh xs a h1,E9 vh ys c h2];rfl
  cases h
 |.agg cs,v2,h=>by
  simp only[bI] at h
  obtain⟨l,h1,rfl⟩:=dq h
  rw[PV.NP];exact E9 vh cs l h1
 |.bx cs,v2,h=>by
  simp only[bI] at h
  obtain⟨l,h1,rfl⟩:=dq h
  rw[PV.Tf];exact E9 vh cs l h1
 |.ptr i off,v2,h=>by
  simp only[bI] at h
  split at h
  ·cases hb:(PV.aF _&&Nat.ble off _) with
   |false=>rw[hb] at h;cases h
   |true=>rw[hb] at h;simp only[aO,ax] at h;subst h;simp[PV.aG]
  ·cases hb:Nat.ble off _ with
   |false=>rw[hb] at h;cases h
   |true=>rw[hb] at h;simp only[aO,ax] at h;subst h;simp[PV.aG]
  cases h
 |.own i off len k,v2,h=>by
  simp only[bI] at h
  cases hq:Nat.beq len 0 with
  |true=>rw[hq] at h;simp only[aO,ax] at h;subst h;simp[PV.aG]
  |false=>
   rw[hq] at h;simp only[bz] at h
   split at h
   ·obtain⟨es,h1,rfl⟩:=dq h;simp[PV.aG]
   cases h
 |.sub i off len,v2,h=>by
  simp only[bI] at h
  cases hq:Nat.beq len 0 with
  |true=>rw[hq] at h;simp only[aO,ax] at h;subst h;simp[PV.aG]
  |false=>
   rw[hq] at h;simp only[bz] at h
   split at h
   ·obtain⟨es,h1,rfl⟩:=dq h;simp[PV.aG]
   cases h
 |.grow i n nl,v2,h=>by
  simp only[bI] at h
  split at h
  ·rename_i sz es hg
   cases hq:Nat.beq es.length n with
   |true=>rw[hq] at h;simp only[aO,ax] at h;subst h;simp[PV.aG]
   |false=>rw[hq] at h;cases h
  cases hq:Nat.beq n 0 with
  |true=>rw[hq] at h;simp only[aO,ax] at h;subst h;simp[PV.aG]
  |false=>rw[hq] at h;cases h
 |.iface t v,v2,h=>by
  simp only[bI] at h
  cases hf:v.aG with
  |false=>rw[hf] at h;cases h
  |true=>rw[hf] at h;simp only[aO,ax] at h;subst h;simp only[PV.aG];exact hf
 |.aW i,v2,h=>by
  simp only[bI] at h
  split at h
  ·injection h with h;subst h;simp[PV.aG]
  cases h
 |.aC es,v2,h=>by simp only[bI,ax] at h;subst h;simp[PV.aG]
 |.bY _,v2,h=>by simp[bI] at h
 |.bool b,v2,h=>by simp only[bI,ax] at h;subst h;simp[PV.aG]
 |.int k n,v2,h=>by simp only[bI,ax] at h;subst h;simp[PV.aG]
 |.str s,v2,h=>by simp only[bI,ax] at h;subst h;simp[PV.aG]
 |.nilFunc,v2,h=>by simp only[bI,ax] at h;subst h;simp[PV.aG]
 |.nilIface,v2,h=>by simp only[bI,ax] at h;subst h;simp[PV.aG]
 |.ft,v2,h=>by simp only[bI,ax] at h;subst h;simp[PV.aG]
 |.aI,v2,h=>by simp only[bI,ax] at h;subst h;simp[PV.aG]
 |.dF,v2,h=>by simp only[bI,ax] at h;subst h;simp[PV.aG]
 |.e0,v2,h=>by simp only[bI,ax] at h;subst h;simp[PV.aG]
 |.vec es,v2,h=>by simp only[bI,ax] at h;subst h;simp[PV.aG]
 |.vp cs,v2,h=>by simp only[bI,ax] at h;subst h;simp[PV.aG]
theorem E9 (vh:ai):∀(l l2:List PV),b6 vh l=some l2→PV.aF l2=true
 |[],l2,h=>by simp only[b6,ax] at h;subst h;rfl
 |v::r,l2,h=>by
  simp only[b6] at h
  split at h
  ·rename_i a l h1 h2
   injection h with h;subst h
   simp only[PV.aF,YX vh v a h1,E9 vh r l h2,Bool.and_self]
  cases h
end
def aN (P:Program)(f:FuncId)(args:List PV)(R:PV→Prop):Prop:=
 dP P f args ai.empty fun v _=>v.aG=true∧R v
theorem VS.none {lo:Nat}{g:Fz}{h:ah}(uG:∀o x,g o=some x→h.get o=some x)(hl:lo≤h.next)(σ:Sg):VS lo g σ ai.empty h:=
 ⟨fun i x hx=>(by cases hx),fun i j x y hx=>(by cases hx),fun i x hx=>(by cases hx),uG,fun i x hx=>(by cases hx),hl⟩
mutual
theorem GL {g g':Fz}:∀ {v:PV} {v':Value},FR g v v'→v.dc=true→FR g' v v'
 |_,_,.bool b,_=>.bool b
 |_,_,.int k n,_=>.int k n
 |_,_,.str s,_=>.str s
 |_,_,.nilFunc,_=>.nilFunc
 |_,_,.nilIface,_=>.nilIface
 |_,_,.ft,_=>.ft
 |_,_,.aI,_=>.aI
 |_,_,.dF,_=>.dF
 |_,_,.vW,h=>by simp[PV.dc] at h
 |_,_,.e0 ..,h=>by simp[PV.dc] at h
 |_,_,.func f xs ys bw dK hx hy rx ry,h=>by
  simp only[PV.dc,bS] at h
  exact .func f xs ys bw dK hx hy (fun i v v' hv aQ=>GL (rx i v v' hv aQ) (PV.Hy h.1 hv)) (fun i v v' hv aQ=>GL (ry i v v' hv aQ) (PV.Hy h.2 hv))
 |_,_,.agg cs ar hs r,h=>by
  simp only[PV.dc] at h
  exact .agg cs ar hs fun i v v' hv aQ=>GL (r i v v' hv aQ) (PV.Hy h hv)
 |_,_,.bx cs ar hs r,h=>by
  simp only[PV.dc] at h
  exact .bx cs ar hs fun i v v' hv aQ=>GL (r i v v' hv aQ) (PV.Hy h hv)
 |_,_,.iface t v v' hv,h=>by
  simp only[PV.dc] at h
  exact .iface t v v' (GL hv h)
 |_,_,.fw,h=>by simp[PV.dc] at h
 |_,_,.dv ..,h=>by simp[PV.dc] at h
 |_,_,.vec ..,h=>by simp[PV.dc] at h
 |_,_,.vp ..,h=>by simp[PV.dc] at h
 |_,_,.aC ..,h=>by simp[PV.dc] at h
end
def BV (P:Program)(f:FuncId)(args:List PV)(vh:ai)(R:PV→ai→Prop):Prop:=
 ∀lo g σ h aB,bh (VR g σ vh.next) args aB→VS lo g σ vh h→nU P lo f aB h fun r h'=>h.sub h'∧∃g' aR v ao,VR g' aR ao.next v r∧VS lo g' aR ao h'∧g.le g'∧(∀i,i<vh.next→aR i=σ i)∧VF σ vh h aR ao h'∧vh.next≤ao.next∧
  dU g σ vh h g'∧R v ao
theorem BV.call {f:FuncId}{args:List PV}{R:PV→ai→Prop}(h:BV P f args vh R):dP P f args vh R:=fun lo g σ hh aB ha s=>(h lo g σ hh aB ha s).mono fun _ _ hq=>hq.2
theorem BV.mono {f:FuncId}{args:List PV}{R R':PV→ai→Prop}(hc:BV P f args vh R)(hr:∀v vh,R v vh→R' v vh):BV P f args vh R':=
 fun lo g σ h aB ha s=>(hc lo g σ h aB ha s).mono fun r h' ⟨h0,g',aR,v,ao,h1,h2,h3,h4,h5,h6,h7,h8⟩=>⟨h0,g',aR,v,ao,h1,h2,h3,h4,h5,h6,h7,hr _ _ h8⟩
theorem YY {h h':ah}(hk:∀o,o<h.next→h'.get o=h.get o):h.sub h':=fun o x hx=>by rw[hk o (ah.gx hx)];exact hx
theorem aN.Fa {f:FuncId}{args:List PV}{R:PV→Prop}(hp:aN P f args R)(hf:PV.aF args=true):BV P f args vh fun v ao=>ao=vh∧R v:=fun lo g σ h aB ha s=>by
 have yY:bh (VR g σ ai.empty.next) args aB:=(ha.aG hf).vr
 refine(hp lo g σ h aB yY (.none s.fz s.bO σ)).mono fun r h' ⟨g',aR,v,ao,h1,h2,h3,h4,h5,h6,h7,h8,h9⟩=>?_
 have dd:∀o,o<h.next→h'.get o=h.get o:=fun o ho=>h5.gD o ho fun i x hx=>by cases hx
 have hg:∀o x,g' o=some x→o<h.next→∃y,g o=some y:=fun o x hx ho=>by
  rcases h7 o x hx ho with h|⟨i,y,h,_⟩
  ·exact⟨_,h⟩
  cases h
 refine⟨YY dd,g',σ,v,vh,.fr _ _ (h1.aG h8),⟨fun i x hx=>?_,s.inj,s.low,h2.fz,fun i x hx hl=>?_,h2.bO⟩,h3,fun _ _=>rfl,⟨h5.next,fun o ho _=>dd o ho,fun i x hx hl _=>⟨i,x,hx,hl,rfl⟩⟩,Nat.le_refl _,fun o x hx ho=>.inl (h7 o x hx ho |>.elim id fun⟨i,y,h,_⟩=>by cases h),rfl,h9⟩
 ·obtain⟨k1,k2⟩:=s.obj i x hx
  exact⟨k1,k2.mono h3 (Nat.le_refl _) (fun _ _=>rfl) k1 fun hl=>dd _ (k2.lt hl)⟩
 have hd:=s.jU i x hx hl
 have aP:=(s.obj i x hx).2.lt hl
 cases oS:g' (σ i).1 with
 |none=>rfl
 |some y=>
  obtain⟨z,hz⟩:=hg _ y oS aP
  rw[hd] at hz;cases hz
theorem aN.xad {f:FuncId}{args cD:List PV}{R:PV→Prop}(hp:aN P f cD R)(rz:b6 vh args=some cD)(JU:∀v,R v→v.dc=true):BV P f args vh fun v ao=>ao=vh∧R v:=fun lo g σ h aB ha s=>by
 have yY:=aD.ok s (GK vh args cD rz) ha
 have uG:=JR (D:=fun _=>true) s
 refine(hp lo (g.more σ vh h fun _=>true) (fun j=>σ (id j)) h aB yY (.none uG s.bO _)).mono fun r h' ⟨g',aR,v,ao,h1,h2,h3,h4,h5,h6,h7,h8,h9⟩=>?_
 have dd:∀o,o<h.next→h'.get o=h.get o:=fun o ho=>h5.gD o ho fun i x hx=>by cases hx
 refine⟨YY dd,g,σ,v,vh,.fr _ _ (GL (h1.aG h8) (JU v h9)),⟨fun i x hx=>?_,s.inj,s.low,fun o x hx=>?_,s.jU,h2.bO⟩,Fz.le_refl g,fun _ _=>rfl,⟨h5.next,fun o ho _=>dd o ho,fun i x hx hl _=>⟨i,x,hx,hl,rfl⟩⟩,Nat.le_refl _,dU.refl _ _ _ _,rfl,h9⟩
 ·obtain⟨k1,k2⟩:=s.obj i x hx
  exact⟨k1,k2.mono (Fz.le_refl g) (Nat.le_refl _) (fun _ _=>rfl) k1 fun hl=>dd _ (k2.lt hl)⟩
 have:=s.fz o x hx
 rw[dd o (ah.gx this)];exact this
theorem aN.call {f:FuncId}{args:List PV}{R:PV→Prop}(hp:aN P f args R)(hf:PV.aF args=true):dP P f args vh fun v ao=>ao=vh∧R v:=(hp.Fa hf).call
theorem aN.borrow {f:FuncId}{args cD:List PV}{R:PV→Prop}(hp:aN P f cD R)(rz:b6 vh args=some cD)(JU:∀v,R v→v.dc=true):dP P f args vh fun v ao=>ao=vh∧R v:=(hp.xad rz JU).call
def gY (P:Program)(fn:Func)(R:PV→Prop):jd
 |.normal,ab,vh=>∃l v,lh P ab vh fn.results.toList=some l∧bI vh (l9 l)=some v∧R v
 |.ret,ab,vh=>∃l v,lh P ab vh fn.results.toList=some l∧bI vh (l9 l)=some v∧R v
 |_,_,_=>False
theorem aN.bT {f:FuncId}{fn:Func}{c:Code}{args:List PV}{R:PV→Prop}(hf:P.funcs[f]?=some fn)(hb:fn.body=some c)(hn:Nat.ble args.length fn.ntmps=true)
  (hc:VW P fn.ntmps 0 c (gY P fn R) (lD 0 args) ai.empty):aN P f args R:=by
 have h1:dP P f args ai.empty fun v ao=>∃v2,bI ao v=some v2∧R v2:=by
  refine .bT hf hb hn (hc.mono fun e ab vh hq=>?_)
  cases e with
  |normal=>obtain⟨l,v,h1,h2,h3⟩:=hq;exact⟨l,h1,v,h2,h3⟩
  |ret=>obtain⟨l,v,h1,h2,h3⟩:=hq;exact⟨l,h1,v,h2,h3⟩
  |exit id=>exact hq.elim
  |goto l=>exact hq.elim
  |panic ch=>exact hq.elim
  |outgrown=>exact hq.elim
 intro lo g σ h aB ha s
 refine(h1 lo g σ h aB ha s).mono fun r h' ⟨g',aR,v,ao,k1,k2,k3,k4,k5,k6,k7,v2,k8,k9⟩=>?_
 have k10:=(YW ao v v2 k8).ok k2 r k1
 have hF:v2.aG=true:=YX ao v v2 k8
 refine⟨_,_,v2,ai.empty,k10,.none (JR k2) k2.bO _,Fz.le_trans k3 (vF k2),fun i hi=>(by cases hi),⟨k5.next,k5.gD,fun i x hx=>(by cases hx)⟩,Nat.le_refl _,k7.trans k5 MH,hF,k9⟩
end
theorem wrap64 {x:Int}(h1 : -9223372036854775808≤x)(h2:x<9223372036854775808):IntKind.i64.wrap x=x:=by
 simp[IntKind.wrap,IntKind.bits,IntKind.signed];omega
abbrev ints (l:List Int):PV:=.vec (l.map (PV.int .i64))
theorem zB {α:Type}{f:α→PV}{n:Nat}(h:∀x,(f x).cells.length=n)(l:List α):lC n (l.map f)=true:=by
 unfold lC
 rw[List.all_eq_true]
 intro e he
 obtain⟨x,_,rfl⟩:=List.mem_map.1 he
 rw[beq_eq,decide_eq_true_eq];exact h x
theorem zC {α:Type}{f:α→PV}(h:∀x,(f x).cells.all PV.one=true)(l:List α):ma (l.map f)=true:=by
 unfold ma
 rw[List.all_eq_true]
 intro e he
 obtain⟨x,_,rfl⟩:=List.mem_map.1 he
 exact h x
theorem z2l {α:Type}{f:α→PV}(h:∀x,(f x).aG=true)(l:List α):PV.aF (l.map f)=true:=PV.Td fun e he=>by
 obtain⟨x,_,rfl⟩:=List.mem_map.1 he
 exact h x
@[simp] theorem xc3 (k:IntKind)(l:List Int):lC 1 (l.map (PV.int k))=true:=zB (f:=PV.int k) (n:=1) (fun _=>rfl) l
@[simp] theorem xb5 (k:IntKind)(l:List Int):ma (l.map (PV.int k))=true:=zC (f:=PV.int k) (fun _=>rfl) l
@[simp] theorem xfn (k:IntKind)(l:List Int):PV.aF (l.map (PV.int k))=true:=z2l (f:=PV.int k) (fun _=>by simp[PV.aG]) l
def Rec (b:Nat)(ab:a7)(vh:ai)(aA:a7)(aV:ai):Prop:=∃D ρ,zc b D ρ ab vh aA aV
theorem VW.rec {P:Program}{N b:Nat}{Q:jd}{ab aA:a7}{vh aV:ai}{c:Code}(a:Rec b ab vh aA aV)(hc:VW P N b c Q aA aV):VW P N b c Q ab vh:=by
 obtain⟨D,ρ,a⟩:=a
 exact .xeu D ρ a hc
def gH (ab:a7):a7→Prop
 |[]=>True
 |(t,v)::r=>bK t ab=some v∧gH ab r
theorem YZ {ab:a7}:∀ {aA:a7},gH ab aA→∀t v,bK t aA=some v→bK t ab=some v
 |[],_,t,v,h=>by simp[bK] at h
 |(u,w)::r,hs,t,v,h=>by
  simp only[bK,beq_eq] at h
  by_cases CY:t=u
  ·subst CY;simp at h;subst h;exact hs.1
  simp[CY] at h;exact YZ hs.2 t v h
def od:a7→Bool
 |[]=>true
 |(_,v)::r=>v.aG&&od r
theorem Y0:∀ {ab:a7},od ab=true→∀t v,bK t ab=some v→v.aG=true
 |[],_,t,v,h=>by simp[bK] at h
 |(u,w)::r,hs,t,v,h=>by
  simp only[od,bS] at hs
  simp only[bK,beq_eq] at h
  by_cases CY:t=u
  ·subst CY;simp at h;subst h;exact hs.1
  simp[CY] at h;exact Y0 hs.2 t v h
theorem Rec.pure {ab aA:a7}{vh:ai}(h1:od aA=true)(h2:gH ab aA):Rec 0 ab vh aA ai.empty:=
 ⟨fun _=>false,id,⟨fun t v hv=>⟨v,YZ h2 t v hv,.same v (Y0 h1 t v hv)⟩,fun j y hy=>(by cases hy),fun j k y z hy=>(by cases hy),fun j hj=>rfl,Nat.zero_le _⟩⟩
def wz (l:List (Nat×Nat))(j:Nat):Nat:=
 match l with
 |[]=>j
 |(a,b)::r=>bif Nat.beq j a then b else wz r j
def tV (vh:ai)(n2:Nat)(D:Nat→Bool)(ρ:Nat→Nat):List (Nat×aM)→Prop
 |[]=>True
 |(j,y)::r=>(j<n2∧((∃sz,y=.grow sz []∧0<sz)∨D (ρ j)=false∧∃x,vh.get (ρ j)=some x∧mi vh n2 D ρ x y))∧tV vh n2 D ρ r
theorem tV.get {vh:ai}{n2:Nat}{D:Nat→Bool}{ρ:Nat→Nat}:∀ {l:List (Nat×aM)},tV vh n2 D ρ l→∀j y,bt j l=some y→j<n2∧((∃sz,y=.grow sz []∧0<sz)∨D (ρ j)=false∧∃x,vh.get (ρ j)=some x∧mi vh n2 D ρ x y)
 |[],_,j,y,h=>by simp[bt] at h
 |(k,z)::r,hs,j,y,h=>by
  simp only[bt,beq_eq] at h
  by_cases vX:j=k
  ·subst vX;simp at h;subst h;exact hs.1
  simp[vX] at h;exact tV.get hs.2 j y h
theorem RH:∀ {l:List (Nat×aM)} {j:Nat} {y:aM},bt j l=some y→j∈l.map (·.1)
 |[],j,y,h=>by simp[bt] at h
 |(k,z)::r,j,y,h=>by
  simp only[bt,beq_eq] at h
  by_cases vX:j=k
  ·subst vX;simp
  simp[vX] at h;simp only[List.map_cons,List.mem_cons];exact .inr (RH h)
def xZ (ρ:Nat→Nat)(l:List Nat):Bool:=l.all fun j=>l.all fun k=>!(Nat.beq (ρ j) (ρ k))||Nat.beq j k
def Rw (b:Nat)(ρ:Nat→Nat):Bool:=(List.range b).all fun j=>Nat.beq (ρ j) j
theorem Rec.mk {b:Nat}{ab aA:a7}{vh aV:ai}(D:List Nat)(ρ:List (Nat×Nat))(ht:oL ab vh aV.next (fun i=>D.contains i) (wz ρ) aA)(ho:tV vh aV.next (fun i=>D.contains i) (wz ρ) aV.bq)
  (hi:xZ (wz ρ) (aV.bq.map (·.1))=true) (hb:Rw b (wz ρ)=true) (hn:Nat.ble b aV.next=true):Rec b ab vh aA aV:=by
 refine⟨fun i=>D.contains i,wz ρ,⟨fun t v hv=>oL.get ht t v hv,fun j y hy=>tV.get ho j y hy,fun j k y z hy hz _ _ he=>?_,fun j hj=>?_,by simpa using hn⟩⟩
 ·unfold xZ at hi
  rw[List.all_eq_true] at hi
  have h1:=hi j (RH hy)
  rw[List.all_eq_true] at h1
  have h2:=h1 k (RH hz)
  rw[he] at h2
  simpa[beq_eq] using h2
 unfold Rw at hb
 rw[List.all_eq_true] at hb
 simpa using hb j (by simpa using hj)
theorem VW.dw {P:Program}{N b:Nat}{Q:jd}{ab:a7}{vh:ai}{c:Code}{S:Type}(st:S→a7×ai)(I:S→Prop)(m:S→Nat)(s0:S)(h0:I s0)(hr:Rec b ab vh (st s0).1 (st s0).2)
  (round:∀s,I s→VW P N b c (BS (fun aU ao=>∃s',I s'∧m s'<m s∧Rec b aU ao (st s').1 (st s').2) Q) (st s).1 (st s).2):VW P N b (.loop c) Q ab vh:=
 .loop (fun k ab vh=>∃s,I s∧m s=k∧Rec b ab vh (st s).1 (st s).2) (m s0) ⟨s0,h0,rfl,hr⟩ fun k ab vh ⟨s,h1,h2,h3⟩=>by
  subst h2
  refine .rec h3 ((round s h1).mono fun e ab vh hq=>?_)
  cases e with
  |normal=>obtain⟨s',k1,k2,k3⟩:=hq;exact⟨m s',k2,s',k1,rfl,k3⟩
  |exit id=>exact hq
  |goto l=>exact hq
  |ret=>exact hq
  |panic ch=>exact hq
  |outgrown=>exact hq
def uD (P:Program)(lo:Nat)(ops:Array Oper)(ts:aL)(h:ah)(m:Nat):Prop:=
 ∃o d v h1,ops[m]?=some o∧o.dst=some d∧vU o.op=true∧ts[d]?=some v∧cu P lo ts h o.op=some (v,h1)
def JV (op:Op)(d:Nat):Bool:=op.operands.toList.all fun x=>match x with
 |.tmp t=>!Nat.beq t d
 |_=>true
def MK (ops:Array Oper)(dst:Option Tmp)(k:Nat):Bool:=
 match dst with
 |none=>true
 |some d=>match ops[k]? with
  |some o=>JV o.op d&&(match o.dst with|some d'=>!Nat.beq d' d|none=>true)
  |none=>false
def Ae (o:Oper):Bool:=
 match o.dst with
 |some d=>JV o.op d
 |none=>false
section
variable {P:Program} {N b lo:Nat} {ops:Array Oper}
theorem zyz {ts:aL}{x:Operand}{d:Nat}{v:Value}(hx:(match x with|.tmp t=>!Nat.beq t d|_=>true)=true):cX ts x=cX (bE ts (some d) v) x:=by
 cases x with
 |tmp t=>
  have:t≠d:=by simpa[beq_eq] using hx
  simp only[cX]
  rw[Tc (fun h=>this h.symm)]
 |const=>rfl
 |func=>rfl
 |global=>rfl
theorem Y1 {op:Op}{d:Nat}{ts:aL}{v:Value}(hf:JV op d=true):∀x∈op.operands,cX ts x=cX (bE ts (some d) v) x:=fun x hx=>by
 unfold JV at hf
 rw[List.all_eq_true] at hf
 exact zyz (hf x (by simpa using hx))
theorem uD.put {ts:aL}{h h2:ah}{m:Nat}{dst:Option Tmp}(v:Value)(hc:uD P lo ops ts h m)(hs:h.sub h2)(hf:MK ops dst m=true):uD P lo ops (bE ts dst v) h2 m:=by
 obtain⟨o,d,u,h1,k1,k2,k3,k4,k5⟩:=hc
 obtain⟨e1,e2⟩:=AK k3 k5
 have k6:=e2 h2 hs
 cases dst with
 |none=>exact⟨o,d,u,h2,k1,k2,k3,k4,k6⟩
 |some d'=>
  simp only[MK,k1,k2,bS] at hf
  have cY:d≠d':=by simpa[beq_eq] using hf.2
  refine⟨o,d,u,h2,k1,k2,k3,?_,?_⟩
  ·simp only[bE];rw[List.getElem?_set_ne (fun h=>cY h.symm)];exact k4
  rw[← Cf (Y1 hf.1)];exact k6
theorem uD.new {ts:aL}{h:ah}{m d:Nat}{o:Oper}{v:Value}{h1:ah}(ho:ops[m]?=some o)(hd:o.dst=some d)(aP:d<ts.length)(hr:vU o.op=true)(ha:cu P lo ts h o.op=some (v,h1))(hf:JV o.op d=true):uD P lo ops (bE ts o.dst v) h m:=by
 obtain⟨e1,_⟩:=AK hr ha
 subst e1
 refine⟨o,d,v,h1,ho,hd,hr,by rw[hd];simp[bE,aP],?_⟩
 rw[hd,← Cf (Y1 hf)];exact ha
def jD (ops:Array Oper)(todo:List Nat)(dst:Option Tmp):List Nat:=todo.filter (MK ops dst)
def qT (P:Program)(N b:Nat)(ops:Array Oper)(o:Oper)(todo:List Nat)(next:List Nat→a7→ai→Prop)(ab:a7)(vh:ai):Prop:=
 ∀lo g σ h ts,VT g σ vh.next ab ts→ts.length=N→VS lo g σ vh h→b≤vh.next→(∀m∈todo,uD P lo ops ts h m)→∀jT,zq ops o jT ts→
  rj P lo o jT h fun bf h'=>∃v',bf=bE jT o.dst v'∧∃cV,(∀m∈cV,uD P lo ops (bE ts o.dst v') h' m)∧qt N b lo g σ vh h (next cV) (bE ts o.dst v') h'
theorem JW {h:ah}{y:bc}:h.sub (h.alloc y):=fun o x hx=>by
 rw[ah.jf,if_neg (by have:=ah.gx hx;omega)];exact hx
theorem z8v {op:Op}{ts:aL}{h h':ah}{v:Value}(hi:Hc op=true)(ha:cu P lo ts h op=some (v,h')):h.sub h':=by
 cases op<;>simp only[Hc,Bool.false_eq_true] at hi
 case alloc t=>
  simp only[cu,Fl] at ha
  split at ha
  ·simp only[ax,bG] at ha;rw[← ha.2];exact JW
  cases ha
 case box t x=>
  simp only[cu] at ha
  obtain⟨u,_,h2⟩:=dq ha
  simp only[uH,bG] at h2;rw[← h2.2];exact JW
 case buildSlice t n ps=>
  simp only[cu] at ha
  split at ha
  ·unfold Fs at ha
   split at ha
   ·split at ha
    ·cases hb:(Nat.beq _ _&&Nat.ble _ _&&Nat.blt _ _) with
     |false=>rw[hb] at ha;cases ha
     |true=>
      rw[hb] at ha;simp only[aO] at ha
      split at ha
      ·simp only[ax,bG] at ha;rw[← ha.2];exact JW
      cases ha
    cases ha
   cases ha
  cases ha
 case makeMap t r=>
  cases r with
  |none=>simp only[cu,ax,bG] at ha;rw[← ha.2];exact JW
  |some=>simp[cu] at ha
 case makeSlice t l c=>
  simp only[cu] at ha
  split at ha
  ·unfold Ft at ha
   split at ha
   ·split at ha
    ·cases hb:(Nat.beq _ _&&Nat.ble _ _&&Nat.ble _ _&&Nat.blt _ _&&Nat.ble _ _) with
     |false=>rw[hb] at ha;cases ha
     |true=>rw[hb] at ha;simp only[aO,ax,bG] at ha;rw[← ha.2];exact JW
    cases ha
   cases ha
  cases ha
section
variable {ab:a7} {vh:ai} {o:Oper} {todo:List Nat} {next:List Nat→a7→ai→Prop}
theorem qT.dH {v:PV}{ao:ai}(hv:Go.Am.dH P ab vh o.op=some (v,ao))(hd:iq N o.dst=true)(hn:next (bif Hc o.op then jD ops todo o.dst else []) (bP ab o.dst v) ao):qT P N b ops o todo next ab vh:=fun lo g σ h ts ht hl s hb gP jT eh=>by
 obtain⟨v',h',k1,aR,k2,k3,k4,k5,k6⟩:=BU s ht hv
 obtain⟨g1,g2⟩:=sU (Fz.le_refl g) k5 k6 ht o.dst (hl▸hd) k2
 refine .op (v:=v') (h':=h') ?_ ⟨v',rfl,_,?_,g,aR,_,ao,⟨g1,g2.trans hl,k3,Fz.le_refl g,fun i hi=>k6 i (by omega),k4,by omega,dU.refl _ _ _ _⟩,hn⟩
 ·rw[Cf (fun x hx=>eh.eval x hx)];exact k1
 intro m hm
 cases hi:Hc o.op with
 |false=>rw[hi] at hm;cases hm
 |true=>
  rw[hi] at hm
  simp only[aO,jD,List.mem_filter] at hm
  exact(gP m hm.1).put v' (z8v hi k1) hm.2
theorem qT.Fa {fo:Operand}{args:Array Operand}{aT:Array TypeId}{f:FuncId}{xs ys l:List PV}(ho:o.op=.call ⟨.value fo,args,aT⟩)
  (hf:cC ab fo=some (.func f xs ys)) (hl:iE ab args.toList=some l) (dM:∀cs w,(callFunc f cs).run P w=.ok (.enter f cs) w) (hd:iq N o.dst=true)
  (hc:BV P f (xs++l++ys) vh fun r ao=>next (jD ops todo o.dst) (bP ab o.dst r) ao):qT P N b ops o todo next ab vh:=fun lo g σ h ts ht hn s hb gP jT eh=>by
 obtain⟨f',k1,k2⟩:=eO ht hf
 obtain⟨l',k3,k4⟩:=AU ht hl
 obtain⟨bw,dK,rfl,hx,hy⟩:=MJ k2
 have e1:cX jT fo=cX ts fo:=eh.eval fo (by rw[ho];simp[Op.operands,Call.operands])
 have e2:pM jT args.toList=pM ts args.toList:=FC fun x hx=>eh.eval x (by rw[ho];simp[Op.operands,Call.operands];exact .inr (by simpa using hx))
 refine .No ho (e1.trans k1) (e2.trans k3) dM ((hc lo g σ h _ ((hx.append k4).append hy) s).mono fun r h' ⟨h0,g',aR,v,ao,h1,h2,h3,h4,h5,h6,h7,h8⟩=>?_)
 obtain⟨g1,g2⟩:=sU h3 h6 h4 ht o.dst (hn▸hd) h1
 refine⟨r,rfl,_,fun m hm=>?_,g',aR,_,ao,⟨g1,g2.trans hn,h2,h3,fun i hi=>h4 i (by omega),h5,by omega,h7⟩,h8⟩
 simp only[jD,List.mem_filter] at hm
 exact(gP m hm.1).put r h0 hm.2
theorem qT.call {fo:Operand}{args:Array Operand}{aT:Array TypeId}{f:FuncId}{xs ys l:List PV}(ho:o.op=.call ⟨.value fo,args,aT⟩)
  (hf:cC ab fo=some (.func f xs ys)) (hl:iE ab args.toList=some l) (dM:∀cs w,(callFunc f cs).run P w=.ok (.enter f cs) w) (hd:iq N o.dst=true)
  (hc:dP P f (xs++l++ys) vh fun r ao=>next [] (bP ab o.dst r) ao):qT P N b ops o todo next ab vh:=fun lo g σ h ts ht hn s hb gP jT eh=>by
 obtain⟨f',k1,k2⟩:=eO ht hf
 obtain⟨l',k3,k4⟩:=AU ht hl
 obtain⟨bw,dK,rfl,hx,hy⟩:=MJ k2
 have e1:cX jT fo=cX ts fo:=eh.eval fo (by rw[ho];simp[Op.operands,Call.operands])
 have e2:pM jT args.toList=pM ts args.toList:=FC fun x hx=>eh.eval x (by rw[ho];simp[Op.operands,Call.operands];exact .inr (by simpa using hx))
 refine .No ho (e1.trans k1) (e2.trans k3) dM ((hc lo g σ h _ ((hx.append k4).append hy) s).mono fun r h' ⟨g',aR,v,ao,h1,h2,h3,h4,h5,h6,h7,h8⟩=>?_)
 obtain⟨g1,g2⟩:=sU h3 h6 h4 ht o.dst (hn▸hd) h1
 exact⟨r,rfl,[],fun m hm=>(by cases hm),g',aR,_,ao,⟨g1,g2.trans hn,h2,h3,fun i hi=>h4 i (by omega),h5,by omega,h7⟩,h8⟩
end
def cA (P:Program)(N b:Nat)(ops:Array Oper)(W:List Nat)(K:a7→ai→Prop):List iD→List Nat→a7→ai→Prop
 |[],_,ab,vh=>K ab vh
 |.op m::r,todo,ab,vh=>
  match ops[m]? with
  |none=>False
  |some o=>match ij ops o ab with
   |none=>False
   |some false=>iq N o.dst=true∧cA P N b ops W K r (jD ops todo o.dst) (bP ab o.dst (.bx [])) vh
   |some true=>bif W.contains m then qT P N b ops o todo (cA P N b ops W K r) ab vh
    else vU o.op=true∧iq N o.dst=true∧∃v,dH P ab vh o.op=some (v,vh)∧cA P N b ops W K r (bif Ae o then m::jD ops todo o.dst else jD ops todo o.dst) (bP ab o.dst v) vh
 |.ck m::r,todo,ab,vh=>
  match ops[m]? with
  |none=>False
  |some o=>(todo.contains m=true∨o.dst.isSome=true∧ij ops o ab=some false)∧cA P N b ops W K r todo ab vh
theorem JX {ms W:List Nat}(hd:∀d∈(ops.toList.filterMap (·.dst)),d<N){K:a7→ai→Prop}{g:Fz}{σ:Sg}{vh:ai}{h:ah}{base:Nat}:∀(items:List iD) (todo:List Nat) (bf:aL) (h':ah) (g':Fz) (aR:Sg) (aU:a7) (ao:ai),dV N b lo g σ vh h bf h' g' aR aU ao→
  (∀m∈todo,uD P lo ops bf h' m)→cA P N b ops W K items todo aU ao→zt P lo ops base ms W [] (qt N b lo g σ vh h K) items bf [] h'
 |[],todo,bf,h',g',aR,aU,ao,a,gP,k=>⟨g',aR,aU,ao,a,k⟩
 |.op m::r,todo,bf,h',g',aR,aU,ao,a,gP,k=>by
  simp only[cA] at k
  cases ho:ops[m]? with
  |none=>rw[ho] at k;exact k.elim
  |some o=>
   rw[ho] at k
   simp only at k
   refine⟨o,ho,?_⟩
   split at k
   ·exact k.elim
   ·rename_i hw
    rw[CX (a.len▸hd) a.t hw]
    simp only[bz]
    obtain⟨g1,g2⟩:=sU (Fz.le_refl g') (Nat.le_refl _) (fun _ _=>rfl) a.t o.dst (a.len▸k.1) (.fr _ _ uC)
    refine JX hd r _ _ h' g' aR _ ao ⟨g1,g2.trans a.len,a.s,a.le,a.agree,a.f,a.base,a.own⟩ (fun m hm=>?_) k.2
    simp only[jD,List.mem_filter] at hm
    exact(gP m hm.1).put _ (fun _ _ hx=>hx) hm.2
   rename_i hw
   rw[CX (a.len▸hd) a.t hw]
   simp only[aO]
   cases hW:W.contains m with
   |true=>
    rw[hW] at k
    simp only[aO] at k ⊢
    intro jT eh
    refine(k lo g' aR h' bf a.t a.len a.s a.base gP jT eh).mono fun nr h2 ⟨v',e,cV,Fb,g2,dG,aA,aV,c,k2⟩=>⟨v',e,?_⟩
    exact JX hd r cV _ h2 g2 dG aA aV (a.trans c) Fb k2
   |false=>
    rw[hW] at k
    simp only[bz,List.contains_nil] at k ⊢
    obtain⟨hr,rP,v,hv,k2⟩:=k
    obtain⟨v',h1,e1,dG,e2,e3,e4,e5,e6⟩:=BU (lo:=lo) a.s a.t hv
    obtain⟨e7,_⟩:=AK hr e1
    subst e7
    obtain⟨g1,g2⟩:=sU (Fz.le_refl g') (Nat.le_refl _) e6 a.t o.dst (a.len▸rP) e2
    have Fc:∀i,i<b→dG i=σ i:=fun i hi=>(e6 i (Nat.lt_of_lt_of_le hi a.base)).trans (a.agree i hi)
    refine⟨v',h1,e1,JX hd r _ _ h1 g' dG _ ao ⟨g1,g2.trans a.len,e3,a.le,Fc,a.f.trans e4,a.base,a.own⟩ (fun m' hm=>?_) k2⟩
    have gV:m'∈jD ops todo o.dst→uD P lo ops (bE bf o.dst v') h1 m':=fun hm=>by
     simp only[jD,List.mem_filter] at hm
     exact(gP m' hm.1).put _ (fun _ _ hx=>hx) hm.2
    cases qU:Ae o with
    |false=>rw[qU] at hm;exact gV hm
    |true=>
     rw[qU] at hm
     simp only[aO,List.mem_cons] at hm
     rcases hm with rfl|hm
     ·unfold Ae at qU
      cases sn:o.dst with
      |none=>rw[sn] at qU;cases qU
      |some d=>
       rw[sn] at qU
       have aP:d<bf.length:=by
        have:=a.len▸rP
        rw[sn] at this
        simpa[iq] using this
       have:=uD.new (P:=P) (lo:=lo) ho sn aP hr e1 qU
       rwa [sn] at this
     exact gV hm
 |.ck m::r,todo,bf,h',g',aR,aU,ao,a,gP,k=>by
  simp only[cA] at k
  cases ho:ops[m]? with
  |none=>rw[ho] at k;exact k.elim
  |some o=>
   rw[ho] at k
   simp only at k
   obtain⟨k1,k2⟩:=k
   have rest:=JX (base:=base) (ms:=ms) hd r _ bf h' g' aR aU ao a gP k2
   rcases k1 with k1|⟨k1,hw⟩
   ·have hm:m∈todo:=by simpa using k1
    obtain⟨o',d,v,h1,c1,c2,c3,c4,c5⟩:=gP m hm
    rw[ho] at c1;injection c1 with c1;subst c1
    exact⟨o,d,ho,c2,fun _=>⟨v,h1,c4,c5⟩,rest⟩
   cases sn:o.dst with
   |none=>rw[sn] at k1;cases k1
   |some d=>exact⟨o,d,ho,sn,fun o0=>(by rw[CX (a.len▸hd) a.t hw] at o0;cases o0),rest⟩
theorem VW.drawn {id:Nat}{Q:jd}{ab:a7}{vh:ai}{ms W:List Nat}{items:List iD}(hm:P.follows .mixedOrders=true)(cN:Hm ops ms W []=true)(hc:zu ops ms W [] [] W [] items=true)(hd:Ad N ops=true)
  (hs:cA P N b ops W (Q .normal) items [] ab vh):VW P N b (.region id ops true) Q ab vh:=fun lo g σ h ts ht hn s hb=>
 .sched hm cN rfl hc (JX (RD hd) items [] ts h g σ ab vh (.refl ht hn s hb) (fun m hm=>(by cases hm)) hs)
end
@[simp] theorem xda (cs:List PV):(PV.agg cs).cells=cs:=rfl
@[simp] theorem xcq (k:IntKind)(n:Int):(PV.int k n).cells=[.int k n]:=rfl
@[simp] theorem xby (b:Bool):(PV.bool b).cells=[.bool b]:=rfl
@[simp] theorem xen (s:ByteArray):(PV.str s).cells=[.str s]:=rfl
@[simp] theorem xcz (es:List PV):(PV.vec es).cells=[.vec es]:=rfl
@[simp] theorem xb0 (es:List (PV×PV)):(PV.aC es).cells=[.aC es]:=rfl
@[simp] theorem xfm (es:List PV):(PV.vp es).cells=[.vp es]:=rfl
@[simp] theorem xcm:PV.aI.cells=[.aI]:=rfl
@[simp] theorem xfo:PV.e0.cells=[.e0]:=rfl
@[simp] theorem xbz:PV.ft.cells=[.ft]:=rfl
@[simp] theorem xb7:PV.dF.cells=[.dF]:=rfl
@[simp] theorem z2r:PV.nilFunc.cells=[.nilFunc]:=rfl
@[simp] theorem xbx (f:FuncId)(xs ys:List PV):(PV.func f xs ys).cells=[.func f xs ys]:=rfl
@[simp] theorem xff (i off:Nat):(PV.ptr i off).cells=[.ptr i off]:=rfl
@[simp] theorem xd7 (i off l k:Nat):(PV.own i off l k).cells=[.own i off l k]:=rfl
@[simp] theorem xe3 (i off l:Nat):(PV.sub i off l).cells=[.sub i off l]:=rfl
@[simp] theorem xb4 (i n:Nat)(nl:Bool):(PV.grow i n nl).cells=[.grow i n nl]:=rfl
@[simp] theorem xb9 (i:Nat):(PV.aW i).cells=[.aW i]:=rfl
@[simp] theorem xck (cs:List PV):(PV.bx cs).cells=[.bx cs]:=rfl
@[simp] theorem z9z (a b:List PV):PV.aF (a++b)=(PV.aF a&&PV.aF b):=by
 induction a with
 |nil=>rfl
 |cons v r ih=>simp only[List.cons_append,PV.aF,ih,Bool.and_assoc]
theorem qD (a b:Nat):Nat.ble a b=decide (a≤b):=by rw[Bool.eq_iff_iff];simp
theorem rE (a b:Nat):Nat.blt a b=decide (a<b):=by rw[Bool.eq_iff_iff];simp
section
variable {P:Program} {N b:Nat} {Q:jd} {ab:a7} {vh:ai}
theorem VW.zae {c:Operand}{x y:Code}{v:Bool}(hc:cC ab c=some (.bool v))(hT:v=true→VW P N b x Q ab vh)(hF:v=false→VW P N b y Q ab vh):VW P N b (.cond c x y) Q ab vh:=by
 cases v with
 |true=>exact .eA hc (hT rfl)
 |false=>exact .fD hc (hF rfl)
theorem bZ.split {ops:Array Oper}{K:a7→ai→Prop}{l:List Nat}{t:Nat}{v:Bool}(hv:bK t ab=some (.bool v))(hT:v=true→bZ P N b ops K l ab vh)(hF:v=false→bZ P N b ops K l ab vh):bZ P N b ops K l ab vh:=by
 cases v with
 |true=>exact hT rfl
 |false=>exact hF rfl
theorem cA.split {ops:Array Oper}{W todo:List Nat}{K:a7→ai→Prop}{l:List iD}{t:Nat}{v:Bool}(hv:bK t ab=some (.bool v))(hT:v=true→cA P N b ops W K l todo ab vh)(hF:v=false→cA P N b ops W K l todo ab vh):cA P N b ops W K l todo ab vh:=by
 cases v with
 |true=>exact hT rfl
 |false=>exact hF rfl
theorem VW.ay {id:Nat}{ops:Array Oper}(l:List Nat)(hl:List.range ops.size=l)(hd:Ad N ops=true)(hk:bZ P N b ops (Q .normal) l ab vh):VW P N b (.region id ops false) Q ab vh:=.region hd (hl▸hk)
theorem bZ.step {ops:Array Oper}{K:a7→ai→Prop}{i:Nat}{r:List Nat}{o:Oper}(ho:ops[i]?=some o)(hw:ij ops o ab=some true)(hs:lN P N b o (bZ P N b ops K r) ab vh):bZ P N b ops K (i::r) ab vh:=by
 simp only[bZ,ho,hw];exact hs
theorem bZ.done {ops:Array Oper}{K:a7→ai→Prop}(hk:K ab vh):bZ P N b ops K [] ab vh:=hk
theorem lN.pure {o:Oper}{next:a7→ai→Prop}{fo:Operand}{args:Array Operand}{aT:Array TypeId}{f:FuncId}{xs ys l:List PV}{R:PV→Prop}(ho:o.op=.call ⟨.value fo,args,aT⟩)
  (hf:cC ab fo=some (.func f xs ys)) (hl:iE ab args.toList=some l) (dM:∀cs w,(callFunc f cs).run P w=.ok (.enter f cs) w) (hd:iq N o.dst=true)
  (hp:aN P f (xs++l++ys) R) (hF:PV.aF (xs++l++ys)=true) (hn:∀r,R r→next (bP ab o.dst r) vh):lN P N b o next ab vh:=
 .call ho hf hl dM hd ((hp.call hF).mono fun r ao ⟨h1,h2⟩=>h1▸hn r h2)
theorem lN.borrow {o:Oper}{next:a7→ai→Prop}{fo:Operand}{args:Array Operand}{aT:Array TypeId}{f:FuncId}{xs ys l cD:List PV}{R:PV→Prop}(ho:o.op=.call ⟨.value fo,args,aT⟩)
  (hf:cC ab fo=some (.func f xs ys)) (hl:iE ab args.toList=some l) (dM:∀cs w,(callFunc f cs).run P w=.ok (.enter f cs) w) (hd:iq N o.dst=true)
  (hz:b6 vh (xs++l++ys)=some cD) (hp:aN P f cD R) (JU:∀v,R v→v.dc=true) (hn:∀r,R r→next (bP ab o.dst r) vh):lN P N b o next ab vh:=
 .call ho hf hl dM hd ((hp.borrow hz JU).mono fun r ao ⟨h1,h2⟩=>h1▸hn r h2)
theorem qT.pure {ops:Array Oper}{todo:List Nat}{o:Oper}{next:List Nat→a7→ai→Prop}{fo:Operand}{args:Array Operand}{aT:Array TypeId}{f:FuncId}{xs ys l:List PV}{R:PV→Prop}(ho:o.op=.call ⟨.value fo,args,aT⟩)
  (hf:cC ab fo=some (.func f xs ys)) (hl:iE ab args.toList=some l) (dM:∀cs w,(callFunc f cs).run P w=.ok (.enter f cs) w) (hd:iq N o.dst=true)
  (hp:aN P f (xs++l++ys) R) (hF:PV.aF (xs++l++ys)=true) (hn:∀r,R r→next (jD ops todo o.dst) (bP ab o.dst r) vh):qT P N b ops o todo next ab vh:=
 .Fa ho hf hl dM hd ((hp.Fa hF).mono fun r ao ⟨h1,h2⟩=>h1▸hn r h2)
theorem cA.rd {ops:Array Oper}{W todo:List Nat}{K:a7→ai→Prop}{m:Nat}{r:List iD}{o:Oper}{v:PV}(ho:ops[m]?=some o)(hw:ij ops o ab=some true)(hW:W.contains m=false)(hr:vU o.op=true)(hd:iq N o.dst=true)(hv:dH P ab vh o.op=some (v,vh))
  (k:cA P N b ops W K r (bif Ae o then m::jD ops todo o.dst else jD ops todo o.dst) (bP ab o.dst v) vh):cA P N b ops W K (.op m::r) todo ab vh:=by
 simp only[cA,ho,hw,hW,bz];exact⟨hr,hd,v,hv,k⟩
theorem cA.wr {ops:Array Oper}{W todo:List Nat}{K:a7→ai→Prop}{m:Nat}{r:List iD}{o:Oper}(ho:ops[m]?=some o)(hw:ij ops o ab=some true)(hW:W.contains m=true)
  (k:qT P N b ops o todo (cA P N b ops W K r) ab vh):cA P N b ops W K (.op m::r) todo ab vh:=by
 simp only[cA,ho,hw,hW,aO];exact k
theorem cA.un {ops:Array Oper}{W todo:List Nat}{K:a7→ai→Prop}{m:Nat}{r:List iD}{o:Oper}(ho:ops[m]?=some o)(hw:ij ops o ab=some false)(hd:iq N o.dst=true)
  (k:cA P N b ops W K r (jD ops todo o.dst) (bP ab o.dst (.bx [])) vh):cA P N b ops W K (.op m::r) todo ab vh:=by
 simp only[cA,ho,hw];exact⟨hd,k⟩
theorem cA.ck {ops:Array Oper}{W todo:List Nat}{K:a7→ai→Prop}{m:Nat}{r:List iD}{o:Oper}(ho:ops[m]?=some o)(hc:todo.contains m=true)
  (k:cA P N b ops W K r todo ab vh):cA P N b ops W K (.ck m::r) todo ab vh:=by
 simp only[cA,ho];exact⟨.inl hc,k⟩
theorem cA.done {ops:Array Oper}{W todo:List Nat}{K:a7→ai→Prop}(hk:K ab vh):cA P N b ops W K [] todo ab vh:=hk
end
theorem Alt.zQ {vh:ai}{n2:Nat}{D:Nat→Bool}{ρ:Nat→Nat}(i j n n':Nat)(nl:Bool)(hn:n=n')(hj:j<n2)(hi:ρ j=i):Alt vh n2 D ρ (.grow i n nl) (.grow j n' nl):=hn▸.grow i j n nl hj hi
mutual
def PV.ids:PV→List Nat
 |.func _ xs ys=>PV.cF xs++PV.cF ys
 |.agg cs=>PV.cF cs
 |.bx cs=>PV.cF cs
 |.ptr i _|.own i _ _ _|.sub i _ _|.grow i _ _|.aW i|.bY i=>[i]
 |_=>[]
def PV.cF:List PV→List Nat
 |[]=>[]
 |v::r=>v.ids++PV.cF r
end
def gI:List Nat→ai→ai
 |[],vh=>vh
 |i::r,vh=>gI r (vh.drop i)
theorem Ag:∀(l:List Nat) (vh:ai),(gI l vh).next=vh.next
 |[],_=>rfl
 |i::r,vh=>Ag r (vh.drop i)
theorem uE:∀(l:List Nat) (vh:ai) (j:Nat) (y:aM),(gI l vh).get j=some y→j∉l∧vh.get j=some y
 |[],_,j,y,h=>⟨by simp,h⟩
 |i::r,vh,j,y,h=>by
  obtain⟨h1,h2⟩:=uE r (vh.drop i) j y h
  obtain⟨h3,h4⟩:=kK h2
  exact⟨by simp[h1,h3],h4⟩
mutual
theorem z4w (vh:ai)(D:Nat→Bool):∀(v v2:PV),(∀i∈v.ids,D i=true)→bI vh v=some v2→Alt vh 0 D id v v2
 |.func f xs ys,v2,hD,h=>by
  simp only[bI] at h
  simp only[PV.ids,List.mem_append] at hD
  split at h
  ·rename_i a c h1 h2
   injection h with h;subst h
   exact .dQ (Fe vh D xs a (fun i hi=>hD i (.inl hi)) h1) (Fe vh D ys c (fun i hi=>hD i (.inr hi)) h2)
  cases h
 |.agg cs,v2,hD,h=>by
  simp only[bI] at h
  simp only[PV.ids] at hD
  obtain⟨l,h1,rfl⟩:=dq h
  exact .lO (Fe vh D cs l hD h1)
 |.bx cs,v2,hD,h=>by
  simp only[bI] at h
  simp only[PV.ids] at hD
  obtain⟨l,h1,rfl⟩:=dq h
  exact .EY (Fe vh D cs l hD h1)
 |.ptr i off,v2,hD,h=>by
  have Ah:=hD i (by simp[PV.ids])
  simp only[bI] at h
  split at h
  ·rename_i cs hg
   cases hb:(PV.aF cs&&Nat.ble off cs.length) with
   |false=>rw[hb] at h;cases h
   |true=>
    rw[hb] at h;simp only[aO,ax] at h;subst h
    simp only[bS,Nat.ble_eq] at hb
    exact .E8 i off cs Ah hg hb.1 hb.2
  ·rename_i ag sz cs hg
   cases hb:Nat.ble off cs.length with
   |false=>rw[hb] at h;cases h
   |true=>
    rw[hb] at h;simp only[aO,ax] at h;subst h
    exact .za i off ag sz cs Ah hg (by simpa using hb)
  cases h
 |.own i off len k,v2,hD,h=>by
  have Ah:=hD i (by simp[PV.ids])
  simp only[bI] at h
  rcases kH len 0 with⟨hq,cm⟩|⟨hq,cm⟩
  ·rw[hq] at h;simp only[aO,ax] at h;subst h;subst cm;exact .y9 i off k
  rw[hq] at h;simp only[bz] at h
  split at h
  ·rename_i ag sz cs hg
   obtain⟨es,h1,rfl⟩:=dq h
   exact .iV i off len k ag sz cs es Ah hg h1
  cases h
 |.sub i off len,v2,hD,h=>by
  have Ah:=hD i (by simp[PV.ids])
  simp only[bI] at h
  rcases kH len 0 with⟨hq,cm⟩|⟨hq,cm⟩
  ·rw[hq] at h;simp only[aO,ax] at h;subst h;subst cm;exact .y8 i off
  rw[hq] at h;simp only[bz] at h
  split at h
  ·rename_i ag sz cs hg
   obtain⟨es,h1,rfl⟩:=dq h
   exact .tD i off len ag sz cs es Ah hg h1
  cases h
 |.grow i n nl,v2,hD,h=>by
  have Ah:=hD i (by simp[PV.ids])
  simp only[bI] at h
  split at h
  ·rename_i sz es hg
   rcases kH es.length n with⟨hq,cm⟩|⟨hq,cm⟩
   ·rw[hq] at h;simp only[aO,ax] at h;subst h;exact .bW i n nl sz es Ah hg cm
   rw[hq] at h;cases h
  rcases kH n 0 with⟨hq,cm⟩|⟨hq,cm⟩
  ·rw[hq] at h;simp only[aO,ax] at h;subst h;subst cm;exact .tW i nl
  rw[hq] at h;cases h
 |.iface t v,v2,hD,h=>by
  simp only[bI] at h
  cases hf:v.aG with
  |false=>rw[hf] at h;cases h
  |true=>rw[hf] at h;simp only[aO,ax] at h;subst h;exact .same _ (by simp only[PV.aG];exact hf)
 |.aW i,v2,hD,h=>by
  have Ah:=hD i (by simp[PV.ids])
  simp only[bI] at h
  split at h
  ·rename_i es hg
   injection h with h;subst h;exact .dS i es Ah hg
  cases h
 |.aC es,v2,hD,h=>by simp only[bI,ax] at h;subst h;exact .same _ rfl
 |.bY _,v2,hD,h=>by simp[bI] at h
 |.bool b,v2,hD,h=>by simp only[bI,ax] at h;subst h;exact .same _ rfl
 |.int k n,v2,hD,h=>by simp only[bI,ax] at h;subst h;exact .same _ rfl
 |.str s,v2,hD,h=>by simp only[bI,ax] at h;subst h;exact .same _ rfl
 |.nilFunc,v2,hD,h=>by simp only[bI,ax] at h;subst h;exact .same _ rfl
 |.nilIface,v2,hD,h=>by simp only[bI,ax] at h;subst h;exact .same _ rfl
 |.ft,v2,hD,h=>by simp only[bI,ax] at h;subst h;exact .same _ rfl
 |.aI,v2,hD,h=>by simp only[bI,ax] at h;subst h;exact .same _ rfl
 |.dF,v2,hD,h=>by simp only[bI,ax] at h;subst h;exact .same _ rfl
 |.e0,v2,hD,h=>by simp only[bI,ax] at h;subst h;exact .same _ rfl
 |.vec es,v2,hD,h=>by simp only[bI,ax] at h;subst h;exact .same _ rfl
 |.vp cs,v2,hD,h=>by simp only[bI,ax] at h;subst h;exact .same _ rfl
theorem Fe (vh:ai)(D:Nat→Bool):∀(l l2:List PV),(∀i∈PV.cF l,D i=true)→b6 vh l=some l2→aD vh 0 D id l l2
 |[],l2,hD,h=>by simp only[b6,ax] at h;subst h;exact .nil
 |v::r,l2,hD,h=>by
  simp only[b6] at h
  simp only[PV.cF,List.mem_append] at hD
  split at h
  ·rename_i a l h1 h2
   injection h with h;subst h
   exact .cons (z4w vh D v a (fun i hi=>hD i (.inl hi)) h1) (Fe vh D r l (fun i hi=>hD i (.inr hi)) h2)
  cases h
end
section
variable {P:Program} {N b:Nat} {ab:a7} {vh:ai}
theorem aN.Ln {f:FuncId}{args cD:List PV}{R:PV→Prop}(hp:aN P f cD R)(rz:b6 vh args=some cD):dP P f args vh fun v ao=>ao=gI (PV.cF args) vh∧R v:=fun lo g σ h aB ha s=>by
 have hA:=Fe vh (fun i=>(PV.cF args).contains i) args cD (fun i hi=>by simpa using hi) rz
 have yY:=aD.ok s hA ha
 have hF:PV.aF cD=true:=E9 vh args cD rz
 have hle:=vF (D:=fun i=>(PV.cF args).contains i) s
 have hS:VS lo (g.more σ vh h fun i=>(PV.cF args).contains i) σ (gI (PV.cF args) vh) h:=by
  refine⟨fun j y hy=>?_,fun j k y z hy hz=>s.inj j k y z (uE _ _ _ _ hy).2 (uE _ _ _ _ hz).2,fun j y hy=>s.low j y (uE _ _ _ _ hy).2,JR s,fun j y hy hl=>?_,s.bO⟩
  ·obtain⟨k1,k2⟩:=s.obj j y (uE _ _ _ _ hy).2
   rw[Ag]
   exact⟨k1,k2.mono hle (Nat.le_refl _) (fun _ _=>rfl) k1 fun _=>rfl⟩
  obtain⟨h1,h2⟩:=uE _ _ _ _ hy
  unfold Fz.more
  rw[if_neg]
  ·exact s.jU j y h2 hl
  rintro⟨i,z,k1,k2,k3,k4⟩
  have:=s.inj i j z y k2 h2 k3 hl k4
  subst this
  exact h1 (by simpa using k1)
 have JY:VF σ vh h σ (gI (PV.cF args) vh) h:=⟨Nat.le_refl _,fun _ _ _=>rfl,fun j y hy hl _=>⟨j,y,(uE _ _ _ _ hy).2,hl,rfl⟩⟩
 refine((hp.Fa (vh:=gI (PV.cF args) vh) hF) lo _ σ h aB (yY.aG hF).vr hS).mono fun r h' ⟨h0,g',aR,v,ao,h1,h2,h3,h4,h5,h6,h7,h8⟩=>?_
 rw[Ag] at h4 h6
 exact⟨g',aR,v,ao,h1,h2,Fz.le_trans hle h3,h4,JY.trans h5,h6,MH.trans JY h7,h8⟩
theorem lN.take {o:Oper}{next:a7→ai→Prop}{fo:Operand}{args:Array Operand}{aT:Array TypeId}{f:FuncId}{xs ys l cD:List PV}{R:PV→Prop}(ho:o.op=.call ⟨.value fo,args,aT⟩)
  (hf:cC ab fo=some (.func f xs ys)) (hl:iE ab args.toList=some l) (dM:∀cs w,(callFunc f cs).run P w=.ok (.enter f cs) w) (hd:iq N o.dst=true)
  (hz:b6 vh (xs++l++ys)=some cD) (hp:aN P f cD R) (hn:∀r,R r→next (bP ab o.dst r) (gI (PV.cF (xs++l++ys)) vh)):lN P N b o next ab vh:=
 .call ho hf hl dM hd ((hp.Ln hz).mono fun r ao ⟨h1,h2⟩=>h1▸hn r h2)
theorem aN.alt {f:FuncId}{args:List PV}{R R2:PV→Prop}(hp:aN P f args R)(ha:∀r,R r→∃r2,Alt ai.empty 0 (fun _=>true) id r r2∧r2.aG=true∧R2 r2):aN P f args R2:=fun lo g σ h aB hA s=>by
 refine(hp lo g σ h aB hA s).mono fun r h' ⟨g',aR,v,ao,h1,h2,h3,h4,h5,h6,h7,h8,h9⟩=>?_
 obtain⟨r2,k1,k2,k3⟩:=ha v h9
 have s0:VS lo g' aR ai.empty h':=.none h2.fz h2.bO aR
 have hv:VR g' aR ai.empty.next v r:=.fr _ _ (h1.aG h8)
 have k4:=(k1.ok s0 r hv).aG k2
 have JZ:g'.more aR ai.empty h' (fun _=>true)=g':=by
  funext o
  unfold Fz.more
  rw[if_neg]
  rintro⟨i,x,_,hx,_⟩
  cases hx
 rw[JZ] at k4
 exact⟨g',aR,r2,ao,.fr _ _ k4,h2,h3,h4,h5,h6,h7,k2,k3⟩
end
end Go.Am
end
