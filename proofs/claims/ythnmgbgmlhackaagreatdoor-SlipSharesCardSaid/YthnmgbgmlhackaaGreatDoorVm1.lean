/-
 What is used in the proof of a statement (part Vm1); no condition.
-/
import Derived.Test.YthnmgbgmlhackaaGreatDoorAm3
set_option linter.all false
set_option maxHeartbeats 40000000
set_option maxRecDepth 100000
section
namespace Go.Am
variable [bE]
section
variable {P:Program} {lo:Nat} {g:Fz} {σ:Sg} {vh:ah} {h:ae}
def kG (es:List PV):Bool:=es.all fun e=>e.cells.all PV.one
theorem Uc {es:List PV}(h:kG es=true):(es.flatMap PV.cells).all PV.one=true:=by
 unfold kG at h
 rw[List.all_eq_true] at h ⊢
 intro v hv
 rw[List.mem_flatMap] at hv
 obtain⟨e,he,hv⟩:=hv
 exact(List.all_eq_true.1 (h e he)) v hv
theorem Ud (s:VS lo g σ vh h){n:Nat}(hn:0<n){xs:List PV}{bk:List Value}(nl:Bool)(hl:∀e∈xs,e.cells.length=n)(hx:bc (FR g) (xs.flatMap PV.cells) bk)(aU:xs.length<ar){v0:Value}(h0:v0=.slice none 0 0∨nl=false∧∃o off,v0=.slice (some ⟨o,off,none⟩) 0 0) :
  if xs.length=0 then iH lo g σ vh h (.grow vh.next xs.length nl) (vh.alloc (.grow n xs)) v0 h
  else iH lo g σ vh h (.grow vh.next xs.length nl) (vh.alloc (.grow n xs)) (.slice (some ⟨h.next,0,none⟩) xs.length ar) (h.alloc (.cells n bk)):=by
 have cp:∀p i,i<vh.next→(σ.put vh.next p) i=σ i:=fun p i hi=>Sg.xg _ _ (by omega)
 split
 ·rename_i he
  have he:=List.eq_nil_of_length_eq_zero he
  subst he
  have h1:=s.PD (x:=.grow n []) (0,0,0) ⟨hn,by simp,by decide,.inl rfl⟩ (fun hl=>by cases hl)
  refine⟨_,?_,h1,⟨Nat.le_refl _,fun _ _ _=>rfl,fun i x hx hl _=>?_⟩,Nat.le_succ _,cp _⟩
  ·rcases h0 with rfl|⟨rfl,o,off,rfl⟩
   ·exact .bW _ _
   exact .bX _ _ _
  rw[ah.gX] at hx
  by_cases hi:i=vh.next
  ·simp[hi] at hx;subst hx;cases hl
  simp[hi] at hx;rw[cp _ i (s.obj i x hx).1];exact⟨i,x,hx,hl,rfl⟩
 rename_i he
 obtain⟨h1,h2⟩:=s.alloc (x:=.grow n xs) (.cells n bk) ar ⟨hn,hl,aU,.inr ⟨n,bk,by rw[Sg.ct,ae.gX,if_pos rfl],by rw[Sg.ct],hx,.inl ⟨by rw[Sg.ct],rfl⟩⟩⟩
 exact⟨_,.grow vh.next xs.length h.next 0 ar nl (Nat.lt_succ_self _) (Sg.ct _ _ _) (by omega),h1,h2,Nat.le_succ _,cp _⟩
theorem iH.after {b6 aQ:ah}{h1 h2:ae}{v:PV}{v':Value}(hf:VF σ vh h σ b6 h1)(hn:b6.next=vh.next)(hk:iH lo g σ b6 h1 v aQ v' h2):iH lo g σ vh h v aQ v' h2:=by
 obtain⟨aL,k1,k2,k3,k4,k5⟩:=hk
 exact⟨aL,k1,k2,hf.trans k3,hn▸k4,fun i hi=>k5 i (hn▸hi)⟩
theorem Ue (s:VS lo g σ vh h){n:Nat}(hn:0<n){i l o k s0:Nat}{x:aI}{es xs:List PV}{ao bk:List Value}(nl:Bool)(hg:vh.get i=some x)(jD:x.live=true)(hi:i<vh.next)(hs:σ i=(o,0,k)∨(σ i).1=o)(hl:∀e∈es,e.cells.length=n)(js:∀e∈xs,e.cells.length=n)
  (ho:h.get o=some (.cells s0 ao)) (hc:bc (FR g) (es.flatMap PV.cells) ao) (hx:bc (FR g) (xs.flatMap PV.cells) bk) (oY:es.length=l) (kN:0<l) (aU:l+xs.length≤17592186044416) (hk:k=ar∧s0=n∨k=l) :
  (xs.length=0→iH lo g σ vh h (.grow vh.next (l+xs.length) nl) ((vh.drop i).alloc (.grow n (es++xs))) (.slice (some ⟨o,0,none⟩) l k) h)∧
  (0<xs.length→iH lo g σ vh h (.grow vh.next (l+xs.length) nl) ((vh.drop i).alloc (.grow n (es++xs))) (.slice (some ⟨h.next,0,none⟩) (l+xs.length) ar) (h.alloc (.cells n (ao++bk))))∧
  (0<xs.length→iH lo g σ vh h (.grow vh.next (l+xs.length) nl) ((vh.drop i).alloc (.grow n (es++xs))) (.slice (some ⟨h.next,0,none⟩) (l+xs.length) ar) ((h.put o none).alloc (.cells n (ao++bk)))):=by
 have ib:(σ i).1=o:=by rcases hs with h|h;rw[h];exact h
 have cp:∀p i,i<vh.next→(σ.put vh.next p) i=σ i:=fun p i hi=>Sg.xg _ _ (by omega)
 have di:(17592186044416:Nat)<ar:=by decide
 have fa:∀e∈es++xs,e.cells.length=n:=fun e he=>(List.mem_append.1 he).elim (hl e) (js e)
 have GX:bc (FR g) ((es++xs).flatMap PV.cells) (ao++bk):=by rw[List.flatMap_append];exact hc.append hx
 have hlen:(es++xs).length=l+xs.length:=by simp[oY]
 refine⟨fun h0=>?_,fun h0=>?_,fun h0=>?_⟩
 ·have uM:=List.eq_nil_of_length_eq_zero h0
  subst uM
  obtain⟨s1,f1⟩:=s.sub (aQ:=vh.drop i) rfl fun j y hy=>(gH hy).2
  have n4:rN g (σ.put vh.next (o,0,k)) (vh.next+1) h vh.next (.grow n (es++[])):=⟨hn,fa,by simp;omega,.inr ⟨s0,ao,by rw[Sg.ct];exact ho,by rw[Sg.ct],by simpa using hc,by rw[Sg.ct];rcases hk with h|h;exact .inl h;exact .inr (by simp[h,oY])⟩⟩
  have h1:VS lo g (σ.put vh.next (o,0,k)) ((vh.drop i).alloc (.grow n (es++[]))) h:=s1.PD (x:=.grow n (es++[])) (o,0,k) n4
   (fun _=>⟨ib▸s.low i x hg jD,ib▸s.iG i x hg jD,fun j y hy fg he=>by
    obtain⟨g1,g2⟩:=gH hy
    exact g1 (s.inj j i y x g2 hg fg jD (he.trans ib.symm))⟩)
  refine⟨σ.put vh.next (o,0,k),?_,h1,⟨Nat.le_refl _,fun _ _ _=>rfl,fun j y hy fg mI=>?_⟩,Nat.le_succ _,cp _⟩
  ·have:=VR.grow (g:=g) (σ:=σ.put vh.next (o,0,k)) (n:=((vh.drop i).alloc (.grow n (es++[]))).next) vh.next l o 0 k nl (Nat.lt_succ_self _) (Sg.ct _ _ _) kN
   simpa using this
  rw[ah.gX,show (vh.drop i).next=vh.next from rfl] at hy
  by_cases hj:j=vh.next
  ·subst hj;rw[Sg.ct];exact⟨i,x,hg,jD,ib⟩
  rw[if_neg hj] at hy
  obtain⟨_,hy⟩:=gH hy
  rw[cp _ j (s.obj j y hy).1];exact⟨j,y,hy,fg,rfl⟩
 ·obtain⟨s1,f1⟩:=s.sub (aQ:=vh.drop i) rfl fun j y hy=>(gH hy).2
  have n4:rN g (σ.put vh.next (h.next,0,ar)) (vh.next+1) (h.alloc (.cells n (ao++bk))) vh.next (.grow n (es++xs)):=⟨hn,fa,by omega,.inr ⟨n,ao++bk,by rw[Sg.ct,ae.gX,if_pos rfl],by rw[Sg.ct],GX,.inl ⟨by rw[Sg.ct],rfl⟩⟩⟩
  obtain⟨h1,h2⟩:=s1.alloc (x:=.grow n (es++xs)) (.cells n (ao++bk)) ar n4
  exact⟨_,.grow vh.next (l+xs.length) h.next 0 ar nl (Nat.lt_succ_self _) (Sg.ct _ _ _) (by omega),h1,f1.trans h2,Nat.le_succ _,cp _⟩
 obtain⟨s1,f1⟩:=s.kill hg jD
 rw[ib] at s1 f1
 have n4:rN g (σ.put vh.next (h.next,0,ar)) (vh.next+1) ((h.put o none).alloc (.cells n (ao++bk))) vh.next (.grow n (es++xs)):=⟨hn,fa,by omega,.inr ⟨n,ao++bk,by rw[Sg.ct,ae.gX];exact if_pos rfl,by rw[Sg.ct],GX,.inl ⟨by rw[Sg.ct],rfl⟩⟩⟩
 obtain⟨h1,h2⟩:=s1.alloc (x:=.grow n (es++xs)) (.cells n (ao++bk)) ar n4
 exact⟨_,.grow vh.next (l+xs.length) h.next 0 ar nl (Nat.lt_succ_self _) (Sg.ct _ _ _) (by omega),h1,f1.trans h2,Nat.le_succ _,cp _⟩
def nU (bytes m:Nat):Bool:=Nat.ble m 4294967296||(Nat.ble m 17592186044320&&Nat.ble bytes 8)
theorem NF (b m:Nat):nU b m=(decide (m≤4294967296)||(decide (m≤17592186044320)&&decide (b≤8))):=by unfold nU;rw[Bool.eq_iff_iff];simp
theorem Jb {b m:Nat}(h:nU b m=true):m≤17592186044416:=by
 rw[NF] at h
 simp at h
 omega
theorem z4d {b m:Nat}(h:nU b m=true)(hb:b≤4096):(Nat.ble m 17592186044416&&Nat.ble ((2*m+192)*b) 281474976710656)=true:=by
 rw[NF] at h
 simp at h
 simp only[bR,Nat.ble_eq]
 refine⟨by omega,?_⟩
 rcases h with h|⟨h,h2⟩
 ·have:(2*m+192)*b≤(2*4294967296+192)*4096:=Nat.mul_le_mul (by omega) hb
  omega
 have:(2*m+192)*b≤(2*17592186044320+192)*8:=Nat.mul_le_mul (by omega) h2
 omega
def qF (P:Program)(vh:ah)(sT xT:TypeId)(s x:PV):Option (PV×ah):=
 match fS P sT,fS P xT with
 |some (e,n),some _=>
  match eB P e,(P.info? e).map (·.bytes),jw vh n x with
  |some z,some bytes,some xs=>
   bif !(Nat.beq z.length n&&Nat.blt 0 n&&Nat.ble bytes 4096&&kG xs) then none else
   match s with
   |.aF=>bif nU bytes xs.length then some (.grow vh.next xs.length true,vh.alloc (.grow n xs)) else none
   |.e0=>bif nU bytes xs.length then some (.grow vh.next xs.length false,vh.alloc (.grow n xs)) else none
   |.own i off l k=>
    bif Nat.beq k 0 then (bif nU bytes xs.length then some (.grow vh.next xs.length false,vh.alloc (.grow n xs)) else none) else
    bif !(Nat.beq off 0&&Nat.beq l k&&nU bytes (l+xs.length)) then none else
    match vh.get i with
    | some (.arr ag sz cs) => bif Nat.beq cs.length (l * n) then
      match jw vh n (.own i off l k) with
      |some es=>some (.grow vh.next (l+xs.length) false,(vh.drop i).alloc (.grow n (es++xs)))
      |none=>none
     else bif Nat.beq xs.length 0 then some (.own i off l k,vh) else
      match jw vh n (.own i off l k) with
      |some es=>some (.grow vh.next (l+xs.length) false,vh.alloc (.grow n (es++xs)))
      |none=>none
    |_=>none
   |.grow i l nl=>
    match vh.get i with
    |some (.grow sz es)=>bif Nat.beq sz n&&Nat.beq es.length l&&nU bytes (l+xs.length) then some (.grow vh.next (l+xs.length) nl,(vh.drop i).alloc (.grow n (es++xs))) else none
    |_=>bif Nat.beq l 0&&nU bytes xs.length then some (.grow vh.next xs.length nl,(vh.drop i).alloc (.grow n xs)) else none
   |_=>none
  |_,_,_=>none
 |_,_=>none
theorem zuu (s:VS lo g σ vh h){sT xT:TypeId}{a x v:PV}{a' x':Value}{ak:ah}(ha:VR g σ vh.next a a')(hx:VR g σ vh.next x x')(hv:qF P vh sT xT a x=some (v,ak)) :
  ∃v' h',oG P lo h sT xT a' x'=some (v',h')∧iH lo g σ vh h v ak v' h':=by
 unfold qF at hv
 split at hv
 ·rename_i e n ex th wL
  split at hv
  ·rename_i z bytes xs hz nC nX
   obtain⟨z',h1,h2⟩:=xh (g:=g) hz
   cases hb:(Nat.beq z.length n&&Nat.blt 0 n&&Nat.ble bytes 4096&&kG xs) with
   |false=>rw[hb] at hv;cases hv
   |true=>
   rw[hb] at hv
   simp only[Bool.not_true,bl] at hv
   simp only[bR,Nat.blt_eq,Nat.ble_eq] at hb
   obtain⟨⟨⟨gG,cK⟩,oa⟩,BJ⟩:=hb
   obtain⟨ef,ep,qg⟩:=Dq s cK hx nX
   obtain⟨bk,eH,Ea⟩:=qg xs.length (Nat.le_refl _)
   rw[List.take_length] at Ea
   have cN:(Nat.beq z'.length n&&Nat.blt 0 n&&bk.all (·.oneCell'))=true:=by
    simp only[bR,Nat.blt_eq]
    exact⟨⟨by rw[← h2.1];exact gG,cK⟩,(Ea.vr (σ:=σ) (n:=0)).vd (Uc BJ)⟩
   have lh:∀m,nU bytes m=true→(Nat.ble m 17592186044416&&Nat.ble ((2*m+192)*bytes) 281474976710656)=true:=fun m hm=>z4d hm oa
   have di:(17592186044416:Nat)<ar:=by decide
   have hiu:Nat.blt ar dC=true:=by decide
   have R1:Nat.blt ar ar=false:=by decide
   have zero:∀ {a':Value} (nl:Bool) {b6:ah} {v0:PV},VS lo g σ b6 h→VF σ vh h σ b6 h→b6.next=vh.next→(a'=.slice none 0 0∨nl=false∧∃o off,a'=.slice (some ⟨o,off,none⟩) 0 0)→nU bytes xs.length=true→
     ∃v' h',oG P lo h sT xT a' x'=some (v',h')∧iH lo g σ vh h (.grow vh.next xs.length nl) (b6.alloc (.grow n xs)) v' h':=fun {a'} nl {b6 v0} s1 f1 jy h0 hle=>by
    have hk:=Ud s1 cK nl ep Ea (by have:=Jb hle;omega) h0
    rw[← jy]
    by_cases j9:xs.length=0
    ·rw[if_pos j9] at hk
     refine⟨a',h,?_,.after f1 jy hk⟩
     have lW:Nat.beq xs.length 0=true:=by rw[j9];rfl
     rcases h0 with rfl|⟨_,o,off,rfl⟩
     ·simp only[oG,th,wL,ef,h1,nC,eH,cN,Bool.not_true,bl,lW,aJ]
     simp only[oG,th,wL,ef,h1,nC,eH,cN,Bool.not_true,bl,lW,aJ]
    rw[if_neg j9] at hk
    refine⟨_,_,?_,.after f1 jy hk⟩
    have lW:Nat.beq xs.length 0=false:=by rw[beq_eq];simpa using j9
    rcases h0 with rfl|⟨_,o,off,rfl⟩
    ·simp only[oG,th,wL,ef,h1,nC,eH,cN,Bool.not_true,bl,lW,lh _ hle,aJ]
    have e1:Nat.blt 0 ar=true:=by decide
    have e2:Nat.ble xs.length 0=false:=by rw[← Bool.not_eq_true,Nat.ble_eq];omega
    have e3:nW h n (.slice (some ⟨o,off,none⟩) 0 0) 0=some []:=by simp[nW]
    simp only[oG,th,wL,ef,h1,nC,eH,cN,Bool.not_true,bl,lW,e1,e2,e3,lh _ hle,aJ,List.nil_append,Nat.zero_add]
   split at hv
   · -- nil
    cases hc:nU bytes xs.length with
    |false=>rw[hc] at hv;cases hv
    |true=>
     rw[hc] at hv;simp only[aJ,ax,bI] at hv
     obtain⟨rfl,rfl⟩:=hv
     have:=ha.aB rfl;cases this
     exact zero true (v0:=.aF) s (VF.refl _ _ _) rfl (.inl rfl) (by simpa using hc)
   ·cases hc:nU bytes xs.length with
    |false=>rw[hc] at hv;cases hv
    |true=>
     rw[hc] at hv;simp only[aJ,ax,bI] at hv
     obtain⟨rfl,rfl⟩:=hv
     have:=ha.aB rfl
     cases this with
     |tS=>exact zero false (v0:=.aF) s (VF.refl _ _ _) rfl (.inl rfl) (by simpa using hc)
     |e0 o off=>exact zero false (v0:=.aF) s (VF.refl _ _ _) rfl (.inr ⟨rfl,o,off,rfl⟩) (by simpa using hc)
   ·rename_i i off l k
    cases sA:Nat.beq k 0 with
    |true=>
     rw[sA] at hv;simp only[aJ] at hv
     have sA:k=0:=by simpa using sA
     subst sA
     cases hc:nU bytes xs.length with
     |false=>rw[hc] at hv;cases hv
     |true=>
      rw[hc] at hv;simp only[aJ,ax,bI] at hv
      obtain⟨rfl,rfl⟩:=hv
      cases ha with
      |fr _ _ h=>cases h
      |own _ _ _ _ o a kk hi hs hl hk=>
       have:l=0:=by omega
       subst this
       exact zero false (v0:=.aF) s (VF.refl _ _ _) rfl (.inr ⟨rfl,_,_,rfl⟩) (by simpa using hc)
    |false=>
     rw[sA] at hv;simp only[bl] at hv
     cases hc:(Nat.beq off 0&&Nat.beq l k&&nU bytes (l+xs.length)) with
     |false=>rw[hc] at hv;cases hv
     |true=>
      rw[hc] at hv;simp only[Bool.not_true,bl] at hv
      simp only[bR,Nat.ble_eq,beq_eq,decide_eq_true_eq] at hc
      obtain⟨⟨gQ,fT⟩,hP⟩:=hc
      subst gQ;subst fT
      have sA:0<l:=by rw[beq_eq] at sA;simp at sA;omega
      split at hv
      ·rename_i ag sz cs tV
       cases CB:Nat.beq cs.length (l*n) with
       |false=>
        rw[CB] at hv;simp only[bl] at hv
        cases j9:Nat.beq xs.length 0 with
        |true=>
         rw[j9] at hv;simp only[aJ,ax,bI] at hv
         obtain⟨rfl,rfl⟩:=hv
         have hav:=ha
         cases ha with
         |fr _ _ h=>cases h
         |own _ _ _ _ o a kk hi hs hl hk=>
          exact⟨_,h,by simp only[oG,th,wL,ef,h1,nC,eH,cN,Bool.not_true,bl,j9,aJ],_,hav,s,VF.refl _ _ _,Nat.le_refl _,fun _ _=>rfl⟩
        |false=>
         rw[j9] at hv;simp only[bl] at hv
         split at hv
         ·rename_i es oY
          simp only[ax,bI] at hv
          obtain⟨rfl,rfl⟩:=hv
          obtain⟨iz,tz,CC⟩:=Dq s cK ha oY
          obtain⟨gC,g1,g2⟩:=CC es.length (Nat.le_refl _)
          rw[List.take_length] at g2
          cases ha with
          |fr _ _ h=>cases h
          |own _ _ _ _ o a kk hi hs hl hk=>
           simp only[jB,ax] at iz
           rw[← iz] at g1
           have hxp:0<xs.length:=by rw[beq_eq] at j9;simp at j9;exact List.length_pos_iff.2 j9
           have e1:Nat.blt l ar=true:=by rw[Nat.blt_eq];omega
           have e2:Nat.ble (l+xs.length) l=false:=by rw[← Bool.not_eq_true,Nat.ble_eq];omega
           have fa:(es++xs).length=l+xs.length:=by rw[List.length_append,iz]
           have lY:=Ud s cK (xs:=es++xs) (bk:=gC++bk) false (fun e he=>by
            rcases List.mem_append.1 he with h|h
            ·exact tz e h
            exact ep e h) (by rw[List.flatMap_append];exact g2.append Ea) (by rw[fa];have:=Jb hP;omega) (.inl rfl)
           rw[if_neg (by rw[fa];omega),fa] at lY
           exact⟨_,_,by simp only[oG,th,wL,ef,h1,nC,eH,cN,Bool.not_true,bl,j9,e1,e2,g1,lh _ hP,aJ],lY⟩
         cases hv
       |true=>
        rw[CB] at hv;simp only[aJ] at hv
        split at hv
        ·rename_i es oY
         simp only[ax,bI] at hv
         obtain⟨rfl,rfl⟩:=hv
         obtain⟨iz,tz,CC⟩:=Dq s cK ha oY
         obtain⟨h0,s0,ao,k1,k2,k3⟩:=(s.obj i _ tV).2
         cases ha with
         |fr _ _ h=>cases h
         |own _ _ _ _ o a kk hi hs hl hk=>
          rw[hs] at k1 k2;simp only at k1 k2;subst k2
          simp only[jB,ax] at iz
          obtain⟨gC,g1,g2⟩:=CC es.length (Nat.le_refl _)
          rw[List.take_length] at g2
          have lW:Nat.beq es.length 0=false:=by rw[← iz,beq_eq];simp;omega
          have GY:ao.length=l*n:=by rw[← k3.1];simpa using CB
          have holds:gC=ao:=by
           have CD:Nat.ble (0+0+es.length*n) ao.length=true:=by rw[Nat.ble_eq,GY,iz];omega
           simp only[nW,lW,bl,k1,CD,aJ,ax] at g1
           rw[← g1,← iz,← GY];simp
          subst holds
          have lY:=Ue s cK (σ:=σ) false tV rfl hi (.inr (by rw[hs])) tz ep k1 g2 Ea iz.symm sA (Jb hP) (.inr rfl)
          by_cases j9:xs.length=0
          ·have cj:Nat.beq xs.length 0=true:=by rw[j9];rfl
           exact⟨.slice (some ⟨o,0,none⟩) l l,h,by simp only[oG,th,wL,ef,h1,nC,eH,cN,Bool.not_true,bl,cj,aJ,Nat.zero_add],lY.1 j9⟩
          have cj:Nat.beq xs.length 0=false:=by rw[beq_eq];simpa using j9
          have e1:Nat.blt l ar=true:=by rw[Nat.blt_eq];omega
          have e2:Nat.ble (l+xs.length) l=false:=by rw[← Bool.not_eq_true,Nat.ble_eq];omega
          rw[← iz] at g1
          exact⟨_,_,by simp only[oG,th,wL,ef,h1,nC,eH,cN,Bool.not_true,bl,cj,e1,e2,g1,lh _ hP,aJ],lY.2.1 (by omega)⟩
        cases hv
      cases hv
   ·rename_i i l nl
    have AI:l=0→nU bytes xs.length=true→∃v' h',oG P lo h sT xT a' x'=some (v',h')∧iH lo g σ vh h (.grow vh.next xs.length nl) ((vh.drop i).alloc (.grow n xs)) v' h':=fun kN hle=>by
     subst kN
     obtain⟨s1,f1⟩:=s.sub (aQ:=vh.drop i) rfl fun j y hy=>(gH hy).2
     cases ha with
     |fr _ _ h=>cases h
     |bW=>exact zero nl (v0:=.aF) s1 f1 rfl (.inl rfl) hle
     |bX _ o off=>exact zero false (v0:=.aF) s1 f1 rfl (.inr ⟨rfl,o,off,rfl⟩) hle
     |grow _ _ _ _ _ _ _ _ hn=>omega
    split at hv
    ·rename_i sz es tV
     cases hc:(Nat.beq sz n&&Nat.beq es.length l&&nU bytes (l+xs.length)) with
     |false=>rw[hc] at hv;cases hv
     |true=>
      rw[hc] at hv;simp only[aJ,ax,bI] at hv
      obtain⟨rfl,rfl⟩:=hv
      simp only[bR,Nat.ble_eq,beq_eq,decide_eq_true_eq] at hc
      obtain⟨⟨gQ,fT⟩,hP⟩:=hc
      subst gQ
      by_cases kN:l=0
      ·have oY:=List.eq_nil_of_length_eq_zero (fT.trans kN)
       subst oY
       have:=AI kN (by rw[kN,Nat.zero_add] at hP;exact hP)
       subst kN
       simpa using this
      have kN:0<l:=by omega
      obtain⟨h0,tz,KI,kF⟩:=(s.obj i _ tV).2
      rcases kF with rfl|⟨s0,ao,k1,k2,k3,k4⟩
      ·simp at fT;omega
      have fm:(aI.grow sz es).live=true:=by
       cases es with
       |nil=>simp at fT;omega
       |cons=>rfl
      cases ha with
      |fr _ _ h=>cases h
      |bW=>omega
      |bX=>omega
      |grow _ _ o a k _ hi hs hm=>
       have bC:=s.low i _ tV fm
       rw[hs] at k1 k2 k4 bC;simp only at k1 k2 k4 bC;subst k2
       have Ib:k=ar∧s0=sz∨k=l:=by rcases k4 with h|h;exact .inl h;exact .inr (h.trans fT)
       have lY:=Ue s cK (σ:=σ) nl tV fm hi (.inr (by rw[hs])) tz ep k1 k3 Ea fT kN (Jb hP) Ib
       have oA:ao.length=l*sz:=by rw[← k3.1,Ae tz,fT]
       by_cases j9:xs.length=0
       ·have cj:Nat.beq xs.length 0=true:=by rw[j9];rfl
        exact⟨_,_,by simp only[oG,th,wL,ef,h1,nC,eH,cN,Bool.not_true,bl,cj,aJ],lY.1 j9⟩
       have cj:Nat.beq xs.length 0=false:=by rw[beq_eq];simpa using j9
       rcases Ib with⟨rfl,rfl⟩|rfl
       ·have hmul:l*s0<(l+xs.length)*s0:=Nat.mul_lt_mul_of_pos_right (by omega) cK
        have e1:(Nat.ble lo o&&Nat.beq 0 ((ar - ar)*s0)&&Nat.beq s0 s0&&Nat.ble (l+xs.length) 17592186044416&&Nat.ble ((2*(l+xs.length)+192)*bytes) 281474976710656)=true:=by
         have:=lh _ hP
         simp only[bR] at this ⊢
         refine⟨⟨⟨⟨by simpa using bC,?_⟩,Nat.beq_refl _⟩,this.1⟩,this.2⟩
         rw[Nat.sub_self,Nat.zero_mul];rfl
        have e2:Nat.ble (0+(l+xs.length)*s0) ao.length=false:=by rw[← Bool.not_eq_true,Nat.ble_eq];omega
        have e3:Nat.ble (0+l*s0) ao.length=true:=by rw[Nat.ble_eq];omega
        have e4:(ao.drop 0).take (l*s0)=ao:=by rw[List.drop_zero,← oA,List.take_length]
        exact⟨_,_,by simp only[oG,th,wL,ef,h1,nC,eH,cN,Bool.not_true,bl,cj,R1,hiu,k1,e1,e2,e3,e4,aJ],lY.2.2 (by omega)⟩
       have e1:Nat.blt k ar=true:=by rw[Nat.blt_eq];omega
       have e2:Nat.ble (k+xs.length) k=false:=by rw[← Bool.not_eq_true,Nat.ble_eq];omega
       have gu:Nat.beq k 0=false:=by rw[beq_eq];simp;omega
       have CD:Nat.ble (0+k*sz) ao.length=true:=by rw[Nat.ble_eq];omega
       have e3:nW h sz (.slice (some ⟨o,0,none⟩) k k) k=some ao:=by
        simp only[nW,gu,bl,k1,CD,aJ]
        rw[List.drop_zero,← oA,List.take_length]
       exact⟨_,_,by simp only[oG,th,wL,ef,h1,nC,eH,cN,Bool.not_true,bl,cj,e1,e2,e3,lh _ hP,aJ],lY.2.1 (by omega)⟩
    cases cK:(Nat.beq l 0&&nU bytes xs.length) with
    |false=>rw[cK] at hv;cases hv
    |true=>
     rw[cK] at hv;simp only[aJ,ax,bI] at hv
     obtain⟨rfl,rfl⟩:=hv
     simp only[bR,Nat.ble_eq,beq_eq,decide_eq_true_eq] at cK
     exact AI cK.1 cK.2
   cases hv
  cases hv
 cases hv
end
attribute [simp] NF
section
variable {P:Program} {lo:Nat} {g:Fz} {σ:Sg} {vh:ah} {h:ae}
theorem VS.ct (s:VS lo g σ vh h){i:Nat}{x:aI}(hx:vh.get i=some x):VS lo g σ (vh.put i x) h∧VF σ vh h σ (vh.put i x) h:=
 s.sub rfl fun j y hy=>by
  rcases BH hx hy with⟨rfl,rfl⟩|⟨_,hy⟩
  ·exact hx
  exact hy
def cW (P:Program)(vh:ah)(dT:TypeId)(d x:PV):Option (PV×ah):=
 match fS P dT,d with
 |some (_,n),.own i off len _=>
  match jw vh n x,vh.get i with
  |some xs,some (.arr ag sz cs)=>
   bif Nat.blt 0 n&&Nat.ble (off+(xs.take len).length*n) cs.length&&kG xs then
    some (.int .i64 (Nat.min xs.length len),vh.put i (.arr ag sz (jP cs off ((xs.take len).flatMap PV.cells))))
   else none
  |_,_=>none
 |_,_=>none
theorem zq3 {es:List PV}(h:kG es=true)(n:Nat):kG (es.take n)=true:=by
 unfold kG at h ⊢
 rw[List.all_eq_true] at h ⊢
 exact fun e he=>h e (List.mem_of_mem_take he)
theorem z1s (s:VS lo g σ vh h){dT:TypeId}{d x v:PV}{d' x':Value}{ak:ah}(hd:VR g σ vh.next d d')(hx:VR g σ vh.next x x')(hv:cW P vh dT d x=some (v,ak)) :
  ∃v' h',Da P lo h dT d' x'=some (v',h')∧iH lo g σ vh h v ak v' h':=by
 unfold cW at hv
 split at hv
 ·rename_i e n i off len k ht
  split at hv
  ·rename_i xs ag sz cs nX hg
   cases hb:(Nat.blt 0 n&&Nat.ble (off+(xs.take len).length*n) cs.length&&kG xs) with
   |false=>rw[hb] at hv;cases hv
   |true=>
    rw[hb] at hv;simp only[aJ,ax,bI] at hv
    obtain⟨rfl,rfl⟩:=hv
    simp only[bR,Nat.blt_eq,Nat.ble_eq] at hb
    obtain⟨⟨gG,cK⟩,oa⟩:=hb
    obtain⟨ef,ep,hsr⟩:=Dq s gG hx nX
    obtain⟨bk,g1,g2⟩:=hsr (Nat.min xs.length len) (Nat.min_le_left _ _)
    have xJ:xs.take (Nat.min xs.length len)=xs.take len:=by
     rcases Nat.le_total xs.length len with hle|hle
     ·rw[show Nat.min xs.length len=xs.length from Nat.min_eq_left hle,List.take_length,List.take_of_length_le hle]
     rw[show Nat.min xs.length len=len from Nat.min_eq_right hle]
    rw[xJ] at g2
    obtain⟨h0,s0,ao,k1,k2,k3⟩:=(s.obj i _ hg).2
    cases hd with
    |fr _ _ h=>cases h
    |own _ _ _ _ o a kk hi hs hl hk=>
     have bC:=s.low i _ hg rfl
     rw[hs] at k1 k2 bC;simp only at k1 k2 bC;subst k2
     rw[Nat.zero_add]
     have zK:jB (.slice (some ⟨o,off,none⟩) len k)=some len:=rfl
     rcases jM (Nat.min xs.length len) 0 with⟨hq,bZ⟩|⟨hq,bZ⟩
     ·have s9:xs.take len=[]:=by
       rw[← xJ,bZ];rfl
      have h1:jP cs off ((xs.take len).flatMap PV.cells)=cs:=by rw[s9];simp[jP]
      rw[h1]
      obtain⟨s1,f1⟩:=s.ct hg
      refine⟨kO 0,h,by simp only[Da,ht,zK,ef,g1,hq,aJ],σ,?_,s1,f1,Nat.le_refl _,fun _ _=>rfl⟩
      rw[bZ];exact .fr _ _ (.int _ _)
     have h4:=s.write hg rfl (x':=.arr ag sz (jP cs off ((xs.take len).flatMap PV.cells))) (.cells s0 (e9 ao off bk)) ⟨h0,s0,_,by rw[ae.dB _ _ _ _ (by rw[hs];exact ae.fC k1),if_pos rfl],by rw[hs],k3.e9 off g2⟩
     rw[hs] at h4;simp only at h4
     have wX:bk.length=(xs.take len).length*n:=by rw[← g2.1,Ae fun e he=>ep e (List.mem_of_mem_take he)]
     have cN:(Nat.ble lo o&&Nat.ble (off+bk.length) ao.length&&bk.all (·.oneCell'))=true:=by
      simp only[bR,Nat.ble_eq]
      exact⟨⟨bC,by rw[wX,← k3.1];omega⟩,(g2.vr (σ:=σ) (n:=0)).vd (Uc (zq3 oa len))⟩
     exact⟨kO (Nat.min xs.length len),_,by simp only[Da,ht,zK,ef,g1,hq,bl,k1,cN,aJ],σ,.fr _ _ (.int _ _),h4.1,h4.2,Nat.le_refl _,fun _ _=>rfl⟩
  cases hv
 cases hv
def xQ (kd:IntKind)(n:Int):List (PV×PV)→Option (Option PV)
 |[]=>some none
 |(.int k a,v)::r=>
  bif decide (k=kd) then
   match xQ kd n r with
   |none=>none
   |some q=>some (bif decide (a=n) then some v else q)
  else none
 |_=>none
def zu (R:PV→Value→Prop):Option PV→Option Value→Prop
 |none,none=>True
 |some v,some v'=>R v v'
 |_,_=>False
theorem Eb {kd:IntKind}{n:Int}:∀ {es:List (PV×PV)} {bf:List (Value×Value)} {r:Option PV},bc (FR g) (es.map (·.1)) (bf.map (·.1))→bc (FR g) (es.map (·.2)) (bf.map (·.2))→xQ kd n es=some r→
  ∃r',uO kd n bf=some r'∧zu (FR g) r r'
 |[],bf,r,hk,hv,hr=>by
  simp only[xQ,ax] at hr;subst hr
  cases bf with
  |nil=>exact⟨none,rfl,trivial⟩
  |cons=>have:=hk.1;simp at this
 |(k,v)::es,bf,r,hk,hv,hr=>by
  cases bf with
  |nil=>have:=hk.1;simp at this
  |cons q bf=>
   obtain⟨k',v'⟩:=q
   obtain⟨k1,l1,e1,j4,iT⟩:=hk.dt
   simp only[List.map_cons,List.cons.injEq] at e1;obtain⟨rfl,rfl⟩:=e1
   obtain⟨k1,l1,e1,iK,eI⟩:=hv.dt
   simp only[List.map_cons,List.cons.injEq] at e1;obtain⟨rfl,rfl⟩:=e1
   cases k with
   |int kk a=>
    cases j4
    simp only[xQ] at hr
    simp only[uO]
    cases lY:decide (kk=kd) with
    |false=>rw[lY] at hr;cases hr
    |true=>
     rw[lY] at hr;simp only[aJ] at hr ⊢
     split at hr
     ·cases hr
     rename_i q hq
     injection hr with hr;subst hr
     obtain⟨r',g1,g2⟩:=Eb iT eI hq
     refine⟨_,by rw[g1],?_⟩
     cases decide (a=n) with
     |true=>exact iK
     |false=>exact g2
   |_=>simp[xQ] at hr
def oZ (vh:ah)(kd:IntKind)(n:Int)(m:PV):Option (Option PV):=
 match m with
 |.dj=>some none
 |.az es=>xQ kd n es
 |.aY i=>match vh.get i with
  |some (.map es)=>xQ kd n es
  |_=>none
 |_=>none
theorem Uf {g:Fz}{es:List (PV×PV)}{bf:List (Value×Value)}(hlen:es.length=bf.length)(rk:∀(j:Nat) p p',es[j]?=some p→bf[j]?=some p'→FR g p.1 p'.1)(rv:∀(j:Nat) p p',es[j]?=some p→bf[j]?=some p'→FR g p.2 p'.2) :
  bc (FR g) (es.map (·.1)) (bf.map (·.1))∧bc (FR g) (es.map (·.2)) (bf.map (·.2)):=by
 constructor
 ·refine⟨by simp[hlen],fun i v v' hv aX=>?_⟩
  rw[List.getElem?_map] at hv aX
  obtain⟨p,h1,rfl⟩:=cZ hv
  obtain⟨p',h2,rfl⟩:=cZ aX
  exact rk i p p' h1 h2
 refine⟨by simp[hlen],fun i v v' hv aX=>?_⟩
 rw[List.getElem?_map] at hv aX
 obtain⟨p,h1,rfl⟩:=cZ hv
 obtain⟨p',h2,rfl⟩:=cZ aX
 exact rv i p p' h1 h2
theorem zzx {g:Fz}{es:List (PV×PV)}{bf:List (Value×Value)}(h1:bc (FR g) (es.map (·.1)) (bf.map (·.1)))(h2:bc (FR g) (es.map (·.2)) (bf.map (·.2))){o:Nat}(hg:g o=some (.map bf)):FR g (.az es) (.map (some o)):=
 .az es o bf hg (by have:=h1.1;simpa using this) (fun j p p' hp rE=>h1.2 j p.1 p'.1 (by simp[hp]) (by simp[rE])) (fun j p p' hp rE=>h2.2 j p.2 p'.2 (by simp[hp]) (by simp[rE]))
def Ug (P:Program)(vh:ah)(t:TypeId)(m k:PV)(ok:Bool):Option PV:=
 match lj P t,k with
 |some (_,e),.int kd n=>
  match (ey P e).bind bo with
  |some z=>
   match oZ vh kd n m with
   |some (some v)=>some (bif ok then .bp [v,.bool true] else v)
   |some none=>some (bif ok then .bp [z,.bool false] else z)
   |none=>none
  |none=>none
 |_,_=>none
theorem Jc {v:PV}{v':Value}{b:Bool}(hv:FR g v v'):FR g (.bp [v,.bool b]) (.tuple #[v',.bool b]):=
 .bp _ _ rfl fun i u u' hu qk=>by
  match i with
  |0=>simp at hu qk;subst hu;subst qk;exact hv
  |1=>simp at hu qk;subst hu;subst qk;exact .bool b
  |i+2=>simp at hu
theorem zq1 (s:VS lo g σ vh h){t:TypeId}{m k v:PV}{m' k':Value}{ok:Bool}(hm:VR g σ vh.next m m')(hk:VR g σ vh.next k k')(hv:Ug P vh t m k ok=some v):∃v',tK P h t m' k' ok=some v'∧FR g v v':=by
 unfold Ug at hv
 split at hv
 ·rename_i kt e kd n ht
  have:=hk.aB rfl;cases this
  split at hv
  ·rename_i z hz
   cases kP:ey P e with
   |none=>rw[kP] at hz;cases hz
   |some z'=>
    rw[kP] at hz
    have GZ:=(yz (g:=g) hz).1
    have fin:∀ {q:Option PV} {q':Option Value},oZ vh kd n m=some q→zu (FR g) q q'→∃v',(match some q' with
      |some (some v)=>some (bif ok then .tuple #[v,.bool true] else v)
      |some none=>some (bif ok then .tuple #[z',.bool false] else z')
      |none=>none:Option Value)=some v'∧FR g v v':=fun {q q'} hq hr=>by
     rw[hq] at hv
     cases q with
     |none=>
      cases q' with
      |some=>exact hr.elim
      |none=>
       simp only[ax] at hv;subst hv
       refine⟨_,rfl,?_⟩
       cases ok with
       |true=>exact Jc GZ
       |false=>exact GZ
     |some u=>
      cases q' with
      |none=>exact hr.elim
      |some u'=>
       simp only[ax] at hv;subst hv
       refine⟨_,rfl,?_⟩
       cases ok with
       |true=>exact Jc hr
       |false=>exact hr
    cases hq:oZ vh kd n m with
    |none=>rw[hq] at hv;cases hv
    |some q=>
     have zp:=hq
     unfold oZ at hq
     split at hq
     ·injection hq with hq;subst hq
      have:=hm.aB rfl;cases this
      obtain⟨v',g1,g2⟩:=fin (q':=none) zp trivial
      exact⟨v',by simp only[tK,ht,kP];exact g1,g2⟩
     ·have:=hm.aB rfl
      cases this with
      |az _ o bf hg hlen rk rv=>
       obtain⟨h3,h4⟩:=Uf hlen rk rv
       obtain⟨r',g1,g2⟩:=Eb h3 h4 hq
       obtain⟨v',g3,g4⟩:=fin zp g2
       exact⟨v',by simp only[tK,ht,kP,s.fz _ _ hg,g1];exact g3,g4⟩
     ·rename_i i
      split at hq
      ·rename_i es hg
       cases hm with
       |fr _ _ h=>cases h
       |aY _ o a k hi hs=>
        obtain⟨bf,h1,h2,h3,h4⟩:=(s.obj i _ hg).2
        rw[hs] at h1;simp only at h1
        obtain⟨r',g1,g2⟩:=Eb h3 h4 hq
        obtain⟨v',g3,g4⟩:=fin zp g2
        exact⟨v',by simp only[tK,ht,kP,h1,g1];exact g3,g4⟩
      cases hq
     cases hq
  cases hv
 cases hv
def wM (n:Int)(v:PV)(p:PV×PV):PV×PV:=
 match p with
 |(.int k a,u)=>bif decide (a=n) then (.int k a,v) else (.int k a,u)
 |p=>p
def CE (n:Int)(p:PV×PV):Bool:=
 match p.1 with
 |.int _ a=>!decide (a=n)
 |_=>true
def Jd (kd:IntKind)(n:Int)(v:PV)(es:List (PV×PV)):Option (List (PV×PV)):=
 match xQ kd n es with
 |some (some _)=>some (es.map (wM n v))
 |some none=>some (es++[(.int kd n,v)])
 |none=>none
def Uh (P:Program)(vh:ah)(t:TypeId)(m k v:PV):Option ah:=
 match lj P t,m,k with
 |some _,.aY i,.int kd n=>
  match vh.get i with
  |some (.map es)=>bif v.aB then (Jd kd n v es).map fun es=>vh.put i (.map es) else none
  |_=>none
 |_,_,_=>none
def Ui (P:Program)(vh:ah)(t:TypeId)(m k:PV):Option ah:=
 match lj P t,m,k with
 |some _,.aY i,.int kd n=>
  match vh.get i with
  |some (.map es)=>match xQ kd n es with
   |some _=>some (vh.put i (.map (es.filter (CE n))))
   |none=>none
  |_=>none
 |_,_,_=>none
theorem Uj {n:Int}{v:PV}{v':Value}(hv:FR g v v'):∀ {es:List (PV×PV)} {bf:List (Value×Value)},bc (FR g) (es.map (·.1)) (bf.map (·.1))→bc (FR g) (es.map (·.2)) (bf.map (·.2))→
  bc (FR g) ((es.map (wM n v)).map (·.1)) ((bf.map (iV n v')).map (·.1))∧bc (FR g) ((es.map (wM n v)).map (·.2)) ((bf.map (iV n v')).map (·.2))
 |[],bf,hk,hv=>by
  cases bf with
  |nil=>exact⟨.nil,.nil⟩
  |cons=>have:=hk.1;simp at this
 |(k,u)::es,bf,hk,pJ=>by
  cases bf with
  |nil=>have:=hk.1;simp at this
  |cons q bf=>
   obtain⟨k',u'⟩:=q
   obtain⟨k1,l1,e1,j4,iT⟩:=hk.dt
   simp only[List.map_cons,List.cons.injEq] at e1;obtain⟨rfl,rfl⟩:=e1
   obtain⟨k1,l1,e1,iK,eI⟩:=pJ.dt
   simp only[List.map_cons,List.cons.injEq] at e1;obtain⟨rfl,rfl⟩:=e1
   have ih:=Uj (n:=n) hv iT eI
   have zo:=j4
   cases j4 with
   |int kk a=>
    simp only[List.map_cons,wM,iV]
    cases hd:decide (a=n) with
    |true=>exact⟨.cons (.int _ _) ih.1,.cons hv ih.2⟩
    |false=>exact⟨.cons (.int _ _) ih.1,.cons iK ih.2⟩
   |_=>
    simp only[List.map_cons,wM,iV]
    exact⟨.cons zo ih.1,.cons iK ih.2⟩
theorem Uk {n:Int}:∀ {es:List (PV×PV)} {bf:List (Value×Value)},bc (FR g) (es.map (·.1)) (bf.map (·.1))→bc (FR g) (es.map (·.2)) (bf.map (·.2))→
  bc (FR g) ((es.filter (CE n)).map (·.1)) ((bf.filter (oK n)).map (·.1))∧bc (FR g) ((es.filter (CE n)).map (·.2)) ((bf.filter (oK n)).map (·.2))
 |[],bf,hk,hv=>by
  cases bf with
  |nil=>exact⟨.nil,.nil⟩
  |cons=>have:=hk.1;simp at this
 |(k,u)::es,bf,hk,pJ=>by
  cases bf with
  |nil=>have:=hk.1;simp at this
  |cons q bf=>
   obtain⟨k',u'⟩:=q
   obtain⟨k1,l1,e1,j4,iT⟩:=hk.dt
   simp only[List.map_cons,List.cons.injEq] at e1;obtain⟨rfl,rfl⟩:=e1
   obtain⟨k1,l1,e1,iK,eI⟩:=pJ.dt
   simp only[List.map_cons,List.cons.injEq] at e1;obtain⟨rfl,rfl⟩:=e1
   have ih:=Uk (n:=n) iT eI
   have same:CE n (k,u)=oK n (k',u'):=by cases j4<;>rfl
   simp only[List.filter_cons]
   rw[← same]
   cases CE n (k,u) with
   |false=>exact ih
   |true=>exact⟨.cons j4 ih.1,.cons iK ih.2⟩
theorem zw8 {kd:IntKind}{n:Int}{v:PV}{v':Value}{es out:List (PV×PV)}{bf:List (Value×Value)}(hv:FR g v v')(h3:bc (FR g) (es.map (·.1)) (bf.map (·.1)))(h4:bc (FR g) (es.map (·.2)) (bf.map (·.2)))(ho:Jd kd n v es=some out) :
  ∃eR,(match uO kd n bf with
   |some (some _)=>some (bf.map (iV n v'))
   |some none=>some (bf++[(.int kd n,v')])
   |none=>none)=some eR∧bc (FR g) (out.map (·.1)) (eR.map (·.1))∧bc (FR g) (out.map (·.2)) (eR.map (·.2)):=by
 unfold Jd at ho
 split at ho
 ·rename_i u hq
  injection ho with ho;subst ho
  obtain⟨q',h1,h2⟩:=Eb h3 h4 hq
  cases q' with
  |none=>exact h2.elim
  |some u'=>exact⟨_,by rw[h1],Uj hv h3 h4⟩
 ·rename_i hq
  injection ho with ho;subst ho
  obtain⟨q',h1,h2⟩:=Eb h3 h4 hq
  cases q' with
  |some=>exact h2.elim
  |none=>
   refine⟨_,by rw[h1],?_,?_⟩
   ·simp only[List.map_append,List.map_cons,List.map_nil];exact h3.append (.cons (.int _ _) .nil)
   simp only[List.map_append,List.map_cons,List.map_nil];exact h4.append (.cons hv .nil)
 cases ho
theorem sb:FR g (.bp []) Go.undef:=.bp [] #[] rfl (fun i v v' h=>by simp at h)
theorem zm3 (s:VS lo g σ vh h){t:TypeId}{m k v:PV}{m' k' v':Value}{ak:ah}(hm:VR g σ vh.next m m')(hk:VR g σ vh.next k k')(pJ:VR g σ vh.next v v')(hv:Uh P vh t m k v=some ak) :
  ∃h',A9 P lo h t m' k' v'=some h'∧iH lo g σ vh h (.bp []) ak Go.undef h':=by
 unfold Uh at hv
 split at hv
 ·rename_i ek i kd n ht
  have:=hk.aB rfl;cases this
  split at hv
  ·rename_i es hg
   cases hf:v.aB with
   |false=>rw[hf] at hv;cases hv
   |true=>
    rw[hf] at hv;simp only[aJ] at hv
    obtain⟨out,ho,rfl⟩:=cZ hv
    cases hm with
    |fr _ _ h=>cases h
    |aY _ o a k hi hs=>
     obtain⟨bf,h1,h2,h3,h4⟩:=(s.obj i _ hg).2
     have bC:=s.low i _ hg rfl
     obtain⟨eR,g1,g2,g3⟩:=zw8 (pJ.aB hf) h3 h4 ho
     have h5:=s.write hg rfl (x':=.map out) (.map eR) ⟨eR,by rw[ae.dB _ _ _ _ (ae.fC h1),if_pos rfl],h2,g2,g3⟩
     rw[hs] at h1 bC h5;simp only at h1 bC h5
     have lT:Nat.ble lo o=true:=by rw[Nat.ble_eq];exact bC
     refine⟨h.put o (some (.map eR)),?_,σ,.fr _ _ sb,h5.1,h5.2,Nat.le_refl _,fun _ _=>rfl⟩
     simp only[A9,ht,h1,lT,aJ]
     split at g1
     ·rename_i hq;simp only[hq];injection g1 with g1;rw[g1]
     ·rename_i hq;simp only[hq];injection g1 with g1;rw[g1]
     cases g1
  cases hv
 cases hv
theorem zr6 (s:VS lo g σ vh h){t:TypeId}{m k:PV}{m' k':Value}{ak:ah}(hm:VR g σ vh.next m m')(hk:VR g σ vh.next k k')(hv:Ui P vh t m k=some ak) :
  ∃h',Bc P lo h t m' k'=some h'∧iH lo g σ vh h (.bp []) ak Go.undef h':=by
 unfold Ui at hv
 split at hv
 ·rename_i ek i kd n ht
  have:=hk.aB rfl;cases this
  split at hv
  ·rename_i es hg
   split at hv
   ·rename_i q hq
    injection hv with hv;subst hv
    cases hm with
    |fr _ _ h=>cases h
    |aY _ o a k hi hs=>
     obtain⟨bf,h1,h2,h3,h4⟩:=(s.obj i _ hg).2
     have bC:=s.low i _ hg rfl
     obtain⟨g1,g2⟩:=Uk (n:=n) h3 h4
     obtain⟨q',g3,_⟩:=Eb h3 h4 hq
     have h5:=s.write hg rfl (x':=.map (es.filter (CE n))) (.map (bf.filter (oK n))) ⟨_,by rw[ae.dB _ _ _ _ (ae.fC h1),if_pos rfl],h2,g1,g2⟩
     rw[hs] at h1 bC h5;simp only at h1 bC h5
     have lT:Nat.ble lo o=true:=by rw[Nat.ble_eq];exact bC
     exact⟨_,by simp only[Bc,ht,h1,lT,aJ,g3],σ,.fr _ _ sb,h5.1,h5.2,Nat.le_refl _,fun _ _=>rfl⟩
   cases hv
  cases hv
 cases hv
def gz:List PV→Option (List Value)
 |[]=>some []
 |.int k n::r=>(gz r).map (Value.int k n::·)
 |_=>none
theorem Ul:∀ {ds:List PV} {l l':List Value},gz ds=some l→bc (FR g) ds l'→l'=l
 |[],l,l',h,hr=>by simp only[gz,ax] at h;subst h;exact hr.iP
 |d::r,l,l',h,hr=>by
  obtain⟨v',s,rfl,h1,h2⟩:=hr.dt
  cases d with
  |int k n=>
   simp only[gz] at h
   obtain⟨q,hq,rfl⟩:=cZ h
   cases h1
   rw[Ul hq h2]
  |_=>simp[gz] at h
theorem Je:∀ {ds:List PV} {l:List Value},gz ds=some l→PV.aG ds=true
 |[],l,h=>rfl
 |d::r,l,h=>by
  cases d with
  |int k n=>
   simp only[gz] at h
   obtain⟨q,hq,rfl⟩:=cZ h
   simp only[PV.aG,PV.aB,Bool.true_and]
   exact Je hq
  |_=>simp[gz] at h
theorem G0 {ds:List PV}{l:List Value}{k':Value}(h:gz ds=some l)(hk:FR g (.agg ds) k'):k'=.agg l.toArray:=by
 cases hk with
 |agg _ cs hl hr=>rw[show cs=l.toArray from Array.ext' (by simpa using Ul h ⟨by simpa using hl,fun i v v' h1 h2=>hr i v v' h1 (by simpa using h2)⟩)]
def kq (l:List Value):List (PV×PV)→Option (Option PV)
 |[]=>some none
 |(.agg ds,v)::r=>match gz ds with
  |some m=>match gD l m,kq l r with
   |some s,some q=>some (bif s then some v else q)
   |_,_=>none
  |none=>none
 |_=>none
theorem Ec {l:List Value}:∀ {es:List (PV×PV)} {bf:List (Value×Value)} {r:Option PV},bc (FR g) (es.map (·.1)) (bf.map (·.1))→bc (FR g) (es.map (·.2)) (bf.map (·.2))→kq l es=some r→
  ∃r',sB l bf=some r'∧zu (FR g) r r'
 |[],bf,r,hk,hv,hr=>by
  simp only[kq,ax] at hr;subst hr
  cases bf with
  |nil=>exact⟨none,rfl,trivial⟩
  |cons=>have:=hk.1;simp at this
 |(k,v)::es,bf,r,hk,hv,hr=>by
  cases bf with
  |nil=>have:=hk.1;simp at this
  |cons q bf=>
   obtain⟨k',v'⟩:=q
   obtain⟨k1,l1,e1,j4,iT⟩:=hk.dt
   simp only[List.map_cons,List.cons.injEq] at e1;obtain⟨rfl,rfl⟩:=e1
   obtain⟨k1,l1,e1,iK,eI⟩:=hv.dt
   simp only[List.map_cons,List.cons.injEq] at e1;obtain⟨rfl,rfl⟩:=e1
   cases k with
   |agg ds=>
    simp only[kq] at hr
    split at hr
    ·rename_i m hm
     have rO:=G0 hm j4
     subst rO
     split at hr
     ·rename_i s q hs hq
      injection hr with hr;subst hr
      obtain⟨r',g1,g2⟩:=Ec iT eI hq
      refine⟨bif s then some v' else r',by simp[sB,hs,g1],?_⟩
      cases s with
      |true=>exact iK
      |false=>exact g2
     cases hr
    cases hr
   |_=>simp[kq] at hr
def pQ (vh:ah)(l:List Value)(m:PV):Option (Option PV):=
 match m with
 |.dj=>some none
 |.az es=>kq l es
 |.aY i=>match vh.get i with
  |some (.map es)=>kq l es
  |_=>none
 |_=>none
def rY (P:Program)(vh:ah)(t:TypeId)(m:PV)(ds:List PV)(ok:Bool):Option PV:=
 match wZ P t,gz ds with
 |some (_,e,n),some l=>
  bif !(fG l&&Nat.beq l.length n) then none else
  match (ey P e).bind bo with
  |some z=>
   match pQ vh l m with
   |some (some v)=>some (bif ok then .bp [v,.bool true] else v)
   |some none=>some (bif ok then .bp [z,.bool false] else z)
   |none=>none
  |none=>none
 |_,_=>none
theorem zrz (s:VS lo g σ vh h){t:TypeId}{m v:PV}{ds:List PV}{m' k':Value}{ok:Bool}(hm:VR g σ vh.next m m')(hk:VR g σ vh.next (.agg ds) k')(hv:rY P vh t m ds ok=some v):∃v',tL P h t m' k' ok=some v'∧FR g v v':=by
 unfold rY at hv
 split at hv
 ·rename_i kt e n l ht hl
  have G1:=G0 hl (hk.aB (by simp only[PV.aB];exact Je hl))
  subst G1
  cases hb:(!(fG l&&Nat.beq l.length n)) with
  |true=>rw[hb] at hv;cases hv
  |false=>
  rw[hb,bl] at hv
  split at hv
  ·rename_i z hz
   cases kP:ey P e with
   |none=>rw[kP] at hz;cases hz
   |some z'=>
    rw[kP] at hz
    have GZ:=(yz (g:=g) hz).1
    have fin:∀ {q:Option PV} {q':Option Value},pQ vh l m=some q→zu (FR g) q q'→∃v',(match some q' with
      |some (some v)=>some (bif ok then .tuple #[v,.bool true] else v)
      |some none=>some (bif ok then .tuple #[z',.bool false] else z')
      |none=>none:Option Value)=some v'∧FR g v v':=fun {q q'} hq hr=>by
     rw[hq] at hv
     cases q with
     |none=>
      cases q' with
      |some=>exact hr.elim
      |none=>
       simp only[ax] at hv;subst hv
       refine⟨_,rfl,?_⟩
       cases ok with
       |true=>exact Jc GZ
       |false=>exact GZ
     |some u=>
      cases q' with
      |none=>exact hr.elim
      |some u'=>
       simp only[ax] at hv;subst hv
       refine⟨_,rfl,?_⟩
       cases ok with
       |true=>exact Jc hr
       |false=>exact hr
    cases hq:pQ vh l m with
    |none=>rw[hq] at hv;cases hv
    |some q=>
     have zp:=hq
     unfold pQ at hq
     split at hq
     ·injection hq with hq;subst hq
      have:=hm.aB rfl;cases this
      obtain⟨v',g1,g2⟩:=fin (q':=none) zp trivial
      exact⟨v',by simp only[tL,yh,ht,hb,bl,kP];exact g1,g2⟩
     ·have:=hm.aB rfl
      cases this with
      |az _ o bf hg hlen rk rv=>
       obtain⟨h3,h4⟩:=Uf hlen rk rv
       obtain⟨r',g1,g2⟩:=Ec h3 h4 hq
       obtain⟨v',g3,g4⟩:=fin zp g2
       exact⟨v',by simp only[tL,yh,ht,hb,bl,kP,s.fz _ _ hg,g1];exact g3,g4⟩
     ·rename_i i
      split at hq
      ·rename_i es hg
       cases hm with
       |fr _ _ h=>cases h
       |aY _ o a k hi hs=>
        obtain⟨bf,h1,h2,h3,h4⟩:=(s.obj i _ hg).2
        rw[hs] at h1;simp only at h1
        obtain⟨r',g1,g2⟩:=Ec h3 h4 hq
        obtain⟨v',g3,g4⟩:=fin zp g2
        exact⟨v',by simp only[tL,yh,ht,hb,bl,kP,h1,g1];exact g3,g4⟩
      cases hq
     cases hq
  cases hv
 cases hv
def nR (l:List Value)(k:PV):Bool:=match k with
 |.agg ds=>match gz ds with
  |some m=>match gD l m with|some s=>s|none=>false
  |none=>false
 |_=>false
def D7 (l:List Value)(ds:List PV)(v:PV)(p:PV×PV):PV×PV:=bif nR l p.1 then (.agg ds,v) else p
def CF (l:List Value)(p:PV×PV):Bool:=!nR l p.1
def o7 (l:List Value)(ds:List PV)(v:PV)(es:List (PV×PV)):Option (List (PV×PV)):=
 match kq l es with
 |some (some _)=>some (es.map (D7 l ds v))
 |some none=>some (es++[(.agg ds,v)])
 |none=>none
theorem NG {l:List Value}:∀ {es:List (PV×PV)} {r:Option PV},kq l es=some r→∀p∈es,∃ds m s,p.1=.agg ds∧gz ds=some m∧gD l m=some s
 |[],r,h,p,hp=>by cases hp
 |(k,v)::es,r,h,p,hp=>by
  cases k with
  |agg ds=>
   simp only[kq] at h
   split at h
   ·rename_i m hm
    split at h
    ·rename_i s q hs hq
     rcases List.mem_cons.1 hp with rfl|hp
     ·exact⟨ds,m,s,rfl,hm,hs⟩
     exact NG hq p hp
    cases h
   cases h
  |_=>simp[kq] at h
theorem Um {l:List Value}{es:List (PV×PV)}{k:PV}{k':Value}(hk:∃ds m s,k=.agg ds∧gz ds=some m∧gD l m=some s)(hr:FR g k k'):zO l k'=nR l k:=by
 obtain⟨ds,m,s,rfl,h2,h3⟩:=hk
 rw[G0 h2 hr]
 simp only[zO,nR,h2,h3]
theorem Un {l:List Value}{ds:List PV}{xs:Array Value}{v:PV}{v':Value}(hx:xs.toList=l)(hd:FR g (.agg ds) (.agg xs))(hv:FR g v v'):∀ {es:List (PV×PV)} {bf:List (Value×Value)},(∀p∈es,∃ds m s,p.1=.agg ds∧gz ds=some m∧gD l m=some s)→bc (FR g) (es.map (·.1)) (bf.map (·.1))→bc (FR g) (es.map (·.2)) (bf.map (·.2))→
  bc (FR g) ((es.map (D7 l ds v)).map (·.1)) ((bf.map (yj xs v')).map (·.1))∧bc (FR g) ((es.map (D7 l ds v)).map (·.2)) ((bf.map (yj xs v')).map (·.2))
 |[],bf,_,hk,hv=>by
  cases bf with
  |nil=>exact⟨.nil,.nil⟩
  |cons=>have:=hk.1;simp at this
 |(k,u)::es,bf,ha,hk,pJ=>by
  cases bf with
  |nil=>have:=hk.1;simp at this
  |cons q bf=>
   obtain⟨k',u'⟩:=q
   obtain⟨k1,l1,e1,j4,iT⟩:=hk.dt
   simp only[List.map_cons,List.cons.injEq] at e1;obtain⟨rfl,rfl⟩:=e1
   obtain⟨k1,l1,e1,iK,eI⟩:=pJ.dt
   simp only[List.map_cons,List.cons.injEq] at e1;obtain⟨rfl,rfl⟩:=e1
   have ih:=Un hx hd hv (fun p hp=>ha p (List.mem_cons_of_mem _ hp)) iT eI
   have he:=Um (es:=es) (ha (k,u) List.mem_cons_self) j4
   simp only[List.map_cons,D7,yj,hx,he]
   cases nR l k with
   |true=>exact⟨.cons hd ih.1,.cons hv ih.2⟩
   |false=>exact⟨.cons j4 ih.1,.cons iK ih.2⟩
theorem Uo {l:List Value}{xs:Array Value}(hx:xs.toList=l):∀ {es:List (PV×PV)} {bf:List (Value×Value)},(∀p∈es,∃ds m s,p.1=.agg ds∧gz ds=some m∧gD l m=some s)→bc (FR g) (es.map (·.1)) (bf.map (·.1))→bc (FR g) (es.map (·.2)) (bf.map (·.2))→
  bc (FR g) ((es.filter (CF l)).map (·.1)) ((bf.filter (uS xs)).map (·.1))∧bc (FR g) ((es.filter (CF l)).map (·.2)) ((bf.filter (uS xs)).map (·.2))
 |[],bf,_,hk,hv=>by
  cases bf with
  |nil=>exact⟨.nil,.nil⟩
  |cons=>have:=hk.1;simp at this
 |(k,u)::es,bf,ha,hk,pJ=>by
  cases bf with
  |nil=>have:=hk.1;simp at this
  |cons q bf=>
   obtain⟨k',u'⟩:=q
   obtain⟨k1,l1,e1,j4,iT⟩:=hk.dt
   simp only[List.map_cons,List.cons.injEq] at e1;obtain⟨rfl,rfl⟩:=e1
   obtain⟨k1,l1,e1,iK,eI⟩:=pJ.dt
   simp only[List.map_cons,List.cons.injEq] at e1;obtain⟨rfl,rfl⟩:=e1
   have ih:=Uo hx (fun p hp=>ha p (List.mem_cons_of_mem _ hp)) iT eI
   have he:=Um (es:=es) (ha (k,u) List.mem_cons_self) j4
   have same:CF l (k,u)=uS xs (k',u'):=by unfold CF uS;rw[hx,he]
   simp only[List.filter_cons]
   rw[← same]
   cases CF l (k,u) with
   |false=>exact ih
   |true=>exact⟨.cons j4 ih.1,.cons iK ih.2⟩
def sR (P:Program)(vh:ah)(t:TypeId)(m:PV)(ds:List PV)(v:PV):Option ah:=
 match wZ P t,m,gz ds with
 |some (_,_,n),.aY i,some l=>
  bif !(fG l&&Nat.beq l.length n) then none else
  match vh.get i with
  |some (.map es)=>bif v.aB then (o7 l ds v es).map fun es=>vh.put i (.map es) else none
  |_=>none
 |_,_,_=>none
theorem zm8 (s:VS lo g σ vh h){t:TypeId}{m v:PV}{ds:List PV}{m' k' v':Value}{ak:ah}(hm:VR g σ vh.next m m')(hk:VR g σ vh.next (.agg ds) k')(pJ:VR g σ vh.next v v')(hv:sR P vh t m ds v=some ak) :
  ∃h',zP P lo h t m' k' v'=some h'∧iH lo g σ vh h (.bp []) ak Go.undef h':=by
 unfold sR at hv
 split at hv
 ·rename_i kt e n i l ht hl
  have NH:=hk.aB (by simp only[PV.aB];exact Je hl)
  have G1:=G0 hl NH
  subst G1
  cases hb:(!(fG l&&Nat.beq l.length n)) with
  |true=>rw[hb] at hv;cases hv
  |false=>
  rw[hb,bl] at hv
  split at hv
  ·rename_i es hg
   cases hf:v.aB with
   |false=>rw[hf] at hv;cases hv
   |true=>
    rw[hf] at hv;simp only[aJ] at hv
    obtain⟨out,ho,rfl⟩:=cZ hv
    cases hm with
    |fr _ _ h=>cases h
    |aY _ o a k hi hs=>
     obtain⟨bf,h1,h2,h3,h4⟩:=(s.obj i _ hg).2
     have bC:=s.low i _ hg rfl
     have Up:=pJ.aB hf
     obtain⟨eR,g1,g2,g3⟩:∃eR,(match sB l bf with
       |some (some _)=>some (bf.map (yj l.toArray v'))
       |some none=>some (bf++[(.agg l.toArray,v')])
       |none=>none)=some eR∧bc (FR g) (out.map (·.1)) (eR.map (·.1))∧bc (FR g) (out.map (·.2)) (eR.map (·.2)):=by
      unfold o7 at ho
      split at ho
      ·rename_i u hq
       injection ho with ho;subst ho
       obtain⟨q',e1,e2⟩:=Ec h3 h4 hq
       cases q' with
       |none=>exact e2.elim
       |some u'=>exact⟨_,by rw[e1],Un (by simp) NH Up (NG hq) h3 h4⟩
      ·rename_i hq
       injection ho with ho;subst ho
       obtain⟨q',e1,e2⟩:=Ec h3 h4 hq
       cases q' with
       |some=>exact e2.elim
       |none=>
        refine⟨_,by rw[e1],?_,?_⟩
        ·simp only[List.map_append,List.map_cons,List.map_nil];exact h3.append (.cons NH .nil)
        simp only[List.map_append,List.map_cons,List.map_nil];exact h4.append (.cons Up .nil)
      cases ho
     have h5:=s.write hg rfl (x':=.map out) (.map eR) ⟨eR,by rw[ae.dB _ _ _ _ (ae.fC h1),if_pos rfl],h2,g2,g3⟩
     rw[hs] at h1 bC h5;simp only at h1 bC h5
     have lT:Nat.ble lo o=true:=by rw[Nat.ble_eq];exact bC
     refine⟨h.put o (some (.map eR)),?_,σ,.fr _ _ sb,h5.1,h5.2,Nat.le_refl _,fun _ _=>rfl⟩
     simp only[zP,HA,ht,hb,bl,h1,lT,aJ]
     split at g1
     ·rename_i hq;simp only[hq];injection g1 with g1;rw[g1]
     ·rename_i hq;simp only[hq];injection g1 with g1;rw[g1]
     cases g1
  cases hv
 cases hv
def NI (P:Program)(vh:ah)(t:TypeId)(m:PV)(ds:List PV):Option ah:=
 match wZ P t,m,gz ds with
 |some (_,_,n),.aY i,some l=>
  bif !(fG l&&Nat.beq l.length n) then none else
  match vh.get i with
  |some (.map es)=>match kq l es with
   |some _=>some (vh.put i (.map (es.filter (CF l))))
   |none=>none
  |_=>none
 |_,_,_=>none
theorem zrs (s:VS lo g σ vh h){t:TypeId}{m:PV}{ds:List PV}{m' k':Value}{ak:ah}(hm:VR g σ vh.next m m')(hk:VR g σ vh.next (.agg ds) k')(hv:NI P vh t m ds=some ak) :
  ∃h',oL P lo h t m' k'=some h'∧iH lo g σ vh h (.bp []) ak Go.undef h':=by
 unfold NI at hv
 split at hv
 ·rename_i kt e n i l ht hl
  have G1:=G0 hl (hk.aB (by simp only[PV.aB];exact Je hl))
  subst G1
  cases hb:(!(fG l&&Nat.beq l.length n)) with
  |true=>rw[hb] at hv;cases hv
  |false=>
  rw[hb,bl] at hv
  split at hv
  ·rename_i es hg
   split at hv
   ·rename_i q hq
    injection hv with hv;subst hv
    cases hm with
    |fr _ _ h=>cases h
    |aY _ o a k hi hs=>
     obtain⟨bf,h1,h2,h3,h4⟩:=(s.obj i _ hg).2
     have bC:=s.low i _ hg rfl
     obtain⟨g1,g2⟩:=Uo (xs:=l.toArray) (by simp) (NG hq) h3 h4
     obtain⟨q',g3,_⟩:=Ec h3 h4 hq
     have h5:=s.write hg rfl (x':=.map (es.filter (CF l))) (.map (bf.filter (uS l.toArray))) ⟨_,by rw[ae.dB _ _ _ _ (ae.fC h1),if_pos rfl],h2,g1,g2⟩
     rw[hs] at h1 bC h5;simp only at h1 bC h5
     have lT:Nat.ble lo o=true:=by rw[Nat.ble_eq];exact bC
     exact⟨_,by simp only[oL,HB,ht,hb,bl,h1,lT,aJ,g3],σ,.fr _ _ sb,h5.1,h5.2,Nat.le_refl _,fun _ _=>rfl⟩
   cases hv
  cases hv
 cases hv
def qG (P:Program)(vh:ah)(t:TypeId)(m k:PV)(ok:Bool):Option PV:=
 match k with
 |.agg ds=>rY P vh t m ds ok
 |k=>
 match lj P t,k with
 |some (_,e),.int kd n=>
  match (ey P e).bind bo with
  |some z=>
   match oZ vh kd n m with
   |some (some v)=>some (bif ok then .bp [v,.bool true] else v)
   |some none=>some (bif ok then .bp [z,.bool false] else z)
   |none=>none
  |none=>none
 |_,_=>none
def pK (P:Program)(vh:ah)(t:TypeId)(m k v:PV):Option ah:=
 match k with
 |.agg ds=>sR P vh t m ds v
 |k=>
 match lj P t,m,k with
 |some _,.aY i,.int kd n=>
  match vh.get i with
  |some (.map es)=>bif v.aB then (Jd kd n v es).map fun es=>vh.put i (.map es) else none
  |_=>none
 |_,_,_=>none
def qH (P:Program)(vh:ah)(t:TypeId)(m k:PV):Option ah:=
 match k with
 |.agg ds=>NI P vh t m ds
 |k=>
 match lj P t,m,k with
 |some _,.aY i,.int kd n=>
  match vh.get i with
  |some (.map es)=>match xQ kd n es with
   |some _=>some (vh.put i (.map (es.filter (CE n))))
   |none=>none
  |_=>none
 |_,_,_=>none
theorem zyc {P:Program}{h:ae}{t:TypeId}{m k v:Value}{ok:Bool}(ha:tK P h t m k ok=some v):tL P h t m k ok=some v:=by
 cases k with
 |agg xs=>unfold tK at ha;split at ha<;>simp_all
 |_=>exact ha
theorem zyu {P:Program}{lo:Nat}{h h':ae}{t:TypeId}{m k v:Value}(ha:A9 P lo h t m k v=some h'):zP P lo h t m k v=some h':=by
 cases k with
 |agg xs=>unfold A9 at ha;split at ha<;>simp_all
 |_=>exact ha
theorem z0d {P:Program}{lo:Nat}{h h':ae}{t:TypeId}{m k:Value}(ha:Bc P lo h t m k=some h'):oL P lo h t m k=some h':=by
 cases k with
 |agg xs=>unfold Bc at ha;split at ha<;>simp_all
 |_=>exact ha
theorem zve (s:VS lo g σ vh h){t:TypeId}{m k v:PV}{m' k':Value}{ok:Bool}(hm:VR g σ vh.next m m')(hk:VR g σ vh.next k k')(hv:qG P vh t m k ok=some v):∃v',tL P h t m' k' ok=some v'∧FR g v v':=by
 unfold qG at hv
 split at hv
 ·exact zrz s hm hk hv
 obtain⟨v',h1,h2⟩:=zq1 s hm hk hv
 exact⟨v',zyc h1,h2⟩
theorem Uq (s:VS lo g σ vh h){t:TypeId}{m k v:PV}{m' k' v':Value}{ak:ah}(hm:VR g σ vh.next m m')(hk:VR g σ vh.next k k')(pJ:VR g σ vh.next v v')(hv:pK P vh t m k v=some ak) :
  ∃h',zP P lo h t m' k' v'=some h'∧iH lo g σ vh h (.bp []) ak Go.undef h':=by
 unfold pK at hv
 split at hv
 ·exact zm8 s hm hk pJ hv
 obtain⟨h',h1,h2⟩:=zm3 s hm hk pJ hv
 exact⟨h',zyu h1,h2⟩
theorem zuw (s:VS lo g σ vh h){t:TypeId}{m k:PV}{m' k':Value}{ak:ah}(hm:VR g σ vh.next m m')(hk:VR g σ vh.next k k')(hv:qH P vh t m k=some ak) :
  ∃h',oL P lo h t m' k'=some h'∧iH lo g σ vh h (.bp []) ak Go.undef h':=by
 unfold qH at hv
 split at hv
 ·exact zrs s hm hk hv
 obtain⟨h',h1,h2⟩:=zr6 s hm hk hv
 exact⟨h',z0d h1,h2⟩
def qI (P:Program)(vh:ah)(t:TypeId)(x:PV):Option ah:=
 match fS P t,x with
 |some _,.aF=>some vh
 |some _,.vec []=>some vh
 |some (e,n),.sub i off (l+1)=>
  match eB P e,vh.get i with
  |some z,some (.arr ag sz cs)=>bif Nat.beq z.length n&&Nat.beq sz n&&Nat.ble (off+(l+1)*n) cs.length&&z.all PV.one then some (vh.put i (.arr ag sz (jP cs off (cB z (l+1))))) else none
  |_,_=>none
 |_,_=>none
theorem zwn (s:VS lo g σ vh h){t:TypeId}{x:PV}{x':Value}{ak:ah}(hx:VR g σ vh.next x x')(hv:qI P vh t x=some ak) :
  ∃h',wY P lo h t x'=some h'∧iH lo g σ vh h (.bp []) ak Go.undef h':=by
 unfold qI at hv
 split at hv
 ·rename_i q ht
  injection hv with hv;subst hv
  have:=hx.aB rfl;cases this
  exact⟨h,by simp only[wY,ht],.same s (.fr _ _ sb)⟩
 ·rename_i q ht
  injection hv with hv;subst hv
  have:=hx.aB rfl
  cases this with
  |fc=>exact⟨h,by simp only[wY,ht],.same s (.fr _ _ sb)⟩
  |da=>exact⟨h,by simp only[wY,ht],.same s (.fr _ _ sb)⟩
  |vec _ o off k s0 sz ao=>exact⟨h,by simp only[wY,ht,List.length_nil],.same s (.fr _ _ sb)⟩
 ·rename_i e n i off l ht
  split at hv
  ·rename_i z ag sz cs hz hg
   cases hb:(Nat.beq z.length n&&Nat.beq sz n&&Nat.ble (off+(l+1)*n) cs.length&&z.all PV.one) with
   |false=>rw[hb] at hv;cases hv
   |true=>
    rw[hb] at hv;simp only[aJ,ax] at hv;subst hv
    simp only[bR,beq_eq,decide_eq_true_eq,Nat.ble_eq] at hb
    obtain⟨⟨⟨b1,b2⟩,b3⟩,b4⟩:=hb
    subst b2
    obtain⟨z',k1,k2⟩:=xh (g:=g) hz
    obtain⟨h0,s0,ao,h1,h2,h3⟩:=(s.obj i _ hg).2
    have bC:=s.low i _ hg rfl
    cases hx with
    |fr _ _ h=>cases h
    |sub _ _ _ k o a kk hi hs hl hk=>
     rw[hs] at h1 h2 bC;simp only at h1 h2 bC;subst h2
     have im:bc (FR g) (jP cs off (cB z (l+1))) (e9 ao off (cJ z' (l+1))):=h3.e9 off (Dn k2 _)
     have hw:=s.write hg rfl (x':=.arr ag sz (jP cs off (cB z (l+1)))) (.cells s0 (e9 ao off (cJ z' (l+1)))) ⟨h0,s0,_,by rw[hs,ae.dB _ _ _ _ (ae.fC h1),if_pos rfl],by rw[hs],im⟩
     rw[hs] at hw
     have e1:Nat.ble lo o=true:=by rw[Nat.ble_eq];exact bC
     have e2:Nat.beq z'.length sz=true:=by rw[← k2.1,beq_eq];simpa using b1
     have e3:Nat.ble (0+off+(l+1)*sz) ao.length=true:=by rw[Nat.ble_eq,← h3.1];omega
     have e4:z'.all (·.oneCell')=true:=bc.vd (σ:=σ) (n:=vh.next) k2.vr b4
     refine⟨_,by simp only[wY,ht,k1,h1,e1,e2,e3,e4,Bool.and_true,aJ];rfl,σ,.fr _ _ sb,?_,?_,Nat.le_refl _,fun _ _=>rfl⟩
     ·simpa using hw.1
     simpa using hw.2
  cases hv
 cases hv
end
def gq:List PV→Option (List Value)
 |[]=>some []
 |v::r=>match nz v,gq r with
  |some x,some l=>some (x::l)
  |_,_=>none
def qE (P:Program)(vh:ah)(b:Builtin)(argTypes:List TypeId)(args:List PV):Option (PV×ah):=
 match b,argTypes,args with
 |.len,[t],[x]=>(ja P vh t x).map (·,vh)
 |.append,[s,x],[a,b]=>qF P vh s x a b
 |.copy,[d,_],[a,b]=>cW P vh d a b
 |.delete,[t,_],[m,k]=>(qH P vh t m k).map fun ak=>(.bp [],ak)
 |.clear,[t],[x]=>(qI P vh t x).map fun ak=>(.bp [],ak)
 |.max,_,x::r=>match gq (x::r) with
  |some (x::r)=>((jY true x r).bind bo).map (·,vh)
  |_=>none
 |.min,_,x::r=>match gq (x::r) with
  |some (x::r)=>((jY false x r).bind bo).map (·,vh)
  |_=>none
 |_,_,_=>none
def dS (P:Program)(ab:aW)(vh:ah):Op→Option (PV×ah)
 |.move x=>(cF ab x).map (·,vh)
 |.assign x=>(cF ab x).map (·,vh)
 |.pick c a b=>match cF ab c with
  |some (.bool true)=>(cF ab a).map (·,vh)
  |some (.bool false)=>(cF ab b).map (·,vh)
  |_=>none
 |.alloc t=>qB P vh t
 |.box _ x=>(cF ab x).map (jb vh)
 |.build t parts=>match ny ab parts.toList with
  |some l=>(nB P t l).map (·,vh)
  |none=>none
 |.buildSlice t n parts=>match ny ab parts.toList with
  |some l=>oV P vh t n l
  |none=>none
 |.load t a=>match cF ab a with
  |some p=>(pI P vh t p).map (·,vh)
  |none=>none
 |.store t a x=>match cF ab a,cF ab x with
  |some p,some v=>(qD P vh t p v).map fun ak=>(.bp [],ak)
  |_,_=>none
 |.nilCheck x=>match cF ab x with
  |some (.ptr i off)=>some (.ptr i off,vh)
  |some (.vp cs)=>some (.vp cs,vh)
  |some (.func f xs ys)=>some (.func f xs ys,vh)
  |_=>none
 |.binOp op t x y _=>match cF ab x,cF ab y with
  |some a,some b=>(iY P op t a b).map (·,vh)
  |_,_=>none
 |.unOp op _ x=>match (cF ab x).bind nz with
  |some a=>((oD op a).bind bo).map (·,vh)
  |none=>none
 |.convert s d x=>match (cF ab x).bind nz with
  |some a=>((oE P s d a).bind bo).map (·,vh)
  |none=>none
 |.makeFunc (.func f) first captured=>match iX ab first.toList,iX ab captured.toList with
  |some xs,some ys=>some (.func f xs ys,vh)
  |_,_=>none
 |.makeMap _ none=>some (qC vh)
 |.makeSlice t l c=>match cF ab l,cF ab c with
  |some a,some b=>oX P vh t a b
  |_,_=>none
 |.slice t x lo hi none=>match cF ab x,vO ab lo,vO ab hi with
  |some v,some l,some u=>(qz P t v l u).map (·,vh)
  |_,_,_=>none
 |.slice t x lo hi (some mx)=>match cF ab x,vO ab lo,vO ab hi,vO ab (some mx) with
  |some v,some l,some u,some m=>match BF P t v l u m with
   |some r=>some (r,vh)
   |none=>bif (l.isNone||kl l)&&kl u&&kl m then (qA P t v).map (·,vh) else none
  |_,_,_,_=>none
 |.fieldAddr s x f=>match cF ab x with
  |some p=>(qv P s p f).map (·,vh)
  |none=>none
 |.field s x f=>match cF ab x with
  |some p=>(qq P s p f).map (·,vh)
  |none=>none
 |.indexAddr t x i=>match cF ab x,cF ab i with
  |some a,some b=>(qw P t a b).map (·,vh)
  |_,_=>none
 |.index t x i=>match cF ab x,cF ab i with
  |some a,some b=>(qt P t a b).map (·,vh)
  |_,_=>none
 |.lookup t m k ok=>match cF ab m,cF ab k with
  |some a,some b=>(qG P vh t a b ok).map (·,vh)
  |_,_=>none
 |.mapUpdate t m k x=>match cF ab m,cF ab k,cF ab x with
  |some a,some b,some c=>(pK P vh t a b c).map fun ak=>(.bp [],ak)
  |_,_,_=>none
 |.insert t m k x=>match cF ab m,cF ab k,cF ab x with
  |some a,some b,some c=>(pK P vh t a b c).map fun ak=>(.bp [],ak)
  |_,_,_=>none
 |.extract x i=>match cF ab x with
  |some a=>(qu a i).map (·,vh)
  |none=>none
 |.call ⟨.builtin b,args,argTypes⟩=>match iX ab args.toList with
  |some l=>qE P vh b argTypes.toList l
  |none=>none
 |_=>none
section
variable {P:Program} {lo:Nat} {g:Fz} {σ:Sg} {vh:ah} {h:ae} {ab:aW} {ts:aC}
theorem NJ {n:Nat}:∀ {l:List PV} {l' xs:List Value},bc (VR g σ n) l l'→gq l=some xs→l'=xs
 |[],l',xs,hl,h=>by simp only[gq,ax] at h;subst h;exact hl.iP
 |v::r,l',xs,hl,h=>by
  simp only[gq] at h
  split at h
  ·rename_i p l h1 h2
   injection h with h;subst h
   obtain⟨v',r',rfl,k1,k2⟩:=hl.dt
   rw[E5 k1 h1,NJ k2 h2]
  cases h
theorem nf {α:Type}{o:Option PV}{vh ak:ah}{v:PV}(h:o.map (·,vh)=some (v,ak)):o=some v∧ak=vh:=by
 obtain⟨a,h1,h2⟩:=cZ h
 simp only[bI] at h2
 exact⟨h2.1▸h1,h2.2.symm⟩
theorem zra (s:VS lo g σ vh h){b:Builtin}{aT:List TypeId}{args:List PV}{au:List Value}{v:PV}{ak:ah}(ha:bc (VR g σ vh.next) args au)(hv:qE P vh b aT args=some (v,ak)) :
  ∃v' h',n3 P lo h b aT au=some (v',h')∧iH lo g σ vh h v ak v' h':=by
 unfold qE at hv
 split at hv
 ·obtain⟨h1,rfl⟩:=nf (α:=Unit) hv
  obtain⟨x',r1,rfl,hx,h2⟩:=ha.dt
  have:=h2.iP;subst this
  obtain⟨v',g1,g2⟩:=Xg s hx h1
  exact⟨v',h,by simp only[n3,g1,Option.map_some],.same s (.fr _ _ g2)⟩
 ·obtain⟨x',r1,rfl,hx,h2⟩:=ha.dt
  obtain⟨y',r2,rfl,hy,h3⟩:=h2.dt
  have:=h3.iP;subst this
  exact zuu s hx hy hv
 ·obtain⟨x',r1,rfl,hx,h2⟩:=ha.dt
  obtain⟨y',r2,rfl,hy,h3⟩:=h2.dt
  have:=h3.iP;subst this
  exact z1s s hx hy hv
 ·obtain⟨b6,h1,h2⟩:=cZ hv
  simp only[bI] at h2;obtain⟨rfl,rfl⟩:=h2
  obtain⟨x',r1,rfl,hx,h2⟩:=ha.dt
  obtain⟨y',r2,rfl,hy,h3⟩:=h2.dt
  have:=h3.iP;subst this
  obtain⟨h',g1,g2⟩:=zuw s hx hy h1
  exact⟨_,h',by simp only[n3,g1,Option.map_some],g2⟩
 ·obtain⟨b6,h1,h2⟩:=cZ hv
  simp only[bI] at h2;obtain⟨rfl,rfl⟩:=h2
  obtain⟨x',r1,rfl,hx,h2⟩:=ha.dt
  have:=h2.iP;subst this
  obtain⟨h',g1,g2⟩:=zwn s hx h1
  exact⟨_,h',by simp only[n3,g1,Option.map_some],g2⟩
 ·split at hv
  ·rename_i x r hc
   obtain⟨h1,rfl⟩:=nf (α:=Unit) hv
   have:=NJ ha hc;subst this
   cases hm:jY true x r with
   |none=>rw[hm] at h1;cases h1
   |some u=>rw[hm] at h1;exact⟨u,h,by simp only[n3,hm,Option.map_some],.same s (.fr _ _ (yz h1).1)⟩
  cases hv
 ·split at hv
  ·rename_i x r hc
   obtain⟨h1,rfl⟩:=nf (α:=Unit) hv
   have:=NJ ha hc;subst this
   cases hm:jY false x r with
   |none=>rw[hm] at h1;cases h1
   |some u=>rw[hm] at h1;exact⟨u,h,by simp only[n3,hm,Option.map_some],.same s (.fr _ _ (yz h1).1)⟩
  cases hv
 cases hv
theorem CG (s:VS lo g σ vh h)(ht:VT g σ vh.next ab ts){op:Op}{v:PV}{ak:ah}(hv:dS P ab vh op=some (v,ak)):∃v' h',cn P lo ts h op=some (v',h')∧iH lo g σ vh h v ak v' h':=by
 have pure:∀ {o:Option PV} {v':Value},ak=vh→VR g σ vh.next v v'→cn P lo ts h op=some (v',h)→∃v' h',cn P lo ts h op=some (v',h')∧iH lo g σ vh h v ak v' h':=fun {o v'} e hr ha=>by
  subst e;exact⟨_,_,ha,.same s hr⟩
 unfold dS at hv
 split at hv
 ·obtain⟨h1,e⟩:=nf (α:=Unit) hv
  obtain⟨v',g1,g2⟩:=eh ht h1
  exact pure (o:=none) e g2 (by simp only[cn,g1,Option.map_some])
 ·obtain⟨h1,e⟩:=nf (α:=Unit) hv
  obtain⟨v',g1,g2⟩:=eh ht h1
  exact pure (o:=none) e g2 (by simp only[cn,g1,Option.map_some])
 ·split at hv
  ·rename_i hc
   obtain⟨h1,e⟩:=nf (α:=Unit) hv
   obtain⟨c',k1,k2⟩:=eh ht hc
   have:=k2.aB rfl;cases this
   obtain⟨v',g1,g2⟩:=eh ht h1
   exact pure (o:=none) e g2 (by simp only[cn,k1,g1,Option.map_some])
  ·rename_i hc
   obtain⟨h1,e⟩:=nf (α:=Unit) hv
   obtain⟨c',k1,k2⟩:=eh ht hc
   have:=k2.aB rfl;cases this
   obtain⟨v',g1,g2⟩:=eh ht h1
   exact pure (o:=none) e g2 (by simp only[cn,k1,g1,Option.map_some])
  cases hv
 ·obtain⟨v',h',g1,g2⟩:=Xj s hv
  exact⟨v',h',g1,g2⟩
 ·obtain⟨u,h1,h2⟩:=cZ hv
  obtain⟨u',g1,g2⟩:=eh ht h1
  have:=Xi s g2
  rw[h2] at this
  exact⟨_,_,by simp only[cn,g1,Option.map_some],this⟩
 ·split at hv
  ·rename_i l hl
   obtain⟨h1,e⟩:=nf (α:=Unit) hv
   obtain⟨l',k1,k2⟩:=HZ ht hl
   obtain⟨v',g1,g2⟩:=Xl k2 h1
   exact pure (o:=none) e g2 (by simp only[cn,k1,g1,Option.map_some])
  cases hv
 ·split at hv
  ·rename_i l hl
   obtain⟨l',k1,k2⟩:=HZ ht hl
   obtain⟨v',h',g1,g2⟩:=Xm s k2 hv
   exact⟨v',h',by simp only[cn,k1,g1],g2⟩
  cases hv
 ·split at hv
  ·rename_i p hp
   obtain⟨h1,e⟩:=nf (α:=Unit) hv
   obtain⟨p',k1,k2⟩:=eh ht hp
   obtain⟨v',g1,g2⟩:=PA s k2 h1
   exact pure (o:=none) e g2 (by simp only[cn,k1,g1,Option.map_some])
  cases hv
 ·split at hv
  ·rename_i p u hp hu
   obtain⟨b6,h1,h2⟩:=cZ hv
   simp only[bI] at h2;obtain⟨rfl,rfl⟩:=h2
   obtain⟨p',k1,k2⟩:=eh ht hp
   obtain⟨u',k3,k4⟩:=eh ht hu
   obtain⟨h',g1,g2⟩:=Xo s k2 k4 h1
   exact⟨_,h',by simp only[cn,k1,k3,g1,Option.map_some],g2⟩
  cases hv
 ·split at hv
  ·rename_i i off hp
   simp only[ax,bI] at hv;obtain⟨rfl,rfl⟩:=hv
   obtain⟨p',k1,k2⟩:=eh ht hp
   have k3:=k2
   cases k2 with
   |fr _ _ h=>cases h
   |ptr=>exact⟨_,_,by simp only[cn,k1,C6,Option.map_some],.same s k3⟩
  ·rename_i cs hp
   simp only[ax,bI] at hv;obtain⟨rfl,rfl⟩:=hv
   obtain⟨p',k1,k2⟩:=eh ht hp
   have k3:=k2
   have:=k2.aB rfl;cases this
   exact⟨_,_,by simp only[cn,k1,C6,Option.map_some],.same s k3⟩
  ·rename_i f xs ys hp
   simp only[ax,bI] at hv;obtain⟨rfl,rfl⟩:=hv
   obtain⟨p',k1,k2⟩:=eh ht hp
   have k3:=k2
   cases k2 with
   |fr _ _ h=>cases h;exact⟨_,_,by simp only[cn,k1,C6,Option.map_some],.same s k3⟩
   |func=>exact⟨_,_,by simp only[cn,k1,C6,Option.map_some],.same s k3⟩
  cases hv
 ·split at hv
  ·rename_i a b ha hb
   obtain⟨h1,e⟩:=nf (α:=Unit) hv
   obtain⟨a',k1,k2⟩:=eh ht ha
   obtain⟨b',k3,k4⟩:=eh ht hb
   obtain⟨v',g1,g2⟩:=W0 k2 k4 h1
   exact pure (o:=none) e (.fr _ _ g2) (by simp only[cn,k1,k3,g1,Option.map_some])
  cases hv
 ·rename_i op ty x
  split at hv
  ·rename_i a ha
   cases hx:cF ab x with
   |none=>rw[hx] at ha;cases ha
   |some u=>
    rw[hx] at ha
    obtain⟨h1,e⟩:=nf (α:=Unit) hv
    obtain⟨u',k1,k2⟩:=eh ht hx
    have:=E5 k2 ha;subst this
    cases hu:oD op u' with
    |none=>rw[hu] at h1;cases h1
    |some w=>rw[hu] at h1;exact pure (o:=none) e (.fr _ _ (yz h1).1) (by simp only[cn,k1,hu,Option.map_some])
  cases hv
 ·rename_i sT dT x
  split at hv
  ·rename_i a ha
   cases hx:cF ab x with
   |none=>rw[hx] at ha;cases ha
   |some u=>
    rw[hx] at ha
    obtain⟨h1,e⟩:=nf (α:=Unit) hv
    obtain⟨u',k1,k2⟩:=eh ht hx
    have:=E5 k2 ha;subst this
    cases hu:oE P sT dT u' with
    |none=>rw[hu] at h1;cases h1
    |some w=>rw[hu] at h1;exact pure (o:=none) e (.fr _ _ (yz h1).1) (by simp only[cn,k1,hu,Option.map_some])
  cases hv
 ·split at hv
  ·rename_i xs ys nX hys
   simp only[ax,bI] at hv;obtain⟨rfl,rfl⟩:=hv
   obtain⟨bk,k1,k2⟩:=yA ht nX
   obtain⟨dq,k3,k4⟩:=yA ht hys
   exact⟨_,_,by simp only[cn,k1,k3],.same s (.func _ _ _ bk.toArray dq.toArray (by simpa using k2.1) (by simpa using k4.1) (fun i v v' hv aX=>k2.2 i v v' hv (by simpa using aX)) (fun i v v' hv aX=>k4.2 i v v' hv (by simpa using aX)))⟩
  cases hv
 ·simp only[ax] at hv
  have:=Xk s
  rw[hv] at this
  exact⟨_,_,rfl,this⟩
 ·split at hv
  ·rename_i a b ha hb
   obtain⟨a',k1,k2⟩:=eh ht ha
   obtain⟨b',k3,k4⟩:=eh ht hb
   obtain⟨v',h',g1,g2⟩:=Xn s k2 k4 hv
   exact⟨v',h',by simp only[cn,k1,k3,g1],g2⟩
  cases hv
 ·split at hv
  ·rename_i a l u ha hl hu
   obtain⟨h1,e⟩:=nf (α:=Unit) hv
   obtain⟨a',k1,k2⟩:=eh ht ha
   obtain⟨l',k3,k4⟩:=Ad ht hl
   obtain⟨u',k5,k6⟩:=Ad ht hu
   obtain⟨v',g1,g2⟩:=Xb k2 k4 k6 h1
   exact pure (o:=none) e g2 (by simp only[cn,k1,k3,k5,show tO ts none=some none from rfl,g1,Option.map_some])
  cases hv
 ·rename_i t x eQ dD mx
  split at hv
  ·rename_i a l u m ha hl hu hm
   split at hv
   ·rename_i r0 mO
    obtain⟨a',k1,k2⟩:=eh ht ha
    obtain⟨l',k3,k4⟩:=Ad ht hl
    obtain⟨u',k5,k6⟩:=Ad ht hu
    obtain⟨m',k7,k8⟩:=Ad ht hm
    obtain⟨v',g1,g2⟩:=Xc k2 k4 k6 k8 mO
    simp only[ax,bI] at hv
    obtain⟨rfl,rfl⟩:=hv
    exact pure (o:=none) rfl g2 (by simp only[cn,k1,k3,k5,k7,g1,Option.map_some])
   cases hb:((l.isNone||kl l)&&kl u&&kl m) with
   |false=>rw[hb] at hv;cases hv
   |true=>
    rw[hb] at hv;simp only[aJ] at hv
    simp only[bR,Bool.or_eq_true] at hb
    obtain⟨⟨gG,cK⟩,oa⟩:=hb
    obtain⟨h1,e⟩:=nf (α:=Unit) hv
    obtain⟨a',k1,k2⟩:=eh ht ha
    obtain⟨l',k3,k4⟩:=Ad ht hl
    obtain⟨u',k5,k6⟩:=Ad ht hu
    obtain⟨m',k7,k8⟩:=Ad ht hm
    obtain⟨v',g1,g2⟩:=Xf k2 k4 k6 k8 (by rcases gG with h|h;exact .inl (by simpa using h);exact .inr h) cK oa h1
    exact pure (o:=none) e g2 (by simp only[cn,k1,k3,k5,k7,g1,Option.map_some])
  cases hv
 ·split at hv
  ·rename_i p hp
   obtain⟨h1,e⟩:=nf (α:=Unit) hv
   obtain⟨p',k1,k2⟩:=eh ht hp
   obtain⟨v',g1,g2⟩:=W5 k2 h1
   exact pure (o:=none) e g2 (by simp only[cn,k1,g1,Option.map_some])
  cases hv
 ·split at hv
  ·rename_i p hp
   obtain⟨h1,e⟩:=nf (α:=Unit) hv
   obtain⟨p',k1,k2⟩:=eh ht hp
   obtain⟨v',g1,g2⟩:=W2 k2 h1
   exact pure (o:=none) e g2 (by simp only[cn,k1,g1,Option.map_some])
  cases hv
 ·split at hv
  ·rename_i a b ha hb
   obtain⟨h1,e⟩:=nf (α:=Unit) hv
   obtain⟨a',k1,k2⟩:=eh ht ha
   obtain⟨b',k3,k4⟩:=eh ht hb
   obtain⟨v',g1,g2⟩:=W7 k2 k4 h1
   exact pure (o:=none) e g2 (by simp only[cn,k1,k3,g1,Option.map_some])
  cases hv
 ·split at hv
  ·rename_i a b ha hb
   obtain⟨h1,e⟩:=nf (α:=Unit) hv
   obtain⟨a',k1,k2⟩:=eh ht ha
   obtain⟨b',k3,k4⟩:=eh ht hb
   obtain⟨v',g1,g2⟩:=W3 k2 k4 h1
   exact pure (o:=none) e g2 (by simp only[cn,k1,k3,g1,Option.map_some])
  cases hv
 ·split at hv
  ·rename_i a b ha hb
   obtain⟨h1,e⟩:=nf (α:=Unit) hv
   obtain⟨a',k1,k2⟩:=eh ht ha
   obtain⟨b',k3,k4⟩:=eh ht hb
   obtain⟨v',g1,g2⟩:=zve s k2 k4 h1
   exact pure (o:=none) e (.fr _ _ g2) (by simp only[cn,k1,k3,g1,Option.map_some])
  cases hv
 ·split at hv
  ·rename_i a b c ha hb hc
   obtain⟨b6,h1,h2⟩:=cZ hv
   simp only[bI] at h2;obtain⟨rfl,rfl⟩:=h2
   obtain⟨a',k1,k2⟩:=eh ht ha
   obtain⟨b',k3,k4⟩:=eh ht hb
   obtain⟨c',k5,k6⟩:=eh ht hc
   obtain⟨h',g1,g2⟩:=Uq s k2 k4 k6 h1
   exact⟨_,h',by simp only[cn,k1,k3,k5,g1,Option.map_some],g2⟩
  cases hv
 ·split at hv
  ·rename_i a b c ha hb hc
   obtain⟨b6,h1,h2⟩:=cZ hv
   simp only[bI] at h2;obtain⟨rfl,rfl⟩:=h2
   obtain⟨a',k1,k2⟩:=eh ht ha
   obtain⟨b',k3,k4⟩:=eh ht hb
   obtain⟨c',k5,k6⟩:=eh ht hc
   obtain⟨h',g1,g2⟩:=Uq s k2 k4 k6 h1
   exact⟨_,h',by simp only[cn,k1,k3,k5,g1,Option.map_some],g2⟩
  cases hv
 ·split at hv
  ·rename_i p hp
   obtain⟨h1,e⟩:=nf (α:=Unit) hv
   obtain⟨p',k1,k2⟩:=eh ht hp
   obtain⟨v',g1,g2⟩:=W4 k2 h1
   exact pure (o:=none) e g2 (by simp only[cn,k1,g1,Option.map_some])
  cases hv
 ·split at hv
  ·rename_i l hl
   obtain⟨l',k1,k2⟩:=yA ht hl
   obtain⟨v',h',g1,g2⟩:=zra s k2 hv
   exact⟨v',h',by simp only[cn,k1,g1],g2⟩
  cases hv
 cases hv
end
def dK (g:Fz)(σ:Sg)(vh:ah)(h:ae)(g':Fz):Prop:=∀o x,g' o=some x→o<h.next→g o=some x∨∃i y,vh.get i=some y∧y.live=true∧(σ i).1=o
abbrev gV:=Exit→aW→ah→Prop
structure dA (N b lo:Nat) (g:Fz) (σ:Sg) (vh:ah) (h:ae) (ba:aC) (h':ae) (g':Fz) (aL:Sg) (aP:aW) (ak:ah):Prop where
  t:VT g' aL ak.next aP ba
  len:ba.length=N
  s:VS lo g' aL ak h'
  le:g.le g'
  agree:∀i,i<b→aL i=σ i
  f:VF σ vh h aL ak h'
  base:b≤ak.next
  own:dK g σ vh h g'
def nS (N b lo:Nat)(g:Fz)(σ:Sg)(vh:ah)(h:ae)(K:aW→ah→Prop)(ba:aC)(h':ae):Prop:=
 ∃g' aL aP ak,dA N b lo g σ vh h ba h' g' aL aP ak∧K aP ak
def VW (P:Program)(N b:Nat)(c:Code)(Q:gV)(ab:aW)(vh:ah):Prop:=
 ∀lo g σ h ts,VT g σ vh.next ab ts→ts.length=N→VS lo g σ vh h→b≤vh.next→AW P lo c (fun e=>nS N b lo g σ vh h (Q e)) ts h
def kx (P:Program)(N b:Nat)(o:Oper)(next:aW→ah→Prop)(ab:aW)(vh:ah):Prop:=
 ∀lo g σ h ts,VT g σ vh.next ab ts→ts.length=N→VS lo g σ vh h→b≤vh.next→oM P lo o ts h (nS N b lo g σ vh h next)
def cR (P:Program)(f:FuncId)(args:List PV)(vh:ah)(R:PV→ah→Prop):Prop:=
 ∀lo g σ h au,bc (VR g σ vh.next) args au→VS lo g σ vh h→mr P lo f au h fun r h'=>∃g' aL v ak,VR g' aL ak.next v r∧VS lo g' aL ak h'∧g.le g'∧(∀i,i<vh.next→aL i=σ i)∧VF σ vh h aL ak h'∧vh.next≤ak.next∧
  dK g σ vh h g'∧R v ak
section
variable {P:Program} {N b:Nat} {Q Q':gV} {ab:aW} {vh:ah}
theorem dK.refl (g:Fz)(σ:Sg)(vh:ah)(h:ae):dK g σ vh h g:=fun o x hx _=>.inl hx
theorem dK.trans {g g1 g2:Fz}{σ oT:Sg}{vh b6:ah}{h h1:ae}(a:dK g σ vh h g1)(f:VF σ vh h oT b6 h1)(c:dK g1 oT b6 h1 g2):dK g σ vh h g2:=fun o x hx ho=>by
 rcases c o x hx (Nat.lt_of_lt_of_le ho f.next) with h|⟨i,y,h1,h2,h3⟩
 ·exact a o x h ho
 obtain⟨j,z,k1,k2,k3⟩:=f.own i y h1 h2 (h3▸ho)
 exact .inr ⟨j,z,k1,k2,k3.trans h3⟩
theorem dA.refl {lo:Nat}{g:Fz}{σ:Sg}{h:ae}{ts:aC}(ht:VT g σ vh.next ab ts)(hn:ts.length=N)(s:VS lo g σ vh h)(hb:b≤vh.next):dA N b lo g σ vh h ts h g σ ab vh:=
 ⟨ht,hn,s,Fz.le_refl g,fun _ _=>rfl,VF.refl _ _ _,hb,dK.refl _ _ _ _⟩
theorem dA.trans {lo:Nat}{g g1 g2:Fz}{σ oT dp:Sg}{b6 aQ:ah}{h h1 h2:ae}{jv lR:aC}{gO ay:aW}(a:dA N b lo g σ vh h jv h1 g1 oT gO b6)(c:dA N b lo g1 oT b6 h1 lR h2 g2 dp ay aQ):dA N b lo g σ vh h lR h2 g2 dp ay aQ:=
 ⟨c.t,c.len,c.s,Fz.le_trans a.le c.le,fun i hi=>(c.agree i hi).trans (a.agree i hi),a.f.trans c.f,c.base,a.own.trans a.f c.own⟩
theorem nS.mono {lo:Nat}{g:Fz}{σ:Sg}{h:ae}{K K':aW→ah→Prop}{ba:aC}{h':ae}(hk:∀ab vh,K ab vh→K' ab vh):nS N b lo g σ vh h K ba h'→nS N b lo g σ vh h K' ba h':=
 fun⟨g',aL,aP,ak,a,k⟩=>⟨g',aL,aP,ak,a,hk _ _ k⟩
theorem nS.trans {lo:Nat}{g g1:Fz}{σ oT:Sg}{b6:ah}{h h1:ae}{jv lR:aC}{gO:aW}{K:aW→ah→Prop}{h2:ae}(a:dA N b lo g σ vh h jv h1 g1 oT gO b6):nS N b lo g1 oT b6 h1 K lR h2→nS N b lo g σ vh h K lR h2:=
 fun⟨g',aL,aP,ak,c,k⟩=>⟨g',aL,aP,ak,a.trans c,k⟩
theorem VW.mono {c:Code}(hc:VW P N b c Q ab vh)(hq:∀e ab vh,Q e ab vh→Q' e ab vh):VW P N b c Q' ab vh:=
 fun lo g σ h ts ht hn s hb=>(hc lo g σ h ts ht hn s hb).mono fun e ts h hs=>hs.mono (hq e)
theorem cR.mono {f:FuncId}{args:List PV}{R R':PV→ah→Prop}(hc:cR P f args vh R)(hr:∀v vh,R v vh→R' v vh):cR P f args vh R':=
 fun lo g σ h au ha s=>(hc lo g σ h au ha s).mono fun r h' ⟨g',aL,v,ak,h1,h2,h3,h4,h5,h6,h7,h8⟩=>⟨g',aL,v,ak,h1,h2,h3,h4,h5,h6,h7,hr _ _ h8⟩
theorem VW.skip (hq:Q .normal ab vh):VW P N b .skip Q ab vh:=fun lo g σ h ts ht hn s hb=>.skip ⟨g,σ,ab,vh,.refl ht hn s hb,hq⟩
theorem VW.label {l:Nat}(hq:Q .normal ab vh):VW P N b (.label l) Q ab vh:=fun lo g σ h ts ht hn s hb=>.label ⟨g,σ,ab,vh,.refl ht hn s hb,hq⟩
theorem VW.exit {id:Nat}(hq:Q (.exit id) ab vh):VW P N b (.exit id) Q ab vh:=fun lo g σ h ts ht hn s hb=>.exit ⟨g,σ,ab,vh,.refl ht hn s hb,hq⟩
theorem VW.ret (hq:Q .ret ab vh):VW P N b .ret Q ab vh:=fun lo g σ h ts ht hn s hb=>.ret ⟨g,σ,ab,vh,.refl ht hn s hb,hq⟩
def zt (next:aW→ah→Prop)(Q:gV):gV
 |.normal=>next
 |e=>Q e
theorem VW.seq {x y:Code}(hx:VW P N b x (zt (VW P N b y Q) Q) ab vh):VW P N b (.seq x y) Q ab vh:=fun lo g σ h ts ht hn s hb=>
 .seq ((hx lo g σ h ts ht hn s hb).mono fun e ba h' ⟨g',aL,aP,ak,a,k⟩=>by
  cases e with
  |normal=>exact(k lo g' aL h' ba a.t a.len a.s a.base).mono fun e2 lR h2 hs=>hs.trans a
  |exit id=>exact⟨g',aL,aP,ak,a,k⟩
  |goto l=>exact⟨g',aL,aP,ak,a,k⟩
  |ret=>exact⟨g',aL,aP,ak,a,k⟩
  |panic ch=>exact⟨g',aL,aP,ak,a,k⟩
  |outgrown=>exact⟨g',aL,aP,ak,a,k⟩)
theorem VW.cond {c:Operand}{x y:Code}{v:Bool}(hc:cF ab c=some (.bool v))(hb:VW P N b (if v then x else y) Q ab vh):VW P N b (.cond c x y) Q ab vh:=fun lo g σ h ts ht hn s uv=>by
 obtain⟨v',k1,k2⟩:=eh ht hc
 have:=k2.aB rfl;cases this
 exact .cond k1 (hb lo g σ h ts ht hn s uv)
theorem VW.eK {c:Operand}{x y:Code}(hc:cF ab c=some (.bool true))(hb:VW P N b x Q ab vh):VW P N b (.cond c x y) Q ab vh:=.cond hc hb
theorem VW.iM {c:Operand}{x y:Code}(hc:cF ab c=some (.bool false))(hb:VW P N b y Q ab vh):VW P N b (.cond c x y) Q ab vh:=.cond hc hb
def Ur (id:Nat)(Q:gV):gV
 |.exit ym=>if ym=id then Q .normal else Q (.exit ym)
 |e=>Q e
theorem VW.block {id:Nat}{c:Code}(hc:VW P N b c (Ur id Q) ab vh):VW P N b (.block id c) Q ab vh:=fun lo g σ h ts ht hn s hb=>
 .block ((hc lo g σ h ts ht hn s hb).mono fun e ba h' hs=>by
  cases e with
  |exit ym=>
   simp only[HE,Ur] at hs ⊢
   by_cases hi:ym=id
   ·simp only[hi,if_true] at hs ⊢;exact hs
   simp only[hi,if_false] at hs ⊢;exact hs
  |normal=>exact hs
  |goto l=>exact hs
  |ret=>exact hs
  |panic ch=>exact hs
  |outgrown=>exact hs)
def z6n (Q:gV):gV
 |.goto _=>fun _ _=>False
 |e=>Q e
theorem VW.scope {c:Code}(hc:VW P N b c (z6n Q) ab vh):VW P N b (.scope c) Q ab vh:=fun lo g σ h ts ht hn s hb=>
 .scope ((hc lo g σ h ts ht hn s hb).mono fun e ba h' hs=>by
  cases e with
  |goto l=>obtain⟨_,_,_,_,_,k⟩:=hs;exact k.elim
  |exit id=>exact hs
  |normal=>exact hs
  |ret=>exact hs
  |panic ch=>exact hs
  |outgrown=>exact hs)
theorem VW.loop {c:Code}(I:Nat→aW→ah→Prop)(m:Nat)(h0:I m ab vh)(round:∀m ab vh,I m ab vh→VW P N b c (zt (fun aP ak=>∃m',m'<m∧I m' aP ak) Q) ab vh):VW P N b (.loop c) Q ab vh:=fun lo g σ h ts ht hn s hb=>by
 refine AW.loop (fun m ba h'=>∃g' aL aP ak,dA N b lo g σ vh h ba h' g' aL aP ak∧I m aP ak) m ⟨g,σ,ab,vh,.refl ht hn s hb,h0⟩ ?_
 rintro m ba h' ⟨g',aL,aP,ak,a,k⟩
 refine(round m aP ak k lo g' aL h' ba a.t a.len a.s a.base).mono fun e lR h2 hs=>?_
 cases e with
 |normal=>
  obtain⟨g2,dp,ay,aQ,c2,m',aU,k2⟩:=hs
  exact⟨m',aU,g2,dp,ay,aQ,a.trans c2,k2⟩
 |exit id=>exact hs.trans a
 |goto l=>exact hs.trans a
 |ret=>exact hs.trans a
 |panic ch=>exact hs.trans a
 |outgrown=>exact hs.trans a
def bU (ab:aW)(dst:Option Tmp)(v:PV):aW:=
 match dst with
 |some d=>(d,v)::ab
 |none=>ab
def gr (N:Nat)(dst:Option Tmp):Bool:=
 match dst with
 |some d=>Nat.blt d N
 |none=>true
theorem ru {g g':Fz}{σ aL:Sg}{n n':Nat}{ts:aC}{v:PV}{v':Value}(hle:g.le g')(hn:n≤n')(cp:∀i,i<n→aL i=σ i)(ht:VT g σ n ab ts)(dst:Option Tmp)(hd:gr ts.length dst=true)(hv:VR g' aL n' v v') :
  VT g' aL n' (bU ab dst v) (bw ts dst v')∧(bw ts dst v').length=ts.length:=by
 cases dst with
 |none=>exact⟨ht.mono hle hn cp,rfl⟩
 |some d=>
  have hd:d<ts.length:=by simpa[gr] using hd
  refine⟨fun t u hu=>?_,by simp[bw]⟩
  simp only[bU,bS,beq_eq] at hu
  by_cases Gm:t=d
  ·subst Gm
   simp at hu;subst hu
   rw[WW hd];exact hv
  simp[Gm] at hu
  rw[Po (fun h=>Gm h.symm)]
  exact(ht t u hu).mono hle hn cp
theorem kx.op {o:Oper}{v:PV}{ak:ah}{next:aW→ah→Prop}(hv:dS P ab vh o.op=some (v,ak))(hd:gr N o.dst=true)(hn:next (bU ab o.dst v) ak):kx P N b o next ab vh:=fun lo g σ h ts ht hl s hb=>by
 obtain⟨v',h',k1,aL,k2,k3,k4,k5,k6⟩:=CG s ht hv
 obtain⟨g1,g2⟩:=ru (Fz.le_refl g) k5 k6 ht o.dst (hl▸hd) k2
 exact .op k1 ⟨g,aL,_,ak,⟨g1,g2.trans hl,k3,Fz.le_refl g,fun i hi=>k6 i (by omega),k4,by omega,dK.refl _ _ _ _⟩,hn⟩
theorem kx.call {o:Oper}{fo:Operand}{args:Array Operand}{aT:Array TypeId}{f:FuncId}{xs ys l:List PV}{next:aW→ah→Prop}(ho:o.op=.call ⟨.value fo,args,aT⟩)
  (hf:cF ab fo=some (.func f xs ys)) (hl:iX ab args.toList=some l) (dM:∀cs w,(callFunc f cs).run P w=.ok (.enter f cs) w) (hd:gr N o.dst=true)
  (hc:cR P f (xs++l++ys) vh fun r ak=>next (bU ab o.dst r) ak):kx P N b o next ab vh:=fun lo g σ h ts ht hn s hb=>by
 obtain⟨f',k1,k2⟩:=eh ht hf
 obtain⟨l',k3,k4⟩:=yA ht hl
 have GW:∃bk dq:Array Value,f'=.func (.func f) bk dq∧bc (VR g σ vh.next) xs bk.toList∧bc (VR g σ vh.next) ys dq.toList:=by
  cases k2 with
  |fr _ _ h=>cases h with
   |func _ _ _ bk dq hx hy rx ry=>exact⟨bk,dq,rfl,⟨by simpa using hx,fun i v v' hv aX=>.fr _ _ (rx i v v' hv (by simpa using aX))⟩,⟨by simpa using hy,fun i v v' hv aX=>.fr _ _ (ry i v v' hv (by simpa using aX))⟩⟩
  |func _ _ _ bk dq hx hy rx ry=>exact⟨bk,dq,rfl,⟨by simpa using hx,fun i v v' hv aX=>rx i v v' hv (by simpa using aX)⟩,⟨by simpa using hy,fun i v v' hv aX=>ry i v v' hv (by simpa using aX)⟩⟩
 obtain⟨bk,dq,rfl,hx,hy⟩:=GW
 refine .JX ho k1 k3 dM ((hc lo g σ h _ ((hx.append k4).append hy) s).mono fun r h' ⟨g',aL,v,ak,h1,h2,h3,h4,h5,h6,h7,h8⟩=>?_)
 obtain⟨g1,g2⟩:=ru h3 h6 h4 ht o.dst (hn▸hd) h1
 exact⟨g',aL,_,ak,⟨g1,g2.trans hn,h2,h3,fun i hi=>h4 i (by omega),h5,by omega,h7⟩,h8⟩
def rS (ops:Array Oper)(ab:aW)(j:Nat):Option PV:=
 match (ops[j]?).bind (·.dst) with
 |some d=>bS d ab
 |none=>none
def ie (ops:Array Oper)(o:Oper)(ab:aW):Option Bool:=
 match o.guard with
 |none=>some true
 |some (j,want)=>match rS ops ab j with
  |some (.bool v)=>some (bif want then v else !v)
  |some (.bp [])=>some false
  |_=>none
theorem AJ {g:Fz}{σ:Sg}{n:Nat}{ts:aC}{ops:Array Oper}{o:Oper}{w:Bool}(hd:∀d∈(ops.toList.filterMap (·.dst)),d<ts.length)(ht:VT g σ n ab ts)(hw:ie ops o ab=some w):Region.wanted o (l3 ops ts)=w:=by
 unfold ie at hw
 unfold Region.wanted
 split at hw
 ·rename_i hg;injection hw with hw;subst hw;rw[hg]
 rename_i j want hg
 rw[hg]
 simp only
 unfold rS at hw
 cases hj:(ops[j]?).bind (·.dst) with
 |none=>rw[hj] at hw;simp at hw
 |some d=>
  rw[hj] at hw
  simp only at hw
  have aU:d<ts.length:=by
   refine hd d ?_
   cases ho:ops[j]? with
   |none=>rw[ho] at hj;cases hj
   |some oo=>
    rw[ho] at hj
    rw[List.mem_filterMap]
    exact⟨oo,by have:=Array.mem_of_getElem? ho;simpa using this,hj⟩
  have fV:ts[d]?=some (ts.getD d Go.undef):=by simp[List.getD,aU]
  unfold l3
  rw[hj]
  simp only[Option.bind_some]
  rw[fV]
  split at hw
  ·rename_i v hv
   injection hw with hw;subst hw
   have Ed:=(ht d _ hv).aB rfl
   generalize ts.getD d Go.undef=u at Ed
   cases Ed
   cases want<;>cases v<;>rfl
  ·rename_i hv
   injection hw with hw;subst hw
   have Ed:=ht d _ hv
   obtain⟨ao,e,_⟩:=KD Ed
   rw[e];rfl
  cases hw
def bO (P:Program)(N b:Nat)(ops:Array Oper)(K:aW→ah→Prop):List Nat→aW→ah→Prop
 |[],ab,vh=>K ab vh
 |i::rest,ab,vh=>
  match ops[i]? with
  |none=>bO P N b ops K rest ab vh
  |some o=>match ie ops o ab with
   |some true=>kx P N b o (bO P N b ops K rest) ab vh
   |some false=>gr N o.dst=true∧bO P N b ops K rest (bU ab o.dst (.bp [])) vh
   |none=>False
theorem Jf {ops:Array Oper}(hd:∀d∈(ops.toList.filterMap (·.dst)),d<N){K:aW→ah→Prop}{lo:Nat}{g:Fz}{σ:Sg}{h:ae}:∀(l:List Nat) (ba:aC) (h':ae) (g':Fz) (aL:Sg) (aP:aW) (ak:ah),dA N b lo g σ vh h ba h' g' aL aP ak→
  bO P N b ops K l aP ak→oN P lo ops (nS N b lo g σ vh h K) l ba h'
 |[],ba,h',g',aL,aP,ak,a,k=>⟨g',aL,aP,ak,a,k⟩
 |i::rest,ba,h',g',aL,aP,ak,a,k=>by
  simp only[bO] at k
  simp only[oN]
  cases ho:ops[i]? with
  |none=>rw[ho] at k;exact Jf hd rest ba h' g' aL aP ak a k
  |some o=>
   rw[ho] at k
   simp only at k ⊢
   split at k
   ·rename_i hw
    rw[AJ (a.len▸hd) a.t hw]
    simp only[if_true]
    exact(k lo g' aL h' ba a.t a.len a.s a.base).mono fun lR h2 ⟨g2,dp,ay,aQ,c,k2⟩=>Jf hd rest lR h2 g2 dp ay aQ (a.trans c) k2
   ·rename_i hw
    rw[AJ (a.len▸hd) a.t hw]
    simp only[Bool.false_eq_true,if_false]
    obtain⟨g1,g2⟩:=ru (Fz.le_refl g') (Nat.le_refl _) (fun _ _=>rfl) a.t o.dst (a.len▸k.1) (.fr _ _ sb)
    exact Jf hd rest _ h' g' aL _ ak ⟨g1,g2.trans a.len,a.s,a.le,a.agree,a.f,a.base,a.own⟩ k.2
   exact k.elim
def xO (N:Nat)(ops:Array Oper):Bool:=ops.toList.all fun o=>gr N o.dst
theorem NK {N:Nat}{ops:Array Oper}(h:xO N ops=true):∀d∈(ops.toList.filterMap (·.dst)),d<N:=fun d hd=>by
 rw[List.mem_filterMap] at hd
 obtain⟨o,ho,hd⟩:=hd
 have:=(List.all_eq_true.1 h) o ho
 rw[hd] at this
 simpa[gr] using this
theorem VW.region {id:Nat}{ops:Array Oper}(hd:xO N ops=true)(hk:bO P N b ops (Q .normal) (List.range ops.size) ab vh):VW P N b (.region id ops false) Q ab vh:=fun lo g σ h ts ht hn s hb=>
 .region (Jf (NK hd) _ ts h g σ ab vh (.refl ht hn s hb) hk)
def fx (P:Program)(N:Nat)(ops:Array Oper):List Nat→aW→ah→Option (aW×ah)
 |[],ab,vh=>some (ab,vh)
 |i::r,ab,vh=>match ops[i]? with
  |none=>none
  |some o=>match ie ops o ab with
   |some true=>match dS P ab vh o.op with
    |some (v,ak)=>fx P N ops r (bU ab o.dst v) ak
    |none=>none
   |some false=>fx P N ops r (bU ab o.dst (.bp [])) vh
   |none=>none
theorem bO.run {ops:Array Oper}(hd:xO N ops=true){K:aW→ah→Prop}:∀ {l r:List Nat} {ab aP:aW} {vh ak:ah},fx P N ops l ab vh=some (aP,ak)→bO P N b ops K r aP ak→bO P N b ops K (l++r) ab vh
 |[],r,ab,aP,vh,ak,hr,hk=>by
  simp only[fx,ax,bI] at hr
  obtain⟨rfl,rfl⟩:=hr;exact hk
 |i::l,r,ab,aP,vh,ak,hr,hk=>by
  simp only[fx] at hr
  simp only[List.cons_append,bO]
  cases ho:ops[i]? with
  |none=>rw[ho] at hr;cases hr
  |some o=>
   rw[ho] at hr
   simp only at hr ⊢
   have qU:gr N o.dst=true:=(List.all_eq_true.1 hd) o (by have:=Array.mem_of_getElem? ho;simpa using this)
   split at hr
   ·split at hr
    ·rename_i v b6 hv
     exact .op hv qU (bO.run hd hr hk)
    cases hr
   ·exact⟨qU,bO.run hd hr hk⟩
   cases hr
theorem VW.run {id:Nat}{ops:Array Oper}{aP:aW}{ak:ah}(hd:xO N ops=true)(hr:fx P N ops (List.range ops.size) ab vh=some (aP,ak))(hk:Q .normal aP ak):VW P N b (.region id ops false) Q ab vh:=
 .region hd (by have:=bO.run (b:=b) (K:=Q .normal) (r:=[]) hd hr hk;rwa [List.append_nil] at this)
def rT (P:Program)(ab:aW)(vh:ah):ResultVar→Option PV
 |.tmp t=>bS t ab
 |.cell a t=>match bS a ab with
  |some p=>pI P vh t p
  |none=>none
def ma (P:Program)(ab:aW)(vh:ah):List ResultVar→Option (List PV)
 |[]=>some []
 |x::r=>match rT P ab vh x,ma P ab vh r with
  |some v,some l=>some (v::l)
  |_,_=>none
def mX (l:List PV):PV:=
 match l with
 |[v]=>v
 |l=>.bp l
theorem Us {lo:Nat}{g:Fz}{σ:Sg}{h:ae}{ts:aC}(ht:VT g σ vh.next ab ts)(s:VS lo g σ vh h):∀ {rs:List ResultVar} {l:List PV},ma P ab vh rs=some l→∃l',sC P ts h rs=some l'∧bc (VR g σ vh.next) l l'
 |[],l,hl=>by simp only[ma,ax] at hl;subst hl;exact⟨[],rfl,.nil⟩
 |x::r,l,hl=>by
  simp only[ma] at hl
  split at hl
  ·rename_i v l1 h1 h2
   injection hl with hl;subst hl
   obtain⟨l',k1,k2⟩:=Us ht s h2
   cases x with
   |tmp t=>exact⟨_::l',by simp only[sC,EG,k1],.cons (ht t v h1) k2⟩
   |cell a t=>
    simp only[rT] at h1
    split at h1
    ·rename_i p hp
     obtain⟨v',g1,g2⟩:=PA s (ht a p hp) h1
     exact⟨v'::l',by simp only[sC,EG,g1,k1],.cons g2 k2⟩
    cases h1
  cases hl
theorem zsi {g:Fz}{σ:Sg}{n:Nat}{l:List PV}{l':List Value}(h:bc (VR g σ n) l l'):VR g σ n (mX l) (zR l'):=by
 have G2:∀ {l:List PV} {l':List Value},bc (VR g σ n) l l'→VR g σ n (.bp l) (.tuple l'.toArray):=fun {l l'} h=>.bp _ _ (by simpa using h.1) fun i v v' hv aX=>h.2 i v v' hv (by simpa using aX)
 match l,l',h with
 |[],l',h=>rw[h.iP];exact G2 .nil
 |[v],l',h=>
  obtain⟨v',r,rfl,h1,h2⟩:=h.dt
  rw[h2.iP];exact h1
 |v::u::r,l',h=>
  obtain⟨v',r',rfl,h1,h2⟩:=h.dt
  obtain⟨u',r2,rfl,h3,h4⟩:=h2.dt
  exact G2 (.cons h1 (.cons h3 h4))
def NL (P:Program)(fn:Func)(R:PV→ah→Prop):gV
 |.normal,ab,vh=>∃l,ma P ab vh fn.results.toList=some l∧R (mX l) vh
 |.ret,ab,vh=>∃l,ma P ab vh fn.results.toList=some l∧R (mX l) vh
 |_,_,_=>False
def l9:Nat→List PV→aW
 |_,[]=>[]
 |n,v::r=>(n,v)::l9 (n+1) r
theorem NM:∀(l:List PV) (n t:Nat),bS t (l9 n l)=if n≤t then l[t - n]? else none
 |[],n,t=>by simp[l9,bS]
 |v::r,n,t=>by
  simp only[l9,bS,beq_eq,NM r (n+1) t]
  by_cases h:t=n
  ·subst h;simp
  by_cases h2:n≤t
  ·have h3:n+1≤t:=by omega
   have h4:t - n=(t - (n+1))+1:=by omega
   simp[h,h2,h3,h4]
  have h3:¬n+1≤t:=by omega
  simp[h,h2,h3]
theorem cR.bV {f:FuncId}{fn:Func}{c:Code}{args:List PV}{R:PV→ah→Prop}(hf:P.funcs[f]?=some fn)(hb:fn.body=some c)(hn:Nat.ble args.length fn.ntmps=true)
  (hc:VW P fn.ntmps vh.next c (NL P fn R) (l9 0 args) vh):cR P f args vh R:=fun lo g σ h au ha s=>by
 have hn:args.length≤fn.ntmps:=by simpa using hn
 have hlen:(au++List.replicate (fn.ntmps - au.length) Go.undef).length=fn.ntmps:=by
  have:=ha.1;simp;omega
 have ht:VT g σ vh.next (l9 0 args) (au++List.replicate (fn.ntmps - au.length) Go.undef):=fun t v hv=>by
  rw[NM] at hv
  simp at hv
  obtain⟨v',h1,h2⟩:=ha.get hv
  have aU:t<au.length:=by
   rcases Nat.lt_or_ge t au.length with h|h
   ·exact h
   rw[List.getElem?_eq_none h] at h1;cases h1
  have:(au++List.replicate (fn.ntmps - au.length) Go.undef).getD t Go.undef=v':=by
   rw[List.getD,List.getElem?_append_left aU,h1];rfl
  rw[this];exact h2
 refine .bV hf hb ((hc lo g σ h _ ht hlen s (Nat.le_refl _)).mono fun e ba h' ⟨g',aL,aP,ak,a,k⟩=>?_)
 have fin:(∃l,ma P aP ak fn.results.toList=some l∧R (mX l) ak)→∃l',sC P ba h' fn.results.toList=some l'∧∃g' aL v ak,VR g' aL ak.next v (zR l')∧VS lo g' aL ak h'∧g.le g'∧(∀i,i<vh.next→aL i=σ i)∧VF σ vh h aL ak h'∧vh.next≤ak.next∧
   dK g σ vh h g'∧R v ak:=fun⟨l,hl,hR⟩=>by
  obtain⟨l',k1,k2⟩:=Us a.t a.s hl
  exact⟨l',k1,g',aL,mX l,ak,zsi k2,a.s,a.le,a.agree,a.f,a.base,a.own,hR⟩
 cases e with
 |normal=>exact fin k
 |ret=>exact fin k
 |exit id=>exact k.elim
 |goto l=>exact k.elim
 |panic ch=>exact k.elim
 |outgrown=>exact k.elim
end
inductive Alt (vh:ah) (n2:Nat) (D:Nat→Bool) (ρ:Nat→Nat):PV→PV→Prop where
  |same (v:PV) (h:v.aB=true):Alt vh n2 D ρ v v
  |ptr (i j off:Nat) (hj:j<n2) (hi:ρ j=i):Alt vh n2 D ρ (.ptr i off) (.ptr j off)
  |own (i j off len k:Nat) (hj:j<n2) (hi:ρ j=i):Alt vh n2 D ρ (.own i off len k) (.own j off len k)
  |sub (i j off len:Nat) (hj:j<n2) (hi:ρ j=i):Alt vh n2 D ρ (.sub i off len) (.sub j off len)
  |wN (i off:Nat):Alt vh n2 D ρ (.sub i off 0) (.vec [])
  |NN (i j off len k:Nat) (hj:j<n2) (hi:ρ j=i):Alt vh n2 D ρ (.own i off len k) (.sub j off len)
  |r7 (i j n:Nat) (nl:Bool) (sz:Nat) (es:List PV) (hj:j<n2) (hi:ρ j=i) (hg:vh.get i=some (.grow sz es)) (hn:es.length=n) (h0:0<n):Alt vh n2 D ρ (.grow i n nl) (.sub j 0 n)
  |CH (i j n:Nat) (nl:Bool) (es:List PV) (hj:j<n2) (hi:ρ j=i) (hg:vh.get i=some (.bJ es)) (hn:es.length=n):Alt vh n2 D ρ (.grow i n nl) (.sub j 0 n)
  |grow (i j n:Nat) (nl:Bool) (hj:j<n2) (hi:ρ j=i):Alt vh n2 D ρ (.grow i n nl) (.grow j n nl)
  |aY (i j:Nat) (hj:j<n2) (hi:ρ j=i):Alt vh n2 D ρ (.aY i) (.aY j)
  |bN (i j:Nat) (hj:j<n2) (hi:ρ j=i):Alt vh n2 D ρ (.bN i) (.bN j)
  |bX (i j:Nat) (nl:Bool):Alt vh n2 D ρ (.grow i 0 nl) (.grow j 0 nl)
  |aF (j:Nat) (nl:Bool):Alt vh n2 D ρ .aF (.grow j 0 nl)
  |e0 (j:Nat):Alt vh n2 D ρ .e0 (.grow j 0 false)
  |lK (i j off:Nat):Alt vh n2 D ρ (.own i off 0 0) (.grow j 0 false)
  |dJ:Alt vh n2 D ρ .aF (.vec [])
  |e0v:Alt vh n2 D ρ .e0 (.vec [])
  |wO (i off k:Nat):Alt vh n2 D ρ (.own i off 0 k) (.vec [])
  |rA (i:Nat) (nl:Bool):Alt vh n2 D ρ (.grow i 0 nl) (.vec [])
  |CI (i:Nat):Alt vh n2 D ρ (.grow i 0 true) .aF
  |gM (i off len k:Nat) (ag:Bool) (sz:Nat) (cs es:List PV) (hD:D i=true) (hg:vh.get i=some (.arr ag sz cs)) (he:jw vh sz (.own i off len k)=some es):Alt vh n2 D ρ (.own i off len k) (.vec es)
  |q8 (i off len:Nat) (ag:Bool) (sz:Nat) (cs es:List PV) (hD:D i=true) (hg:vh.get i=some (.arr ag sz cs)) (he:jw vh sz (.sub i off len)=some es):Alt vh n2 D ρ (.sub i off len) (.vec es)
  |bJ (i n:Nat) (nl:Bool) (sz:Nat) (es:List PV) (hD:D i=true) (hg:vh.get i=some (.grow sz es)) (hn:es.length=n):Alt vh n2 D ρ (.grow i n nl) (.vec es)
  |CJ (i off:Nat) (cs:List PV) (hD:D i=true) (hg:vh.get i=some (.box cs)) (hf:PV.aG cs=true) (hle:off≤cs.length):Alt vh n2 D ρ (.ptr i off) (.vp (cs.drop off))
  |wP (i off:Nat) (ag:Bool) (sz:Nat) (cs:List PV) (hD:D i=true) (hg:vh.get i=some (.arr ag sz cs)) (hle:off≤cs.length):Alt vh n2 D ρ (.ptr i off) (.vp (cs.drop off))
  |dz (i:Nat) (es:List (PV×PV)) (hD:D i=true) (hg:vh.get i=some (.map es)):Alt vh n2 D ρ (.aY i) (.az es)
  |agg (cs lQ:List PV) (hs:cs.length=lQ.length) (r:∀(i:Nat) v v2,cs[i]?=some v→lQ[i]?=some v2→Alt vh n2 D ρ v v2):Alt vh n2 D ρ (.agg cs) (.agg lQ)
  |bp (cs lQ:List PV) (hs:cs.length=lQ.length) (r:∀(i:Nat) v v2,cs[i]?=some v→lQ[i]?=some v2→Alt vh n2 D ρ v v2):Alt vh n2 D ρ (.bp cs) (.bp lQ)
  |func (f:FuncId) (xs ys Jg Jh:List PV) (hx:xs.length=Jg.length) (hy:ys.length=Jh.length) (rx:∀(i:Nat) v v2,xs[i]?=some v→Jg[i]?=some v2→Alt vh n2 D ρ v v2)
      (ry:∀(i:Nat) v v2,ys[i]?=some v→Jh[i]?=some v2→Alt vh n2 D ρ v v2):Alt vh n2 D ρ (.func f xs ys) (.func f Jg Jh)
def aA (vh:ah)(n2:Nat)(D:Nat→Bool)(ρ:Nat→Nat)(l l2:List PV):Prop:=l.length=l2.length∧∀(i:Nat) v v2,l[i]?=some v→l2[i]?=some v2→Alt vh n2 D ρ v v2
theorem aA.nil {vh:ah}{n2:Nat}{D:Nat→Bool}{ρ:Nat→Nat}:aA vh n2 D ρ [] []:=⟨rfl,fun i v v2 h=>by simp at h⟩
theorem aA.cons {vh:ah}{n2:Nat}{D:Nat→Bool}{ρ:Nat→Nat}{v v2:PV}{l l2:List PV}(h:Alt vh n2 D ρ v v2)(hl:aA vh n2 D ρ l l2):aA vh n2 D ρ (v::l) (v2::l2):=by
 refine⟨by simp[hl.1],fun i u u2 hu DN=>?_⟩
 cases i with
 |zero=>simp at hu DN;subst hu;subst DN;exact h
 |succ i=>simp at hu DN;exact hl.2 i u u2 hu DN
theorem Alt.ky {vh:ah}{n2:Nat}{D:Nat→Bool}{ρ:Nat→Nat}{l l2:List PV}(h:aA vh n2 D ρ l l2):Alt vh n2 D ρ (.agg l) (.agg l2):=.agg _ _ h.1 h.2
theorem Alt.CA {vh:ah}{n2:Nat}{D:Nat→Bool}{ρ:Nat→Nat}{l l2:List PV}(h:aA vh n2 D ρ l l2):Alt vh n2 D ρ (.bp l) (.bp l2):=.bp _ _ h.1 h.2
theorem Alt.dv {vh:ah}{n2:Nat}{D:Nat→Bool}{ρ:Nat→Nat}{f:FuncId}{l l2 r r2:List PV}(h:aA vh n2 D ρ l l2)(h':aA vh n2 D ρ r r2):Alt vh n2 D ρ (.func f l r) (.func f l2 r2):=.func _ _ _ _ _ h.1 h'.1 h.2 h'.2
noncomputable def Fz.more (g:Fz)(σ:Sg)(vh:ah)(h:ae)(D:Nat→Bool):Fz:=fun o=>
 open Classical in if ∃i x,D i=true∧vh.get i=some x∧x.live=true∧(σ i).1=o then h.get o else g o
section
variable {lo:Nat} {g:Fz} {σ:Sg} {vh:ah} {h:ae} {D:Nat→Bool} {ρ:Nat→Nat} {n2:Nat}
theorem sc (s:VS lo g σ vh h):g.le (g.more σ vh h D):=fun o x hx=>by
 unfold Fz.more
 split
 ·rename_i hc
  obtain⟨i,y,h1,h2,h3,h4⟩:=hc
  have:=s.iG i y h2 h3
  rw[h4,hx] at this;cases this
 exact hx
theorem Ee {i:Nat}{x:aI}(hD:D i=true)(hx:vh.get i=some x)(hl:x.live=true):g.more σ vh h D (σ i).1=h.get (σ i).1:=by
 unfold Fz.more
 rw[if_pos ⟨i,x,hD,hx,hl,rfl⟩]
theorem Ef (s:VS lo g σ vh h):∀o x,g.more σ vh h D o=some x→h.get o=some x:=fun o x hx=>by
 unfold Fz.more at hx
 split at hx
 ·exact hx
 exact s.fz o x hx
theorem G3:dK g σ vh h (g.more σ vh h D):=fun o x hx _=>by
 unfold Fz.more at hx
 split at hx
 ·rename_i hc
  obtain⟨i,y,h1,h2,h3,h4⟩:=hc
  exact .inr ⟨i,y,h2,h3,h4⟩
 exact .inl hx
theorem Ji {v':Value}{f:FuncId}{xs ys:List PV}{n:Nat}(hv:VR g σ n (.func f xs ys) v'):∃bk dq:Array Value,v'=.func (.func f) bk dq∧bc (VR g σ n) xs bk.toList∧bc (VR g σ n) ys dq.toList:=by
 cases hv with
 |fr _ _ h=>cases h with
  |func _ _ _ bk dq hx hy rx ry=>exact⟨bk,dq,rfl,⟨by simpa using hx,fun i v v' hv aX=>.fr _ _ (rx i v v' hv (by simpa using aX))⟩,⟨by simpa using hy,fun i v v' hv aX=>.fr _ _ (ry i v v' hv (by simpa using aX))⟩⟩
 |func _ _ _ bk dq hx hy rx ry=>exact⟨bk,dq,rfl,⟨by simpa using hx,fun i v v' hv aX=>rx i v v' hv (by simpa using aX)⟩,⟨by simpa using hy,fun i v v' hv aX=>ry i v v' hv (by simpa using aX)⟩⟩
theorem G4 {R:PV→Value→Prop}{R2:PV→Value→Prop}{l l2:List PV}{l':List Value}(hp:bc R l l')(hs:l.length=l2.length)(ih:∀(i:Nat) v v2,l[i]?=some v→l2[i]?=some v2→∀v',R v v'→R2 v2 v'):bc R2 l2 l':=
 ⟨hs▸hp.1,fun i v2 v' eI aX=>by
  have aU:i<l2.length:=by
   rcases Nat.lt_or_ge i l2.length with h|h
   ·exact h
   rw[List.getElem?_eq_none h] at eI;cases eI
  have sq:i<l.length:=hs▸aU
  exact ih i l[i] v2 (by simp[sq]) eI v' (hp.2 i l[i] v' (by simp[sq]) aX)⟩
theorem Alt.ok (s:VS lo g σ vh h){v v2:PV}(ha:Alt vh n2 D ρ v v2):∀v',VR g σ vh.next v v'→VR (g.more σ vh h D) (fun j=>σ (ρ j)) n2 v2 v':=by
 induction ha with
 |same v hf=>exact fun v' hv=>.fr _ _ ((hv.aB hf).mono (sc s))
 |ptr i j off hj hi=>
  intro v' hv
  cases hv with
  |fr _ _ h=>cases h
  |ptr _ _ o a k dD hs=>exact .ptr j off o a k hj (by rw[hi];exact hs)
 |own i j off len k hj hi=>
  intro v' hv
  cases hv with
  |fr _ _ h=>cases h
  |own _ _ _ _ o a kk dD hs hl hk=>exact .own j off len k o a kk hj (by rw[hi];exact hs) hl hk
 |sub i j off len hj hi=>
  intro v' hv
  cases hv with
  |fr _ _ h=>cases h
  |sub _ _ _ k o a kk dD hs hl hk=>exact .sub j off len k o a kk hj (by rw[hi];exact hs) hl hk
 |wN i off=>
  intro v' hv
  cases hv with
  |fr _ _ h=>cases h
  |sub=>exact .fr _ _ (.da _ _ _)
 |NN i j off len k hj hi=>
  intro v' hv
  cases hv with
  |fr _ _ h=>cases h
  |own _ _ _ _ o a kk dD hs hl hk=>exact .sub j off len k o a kk hj (by rw[hi];exact hs) hl (by simp only[ar] at hk;simp only[dC];omega)
 |r7 i j n nl sz es hj hi hg hn h0=>
  intro v' hv
  obtain⟨_,_,q2,q3⟩:=(s.obj i _ hg).2
  cases hv with
  |fr _ _ h=>cases h
  |bW=>omega
  |bX=>omega
  |grow _ _ o a k _ dD hs mN=>
   have oY:es≠[]:=by rintro rfl;simp at hn;omega
   rcases q3 with rfl|⟨s0,ao,_,q5,_,q6⟩
   ·exact absurd rfl oY
   rw[hs] at q5 q6;simp only at q5 q6
   subst q5
   have hk:n≤k∧k+n<dC:=by
    simp only[ar] at q2 q6;simp only[dC]
    rcases q6 with⟨h1,_⟩|h1<;>omega
   have:=VR.sub (g:=g.more σ vh h D) (σ:=fun j=>σ (ρ j)) (n:=n2) j 0 n k o 0 k hj (by rw[hi];exact hs) hk.1 hk.2
   simpa using this
 |CH i j n nl es hj hi hg hn=>
  intro v' hv
  obtain⟨q0,_,q2,s0,ao,_,q5,_,q6⟩:=(s.obj i _ hg).2
  have h0:0<n:=by rw[← hn];exact List.length_pos_iff.2 q0
  cases hv with
  |fr _ _ h=>cases h
  |bW=>omega
  |bX=>omega
  |grow _ _ o a k _ dD hs mN=>
   rw[hs] at q5 q6;simp only at q5 q6
   subst q5
   have hk:n≤k∧k+n<dC:=by
    simp only[ar] at q2 q6;simp only[dC]
    rcases q6 with⟨h1,_⟩|h1<;>omega
   have:=VR.sub (g:=g.more σ vh h D) (σ:=fun j=>σ (ρ j)) (n:=n2) j 0 n k o 0 k hj (by rw[hi];exact hs) hk.1 hk.2
   simpa using this
 |grow i j n nl hj hi=>
  intro v' hv
  cases hv with
  |fr _ _ h=>cases h
  |bW=>exact .bW _ _
  |bX=>exact .bX _ _ _
  |grow _ _ o a k _ dD hs hn=>exact .grow j n o a k nl hj (by rw[hi];exact hs) hn
 |aY i j hj hi=>
  intro v' hv
  cases hv with
  |fr _ _ h=>cases h
  |aY _ o a k dD hs=>exact .aY j o a k hj (by rw[hi];exact hs)
 |bN i j hj hi=>
  intro v' hv
  cases hv with
  |fr _ _ h=>cases h
  |bN _ o a k dD hs=>exact .bN j o a k hj (by rw[hi];exact hs)
 |bX i j nl=>
  intro v' hv
  cases hv with
  |fr _ _ h=>cases h
  |bW=>exact .bW _ _
  |bX=>exact .bX _ _ _
  |grow _ _ _ _ _ _ _ _ hn=>omega
 |aF j nl=>intro v' hv;have:=hv.aB rfl;cases this;exact .bW _ _
 |e0 j=>
  intro v' hv
  have:=hv.aB rfl
  cases this with
  |tS=>exact .bW _ _
  |e0 o off=>exact .bX _ _ _
 |lK i j off=>
  intro v' hv
  cases hv with
  |fr _ _ h=>cases h
  |own=>exact .bX _ _ _
 |dJ=>intro v' hv;have:=hv.aB rfl;cases this;exact .fr _ _ .fc
 |e0v=>
  intro v' hv
  have:=hv.aB rfl
  cases this with
  |tS=>exact .fr _ _ .fc
  |e0 o off=>exact .fr _ _ (.da _ _ _)
 |wO i off k=>
  intro v' hv
  cases hv with
  |fr _ _ h=>cases h
  |own=>exact .fr _ _ (.da _ _ _)
 |rA i nl=>
  intro v' hv
  cases hv with
  |fr _ _ h=>cases h
  |bW=>exact .fr _ _ .fc
  |bX=>exact .fr _ _ (.da _ _ _)
  |grow _ _ _ _ _ _ _ _ hn=>omega
 |CI i=>
  intro v' hv
  cases hv with
  |fr _ _ h=>cases h
  |bW=>exact .fr _ _ .aF
  |grow _ _ _ _ _ _ _ _ hn=>omega
 |gM i off len k ag sz cs es hD hg he=>
  intro v' hv
  have lU:=Ee (g:=g) (σ:=σ) (h:=h) (D:=D) hD hg rfl
  obtain⟨h0,s0,ao,h1,h2,h3⟩:=(s.obj i _ hg).2
  obtain⟨g1,g2,g3⟩:=Dq s h0 hv he
  obtain⟨bk,g4,g5⟩:=g3 es.length (Nat.le_refl _)
  rw[List.take_length] at g5
  have g5:=g5.mono fun _ _ h=>FR.mono (sc (D:=D) s) h
  cases hv with
  |fr _ _ h=>cases h
  |own _ _ _ _ o a kk hi hs hl hk=>
   rw[hs] at h1 h2 lU;simp only at h1 h2 lU;subst h2
   simp only[jB,ax] at g1
   subst g1
   by_cases hz:es.length=0
   ·have:=List.eq_nil_of_length_eq_zero hz
    subst this
    exact .fr _ _ (.da _ _ _)
   have hq:Nat.beq es.length 0=false:=by rw[beq_eq];simpa using hz
   simp only[nW,hq,bl,h1] at g4
   cases hb:Nat.ble (0+off+es.length*sz) ao.length with
   |false=>rw[hb] at g4;cases g4
   |true=>
    rw[hb] at g4;simp only[aJ,ax] at g4
    have hb:0+off+es.length*sz≤ao.length:=by simpa using hb
    subst g4
    have yt:=E8 g2 g5
    have dI:k+es.length<dC:=by
     have h1:k<4611686018427387904:=hk
     show k+es.length<9223372036854775808
     omega
    refine .fr _ _ (.vec es o (0+off) k s0 sz ao hl dI (by rw[lU];exact h1) h0 (fun i e he=>g2 e (List.mem_of_getElem? he)) hb fun i e j v v' he hv aX=>yt i e j v v' he hv ?_)
    have hi:i<es.length:=by
     rcases Nat.lt_or_ge i es.length with h|h
     ·exact h
     rw[List.getElem?_eq_none h] at he;cases he
    have hj:j<sz:=by
     rw[← g2 e (List.mem_of_getElem? he)]
     rcases Nat.lt_or_ge j e.cells.length with h|h
     ·exact h
     rw[List.getElem?_eq_none h] at hv;cases hv
    have eT:i*sz+j<es.length*sz:=by
     have:i*sz+sz≤es.length*sz:=by rw[← Nat.succ_mul];exact Nat.mul_le_mul_right _ hi
     omega
    rw[List.getElem?_take,if_pos eT,List.getElem?_drop,show 0+off+(i*sz+j)=0+off+i*sz+j by omega]
    exact aX
 |q8 i off len ag sz cs es hD hg he=>
  intro v' hv
  have lU:=Ee (g:=g) (σ:=σ) (h:=h) (D:=D) hD hg rfl
  obtain⟨h0,s0,ao,h1,h2,h3⟩:=(s.obj i _ hg).2
  obtain⟨g1,g2,g3⟩:=Dq s h0 hv he
  obtain⟨bk,g4,g5⟩:=g3 es.length (Nat.le_refl _)
  rw[List.take_length] at g5
  have g5:=g5.mono fun _ _ h=>FR.mono (sc (D:=D) s) h
  cases hv with
  |fr _ _ h=>cases h
  |sub _ _ _ k o a kk hi hs hl hk=>
   rw[hs] at h1 h2 lU;simp only at h1 h2 lU;subst h2
   simp only[jB,ax] at g1
   subst g1
   by_cases hz:es.length=0
   ·have:=List.eq_nil_of_length_eq_zero hz
    subst this
    exact .fr _ _ (.da _ _ _)
   have hq:Nat.beq es.length 0=false:=by rw[beq_eq];simpa using hz
   simp only[nW,hq,bl,h1] at g4
   cases hb:Nat.ble (0+off+es.length*sz) ao.length with
   |false=>rw[hb] at g4;cases g4
   |true=>
    rw[hb] at g4;simp only[aJ,ax] at g4
    have hb:0+off+es.length*sz≤ao.length:=by simpa using hb
    subst g4
    have yt:=E8 g2 g5
    have dI:k+es.length<dC:=hk
    refine .fr _ _ (.vec es o (0+off) k s0 sz ao hl dI (by rw[lU];exact h1) h0 (fun i e he=>g2 e (List.mem_of_getElem? he)) hb fun i e j v v' he hv aX=>yt i e j v v' he hv ?_)
    have hi:i<es.length:=by
     rcases Nat.lt_or_ge i es.length with h|h
     ·exact h
     rw[List.getElem?_eq_none h] at he;cases he
    have hj:j<sz:=by
     rw[← g2 e (List.mem_of_getElem? he)]
     rcases Nat.lt_or_ge j e.cells.length with h|h
     ·exact h
     rw[List.getElem?_eq_none h] at hv;cases hv
    have eT:i*sz+j<es.length*sz:=by
     have:i*sz+sz≤es.length*sz:=by rw[← Nat.succ_mul];exact Nat.mul_le_mul_right _ hi
     omega
    rw[List.getElem?_take,if_pos eT,List.getElem?_drop,show 0+off+(i*sz+j)=0+off+i*sz+j by omega]
    exact aX
 |bJ i n nl sz es hD hg hn=>
  intro v' hv
  subst hn
  obtain⟨h0,ep,di,kF⟩:=(s.obj i _ hg).2
  by_cases hz:es=[]
  ·subst hz
   cases hv with
   |fr _ _ h=>cases h
   |bW=>exact .fr _ _ .fc
   |bX=>exact .fr _ _ (.da _ _ _)
   |grow _ _ _ _ _ _ _ _ hn=>simp at hn
  have fm:(aI.grow sz es).live=true:=by
   cases es with
   |nil=>exact absurd rfl hz
   |cons=>rfl
  have lU:=Ee (g:=g) (σ:=σ) (h:=h) (D:=D) hD hg fm
  rcases kF with rfl|⟨s0,ao,h1,h2,h3,h4⟩
  ·exact absurd rfl hz
  have h3:=h3.mono fun _ _ h=>FR.mono (sc (D:=D) s) h
  have hlen:0<es.length:=by
   cases es with
   |nil=>exact absurd rfl hz
   |cons=>simp
  generalize hm:es.length=m at hv
  cases hv with
  |fr _ _ h=>cases h
  |bW=>omega
  |bX=>omega
  |grow _ _ o a k _ hi hs hn=>
   subst hm
   rw[hs] at h1 h2 h4 lU;simp only at h1 h2 h4 lU;subst h2
   have kQ:=Ae ep
   have yt:=E8 ep h3
   have y0:es.length<4611686018427387904:=di
   have hk:es.length≤k∧k+es.length<dC:=by
    show es.length≤k∧k+es.length<9223372036854775808
    rcases h4 with⟨rfl,_⟩|rfl
    ·show es.length≤4611686018427387904∧4611686018427387904+es.length<9223372036854775808
     omega
    omega
   exact .fr _ _ (.vec es o 0 k s0 sz ao hk.1 hk.2 (by rw[lU];exact h1) h0 (fun i e he=>ep e (List.mem_of_getElem? he)) (by rw[← kQ,h3.1];omega) fun i e j v v' he hv aX=>yt i e j v v' he hv (by rw[Nat.zero_add] at aX;exact aX))
 |CJ i off cs hD hg hf hle=>
  intro v' hv
  have lU:=Ee (g:=g) (σ:=σ) (h:=h) (D:=D) hD hg rfl
  obtain⟨s0,ao,h1,h2,h3⟩:=(s.obj i _ hg).2
  have h3:=(h3.aB hf).mono fun _ _ h=>FR.mono (sc (D:=D) s) h
  cases hv with
  |fr _ _ h=>cases h
  |ptr _ _ o a k hi hs=>
   rw[hs] at h1 h2 lU;simp only at h1 h2 lU;subst h2
   exact .fr _ _ (KE (by rw[lU];exact h1) (by rw[h3.1];omega) (fun j v v' hv aX=>h3.2 j v v' hv (by rw[Nat.zero_add] at aX;exact aX)) hle)
 |wP i off ag sz cs hD hg hle=>
  intro v' hv
  have lU:=Ee (g:=g) (σ:=σ) (h:=h) (D:=D) hD hg rfl
  obtain⟨h0,s0,ao,h1,h2,h3⟩:=(s.obj i _ hg).2
  have h3:=h3.mono fun _ _ h=>FR.mono (sc (D:=D) s) h
  cases hv with
  |fr _ _ h=>cases h
  |ptr _ _ o a k hi hs=>
   rw[hs] at h1 h2 lU;simp only at h1 h2 lU;subst h2
   exact .fr _ _ (KE (by rw[lU];exact h1) (by rw[h3.1];omega) (fun j v v' hv aX=>h3.2 j v v' hv (by rw[Nat.zero_add] at aX;exact aX)) hle)
 |dz i es hD hg=>
  intro v' hv
  have lU:=Ee (g:=g) (σ:=σ) (h:=h) (D:=D) hD hg rfl
  obtain⟨bf,h1,h2,h3,h4⟩:=(s.obj i _ hg).2
  have h3:=h3.mono fun _ _ h=>FR.mono (sc (D:=D) s) h
  have h4:=h4.mono fun _ _ h=>FR.mono (sc (D:=D) s) h
  cases hv with
  |fr _ _ h=>cases h
  |aY _ o a k hi hs=>
   rw[hs] at h1 lU;simp only at h1 lU
   exact .fr _ _ (zzx h3 h4 (by rw[lU];exact h1))
 |agg cs lQ hs _ ih=>
  intro v' hv
  obtain⟨ao,rfl,hc⟩:=KC hv
  have:=Dl (G4 hc hs ih)
  simpa using this
 |bp cs lQ hs _ ih=>
  intro v' hv
  obtain⟨ao,rfl,hc⟩:=KD hv
  have:=G4 hc hs ih
  exact .bp _ _ (by simpa using this.1) fun i v v' hv aX=>this.2 i v v' hv (by simpa using aX)
 |func f xs ys Jg Jh hx hy _ _ ihx ihy=>
  intro v' hv
  obtain⟨bk,dq,rfl,h1,h2⟩:=Ji hv
  have k1:=G4 h1 hx ihx
  have k2:=G4 h2 hy ihy
  exact .func _ _ _ _ _ (by simpa using k1.1) (by simpa using k2.1) (fun i v v' hv aX=>k1.2 i v v' hv (by simpa using aX)) (fun i v v' hv aX=>k2.2 i v v' hv (by simpa using aX))
theorem aA.ok (s:VS lo g σ vh h){l l2:List PV}(ha:aA vh n2 D ρ l l2){l':List Value}(hl:bc (VR g σ vh.next) l l'):bc (VR (g.more σ vh h D) (fun j=>σ (ρ j)) n2) l2 l':=
 G4 hl ha.1 fun i v v2 hv eI=>(ha.2 i v v2 hv eI).ok s
def mH (ab:aW)(vh:ah)(n2:Nat)(D:Nat→Bool)(ρ:Nat→Nat):aW→Prop
 |[]=>True
 |(t,v2)::r=>(∃v,bS t ab=some v∧Alt vh n2 D ρ v v2)∧mH ab vh n2 D ρ r
theorem mH.get {ab:aW}{vh:ah}{n2:Nat}{D:Nat→Bool}{ρ:Nat→Nat}:∀ {ay:aW},mH ab vh n2 D ρ ay→∀t v2,bS t ay=some v2→∃v,bS t ab=some v∧Alt vh n2 D ρ v v2
 |[],_,t,v,h=>by simp[bS] at h
 |(u,w)::r,hs,t,v,h=>by
  simp only[bS,beq_eq] at h
  by_cases AK:t=u
  ·subst AK;simp at h;subst h;exact hs.1
  simp[AK] at h;exact mH.get hs.2 t v h
theorem z0a {es:List PV}(h:∀e∈es,e.cells=[e]):es.flatMap PV.cells=es:=by
 induction es with
 |nil=>rfl
 |cons e r ih=>rw[List.flatMap_cons,h e (List.mem_cons_self ..),ih fun x hx=>h x (List.mem_cons_of_mem _ hx)];rfl
structure pY (vh:ah) (n2:Nat) (D:Nat→Bool) (ρ:Nat→Nat) (N N2:Nat) (ps rB:Array Tmp) (a bd a2 G5:Code) (j j2:Option Code) (ab ay:aW):Prop where
  n:N=N2
  p:ps=rB
  a:a=a2
  b:bd=G5
  j:j=j2
  t:mH ab vh n2 D ρ ay
def kf (vh:ah)(n2:Nat)(D:Nat→Bool)(ρ:Nat→Nat):aI→aI→Prop
 |.box cs,.box lQ=>aA vh n2 D ρ cs lQ
 |.loop N ps a bd ab j,.loop N2 rB a2 G5 ay j2=>pY vh n2 D ρ N N2 ps rB a bd a2 G5 j j2 ab ay
 |.grow sz es,.arr _ zw cs=>sz=zw∧(∃e r,es=e::r)∧es.flatMap PV.cells=cs
 |.grow sz es,.bJ mn=>sz=1∧es=mn∧es≠[]∧∀e∈es,e.cells=[e]
 |.bJ es,.bJ mn=>aA vh n2 D ρ es mn∧∀e∈mn,e.cells=[e]
 |.bJ es,.box cs=>aA vh n2 D ρ es cs
 |.box cs,.arr _ sz lQ=>0<sz∧aA vh n2 D ρ cs lQ∧PV.aG lQ=true
 |.dz es,.dz mn=>es.map (·.1)=mn.map (·.1)∧aA vh n2 D ρ (es.map (·.2)) (mn.map (·.2))
 |x,y=>x=y
structure tA (b:Nat) (D:Nat→Bool) (ρ:Nat→Nat) (ab:aW) (vh:ah) (ay:aW) (aQ:ah):Prop where
  tmps:∀t v2,bS t ay=some v2→∃v,bS t ab=some v∧Alt vh aQ.next D ρ v v2
  be:∀j y,aQ.get j=some y→j<aQ.next∧((∃sz,y=.grow sz []∧0<sz)∨D (ρ j)=false∧∃x,vh.get (ρ j)=some x∧kf vh aQ.next D ρ x y)
  inj:∀j k y z,aQ.get j=some y→aQ.get k=some z→y.live=true→z.live=true→ρ j=ρ k→j=k
  base:∀j,j<b→ρ j=j
  bnd:b≤aQ.next
theorem tA.Ja {N b:Nat}{ab ay:aW}{aQ:ah}{ts:aC}(a:tA b D ρ ab vh ay aQ)(ht:VT g σ vh.next ab ts)(hn:ts.length=N)(s:VS lo g σ vh h) :
  dA N b lo g σ vh h ts h (g.more σ vh h D) (fun j=>σ (ρ j)) ay aQ:=by
 have live:∀j y,aQ.get j=some y→y.live=true→D (ρ j)=false∧∃x,vh.get (ρ j)=some x∧kf vh aQ.next D ρ x y∧x.live=true:=fun j y hy hl=>by
  rcases (a.be j y hy).2 with⟨sz,rfl,_⟩|⟨h1,x,h2,h3⟩
  ·cases hl
  refine⟨h1,x,h2,h3,?_⟩
  cases x with
  |box cs=>rfl
  |arr ag sz cs=>rfl
  |map es=>rfl
  |dz es=>rfl
  |emap es=>rfl
  |bJ es=>rfl
  |loop=>rfl
  |grow sz es=>
   cases y with
   |arr ag zw cs=>
    obtain⟨_,⟨e,r,rfl⟩,_⟩:=(h3:sz=zw∧(∃e r,es=e::r)∧es.flatMap PV.cells=cs)
    rfl
   |bJ mn=>
    obtain⟨_,_,h0,_⟩:=(h3:sz=1∧es=mn∧es≠[]∧∀e∈es,e.cells=[e])
    cases es with
    |nil=>exact absurd rfl h0
    |cons=>rfl
   |box=>cases h3
   |map=>cases h3
   |emap=>cases h3
   |dz=>cases h3
   |loop=>cases h3
   |grow zw mn=>
    have h3:aI.grow sz es=aI.grow zw mn:=h3
    rw[h3];exact hl
 refine⟨fun t v2 eI=>?_,hn,⟨fun j y hy=>?_,fun j k y z hy hz fg bT he=>?_,fun j y hy hl=>?_,Ef s,fun j y hy hl=>?_,s.bA⟩,sc s,fun i hi=>by simp only[a.base i hi],⟨Nat.le_refl _,fun _ _ _=>rfl,fun j y hy hl _=>?_⟩,a.bnd,G3⟩
 ·obtain⟨v,h1,h2⟩:=a.tmps t v2 eI
  exact h2.ok s _ (ht t v h1)
 ·obtain⟨hj,h1⟩:=a.be j y hy
  refine⟨hj,?_⟩
  rcases h1 with⟨sz,rfl,e8⟩|⟨h1,x,h2,h3⟩
  ·exact⟨e8,by simp,by decide,.inl rfl⟩
  have hx:=(s.obj (ρ j) x h2).2
  have hle:=sc (D:=D) s
  cases x with
  |box cs=>
   cases y with
   |box lQ=>
    obtain⟨s0,ao,k1,k2,k3⟩:=hx
    exact⟨s0,ao,k1,k2,aA.ok s h3 k3⟩
   |arr ag sz lQ=>
    obtain⟨e0,e1,e2⟩:=(h3:0<sz∧aA vh aQ.next D ρ cs lQ∧PV.aG lQ=true)
    obtain⟨s0,ao,k1,k2,k3⟩:=hx
    exact⟨e0,s0,ao,k1,k2,(aA.ok s e1 k3).aB e2⟩
   |bJ=>cases h3
   |grow=>cases h3
   |map=>cases h3
   |emap=>cases h3
   |dz=>cases h3
   |loop=>cases h3
  |arr ag sz cs=>
   have h3:aI.arr ag sz cs=y:=h3
   subst h3
   obtain⟨h0,s0,ao,k1,k2,k3⟩:=hx
   exact⟨h0,s0,ao,k1,k2,k3.mono fun _ _ h=>h.mono hle⟩
  |grow sz es=>
   cases y with
   |arr ag zw cs=>
    obtain⟨rfl,⟨e,r,rfl⟩,rfl⟩:=(h3:sz=zw∧(∃e r,es=e::r)∧es.flatMap PV.cells=cs)
    obtain⟨h0,h1,h2,kF⟩:=hx
    rcases kF with h4|⟨s0,ao,k1,k2,k3,k4⟩
    ·cases h4
    exact⟨h0,s0,ao,k1,k2,k3.mono fun _ _ h=>h.mono hle⟩
   |bJ mn=>
    obtain⟨rfl,rfl,e1,e2⟩:=(h3:sz=1∧es=mn∧es≠[]∧∀e∈es,e.cells=[e])
    obtain⟨h0,h1,h2,kF⟩:=hx
    rcases kF with h4|⟨s0,ao,k1,k2,k3,k4⟩
    ·exact absurd h4 e1
    exact⟨e1,e2,h2,s0,ao,k1,k2,((z0a e2▸k3:bc (FR g) es ao).mono fun _ _ h=>h.mono hle).vr,k4⟩
   |box=>cases h3
   |map=>cases h3
   |emap=>cases h3
   |dz=>cases h3
   |loop=>cases h3
   |grow zw mn=>
   have h3:aI.grow sz es=aI.grow zw mn:=h3
   injection h3 with h3 h4
   subst h3;subst h4
   obtain⟨h0,h1,h2,kF⟩:=hx
   exact⟨h0,h1,h2,kF.imp_right fun⟨s0,ao,k1,k2,k3,k4⟩=>⟨s0,ao,k1,k2,k3.mono fun _ _ h=>h.mono hle,k4⟩⟩
  |bJ es=>
   obtain⟨h0,h1,h2,s0,ao,k1,k2,k3,k4⟩:=hx
   cases y with
   |bJ mn=>
    obtain⟨e1,e2⟩:=(h3:aA vh aQ.next D ρ es mn∧∀e∈mn,e.cells=[e])
    have hl:mn.length=es.length:=e1.1.symm
    exact⟨fun h=>h0 (List.eq_nil_of_length_eq_zero (by rw[← hl,h];rfl)),e2,by rw[hl];exact h2,s0,ao,k1,k2,aA.ok s e1 k3,by rw[hl];exact k4⟩
   |box cs=>
    exact⟨s0,ao,k1,k2,aA.ok s (h3:aA vh aQ.next D ρ es cs) k3⟩
   |arr=>cases h3
   |grow=>cases h3
   |map=>cases h3
   |emap=>cases h3
   |dz=>cases h3
   |loop=>cases h3
  |map es=>
   have h3:aI.map es=y:=h3
   subst h3
   obtain⟨bf,k1,k2,k3,k4⟩:=hx
   exact⟨bf,k1,k2,k3.mono fun _ _ h=>h.mono hle,k4.mono fun _ _ h=>h.mono hle⟩
  |emap es k born=>
   have h3:aI.emap es k born=y:=h3
   subst h3
   obtain⟨bf,k1,k2,k3,k4⟩:=hx
   exact⟨bf,k1,k2,k3.mono fun _ _ h=>h.mono hle,k4.mono fun _ _ h=>h.mono hle⟩
  |dz es=>
   cases y with
   |dz mn=>
    obtain⟨e1,e2⟩:=(h3:es.map (·.1)=mn.map (·.1)∧aA vh aQ.next D ρ (es.map (·.2)) (mn.map (·.2)))
    obtain⟨bf,k1,k2,k3,k4⟩:=hx
    exact⟨bf,k1,k2,e1▸k3.mono fun _ _ h=>h.mono hle,aA.ok s e2 k4⟩
   |box=>cases h3
   |arr=>cases h3
   |grow=>cases h3
   |map=>cases h3
   |emap=>cases h3
   |bJ=>cases h3
   |loop=>cases h3
  |loop N ps a bd ab jump=>
   cases y with
   |loop N2 rB a2 G5 ay j2=>
    obtain⟨rfl,rfl,rfl,rfl,rfl,h6⟩:=(h3:pY vh aQ.next D ρ N N2 ps rB a bd a2 G5 jump j2 ab ay)
    obtain⟨L,k1,k2,k3,k4,k5,k6⟩:=hx
    refine⟨L,k1,k2,k3,k4,k5,fun t v2 eI=>?_⟩
    obtain⟨v,q1,q2⟩:=mH.get h6 t v2 eI
    exact q2.ok s _ (k6 t v q1)
   |box=>cases h3
   |arr=>cases h3
   |grow=>cases h3
   |map=>cases h3
   |emap=>cases h3
   |bJ=>cases h3
   |dz=>cases h3
 ·obtain⟨_,x,h1,_,h2⟩:=live j y hy fg
  obtain⟨_,x',nj,_,Ew⟩:=live k z hz bT
  exact a.inj j k y z hy hz fg bT (s.inj _ _ x x' h1 nj h2 Ew he)
 ·obtain⟨_,x,h1,_,h2⟩:=live j y hy hl
  exact s.low _ x h1 h2
 ·obtain⟨hD,x,h1,_,h2⟩:=live j y hy hl
  unfold Fz.more
  rw[if_neg]
  ·exact s.iG _ x h1 h2
  rintro⟨i,z,k1,k2,k3,k4⟩
  have:=s.inj i (ρ j) z x k2 h1 k3 h2 k4
  subst this
  rw[hD] at k1;cases k1
 obtain⟨_,x,h1,_,h2⟩:=live j y hy hl
 exact⟨ρ j,x,h1,h2,rfl⟩
end
section
variable {P:Program} {N b:Nat} {Q:gV} {ab ay:aW} {vh aQ:ah}
theorem VW.z8d {c:Code}(D:Nat→Bool)(ρ:Nat→Nat)(a:tA b D ρ ab vh ay aQ)(hc:VW P N b c Q ay aQ):VW P N b c Q ab vh:=fun lo g σ h ts ht hn s hb=>by
 have:=a.Ja ht hn s
 exact(hc lo _ _ h ts this.t this.len this.s this.base).mono fun e ba h' hs=>hs.trans this
theorem bO.zu2 {o:Oper}{next:aW→ah→Prop}(D:Nat→Bool)(ρ:Nat→Nat)(a:tA b D ρ ab vh ay aQ)(hc:kx P N b o next ay aQ):kx P N b o next ab vh:=fun lo g σ h ts ht hn s hb=>by
 have:=a.Ja ht hn s
 exact(hc lo _ _ h ts this.t this.len this.s this.base).mono fun ba h' hs=>hs.trans this
mutual
def bz (vh:ah):PV→Option PV
 |.func f xs ys=>match b9 vh xs,b9 vh ys with
  |some a,some b=>some (.func f a b)
  |_,_=>none
 |.agg cs=>(b9 vh cs).map .agg
 |.bp cs=>(b9 vh cs).map .bp
 |.ptr i off=>match vh.get i with
  |some (.box cs)=>bif PV.aG cs&&Nat.ble off cs.length then some (.vp (cs.drop off)) else none
  |some (.arr _ _ cs)=>bif Nat.ble off cs.length then some (.vp (cs.drop off)) else none
  |_=>none
 |.own i off len k=>bif Nat.beq len 0 then some (.vec []) else match vh.get i with
  |some (.arr _ sz _)=>(jw vh sz (.own i off len k)).map .vec
  |_=>none
 |.sub i off len=>bif Nat.beq len 0 then some (.vec []) else match vh.get i with
  |some (.arr _ sz _)=>(jw vh sz (.sub i off len)).map .vec
  |_=>none
 |.grow i n nl=>match vh.get i with
  |some (.grow _ es)=>bif Nat.beq es.length n then some (.vec es) else none
  |_=>bif Nat.beq n 0 then some (.vec []) else none
 |.iface t v=>bif v.aB then some (.iface t v) else none
 |.aY i=>match vh.get i with
  |some (.map es)=>some (.az es)
  |_=>none
 |.bN _=>none
 |v=>some v
def b9 (vh:ah):List PV→Option (List PV)
 |[]=>some []
 |v::r=>match bz vh v,b9 vh r with
  |some a,some l=>some (a::l)
  |_,_=>none
end
mutual
theorem NO (vh:ah):∀(v v2:PV),bz vh v=some v2→Alt vh 0 (fun _=>true) id v v2
 |.func f xs ys,v2,h=>by
  simp only[bz] at h
  split at h
  ·rename_i a c h1 h2
   injection h with h;subst h
   exact .dv (Eg vh xs a h1) (Eg vh ys c h2)
  cases h
 |.agg cs,v2,h=>by
  simp only[bz] at h
  obtain⟨l,h1,rfl⟩:=cZ h
  exact .ky (Eg vh cs l h1)
 |.bp cs,v2,h=>by
  simp only[bz] at h
  obtain⟨l,h1,rfl⟩:=cZ h
  exact .CA (Eg vh cs l h1)
 |.ptr i off,v2,h=>by
  simp only[bz] at h
  split at h
  ·rename_i cs hg
   cases hb:(PV.aG cs&&Nat.ble off cs.length) with
   |false=>rw[hb] at h;cases h
   |true=>
    rw[hb] at h;simp only[aJ,ax] at h;subst h
    simp only[bR,Nat.ble_eq] at hb
    exact .CJ i off cs rfl hg hb.1 hb.2
  ·rename_i ag sz cs hg
   cases hb:Nat.ble off cs.length with
   |false=>rw[hb] at h;cases h
   |true=>
    rw[hb] at h;simp only[aJ,ax] at h;subst h
    exact .wP i off ag sz cs rfl hg (by simpa using hb)
  cases h
 |.own i off len k,v2,h=>by
  simp only[bz] at h
  rcases jM len 0 with⟨hq,bZ⟩|⟨hq,bZ⟩
  ·rw[hq] at h;simp only[aJ,ax] at h;subst h;subst bZ;exact .wO i off k
  rw[hq] at h;simp only[bl] at h
  split at h
  ·rename_i ag sz cs hg
   obtain⟨es,h1,rfl⟩:=cZ h
   exact .gM i off len k ag sz cs es rfl hg h1
  cases h
 |.sub i off len,v2,h=>by
  simp only[bz] at h
  rcases jM len 0 with⟨hq,bZ⟩|⟨hq,bZ⟩
  ·rw[hq] at h;simp only[aJ,ax] at h;subst h;subst bZ;exact .wN i off
  rw[hq] at h;simp only[bl] at h
  split at h
  ·rename_i ag sz cs hg
   obtain⟨es,h1,rfl⟩:=cZ h
   exact .q8 i off len ag sz cs es rfl hg h1
  cases h
 |.grow i n nl,v2,h=>by
  simp only[bz] at h
  split at h
  ·rename_i sz es hg
   rcases jM es.length n with⟨hq,bZ⟩|⟨hq,bZ⟩
   ·rw[hq] at h;simp only[aJ,ax] at h;subst h;exact .bJ i n nl sz es rfl hg bZ
   rw[hq] at h;cases h
  rcases jM n 0 with⟨hq,bZ⟩|⟨hq,bZ⟩
  ·rw[hq] at h;simp only[aJ,ax] at h;subst h;subst bZ;exact .rA i nl
  rw[hq] at h;cases h
 |.iface t v,v2,h=>by
  simp only[bz] at h
  cases hf:v.aB with
  |false=>rw[hf] at h;cases h
  |true=>rw[hf] at h;simp only[aJ,ax] at h;subst h;exact .same _ (by simp only[PV.aB];exact hf)
 |.aY i,v2,h=>by
  simp only[bz] at h
  split at h
  ·rename_i es hg
   injection h with h;subst h;exact .dz i es rfl hg
  cases h
 |.az es,v2,h=>by simp only[bz,ax] at h;subst h;exact .same _ rfl
 |.bN _,v2,h=>by simp[bz] at h
 |.bool b,v2,h=>by simp only[bz,ax] at h;subst h;exact .same _ rfl
 |.int k n,v2,h=>by simp only[bz,ax] at h;subst h;exact .same _ rfl
 |.str s,v2,h=>by simp only[bz,ax] at h;subst h;exact .same _ rfl
 |.nilFunc,v2,h=>by simp only[bz,ax] at h;subst h;exact .same _ rfl
 |.nilIface,v2,h=>by simp only[bz,ax] at h;subst h;exact .same _ rfl
 |.eJ,v2,h=>by simp only[bz,ax] at h;subst h;exact .same _ rfl
 |.aF,v2,h=>by simp only[bz,ax] at h;subst h;exact .same _ rfl
 |.dj,v2,h=>by simp only[bz,ax] at h;subst h;exact .same _ rfl
 |.e0,v2,h=>by simp only[bz,ax] at h;subst h;exact .same _ rfl
 |.vec es,v2,h=>by simp only[bz,ax] at h;subst h;exact .same _ rfl
 |.vp cs,v2,h=>by simp only[bz,ax] at h;subst h;exact .same _ rfl
theorem Eg (vh:ah):∀(l l2:List PV),b9 vh l=some l2→aA vh 0 (fun _=>true) id l l2
 |[],l2,h=>by simp only[b9,ax] at h;subst h;exact .nil
 |v::r,l2,h=>by
  simp only[b9] at h
  split at h
  ·rename_i a l h1 h2
   injection h with h;subst h
   exact .cons (NO vh v a h1) (Eg vh r l h2)
  cases h
end
mutual
theorem NP (vh:ah):∀(v v2:PV),bz vh v=some v2→v2.aB=true
 |.func f xs ys,v2,h=>by
  simp only[bz] at h
  split at h
  ·rename_i a c h1 h2
   injection h with h;subst h
   rw[PV.Pq,CK vh xs a h1,CK vh ys c h2];rfl
  cases h
 |.agg cs,v2,h=>by
  simp only[bz] at h
  obtain⟨l,h1,rfl⟩:=cZ h
  rw[PV.Ky];exact CK vh cs l h1
 |.bp cs,v2,h=>by
  simp only[bz] at h
  obtain⟨l,h1,rfl⟩:=cZ h
  rw[PV.Pr];exact CK vh cs l h1
 |.ptr i off,v2,h=>by
  simp only[bz] at h
  split at h
  ·cases hb:(PV.aG _&&Nat.ble off _) with
   |false=>rw[hb] at h;cases h
   |true=>rw[hb] at h;simp only[aJ,ax] at h;subst h;simp[PV.aB]
  ·cases hb:Nat.ble off _ with
   |false=>rw[hb] at h;cases h
   |true=>rw[hb] at h;simp only[aJ,ax] at h;subst h;simp[PV.aB]
  cases h
 |.own i off len k,v2,h=>by
  simp only[bz] at h
  cases hq:Nat.beq len 0 with
  |true=>rw[hq] at h;simp only[aJ,ax] at h;subst h;simp[PV.aB]
  |false=>
   rw[hq] at h;simp only[bl] at h
   split at h
   ·obtain⟨es,h1,rfl⟩:=cZ h;simp[PV.aB]
   cases h
 |.sub i off len,v2,h=>by
  simp only[bz] at h
  cases hq:Nat.beq len 0 with
  |true=>rw[hq] at h;simp only[aJ,ax] at h;subst h;simp[PV.aB]
  |false=>
   rw[hq] at h;simp only[bl] at h
   split at h
   ·obtain⟨es,h1,rfl⟩:=cZ h;simp[PV.aB]
   cases h
 |.grow i n nl,v2,h=>by
  simp only[bz] at h
  split at h
  ·rename_i sz es hg
   cases hq:Nat.beq es.length n with
   |true=>rw[hq] at h;simp only[aJ,ax] at h;subst h;simp[PV.aB]
   |false=>rw[hq] at h;cases h
  cases hq:Nat.beq n 0 with
  |true=>rw[hq] at h;simp only[aJ,ax] at h;subst h;simp[PV.aB]
  |false=>rw[hq] at h;cases h
 |.iface t v,v2,h=>by
  simp only[bz] at h
  cases hf:v.aB with
  |false=>rw[hf] at h;cases h
  |true=>rw[hf] at h;simp only[aJ,ax] at h;subst h;simp only[PV.aB];exact hf
 |.aY i,v2,h=>by
  simp only[bz] at h
  split at h
  ·injection h with h;subst h;simp[PV.aB]
  cases h
 |.az es,v2,h=>by simp only[bz,ax] at h;subst h;simp[PV.aB]
 |.bN _,v2,h=>by simp[bz] at h
 |.bool b,v2,h=>by simp only[bz,ax] at h;subst h;simp[PV.aB]
 |.int k n,v2,h=>by simp only[bz,ax] at h;subst h;simp[PV.aB]
 |.str s,v2,h=>by simp only[bz,ax] at h;subst h;simp[PV.aB]
 |.nilFunc,v2,h=>by simp only[bz,ax] at h;subst h;simp[PV.aB]
 |.nilIface,v2,h=>by simp only[bz,ax] at h;subst h;simp[PV.aB]
 |.eJ,v2,h=>by simp only[bz,ax] at h;subst h;simp[PV.aB]
 |.aF,v2,h=>by simp only[bz,ax] at h;subst h;simp[PV.aB]
 |.dj,v2,h=>by simp only[bz,ax] at h;subst h;simp[PV.aB]
 |.e0,v2,h=>by simp only[bz,ax] at h;subst h;simp[PV.aB]
 |.vec es,v2,h=>by simp only[bz,ax] at h;subst h;simp[PV.aB]
 |.vp cs,v2,h=>by simp only[bz,ax] at h;subst h;simp[PV.aB]
theorem CK (vh:ah):∀(l l2:List PV),b9 vh l=some l2→PV.aG l2=true
 |[],l2,h=>by simp only[b9,ax] at h;subst h;rfl
 |v::r,l2,h=>by
  simp only[b9] at h
  split at h
  ·rename_i a l h1 h2
   injection h with h;subst h
   simp only[PV.aG,NP vh v a h1,CK vh r l h2,Bool.and_self]
  cases h
end
def aM (P:Program)(f:FuncId)(args:List PV)(R:PV→Prop):Prop:=
 cR P f args ah.empty fun v _=>v.aB=true∧R v
theorem VS.none {lo:Nat}{g:Fz}{h:ae}(sg:∀o x,g o=some x→h.get o=some x)(hl:lo≤h.next)(σ:Sg):VS lo g σ ah.empty h:=
 ⟨fun i x hx=>(by cases hx),fun i j x y hx=>(by cases hx),fun i x hx=>(by cases hx),sg,fun i x hx=>(by cases hx),hl⟩
mutual
theorem Eh {g g':Fz}:∀ {v:PV} {v':Value},FR g v v'→v.dy=true→FR g' v v'
 |_,_,.bool b,_=>.bool b
 |_,_,.int k n,_=>.int k n
 |_,_,.str s,_=>.str s
 |_,_,.nilFunc,_=>.nilFunc
 |_,_,.nilIface,_=>.nilIface
 |_,_,.eJ,_=>.eJ
 |_,_,.aF,_=>.aF
 |_,_,.dj,_=>.dj
 |_,_,.tS,h=>by simp[PV.dy] at h
 |_,_,.e0 ..,h=>by simp[PV.dy] at h
 |_,_,.func f xs ys bk dq hx hy rx ry,h=>by
  simp only[PV.dy,bR] at h
  exact .func f xs ys bk dq hx hy (fun i v v' hv aX=>Eh (rx i v v' hv aX) (PV.E4 h.1 hv)) (fun i v v' hv aX=>Eh (ry i v v' hv aX) (PV.E4 h.2 hv))
 |_,_,.agg cs ao hs r,h=>by
  simp only[PV.dy] at h
  exact .agg cs ao hs fun i v v' hv aX=>Eh (r i v v' hv aX) (PV.E4 h hv)
 |_,_,.bp cs ao hs r,h=>by
  simp only[PV.dy] at h
  exact .bp cs ao hs fun i v v' hv aX=>Eh (r i v v' hv aX) (PV.E4 h hv)
 |_,_,.iface t v v' hv,h=>by
  simp only[PV.dy] at h
  exact .iface t v v' (Eh hv h)
 |_,_,.fc,h=>by simp[PV.dy] at h
 |_,_,.da ..,h=>by simp[PV.dy] at h
 |_,_,.vec ..,h=>by simp[PV.dy] at h
 |_,_,.vp ..,h=>by simp[PV.dy] at h
 |_,_,.az ..,h=>by simp[PV.dy] at h
end
def zx (P:Program)(f:FuncId)(args:List PV)(vh:ah)(R:PV→ah→Prop):Prop:=
 ∀lo g σ h au,bc (VR g σ vh.next) args au→VS lo g σ vh h→mr P lo f au h fun r h'=>h.sub h'∧∃g' aL v ak,VR g' aL ak.next v r∧VS lo g' aL ak h'∧g.le g'∧(∀i,i<vh.next→aL i=σ i)∧VF σ vh h aL ak h'∧vh.next≤ak.next∧
  dK g σ vh h g'∧R v ak
theorem zx.call {f:FuncId}{args:List PV}{R:PV→ah→Prop}(h:zx P f args vh R):cR P f args vh R:=fun lo g σ hh au ha s=>(h lo g σ hh au ha s).mono fun _ _ hq=>hq.2
theorem zx.mono {f:FuncId}{args:List PV}{R R':PV→ah→Prop}(hc:zx P f args vh R)(hr:∀v vh,R v vh→R' v vh):zx P f args vh R':=
 fun lo g σ h au ha s=>(hc lo g σ h au ha s).mono fun r h' ⟨h0,g',aL,v,ak,h1,h2,h3,h4,h5,h6,h7,h8⟩=>⟨h0,g',aL,v,ak,h1,h2,h3,h4,h5,h6,h7,hr _ _ h8⟩
theorem Ut {h h':ae}(hk:∀o,o<h.next→h'.get o=h.get o):h.sub h':=fun o x hx=>by rw[hk o (ae.fC hx)];exact hx
theorem aM.CL {f:FuncId}{args:List PV}{R:PV→Prop}(hp:aM P f args R)(hf:PV.aG args=true):zx P f args vh fun v ak=>ak=vh∧R v:=fun lo g σ h au ha s=>by
 have uD:bc (VR g σ ah.empty.next) args au:=(ha.aB hf).vr
 refine(hp lo g σ h au uD (.none s.fz s.bA σ)).mono fun r h' ⟨g',aL,v,ak,h1,h2,h3,h4,h5,h6,h7,h8,h9⟩=>?_
 have cA:∀o,o<h.next→h'.get o=h.get o:=fun o ho=>h5.fe o ho fun i x hx=>by cases hx
 have hg:∀o x,g' o=some x→o<h.next→∃y,g o=some y:=fun o x hx ho=>by
  rcases h7 o x hx ho with h|⟨i,y,h,_⟩
  ·exact⟨_,h⟩
  cases h
 refine⟨Ut cA,g',σ,v,vh,.fr _ _ (h1.aB h8),⟨fun i x hx=>?_,s.inj,s.low,h2.fz,fun i x hx hl=>?_,h2.bA⟩,h3,fun _ _=>rfl,⟨h5.next,fun o ho _=>cA o ho,fun i x hx hl _=>⟨i,x,hx,hl,rfl⟩⟩,Nat.le_refl _,fun o x hx ho=>.inl (h7 o x hx ho |>.elim id fun⟨i,y,h,_⟩=>by cases h),rfl,h9⟩
 ·obtain⟨k1,k2⟩:=s.obj i x hx
  exact⟨k1,k2.mono h3 (Nat.le_refl _) (fun _ _=>rfl) k1 fun hl=>cA _ (k2.lt hl)⟩
 have hd:=s.iG i x hx hl
 have aU:=(s.obj i x hx).2.lt hl
 cases lZ:g' (σ i).1 with
 |none=>rfl
 |some y=>
  obtain⟨z,hz⟩:=hg _ y lZ aU
  rw[hd] at hz;cases hz
theorem aM.z4o {f:FuncId}{args cu:List PV}{R:PV→Prop}(hp:aM P f cu R)(oR:b9 vh args=some cu)(G6:∀v,R v→v.dy=true):zx P f args vh fun v ak=>ak=vh∧R v:=fun lo g σ h au ha s=>by
 have uD:=aA.ok s (Eg vh args cu oR) ha
 have sg:=Ef (D:=fun _=>true) s
 refine(hp lo (g.more σ vh h fun _=>true) (fun j=>σ (id j)) h au uD (.none sg s.bA _)).mono fun r h' ⟨g',aL,v,ak,h1,h2,h3,h4,h5,h6,h7,h8,h9⟩=>?_
 have cA:∀o,o<h.next→h'.get o=h.get o:=fun o ho=>h5.fe o ho fun i x hx=>by cases hx
 refine⟨Ut cA,g,σ,v,vh,.fr _ _ (Eh (h1.aB h8) (G6 v h9)),⟨fun i x hx=>?_,s.inj,s.low,fun o x hx=>?_,s.iG,h2.bA⟩,Fz.le_refl g,fun _ _=>rfl,⟨h5.next,fun o ho _=>cA o ho,fun i x hx hl _=>⟨i,x,hx,hl,rfl⟩⟩,Nat.le_refl _,dK.refl _ _ _ _,rfl,h9⟩
 ·obtain⟨k1,k2⟩:=s.obj i x hx
  exact⟨k1,k2.mono (Fz.le_refl g) (Nat.le_refl _) (fun _ _=>rfl) k1 fun hl=>cA _ (k2.lt hl)⟩
 have:=s.fz o x hx
 rw[cA o (ae.fC this)];exact this
theorem aM.call {f:FuncId}{args:List PV}{R:PV→Prop}(hp:aM P f args R)(hf:PV.aG args=true):cR P f args vh fun v ak=>ak=vh∧R v:=(hp.CL hf).call
theorem aM.borrow {f:FuncId}{args cu:List PV}{R:PV→Prop}(hp:aM P f cu R)(oR:b9 vh args=some cu)(G6:∀v,R v→v.dy=true):cR P f args vh fun v ak=>ak=vh∧R v:=(hp.z4o oR G6).call
def jc (P:Program)(fn:Func)(R:PV→Prop):gV
 |.normal,ab,vh=>∃l v,ma P ab vh fn.results.toList=some l∧bz vh (mX l)=some v∧R v
 |.ret,ab,vh=>∃l v,ma P ab vh fn.results.toList=some l∧bz vh (mX l)=some v∧R v
 |_,_,_=>False
theorem aM.bV {f:FuncId}{fn:Func}{c:Code}{args:List PV}{R:PV→Prop}(hf:P.funcs[f]?=some fn)(hb:fn.body=some c)(hn:Nat.ble args.length fn.ntmps=true)
  (hc:VW P fn.ntmps 0 c (jc P fn R) (l9 0 args) ah.empty):aM P f args R:=by
 have h1:cR P f args ah.empty fun v ak=>∃v2,bz ak v=some v2∧R v2:=by
  refine .bV hf hb hn (hc.mono fun e ab vh hq=>?_)
  cases e with
  |normal=>obtain⟨l,v,h1,h2,h3⟩:=hq;exact⟨l,h1,v,h2,h3⟩
  |ret=>obtain⟨l,v,h1,h2,h3⟩:=hq;exact⟨l,h1,v,h2,h3⟩
  |exit id=>exact hq.elim
  |goto l=>exact hq.elim
  |panic ch=>exact hq.elim
  |outgrown=>exact hq.elim
 intro lo g σ h au ha s
 refine(h1 lo g σ h au ha s).mono fun r h' ⟨g',aL,v,ak,k1,k2,k3,k4,k5,k6,k7,v2,k8,k9⟩=>?_
 have NQ:=(NO ak v v2 k8).ok k2 r k1
 have hF:v2.aB=true:=NP ak v v2 k8
 refine⟨_,_,v2,ah.empty,NQ,.none (Ef k2) k2.bA _,Fz.le_trans k3 (sc k2),fun i hi=>(by cases hi),⟨k5.next,k5.fe,fun i x hx=>(by cases hx)⟩,Nat.le_refl _,k7.trans k5 G3,hF,k9⟩
end
theorem wrap64 {x:Int}(h1 : -9223372036854775808≤x)(h2:x<9223372036854775808):IntKind.i64.wrap x=x:=by
 simp[IntKind.wrap,IntKind.bits,IntKind.signed];omega
abbrev ints (l:List Int):PV:=.vec (l.map (PV.int .i64))
theorem xj {α:Type}{f:α→PV}{n:Nat}(h:∀x,(f x).cells.length=n)(l:List α):kj n (l.map f)=true:=by
 unfold kj
 rw[List.all_eq_true]
 intro e he
 obtain⟨x,_,rfl⟩:=List.mem_map.1 he
 rw[beq_eq,decide_eq_true_eq];exact h x
theorem xm {α:Type}{f:α→PV}(h:∀x,(f x).cells.all PV.one=true)(l:List α):kG (l.map f)=true:=by
 unfold kG
 rw[List.all_eq_true]
 intro e he
 obtain⟨x,_,rfl⟩:=List.mem_map.1 he
 exact h x
theorem z0b {α:Type}{f:α→PV}(h:∀x,(f x).aB=true)(l:List α):PV.aG (l.map f)=true:=PV.Pp fun e he=>by
 obtain⟨x,_,rfl⟩:=List.mem_map.1 he
 exact h x
@[simp] theorem z9o (k:IntKind)(l:List Int):kj 1 (l.map (PV.int k))=true:=xj (f:=PV.int k) (n:=1) (fun _=>rfl) l
@[simp] theorem z7g (k:IntKind)(l:List Int):kG (l.map (PV.int k))=true:=xm (f:=PV.int k) (fun _=>rfl) l
@[simp] theorem xat (k:IntKind)(l:List Int):PV.aG (l.map (PV.int k))=true:=z0b (f:=PV.int k) (fun _=>by simp[PV.aB]) l
def Rec (b:Nat)(ab:aW)(vh:ah)(ay:aW)(aQ:ah):Prop:=∃D ρ,tA b D ρ ab vh ay aQ
theorem VW.rec {P:Program}{N b:Nat}{Q:gV}{ab ay:aW}{vh aQ:ah}{c:Code}(a:Rec b ab vh ay aQ)(hc:VW P N b c Q ay aQ):VW P N b c Q ab vh:=by
 obtain⟨D,ρ,a⟩:=a
 exact .z8d D ρ a hc
def jd (ab:aW):aW→Prop
 |[]=>True
 |(t,v)::r=>bS t ab=some v∧jd ab r
theorem Uu {ab:aW}:∀ {ay:aW},jd ab ay→∀t v,bS t ay=some v→bS t ab=some v
 |[],_,t,v,h=>by simp[bS] at h
 |(u,w)::r,hs,t,v,h=>by
  simp only[bS,beq_eq] at h
  by_cases AK:t=u
  ·subst AK;simp at h;subst h;exact hs.1
  simp[AK] at h;exact Uu hs.2 t v h
def pL:aW→Bool
 |[]=>true
 |(_,v)::r=>v.aB&&pL r
theorem Uv:∀ {ab:aW},pL ab=true→∀t v,bS t ab=some v→v.aB=true
 |[],_,t,v,h=>by simp[bS] at h
 |(u,w)::r,hs,t,v,h=>by
  simp only[pL,bR] at hs
  simp only[bS,beq_eq] at h
  by_cases AK:t=u
  ·subst AK;simp at h;subst h;exact hs.1
  simp[AK] at h;exact Uv hs.2 t v h
theorem Rec.pure {ab ay:aW}{vh:ah}(h1:pL ay=true)(h2:jd ab ay):Rec 0 ab vh ay ah.empty:=
 ⟨fun _=>false,id,⟨fun t v hv=>⟨v,Uu h2 t v hv,.same v (Uv h1 t v hv)⟩,fun j y hy=>(by cases hy),fun j k y z hy=>(by cases hy),fun j hj=>rfl,Nat.zero_le _⟩⟩
def uq (l:List (Nat×Nat))(j:Nat):Nat:=
 match l with
 |[]=>j
 |(a,b)::r=>bif Nat.beq j a then b else uq r j
def rz (vh:ah)(n2:Nat)(D:Nat→Bool)(ρ:Nat→Nat):List (Nat×aI)→Prop
 |[]=>True
 |(j,y)::r=>(j<n2∧((∃sz,y=.grow sz []∧0<sz)∨D (ρ j)=false∧∃x,vh.get (ρ j)=some x∧kf vh n2 D ρ x y))∧rz vh n2 D ρ r
theorem rz.get {vh:ah}{n2:Nat}{D:Nat→Bool}{ρ:Nat→Nat}:∀ {l:List (Nat×aI)},rz vh n2 D ρ l→∀j y,bh j l=some y→j<n2∧((∃sz,y=.grow sz []∧0<sz)∨D (ρ j)=false∧∃x,vh.get (ρ j)=some x∧kf vh n2 D ρ x y)
 |[],_,j,y,h=>by simp[bh] at h
 |(k,z)::r,hs,j,y,h=>by
  simp only[bh,beq_eq] at h
  by_cases tU:j=k
  ·subst tU;simp at h;subst h;exact hs.1
  simp[tU] at h;exact rz.get hs.2 j y h
theorem NR:∀ {l:List (Nat×aI)} {j:Nat} {y:aI},bh j l=some y→j∈l.map (·.1)
 |[],j,y,h=>by simp[bh] at h
 |(k,z)::r,j,y,h=>by
  simp only[bh,beq_eq] at h
  by_cases tU:j=k
  ·subst tU;simp
  simp[tU] at h;simp only[List.map_cons,List.mem_cons];exact .inr (NR h)
def vJ (ρ:Nat→Nat)(l:List Nat):Bool:=l.all fun j=>l.all fun k=>!(Nat.beq (ρ j) (ρ k))||Nat.beq j k
def ND (b:Nat)(ρ:Nat→Nat):Bool:=(List.range b).all fun j=>Nat.beq (ρ j) j
theorem Rec.mk {b:Nat}{ab ay:aW}{vh aQ:ah}(D:List Nat)(ρ:List (Nat×Nat))(ht:mH ab vh aQ.next (fun i=>D.contains i) (uq ρ) ay)(ho:rz vh aQ.next (fun i=>D.contains i) (uq ρ) aQ.be)
  (hi:vJ (uq ρ) (aQ.be.map (·.1))=true) (hb:ND b (uq ρ)=true) (hn:Nat.ble b aQ.next=true):Rec b ab vh ay aQ:=by
 refine⟨fun i=>D.contains i,uq ρ,⟨fun t v hv=>mH.get ht t v hv,fun j y hy=>rz.get ho j y hy,fun j k y z hy hz _ _ he=>?_,fun j hj=>?_,by simpa using hn⟩⟩
 ·unfold vJ at hi
  rw[List.all_eq_true] at hi
  have h1:=hi j (NR hy)
  rw[List.all_eq_true] at h1
  have h2:=h1 k (NR hz)
  rw[he] at h2
  simpa[beq_eq] using h2
 unfold ND at hb
 rw[List.all_eq_true] at hb
 simpa using hb j (by simpa using hj)
theorem VW.dF {P:Program}{N b:Nat}{Q:gV}{ab:aW}{vh:ah}{c:Code}{S:Type}(st:S→aW×ah)(I:S→Prop)(m:S→Nat)(s0:S)(h0:I s0)(hr:Rec b ab vh (st s0).1 (st s0).2)
  (round:∀s,I s→VW P N b c (zt (fun aP ak=>∃s',I s'∧m s'<m s∧Rec b aP ak (st s').1 (st s').2) Q) (st s).1 (st s).2):VW P N b (.loop c) Q ab vh:=
 .loop (fun k ab vh=>∃s,I s∧m s=k∧Rec b ab vh (st s).1 (st s).2) (m s0) ⟨s0,h0,rfl,hr⟩ fun k ab vh ⟨s,h1,h2,h3⟩=>by
  subst h2
  refine .rec h3 ((round s h1).mono fun e ab vh hq=>?_)
  cases e with
  |normal=>obtain⟨s',k1,k2,k3⟩:=hq;exact⟨m s',k2,s',k1,rfl,k3⟩
  |exit id=>exact hq
  |goto l=>exact hq
  |ret=>exact hq
  |panic ch=>exact hq
  |outgrown=>exact hq
def sd (P:Program)(lo:Nat)(ops:Array Oper)(ts:aC)(h:ae)(m:Nat):Prop:=
 ∃o d v h1,ops[m]?=some o∧o.dst=some d∧tR o.op=true∧ts[d]?=some v∧cn P lo ts h o.op=some (v,h1)
def G7 (op:Op)(d:Nat):Bool:=op.operands.toList.all fun x=>match x with
 |.tmp t=>!Nat.beq t d
 |_=>true
def Jj (ops:Array Oper)(dst:Option Tmp)(k:Nat):Bool:=
 match dst with
 |none=>true
 |some d=>match ops[k]? with
  |some o=>G7 o.op d&&(match o.dst with|some d'=>!Nat.beq d' d|none=>true)
  |none=>false
def xP (o:Oper):Bool:=
 match o.dst with
 |some d=>G7 o.op d
 |none=>false
section
variable {P:Program} {N b lo:Nat} {ops:Array Oper}
theorem zx6 {ts:aC}{x:Operand}{d:Nat}{v:Value}(hx:(match x with|.tmp t=>!Nat.beq t d|_=>true)=true):cI ts x=cI (bw ts (some d) v) x:=by
 cases x with
 |tmp t=>
  have:t≠d:=by simpa[beq_eq] using hx
  simp only[cI]
  rw[Po (fun h=>this h.symm)]
 |const=>rfl
 |func=>rfl
 |global=>rfl
theorem Uw {op:Op}{d:Nat}{ts:aC}{v:Value}(hf:G7 op d=true):∀x∈op.operands,cI ts x=cI (bw ts (some d) v) x:=fun x hx=>by
 unfold G7 at hf
 rw[List.all_eq_true] at hf
 exact zx6 (hf x (by simpa using hx))
theorem sd.put {ts:aC}{h h2:ae}{m:Nat}{dst:Option Tmp}(v:Value)(hc:sd P lo ops ts h m)(hs:h.sub h2)(hf:Jj ops dst m=true):sd P lo ops (bw ts dst v) h2 m:=by
 obtain⟨o,d,u,h1,k1,k2,k3,k4,k5⟩:=hc
 obtain⟨e1,e2⟩:=zS k3 k5
 have k6:=e2 h2 hs
 cases dst with
 |none=>exact⟨o,d,u,h2,k1,k2,k3,k4,k6⟩
 |some d'=>
  simp only[Jj,k1,k2,bR] at hf
  have cC:d≠d':=by simpa[beq_eq] using hf.2
  refine⟨o,d,u,h2,k1,k2,k3,?_,?_⟩
  ·simp only[bw];rw[List.getElem?_set_ne (fun h=>cC h.symm)];exact k4
  rw[← Bi (Uw hf.1)];exact k6
theorem sd.new {ts:aC}{h:ae}{m d:Nat}{o:Oper}{v:Value}{h1:ae}(ho:ops[m]?=some o)(hd:o.dst=some d)(aU:d<ts.length)(hr:tR o.op=true)(ha:cn P lo ts h o.op=some (v,h1))(hf:G7 o.op d=true):sd P lo ops (bw ts o.dst v) h m:=by
 obtain⟨e1,_⟩:=zS hr ha
 subst e1
 refine⟨o,d,v,h1,ho,hd,hr,by rw[hd];simp[bw,aU],?_⟩
 rw[hd,← Bi (Uw hf)];exact ha
def iB (ops:Array Oper)(todo:List Nat)(dst:Option Tmp):List Nat:=todo.filter (Jj ops dst)
def p9 (P:Program)(N b:Nat)(ops:Array Oper)(o:Oper)(todo:List Nat)(next:List Nat→aW→ah→Prop)(ab:aW)(vh:ah):Prop:=
 ∀lo g σ h ts,VT g σ vh.next ab ts→ts.length=N→VS lo g σ vh h→b≤vh.next→(∀m∈todo,sd P lo ops ts h m)→∀jv,w8 ops o jv ts→
  oM P lo o jv h fun ba h'=>∃v',ba=bw jv o.dst v'∧∃dV,(∀m∈dV,sd P lo ops (bw ts o.dst v') h' m)∧nS N b lo g σ vh h (next dV) (bw ts o.dst v') h'
theorem G8 {h:ae}{y:a7}:h.sub (h.alloc y):=fun o x hx=>by
 rw[ae.gX,if_neg (by have:=ae.fC hx;omega)];exact hx
theorem z6c {op:Op}{ts:aC}{h h':ae}{v:Value}(hi:EJ op=true)(ha:cn P lo ts h op=some (v,h')):h.sub h':=by
 cases op<;>simp only[EJ,Bool.false_eq_true] at hi
 case alloc t=>
  simp only[cn,CW] at ha
  split at ha
  ·simp only[ax,bI] at ha;rw[← ha.2];exact G8
  cases ha
 case box t x=>
  simp only[cn] at ha
  obtain⟨u,_,h2⟩:=cZ ha
  simp only[sh,bI] at h2;rw[← h2.2];exact G8
 case buildSlice t n ps=>
  simp only[cn] at ha
  split at ha
  ·unfold C4 at ha
   split at ha
   ·split at ha
    ·cases hb:(Nat.beq _ _&&Nat.ble _ _&&Nat.blt _ _) with
     |false=>rw[hb] at ha;cases ha
     |true=>
      rw[hb] at ha;simp only[aJ] at ha
      split at ha
      ·simp only[ax,bI] at ha;rw[← ha.2];exact G8
      cases ha
    cases ha
   cases ha
  cases ha
 case makeMap t r=>
  cases r with
  |none=>simp only[cn,ax,bI] at ha;rw[← ha.2];exact G8
  |some=>simp[cn] at ha
 case makeSlice t l c=>
  simp only[cn] at ha
  split at ha
  ·unfold C5 at ha
   split at ha
   ·split at ha
    ·cases hb:(Nat.beq _ _&&Nat.ble _ _&&Nat.ble _ _&&Nat.blt _ _&&Nat.ble _ _) with
     |false=>rw[hb] at ha;cases ha
     |true=>rw[hb] at ha;simp only[aJ,ax,bI] at ha;rw[← ha.2];exact G8
    cases ha
   cases ha
  cases ha
section
variable {ab:aW} {vh:ah} {o:Oper} {todo:List Nat} {next:List Nat→aW→ah→Prop}
theorem p9.dS {v:PV}{ak:ah}(hv:Go.Am.dS P ab vh o.op=some (v,ak))(hd:gr N o.dst=true)(hn:next (bif EJ o.op then iB ops todo o.dst else []) (bU ab o.dst v) ak):p9 P N b ops o todo next ab vh:=fun lo g σ h ts ht hl s hb gf jv dQ=>by
 obtain⟨v',h',k1,aL,k2,k3,k4,k5,k6⟩:=CG s ht hv
 obtain⟨g1,g2⟩:=ru (Fz.le_refl g) k5 k6 ht o.dst (hl▸hd) k2
 refine .op (v:=v') (h':=h') ?_ ⟨v',rfl,_,?_,g,aL,_,ak,⟨g1,g2.trans hl,k3,Fz.le_refl g,fun i hi=>k6 i (by omega),k4,by omega,dK.refl _ _ _ _⟩,hn⟩
 ·rw[Bi (fun x hx=>dQ.eval x hx)];exact k1
 intro m hm
 cases hi:EJ o.op with
 |false=>rw[hi] at hm;cases hm
 |true=>
  rw[hi] at hm
  simp only[aJ,iB,List.mem_filter] at hm
  exact(gf m hm.1).put v' (z6c hi k1) hm.2
theorem p9.CL {fo:Operand}{args:Array Operand}{aT:Array TypeId}{f:FuncId}{xs ys l:List PV}(ho:o.op=.call ⟨.value fo,args,aT⟩)
  (hf:cF ab fo=some (.func f xs ys)) (hl:iX ab args.toList=some l) (dM:∀cs w,(callFunc f cs).run P w=.ok (.enter f cs) w) (hd:gr N o.dst=true)
  (hc:zx P f (xs++l++ys) vh fun r ak=>next (iB ops todo o.dst) (bU ab o.dst r) ak):p9 P N b ops o todo next ab vh:=fun lo g σ h ts ht hn s hb gf jv dQ=>by
 obtain⟨f',k1,k2⟩:=eh ht hf
 obtain⟨l',k3,k4⟩:=yA ht hl
 obtain⟨bk,dq,rfl,hx,hy⟩:=Ji k2
 have e1:cI jv fo=cI ts fo:=dQ.eval fo (by rw[ho];simp[Op.operands,Call.operands])
 have e2:ns jv args.toList=ns ts args.toList:=De fun x hx=>dQ.eval x (by rw[ho];simp[Op.operands,Call.operands];exact .inr (by simpa using hx))
 refine .JX ho (e1.trans k1) (e2.trans k3) dM ((hc lo g σ h _ ((hx.append k4).append hy) s).mono fun r h' ⟨h0,g',aL,v,ak,h1,h2,h3,h4,h5,h6,h7,h8⟩=>?_)
 obtain⟨g1,g2⟩:=ru h3 h6 h4 ht o.dst (hn▸hd) h1
 refine⟨r,rfl,_,fun m hm=>?_,g',aL,_,ak,⟨g1,g2.trans hn,h2,h3,fun i hi=>h4 i (by omega),h5,by omega,h7⟩,h8⟩
 simp only[iB,List.mem_filter] at hm
 exact(gf m hm.1).put r h0 hm.2
theorem p9.call {fo:Operand}{args:Array Operand}{aT:Array TypeId}{f:FuncId}{xs ys l:List PV}(ho:o.op=.call ⟨.value fo,args,aT⟩)
  (hf:cF ab fo=some (.func f xs ys)) (hl:iX ab args.toList=some l) (dM:∀cs w,(callFunc f cs).run P w=.ok (.enter f cs) w) (hd:gr N o.dst=true)
  (hc:cR P f (xs++l++ys) vh fun r ak=>next [] (bU ab o.dst r) ak):p9 P N b ops o todo next ab vh:=fun lo g σ h ts ht hn s hb gf jv dQ=>by
 obtain⟨f',k1,k2⟩:=eh ht hf
 obtain⟨l',k3,k4⟩:=yA ht hl
 obtain⟨bk,dq,rfl,hx,hy⟩:=Ji k2
 have e1:cI jv fo=cI ts fo:=dQ.eval fo (by rw[ho];simp[Op.operands,Call.operands])
 have e2:ns jv args.toList=ns ts args.toList:=De fun x hx=>dQ.eval x (by rw[ho];simp[Op.operands,Call.operands];exact .inr (by simpa using hx))
 refine .JX ho (e1.trans k1) (e2.trans k3) dM ((hc lo g σ h _ ((hx.append k4).append hy) s).mono fun r h' ⟨g',aL,v,ak,h1,h2,h3,h4,h5,h6,h7,h8⟩=>?_)
 obtain⟨g1,g2⟩:=ru h3 h6 h4 ht o.dst (hn▸hd) h1
 exact⟨r,rfl,[],fun m hm=>(by cases hm),g',aL,_,ak,⟨g1,g2.trans hn,h2,h3,fun i hi=>h4 i (by omega),h5,by omega,h7⟩,h8⟩
end
def cr (P:Program)(N b:Nat)(ops:Array Oper)(W:List Nat)(K:aW→ah→Prop):List gT→List Nat→aW→ah→Prop
 |[],_,ab,vh=>K ab vh
 |.op m::r,todo,ab,vh=>
  match ops[m]? with
  |none=>False
  |some o=>match ie ops o ab with
   |none=>False
   |some false=>gr N o.dst=true∧cr P N b ops W K r (iB ops todo o.dst) (bU ab o.dst (.bp [])) vh
   |some true=>bif W.contains m then p9 P N b ops o todo (cr P N b ops W K r) ab vh
    else tR o.op=true∧gr N o.dst=true∧∃v,dS P ab vh o.op=some (v,vh)∧cr P N b ops W K r (bif xP o then m::iB ops todo o.dst else iB ops todo o.dst) (bU ab o.dst v) vh
 |.ck m::r,todo,ab,vh=>
  match ops[m]? with
  |none=>False
  |some o=>(todo.contains m=true∨o.dst.isSome=true∧ie ops o ab=some false)∧cr P N b ops W K r todo ab vh
theorem G9 {ms W:List Nat}(hd:∀d∈(ops.toList.filterMap (·.dst)),d<N){K:aW→ah→Prop}{g:Fz}{σ:Sg}{vh:ah}{h:ae}{base:Nat}:∀(items:List gT) (todo:List Nat) (ba:aC) (h':ae) (g':Fz) (aL:Sg) (aP:aW) (ak:ah),dA N b lo g σ vh h ba h' g' aL aP ak→
  (∀m∈todo,sd P lo ops ba h' m)→cr P N b ops W K items todo aP ak→xc P lo ops base ms W [] (nS N b lo g σ vh h K) items ba [] h'
 |[],todo,ba,h',g',aL,aP,ak,a,gf,k=>⟨g',aL,aP,ak,a,k⟩
 |.op m::r,todo,ba,h',g',aL,aP,ak,a,gf,k=>by
  simp only[cr] at k
  cases ho:ops[m]? with
  |none=>rw[ho] at k;exact k.elim
  |some o=>
   rw[ho] at k
   simp only at k
   refine⟨o,ho,?_⟩
   split at k
   ·exact k.elim
   ·rename_i hw
    rw[AJ (a.len▸hd) a.t hw]
    simp only[bl]
    obtain⟨g1,g2⟩:=ru (Fz.le_refl g') (Nat.le_refl _) (fun _ _=>rfl) a.t o.dst (a.len▸k.1) (.fr _ _ sb)
    refine G9 hd r _ _ h' g' aL _ ak ⟨g1,g2.trans a.len,a.s,a.le,a.agree,a.f,a.base,a.own⟩ (fun m hm=>?_) k.2
    simp only[iB,List.mem_filter] at hm
    exact(gf m hm.1).put _ (fun _ _ hx=>hx) hm.2
   rename_i hw
   rw[AJ (a.len▸hd) a.t hw]
   simp only[aJ]
   cases hW:W.contains m with
   |true=>
    rw[hW] at k
    simp only[aJ] at k ⊢
    intro jv dQ
    refine(k lo g' aL h' ba a.t a.len a.s a.base gf jv dQ).mono fun lR h2 ⟨v',e,dV,CM,g2,dp,ay,aQ,c,k2⟩=>⟨v',e,?_⟩
    exact G9 hd r dV _ h2 g2 dp ay aQ (a.trans c) CM k2
   |false=>
    rw[hW] at k
    simp only[bl,List.contains_nil] at k ⊢
    obtain⟨hr,qU,v,hv,k2⟩:=k
    obtain⟨v',h1,e1,dp,e2,e3,e4,e5,e6⟩:=CG (lo:=lo) a.s a.t hv
    obtain⟨e7,_⟩:=zS hr e1
    subst e7
    obtain⟨g1,g2⟩:=ru (Fz.le_refl g') (Nat.le_refl _) e6 a.t o.dst (a.len▸qU) e2
    have CN:∀i,i<b→dp i=σ i:=fun i hi=>(e6 i (Nat.lt_of_lt_of_le hi a.base)).trans (a.agree i hi)
    refine⟨v',h1,e1,G9 hd r _ _ h1 g' dp _ ak ⟨g1,g2.trans a.len,e3,a.le,CN,a.f.trans e4,a.base,a.own⟩ (fun m' hm=>?_) k2⟩
    have fR:m'∈iB ops todo o.dst→sd P lo ops (bw ba o.dst v') h1 m':=fun hm=>by
     simp only[iB,List.mem_filter] at hm
     exact(gf m' hm.1).put _ (fun _ _ hx=>hx) hm.2
    cases ox:xP o with
    |false=>rw[ox] at hm;exact fR hm
    |true=>
     rw[ox] at hm
     simp only[aJ,List.mem_cons] at hm
     rcases hm with rfl|hm
     ·unfold xP at ox
      cases pw:o.dst with
      |none=>rw[pw] at ox;cases ox
      |some d=>
       rw[pw] at ox
       have aU:d<ba.length:=by
        have:=a.len▸qU
        rw[pw] at this
        simpa[gr] using this
       have:=sd.new (P:=P) (lo:=lo) ho pw aU hr e1 ox
       rwa [pw] at this
     exact fR hm
 |.ck m::r,todo,ba,h',g',aL,aP,ak,a,gf,k=>by
  simp only[cr] at k
  cases ho:ops[m]? with
  |none=>rw[ho] at k;exact k.elim
  |some o=>
   rw[ho] at k
   simp only at k
   obtain⟨k1,k2⟩:=k
   have rest:=G9 (base:=base) (ms:=ms) hd r _ ba h' g' aL aP ak a gf k2
   rcases k1 with k1|⟨k1,hw⟩
   ·have hm:m∈todo:=by simpa using k1
    obtain⟨o',d,v,h1,c1,c2,c3,c4,c5⟩:=gf m hm
    rw[ho] at c1;injection c1 with c1;subst c1
    exact⟨o,d,ho,c2,fun _=>⟨v,h1,c4,c5⟩,rest⟩
   cases pw:o.dst with
   |none=>rw[pw] at k1;cases k1
   |some d=>exact⟨o,d,ho,pw,fun mV=>(by rw[AJ (a.len▸hd) a.t hw] at mV;cases mV),rest⟩
theorem VW.drawn {id:Nat}{Q:gV}{ab:aW}{vh:ah}{ms W:List Nat}{items:List gT}(hm:P.follows .mixedOrders=true)(dw:EU ops ms W []=true)(hc:xd ops ms W [] [] W [] items=true)(hd:xO N ops=true)
  (hs:cr P N b ops W (Q .normal) items [] ab vh):VW P N b (.region id ops true) Q ab vh:=fun lo g σ h ts ht hn s hb=>
 .sched hm dw rfl hc (G9 (NK hd) items [] ts h g σ ab vh (.refl ht hn s hb) (fun m hm=>(by cases hm)) hs)
end
@[simp] theorem z9k (cs:List PV):(PV.agg cs).cells=cs:=rfl
@[simp] theorem z9t (k:IntKind)(n:Int):(PV.int k n).cells=[.int k n]:=rfl
@[simp] theorem z7k (b:Bool):(PV.bool b).cells=[.bool b]:=rfl
@[simp] theorem z7w (s:ByteArray):(PV.str s).cells=[.str s]:=rfl
@[simp] theorem z9g (es:List PV):(PV.vec es).cells=[.vec es]:=rfl
@[simp] theorem z7i (es:List (PV×PV)):(PV.az es).cells=[.az es]:=rfl
@[simp] theorem xaw (es:List PV):(PV.vp es).cells=[.vp es]:=rfl
@[simp] theorem z8s:PV.aF.cells=[.aF]:=rfl
@[simp] theorem xa0:PV.e0.cells=[.e0]:=rfl
@[simp] theorem z7f:PV.eJ.cells=[.eJ]:=rfl
@[simp] theorem z7e:PV.dj.cells=[.dj]:=rfl
@[simp] theorem zzv:PV.nilFunc.cells=[.nilFunc]:=rfl
@[simp] theorem z7b (f:FuncId)(xs ys:List PV):(PV.func f xs ys).cells=[.func f xs ys]:=rfl
@[simp] theorem z9r (i off:Nat):(PV.ptr i off).cells=[.ptr i off]:=rfl
@[simp] theorem z8t (i off l k:Nat):(PV.own i off l k).cells=[.own i off l k]:=rfl
@[simp] theorem z8m (i off l:Nat):(PV.sub i off l).cells=[.sub i off l]:=rfl
@[simp] theorem z7a (i n:Nat)(nl:Bool):(PV.grow i n nl).cells=[.grow i n nl]:=rfl
@[simp] theorem z7j (i:Nat):(PV.aY i).cells=[.aY i]:=rfl
@[simp] theorem z7v (cs:List PV):(PV.bp cs).cells=[.bp cs]:=rfl
@[simp] theorem z5d (a b:List PV):PV.aG (a++b)=(PV.aG a&&PV.aG b):=by
 induction a with
 |nil=>rfl
 |cons v r ih=>simp only[List.cons_append,PV.aG,ih,Bool.and_assoc]
theorem sJ (a b:Nat):Nat.ble a b=decide (a≤b):=by rw[Bool.eq_iff_iff];simp
theorem tW (a b:Nat):Nat.blt a b=decide (a<b):=by rw[Bool.eq_iff_iff];simp
section
variable {P:Program} {N b:Nat} {Q:gV} {ab:aW} {vh:ah}
theorem VW.zae {c:Operand}{x y:Code}{v:Bool}(hc:cF ab c=some (.bool v))(hT:v=true→VW P N b x Q ab vh)(hF:v=false→VW P N b y Q ab vh):VW P N b (.cond c x y) Q ab vh:=by
 cases v with
 |true=>exact .eK hc (hT rfl)
 |false=>exact .iM hc (hF rfl)
theorem bO.split {ops:Array Oper}{K:aW→ah→Prop}{l:List Nat}{t:Nat}{v:Bool}(hv:bS t ab=some (.bool v))(hT:v=true→bO P N b ops K l ab vh)(hF:v=false→bO P N b ops K l ab vh):bO P N b ops K l ab vh:=by
 cases v with
 |true=>exact hT rfl
 |false=>exact hF rfl
theorem cr.split {ops:Array Oper}{W todo:List Nat}{K:aW→ah→Prop}{l:List gT}{t:Nat}{v:Bool}(hv:bS t ab=some (.bool v))(hT:v=true→cr P N b ops W K l todo ab vh)(hF:v=false→cr P N b ops W K l todo ab vh):cr P N b ops W K l todo ab vh:=by
 cases v with
 |true=>exact hT rfl
 |false=>exact hF rfl
theorem VW.aD {id:Nat}{ops:Array Oper}(l:List Nat)(hl:List.range ops.size=l)(hd:xO N ops=true)(hk:bO P N b ops (Q .normal) l ab vh):VW P N b (.region id ops false) Q ab vh:=.region hd (hl▸hk)
theorem bO.step {ops:Array Oper}{K:aW→ah→Prop}{i:Nat}{r:List Nat}{o:Oper}(ho:ops[i]?=some o)(hw:ie ops o ab=some true)(hs:kx P N b o (bO P N b ops K r) ab vh):bO P N b ops K (i::r) ab vh:=by
 simp only[bO,ho,hw];exact hs
theorem bO.done {ops:Array Oper}{K:aW→ah→Prop}(hk:K ab vh):bO P N b ops K [] ab vh:=hk
theorem kx.pure {o:Oper}{next:aW→ah→Prop}{fo:Operand}{args:Array Operand}{aT:Array TypeId}{f:FuncId}{xs ys l:List PV}{R:PV→Prop}(ho:o.op=.call ⟨.value fo,args,aT⟩)
  (hf:cF ab fo=some (.func f xs ys)) (hl:iX ab args.toList=some l) (dM:∀cs w,(callFunc f cs).run P w=.ok (.enter f cs) w) (hd:gr N o.dst=true)
  (hp:aM P f (xs++l++ys) R) (hF:PV.aG (xs++l++ys)=true) (hn:∀r,R r→next (bU ab o.dst r) vh):kx P N b o next ab vh:=
 .call ho hf hl dM hd ((hp.call hF).mono fun r ak ⟨h1,h2⟩=>h1▸hn r h2)
theorem kx.borrow {o:Oper}{next:aW→ah→Prop}{fo:Operand}{args:Array Operand}{aT:Array TypeId}{f:FuncId}{xs ys l cu:List PV}{R:PV→Prop}(ho:o.op=.call ⟨.value fo,args,aT⟩)
  (hf:cF ab fo=some (.func f xs ys)) (hl:iX ab args.toList=some l) (dM:∀cs w,(callFunc f cs).run P w=.ok (.enter f cs) w) (hd:gr N o.dst=true)
  (hz:b9 vh (xs++l++ys)=some cu) (hp:aM P f cu R) (G6:∀v,R v→v.dy=true) (hn:∀r,R r→next (bU ab o.dst r) vh):kx P N b o next ab vh:=
 .call ho hf hl dM hd ((hp.borrow hz G6).mono fun r ak ⟨h1,h2⟩=>h1▸hn r h2)
theorem p9.pure {ops:Array Oper}{todo:List Nat}{o:Oper}{next:List Nat→aW→ah→Prop}{fo:Operand}{args:Array Operand}{aT:Array TypeId}{f:FuncId}{xs ys l:List PV}{R:PV→Prop}(ho:o.op=.call ⟨.value fo,args,aT⟩)
  (hf:cF ab fo=some (.func f xs ys)) (hl:iX ab args.toList=some l) (dM:∀cs w,(callFunc f cs).run P w=.ok (.enter f cs) w) (hd:gr N o.dst=true)
  (hp:aM P f (xs++l++ys) R) (hF:PV.aG (xs++l++ys)=true) (hn:∀r,R r→next (iB ops todo o.dst) (bU ab o.dst r) vh):p9 P N b ops o todo next ab vh:=
 .CL ho hf hl dM hd ((hp.CL hF).mono fun r ak ⟨h1,h2⟩=>h1▸hn r h2)
theorem cr.rd {ops:Array Oper}{W todo:List Nat}{K:aW→ah→Prop}{m:Nat}{r:List gT}{o:Oper}{v:PV}(ho:ops[m]?=some o)(hw:ie ops o ab=some true)(hW:W.contains m=false)(hr:tR o.op=true)(hd:gr N o.dst=true)(hv:dS P ab vh o.op=some (v,vh))
  (k:cr P N b ops W K r (bif xP o then m::iB ops todo o.dst else iB ops todo o.dst) (bU ab o.dst v) vh):cr P N b ops W K (.op m::r) todo ab vh:=by
 simp only[cr,ho,hw,hW,bl];exact⟨hr,hd,v,hv,k⟩
theorem cr.wr {ops:Array Oper}{W todo:List Nat}{K:aW→ah→Prop}{m:Nat}{r:List gT}{o:Oper}(ho:ops[m]?=some o)(hw:ie ops o ab=some true)(hW:W.contains m=true)
  (k:p9 P N b ops o todo (cr P N b ops W K r) ab vh):cr P N b ops W K (.op m::r) todo ab vh:=by
 simp only[cr,ho,hw,hW,aJ];exact k
theorem cr.un {ops:Array Oper}{W todo:List Nat}{K:aW→ah→Prop}{m:Nat}{r:List gT}{o:Oper}(ho:ops[m]?=some o)(hw:ie ops o ab=some false)(hd:gr N o.dst=true)
  (k:cr P N b ops W K r (iB ops todo o.dst) (bU ab o.dst (.bp [])) vh):cr P N b ops W K (.op m::r) todo ab vh:=by
 simp only[cr,ho,hw];exact⟨hd,k⟩
theorem cr.ck {ops:Array Oper}{W todo:List Nat}{K:aW→ah→Prop}{m:Nat}{r:List gT}{o:Oper}(ho:ops[m]?=some o)(hc:todo.contains m=true)
  (k:cr P N b ops W K r todo ab vh):cr P N b ops W K (.ck m::r) todo ab vh:=by
 simp only[cr,ho];exact⟨.inl hc,k⟩
theorem cr.done {ops:Array Oper}{W todo:List Nat}{K:aW→ah→Prop}(hk:K ab vh):cr P N b ops W K [] todo ab vh:=hk
end
theorem Alt.xE {vh:ah}{n2:Nat}{D:Nat→Bool}{ρ:Nat→Nat}(i j n n':Nat)(nl:Bool)(hn:n=n')(hj:j<n2)(hi:ρ j=i):Alt vh n2 D ρ (.grow i n nl) (.grow j n' nl):=hn▸.grow i j n nl hj hi
mutual
def PV.ids:PV→List Nat
 |.func _ xs ys=>PV.cO xs++PV.cO ys
 |.agg cs=>PV.cO cs
 |.bp cs=>PV.cO cs
 |.ptr i _|.own i _ _ _|.sub i _ _|.grow i _ _|.aY i|.bN i=>[i]
 |_=>[]
def PV.cO:List PV→List Nat
 |[]=>[]
 |v::r=>v.ids++PV.cO r
end
def gx:List Nat→ah→ah
 |[],vh=>vh
 |i::r,vh=>gx r (vh.drop i)
theorem xR:∀(l:List Nat) (vh:ah),(gx l vh).next=vh.next
 |[],_=>rfl
 |i::r,vh=>xR r (vh.drop i)
theorem se:∀(l:List Nat) (vh:ah) (j:Nat) (y:aI),(gx l vh).get j=some y→j∉l∧vh.get j=some y
 |[],_,j,y,h=>⟨by simp,h⟩
 |i::r,vh,j,y,h=>by
  obtain⟨h1,h2⟩:=se r (vh.drop i) j y h
  obtain⟨h3,h4⟩:=gH h2
  exact⟨by simp[h1,h3],h4⟩
mutual
theorem z0n (vh:ah)(D:Nat→Bool):∀(v v2:PV),(∀i∈v.ids,D i=true)→bz vh v=some v2→Alt vh 0 D id v v2
 |.func f xs ys,v2,hD,h=>by
  simp only[bz] at h
  simp only[PV.ids,List.mem_append] at hD
  split at h
  ·rename_i a c h1 h2
   injection h with h;subst h
   exact .dv (CO vh D xs a (fun i hi=>hD i (.inl hi)) h1) (CO vh D ys c (fun i hi=>hD i (.inr hi)) h2)
  cases h
 |.agg cs,v2,hD,h=>by
  simp only[bz] at h
  simp only[PV.ids] at hD
  obtain⟨l,h1,rfl⟩:=cZ h
  exact .ky (CO vh D cs l hD h1)
 |.bp cs,v2,hD,h=>by
  simp only[bz] at h
  simp only[PV.ids] at hD
  obtain⟨l,h1,rfl⟩:=cZ h
  exact .CA (CO vh D cs l hD h1)
 |.ptr i off,v2,hD,h=>by
  have xS:=hD i (by simp[PV.ids])
  simp only[bz] at h
  split at h
  ·rename_i cs hg
   cases hb:(PV.aG cs&&Nat.ble off cs.length) with
   |false=>rw[hb] at h;cases h
   |true=>
    rw[hb] at h;simp only[aJ,ax] at h;subst h
    simp only[bR,Nat.ble_eq] at hb
    exact .CJ i off cs xS hg hb.1 hb.2
  ·rename_i ag sz cs hg
   cases hb:Nat.ble off cs.length with
   |false=>rw[hb] at h;cases h
   |true=>
    rw[hb] at h;simp only[aJ,ax] at h;subst h
    exact .wP i off ag sz cs xS hg (by simpa using hb)
  cases h
 |.own i off len k,v2,hD,h=>by
  have xS:=hD i (by simp[PV.ids])
  simp only[bz] at h
  rcases jM len 0 with⟨hq,bZ⟩|⟨hq,bZ⟩
  ·rw[hq] at h;simp only[aJ,ax] at h;subst h;subst bZ;exact .wO i off k
  rw[hq] at h;simp only[bl] at h
  split at h
  ·rename_i ag sz cs hg
   obtain⟨es,h1,rfl⟩:=cZ h
   exact .gM i off len k ag sz cs es xS hg h1
  cases h
 |.sub i off len,v2,hD,h=>by
  have xS:=hD i (by simp[PV.ids])
  simp only[bz] at h
  rcases jM len 0 with⟨hq,bZ⟩|⟨hq,bZ⟩
  ·rw[hq] at h;simp only[aJ,ax] at h;subst h;subst bZ;exact .wN i off
  rw[hq] at h;simp only[bl] at h
  split at h
  ·rename_i ag sz cs hg
   obtain⟨es,h1,rfl⟩:=cZ h
   exact .q8 i off len ag sz cs es xS hg h1
  cases h
 |.grow i n nl,v2,hD,h=>by
  have xS:=hD i (by simp[PV.ids])
  simp only[bz] at h
  split at h
  ·rename_i sz es hg
   rcases jM es.length n with⟨hq,bZ⟩|⟨hq,bZ⟩
   ·rw[hq] at h;simp only[aJ,ax] at h;subst h;exact .bJ i n nl sz es xS hg bZ
   rw[hq] at h;cases h
  rcases jM n 0 with⟨hq,bZ⟩|⟨hq,bZ⟩
  ·rw[hq] at h;simp only[aJ,ax] at h;subst h;subst bZ;exact .rA i nl
  rw[hq] at h;cases h
 |.iface t v,v2,hD,h=>by
  simp only[bz] at h
  cases hf:v.aB with
  |false=>rw[hf] at h;cases h
  |true=>rw[hf] at h;simp only[aJ,ax] at h;subst h;exact .same _ (by simp only[PV.aB];exact hf)
 |.aY i,v2,hD,h=>by
  have xS:=hD i (by simp[PV.ids])
  simp only[bz] at h
  split at h
  ·rename_i es hg
   injection h with h;subst h;exact .dz i es xS hg
  cases h
 |.az es,v2,hD,h=>by simp only[bz,ax] at h;subst h;exact .same _ rfl
 |.bN _,v2,hD,h=>by simp[bz] at h
 |.bool b,v2,hD,h=>by simp only[bz,ax] at h;subst h;exact .same _ rfl
 |.int k n,v2,hD,h=>by simp only[bz,ax] at h;subst h;exact .same _ rfl
 |.str s,v2,hD,h=>by simp only[bz,ax] at h;subst h;exact .same _ rfl
 |.nilFunc,v2,hD,h=>by simp only[bz,ax] at h;subst h;exact .same _ rfl
 |.nilIface,v2,hD,h=>by simp only[bz,ax] at h;subst h;exact .same _ rfl
 |.eJ,v2,hD,h=>by simp only[bz,ax] at h;subst h;exact .same _ rfl
 |.aF,v2,hD,h=>by simp only[bz,ax] at h;subst h;exact .same _ rfl
 |.dj,v2,hD,h=>by simp only[bz,ax] at h;subst h;exact .same _ rfl
 |.e0,v2,hD,h=>by simp only[bz,ax] at h;subst h;exact .same _ rfl
 |.vec es,v2,hD,h=>by simp only[bz,ax] at h;subst h;exact .same _ rfl
 |.vp cs,v2,hD,h=>by simp only[bz,ax] at h;subst h;exact .same _ rfl
theorem CO (vh:ah)(D:Nat→Bool):∀(l l2:List PV),(∀i∈PV.cO l,D i=true)→b9 vh l=some l2→aA vh 0 D id l l2
 |[],l2,hD,h=>by simp only[b9,ax] at h;subst h;exact .nil
 |v::r,l2,hD,h=>by
  simp only[b9] at h
  simp only[PV.cO,List.mem_append] at hD
  split at h
  ·rename_i a l h1 h2
   injection h with h;subst h
   exact .cons (z0n vh D v a (fun i hi=>hD i (.inl hi)) h1) (CO vh D r l (fun i hi=>hD i (.inr hi)) h2)
  cases h
end
section
variable {P:Program} {N b:Nat} {ab:aW} {vh:ah}
theorem aM.FJ {f:FuncId}{args cu:List PV}{R:PV→Prop}(hp:aM P f cu R)(oR:b9 vh args=some cu):cR P f args vh fun v ak=>ak=gx (PV.cO args) vh∧R v:=fun lo g σ h au ha s=>by
 have hA:=CO vh (fun i=>(PV.cO args).contains i) args cu (fun i hi=>by simpa using hi) oR
 have uD:=aA.ok s hA ha
 have hF:PV.aG cu=true:=CK vh args cu oR
 have hle:=sc (D:=fun i=>(PV.cO args).contains i) s
 have hS:VS lo (g.more σ vh h fun i=>(PV.cO args).contains i) σ (gx (PV.cO args) vh) h:=by
  refine⟨fun j y hy=>?_,fun j k y z hy hz=>s.inj j k y z (se _ _ _ _ hy).2 (se _ _ _ _ hz).2,fun j y hy=>s.low j y (se _ _ _ _ hy).2,Ef s,fun j y hy hl=>?_,s.bA⟩
  ·obtain⟨k1,k2⟩:=s.obj j y (se _ _ _ _ hy).2
   rw[xR]
   exact⟨k1,k2.mono hle (Nat.le_refl _) (fun _ _=>rfl) k1 fun _=>rfl⟩
  obtain⟨h1,h2⟩:=se _ _ _ _ hy
  unfold Fz.more
  rw[if_neg]
  ·exact s.iG j y h2 hl
  rintro⟨i,z,k1,k2,k3,k4⟩
  have:=s.inj i j z y k2 h2 k3 hl k4
  subst this
  exact h1 (by simpa using k1)
 have Ha:VF σ vh h σ (gx (PV.cO args) vh) h:=⟨Nat.le_refl _,fun _ _ _=>rfl,fun j y hy hl _=>⟨j,y,(se _ _ _ _ hy).2,hl,rfl⟩⟩
 refine((hp.CL (vh:=gx (PV.cO args) vh) hF) lo _ σ h au (uD.aB hF).vr hS).mono fun r h' ⟨h0,g',aL,v,ak,h1,h2,h3,h4,h5,h6,h7,h8⟩=>?_
 rw[xR] at h4 h6
 exact⟨g',aL,v,ak,h1,h2,Fz.le_trans hle h3,h4,Ha.trans h5,h6,G3.trans Ha h7,h8⟩
theorem kx.take {o:Oper}{next:aW→ah→Prop}{fo:Operand}{args:Array Operand}{aT:Array TypeId}{f:FuncId}{xs ys l cu:List PV}{R:PV→Prop}(ho:o.op=.call ⟨.value fo,args,aT⟩)
  (hf:cF ab fo=some (.func f xs ys)) (hl:iX ab args.toList=some l) (dM:∀cs w,(callFunc f cs).run P w=.ok (.enter f cs) w) (hd:gr N o.dst=true)
  (hz:b9 vh (xs++l++ys)=some cu) (hp:aM P f cu R) (hn:∀r,R r→next (bU ab o.dst r) (gx (PV.cO (xs++l++ys)) vh)):kx P N b o next ab vh:=
 .call ho hf hl dM hd ((hp.FJ hz).mono fun r ak ⟨h1,h2⟩=>h1▸hn r h2)
theorem aM.alt {f:FuncId}{args:List PV}{R R2:PV→Prop}(hp:aM P f args R)(ha:∀r,R r→∃r2,Alt ah.empty 0 (fun _=>true) id r r2∧r2.aB=true∧R2 r2):aM P f args R2:=fun lo g σ h au hA s=>by
 refine(hp lo g σ h au hA s).mono fun r h' ⟨g',aL,v,ak,h1,h2,h3,h4,h5,h6,h7,h8,h9⟩=>?_
 obtain⟨r2,k1,k2,k3⟩:=ha v h9
 have s0:VS lo g' aL ah.empty h':=.none h2.fz h2.bA aL
 have hv:VR g' aL ah.empty.next v r:=.fr _ _ (h1.aB h8)
 have k4:=(k1.ok s0 r hv).aB k2
 have wQ:g'.more aL ah.empty h' (fun _=>true)=g':=by
  funext o
  unfold Fz.more
  rw[if_neg]
  rintro⟨i,x,_,hx,_⟩
  cases hx
 rw[wQ] at k4
 exact⟨g',aL,r2,ak,.fr _ _ k4,h2,h3,h4,h5,h6,h7,k2,k3⟩
end
end Go.Am
end
