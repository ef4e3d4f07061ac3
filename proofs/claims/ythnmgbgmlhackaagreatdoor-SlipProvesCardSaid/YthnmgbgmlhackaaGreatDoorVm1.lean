/-
 What is used in the proof of a statement (part Vm1); no condition.
-/
import Derived.Test.YthnmgbgmlhackaaGreatDoorAm3
set_option linter.all false
set_option maxHeartbeats 40000000
set_option maxRecDepth 100000
section
namespace Go.Am
variable [bE]
section
variable {P:Program} {lo:Nat} {g:Fz} {σ:Sg} {vh:af} {h:ai}
def nV (es:List PV):Bool:=es.all fun e=>e.cells.all PV.one
theorem znl {es:List PV}(h:nV es=true):(es.flatMap PV.cells).all PV.one=true:=by
 unfold nV at h
 rw[List.all_eq_true] at h ⊢
 intro v hv
 rw[List.mem_flatMap] at hv
 obtain⟨e,he,hv⟩:=hv
 exact(List.all_eq_true.1 (h e he)) v hv
theorem zsq (s:VS lo g σ vh h){n:Nat}(hn:0<n){xs:List PV}{bu:List Value}(nl:Bool)(hl:∀e∈xs,e.cells.length=n)(hx:bp (FR g) (xs.flatMap PV.cells) bu)(a8:xs.length<aC){v0:Value}(h0:v0=.slice none 0 0∨nl=false∧∃o off,v0=.slice (some ⟨o,off,none⟩) 0 0) :
  if xs.length=0 then lP lo g σ vh h (.grow vh.next xs.length nl) (vh.alloc (.grow n xs)) v0 h
  else lP lo g σ vh h (.grow vh.next xs.length nl) (vh.alloc (.grow n xs)) (.slice (some ⟨h.next,0,none⟩) xs.length aC) (h.alloc (.cells n bu)):=by
 have cW:∀p i,i<vh.next→(σ.put vh.next p) i=σ i:=fun p i hi=>Sg.AO _ _ (by omega)
 split
 ·rename_i he
  have he:=List.eq_nil_of_length_eq_zero he
  subst he
  have h1:=s.Vj (x:=.grow n []) (0,0,0) ⟨hn,by simp,by decide,.inl rfl⟩ (fun hl=>by cases hl)
  refine⟨_,?_,h1,⟨Nat.le_refl _,fun _ _ _=>rfl,fun i x hx hl _=>?_⟩,Nat.le_succ _,cW _⟩
  ·rcases h0 with rfl|⟨rfl,o,off,rfl⟩
   ·exact .cB _ _
   exact .cC _ _ _
  rw[af.lf] at hx
  by_cases hi:i=vh.next
  ·simp[hi] at hx;subst hx;cases hl
  simp[hi] at hx;rw[cW _ i (s.obj i x hx).1];exact⟨i,x,hx,hl,rfl⟩
 rename_i he
 obtain⟨h1,h2⟩:=s.alloc (x:=.grow n xs) (.cells n bu) aC ⟨hn,hl,a8,.inr ⟨n,bu,by rw[Sg.cX,ai.lf,if_pos rfl],by rw[Sg.cX],hx,.inl ⟨by rw[Sg.cX],rfl⟩⟩⟩
 exact⟨_,.grow vh.next xs.length h.next 0 aC nl (Nat.lt_succ_self _) (Sg.cX _ _ _) (by omega),h1,h2,Nat.le_succ _,cW _⟩
theorem lP.after {cI aZ:af}{h1 h2:ai}{v:PV}{v':Value}(hf:VF σ vh h σ cI h1)(hn:cI.next=vh.next)(hk:lP lo g σ cI h1 v aZ v' h2):lP lo g σ vh h v aZ v' h2:=by
 obtain⟨aU,k1,k2,k3,k4,k5⟩:=hk
 exact⟨aU,k1,k2,hf.trans k3,hn▸k4,fun i hi=>k5 i (hn▸hi)⟩
theorem zsk (s:VS lo g σ vh h){n:Nat}(hn:0<n){i l o k s0:Nat}{x:aO}{es xs:List PV}{au bu:List Value}(nl:Bool)(hg:vh.get i=some x)(mQ:x.live=true)(hi:i<vh.next)(hs:σ i=(o,0,k)∨(σ i).1=o)(hl:∀e∈es,e.cells.length=n)(lk:∀e∈xs,e.cells.length=n)
  (ho:h.get o=some (.cells s0 au)) (hc:bp (FR g) (es.flatMap PV.cells) au) (hx:bp (FR g) (xs.flatMap PV.cells) bu) (s8:es.length=l) (nf:0<l) (a8:l+xs.length≤17592186044416) (hk:k=aC∧s0=n∨k=l) :
  (xs.length=0→lP lo g σ vh h (.grow vh.next (l+xs.length) nl) ((vh.drop i).alloc (.grow n (es++xs))) (.slice (some ⟨o,0,none⟩) l k) h)∧
  (0<xs.length→lP lo g σ vh h (.grow vh.next (l+xs.length) nl) ((vh.drop i).alloc (.grow n (es++xs))) (.slice (some ⟨h.next,0,none⟩) (l+xs.length) aC) (h.alloc (.cells n (au++bu))))∧
  (0<xs.length→lP lo g σ vh h (.grow vh.next (l+xs.length) nl) ((vh.drop i).alloc (.grow n (es++xs))) (.slice (some ⟨h.next,0,none⟩) (l+xs.length) aC) ((h.put o none).alloc (.cells n (au++bu)))):=by
 have iM:(σ i).1=o:=by rcases hs with h|h;rw[h];exact h
 have cW:∀p i,i<vh.next→(σ.put vh.next p) i=σ i:=fun p i hi=>Sg.AO _ _ (by omega)
 have dC:(17592186044416:Nat)<aC:=by decide
 have da:∀e∈es++xs,e.cells.length=n:=fun e he=>(List.mem_append.1 he).elim (hl e) (lk e)
 have LB:bp (FR g) ((es++xs).flatMap PV.cells) (au++bu):=by rw[List.flatMap_append];exact hc.append hx
 have hlen:(es++xs).length=l+xs.length:=by simp[s8]
 refine⟨fun h0=>?_,fun h0=>?_,fun h0=>?_⟩
 ·have yr:=List.eq_nil_of_length_eq_zero h0
  subst yr
  obtain⟨s1,f1⟩:=s.sub (aZ:=vh.drop i) rfl fun j y hy=>(nr hy).2
  have sg:vH g (σ.put vh.next (o,0,k)) (vh.next+1) h vh.next (.grow n (es++[])):=⟨hn,da,by simp;omega,.inr ⟨s0,au,by rw[Sg.cX];exact ho,by rw[Sg.cX],by simpa using hc,by rw[Sg.cX];rcases hk with h|h;exact .inl h;exact .inr (by simp[h,s8])⟩⟩
  have h1:VS lo g (σ.put vh.next (o,0,k)) ((vh.drop i).alloc (.grow n (es++[]))) h:=s1.Vj (x:=.grow n (es++[])) (o,0,k) sg
   (fun _=>⟨iM▸s.low i x hg mQ,iM▸s.l6 i x hg mQ,fun j y hy kJ he=>by
    obtain⟨g1,g2⟩:=nr hy
    exact g1 (s.inj j i y x g2 hg kJ mQ (he.trans iM.symm))⟩)
  refine⟨σ.put vh.next (o,0,k),?_,h1,⟨Nat.le_refl _,fun _ _ _=>rfl,fun j y hy kJ qQ=>?_⟩,Nat.le_succ _,cW _⟩
  ·have:=VR.grow (g:=g) (σ:=σ.put vh.next (o,0,k)) (n:=((vh.drop i).alloc (.grow n (es++[]))).next) vh.next l o 0 k nl (Nat.lt_succ_self _) (Sg.cX _ _ _) nf
   simpa using this
  rw[af.lf,show (vh.drop i).next=vh.next from rfl] at hy
  by_cases hj:j=vh.next
  ·subst hj;rw[Sg.cX];exact⟨i,x,hg,mQ,iM⟩
  rw[if_neg hj] at hy
  obtain⟨_,hy⟩:=nr hy
  rw[cW _ j (s.obj j y hy).1];exact⟨j,y,hy,kJ,rfl⟩
 ·obtain⟨s1,f1⟩:=s.sub (aZ:=vh.drop i) rfl fun j y hy=>(nr hy).2
  have sg:vH g (σ.put vh.next (h.next,0,aC)) (vh.next+1) (h.alloc (.cells n (au++bu))) vh.next (.grow n (es++xs)):=⟨hn,da,by omega,.inr ⟨n,au++bu,by rw[Sg.cX,ai.lf,if_pos rfl],by rw[Sg.cX],LB,.inl ⟨by rw[Sg.cX],rfl⟩⟩⟩
  obtain⟨h1,h2⟩:=s1.alloc (x:=.grow n (es++xs)) (.cells n (au++bu)) aC sg
  exact⟨_,.grow vh.next (l+xs.length) h.next 0 aC nl (Nat.lt_succ_self _) (Sg.cX _ _ _) (by omega),h1,f1.trans h2,Nat.le_succ _,cW _⟩
 obtain⟨s1,f1⟩:=s.kill hg mQ
 rw[iM] at s1 f1
 have sg:vH g (σ.put vh.next (h.next,0,aC)) (vh.next+1) ((h.put o none).alloc (.cells n (au++bu))) vh.next (.grow n (es++xs)):=⟨hn,da,by omega,.inr ⟨n,au++bu,by rw[Sg.cX,ai.lf];exact if_pos rfl,by rw[Sg.cX],LB,.inl ⟨by rw[Sg.cX],rfl⟩⟩⟩
 obtain⟨h1,h2⟩:=s1.alloc (x:=.grow n (es++xs)) (.cells n (au++bu)) aC sg
 exact⟨_,.grow vh.next (l+xs.length) h.next 0 aC nl (Nat.lt_succ_self _) (Sg.cX _ _ _) (by omega),h1,f1.trans h2,Nat.le_succ _,cW _⟩
def r9 (bytes m:Nat):Bool:=Nat.ble m 4294967296||(Nat.ble m 17592186044320&&Nat.ble bytes 8)
theorem Tw (b m:Nat):r9 b m=(decide (m≤4294967296)||(decide (m≤17592186044320)&&decide (b≤8))):=by unfold r9;rw[Bool.eq_iff_iff];simp
theorem Oi {b m:Nat}(h:r9 b m=true):m≤17592186044416:=by
 rw[Tw] at h
 simp at h
 omega
theorem xb7 {b m:Nat}(h:r9 b m=true)(hb:b≤4096):(Nat.ble m 17592186044416&&Nat.ble ((2*m+192)*b) 281474976710656)=true:=by
 rw[Tw] at h
 simp at h
 simp only[bW,Nat.ble_eq]
 refine⟨by omega,?_⟩
 rcases h with h|⟨h,h2⟩
 ·have:(2*m+192)*b≤(2*4294967296+192)*4096:=Nat.mul_le_mul (by omega) hb
  omega
 have:(2*m+192)*b≤(2*17592186044320+192)*8:=Nat.mul_le_mul (by omega) h2
 omega
def kO (P:Program)(vh:af)(sT xT:TypeId)(s x:PV):Option (PV×af):=
 match jh P sT,jh P xT with
 |some (e,n),some _=>
  match fI P e,(P.info? e).map (·.bytes),gE vh n x with
  |some z,some bytes,some xs=>
   bif !(Nat.beq z.length n&&Nat.blt 0 n&&Nat.ble bytes 4096&&nV xs) then none else
   match s with
   |.aJ=>bif r9 bytes xs.length then some (.grow vh.next xs.length true,vh.alloc (.grow n xs)) else none
   |.e0=>bif r9 bytes xs.length then some (.grow vh.next xs.length false,vh.alloc (.grow n xs)) else none
   |.own i off l k=>
    bif Nat.beq k 0 then (bif r9 bytes xs.length then some (.grow vh.next xs.length false,vh.alloc (.grow n xs)) else none) else
    bif !(Nat.beq off 0&&Nat.beq l k&&r9 bytes (l+xs.length)) then none else
    match vh.get i with
    | some (.arr ag sz cs) => bif Nat.beq cs.length (l * n) then
      match gE vh n (.own i off l k) with
      |some es=>some (.grow vh.next (l+xs.length) false,(vh.drop i).alloc (.grow n (es++xs)))
      |none=>none
     else bif Nat.beq xs.length 0 then some (.own i off l k,vh) else
      match gE vh n (.own i off l k) with
      |some es=>some (.grow vh.next (l+xs.length) false,vh.alloc (.grow n (es++xs)))
      |none=>none
    |_=>none
   |.grow i l nl=>
    match vh.get i with
    |some (.grow sz es)=>bif Nat.beq sz n&&Nat.beq es.length l&&r9 bytes (l+xs.length) then some (.grow vh.next (l+xs.length) nl,(vh.drop i).alloc (.grow n (es++xs))) else none
    |_=>bif Nat.beq l 0&&r9 bytes xs.length then some (.grow vh.next xs.length nl,(vh.drop i).alloc (.grow n xs)) else none
   |_=>none
  |_,_,_=>none
 |_,_=>none
theorem zyz (s:VS lo g σ vh h){sT xT:TypeId}{a x v:PV}{a' x':Value}{aq:af}(ha:VR g σ vh.next a a')(hx:VR g σ vh.next x x')(hv:kO P vh sT xT a x=some (v,aq)) :
  ∃v' h',sM P lo h sT xT a' x'=some (v',h')∧lP lo g σ vh h v aq v' h':=by
 unfold kO at hv
 split at hv
 ·rename_i e n ex w8 Aq
  split at hv
  ·rename_i z bytes xs hz rI oP
   obtain⟨z',h1,h2⟩:=AP (g:=g) hz
   cases hb:(Nat.beq z.length n&&Nat.blt 0 n&&Nat.ble bytes 4096&&nV xs) with
   |false=>rw[hb] at hv;cases hv
   |true=>
   rw[hb] at hv
   simp only[Bool.not_true,bx] at hv
   simp only[bW,Nat.blt_eq,Nat.ble_eq] at hb
   obtain⟨⟨⟨eM,cr⟩,nq⟩,wD⟩:=hb
   obtain⟨ep,fx,uD⟩:=Hp s cr hx oP
   obtain⟨bu,gC,zX⟩:=uD xs.length (Nat.le_refl _)
   rw[List.take_length] at zX
   have dM:(Nat.beq z'.length n&&Nat.blt 0 n&&bu.all (·.oneCell'))=true:=by
    simp only[bW,Nat.blt_eq]
    exact⟨⟨by rw[← h2.1];exact eM,cr⟩,(zX.vr (σ:=σ) (n:=0)).yR (znl wD)⟩
   have o7:∀m,r9 bytes m=true→(Nat.ble m 17592186044416&&Nat.ble ((2*m+192)*bytes) 281474976710656)=true:=fun m hm=>xb7 hm nq
   have dC:(17592186044416:Nat)<aC:=by decide
   have hiu:Nat.blt aC eU=true:=by decide
   have XS:Nat.blt aC aC=false:=by decide
   have zero:∀ {a':Value} (nl:Bool) {cI:af} {v0:PV},VS lo g σ cI h→VF σ vh h σ cI h→cI.next=vh.next→(a'=.slice none 0 0∨nl=false∧∃o off,a'=.slice (some ⟨o,off,none⟩) 0 0)→r9 bytes xs.length=true→
     ∃v' h',sM P lo h sT xT a' x'=some (v',h')∧lP lo g σ vh h (.grow vh.next xs.length nl) (cI.alloc (.grow n xs)) v' h':=fun {a'} nl {cI v0} s1 f1 iA h0 hle=>by
    have hk:=zsq s1 cr nl fx zX (by have:=Oi hle;omega) h0
    rw[← iA]
    by_cases mW:xs.length=0
    ·rw[if_pos mW] at hk
     refine⟨a',h,?_,.after f1 iA hk⟩
     have nR:Nat.beq xs.length 0=true:=by rw[mW];rfl
     rcases h0 with rfl|⟨_,o,off,rfl⟩
     ·simp only[sM,w8,Aq,ep,h1,rI,gC,dM,Bool.not_true,bx,nR,aQ]
     simp only[sM,w8,Aq,ep,h1,rI,gC,dM,Bool.not_true,bx,nR,aQ]
    rw[if_neg mW] at hk
    refine⟨_,_,?_,.after f1 iA hk⟩
    have nR:Nat.beq xs.length 0=false:=by rw[beq_eq];simpa using mW
    rcases h0 with rfl|⟨_,o,off,rfl⟩
    ·simp only[sM,w8,Aq,ep,h1,rI,gC,dM,Bool.not_true,bx,nR,o7 _ hle,aQ]
    have e1:Nat.blt 0 aC=true:=by decide
    have e2:Nat.ble xs.length 0=false:=by rw[← Bool.not_eq_true,Nat.ble_eq];omega
    have e3:sd h n (.slice (some ⟨o,off,none⟩) 0 0) 0=some []:=by simp[sd]
    simp only[sM,w8,Aq,ep,h1,rI,gC,dM,Bool.not_true,bx,nR,e1,e2,e3,o7 _ hle,aQ,List.nil_append,Nat.zero_add]
   split at hv
   · -- nil
    cases hc:r9 bytes xs.length with
    |false=>rw[hc] at hv;cases hv
    |true=>
     rw[hc] at hv;simp only[aQ,aB,bO] at hv
     obtain⟨rfl,rfl⟩:=hv
     have:=ha.aD rfl;cases this
     exact zero true (v0:=.aJ) s (VF.refl _ _ _) rfl (.inl rfl) (by simpa using hc)
   ·cases hc:r9 bytes xs.length with
    |false=>rw[hc] at hv;cases hv
    |true=>
     rw[hc] at hv;simp only[aQ,aB,bO] at hv
     obtain⟨rfl,rfl⟩:=hv
     have:=ha.aD rfl
     cases this with
     |xI=>exact zero false (v0:=.aJ) s (VF.refl _ _ _) rfl (.inl rfl) (by simpa using hc)
     |e0 o off=>exact zero false (v0:=.aJ) s (VF.refl _ _ _) rfl (.inr ⟨rfl,o,off,rfl⟩) (by simpa using hc)
   ·rename_i i off l k
    cases wm:Nat.beq k 0 with
    |true=>
     rw[wm] at hv;simp only[aQ] at hv
     have wm:k=0:=by simpa using wm
     subst wm
     cases hc:r9 bytes xs.length with
     |false=>rw[hc] at hv;cases hv
     |true=>
      rw[hc] at hv;simp only[aQ,aB,bO] at hv
      obtain⟨rfl,rfl⟩:=hv
      cases ha with
      |fr _ _ h=>cases h
      |own _ _ _ _ o a kk hi hs hl hk=>
       have:l=0:=by omega
       subst this
       exact zero false (v0:=.aJ) s (VF.refl _ _ _) rfl (.inr ⟨rfl,_,_,rfl⟩) (by simpa using hc)
    |false=>
     rw[wm] at hv;simp only[bx] at hv
     cases hc:(Nat.beq off 0&&Nat.beq l k&&r9 bytes (l+xs.length)) with
     |false=>rw[hc] at hv;cases hv
     |true=>
      rw[hc] at hv;simp only[Bool.not_true,bx] at hv
      simp only[bW,Nat.ble_eq,beq_eq,decide_eq_true_eq] at hc
      obtain⟨⟨jI,jk⟩,lh⟩:=hc
      subst jI;subst jk
      have wm:0<l:=by rw[beq_eq] at wm;simp at wm;omega
      split at hv
      ·rename_i ag sz cs xK
       cases GF:Nat.beq cs.length (l*n) with
       |false=>
        rw[GF] at hv;simp only[bx] at hv
        cases mW:Nat.beq xs.length 0 with
        |true=>
         rw[mW] at hv;simp only[aQ,aB,bO] at hv
         obtain⟨rfl,rfl⟩:=hv
         have hav:=ha
         cases ha with
         |fr _ _ h=>cases h
         |own _ _ _ _ o a kk hi hs hl hk=>
          exact⟨_,h,by simp only[sM,w8,Aq,ep,h1,rI,gC,dM,Bool.not_true,bx,mW,aQ],_,hav,s,VF.refl _ _ _,Nat.le_refl _,fun _ _=>rfl⟩
        |false=>
         rw[mW] at hv;simp only[bx] at hv
         split at hv
         ·rename_i es s8
          simp only[aB,bO] at hv
          obtain⟨rfl,rfl⟩:=hv
          obtain⟨lI,xr,GG⟩:=Hp s cr ha s8
          obtain⟨j3,g1,g2⟩:=GG es.length (Nat.le_refl _)
          rw[List.take_length] at g2
          cases ha with
          |fr _ _ h=>cases h
          |own _ _ _ _ o a kk hi hs hl hk=>
           simp only[mO,aB] at lI
           rw[← lI] at g1
           have En:0<xs.length:=by rw[beq_eq] at mW;simp at mW;exact List.length_pos_iff.2 mW
           have e1:Nat.blt l aC=true:=by rw[Nat.blt_eq];omega
           have e2:Nat.ble (l+xs.length) l=false:=by rw[← Bool.not_eq_true,Nat.ble_eq];omega
           have da:(es++xs).length=l+xs.length:=by rw[List.length_append,lI]
           have p8:=zsq s cr (xs:=es++xs) (bu:=j3++bu) false (fun e he=>by
            rcases List.mem_append.1 he with h|h
            ·exact xr e h
            exact fx e h) (by rw[List.flatMap_append];exact g2.append zX) (by rw[da];have:=Oi lh;omega) (.inl rfl)
           rw[if_neg (by rw[da];omega),da] at p8
           exact⟨_,_,by simp only[sM,w8,Aq,ep,h1,rI,gC,dM,Bool.not_true,bx,mW,e1,e2,g1,o7 _ lh,aQ],p8⟩
         cases hv
       |true=>
        rw[GF] at hv;simp only[aQ] at hv
        split at hv
        ·rename_i es s8
         simp only[aB,bO] at hv
         obtain⟨rfl,rfl⟩:=hv
         obtain⟨lI,xr,GG⟩:=Hp s cr ha s8
         obtain⟨h0,s0,au,k1,k2,k3⟩:=(s.obj i _ xK).2
         cases ha with
         |fr _ _ h=>cases h
         |own _ _ _ _ o a kk hi hs hl hk=>
          rw[hs] at k1 k2;simp only at k1 k2;subst k2
          simp only[mO,aB] at lI
          obtain⟨j3,g1,g2⟩:=GG es.length (Nat.le_refl _)
          rw[List.take_length] at g2
          have nR:Nat.beq es.length 0=false:=by rw[← lI,beq_eq];simp;omega
          have LC:au.length=l*n:=by rw[← k3.1];simpa using GF
          have holds:j3=au:=by
           have GH:Nat.ble (0+0+es.length*n) au.length=true:=by rw[Nat.ble_eq,LC,lI];omega
           simp only[sd,nR,bx,k1,GH,aQ,aB] at g1
           rw[← g1,← lI,← LC];simp
          subst holds
          have p8:=zsk s cr (σ:=σ) false xK rfl hi (.inr (by rw[hs])) xr fx k1 g2 zX lI.symm wm (Oi lh) (.inr rfl)
          by_cases mW:xs.length=0
          ·have b7:Nat.beq xs.length 0=true:=by rw[mW];rfl
           exact⟨.slice (some ⟨o,0,none⟩) l l,h,by simp only[sM,w8,Aq,ep,h1,rI,gC,dM,Bool.not_true,bx,b7,aQ,Nat.zero_add],p8.1 mW⟩
          have b7:Nat.beq xs.length 0=false:=by rw[beq_eq];simpa using mW
          have e1:Nat.blt l aC=true:=by rw[Nat.blt_eq];omega
          have e2:Nat.ble (l+xs.length) l=false:=by rw[← Bool.not_eq_true,Nat.ble_eq];omega
          rw[← lI] at g1
          exact⟨_,_,by simp only[sM,w8,Aq,ep,h1,rI,gC,dM,Bool.not_true,bx,b7,e1,e2,g1,o7 _ lh,aQ],p8.2.1 (by omega)⟩
        cases hv
      cases hv
   ·rename_i i l nl
    have Es:l=0→r9 bytes xs.length=true→∃v' h',sM P lo h sT xT a' x'=some (v',h')∧lP lo g σ vh h (.grow vh.next xs.length nl) ((vh.drop i).alloc (.grow n xs)) v' h':=fun nf hle=>by
     subst nf
     obtain⟨s1,f1⟩:=s.sub (aZ:=vh.drop i) rfl fun j y hy=>(nr hy).2
     cases ha with
     |fr _ _ h=>cases h
     |cB=>exact zero nl (v0:=.aJ) s1 f1 rfl (.inl rfl) hle
     |cC _ o off=>exact zero false (v0:=.aJ) s1 f1 rfl (.inr ⟨rfl,o,off,rfl⟩) hle
     |grow _ _ _ _ _ _ _ _ hn=>omega
    split at hv
    ·rename_i sz es xK
     cases hc:(Nat.beq sz n&&Nat.beq es.length l&&r9 bytes (l+xs.length)) with
     |false=>rw[hc] at hv;cases hv
     |true=>
      rw[hc] at hv;simp only[aQ,aB,bO] at hv
      obtain⟨rfl,rfl⟩:=hv
      simp only[bW,Nat.ble_eq,beq_eq,decide_eq_true_eq] at hc
      obtain⟨⟨jI,jk⟩,lh⟩:=hc
      subst jI
      by_cases nf:l=0
      ·have s8:=List.eq_nil_of_length_eq_zero (jk.trans nf)
       subst s8
       have:=Es nf (by rw[nf,Nat.zero_add] at lh;exact lh)
       subst nf
       simpa using this
      have nf:0<l:=by omega
      obtain⟨h0,xr,PL,oy⟩:=(s.obj i _ xK).2
      rcases oy with rfl|⟨s0,au,k1,k2,k3,k4⟩
      ·simp at jk;omega
      have ir:(aO.grow sz es).live=true:=by
       cases es with
       |nil=>simp at jk;omega
       |cons=>rfl
      cases ha with
      |fr _ _ h=>cases h
      |cB=>omega
      |cC=>omega
      |grow _ _ o a k _ hi hs hm=>
       have bS:=s.low i _ xK ir
       rw[hs] at k1 k2 k4 bS;simp only at k1 k2 k4 bS;subst k2
       have MT:k=aC∧s0=sz∨k=l:=by rcases k4 with h|h;exact .inl h;exact .inr (h.trans jk)
       have p8:=zsk s cr (σ:=σ) nl xK ir hi (.inr (by rw[hs])) xr fx k1 k3 zX jk nf (Oi lh) MT
       have sJ:au.length=l*sz:=by rw[← k3.1,DI xr,jk]
       by_cases mW:xs.length=0
       ·have b7:Nat.beq xs.length 0=true:=by rw[mW];rfl
        exact⟨_,_,by simp only[sM,w8,Aq,ep,h1,rI,gC,dM,Bool.not_true,bx,b7,aQ],p8.1 mW⟩
       have b7:Nat.beq xs.length 0=false:=by rw[beq_eq];simpa using mW
       rcases MT with⟨rfl,rfl⟩|rfl
       ·have hmul:l*s0<(l+xs.length)*s0:=Nat.mul_lt_mul_of_pos_right (by omega) cr
        have e1:(Nat.ble lo o&&Nat.beq 0 ((aC - aC)*s0)&&Nat.beq s0 s0&&Nat.ble (l+xs.length) 17592186044416&&Nat.ble ((2*(l+xs.length)+192)*bytes) 281474976710656)=true:=by
         have:=o7 _ lh
         simp only[bW] at this ⊢
         refine⟨⟨⟨⟨by simpa using bS,?_⟩,Nat.beq_refl _⟩,this.1⟩,this.2⟩
         rw[Nat.sub_self,Nat.zero_mul];rfl
        have e2:Nat.ble (0+(l+xs.length)*s0) au.length=false:=by rw[← Bool.not_eq_true,Nat.ble_eq];omega
        have e3:Nat.ble (0+l*s0) au.length=true:=by rw[Nat.ble_eq];omega
        have e4:(au.drop 0).take (l*s0)=au:=by rw[List.drop_zero,← sJ,List.take_length]
        exact⟨_,_,by simp only[sM,w8,Aq,ep,h1,rI,gC,dM,Bool.not_true,bx,b7,XS,hiu,k1,e1,e2,e3,e4,aQ],p8.2.2 (by omega)⟩
       have e1:Nat.blt k aC=true:=by rw[Nat.blt_eq];omega
       have e2:Nat.ble (k+xs.length) k=false:=by rw[← Bool.not_eq_true,Nat.ble_eq];omega
       have gW:Nat.beq k 0=false:=by rw[beq_eq];simp;omega
       have GH:Nat.ble (0+k*sz) au.length=true:=by rw[Nat.ble_eq];omega
       have e3:sd h sz (.slice (some ⟨o,0,none⟩) k k) k=some au:=by
        simp only[sd,gW,bx,k1,GH,aQ]
        rw[List.drop_zero,← sJ,List.take_length]
       exact⟨_,_,by simp only[sM,w8,Aq,ep,h1,rI,gC,dM,Bool.not_true,bx,b7,e1,e2,e3,o7 _ lh,aQ],p8.2.1 (by omega)⟩
    cases cr:(Nat.beq l 0&&r9 bytes xs.length) with
    |false=>rw[cr] at hv;cases hv
    |true=>
     rw[cr] at hv;simp only[aQ,aB,bO] at hv
     obtain⟨rfl,rfl⟩:=hv
     simp only[bW,Nat.ble_eq,beq_eq,decide_eq_true_eq] at cr
     exact Es cr.1 cr.2
   cases hv
  cases hv
 cases hv
end
attribute [simp] Tw
section
variable {P:Program} {lo:Nat} {g:Fz} {σ:Sg} {vh:af} {h:ai}
theorem VS.cX (s:VS lo g σ vh h){i:Nat}{x:aO}(hx:vh.get i=some x):VS lo g σ (vh.put i x) h∧VF σ vh h σ (vh.put i x) h:=
 s.sub rfl fun j y hy=>by
  rcases Fo hx hy with⟨rfl,rfl⟩|⟨_,hy⟩
  ·exact hx
  exact hy
def cJ (P:Program)(vh:af)(dT:TypeId)(d x:PV):Option (PV×af):=
 match jh P dT,d with
 |some (_,n),.own i off len _=>
  match gE vh n x,vh.get i with
  |some xs,some (.arr ag sz cs)=>
   bif Nat.blt 0 n&&Nat.ble (off+(xs.take len).length*n) cs.length&&nV xs then
    some (.int .i64 (Nat.min xs.length len),vh.put i (.arr ag sz (gR cs off ((xs.take len).flatMap PV.cells))))
   else none
  |_,_=>none
 |_,_=>none
theorem zuo {es:List PV}(h:nV es=true)(n:Nat):nV (es.take n)=true:=by
 unfold nV at h ⊢
 rw[List.all_eq_true] at h ⊢
 exact fun e he=>h e (List.mem_of_mem_take he)
theorem z5x (s:VS lo g σ vh h){dT:TypeId}{d x v:PV}{d' x':Value}{aq:af}(hd:VR g σ vh.next d d')(hx:VR g σ vh.next x x')(hv:cJ P vh dT d x=some (v,aq)) :
  ∃v' h',Hc P lo h dT d' x'=some (v',h')∧lP lo g σ vh h v aq v' h':=by
 unfold cJ at hv
 split at hv
 ·rename_i e n i off len k ht
  split at hv
  ·rename_i xs ag sz cs oP hg
   cases hb:(Nat.blt 0 n&&Nat.ble (off+(xs.take len).length*n) cs.length&&nV xs) with
   |false=>rw[hb] at hv;cases hv
   |true=>
    rw[hb] at hv;simp only[aQ,aB,bO] at hv
    obtain⟨rfl,rfl⟩:=hv
    simp only[bW,Nat.blt_eq,Nat.ble_eq] at hb
    obtain⟨⟨eM,cr⟩,nq⟩:=hb
    obtain⟨ep,fx,An⟩:=Hp s eM hx oP
    obtain⟨bu,g1,g2⟩:=An (Nat.min xs.length len) (Nat.min_le_left _ _)
    have A6:xs.take (Nat.min xs.length len)=xs.take len:=by
     rcases Nat.le_total xs.length len with hle|hle
     ·rw[show Nat.min xs.length len=xs.length from Nat.min_eq_left hle,List.take_length,List.take_of_length_le hle]
     rw[show Nat.min xs.length len=len from Nat.min_eq_right hle]
    rw[A6] at g2
    obtain⟨h0,s0,au,k1,k2,k3⟩:=(s.obj i _ hg).2
    cases hd with
    |fr _ _ h=>cases h
    |own _ _ _ _ o a kk hi hs hl hk=>
     have bS:=s.low i _ hg rfl
     rw[hs] at k1 k2 bS;simp only at k1 k2 bS;subst k2
     rw[Nat.zero_add]
     have Di:mO (.slice (some ⟨o,off,none⟩) len k)=some len:=rfl
     rcases ng (Nat.min xs.length len) 0 with⟨hq,cG⟩|⟨hq,cG⟩
     ·have wV:xs.take len=[]:=by
       rw[← A6,cG];rfl
      have h1:gR cs off ((xs.take len).flatMap PV.cells)=cs:=by rw[wV];simp[gR]
      rw[h1]
      obtain⟨s1,f1⟩:=s.cX hg
      refine⟨oR 0,h,by simp only[Hc,ht,Di,ep,g1,hq,aQ],σ,?_,s1,f1,Nat.le_refl _,fun _ _=>rfl⟩
      rw[cG];exact .fr _ _ (.int _ _)
     have h4:=s.write hg rfl (x':=.arr ag sz (gR cs off ((xs.take len).flatMap PV.cells))) (.cells s0 (ia au off bu)) ⟨h0,s0,_,by rw[ai.eT _ _ _ _ (by rw[hs];exact ai.iE k1),if_pos rfl],by rw[hs],k3.ia off g2⟩
     rw[hs] at h4;simp only at h4
     have yq:bu.length=(xs.take len).length*n:=by rw[← g2.1,DI fun e he=>fx e (List.mem_of_mem_take he)]
     have dM:(Nat.ble lo o&&Nat.ble (off+bu.length) au.length&&bu.all (·.oneCell'))=true:=by
      simp only[bW,Nat.ble_eq]
      exact⟨⟨bS,by rw[yq,← k3.1];omega⟩,(g2.vr (σ:=σ) (n:=0)).yR (znl (zuo nq len))⟩
     exact⟨oR (Nat.min xs.length len),_,by simp only[Hc,ht,Di,ep,g1,hq,bx,k1,dM,aQ],σ,.fr _ _ (.int _ _),h4.1,h4.2,Nat.le_refl _,fun _ _=>rfl⟩
  cases hv
 cases hv
def Bp (kd:IntKind)(n:Int):List (PV×PV)→Option (Option PV)
 |[]=>some none
 |(.int k a,v)::r=>
  bif decide (k=kd) then
   match Bp kd n r with
   |none=>none
   |some q=>some (bif decide (a=n) then some v else q)
  else none
 |_=>none
def C3 (R:PV→Value→Prop):Option PV→Option Value→Prop
 |none,none=>True
 |some v,some v'=>R v v'
 |_,_=>False
theorem Ii {kd:IntKind}{n:Int}:∀ {es:List (PV×PV)} {bs:List (Value×Value)} {r:Option PV},bp (FR g) (es.map (·.1)) (bs.map (·.1))→bp (FR g) (es.map (·.2)) (bs.map (·.2))→Bp kd n es=some r→
  ∃r',yv kd n bs=some r'∧C3 (FR g) r r'
 |[],bs,r,hk,hv,hr=>by
  simp only[Bp,aB] at hr;subst hr
  cases bs with
  |nil=>exact⟨none,rfl,trivial⟩
  |cons=>have:=hk.1;simp at this
 |(k,v)::es,bs,r,hk,hv,hr=>by
  cases bs with
  |nil=>have:=hk.1;simp at this
  |cons q bs=>
   obtain⟨k',v'⟩:=q
   obtain⟨k1,l1,e1,mU,im⟩:=hk.eJ
   simp only[List.map_cons,List.cons.injEq] at e1;obtain⟨rfl,rfl⟩:=e1
   obtain⟨k1,l1,e1,iF,eZ⟩:=hv.eJ
   simp only[List.map_cons,List.cons.injEq] at e1;obtain⟨rfl,rfl⟩:=e1
   cases k with
   |int kk a=>
    cases mU
    simp only[Bp] at hr
    simp only[yv]
    cases p8:decide (kk=kd) with
    |false=>rw[p8] at hr;cases hr
    |true=>
     rw[p8] at hr;simp only[aQ] at hr ⊢
     split at hr
     ·cases hr
     rename_i q hq
     injection hr with hr;subst hr
     obtain⟨r',g1,g2⟩:=Ii im eZ hq
     refine⟨_,by rw[g1],?_⟩
     cases decide (a=n) with
     |true=>exact iF
     |false=>exact g2
   |_=>simp[Bp] at hr
def jS (vh:af)(kd:IntKind)(n:Int)(m:PV):Option (Option PV):=
 match m with
 |.eE=>some none
 |.aG es=>Bp kd n es
 |.a6 i=>match vh.get i with
  |some (.map es)=>Bp kd n es
  |_=>none
 |_=>none
theorem zwd {g:Fz}{es:List (PV×PV)}{bs:List (Value×Value)}(hlen:es.length=bs.length)(rk:∀(j:Nat) p p',es[j]?=some p→bs[j]?=some p'→FR g p.1 p'.1)(rv:∀(j:Nat) p p',es[j]?=some p→bs[j]?=some p'→FR g p.2 p'.2) :
  bp (FR g) (es.map (·.1)) (bs.map (·.1))∧bp (FR g) (es.map (·.2)) (bs.map (·.2)):=by
 constructor
 ·refine⟨by simp[hlen],fun i v v' hv bg=>?_⟩
  rw[List.getElem?_map] at hv bg
  obtain⟨p,h1,rfl⟩:=er hv
  obtain⟨p',h2,rfl⟩:=er bg
  exact rk i p p' h1 h2
 refine⟨by simp[hlen],fun i v v' hv bg=>?_⟩
 rw[List.getElem?_map] at hv bg
 obtain⟨p,h1,rfl⟩:=er hv
 obtain⟨p',h2,rfl⟩:=er bg
 exact rv i p p' h1 h2
theorem z5j {g:Fz}{es:List (PV×PV)}{bs:List (Value×Value)}(h1:bp (FR g) (es.map (·.1)) (bs.map (·.1)))(h2:bp (FR g) (es.map (·.2)) (bs.map (·.2))){o:Nat}(hg:g o=some (.map bs)):FR g (.aG es) (.map (some o)):=
 .aG es o bs hg (by have:=h1.1;simpa using this) (fun j p p' hp vz=>h1.2 j p.1 p'.1 (by simp[hp]) (by simp[vz])) (fun j p p' hp vz=>h2.2 j p.2 p'.2 (by simp[hp]) (by simp[vz]))
def zw8 (P:Program)(vh:af)(t:TypeId)(m k:PV)(ok:Bool):Option PV:=
 match o8 P t,k with
 |some (_,e),.int kd n=>
  match (fH P e).bind a7 with
  |some z=>
   match jS vh kd n m with
   |some (some v)=>some (bif ok then .bz [v,.bool true] else v)
   |some none=>some (bif ok then .bz [z,.bool false] else z)
   |none=>none
  |none=>none
 |_,_=>none
theorem Oj {v:PV}{v':Value}{b:Bool}(hv:FR g v v'):FR g (.bz [v,.bool b]) (.tuple #[v',.bool b]):=
 .bz _ _ rfl fun i u u' hu uI=>by
  match i with
  |0=>simp at hu uI;subst hu;subst uI;exact hv
  |1=>simp at hu uI;subst hu;subst uI;exact .bool b
  |i+2=>simp at hu
theorem zu5 (s:VS lo g σ vh h){t:TypeId}{m k v:PV}{m' k':Value}{ok:Bool}(hm:VR g σ vh.next m m')(hk:VR g σ vh.next k k')(hv:zw8 P vh t m k ok=some v):∃v',xC P h t m' k' ok=some v'∧FR g v v':=by
 unfold zw8 at hv
 split at hv
 ·rename_i kt e kd n ht
  have:=hk.aD rfl;cases this
  split at hv
  ·rename_i z hz
   cases nk:fH P e with
   |none=>rw[nk] at hz;cases hz
   |some z'=>
    rw[nk] at hz
    have LD:=(BX (g:=g) hz).1
    have fin:∀ {q:Option PV} {q':Option Value},jS vh kd n m=some q→C3 (FR g) q q'→∃v',(match some q' with
      |some (some v)=>some (bif ok then .tuple #[v,.bool true] else v)
      |some none=>some (bif ok then .tuple #[z',.bool false] else z')
      |none=>none:Option Value)=some v'∧FR g v v':=fun {q q'} hq hr=>by
     rw[hq] at hv
     cases q with
     |none=>
      cases q' with
      |some=>exact hr.elim
      |none=>
       simp only[aB] at hv;subst hv
       refine⟨_,rfl,?_⟩
       cases ok with
       |true=>exact Oj LD
       |false=>exact LD
     |some u=>
      cases q' with
      |none=>exact hr.elim
      |some u'=>
       simp only[aB] at hv;subst hv
       refine⟨_,rfl,?_⟩
       cases ok with
       |true=>exact Oj hr
       |false=>exact hr
    cases hq:jS vh kd n m with
    |none=>rw[hq] at hv;cases hv
    |some q=>
     have GI:=hq
     unfold jS at hq
     split at hq
     ·injection hq with hq;subst hq
      have:=hm.aD rfl;cases this
      obtain⟨v',g1,g2⟩:=fin (q':=none) GI trivial
      exact⟨v',by simp only[xC,ht,nk];exact g1,g2⟩
     ·have:=hm.aD rfl
      cases this with
      |aG _ o bs hg hlen rk rv=>
       obtain⟨h3,h4⟩:=zwd hlen rk rv
       obtain⟨r',g1,g2⟩:=Ii h3 h4 hq
       obtain⟨v',g3,g4⟩:=fin GI g2
       exact⟨v',by simp only[xC,ht,nk,s.fz _ _ hg,g1];exact g3,g4⟩
     ·rename_i i
      split at hq
      ·rename_i es hg
       cases hm with
       |fr _ _ h=>cases h
       |a6 _ o a k hi hs=>
        obtain⟨bs,h1,h2,h3,h4⟩:=(s.obj i _ hg).2
        rw[hs] at h1;simp only at h1
        obtain⟨r',g1,g2⟩:=Ii h3 h4 hq
        obtain⟨v',g3,g4⟩:=fin GI g2
        exact⟨v',by simp only[xC,ht,nk,h1,g1];exact g3,g4⟩
      cases hq
     cases hq
  cases hv
 cases hv
def Au (n:Int)(v:PV)(p:PV×PV):PV×PV:=
 match p with
 |(.int k a,u)=>bif decide (a=n) then (.int k a,v) else (.int k a,u)
 |p=>p
def GJ (n:Int)(p:PV×PV):Bool:=
 match p.1 with
 |.int _ a=>!decide (a=n)
 |_=>true
def Ol (kd:IntKind)(n:Int)(v:PV)(es:List (PV×PV)):Option (List (PV×PV)):=
 match Bp kd n es with
 |some (some _)=>some (es.map (Au n v))
 |some none=>some (es++[(.int kd n,v)])
 |none=>none
def zog (P:Program)(vh:af)(t:TypeId)(m k v:PV):Option af:=
 match o8 P t,m,k with
 |some _,.a6 i,.int kd n=>
  match vh.get i with
  |some (.map es)=>bif v.aD then (Ol kd n v es).map fun es=>vh.put i (.map es) else none
  |_=>none
 |_,_,_=>none
def zxy (P:Program)(vh:af)(t:TypeId)(m k:PV):Option af:=
 match o8 P t,m,k with
 |some _,.a6 i,.int kd n=>
  match vh.get i with
  |some (.map es)=>match Bp kd n es with
   |some _=>some (vh.put i (.map (es.filter (GJ n))))
   |none=>none
  |_=>none
 |_,_,_=>none
theorem zw2 {n:Int}{v:PV}{v':Value}(hv:FR g v v'):∀ {es:List (PV×PV)} {bs:List (Value×Value)},bp (FR g) (es.map (·.1)) (bs.map (·.1))→bp (FR g) (es.map (·.2)) (bs.map (·.2))→
  bp (FR g) ((es.map (Au n v)).map (·.1)) ((bs.map (l4 n v')).map (·.1))∧bp (FR g) ((es.map (Au n v)).map (·.2)) ((bs.map (l4 n v')).map (·.2))
 |[],bs,hk,hv=>by
  cases bs with
  |nil=>exact⟨.nil,.nil⟩
  |cons=>have:=hk.1;simp at this
 |(k,u)::es,bs,hk,tW=>by
  cases bs with
  |nil=>have:=hk.1;simp at this
  |cons q bs=>
   obtain⟨k',u'⟩:=q
   obtain⟨k1,l1,e1,mU,im⟩:=hk.eJ
   simp only[List.map_cons,List.cons.injEq] at e1;obtain⟨rfl,rfl⟩:=e1
   obtain⟨k1,l1,e1,iF,eZ⟩:=tW.eJ
   simp only[List.map_cons,List.cons.injEq] at e1;obtain⟨rfl,rfl⟩:=e1
   have ih:=zw2 (n:=n) hv im eZ
   have Tx:=mU
   cases mU with
   |int kk a=>
    simp only[List.map_cons,Au,l4]
    cases hd:decide (a=n) with
    |true=>exact⟨.cons (.int _ _) ih.1,.cons hv ih.2⟩
    |false=>exact⟨.cons (.int _ _) ih.1,.cons iF ih.2⟩
   |_=>
    simp only[List.map_cons,Au,l4]
    exact⟨.cons Tx ih.1,.cons iF ih.2⟩
theorem zth {n:Int}:∀ {es:List (PV×PV)} {bs:List (Value×Value)},bp (FR g) (es.map (·.1)) (bs.map (·.1))→bp (FR g) (es.map (·.2)) (bs.map (·.2))→
  bp (FR g) ((es.filter (GJ n)).map (·.1)) ((bs.filter (sR n)).map (·.1))∧bp (FR g) ((es.filter (GJ n)).map (·.2)) ((bs.filter (sR n)).map (·.2))
 |[],bs,hk,hv=>by
  cases bs with
  |nil=>exact⟨.nil,.nil⟩
  |cons=>have:=hk.1;simp at this
 |(k,u)::es,bs,hk,tW=>by
  cases bs with
  |nil=>have:=hk.1;simp at this
  |cons q bs=>
   obtain⟨k',u'⟩:=q
   obtain⟨k1,l1,e1,mU,im⟩:=hk.eJ
   simp only[List.map_cons,List.cons.injEq] at e1;obtain⟨rfl,rfl⟩:=e1
   obtain⟨k1,l1,e1,iF,eZ⟩:=tW.eJ
   simp only[List.map_cons,List.cons.injEq] at e1;obtain⟨rfl,rfl⟩:=e1
   have ih:=zth (n:=n) im eZ
   have same:GJ n (k,u)=sR n (k',u'):=by cases mU<;>rfl
   simp only[List.filter_cons]
   rw[← same]
   cases GJ n (k,u) with
   |false=>exact ih
   |true=>exact⟨.cons mU ih.1,.cons iF ih.2⟩
theorem z3z {kd:IntKind}{n:Int}{v:PV}{v':Value}{es out:List (PV×PV)}{bs:List (Value×Value)}(hv:FR g v v')(h3:bp (FR g) (es.map (·.1)) (bs.map (·.1)))(h4:bp (FR g) (es.map (·.2)) (bs.map (·.2)))(ho:Ol kd n v es=some out) :
  ∃gM,(match yv kd n bs with
   |some (some _)=>some (bs.map (l4 n v'))
   |some none=>some (bs++[(.int kd n,v')])
   |none=>none)=some gM∧bp (FR g) (out.map (·.1)) (gM.map (·.1))∧bp (FR g) (out.map (·.2)) (gM.map (·.2)):=by
 unfold Ol at ho
 split at ho
 ·rename_i u hq
  injection ho with ho;subst ho
  obtain⟨q',h1,h2⟩:=Ii h3 h4 hq
  cases q' with
  |none=>exact h2.elim
  |some u'=>exact⟨_,by rw[h1],zw2 hv h3 h4⟩
 ·rename_i hq
  injection ho with ho;subst ho
  obtain⟨q',h1,h2⟩:=Ii h3 h4 hq
  cases q' with
  |some=>exact h2.elim
  |none=>
   refine⟨_,by rw[h1],?_,?_⟩
   ·simp only[List.map_append,List.map_cons,List.map_nil];exact h3.append (.cons (.int _ _) .nil)
   simp only[List.map_append,List.map_cons,List.map_nil];exact h4.append (.cons hv .nil)
 cases ho
theorem vX:FR g (.bz []) Go.undef:=.bz [] #[] rfl (fun i v v' h=>by simp at h)
theorem zou (s:VS lo g σ vh h){t:TypeId}{m k v:PV}{m' k' v':Value}{aq:af}(hm:VR g σ vh.next m m')(hk:VR g σ vh.next k k')(tW:VR g σ vh.next v v')(hv:zog P vh t m k v=some aq) :
  ∃h',EU P lo h t m' k' v'=some h'∧lP lo g σ vh h (.bz []) aq Go.undef h':=by
 unfold zog at hv
 split at hv
 ·rename_i ek i kd n ht
  have:=hk.aD rfl;cases this
  split at hv
  ·rename_i es hg
   cases hf:v.aD with
   |false=>rw[hf] at hv;cases hv
   |true=>
    rw[hf] at hv;simp only[aQ] at hv
    obtain⟨out,ho,rfl⟩:=er hv
    cases hm with
    |fr _ _ h=>cases h
    |a6 _ o a k hi hs=>
     obtain⟨bs,h1,h2,h3,h4⟩:=(s.obj i _ hg).2
     have bS:=s.low i _ hg rfl
     obtain⟨gM,g1,g2,g3⟩:=z3z (tW.aD hf) h3 h4 ho
     have h5:=s.write hg rfl (x':=.map out) (.map gM) ⟨gM,by rw[ai.eT _ _ _ _ (ai.iE h1),if_pos rfl],h2,g2,g3⟩
     rw[hs] at h1 bS h5;simp only at h1 bS h5
     have pZ:Nat.ble lo o=true:=by rw[Nat.ble_eq];exact bS
     refine⟨h.put o (some (.map gM)),?_,σ,.fr _ _ vX,h5.1,h5.2,Nat.le_refl _,fun _ _=>rfl⟩
     simp only[EU,ht,h1,pZ,aQ]
     split at g1
     ·rename_i hq;simp only[hq];injection g1 with g1;rw[g1]
     ·rename_i hq;simp only[hq];injection g1 with g1;rw[g1]
     cases g1
  cases hv
 cases hv
theorem zu4 (s:VS lo g σ vh h){t:TypeId}{m k:PV}{m' k':Value}{aq:af}(hm:VR g σ vh.next m m')(hk:VR g σ vh.next k k')(hv:zxy P vh t m k=some aq) :
  ∃h',EX P lo h t m' k'=some h'∧lP lo g σ vh h (.bz []) aq Go.undef h':=by
 unfold zxy at hv
 split at hv
 ·rename_i ek i kd n ht
  have:=hk.aD rfl;cases this
  split at hv
  ·rename_i es hg
   split at hv
   ·rename_i q hq
    injection hv with hv;subst hv
    cases hm with
    |fr _ _ h=>cases h
    |a6 _ o a k hi hs=>
     obtain⟨bs,h1,h2,h3,h4⟩:=(s.obj i _ hg).2
     have bS:=s.low i _ hg rfl
     obtain⟨g1,g2⟩:=zth (n:=n) h3 h4
     obtain⟨q',g3,_⟩:=Ii h3 h4 hq
     have h5:=s.write hg rfl (x':=.map (es.filter (GJ n))) (.map (bs.filter (sR n))) ⟨_,by rw[ai.eT _ _ _ _ (ai.iE h1),if_pos rfl],h2,g1,g2⟩
     rw[hs] at h1 bS h5;simp only at h1 bS h5
     have pZ:Nat.ble lo o=true:=by rw[Nat.ble_eq];exact bS
     exact⟨_,by simp only[EX,ht,h1,pZ,aQ,g3],σ,.fr _ _ vX,h5.1,h5.2,Nat.le_refl _,fun _ _=>rfl⟩
   cases hv
  cases hv
 cases hv
def ef:List PV→Option (List Value)
 |[]=>some []
 |.int k n::r=>(ef r).map (Value.int k n::·)
 |_=>none
theorem z8s:∀ {ds:List PV} {l l':List Value},ef ds=some l→bp (FR g) ds l'→l'=l
 |[],l,l',h,hr=>by simp only[ef,aB] at h;subst h;exact hr.lV
 |d::r,l,l',h,hr=>by
  obtain⟨v',s,rfl,h1,h2⟩:=hr.eJ
  cases d with
  |int k n=>
   simp only[ef] at h
   obtain⟨q,hq,rfl⟩:=er h
   cases h1
   rw[z8s hq h2]
  |_=>simp[ef] at h
theorem Om:∀ {ds:List PV} {l:List Value},ef ds=some l→PV.az ds=true
 |[],l,h=>rfl
 |d::r,l,h=>by
  cases d with
  |int k n=>
   simp only[ef] at h
   obtain⟨q,hq,rfl⟩:=er h
   simp only[PV.az,PV.aD,Bool.true_and]
   exact Om hq
  |_=>simp[ef] at h
theorem LF {ds:List PV}{l:List Value}{k':Value}(h:ef ds=some l)(hk:FR g (.agg ds) k'):k'=.agg l.toArray:=by
 cases hk with
 |agg _ cs hl hr=>rw[show cs=l.toArray from Array.ext' (by simpa using z8s h ⟨by simpa using hl,fun i v v' h1 h2=>hr i v v' h1 (by simpa using h2)⟩)]
def mH (l:List Value):List (PV×PV)→Option (Option PV)
 |[]=>some none
 |(.agg ds,v)::r=>match ef ds with
  |some m=>match lp l m,mH l r with
   |some s,some q=>some (bif s then some v else q)
   |_,_=>none
  |none=>none
 |_=>none
theorem Ij {l:List Value}:∀ {es:List (PV×PV)} {bs:List (Value×Value)} {r:Option PV},bp (FR g) (es.map (·.1)) (bs.map (·.1))→bp (FR g) (es.map (·.2)) (bs.map (·.2))→mH l es=some r→
  ∃r',wq l bs=some r'∧C3 (FR g) r r'
 |[],bs,r,hk,hv,hr=>by
  simp only[mH,aB] at hr;subst hr
  cases bs with
  |nil=>exact⟨none,rfl,trivial⟩
  |cons=>have:=hk.1;simp at this
 |(k,v)::es,bs,r,hk,hv,hr=>by
  cases bs with
  |nil=>have:=hk.1;simp at this
  |cons q bs=>
   obtain⟨k',v'⟩:=q
   obtain⟨k1,l1,e1,mU,im⟩:=hk.eJ
   simp only[List.map_cons,List.cons.injEq] at e1;obtain⟨rfl,rfl⟩:=e1
   obtain⟨k1,l1,e1,iF,eZ⟩:=hv.eJ
   simp only[List.map_cons,List.cons.injEq] at e1;obtain⟨rfl,rfl⟩:=e1
   cases k with
   |agg ds=>
    simp only[mH] at hr
    split at hr
    ·rename_i m hm
     have qx:=LF hm mU
     subst qx
     split at hr
     ·rename_i s q hs hq
      injection hr with hr;subst hr
      obtain⟨r',g1,g2⟩:=Ij im eZ hq
      refine⟨bif s then some v' else r',by simp[wq,hs,g1],?_⟩
      cases s with
      |true=>exact iF
      |false=>exact g2
     cases hr
    cases hr
   |_=>simp[mH] at hr
def jc (vh:af)(l:List Value)(m:PV):Option (Option PV):=
 match m with
 |.eE=>some none
 |.aG es=>mH l es
 |.a6 i=>match vh.get i with
  |some (.map es)=>mH l es
  |_=>none
 |_=>none
def jE (P:Program)(vh:af)(t:TypeId)(m:PV)(ds:List PV)(ok:Bool):Option PV:=
 match AH P t,ef ds with
 |some (_,e,n),some l=>
  bif !(dD l&&Nat.beq l.length n) then none else
  match (fH P e).bind a7 with
  |some z=>
   match jc vh l m with
   |some (some v)=>some (bif ok then .bz [v,.bool true] else v)
   |some none=>some (bif ok then .bz [z,.bool false] else z)
   |none=>none
  |none=>none
 |_,_=>none
theorem zug (s:VS lo g σ vh h){t:TypeId}{m v:PV}{ds:List PV}{m' k':Value}{ok:Bool}(hm:VR g σ vh.next m m')(hk:VR g σ vh.next (.agg ds) k')(hv:jE P vh t m ds ok=some v):∃v',xD P h t m' k' ok=some v'∧FR g v v':=by
 unfold jE at hv
 split at hv
 ·rename_i kt e n l ht hl
  have LG:=LF hl (hk.aD (by simp only[PV.aD];exact Om hl))
  subst LG
  cases hb:(!(dD l&&Nat.beq l.length n)) with
  |true=>rw[hb] at hv;cases hv
  |false=>
  rw[hb,bx] at hv
  split at hv
  ·rename_i z hz
   cases nk:fH P e with
   |none=>rw[nk] at hz;cases hz
   |some z'=>
    rw[nk] at hz
    have LD:=(BX (g:=g) hz).1
    have fin:∀ {q:Option PV} {q':Option Value},jc vh l m=some q→C3 (FR g) q q'→∃v',(match some q' with
      |some (some v)=>some (bif ok then .tuple #[v,.bool true] else v)
      |some none=>some (bif ok then .tuple #[z',.bool false] else z')
      |none=>none:Option Value)=some v'∧FR g v v':=fun {q q'} hq hr=>by
     rw[hq] at hv
     cases q with
     |none=>
      cases q' with
      |some=>exact hr.elim
      |none=>
       simp only[aB] at hv;subst hv
       refine⟨_,rfl,?_⟩
       cases ok with
       |true=>exact Oj LD
       |false=>exact LD
     |some u=>
      cases q' with
      |none=>exact hr.elim
      |some u'=>
       simp only[aB] at hv;subst hv
       refine⟨_,rfl,?_⟩
       cases ok with
       |true=>exact Oj hr
       |false=>exact hr
    cases hq:jc vh l m with
    |none=>rw[hq] at hv;cases hv
    |some q=>
     have GI:=hq
     unfold jc at hq
     split at hq
     ·injection hq with hq;subst hq
      have:=hm.aD rfl;cases this
      obtain⟨v',g1,g2⟩:=fin (q':=none) GI trivial
      exact⟨v',by simp only[xD,BK,ht,hb,bx,nk];exact g1,g2⟩
     ·have:=hm.aD rfl
      cases this with
      |aG _ o bs hg hlen rk rv=>
       obtain⟨h3,h4⟩:=zwd hlen rk rv
       obtain⟨r',g1,g2⟩:=Ij h3 h4 hq
       obtain⟨v',g3,g4⟩:=fin GI g2
       exact⟨v',by simp only[xD,BK,ht,hb,bx,nk,s.fz _ _ hg,g1];exact g3,g4⟩
     ·rename_i i
      split at hq
      ·rename_i es hg
       cases hm with
       |fr _ _ h=>cases h
       |a6 _ o a k hi hs=>
        obtain⟨bs,h1,h2,h3,h4⟩:=(s.obj i _ hg).2
        rw[hs] at h1;simp only at h1
        obtain⟨r',g1,g2⟩:=Ij h3 h4 hq
        obtain⟨v',g3,g4⟩:=fin GI g2
        exact⟨v',by simp only[xD,BK,ht,hb,bx,nk,h1,g1];exact g3,g4⟩
      cases hq
     cases hq
  cases hv
 cases hv
def vo (l:List Value)(k:PV):Bool:=match k with
 |.agg ds=>match ef ds with
  |some m=>match lp l m with|some s=>s|none=>false
  |none=>false
 |_=>false
def Lz (l:List Value)(ds:List PV)(v:PV)(p:PV×PV):PV×PV:=bif vo l p.1 then (.agg ds,v) else p
def GK (l:List Value)(p:PV×PV):Bool:=!vo l p.1
def rO (l:List Value)(ds:List PV)(v:PV)(es:List (PV×PV)):Option (List (PV×PV)):=
 match mH l es with
 |some (some _)=>some (es.map (Lz l ds v))
 |some none=>some (es++[(.agg ds,v)])
 |none=>none
theorem Ty {l:List Value}:∀ {es:List (PV×PV)} {r:Option PV},mH l es=some r→∀p∈es,∃ds m s,p.1=.agg ds∧ef ds=some m∧lp l m=some s
 |[],r,h,p,hp=>by cases hp
 |(k,v)::es,r,h,p,hp=>by
  cases k with
  |agg ds=>
   simp only[mH] at h
   split at h
   ·rename_i m hm
    split at h
    ·rename_i s q hs hq
     rcases List.mem_cons.1 hp with rfl|hp
     ·exact⟨ds,m,s,rfl,hm,hs⟩
     exact Ty hq p hp
    cases h
   cases h
  |_=>simp[mH] at h
theorem zxa {l:List Value}{es:List (PV×PV)}{k:PV}{k':Value}(hk:∃ds m s,k=.agg ds∧ef ds=some m∧lp l m=some s)(hr:FR g k k'):Dn l k'=vo l k:=by
 obtain⟨ds,m,s,rfl,h2,h3⟩:=hk
 rw[LF h2 hr]
 simp only[Dn,vo,h2,h3]
theorem zsb {l:List Value}{ds:List PV}{xs:Array Value}{v:PV}{v':Value}(hx:xs.toList=l)(hd:FR g (.agg ds) (.agg xs))(hv:FR g v v'):∀ {es:List (PV×PV)} {bs:List (Value×Value)},(∀p∈es,∃ds m s,p.1=.agg ds∧ef ds=some m∧lp l m=some s)→bp (FR g) (es.map (·.1)) (bs.map (·.1))→bp (FR g) (es.map (·.2)) (bs.map (·.2))→
  bp (FR g) ((es.map (Lz l ds v)).map (·.1)) ((bs.map (BL xs v')).map (·.1))∧bp (FR g) ((es.map (Lz l ds v)).map (·.2)) ((bs.map (BL xs v')).map (·.2))
 |[],bs,_,hk,hv=>by
  cases bs with
  |nil=>exact⟨.nil,.nil⟩
  |cons=>have:=hk.1;simp at this
 |(k,u)::es,bs,ha,hk,tW=>by
  cases bs with
  |nil=>have:=hk.1;simp at this
  |cons q bs=>
   obtain⟨k',u'⟩:=q
   obtain⟨k1,l1,e1,mU,im⟩:=hk.eJ
   simp only[List.map_cons,List.cons.injEq] at e1;obtain⟨rfl,rfl⟩:=e1
   obtain⟨k1,l1,e1,iF,eZ⟩:=tW.eJ
   simp only[List.map_cons,List.cons.injEq] at e1;obtain⟨rfl,rfl⟩:=e1
   have ih:=zsb hx hd hv (fun p hp=>ha p (List.mem_cons_of_mem _ hp)) im eZ
   have he:=zxa (es:=es) (ha (k,u) List.mem_cons_self) mU
   simp only[List.map_cons,Lz,BL,hx,he]
   cases vo l k with
   |true=>exact⟨.cons hd ih.1,.cons hv ih.2⟩
   |false=>exact⟨.cons mU ih.1,.cons iF ih.2⟩
theorem zo6 {l:List Value}{xs:Array Value}(hx:xs.toList=l):∀ {es:List (PV×PV)} {bs:List (Value×Value)},(∀p∈es,∃ds m s,p.1=.agg ds∧ef ds=some m∧lp l m=some s)→bp (FR g) (es.map (·.1)) (bs.map (·.1))→bp (FR g) (es.map (·.2)) (bs.map (·.2))→
  bp (FR g) ((es.filter (GK l)).map (·.1)) ((bs.filter (yA xs)).map (·.1))∧bp (FR g) ((es.filter (GK l)).map (·.2)) ((bs.filter (yA xs)).map (·.2))
 |[],bs,_,hk,hv=>by
  cases bs with
  |nil=>exact⟨.nil,.nil⟩
  |cons=>have:=hk.1;simp at this
 |(k,u)::es,bs,ha,hk,tW=>by
  cases bs with
  |nil=>have:=hk.1;simp at this
  |cons q bs=>
   obtain⟨k',u'⟩:=q
   obtain⟨k1,l1,e1,mU,im⟩:=hk.eJ
   simp only[List.map_cons,List.cons.injEq] at e1;obtain⟨rfl,rfl⟩:=e1
   obtain⟨k1,l1,e1,iF,eZ⟩:=tW.eJ
   simp only[List.map_cons,List.cons.injEq] at e1;obtain⟨rfl,rfl⟩:=e1
   have ih:=zo6 hx (fun p hp=>ha p (List.mem_cons_of_mem _ hp)) im eZ
   have he:=zxa (es:=es) (ha (k,u) List.mem_cons_self) mU
   have same:GK l (k,u)=yA xs (k',u'):=by unfold GK yA;rw[hx,he]
   simp only[List.filter_cons]
   rw[← same]
   cases GK l (k,u) with
   |false=>exact ih
   |true=>exact⟨.cons mU ih.1,.cons iF ih.2⟩
def jN (P:Program)(vh:af)(t:TypeId)(m:PV)(ds:List PV)(v:PV):Option af:=
 match AH P t,m,ef ds with
 |some (_,_,n),.a6 i,some l=>
  bif !(dD l&&Nat.beq l.length n) then none else
  match vh.get i with
  |some (.map es)=>bif v.aD then (rO l ds v es).map fun es=>vh.put i (.map es) else none
  |_=>none
 |_,_,_=>none
theorem zo2 (s:VS lo g σ vh h){t:TypeId}{m v:PV}{ds:List PV}{m' k' v':Value}{aq:af}(hm:VR g σ vh.next m m')(hk:VR g σ vh.next (.agg ds) k')(tW:VR g σ vh.next v v')(hv:jN P vh t m ds v=some aq) :
  ∃h',Dq P lo h t m' k' v'=some h'∧lP lo g σ vh h (.bz []) aq Go.undef h':=by
 unfold jN at hv
 split at hv
 ·rename_i kt e n i l ht hl
  have Tz:=hk.aD (by simp only[PV.aD];exact Om hl)
  have LG:=LF hl Tz
  subst LG
  cases hb:(!(dD l&&Nat.beq l.length n)) with
  |true=>rw[hb] at hv;cases hv
  |false=>
  rw[hb,bx] at hv
  split at hv
  ·rename_i es hg
   cases hf:v.aD with
   |false=>rw[hf] at hv;cases hv
   |true=>
    rw[hf] at hv;simp only[aQ] at hv
    obtain⟨out,ho,rfl⟩:=er hv
    cases hm with
    |fr _ _ h=>cases h
    |a6 _ o a k hi hs=>
     obtain⟨bs,h1,h2,h3,h4⟩:=(s.obj i _ hg).2
     have bS:=s.low i _ hg rfl
     have hvF:=tW.aD hf
     obtain⟨gM,g1,g2,g3⟩:∃gM,(match wq l bs with
       |some (some _)=>some (bs.map (BL l.toArray v'))
       |some none=>some (bs++[(.agg l.toArray,v')])
       |none=>none)=some gM∧bp (FR g) (out.map (·.1)) (gM.map (·.1))∧bp (FR g) (out.map (·.2)) (gM.map (·.2)):=by
      unfold rO at ho
      split at ho
      ·rename_i u hq
       injection ho with ho;subst ho
       obtain⟨q',e1,e2⟩:=Ij h3 h4 hq
       cases q' with
       |none=>exact e2.elim
       |some u'=>exact⟨_,by rw[e1],zsb (by simp) Tz hvF (Ty hq) h3 h4⟩
      ·rename_i hq
       injection ho with ho;subst ho
       obtain⟨q',e1,e2⟩:=Ij h3 h4 hq
       cases q' with
       |some=>exact e2.elim
       |none=>
        refine⟨_,by rw[e1],?_,?_⟩
        ·simp only[List.map_append,List.map_cons,List.map_nil];exact h3.append (.cons Tz .nil)
        simp only[List.map_append,List.map_cons,List.map_nil];exact h4.append (.cons hvF .nil)
      cases ho
     have h5:=s.write hg rfl (x':=.map out) (.map gM) ⟨gM,by rw[ai.eT _ _ _ _ (ai.iE h1),if_pos rfl],h2,g2,g3⟩
     rw[hs] at h1 bS h5;simp only at h1 bS h5
     have pZ:Nat.ble lo o=true:=by rw[Nat.ble_eq];exact bS
     refine⟨h.put o (some (.map gM)),?_,σ,.fr _ _ vX,h5.1,h5.2,Nat.le_refl _,fun _ _=>rfl⟩
     simp only[Dq,Mi,ht,hb,bx,h1,pZ,aQ]
     split at g1
     ·rename_i hq;simp only[hq];injection g1 with g1;rw[g1]
     ·rename_i hq;simp only[hq];injection g1 with g1;rw[g1]
     cases g1
  cases hv
 cases hv
def TA (P:Program)(vh:af)(t:TypeId)(m:PV)(ds:List PV):Option af:=
 match AH P t,m,ef ds with
 |some (_,_,n),.a6 i,some l=>
  bif !(dD l&&Nat.beq l.length n) then none else
  match vh.get i with
  |some (.map es)=>match mH l es with
   |some _=>some (vh.put i (.map (es.filter (GK l))))
   |none=>none
  |_=>none
 |_,_,_=>none
theorem zu1 (s:VS lo g σ vh h){t:TypeId}{m:PV}{ds:List PV}{m' k':Value}{aq:af}(hm:VR g σ vh.next m m')(hk:VR g σ vh.next (.agg ds) k')(hv:TA P vh t m ds=some aq) :
  ∃h',sS P lo h t m' k'=some h'∧lP lo g σ vh h (.bz []) aq Go.undef h':=by
 unfold TA at hv
 split at hv
 ·rename_i kt e n i l ht hl
  have LG:=LF hl (hk.aD (by simp only[PV.aD];exact Om hl))
  subst LG
  cases hb:(!(dD l&&Nat.beq l.length n)) with
  |true=>rw[hb] at hv;cases hv
  |false=>
  rw[hb,bx] at hv
  split at hv
  ·rename_i es hg
   split at hv
   ·rename_i q hq
    injection hv with hv;subst hv
    cases hm with
    |fr _ _ h=>cases h
    |a6 _ o a k hi hs=>
     obtain⟨bs,h1,h2,h3,h4⟩:=(s.obj i _ hg).2
     have bS:=s.low i _ hg rfl
     obtain⟨g1,g2⟩:=zo6 (xs:=l.toArray) (by simp) (Ty hq) h3 h4
     obtain⟨q',g3,_⟩:=Ij h3 h4 hq
     have h5:=s.write hg rfl (x':=.map (es.filter (GK l))) (.map (bs.filter (yA l.toArray))) ⟨_,by rw[ai.eT _ _ _ _ (ai.iE h1),if_pos rfl],h2,g1,g2⟩
     rw[hs] at h1 bS h5;simp only at h1 bS h5
     have pZ:Nat.ble lo o=true:=by rw[Nat.ble_eq];exact bS
     exact⟨_,by simp only[sS,Mj,ht,hb,bx,h1,pZ,aQ,g3],σ,.fr _ _ vX,h5.1,h5.2,Nat.le_refl _,fun _ _=>rfl⟩
   cases hv
  cases hv
 cases hv
def kP (P:Program)(vh:af)(t:TypeId)(m k:PV)(ok:Bool):Option PV:=
 match k with
 |.agg ds=>jE P vh t m ds ok
 |k=>
 match o8 P t,k with
 |some (_,e),.int kd n=>
  match (fH P e).bind a7 with
  |some z=>
   match jS vh kd n m with
   |some (some v)=>some (bif ok then .bz [v,.bool true] else v)
   |some none=>some (bif ok then .bz [z,.bool false] else z)
   |none=>none
  |none=>none
 |_,_=>none
def ka (P:Program)(vh:af)(t:TypeId)(m k v:PV):Option af:=
 match k with
 |.agg ds=>jN P vh t m ds v
 |k=>
 match o8 P t,m,k with
 |some _,.a6 i,.int kd n=>
  match vh.get i with
  |some (.map es)=>bif v.aD then (Ol kd n v es).map fun es=>vh.put i (.map es) else none
  |_=>none
 |_,_,_=>none
def kQ (P:Program)(vh:af)(t:TypeId)(m k:PV):Option af:=
 match k with
 |.agg ds=>TA P vh t m ds
 |k=>
 match o8 P t,m,k with
 |some _,.a6 i,.int kd n=>
  match vh.get i with
  |some (.map es)=>match Bp kd n es with
   |some _=>some (vh.put i (.map (es.filter (GJ n))))
   |none=>none
  |_=>none
 |_,_,_=>none
theorem z1a {P:Program}{h:ai}{t:TypeId}{m k v:Value}{ok:Bool}(ha:xC P h t m k ok=some v):xD P h t m k ok=some v:=by
 cases k with
 |agg xs=>unfold xC at ha;split at ha<;>simp_all
 |_=>exact ha
theorem z1l {P:Program}{lo:Nat}{h h':ai}{t:TypeId}{m k v:Value}(ha:EU P lo h t m k v=some h'):Dq P lo h t m k v=some h':=by
 cases k with
 |agg xs=>unfold EU at ha;split at ha<;>simp_all
 |_=>exact ha
theorem z6i {P:Program}{lo:Nat}{h h':ai}{t:TypeId}{m k:Value}(ha:EX P lo h t m k=some h'):sS P lo h t m k=some h':=by
 cases k with
 |agg xs=>unfold EX at ha;split at ha<;>simp_all
 |_=>exact ha
theorem zyk (s:VS lo g σ vh h){t:TypeId}{m k v:PV}{m' k':Value}{ok:Bool}(hm:VR g σ vh.next m m')(hk:VR g σ vh.next k k')(hv:kP P vh t m k ok=some v):∃v',xD P h t m' k' ok=some v'∧FR g v v':=by
 unfold kP at hv
 split at hv
 ·exact zug s hm hk hv
 obtain⟨v',h1,h2⟩:=zu5 s hm hk hv
 exact⟨v',z1a h1,h2⟩
theorem zkt (s:VS lo g σ vh h){t:TypeId}{m k v:PV}{m' k' v':Value}{aq:af}(hm:VR g σ vh.next m m')(hk:VR g σ vh.next k k')(tW:VR g σ vh.next v v')(hv:ka P vh t m k v=some aq) :
  ∃h',Dq P lo h t m' k' v'=some h'∧lP lo g σ vh h (.bz []) aq Go.undef h':=by
 unfold ka at hv
 split at hv
 ·exact zo2 s hm hk tW hv
 obtain⟨h',h1,h2⟩:=zou s hm hk tW hv
 exact⟨h',z1l h1,h2⟩
theorem zza (s:VS lo g σ vh h){t:TypeId}{m k:PV}{m' k':Value}{aq:af}(hm:VR g σ vh.next m m')(hk:VR g σ vh.next k k')(hv:kQ P vh t m k=some aq) :
  ∃h',sS P lo h t m' k'=some h'∧lP lo g σ vh h (.bz []) aq Go.undef h':=by
 unfold kQ at hv
 split at hv
 ·exact zu1 s hm hk hv
 obtain⟨h',h1,h2⟩:=zu4 s hm hk hv
 exact⟨h',z6i h1,h2⟩
def kR (P:Program)(vh:af)(t:TypeId)(x:PV):Option af:=
 match jh P t,x with
 |some _,.aJ=>some vh
 |some _,.vec []=>some vh
 |some (e,n),.sub i off (l+1)=>
  match fI P e,vh.get i with
  |some z,some (.arr ag sz cs)=>bif Nat.beq z.length n&&Nat.beq sz n&&Nat.ble (off+(l+1)*n) cs.length&&z.all PV.one then some (vh.put i (.arr ag sz (gR cs off (cp z (l+1))))) else none
  |_,_=>none
 |_,_=>none
theorem z3h (s:VS lo g σ vh h){t:TypeId}{x:PV}{x':Value}{aq:af}(hx:VR g σ vh.next x x')(hv:kR P vh t x=some aq) :
  ∃h',AG P lo h t x'=some h'∧lP lo g σ vh h (.bz []) aq Go.undef h':=by
 unfold kR at hv
 split at hv
 ·rename_i q ht
  injection hv with hv;subst hv
  have:=hx.aD rfl;cases this
  exact⟨h,by simp only[AG,ht],.same s (.fr _ _ vX)⟩
 ·rename_i q ht
  injection hv with hv;subst hv
  have:=hx.aD rfl
  cases this with
  |ie=>exact⟨h,by simp only[AG,ht],.same s (.fr _ _ vX)⟩
  |et=>exact⟨h,by simp only[AG,ht],.same s (.fr _ _ vX)⟩
  |vec _ o off k s0 sz au=>exact⟨h,by simp only[AG,ht,List.length_nil],.same s (.fr _ _ vX)⟩
 ·rename_i e n i off l ht
  split at hv
  ·rename_i z ag sz cs hz hg
   cases hb:(Nat.beq z.length n&&Nat.beq sz n&&Nat.ble (off+(l+1)*n) cs.length&&z.all PV.one) with
   |false=>rw[hb] at hv;cases hv
   |true=>
    rw[hb] at hv;simp only[aQ,aB] at hv;subst hv
    simp only[bW,beq_eq,decide_eq_true_eq,Nat.ble_eq] at hb
    obtain⟨⟨⟨b1,b2⟩,b3⟩,b4⟩:=hb
    subst b2
    obtain⟨z',k1,k2⟩:=AP (g:=g) hz
    obtain⟨h0,s0,au,h1,h2,h3⟩:=(s.obj i _ hg).2
    have bS:=s.low i _ hg rfl
    cases hx with
    |fr _ _ h=>cases h
    |sub _ _ _ k o a kk hi hs hl hk=>
     rw[hs] at h1 h2 bS;simp only at h1 h2 bS;subst h2
     have gZ:bp (FR g) (gR cs off (cp z (l+1))) (ia au off (dJ z' (l+1))):=h3.ia off (Ho k2 _)
     have hw:=s.write hg rfl (x':=.arr ag sz (gR cs off (cp z (l+1)))) (.cells s0 (ia au off (dJ z' (l+1)))) ⟨h0,s0,_,by rw[hs,ai.eT _ _ _ _ (ai.iE h1),if_pos rfl],by rw[hs],gZ⟩
     rw[hs] at hw
     have e1:Nat.ble lo o=true:=by rw[Nat.ble_eq];exact bS
     have e2:Nat.beq z'.length sz=true:=by rw[← k2.1,beq_eq];simpa using b1
     have e3:Nat.ble (0+off+(l+1)*sz) au.length=true:=by rw[Nat.ble_eq,← h3.1];omega
     have e4:z'.all (·.oneCell')=true:=bp.yR (σ:=σ) (n:=vh.next) k2.vr b4
     refine⟨_,by simp only[AG,ht,k1,h1,e1,e2,e3,e4,Bool.and_true,aQ];rfl,σ,.fr _ _ vX,?_,?_,Nat.le_refl _,fun _ _=>rfl⟩
     ·simpa using hw.1
     simpa using hw.2
  cases hv
 cases hv
end
def dA:List PV→Option (List Value)
 |[]=>some []
 |v::r=>match jC v,dA r with
  |some x,some l=>some (x::l)
  |_,_=>none
def kN (P:Program)(vh:af)(b:Builtin)(argTypes:List TypeId)(args:List PV):Option (PV×af):=
 match b,argTypes,args with
 |.len,[t],[x]=>(dX P vh t x).map (·,vh)
 |.append,[s,x],[a,b]=>kO P vh s x a b
 |.copy,[d,_],[a,b]=>cJ P vh d a b
 |.delete,[t,_],[m,k]=>(kQ P vh t m k).map fun aq=>(.bz [],aq)
 |.clear,[t],[x]=>(kR P vh t x).map fun aq=>(.bz [],aq)
 |.max,_,x::r=>match dA (x::r) with
  |some (x::r)=>((gX true x r).bind a7).map (·,vh)
  |_=>none
 |.min,_,x::r=>match dA (x::r) with
  |some (x::r)=>((gX false x r).bind a7).map (·,vh)
  |_=>none
 |_,_,_=>none
def dz (P:Program)(ah:bf)(vh:af):Op→Option (PV×af)
 |.move x=>(ct ah x).map (·,vh)
 |.assign x=>(ct ah x).map (·,vh)
 |.pick c a b=>match ct ah c with
  |some (.bool true)=>(ct ah a).map (·,vh)
  |some (.bool false)=>(ct ah b).map (·,vh)
  |_=>none
 |.alloc t=>kK P vh t
 |.box _ x=>(ct ah x).map (dY vh)
 |.build t parts=>match jB ah parts.toList with
  |some l=>(pt P t l).map (·,vh)
  |none=>none
 |.buildSlice t n parts=>match jB ah parts.toList with
  |some l=>jQ P vh t n l
  |none=>none
 |.load t a=>match ct ah a with
  |some p=>(j9 P vh t p).map (·,vh)
  |none=>none
 |.store t a x=>match ct ah a,ct ah x with
  |some p,some v=>(kM P vh t p v).map fun aq=>(.bz [],aq)
  |_,_=>none
 |.nilCheck x=>match ct ah x with
  |some (.ptr i off)=>some (.ptr i off,vh)
  |some (.vp cs)=>some (.vp cs,vh)
  |some (.func f xs ys)=>some (.func f xs ys,vh)
  |_=>none
 |.binOp op t x y _=>match ct ah x,ct ah y with
  |some a,some b=>(dW P op t a b).map (·,vh)
  |_,_=>none
 |.unOp op _ x=>match (ct ah x).bind jC with
  |some a=>((jO op a).bind a7).map (·,vh)
  |none=>none
 |.convert s d x=>match (ct ah x).bind jC with
  |some a=>((jP P s d a).bind a7).map (·,vh)
  |none=>none
 |.makeFunc (.func f) first captured=>match gf ah first.toList,gf ah captured.toList with
  |some xs,some ys=>some (.func f xs ys,vh)
  |_,_=>none
 |.makeMap _ none=>some (kL vh)
 |.makeSlice t l c=>match ct ah l,ct ah c with
  |some a,some b=>jR P vh t a b
  |_,_=>none
 |.slice t x lo hi none=>match ct ah x,vO ah lo,vO ah hi with
  |some v,some l,some u=>(kH P t v l u).map (·,vh)
  |_,_,_=>none
 |.slice t x lo hi (some mx)=>match ct ah x,vO ah lo,vO ah hi,vO ah (some mx) with
  |some v,some l,some u,some m=>match Fl P t v l u m with
   |some r=>some (r,vh)
   |none=>bif (l.isNone||ig l)&&ig u&&ig m then (kI P t v).map (·,vh) else none
  |_,_,_,_=>none
 |.fieldAddr s x f=>match ct ah x with
  |some p=>(kF P s p f).map (·,vh)
  |none=>none
 |.field s x f=>match ct ah x with
  |some p=>(kC P s p f).map (·,vh)
  |none=>none
 |.indexAddr t x i=>match ct ah x,ct ah i with
  |some a,some b=>(kG P t a b).map (·,vh)
  |_,_=>none
 |.index t x i=>match ct ah x,ct ah i with
  |some a,some b=>(kD P t a b).map (·,vh)
  |_,_=>none
 |.lookup t m k ok=>match ct ah m,ct ah k with
  |some a,some b=>(kP P vh t a b ok).map (·,vh)
  |_,_=>none
 |.mapUpdate t m k x=>match ct ah m,ct ah k,ct ah x with
  |some a,some b,some c=>(ka P vh t a b c).map fun aq=>(.bz [],aq)
  |_,_,_=>none
 |.insert t m k x=>match ct ah m,ct ah k,ct ah x with
  |some a,some b,some c=>(ka P vh t a b c).map fun aq=>(.bz [],aq)
  |_,_,_=>none
 |.extract x i=>match ct ah x with
  |some a=>(kE a i).map (·,vh)
  |none=>none
 |.call ⟨.builtin b,args,argTypes⟩=>match gf ah args.toList with
  |some l=>kN P vh b argTypes.toList l
  |none=>none
 |_=>none
section
variable {P:Program} {lo:Nat} {g:Fz} {σ:Sg} {vh:af} {h:ai} {ah:bf} {ts:aL}
theorem TC {n:Nat}:∀ {l:List PV} {l' xs:List Value},bp (VR g σ n) l l'→dA l=some xs→l'=xs
 |[],l',xs,hl,h=>by simp only[dA,aB] at h;subst h;exact hl.lV
 |v::r,l',xs,hl,h=>by
  simp only[dA] at h
  split at h
  ·rename_i p l h1 h2
   injection h with h;subst h
   obtain⟨v',r',rfl,k1,k2⟩:=hl.eJ
   rw[I8 k1 h1,TC k2 h2]
  cases h
theorem rl {α:Type}{o:Option PV}{vh aq:af}{v:PV}(h:o.map (·,vh)=some (v,aq)):o=some v∧aq=vh:=by
 obtain⟨a,h1,h2⟩:=er h
 simp only[bO] at h2
 exact⟨h2.1▸h1,h2.2.symm⟩
theorem zt9 (s:VS lo g σ vh h){b:Builtin}{aT:List TypeId}{args:List PV}{aH:List Value}{v:PV}{aq:af}(ha:bp (VR g σ vh.next) args aH)(hv:kN P vh b aT args=some (v,aq)) :
  ∃v' h',sf P lo h b aT aH=some (v',h')∧lP lo g σ vh h v aq v' h':=by
 unfold kN at hv
 split at hv
 ·obtain⟨h1,rfl⟩:=rl (α:=Unit) hv
  obtain⟨x',r1,rfl,hx,h2⟩:=ha.eJ
  have:=h2.lV;subst this
  obtain⟨v',g1,g2⟩:=xc8 s hx h1
  exact⟨v',h,by simp only[sf,g1,Option.map_some],.same s (.fr _ _ g2)⟩
 ·obtain⟨x',r1,rfl,hx,h2⟩:=ha.eJ
  obtain⟨y',r2,rfl,hy,h3⟩:=h2.eJ
  have:=h3.lV;subst this
  exact zyz s hx hy hv
 ·obtain⟨x',r1,rfl,hx,h2⟩:=ha.eJ
  obtain⟨y',r2,rfl,hy,h3⟩:=h2.eJ
  have:=h3.lV;subst this
  exact z5x s hx hy hv
 ·obtain⟨cI,h1,h2⟩:=er hv
  simp only[bO] at h2;obtain⟨rfl,rfl⟩:=h2
  obtain⟨x',r1,rfl,hx,h2⟩:=ha.eJ
  obtain⟨y',r2,rfl,hy,h3⟩:=h2.eJ
  have:=h3.lV;subst this
  obtain⟨h',g1,g2⟩:=zza s hx hy h1
  exact⟨_,h',by simp only[sf,g1,Option.map_some],g2⟩
 ·obtain⟨cI,h1,h2⟩:=er hv
  simp only[bO] at h2;obtain⟨rfl,rfl⟩:=h2
  obtain⟨x',r1,rfl,hx,h2⟩:=ha.eJ
  have:=h2.lV;subst this
  obtain⟨h',g1,g2⟩:=z3h s hx h1
  exact⟨_,h',by simp only[sf,g1,Option.map_some],g2⟩
 ·split at hv
  ·rename_i x r hc
   obtain⟨h1,rfl⟩:=rl (α:=Unit) hv
   have:=TC ha hc;subst this
   cases hm:gX true x r with
   |none=>rw[hm] at h1;cases h1
   |some u=>rw[hm] at h1;exact⟨u,h,by simp only[sf,hm,Option.map_some],.same s (.fr _ _ (BX h1).1)⟩
  cases hv
 ·split at hv
  ·rename_i x r hc
   obtain⟨h1,rfl⟩:=rl (α:=Unit) hv
   have:=TC ha hc;subst this
   cases hm:gX false x r with
   |none=>rw[hm] at h1;cases h1
   |some u=>rw[hm] at h1;exact⟨u,h,by simp only[sf,hm,Option.map_some],.same s (.fr _ _ (BX h1).1)⟩
  cases hv
 cases hv
theorem GL (s:VS lo g σ vh h)(ht:VT g σ vh.next ah ts){op:Op}{v:PV}{aq:af}(hv:dz P ah vh op=some (v,aq)):∃v' h',cV P lo ts h op=some (v',h')∧lP lo g σ vh h v aq v' h':=by
 have pure:∀ {o:Option PV} {v':Value},aq=vh→VR g σ vh.next v v'→cV P lo ts h op=some (v',h)→∃v' h',cV P lo ts h op=some (v',h')∧lP lo g σ vh h v aq v' h':=fun {o v'} e hr ha=>by
  subst e;exact⟨_,_,ha,.same s hr⟩
 unfold dz at hv
 split at hv
 ·obtain⟨h1,e⟩:=rl (α:=Unit) hv
  obtain⟨v',g1,g2⟩:=fX ht h1
  exact pure (o:=none) e g2 (by simp only[cV,g1,Option.map_some])
 ·obtain⟨h1,e⟩:=rl (α:=Unit) hv
  obtain⟨v',g1,g2⟩:=fX ht h1
  exact pure (o:=none) e g2 (by simp only[cV,g1,Option.map_some])
 ·split at hv
  ·rename_i hc
   obtain⟨h1,e⟩:=rl (α:=Unit) hv
   obtain⟨c',k1,k2⟩:=fX ht hc
   have:=k2.aD rfl;cases this
   obtain⟨v',g1,g2⟩:=fX ht h1
   exact pure (o:=none) e g2 (by simp only[cV,k1,g1,Option.map_some])
  ·rename_i hc
   obtain⟨h1,e⟩:=rl (α:=Unit) hv
   obtain⟨c',k1,k2⟩:=fX ht hc
   have:=k2.aD rfl;cases this
   obtain⟨v',g1,g2⟩:=fX ht h1
   exact pure (o:=none) e g2 (by simp only[cV,k1,g1,Option.map_some])
  cases hv
 ·obtain⟨v',h',g1,g2⟩:=z0a s hv
  exact⟨v',h',g1,g2⟩
 ·obtain⟨u,h1,h2⟩:=er hv
  obtain⟨u',g1,g2⟩:=fX ht h1
  have:=xbe s g2
  rw[h2] at this
  exact⟨_,_,by simp only[cV,g1,Option.map_some],this⟩
 ·split at hv
  ·rename_i l hl
   obtain⟨h1,e⟩:=rl (α:=Unit) hv
   obtain⟨l',k1,k2⟩:=MK ht hl
   obtain⟨v',g1,g2⟩:=z3v k2 h1
   exact pure (o:=none) e g2 (by simp only[cV,k1,g1,Option.map_some])
  cases hv
 ·split at hv
  ·rename_i l hl
   obtain⟨l',k1,k2⟩:=MK ht hl
   obtain⟨v',h',g1,g2⟩:=zow s k2 hv
   exact⟨v',h',by simp only[cV,k1,g1],g2⟩
  cases hv
 ·split at hv
  ·rename_i p hp
   obtain⟨h1,e⟩:=rl (α:=Unit) hv
   obtain⟨p',k1,k2⟩:=fX ht hp
   obtain⟨v',g1,g2⟩:=Vh s k2 h1
   exact pure (o:=none) e g2 (by simp only[cV,k1,g1,Option.map_some])
  cases hv
 ·split at hv
  ·rename_i p u hp hu
   obtain⟨cI,h1,h2⟩:=er hv
   simp only[bO] at h2;obtain⟨rfl,rfl⟩:=h2
   obtain⟨p',k1,k2⟩:=fX ht hp
   obtain⟨u',k3,k4⟩:=fX ht hu
   obtain⟨h',g1,g2⟩:=z1o s k2 k4 h1
   exact⟨_,h',by simp only[cV,k1,k3,g1,Option.map_some],g2⟩
  cases hv
 ·split at hv
  ·rename_i i off hp
   simp only[aB,bO] at hv;obtain⟨rfl,rfl⟩:=hv
   obtain⟨p',k1,k2⟩:=fX ht hp
   have k3:=k2
   cases k2 with
   |fr _ _ h=>cases h
   |ptr=>exact⟨_,_,by simp only[cV,k1,G8,Option.map_some],.same s k3⟩
  ·rename_i cs hp
   simp only[aB,bO] at hv;obtain⟨rfl,rfl⟩:=hv
   obtain⟨p',k1,k2⟩:=fX ht hp
   have k3:=k2
   have:=k2.aD rfl;cases this
   exact⟨_,_,by simp only[cV,k1,G8,Option.map_some],.same s k3⟩
  ·rename_i f xs ys hp
   simp only[aB,bO] at hv;obtain⟨rfl,rfl⟩:=hv
   obtain⟨p',k1,k2⟩:=fX ht hp
   have k3:=k2
   cases k2 with
   |fr _ _ h=>cases h;exact⟨_,_,by simp only[cV,k1,G8,Option.map_some],.same s k3⟩
   |func=>exact⟨_,_,by simp only[cV,k1,G8,Option.map_some],.same s k3⟩
  cases hv
 ·split at hv
  ·rename_i a b ha hb
   obtain⟨h1,e⟩:=rl (α:=Unit) hv
   obtain⟨a',k1,k2⟩:=fX ht ha
   obtain⟨b',k3,k4⟩:=fX ht hb
   obtain⟨v',g1,g2⟩:=xcg k2 k4 h1
   exact pure (o:=none) e (.fr _ _ g2) (by simp only[cV,k1,k3,g1,Option.map_some])
  cases hv
 ·rename_i op ty x
  split at hv
  ·rename_i a ha
   cases hx:ct ah x with
   |none=>rw[hx] at ha;cases ha
   |some u=>
    rw[hx] at ha
    obtain⟨h1,e⟩:=rl (α:=Unit) hv
    obtain⟨u',k1,k2⟩:=fX ht hx
    have:=I8 k2 ha;subst this
    cases hu:jO op u' with
    |none=>rw[hu] at h1;cases h1
    |some w=>rw[hu] at h1;exact pure (o:=none) e (.fr _ _ (BX h1).1) (by simp only[cV,k1,hu,Option.map_some])
  cases hv
 ·rename_i sT dT x
  split at hv
  ·rename_i a ha
   cases hx:ct ah x with
   |none=>rw[hx] at ha;cases ha
   |some u=>
    rw[hx] at ha
    obtain⟨h1,e⟩:=rl (α:=Unit) hv
    obtain⟨u',k1,k2⟩:=fX ht hx
    have:=I8 k2 ha;subst this
    cases hu:jP P sT dT u' with
    |none=>rw[hu] at h1;cases h1
    |some w=>rw[hu] at h1;exact pure (o:=none) e (.fr _ _ (BX h1).1) (by simp only[cV,k1,hu,Option.map_some])
  cases hv
 ·split at hv
  ·rename_i xs ys oP hys
   simp only[aB,bO] at hv;obtain⟨rfl,rfl⟩:=hv
   obtain⟨bu,k1,k2⟩:=BY ht oP
   obtain⟨eI,k3,k4⟩:=BY ht hys
   exact⟨_,_,by simp only[cV,k1,k3],.same s (.func _ _ _ bu.toArray eI.toArray (by simpa using k2.1) (by simpa using k4.1) (fun i v v' hv bg=>k2.2 i v v' hv (by simpa using bg)) (fun i v v' hv bg=>k4.2 i v v' hv (by simpa using bg)))⟩
  cases hv
 ·simp only[aB] at hv
  have:=zvt s
  rw[hv] at this
  exact⟨_,_,rfl,this⟩
 ·split at hv
  ·rename_i a b ha hb
   obtain⟨a',k1,k2⟩:=fX ht ha
   obtain⟨b',k3,k4⟩:=fX ht hb
   obtain⟨v',h',g1,g2⟩:=zqm s k2 k4 hv
   exact⟨v',h',by simp only[cV,k1,k3,g1],g2⟩
  cases hv
 ·split at hv
  ·rename_i a l u ha hl hu
   obtain⟨h1,e⟩:=rl (α:=Unit) hv
   obtain⟨a',k1,k2⟩:=fX ht ha
   obtain⟨l',k3,k4⟩:=DH ht hl
   obtain⟨u',k5,k6⟩:=DH ht hu
   obtain⟨v',g1,g2⟩:=z3s k2 k4 k6 h1
   exact pure (o:=none) e g2 (by simp only[cV,k1,k3,k5,show xF ts none=some none from rfl,g1,Option.map_some])
  cases hv
 ·rename_i t x gK dB mx
  split at hv
  ·rename_i a l u m ha hl hu hm
   split at hv
   ·rename_i r0 qU
    obtain⟨a',k1,k2⟩:=fX ht ha
    obtain⟨l',k3,k4⟩:=DH ht hl
    obtain⟨u',k5,k6⟩:=DH ht hu
    obtain⟨m',k7,k8⟩:=DH ht hm
    obtain⟨v',g1,g2⟩:=zyv k2 k4 k6 k8 qU
    simp only[aB,bO] at hv
    obtain⟨rfl,rfl⟩:=hv
    exact pure (o:=none) rfl g2 (by simp only[cV,k1,k3,k5,k7,g1,Option.map_some])
   cases hb:((l.isNone||ig l)&&ig u&&ig m) with
   |false=>rw[hb] at hv;cases hv
   |true=>
    rw[hb] at hv;simp only[aQ] at hv
    simp only[bW,Bool.or_eq_true] at hb
    obtain⟨⟨eM,cr⟩,nq⟩:=hb
    obtain⟨h1,e⟩:=rl (α:=Unit) hv
    obtain⟨a',k1,k2⟩:=fX ht ha
    obtain⟨l',k3,k4⟩:=DH ht hl
    obtain⟨u',k5,k6⟩:=DH ht hu
    obtain⟨m',k7,k8⟩:=DH ht hm
    obtain⟨v',g1,g2⟩:=zyo k2 k4 k6 k8 (by rcases eM with h|h;exact .inl (by simpa using h);exact .inr h) cr nq h1
    exact pure (o:=none) e g2 (by simp only[cV,k1,k3,k5,k7,g1,Option.map_some])
  cases hv
 ·split at hv
  ·rename_i p hp
   obtain⟨h1,e⟩:=rl (α:=Unit) hv
   obtain⟨p',k1,k2⟩:=fX ht hp
   obtain⟨v',g1,g2⟩:=zrd k2 h1
   exact pure (o:=none) e g2 (by simp only[cV,k1,g1,Option.map_some])
  cases hv
 ·split at hv
  ·rename_i p hp
   obtain⟨h1,e⟩:=rl (α:=Unit) hv
   obtain⟨p',k1,k2⟩:=fX ht hp
   obtain⟨v',g1,g2⟩:=z3m k2 h1
   exact pure (o:=none) e g2 (by simp only[cV,k1,g1,Option.map_some])
  cases hv
 ·split at hv
  ·rename_i a b ha hb
   obtain⟨h1,e⟩:=rl (α:=Unit) hv
   obtain⟨a',k1,k2⟩:=fX ht ha
   obtain⟨b',k3,k4⟩:=fX ht hb
   obtain⟨v',g1,g2⟩:=zri k2 k4 h1
   exact pure (o:=none) e g2 (by simp only[cV,k1,k3,g1,Option.map_some])
  cases hv
 ·split at hv
  ·rename_i a b ha hb
   obtain⟨h1,e⟩:=rl (α:=Unit) hv
   obtain⟨a',k1,k2⟩:=fX ht ha
   obtain⟨b',k3,k4⟩:=fX ht hb
   obtain⟨v',g1,g2⟩:=z3d k2 k4 h1
   exact pure (o:=none) e g2 (by simp only[cV,k1,k3,g1,Option.map_some])
  cases hv
 ·split at hv
  ·rename_i a b ha hb
   obtain⟨h1,e⟩:=rl (α:=Unit) hv
   obtain⟨a',k1,k2⟩:=fX ht ha
   obtain⟨b',k3,k4⟩:=fX ht hb
   obtain⟨v',g1,g2⟩:=zyk s k2 k4 h1
   exact pure (o:=none) e (.fr _ _ g2) (by simp only[cV,k1,k3,g1,Option.map_some])
  cases hv
 ·split at hv
  ·rename_i a b c ha hb hc
   obtain⟨cI,h1,h2⟩:=er hv
   simp only[bO] at h2;obtain⟨rfl,rfl⟩:=h2
   obtain⟨a',k1,k2⟩:=fX ht ha
   obtain⟨b',k3,k4⟩:=fX ht hb
   obtain⟨c',k5,k6⟩:=fX ht hc
   obtain⟨h',g1,g2⟩:=zkt s k2 k4 k6 h1
   exact⟨_,h',by simp only[cV,k1,k3,k5,g1,Option.map_some],g2⟩
  cases hv
 ·split at hv
  ·rename_i a b c ha hb hc
   obtain⟨cI,h1,h2⟩:=er hv
   simp only[bO] at h2;obtain⟨rfl,rfl⟩:=h2
   obtain⟨a',k1,k2⟩:=fX ht ha
   obtain⟨b',k3,k4⟩:=fX ht hb
   obtain⟨c',k5,k6⟩:=fX ht hc
   obtain⟨h',g1,g2⟩:=zkt s k2 k4 k6 h1
   exact⟨_,h',by simp only[cV,k1,k3,k5,g1,Option.map_some],g2⟩
  cases hv
 ·split at hv
  ·rename_i p hp
   obtain⟨h1,e⟩:=rl (α:=Unit) hv
   obtain⟨p',k1,k2⟩:=fX ht hp
   obtain⟨v',g1,g2⟩:=zvm k2 h1
   exact pure (o:=none) e g2 (by simp only[cV,k1,g1,Option.map_some])
  cases hv
 ·split at hv
  ·rename_i l hl
   obtain⟨l',k1,k2⟩:=BY ht hl
   obtain⟨v',h',g1,g2⟩:=zt9 s k2 hv
   exact⟨v',h',by simp only[cV,k1,g1],g2⟩
  cases hv
 cases hv
end
def e9 (g:Fz)(σ:Sg)(vh:af)(h:ai)(g':Fz):Prop:=∀o x,g' o=some x→o<h.next→g o=some x∨∃i y,vh.get i=some y∧y.live=true∧(σ i).1=o
abbrev kU:=Exit→bf→af→Prop
structure eS (N b lo:Nat) (g:Fz) (σ:Sg) (vh:af) (h:ai) (bo:aL) (h':ai) (g':Fz) (aU:Sg) (aY:bf) (aq:af):Prop where
  t:VT g' aU aq.next aY bo
  len:bo.length=N
  s:VS lo g' aU aq h'
  le:g.le g'
  agree:∀i,i<b→aU i=σ i
  f:VF σ vh h aU aq h'
  base:b≤aq.next
  own:e9 g σ vh h g'
def r8 (N b lo:Nat)(g:Fz)(σ:Sg)(vh:af)(h:ai)(K:bf→af→Prop)(bo:aL)(h':ai):Prop:=
 ∃g' aU aY aq,eS N b lo g σ vh h bo h' g' aU aY aq∧K aY aq
def VW (P:Program)(N b:Nat)(c:Code)(Q:kU)(ah:bf)(vh:af):Prop:=
 ∀lo g σ h ts,VT g σ vh.next ah ts→ts.length=N→VS lo g σ vh h→b≤vh.next→AW P lo c (fun e=>r8 N b lo g σ vh h (Q e)) ts h
def oh (P:Program)(N b:Nat)(o:Oper)(next:bf→af→Prop)(ah:bf)(vh:af):Prop:=
 ∀lo g σ h ts,VT g σ vh.next ah ts→ts.length=N→VS lo g σ vh h→b≤vh.next→sV P lo o ts h (r8 N b lo g σ vh h next)
def eN (P:Program)(f:FuncId)(args:List PV)(vh:af)(R:PV→af→Prop):Prop:=
 ∀lo g σ h aH,bp (VR g σ vh.next) args aH→VS lo g σ vh h→qv P lo f aH h fun r h'=>∃g' aU v aq,VR g' aU aq.next v r∧VS lo g' aU aq h'∧g.le g'∧(∀i,i<vh.next→aU i=σ i)∧VF σ vh h aU aq h'∧vh.next≤aq.next∧
  e9 g σ vh h g'∧R v aq
section
variable {P:Program} {N b:Nat} {Q Q':kU} {ah:bf} {vh:af}
theorem e9.refl (g:Fz)(σ:Sg)(vh:af)(h:ai):e9 g σ vh h g:=fun o x hx _=>.inl hx
theorem e9.trans {g g1 g2:Fz}{σ s6:Sg}{vh cI:af}{h h1:ai}(a:e9 g σ vh h g1)(f:VF σ vh h s6 cI h1)(c:e9 g1 s6 cI h1 g2):e9 g σ vh h g2:=fun o x hx ho=>by
 rcases c o x hx (Nat.lt_of_lt_of_le ho f.next) with h|⟨i,y,h1,h2,h3⟩
 ·exact a o x h ho
 obtain⟨j,z,k1,k2,k3⟩:=f.own i y h1 h2 (h3▸ho)
 exact .inr ⟨j,z,k1,k2,k3.trans h3⟩
theorem eS.refl {lo:Nat}{g:Fz}{σ:Sg}{h:ai}{ts:aL}(ht:VT g σ vh.next ah ts)(hn:ts.length=N)(s:VS lo g σ vh h)(hb:b≤vh.next):eS N b lo g σ vh h ts h g σ ah vh:=
 ⟨ht,hn,s,Fz.le_refl g,fun _ _=>rfl,VF.refl _ _ _,hb,e9.refl _ _ _ _⟩
theorem eS.trans {lo:Nat}{g g1 g2:Fz}{σ s6 eG:Sg}{cI aZ:af}{h h1 h2:ai}{mC pY:aL}{kv aF:bf}(a:eS N b lo g σ vh h mC h1 g1 s6 kv cI)(c:eS N b lo g1 s6 cI h1 pY h2 g2 eG aF aZ):eS N b lo g σ vh h pY h2 g2 eG aF aZ:=
 ⟨c.t,c.len,c.s,Fz.le_trans a.le c.le,fun i hi=>(c.agree i hi).trans (a.agree i hi),a.f.trans c.f,c.base,a.own.trans a.f c.own⟩
theorem r8.mono {lo:Nat}{g:Fz}{σ:Sg}{h:ai}{K K':bf→af→Prop}{bo:aL}{h':ai}(hk:∀ah vh,K ah vh→K' ah vh):r8 N b lo g σ vh h K bo h'→r8 N b lo g σ vh h K' bo h':=
 fun⟨g',aU,aY,aq,a,k⟩=>⟨g',aU,aY,aq,a,hk _ _ k⟩
theorem r8.trans {lo:Nat}{g g1:Fz}{σ s6:Sg}{cI:af}{h h1:ai}{mC pY:aL}{kv:bf}{K:bf→af→Prop}{h2:ai}(a:eS N b lo g σ vh h mC h1 g1 s6 kv cI):r8 N b lo g1 s6 cI h1 K pY h2→r8 N b lo g σ vh h K pY h2:=
 fun⟨g',aU,aY,aq,c,k⟩=>⟨g',aU,aY,aq,a.trans c,k⟩
theorem VW.mono {c:Code}(hc:VW P N b c Q ah vh)(hq:∀e ah vh,Q e ah vh→Q' e ah vh):VW P N b c Q' ah vh:=
 fun lo g σ h ts ht hn s hb=>(hc lo g σ h ts ht hn s hb).mono fun e ts h hs=>hs.mono (hq e)
theorem eN.mono {f:FuncId}{args:List PV}{R R':PV→af→Prop}(hc:eN P f args vh R)(hr:∀v vh,R v vh→R' v vh):eN P f args vh R':=
 fun lo g σ h aH ha s=>(hc lo g σ h aH ha s).mono fun r h' ⟨g',aU,v,aq,h1,h2,h3,h4,h5,h6,h7,h8⟩=>⟨g',aU,v,aq,h1,h2,h3,h4,h5,h6,h7,hr _ _ h8⟩
theorem VW.skip (hq:Q .normal ah vh):VW P N b .skip Q ah vh:=fun lo g σ h ts ht hn s hb=>.skip ⟨g,σ,ah,vh,.refl ht hn s hb,hq⟩
theorem VW.label {l:Nat}(hq:Q .normal ah vh):VW P N b (.label l) Q ah vh:=fun lo g σ h ts ht hn s hb=>.label ⟨g,σ,ah,vh,.refl ht hn s hb,hq⟩
theorem VW.exit {id:Nat}(hq:Q (.exit id) ah vh):VW P N b (.exit id) Q ah vh:=fun lo g σ h ts ht hn s hb=>.exit ⟨g,σ,ah,vh,.refl ht hn s hb,hq⟩
theorem VW.ret (hq:Q .ret ah vh):VW P N b .ret Q ah vh:=fun lo g σ h ts ht hn s hb=>.ret ⟨g,σ,ah,vh,.refl ht hn s hb,hq⟩
def C0 (next:bf→af→Prop)(Q:kU):kU
 |.normal=>next
 |e=>Q e
theorem VW.seq {x y:Code}(hx:VW P N b x (C0 (VW P N b y Q) Q) ah vh):VW P N b (.seq x y) Q ah vh:=fun lo g σ h ts ht hn s hb=>
 .seq ((hx lo g σ h ts ht hn s hb).mono fun e bo h' ⟨g',aU,aY,aq,a,k⟩=>by
  cases e with
  |normal=>exact(k lo g' aU h' bo a.t a.len a.s a.base).mono fun e2 pY h2 hs=>hs.trans a
  |exit id=>exact⟨g',aU,aY,aq,a,k⟩
  |goto l=>exact⟨g',aU,aY,aq,a,k⟩
  |ret=>exact⟨g',aU,aY,aq,a,k⟩
  |panic ch=>exact⟨g',aU,aY,aq,a,k⟩
  |outgrown=>exact⟨g',aU,aY,aq,a,k⟩)
theorem VW.cond {c:Operand}{x y:Code}{v:Bool}(hc:ct ah c=some (.bool v))(hb:VW P N b (if v then x else y) Q ah vh):VW P N b (.cond c x y) Q ah vh:=fun lo g σ h ts ht hn s xZ=>by
 obtain⟨v',k1,k2⟩:=fX ht hc
 have:=k2.aD rfl;cases this
 exact .cond k1 (hb lo g σ h ts ht hn s xZ)
theorem VW.dR {c:Operand}{x y:Code}(hc:ct ah c=some (.bool true))(hb:VW P N b x Q ah vh):VW P N b (.cond c x y) Q ah vh:=.cond hc hb
theorem VW.gI {c:Operand}{x y:Code}(hc:ct ah c=some (.bool false))(hb:VW P N b y Q ah vh):VW P N b (.cond c x y) Q ah vh:=.cond hc hb
def zwv (id:Nat)(Q:kU):kU
 |.exit BM=>if BM=id then Q .normal else Q (.exit BM)
 |e=>Q e
theorem VW.block {id:Nat}{c:Code}(hc:VW P N b c (zwv id Q) ah vh):VW P N b (.block id c) Q ah vh:=fun lo g σ h ts ht hn s hb=>
 .block ((hc lo g σ h ts ht hn s hb).mono fun e bo h' hs=>by
  cases e with
  |exit BM=>
   simp only[Mm,zwv] at hs ⊢
   by_cases hi:BM=id
   ·simp only[hi,if_true] at hs ⊢;exact hs
   simp only[hi,if_false] at hs ⊢;exact hs
  |normal=>exact hs
  |goto l=>exact hs
  |ret=>exact hs
  |panic ch=>exact hs
  |outgrown=>exact hs)
def xcd (Q:kU):kU
 |.goto _=>fun _ _=>False
 |e=>Q e
theorem VW.scope {c:Code}(hc:VW P N b c (xcd Q) ah vh):VW P N b (.scope c) Q ah vh:=fun lo g σ h ts ht hn s hb=>
 .scope ((hc lo g σ h ts ht hn s hb).mono fun e bo h' hs=>by
  cases e with
  |goto l=>obtain⟨_,_,_,_,_,k⟩:=hs;exact k.elim
  |exit id=>exact hs
  |normal=>exact hs
  |ret=>exact hs
  |panic ch=>exact hs
  |outgrown=>exact hs)
theorem VW.loop {c:Code}(I:Nat→bf→af→Prop)(m:Nat)(h0:I m ah vh)(round:∀m ah vh,I m ah vh→VW P N b c (C0 (fun aY aq=>∃m',m'<m∧I m' aY aq) Q) ah vh):VW P N b (.loop c) Q ah vh:=fun lo g σ h ts ht hn s hb=>by
 refine AW.loop (fun m bo h'=>∃g' aU aY aq,eS N b lo g σ vh h bo h' g' aU aY aq∧I m aY aq) m ⟨g,σ,ah,vh,.refl ht hn s hb,h0⟩ ?_
 rintro m bo h' ⟨g',aU,aY,aq,a,k⟩
 refine(round m aY aq k lo g' aU h' bo a.t a.len a.s a.base).mono fun e pY h2 hs=>?_
 cases e with
 |normal=>
  obtain⟨g2,eG,aF,aZ,c2,m',a8,k2⟩:=hs
  exact⟨m',a8,g2,eG,aF,aZ,a.trans c2,k2⟩
 |exit id=>exact hs.trans a
 |goto l=>exact hs.trans a
 |ret=>exact hs.trans a
 |panic ch=>exact hs.trans a
 |outgrown=>exact hs.trans a
def bA (ah:bf)(dst:Option Tmp)(v:PV):bf:=
 match dst with
 |some d=>(d,v)::ah
 |none=>ah
def jH (N:Nat)(dst:Option Tmp):Bool:=
 match dst with
 |some d=>Nat.blt d N
 |none=>true
theorem vt {g g':Fz}{σ aU:Sg}{n n':Nat}{ts:aL}{v:PV}{v':Value}(hle:g.le g')(hn:n≤n')(cW:∀i,i<n→aU i=σ i)(ht:VT g σ n ah ts)(dst:Option Tmp)(hd:jH ts.length dst=true)(hv:VR g' aU n' v v') :
  VT g' aU n' (bA ah dst v) (bN ts dst v')∧(bN ts dst v').length=ts.length:=by
 cases dst with
 |none=>exact⟨ht.mono hle hn cW,rfl⟩
 |some d=>
  have hd:d<ts.length:=by simpa[jH] using hd
  refine⟨fun t u hu=>?_,by simp[bN]⟩
  simp only[bA,bC,beq_eq] at hu
  by_cases KC:t=d
  ·subst KC
   simp at hu;subst hu
   rw[zop hd];exact hv
  simp[KC] at hu
  rw[U5 (fun h=>KC h.symm)]
  exact(ht t u hu).mono hle hn cW
theorem oh.op {o:Oper}{v:PV}{aq:af}{next:bf→af→Prop}(hv:dz P ah vh o.op=some (v,aq))(hd:jH N o.dst=true)(hn:next (bA ah o.dst v) aq):oh P N b o next ah vh:=fun lo g σ h ts ht hl s hb=>by
 obtain⟨v',h',k1,aU,k2,k3,k4,k5,k6⟩:=GL s ht hv
 obtain⟨g1,g2⟩:=vt (Fz.le_refl g) k5 k6 ht o.dst (hl▸hd) k2
 exact .op k1 ⟨g,aU,_,aq,⟨g1,g2.trans hl,k3,Fz.le_refl g,fun i hi=>k6 i (by omega),k4,by omega,e9.refl _ _ _ _⟩,hn⟩
theorem oh.call {o:Oper}{fo:Operand}{args:Array Operand}{aT:Array TypeId}{f:FuncId}{xs ys l:List PV}{next:bf→af→Prop}(ho:o.op=.call ⟨.value fo,args,aT⟩)
  (hf:ct ah fo=some (.func f xs ys)) (hl:gf ah args.toList=some l) (eD:∀cs w,(callFunc f cs).run P w=.ok (.enter f cs) w) (hd:jH N o.dst=true)
  (hc:eN P f (xs++l++ys) vh fun r aq=>next (bA ah o.dst r) aq):oh P N b o next ah vh:=fun lo g σ h ts ht hn s hb=>by
 obtain⟨f',k1,k2⟩:=fX ht hf
 obtain⟨l',k3,k4⟩:=BY ht hl
 have LA:∃bu eI:Array Value,f'=.func (.func f) bu eI∧bp (VR g σ vh.next) xs bu.toList∧bp (VR g σ vh.next) ys eI.toList:=by
  cases k2 with
  |fr _ _ h=>cases h with
   |func _ _ _ bu eI hx hy rx ry=>exact⟨bu,eI,rfl,⟨by simpa using hx,fun i v v' hv bg=>.fr _ _ (rx i v v' hv (by simpa using bg))⟩,⟨by simpa using hy,fun i v v' hv bg=>.fr _ _ (ry i v v' hv (by simpa using bg))⟩⟩
  |func _ _ _ bu eI hx hy rx ry=>exact⟨bu,eI,rfl,⟨by simpa using hx,fun i v v' hv bg=>rx i v v' hv (by simpa using bg)⟩,⟨by simpa using hy,fun i v v' hv bg=>ry i v v' hv (by simpa using bg)⟩⟩
 obtain⟨bu,eI,rfl,hx,hy⟩:=LA
 refine .O7 ho k1 k3 eD ((hc lo g σ h _ ((hx.append k4).append hy) s).mono fun r h' ⟨g',aU,v,aq,h1,h2,h3,h4,h5,h6,h7,h8⟩=>?_)
 obtain⟨g1,g2⟩:=vt h3 h6 h4 ht o.dst (hn▸hd) h1
 exact⟨g',aU,_,aq,⟨g1,g2.trans hn,h2,h3,fun i hi=>h4 i (by omega),h5,by omega,h7⟩,h8⟩
def lz (ops:Array Oper)(ah:bf)(j:Nat):Option PV:=
 match (ops[j]?).bind (·.dst) with
 |some d=>bC d ah
 |none=>none
def fQ (ops:Array Oper)(o:Oper)(ah:bf):Option Bool:=
 match o.guard with
 |none=>some true
 |some (j,want)=>match lz ops ah j with
  |some (.bool v)=>some (bif want then v else !v)
  |some (.bz [])=>some false
  |_=>none
theorem Et {g:Fz}{σ:Sg}{n:Nat}{ts:aL}{ops:Array Oper}{o:Oper}{w:Bool}(hd:∀d∈(ops.toList.filterMap (·.dst)),d<ts.length)(ht:VT g σ n ah ts)(hw:fQ ops o ah=some w):Region.wanted o (qa ops ts)=w:=by
 unfold fQ at hw
 unfold Region.wanted
 split at hw
 ·rename_i hg;injection hw with hw;subst hw;rw[hg]
 rename_i j want hg
 rw[hg]
 simp only
 unfold lz at hw
 cases hj:(ops[j]?).bind (·.dst) with
 |none=>rw[hj] at hw;simp at hw
 |some d=>
  rw[hj] at hw
  simp only at hw
  have a8:d<ts.length:=by
   refine hd d ?_
   cases ho:ops[j]? with
   |none=>rw[ho] at hj;cases hj
   |some oo=>
    rw[ho] at hj
    rw[List.mem_filterMap]
    exact⟨oo,by have:=Array.mem_of_getElem? ho;simpa using this,hj⟩
  have gN:ts[d]?=some (ts.getD d Go.undef):=by simp[List.getD,a8]
  unfold qa
  rw[hj]
  simp only[Option.bind_some]
  rw[gN]
  split at hw
  ·rename_i v hv
   injection hw with hw;subst hw
   have Ik:=(ht d _ hv).aD rfl
   generalize ts.getD d Go.undef=u at Ik
   cases Ik
   cases want<;>cases v<;>rfl
  ·rename_i hv
   injection hw with hw;subst hw
   have Ik:=ht d _ hv
   obtain⟨au,e,_⟩:=PG Ik
   rw[e];rfl
  cases hw
def cq (P:Program)(N b:Nat)(ops:Array Oper)(K:bf→af→Prop):List Nat→bf→af→Prop
 |[],ah,vh=>K ah vh
 |i::rest,ah,vh=>
  match ops[i]? with
  |none=>cq P N b ops K rest ah vh
  |some o=>match fQ ops o ah with
   |some true=>oh P N b o (cq P N b ops K rest) ah vh
   |some false=>jH N o.dst=true∧cq P N b ops K rest (bA ah o.dst (.bz [])) vh
   |none=>False
theorem On {ops:Array Oper}(hd:∀d∈(ops.toList.filterMap (·.dst)),d<N){K:bf→af→Prop}{lo:Nat}{g:Fz}{σ:Sg}{h:ai}:∀(l:List Nat) (bo:aL) (h':ai) (g':Fz) (aU:Sg) (aY:bf) (aq:af),eS N b lo g σ vh h bo h' g' aU aY aq→
  cq P N b ops K l aY aq→sW P lo ops (r8 N b lo g σ vh h K) l bo h'
 |[],bo,h',g',aU,aY,aq,a,k=>⟨g',aU,aY,aq,a,k⟩
 |i::rest,bo,h',g',aU,aY,aq,a,k=>by
  simp only[cq] at k
  simp only[sW]
  cases ho:ops[i]? with
  |none=>rw[ho] at k;exact On hd rest bo h' g' aU aY aq a k
  |some o=>
   rw[ho] at k
   simp only at k ⊢
   split at k
   ·rename_i hw
    rw[Et (a.len▸hd) a.t hw]
    simp only[if_true]
    exact(k lo g' aU h' bo a.t a.len a.s a.base).mono fun pY h2 ⟨g2,eG,aF,aZ,c,k2⟩=>On hd rest pY h2 g2 eG aF aZ (a.trans c) k2
   ·rename_i hw
    rw[Et (a.len▸hd) a.t hw]
    simp only[Bool.false_eq_true,if_false]
    obtain⟨g1,g2⟩:=vt (Fz.le_refl g') (Nat.le_refl _) (fun _ _=>rfl) a.t o.dst (a.len▸k.1) (.fr _ _ vX)
    exact On hd rest _ h' g' aU _ aq ⟨g1,g2.trans a.len,a.s,a.le,a.agree,a.f,a.base,a.own⟩ k.2
   exact k.elim
def Bn (N:Nat)(ops:Array Oper):Bool:=ops.toList.all fun o=>jH N o.dst
theorem TD {N:Nat}{ops:Array Oper}(h:Bn N ops=true):∀d∈(ops.toList.filterMap (·.dst)),d<N:=fun d hd=>by
 rw[List.mem_filterMap] at hd
 obtain⟨o,ho,hd⟩:=hd
 have:=(List.all_eq_true.1 h) o ho
 rw[hd] at this
 simpa[jH] using this
theorem VW.region {id:Nat}{ops:Array Oper}(hd:Bn N ops=true)(hk:cq P N b ops (Q .normal) (List.range ops.size) ah vh):VW P N b (.region id ops false) Q ah vh:=fun lo g σ h ts ht hn s hb=>
 .region (On (TD hd) _ ts h g σ ah vh (.refl ht hn s hb) hk)
def de (P:Program)(N:Nat)(ops:Array Oper):List Nat→bf→af→Option (bf×af)
 |[],ah,vh=>some (ah,vh)
 |i::r,ah,vh=>match ops[i]? with
  |none=>none
  |some o=>match fQ ops o ah with
   |some true=>match dz P ah vh o.op with
    |some (v,aq)=>de P N ops r (bA ah o.dst v) aq
    |none=>none
   |some false=>de P N ops r (bA ah o.dst (.bz [])) vh
   |none=>none
theorem cq.run {ops:Array Oper}(hd:Bn N ops=true){K:bf→af→Prop}:∀ {l r:List Nat} {ah aY:bf} {vh aq:af},de P N ops l ah vh=some (aY,aq)→cq P N b ops K r aY aq→cq P N b ops K (l++r) ah vh
 |[],r,ah,aY,vh,aq,hr,hk=>by
  simp only[de,aB,bO] at hr
  obtain⟨rfl,rfl⟩:=hr;exact hk
 |i::l,r,ah,aY,vh,aq,hr,hk=>by
  simp only[de] at hr
  simp only[List.cons_append,cq]
  cases ho:ops[i]? with
  |none=>rw[ho] at hr;cases hr
  |some o=>
   rw[ho] at hr
   simp only at hr ⊢
   have uX:jH N o.dst=true:=(List.all_eq_true.1 hd) o (by have:=Array.mem_of_getElem? ho;simpa using this)
   split at hr
   ·split at hr
    ·rename_i v cI hv
     exact .op hv uX (cq.run hd hr hk)
    cases hr
   ·exact⟨uX,cq.run hd hr hk⟩
   cases hr
theorem VW.run {id:Nat}{ops:Array Oper}{aY:bf}{aq:af}(hd:Bn N ops=true)(hr:de P N ops (List.range ops.size) ah vh=some (aY,aq))(hk:Q .normal aY aq):VW P N b (.region id ops false) Q ah vh:=
 .region hd (by have:=cq.run (b:=b) (K:=Q .normal) (r:=[]) hd hr hk;rwa [List.append_nil] at this)
def lA (P:Program)(ah:bf)(vh:af):ResultVar→Option PV
 |.tmp t=>bC t ah
 |.cell a t=>match bC a ah with
  |some p=>j9 P vh t p
  |none=>none
def iP (P:Program)(ah:bf)(vh:af):List ResultVar→Option (List PV)
 |[]=>some []
 |x::r=>match lA P ah vh x,iP P ah vh r with
  |some v,some l=>some (v::l)
  |_,_=>none
def jr (l:List PV):PV:=
 match l with
 |[v]=>v
 |l=>.bz l
theorem zm1 {lo:Nat}{g:Fz}{σ:Sg}{h:ai}{ts:aL}(ht:VT g σ vh.next ah ts)(s:VS lo g σ vh h):∀ {rs:List ResultVar} {l:List PV},iP P ah vh rs=some l→∃l',wu P ts h rs=some l'∧bp (VR g σ vh.next) l l'
 |[],l,hl=>by simp only[iP,aB] at hl;subst hl;exact⟨[],rfl,.nil⟩
 |x::r,l,hl=>by
  simp only[iP] at hl
  split at hl
  ·rename_i v l1 h1 h2
   injection hl with hl;subst hl
   obtain⟨l',k1,k2⟩:=zm1 ht s h2
   cases x with
   |tmp t=>exact⟨_::l',by simp only[wu,II,k1],.cons (ht t v h1) k2⟩
   |cell a t=>
    simp only[lA] at h1
    split at h1
    ·rename_i p hp
     obtain⟨v',g1,g2⟩:=Vh s (ht a p hp) h1
     exact⟨v'::l',by simp only[wu,II,g1,k1],.cons g2 k2⟩
    cases h1
  cases hl
theorem zvi {g:Fz}{σ:Sg}{n:Nat}{l:List PV}{l':List Value}(h:bp (VR g σ n) l l'):VR g σ n (jr l) (Ds l'):=by
 have LH:∀ {l:List PV} {l':List Value},bp (VR g σ n) l l'→VR g σ n (.bz l) (.tuple l'.toArray):=fun {l l'} h=>.bz _ _ (by simpa using h.1) fun i v v' hv bg=>h.2 i v v' hv (by simpa using bg)
 match l,l',h with
 |[],l',h=>rw[h.lV];exact LH .nil
 |[v],l',h=>
  obtain⟨v',r,rfl,h1,h2⟩:=h.eJ
  rw[h2.lV];exact h1
 |v::u::r,l',h=>
  obtain⟨v',r',rfl,h1,h2⟩:=h.eJ
  obtain⟨u',r2,rfl,h3,h4⟩:=h2.eJ
  exact LH (.cons h1 (.cons h3 h4))
def TE (P:Program)(fn:Func)(R:PV→af→Prop):kU
 |.normal,ah,vh=>∃l,iP P ah vh fn.results.toList=some l∧R (jr l) vh
 |.ret,ah,vh=>∃l,iP P ah vh fn.results.toList=some l∧R (jr l) vh
 |_,_,_=>False
def ja:Nat→List PV→bf
 |_,[]=>[]
 |n,v::r=>(n,v)::ja (n+1) r
theorem TF:∀(l:List PV) (n t:Nat),bC t (ja n l)=if n≤t then l[t - n]? else none
 |[],n,t=>by simp[ja,bC]
 |v::r,n,t=>by
  simp only[ja,bC,beq_eq,TF r (n+1) t]
  by_cases h:t=n
  ·subst h;simp
  by_cases h2:n≤t
  ·have h3:n+1≤t:=by omega
   have h4:t - n=(t - (n+1))+1:=by omega
   simp[h,h2,h3,h4]
  have h3:¬n+1≤t:=by omega
  simp[h,h2,h3]
theorem eN.bJ {f:FuncId}{fn:Func}{c:Code}{args:List PV}{R:PV→af→Prop}(hf:P.funcs[f]?=some fn)(hb:fn.body=some c)(hn:Nat.ble args.length fn.ntmps=true)
  (hc:VW P fn.ntmps vh.next c (TE P fn R) (ja 0 args) vh):eN P f args vh R:=fun lo g σ h aH ha s=>by
 have hn:args.length≤fn.ntmps:=by simpa using hn
 have hlen:(aH++List.replicate (fn.ntmps - aH.length) Go.undef).length=fn.ntmps:=by
  have:=ha.1;simp;omega
 have ht:VT g σ vh.next (ja 0 args) (aH++List.replicate (fn.ntmps - aH.length) Go.undef):=fun t v hv=>by
  rw[TF] at hv
  simp at hv
  obtain⟨v',h1,h2⟩:=ha.get hv
  have a8:t<aH.length:=by
   rcases Nat.lt_or_ge t aH.length with h|h
   ·exact h
   rw[List.getElem?_eq_none h] at h1;cases h1
  have:(aH++List.replicate (fn.ntmps - aH.length) Go.undef).getD t Go.undef=v':=by
   rw[List.getD,List.getElem?_append_left a8,h1];rfl
  rw[this];exact h2
 refine .bJ hf hb ((hc lo g σ h _ ht hlen s (Nat.le_refl _)).mono fun e bo h' ⟨g',aU,aY,aq,a,k⟩=>?_)
 have fin:(∃l,iP P aY aq fn.results.toList=some l∧R (jr l) aq)→∃l',wu P bo h' fn.results.toList=some l'∧∃g' aU v aq,VR g' aU aq.next v (Ds l')∧VS lo g' aU aq h'∧g.le g'∧(∀i,i<vh.next→aU i=σ i)∧VF σ vh h aU aq h'∧vh.next≤aq.next∧
   e9 g σ vh h g'∧R v aq:=fun⟨l,hl,hR⟩=>by
  obtain⟨l',k1,k2⟩:=zm1 a.t a.s hl
  exact⟨l',k1,g',aU,jr l,aq,zvi k2,a.s,a.le,a.agree,a.f,a.base,a.own,hR⟩
 cases e with
 |normal=>exact fin k
 |ret=>exact fin k
 |exit id=>exact k.elim
 |goto l=>exact k.elim
 |panic ch=>exact k.elim
 |outgrown=>exact k.elim
end
inductive Alt (vh:af) (n2:Nat) (D:Nat→Bool) (ρ:Nat→Nat):PV→PV→Prop where
  |same (v:PV) (h:v.aD=true):Alt vh n2 D ρ v v
  |ptr (i j off:Nat) (hj:j<n2) (hi:ρ j=i):Alt vh n2 D ρ (.ptr i off) (.ptr j off)
  |own (i j off len k:Nat) (hj:j<n2) (hi:ρ j=i):Alt vh n2 D ρ (.own i off len k) (.own j off len k)
  |sub (i j off len:Nat) (hj:j<n2) (hi:ρ j=i):Alt vh n2 D ρ (.sub i off len) (.sub j off len)
  |Av (i off:Nat):Alt vh n2 D ρ (.sub i off 0) (.vec [])
  |TG (i j off len k:Nat) (hj:j<n2) (hi:ρ j=i):Alt vh n2 D ρ (.own i off len k) (.sub j off len)
  |zi (i j n:Nat) (nl:Bool) (sz:Nat) (es:List PV) (hj:j<n2) (hi:ρ j=i) (hg:vh.get i=some (.grow sz es)) (hn:es.length=n) (h0:0<n):Alt vh n2 D ρ (.grow i n nl) (.sub j 0 n)
  |GM (i j n:Nat) (nl:Bool) (es:List PV) (hj:j<n2) (hi:ρ j=i) (hg:vh.get i=some (.b9 es)) (hn:es.length=n):Alt vh n2 D ρ (.grow i n nl) (.sub j 0 n)
  |grow (i j n:Nat) (nl:Bool) (hj:j<n2) (hi:ρ j=i):Alt vh n2 D ρ (.grow i n nl) (.grow j n nl)
  |a6 (i j:Nat) (hj:j<n2) (hi:ρ j=i):Alt vh n2 D ρ (.a6 i) (.a6 j)
  |cm (i j:Nat) (hj:j<n2) (hi:ρ j=i):Alt vh n2 D ρ (.cm i) (.cm j)
  |cC (i j:Nat) (nl:Bool):Alt vh n2 D ρ (.grow i 0 nl) (.grow j 0 nl)
  |aJ (j:Nat) (nl:Bool):Alt vh n2 D ρ .aJ (.grow j 0 nl)
  |e0 (j:Nat):Alt vh n2 D ρ .e0 (.grow j 0 false)
  |pH (i j off:Nat):Alt vh n2 D ρ (.own i off 0 0) (.grow j 0 false)
  |eH:Alt vh n2 D ρ .aJ (.vec [])
  |e0v:Alt vh n2 D ρ .e0 (.vec [])
  |Aw (i off k:Nat):Alt vh n2 D ρ (.own i off 0 k) (.vec [])
  |vv (i:Nat) (nl:Bool):Alt vh n2 D ρ (.grow i 0 nl) (.vec [])
  |GN (i:Nat):Alt vh n2 D ρ (.grow i 0 true) .aJ
  |ki (i off len k:Nat) (ag:Bool) (sz:Nat) (cs es:List PV) (hD:D i=true) (hg:vh.get i=some (.arr ag sz cs)) (he:gE vh sz (.own i off len k)=some es):Alt vh n2 D ρ (.own i off len k) (.vec es)
  |u5 (i off len:Nat) (ag:Bool) (sz:Nat) (cs es:List PV) (hD:D i=true) (hg:vh.get i=some (.arr ag sz cs)) (he:gE vh sz (.sub i off len)=some es):Alt vh n2 D ρ (.sub i off len) (.vec es)
  |b9 (i n:Nat) (nl:Bool) (sz:Nat) (es:List PV) (hD:D i=true) (hg:vh.get i=some (.grow sz es)) (hn:es.length=n):Alt vh n2 D ρ (.grow i n nl) (.vec es)
  |GO (i off:Nat) (cs:List PV) (hD:D i=true) (hg:vh.get i=some (.box cs)) (hf:PV.az cs=true) (hle:off≤cs.length):Alt vh n2 D ρ (.ptr i off) (.vp (cs.drop off))
  |Ax (i off:Nat) (ag:Bool) (sz:Nat) (cs:List PV) (hD:D i=true) (hg:vh.get i=some (.arr ag sz cs)) (hle:off≤cs.length):Alt vh n2 D ρ (.ptr i off) (.vp (cs.drop off))
  |eP (i:Nat) (es:List (PV×PV)) (hD:D i=true) (hg:vh.get i=some (.map es)):Alt vh n2 D ρ (.a6 i) (.aG es)
  |agg (cs pX:List PV) (hs:cs.length=pX.length) (r:∀(i:Nat) v v2,cs[i]?=some v→pX[i]?=some v2→Alt vh n2 D ρ v v2):Alt vh n2 D ρ (.agg cs) (.agg pX)
  |bz (cs pX:List PV) (hs:cs.length=pX.length) (r:∀(i:Nat) v v2,cs[i]?=some v→pX[i]?=some v2→Alt vh n2 D ρ v v2):Alt vh n2 D ρ (.bz cs) (.bz pX)
  |func (f:FuncId) (xs ys Oo Oq:List PV) (hx:xs.length=Oo.length) (hy:ys.length=Oq.length) (rx:∀(i:Nat) v v2,xs[i]?=some v→Oo[i]?=some v2→Alt vh n2 D ρ v v2)
      (ry:∀(i:Nat) v v2,ys[i]?=some v→Oq[i]?=some v2→Alt vh n2 D ρ v v2):Alt vh n2 D ρ (.func f xs ys) (.func f Oo Oq)
def aK (vh:af)(n2:Nat)(D:Nat→Bool)(ρ:Nat→Nat)(l l2:List PV):Prop:=l.length=l2.length∧∀(i:Nat) v v2,l[i]?=some v→l2[i]?=some v2→Alt vh n2 D ρ v v2
theorem aK.nil {vh:af}{n2:Nat}{D:Nat→Bool}{ρ:Nat→Nat}:aK vh n2 D ρ [] []:=⟨rfl,fun i v v2 h=>by simp at h⟩
theorem aK.cons {vh:af}{n2:Nat}{D:Nat→Bool}{ρ:Nat→Nat}{v v2:PV}{l l2:List PV}(h:Alt vh n2 D ρ v v2)(hl:aK vh n2 D ρ l l2):aK vh n2 D ρ (v::l) (v2::l2):=by
 refine⟨by simp[hl.1],fun i u u2 hu DZ=>?_⟩
 cases i with
 |zero=>simp at hu DZ;subst hu;subst DZ;exact h
 |succ i=>simp at hu DZ;exact hl.2 i u u2 hu DZ
theorem Alt.lW {vh:af}{n2:Nat}{D:Nat→Bool}{ρ:Nat→Nat}{l l2:List PV}(h:aK vh n2 D ρ l l2):Alt vh n2 D ρ (.agg l) (.agg l2):=.agg _ _ h.1 h.2
theorem Alt.GD {vh:af}{n2:Nat}{D:Nat→Bool}{ρ:Nat→Nat}{l l2:List PV}(h:aK vh n2 D ρ l l2):Alt vh n2 D ρ (.bz l) (.bz l2):=.bz _ _ h.1 h.2
theorem Alt.eO {vh:af}{n2:Nat}{D:Nat→Bool}{ρ:Nat→Nat}{f:FuncId}{l l2 r r2:List PV}(h:aK vh n2 D ρ l l2)(h':aK vh n2 D ρ r r2):Alt vh n2 D ρ (.func f l r) (.func f l2 r2):=.func _ _ _ _ _ h.1 h'.1 h.2 h'.2
noncomputable def Fz.more (g:Fz)(σ:Sg)(vh:af)(h:ai)(D:Nat→Bool):Fz:=fun o=>
 open Classical in if ∃i x,D i=true∧vh.get i=some x∧x.live=true∧(σ i).1=o then h.get o else g o
section
variable {lo:Nat} {g:Fz} {σ:Sg} {vh:af} {h:ai} {D:Nat→Bool} {ρ:Nat→Nat} {n2:Nat}
theorem xt (s:VS lo g σ vh h):g.le (g.more σ vh h D):=fun o x hx=>by
 unfold Fz.more
 split
 ·rename_i hc
  obtain⟨i,y,h1,h2,h3,h4⟩:=hc
  have:=s.l6 i y h2 h3
  rw[h4,hx] at this;cases this
 exact hx
theorem Il {i:Nat}{x:aO}(hD:D i=true)(hx:vh.get i=some x)(hl:x.live=true):g.more σ vh h D (σ i).1=h.get (σ i).1:=by
 unfold Fz.more
 rw[if_pos ⟨i,x,hD,hx,hl,rfl⟩]
theorem LI (s:VS lo g σ vh h):∀o x,g.more σ vh h D o=some x→h.get o=some x:=fun o x hx=>by
 unfold Fz.more at hx
 split at hx
 ·exact hx
 exact s.fz o x hx
theorem Ot:e9 g σ vh h (g.more σ vh h D):=fun o x hx _=>by
 unfold Fz.more at hx
 split at hx
 ·rename_i hc
  obtain⟨i,y,h1,h2,h3,h4⟩:=hc
  exact .inr ⟨i,y,h2,h3,h4⟩
 exact .inl hx
theorem Ou {v':Value}{f:FuncId}{xs ys:List PV}{n:Nat}(hv:VR g σ n (.func f xs ys) v'):∃bu eI:Array Value,v'=.func (.func f) bu eI∧bp (VR g σ n) xs bu.toList∧bp (VR g σ n) ys eI.toList:=by
 cases hv with
 |fr _ _ h=>cases h with
  |func _ _ _ bu eI hx hy rx ry=>exact⟨bu,eI,rfl,⟨by simpa using hx,fun i v v' hv bg=>.fr _ _ (rx i v v' hv (by simpa using bg))⟩,⟨by simpa using hy,fun i v v' hv bg=>.fr _ _ (ry i v v' hv (by simpa using bg))⟩⟩
 |func _ _ _ bu eI hx hy rx ry=>exact⟨bu,eI,rfl,⟨by simpa using hx,fun i v v' hv bg=>rx i v v' hv (by simpa using bg)⟩,⟨by simpa using hy,fun i v v' hv bg=>ry i v v' hv (by simpa using bg)⟩⟩
theorem LJ {R:PV→Value→Prop}{R2:PV→Value→Prop}{l l2:List PV}{l':List Value}(hp:bp R l l')(hs:l.length=l2.length)(ih:∀(i:Nat) v v2,l[i]?=some v→l2[i]?=some v2→∀v',R v v'→R2 v2 v'):bp R2 l2 l':=
 ⟨hs▸hp.1,fun i v2 v' eZ bg=>by
  have a8:i<l2.length:=by
   rcases Nat.lt_or_ge i l2.length with h|h
   ·exact h
   rw[List.getElem?_eq_none h] at eZ;cases eZ
  have we:i<l.length:=hs▸a8
  exact ih i l[i] v2 (by simp[we]) eZ v' (hp.2 i l[i] v' (by simp[we]) bg)⟩
theorem Alt.ok (s:VS lo g σ vh h){v v2:PV}(ha:Alt vh n2 D ρ v v2):∀v',VR g σ vh.next v v'→VR (g.more σ vh h D) (fun j=>σ (ρ j)) n2 v2 v':=by
 induction ha with
 |same v hf=>exact fun v' hv=>.fr _ _ ((hv.aD hf).mono (xt s))
 |ptr i j off hj hi=>
  intro v' hv
  cases hv with
  |fr _ _ h=>cases h
  |ptr _ _ o a k dB hs=>exact .ptr j off o a k hj (by rw[hi];exact hs)
 |own i j off len k hj hi=>
  intro v' hv
  cases hv with
  |fr _ _ h=>cases h
  |own _ _ _ _ o a kk dB hs hl hk=>exact .own j off len k o a kk hj (by rw[hi];exact hs) hl hk
 |sub i j off len hj hi=>
  intro v' hv
  cases hv with
  |fr _ _ h=>cases h
  |sub _ _ _ k o a kk dB hs hl hk=>exact .sub j off len k o a kk hj (by rw[hi];exact hs) hl hk
 |Av i off=>
  intro v' hv
  cases hv with
  |fr _ _ h=>cases h
  |sub=>exact .fr _ _ (.et _ _ _)
 |TG i j off len k hj hi=>
  intro v' hv
  cases hv with
  |fr _ _ h=>cases h
  |own _ _ _ _ o a kk dB hs hl hk=>exact .sub j off len k o a kk hj (by rw[hi];exact hs) hl (by simp only[aC] at hk;simp only[eU];omega)
 |zi i j n nl sz es hj hi hg hn h0=>
  intro v' hv
  obtain⟨_,_,q2,q3⟩:=(s.obj i _ hg).2
  cases hv with
  |fr _ _ h=>cases h
  |cB=>omega
  |cC=>omega
  |grow _ _ o a k _ dB hs oO=>
   have s8:es≠[]:=by rintro rfl;simp at hn;omega
   rcases q3 with rfl|⟨s0,au,_,q5,_,q6⟩
   ·exact absurd rfl s8
   rw[hs] at q5 q6;simp only at q5 q6
   subst q5
   have hk:n≤k∧k+n<eU:=by
    simp only[aC] at q2 q6;simp only[eU]
    rcases q6 with⟨h1,_⟩|h1<;>omega
   have:=VR.sub (g:=g.more σ vh h D) (σ:=fun j=>σ (ρ j)) (n:=n2) j 0 n k o 0 k hj (by rw[hi];exact hs) hk.1 hk.2
   simpa using this
 |GM i j n nl es hj hi hg hn=>
  intro v' hv
  obtain⟨q0,_,q2,s0,au,_,q5,_,q6⟩:=(s.obj i _ hg).2
  have h0:0<n:=by rw[← hn];exact List.length_pos_iff.2 q0
  cases hv with
  |fr _ _ h=>cases h
  |cB=>omega
  |cC=>omega
  |grow _ _ o a k _ dB hs oO=>
   rw[hs] at q5 q6;simp only at q5 q6
   subst q5
   have hk:n≤k∧k+n<eU:=by
    simp only[aC] at q2 q6;simp only[eU]
    rcases q6 with⟨h1,_⟩|h1<;>omega
   have:=VR.sub (g:=g.more σ vh h D) (σ:=fun j=>σ (ρ j)) (n:=n2) j 0 n k o 0 k hj (by rw[hi];exact hs) hk.1 hk.2
   simpa using this
 |grow i j n nl hj hi=>
  intro v' hv
  cases hv with
  |fr _ _ h=>cases h
  |cB=>exact .cB _ _
  |cC=>exact .cC _ _ _
  |grow _ _ o a k _ dB hs hn=>exact .grow j n o a k nl hj (by rw[hi];exact hs) hn
 |a6 i j hj hi=>
  intro v' hv
  cases hv with
  |fr _ _ h=>cases h
  |a6 _ o a k dB hs=>exact .a6 j o a k hj (by rw[hi];exact hs)
 |cm i j hj hi=>
  intro v' hv
  cases hv with
  |fr _ _ h=>cases h
  |cm _ o a k dB hs=>exact .cm j o a k hj (by rw[hi];exact hs)
 |cC i j nl=>
  intro v' hv
  cases hv with
  |fr _ _ h=>cases h
  |cB=>exact .cB _ _
  |cC=>exact .cC _ _ _
  |grow _ _ _ _ _ _ _ _ hn=>omega
 |aJ j nl=>intro v' hv;have:=hv.aD rfl;cases this;exact .cB _ _
 |e0 j=>
  intro v' hv
  have:=hv.aD rfl
  cases this with
  |xI=>exact .cB _ _
  |e0 o off=>exact .cC _ _ _
 |pH i j off=>
  intro v' hv
  cases hv with
  |fr _ _ h=>cases h
  |own=>exact .cC _ _ _
 |eH=>intro v' hv;have:=hv.aD rfl;cases this;exact .fr _ _ .ie
 |e0v=>
  intro v' hv
  have:=hv.aD rfl
  cases this with
  |xI=>exact .fr _ _ .ie
  |e0 o off=>exact .fr _ _ (.et _ _ _)
 |Aw i off k=>
  intro v' hv
  cases hv with
  |fr _ _ h=>cases h
  |own=>exact .fr _ _ (.et _ _ _)
 |vv i nl=>
  intro v' hv
  cases hv with
  |fr _ _ h=>cases h
  |cB=>exact .fr _ _ .ie
  |cC=>exact .fr _ _ (.et _ _ _)
  |grow _ _ _ _ _ _ _ _ hn=>omega
 |GN i=>
  intro v' hv
  cases hv with
  |fr _ _ h=>cases h
  |cB=>exact .fr _ _ .aJ
  |grow _ _ _ _ _ _ _ _ hn=>omega
 |ki i off len k ag sz cs es hD hg he=>
  intro v' hv
  have lL:=Il (g:=g) (σ:=σ) (h:=h) (D:=D) hD hg rfl
  obtain⟨h0,s0,au,h1,h2,h3⟩:=(s.obj i _ hg).2
  obtain⟨g1,g2,g3⟩:=Hp s h0 hv he
  obtain⟨bu,g4,g5⟩:=g3 es.length (Nat.le_refl _)
  rw[List.take_length] at g5
  have g5:=g5.mono fun _ _ h=>FR.mono (xt (D:=D) s) h
  cases hv with
  |fr _ _ h=>cases h
  |own _ _ _ _ o a kk hi hs hl hk=>
   rw[hs] at h1 h2 lL;simp only at h1 h2 lL;subst h2
   simp only[mO,aB] at g1
   subst g1
   by_cases hz:es.length=0
   ·have:=List.eq_nil_of_length_eq_zero hz
    subst this
    exact .fr _ _ (.et _ _ _)
   have hq:Nat.beq es.length 0=false:=by rw[beq_eq];simpa using hz
   simp only[sd,hq,bx,h1] at g4
   cases hb:Nat.ble (0+off+es.length*sz) au.length with
   |false=>rw[hb] at g4;cases g4
   |true=>
    rw[hb] at g4;simp only[aQ,aB] at g4
    have hb:0+off+es.length*sz≤au.length:=by simpa using hb
    subst g4
    have BS:=Jc g2 g5
    have eY:k+es.length<eU:=by
     have h1:k<4611686018427387904:=hk
     show k+es.length<9223372036854775808
     omega
    refine .fr _ _ (.vec es o (0+off) k s0 sz au hl eY (by rw[lL];exact h1) h0 (fun i e he=>g2 e (List.mem_of_getElem? he)) hb fun i e j v v' he hv bg=>BS i e j v v' he hv ?_)
    have hi:i<es.length:=by
     rcases Nat.lt_or_ge i es.length with h|h
     ·exact h
     rw[List.getElem?_eq_none h] at he;cases he
    have hj:j<sz:=by
     rw[← g2 e (List.mem_of_getElem? he)]
     rcases Nat.lt_or_ge j e.cells.length with h|h
     ·exact h
     rw[List.getElem?_eq_none h] at hv;cases hv
    have gP:i*sz+j<es.length*sz:=by
     have:i*sz+sz≤es.length*sz:=by rw[← Nat.succ_mul];exact Nat.mul_le_mul_right _ hi
     omega
    rw[List.getElem?_take,if_pos gP,List.getElem?_drop,show 0+off+(i*sz+j)=0+off+i*sz+j by omega]
    exact bg
 |u5 i off len ag sz cs es hD hg he=>
  intro v' hv
  have lL:=Il (g:=g) (σ:=σ) (h:=h) (D:=D) hD hg rfl
  obtain⟨h0,s0,au,h1,h2,h3⟩:=(s.obj i _ hg).2
  obtain⟨g1,g2,g3⟩:=Hp s h0 hv he
  obtain⟨bu,g4,g5⟩:=g3 es.length (Nat.le_refl _)
  rw[List.take_length] at g5
  have g5:=g5.mono fun _ _ h=>FR.mono (xt (D:=D) s) h
  cases hv with
  |fr _ _ h=>cases h
  |sub _ _ _ k o a kk hi hs hl hk=>
   rw[hs] at h1 h2 lL;simp only at h1 h2 lL;subst h2
   simp only[mO,aB] at g1
   subst g1
   by_cases hz:es.length=0
   ·have:=List.eq_nil_of_length_eq_zero hz
    subst this
    exact .fr _ _ (.et _ _ _)
   have hq:Nat.beq es.length 0=false:=by rw[beq_eq];simpa using hz
   simp only[sd,hq,bx,h1] at g4
   cases hb:Nat.ble (0+off+es.length*sz) au.length with
   |false=>rw[hb] at g4;cases g4
   |true=>
    rw[hb] at g4;simp only[aQ,aB] at g4
    have hb:0+off+es.length*sz≤au.length:=by simpa using hb
    subst g4
    have BS:=Jc g2 g5
    have eY:k+es.length<eU:=hk
    refine .fr _ _ (.vec es o (0+off) k s0 sz au hl eY (by rw[lL];exact h1) h0 (fun i e he=>g2 e (List.mem_of_getElem? he)) hb fun i e j v v' he hv bg=>BS i e j v v' he hv ?_)
    have hi:i<es.length:=by
     rcases Nat.lt_or_ge i es.length with h|h
     ·exact h
     rw[List.getElem?_eq_none h] at he;cases he
    have hj:j<sz:=by
     rw[← g2 e (List.mem_of_getElem? he)]
     rcases Nat.lt_or_ge j e.cells.length with h|h
     ·exact h
     rw[List.getElem?_eq_none h] at hv;cases hv
    have gP:i*sz+j<es.length*sz:=by
     have:i*sz+sz≤es.length*sz:=by rw[← Nat.succ_mul];exact Nat.mul_le_mul_right _ hi
     omega
    rw[List.getElem?_take,if_pos gP,List.getElem?_drop,show 0+off+(i*sz+j)=0+off+i*sz+j by omega]
    exact bg
 |b9 i n nl sz es hD hg hn=>
  intro v' hv
  subst hn
  obtain⟨h0,fx,dC,oy⟩:=(s.obj i _ hg).2
  by_cases hz:es=[]
  ·subst hz
   cases hv with
   |fr _ _ h=>cases h
   |cB=>exact .fr _ _ .ie
   |cC=>exact .fr _ _ (.et _ _ _)
   |grow _ _ _ _ _ _ _ _ hn=>simp at hn
  have ir:(aO.grow sz es).live=true:=by
   cases es with
   |nil=>exact absurd rfl hz
   |cons=>rfl
  have lL:=Il (g:=g) (σ:=σ) (h:=h) (D:=D) hD hg ir
  rcases oy with rfl|⟨s0,au,h1,h2,h3,h4⟩
  ·exact absurd rfl hz
  have h3:=h3.mono fun _ _ h=>FR.mono (xt (D:=D) s) h
  have hlen:0<es.length:=by
   cases es with
   |nil=>exact absurd rfl hz
   |cons=>simp
  generalize hm:es.length=m at hv
  cases hv with
  |fr _ _ h=>cases h
  |cB=>omega
  |cC=>omega
  |grow _ _ o a k _ hi hs hn=>
   subst hm
   rw[hs] at h1 h2 h4 lL;simp only at h1 h2 h4 lL;subst h2
   have mV:=DI fx
   have BS:=Jc fx h3
   have Cl:es.length<4611686018427387904:=dC
   have hk:es.length≤k∧k+es.length<eU:=by
    show es.length≤k∧k+es.length<9223372036854775808
    rcases h4 with⟨rfl,_⟩|rfl
    ·show es.length≤4611686018427387904∧4611686018427387904+es.length<9223372036854775808
     omega
    omega
   exact .fr _ _ (.vec es o 0 k s0 sz au hk.1 hk.2 (by rw[lL];exact h1) h0 (fun i e he=>fx e (List.mem_of_getElem? he)) (by rw[← mV,h3.1];omega) fun i e j v v' he hv bg=>BS i e j v v' he hv (by rw[Nat.zero_add] at bg;exact bg))
 |GO i off cs hD hg hf hle=>
  intro v' hv
  have lL:=Il (g:=g) (σ:=σ) (h:=h) (D:=D) hD hg rfl
  obtain⟨s0,au,h1,h2,h3⟩:=(s.obj i _ hg).2
  have h3:=(h3.aD hf).mono fun _ _ h=>FR.mono (xt (D:=D) s) h
  cases hv with
  |fr _ _ h=>cases h
  |ptr _ _ o a k hi hs=>
   rw[hs] at h1 h2 lL;simp only at h1 h2 lL;subst h2
   exact .fr _ _ (PH (by rw[lL];exact h1) (by rw[h3.1];omega) (fun j v v' hv bg=>h3.2 j v v' hv (by rw[Nat.zero_add] at bg;exact bg)) hle)
 |Ax i off ag sz cs hD hg hle=>
  intro v' hv
  have lL:=Il (g:=g) (σ:=σ) (h:=h) (D:=D) hD hg rfl
  obtain⟨h0,s0,au,h1,h2,h3⟩:=(s.obj i _ hg).2
  have h3:=h3.mono fun _ _ h=>FR.mono (xt (D:=D) s) h
  cases hv with
  |fr _ _ h=>cases h
  |ptr _ _ o a k hi hs=>
   rw[hs] at h1 h2 lL;simp only at h1 h2 lL;subst h2
   exact .fr _ _ (PH (by rw[lL];exact h1) (by rw[h3.1];omega) (fun j v v' hv bg=>h3.2 j v v' hv (by rw[Nat.zero_add] at bg;exact bg)) hle)
 |eP i es hD hg=>
  intro v' hv
  have lL:=Il (g:=g) (σ:=σ) (h:=h) (D:=D) hD hg rfl
  obtain⟨bs,h1,h2,h3,h4⟩:=(s.obj i _ hg).2
  have h3:=h3.mono fun _ _ h=>FR.mono (xt (D:=D) s) h
  have h4:=h4.mono fun _ _ h=>FR.mono (xt (D:=D) s) h
  cases hv with
  |fr _ _ h=>cases h
  |a6 _ o a k hi hs=>
   rw[hs] at h1 lL;simp only at h1 lL
   exact .fr _ _ (z5j h3 h4 (by rw[lL];exact h1))
 |agg cs pX hs _ ih=>
  intro v' hv
  obtain⟨au,rfl,hc⟩:=PF hv
  have:=Hm (LJ hc hs ih)
  simpa using this
 |bz cs pX hs _ ih=>
  intro v' hv
  obtain⟨au,rfl,hc⟩:=PG hv
  have:=LJ hc hs ih
  exact .bz _ _ (by simpa using this.1) fun i v v' hv bg=>this.2 i v v' hv (by simpa using bg)
 |func f xs ys Oo Oq hx hy _ _ ihx ihy=>
  intro v' hv
  obtain⟨bu,eI,rfl,h1,h2⟩:=Ou hv
  have k1:=LJ h1 hx ihx
  have k2:=LJ h2 hy ihy
  exact .func _ _ _ _ _ (by simpa using k1.1) (by simpa using k2.1) (fun i v v' hv bg=>k1.2 i v v' hv (by simpa using bg)) (fun i v v' hv bg=>k2.2 i v v' hv (by simpa using bg))
theorem aK.ok (s:VS lo g σ vh h){l l2:List PV}(ha:aK vh n2 D ρ l l2){l':List Value}(hl:bp (VR g σ vh.next) l l'):bp (VR (g.more σ vh h D) (fun j=>σ (ρ j)) n2) l2 l':=
 LJ hl ha.1 fun i v v2 hv eZ=>(ha.2 i v v2 hv eZ).ok s
def qP (ah:bf)(vh:af)(n2:Nat)(D:Nat→Bool)(ρ:Nat→Nat):bf→Prop
 |[]=>True
 |(t,v2)::r=>(∃v,bC t ah=some v∧Alt vh n2 D ρ v v2)∧qP ah vh n2 D ρ r
theorem qP.get {ah:bf}{vh:af}{n2:Nat}{D:Nat→Bool}{ρ:Nat→Nat}:∀ {aF:bf},qP ah vh n2 D ρ aF→∀t v2,bC t aF=some v2→∃v,bC t ah=some v∧Alt vh n2 D ρ v v2
 |[],_,t,v,h=>by simp[bC] at h
 |(u,w)::r,hs,t,v,h=>by
  simp only[bC,beq_eq] at h
  by_cases Eu:t=u
  ·subst Eu;simp at h;subst h;exact hs.1
  simp[Eu] at h;exact qP.get hs.2 t v h
theorem z5v {es:List PV}(h:∀e∈es,e.cells=[e]):es.flatMap PV.cells=es:=by
 induction es with
 |nil=>rfl
 |cons e r ih=>rw[List.flatMap_cons,h e (List.mem_cons_self ..),ih fun x hx=>h x (List.mem_cons_of_mem _ hx)];rfl
structure uc (vh:af) (n2:Nat) (D:Nat→Bool) (ρ:Nat→Nat) (N N2:Nat) (ps vw:Array Tmp) (a bd a2 LK:Code) (j j2:Option Code) (ah aF:bf):Prop where
  n:N=N2
  p:ps=vw
  a:a=a2
  b:bd=LK
  j:j=j2
  t:qP ah vh n2 D ρ aF
def oH (vh:af)(n2:Nat)(D:Nat→Bool)(ρ:Nat→Nat):aO→aO→Prop
 |.box cs,.box pX=>aK vh n2 D ρ cs pX
 |.loop N ps a bd ah j,.loop N2 vw a2 LK aF j2=>uc vh n2 D ρ N N2 ps vw a bd a2 LK j j2 ah aF
 |.grow sz es,.arr _ C4 cs=>sz=C4∧(∃e r,es=e::r)∧es.flatMap PV.cells=cs
 |.grow sz es,.b9 qo=>sz=1∧es=qo∧es≠[]∧∀e∈es,e.cells=[e]
 |.b9 es,.b9 qo=>aK vh n2 D ρ es qo∧∀e∈qo,e.cells=[e]
 |.b9 es,.box cs=>aK vh n2 D ρ es cs
 |.box cs,.arr _ sz pX=>0<sz∧aK vh n2 D ρ cs pX∧PV.az pX=true
 |.eP es,.eP qo=>es.map (·.1)=qo.map (·.1)∧aK vh n2 D ρ (es.map (·.2)) (qo.map (·.2))
 |x,y=>x=y
structure Ay (b:Nat) (D:Nat→Bool) (ρ:Nat→Nat) (ah:bf) (vh:af) (aF:bf) (aZ:af):Prop where
  tmps:∀t v2,bC t aF=some v2→∃v,bC t ah=some v∧Alt vh aZ.next D ρ v v2
  br:∀j y,aZ.get j=some y→j<aZ.next∧((∃sz,y=.grow sz []∧0<sz)∨D (ρ j)=false∧∃x,vh.get (ρ j)=some x∧oH vh aZ.next D ρ x y)
  inj:∀j k y z,aZ.get j=some y→aZ.get k=some z→y.live=true→z.live=true→ρ j=ρ k→j=k
  base:∀j,j<b→ρ j=j
  El:b≤aZ.next
theorem Ay.Ts {N b:Nat}{ah aF:bf}{aZ:af}{ts:aL}(a:Ay b D ρ ah vh aF aZ)(ht:VT g σ vh.next ah ts)(hn:ts.length=N)(s:VS lo g σ vh h) :
  eS N b lo g σ vh h ts h (g.more σ vh h D) (fun j=>σ (ρ j)) aF aZ:=by
 have live:∀j y,aZ.get j=some y→y.live=true→D (ρ j)=false∧∃x,vh.get (ρ j)=some x∧oH vh aZ.next D ρ x y∧x.live=true:=fun j y hy hl=>by
  rcases (a.br j y hy).2 with⟨sz,rfl,_⟩|⟨h1,x,h2,h3⟩
  ·cases hl
  refine⟨h1,x,h2,h3,?_⟩
  cases x with
  |box cs=>rfl
  |arr ag sz cs=>rfl
  |map es=>rfl
  |eP es=>rfl
  |emap es=>rfl
  |b9 es=>rfl
  |loop=>rfl
  |grow sz es=>
   cases y with
   |arr ag C4 cs=>
    obtain⟨_,⟨e,r,rfl⟩,_⟩:=(h3:sz=C4∧(∃e r,es=e::r)∧es.flatMap PV.cells=cs)
    rfl
   |b9 qo=>
    obtain⟨_,_,h0,_⟩:=(h3:sz=1∧es=qo∧es≠[]∧∀e∈es,e.cells=[e])
    cases es with
    |nil=>exact absurd rfl h0
    |cons=>rfl
   |box=>cases h3
   |map=>cases h3
   |emap=>cases h3
   |eP=>cases h3
   |loop=>cases h3
   |grow C4 qo=>
    have h3:aO.grow sz es=aO.grow C4 qo:=h3
    rw[h3];exact hl
 refine⟨fun t v2 eZ=>?_,hn,⟨fun j y hy=>?_,fun j k y z hy hz kJ cz he=>?_,fun j y hy hl=>?_,LI s,fun j y hy hl=>?_,s.bX⟩,xt s,fun i hi=>by simp only[a.base i hi],⟨Nat.le_refl _,fun _ _ _=>rfl,fun j y hy hl _=>?_⟩,a.El,Ot⟩
 ·obtain⟨v,h1,h2⟩:=a.tmps t v2 eZ
  exact h2.ok s _ (ht t v h1)
 ·obtain⟨hj,h1⟩:=a.br j y hy
  refine⟨hj,?_⟩
  rcases h1 with⟨sz,rfl,dU⟩|⟨h1,x,h2,h3⟩
  ·exact⟨dU,by simp,by decide,.inl rfl⟩
  have hx:=(s.obj (ρ j) x h2).2
  have hle:=xt (D:=D) s
  cases x with
  |box cs=>
   cases y with
   |box pX=>
    obtain⟨s0,au,k1,k2,k3⟩:=hx
    exact⟨s0,au,k1,k2,aK.ok s h3 k3⟩
   |arr ag sz pX=>
    obtain⟨e0,e1,e2⟩:=(h3:0<sz∧aK vh aZ.next D ρ cs pX∧PV.az pX=true)
    obtain⟨s0,au,k1,k2,k3⟩:=hx
    exact⟨e0,s0,au,k1,k2,(aK.ok s e1 k3).aD e2⟩
   |b9=>cases h3
   |grow=>cases h3
   |map=>cases h3
   |emap=>cases h3
   |eP=>cases h3
   |loop=>cases h3
  |arr ag sz cs=>
   have h3:aO.arr ag sz cs=y:=h3
   subst h3
   obtain⟨h0,s0,au,k1,k2,k3⟩:=hx
   exact⟨h0,s0,au,k1,k2,k3.mono fun _ _ h=>h.mono hle⟩
  |grow sz es=>
   cases y with
   |arr ag C4 cs=>
    obtain⟨rfl,⟨e,r,rfl⟩,rfl⟩:=(h3:sz=C4∧(∃e r,es=e::r)∧es.flatMap PV.cells=cs)
    obtain⟨h0,h1,h2,oy⟩:=hx
    rcases oy with h4|⟨s0,au,k1,k2,k3,k4⟩
    ·cases h4
    exact⟨h0,s0,au,k1,k2,k3.mono fun _ _ h=>h.mono hle⟩
   |b9 qo=>
    obtain⟨rfl,rfl,e1,e2⟩:=(h3:sz=1∧es=qo∧es≠[]∧∀e∈es,e.cells=[e])
    obtain⟨h0,h1,h2,oy⟩:=hx
    rcases oy with h4|⟨s0,au,k1,k2,k3,k4⟩
    ·exact absurd h4 e1
    exact⟨e1,e2,h2,s0,au,k1,k2,((z5v e2▸k3:bp (FR g) es au).mono fun _ _ h=>h.mono hle).vr,k4⟩
   |box=>cases h3
   |map=>cases h3
   |emap=>cases h3
   |eP=>cases h3
   |loop=>cases h3
   |grow C4 qo=>
   have h3:aO.grow sz es=aO.grow C4 qo:=h3
   injection h3 with h3 h4
   subst h3;subst h4
   obtain⟨h0,h1,h2,oy⟩:=hx
   exact⟨h0,h1,h2,oy.imp_right fun⟨s0,au,k1,k2,k3,k4⟩=>⟨s0,au,k1,k2,k3.mono fun _ _ h=>h.mono hle,k4⟩⟩
  |b9 es=>
   obtain⟨h0,h1,h2,s0,au,k1,k2,k3,k4⟩:=hx
   cases y with
   |b9 qo=>
    obtain⟨e1,e2⟩:=(h3:aK vh aZ.next D ρ es qo∧∀e∈qo,e.cells=[e])
    have hl:qo.length=es.length:=e1.1.symm
    exact⟨fun h=>h0 (List.eq_nil_of_length_eq_zero (by rw[← hl,h];rfl)),e2,by rw[hl];exact h2,s0,au,k1,k2,aK.ok s e1 k3,by rw[hl];exact k4⟩
   |box cs=>
    exact⟨s0,au,k1,k2,aK.ok s (h3:aK vh aZ.next D ρ es cs) k3⟩
   |arr=>cases h3
   |grow=>cases h3
   |map=>cases h3
   |emap=>cases h3
   |eP=>cases h3
   |loop=>cases h3
  |map es=>
   have h3:aO.map es=y:=h3
   subst h3
   obtain⟨bs,k1,k2,k3,k4⟩:=hx
   exact⟨bs,k1,k2,k3.mono fun _ _ h=>h.mono hle,k4.mono fun _ _ h=>h.mono hle⟩
  |emap es k born=>
   have h3:aO.emap es k born=y:=h3
   subst h3
   obtain⟨bs,k1,k2,k3,k4⟩:=hx
   exact⟨bs,k1,k2,k3.mono fun _ _ h=>h.mono hle,k4.mono fun _ _ h=>h.mono hle⟩
  |eP es=>
   cases y with
   |eP qo=>
    obtain⟨e1,e2⟩:=(h3:es.map (·.1)=qo.map (·.1)∧aK vh aZ.next D ρ (es.map (·.2)) (qo.map (·.2)))
    obtain⟨bs,k1,k2,k3,k4⟩:=hx
    exact⟨bs,k1,k2,e1▸k3.mono fun _ _ h=>h.mono hle,aK.ok s e2 k4⟩
   |box=>cases h3
   |arr=>cases h3
   |grow=>cases h3
   |map=>cases h3
   |emap=>cases h3
   |b9=>cases h3
   |loop=>cases h3
  |loop N ps a bd ah jump=>
   cases y with
   |loop N2 vw a2 LK aF j2=>
    obtain⟨rfl,rfl,rfl,rfl,rfl,h6⟩:=(h3:uc vh aZ.next D ρ N N2 ps vw a bd a2 LK jump j2 ah aF)
    obtain⟨L,k1,k2,k3,k4,k5,k6⟩:=hx
    refine⟨L,k1,k2,k3,k4,k5,fun t v2 eZ=>?_⟩
    obtain⟨v,q1,q2⟩:=qP.get h6 t v2 eZ
    exact q2.ok s _ (k6 t v q1)
   |box=>cases h3
   |arr=>cases h3
   |grow=>cases h3
   |map=>cases h3
   |emap=>cases h3
   |b9=>cases h3
   |eP=>cases h3
 ·obtain⟨_,x,h1,_,h2⟩:=live j y hy kJ
  obtain⟨_,x',rp,_,IA⟩:=live k z hz cz
  exact a.inj j k y z hy hz kJ cz (s.inj _ _ x x' h1 rp h2 IA he)
 ·obtain⟨_,x,h1,_,h2⟩:=live j y hy hl
  exact s.low _ x h1 h2
 ·obtain⟨hD,x,h1,_,h2⟩:=live j y hy hl
  unfold Fz.more
  rw[if_neg]
  ·exact s.l6 _ x h1 h2
  rintro⟨i,z,k1,k2,k3,k4⟩
  have:=s.inj i (ρ j) z x k2 h1 k3 h2 k4
  subst this
  rw[hD] at k1;cases k1
 obtain⟨_,x,h1,_,h2⟩:=live j y hy hl
 exact⟨ρ j,x,h1,h2,rfl⟩
end
section
variable {P:Program} {N b:Nat} {Q:kU} {ah aF:bf} {vh aZ:af}
theorem VW.xfz {c:Code}(D:Nat→Bool)(ρ:Nat→Nat)(a:Ay b D ρ ah vh aF aZ)(hc:VW P N b c Q aF aZ):VW P N b c Q ah vh:=fun lo g σ h ts ht hn s hb=>by
 have:=a.Ts ht hn s
 exact(hc lo _ _ h ts this.t this.len this.s this.base).mono fun e bo h' hs=>hs.trans this
theorem cq.zx8 {o:Oper}{next:bf→af→Prop}(D:Nat→Bool)(ρ:Nat→Nat)(a:Ay b D ρ ah vh aF aZ)(hc:oh P N b o next aF aZ):oh P N b o next ah vh:=fun lo g σ h ts ht hn s hb=>by
 have:=a.Ts ht hn s
 exact(hc lo _ _ h ts this.t this.len this.s this.base).mono fun bo h' hs=>hs.trans this
mutual
def bI (vh:af):PV→Option PV
 |.func f xs ys=>match bG vh xs,bG vh ys with
  |some a,some b=>some (.func f a b)
  |_,_=>none
 |.agg cs=>(bG vh cs).map .agg
 |.bz cs=>(bG vh cs).map .bz
 |.ptr i off=>match vh.get i with
  |some (.box cs)=>bif PV.az cs&&Nat.ble off cs.length then some (.vp (cs.drop off)) else none
  |some (.arr _ _ cs)=>bif Nat.ble off cs.length then some (.vp (cs.drop off)) else none
  |_=>none
 |.own i off len k=>bif Nat.beq len 0 then some (.vec []) else match vh.get i with
  |some (.arr _ sz _)=>(gE vh sz (.own i off len k)).map .vec
  |_=>none
 |.sub i off len=>bif Nat.beq len 0 then some (.vec []) else match vh.get i with
  |some (.arr _ sz _)=>(gE vh sz (.sub i off len)).map .vec
  |_=>none
 |.grow i n nl=>match vh.get i with
  |some (.grow _ es)=>bif Nat.beq es.length n then some (.vec es) else none
  |_=>bif Nat.beq n 0 then some (.vec []) else none
 |.iface t v=>bif v.aD then some (.iface t v) else none
 |.a6 i=>match vh.get i with
  |some (.map es)=>some (.aG es)
  |_=>none
 |.cm _=>none
 |v=>some v
def bG (vh:af):List PV→Option (List PV)
 |[]=>some []
 |v::r=>match bI vh v,bG vh r with
  |some a,some l=>some (a::l)
  |_,_=>none
end
mutual
theorem z0b (vh:af):∀(v v2:PV),bI vh v=some v2→Alt vh 0 (fun _=>true) id v v2
 |.func f xs ys,v2,h=>by
  simp only[bI] at h
  split at h
  ·rename_i a c h1 h2
   injection h with h;subst h
   exact .eO (Im vh xs a h1) (Im vh ys c h2)
  cases h
 |.agg cs,v2,h=>by
  simp only[bI] at h
  obtain⟨l,h1,rfl⟩:=er h
  exact .lW (Im vh cs l h1)
 |.bz cs,v2,h=>by
  simp only[bI] at h
  obtain⟨l,h1,rfl⟩:=er h
  exact .GD (Im vh cs l h1)
 |.ptr i off,v2,h=>by
  simp only[bI] at h
  split at h
  ·rename_i cs hg
   cases hb:(PV.az cs&&Nat.ble off cs.length) with
   |false=>rw[hb] at h;cases h
   |true=>
    rw[hb] at h;simp only[aQ,aB] at h;subst h
    simp only[bW,Nat.ble_eq] at hb
    exact .GO i off cs rfl hg hb.1 hb.2
  ·rename_i ag sz cs hg
   cases hb:Nat.ble off cs.length with
   |false=>rw[hb] at h;cases h
   |true=>
    rw[hb] at h;simp only[aQ,aB] at h;subst h
    exact .Ax i off ag sz cs rfl hg (by simpa using hb)
  cases h
 |.own i off len k,v2,h=>by
  simp only[bI] at h
  rcases ng len 0 with⟨hq,cG⟩|⟨hq,cG⟩
  ·rw[hq] at h;simp only[aQ,aB] at h;subst h;subst cG;exact .Aw i off k
  rw[hq] at h;simp only[bx] at h
  split at h
  ·rename_i ag sz cs hg
   obtain⟨es,h1,rfl⟩:=er h
   exact .ki i off len k ag sz cs es rfl hg h1
  cases h
 |.sub i off len,v2,h=>by
  simp only[bI] at h
  rcases ng len 0 with⟨hq,cG⟩|⟨hq,cG⟩
  ·rw[hq] at h;simp only[aQ,aB] at h;subst h;subst cG;exact .Av i off
  rw[hq] at h;simp only[bx] at h
  split at h
  ·rename_i ag sz cs hg
   obtain⟨es,h1,rfl⟩:=er h
   exact .u5 i off len ag sz cs es rfl hg h1
  cases h
 |.grow i n nl,v2,h=>by
  simp only[bI] at h
  split at h
  ·rename_i sz es hg
   rcases ng es.length n with⟨hq,cG⟩|⟨hq,cG⟩
   ·rw[hq] at h;simp only[aQ,aB] at h;subst h;exact .b9 i n nl sz es rfl hg cG
   rw[hq] at h;cases h
  rcases ng n 0 with⟨hq,cG⟩|⟨hq,cG⟩
  ·rw[hq] at h;simp only[aQ,aB] at h;subst h;subst cG;exact .vv i nl
  rw[hq] at h;cases h
 |.iface t v,v2,h=>by
  simp only[bI] at h
  cases hf:v.aD with
  |false=>rw[hf] at h;cases h
  |true=>rw[hf] at h;simp only[aQ,aB] at h;subst h;exact .same _ (by simp only[PV.aD];exact hf)
 |.a6 i,v2,h=>by
  simp only[bI] at h
  split at h
  ·rename_i es hg
   injection h with h;subst h;exact .eP i es rfl hg
  cases h
 |.aG es,v2,h=>by simp only[bI,aB] at h;subst h;exact .same _ rfl
 |.cm _,v2,h=>by simp[bI] at h
 |.bool b,v2,h=>by simp only[bI,aB] at h;subst h;exact .same _ rfl
 |.int k n,v2,h=>by simp only[bI,aB] at h;subst h;exact .same _ rfl
 |.str s,v2,h=>by simp only[bI,aB] at h;subst h;exact .same _ rfl
 |.nilFunc,v2,h=>by simp only[bI,aB] at h;subst h;exact .same _ rfl
 |.nilIface,v2,h=>by simp only[bI,aB] at h;subst h;exact .same _ rfl
 |.gD,v2,h=>by simp only[bI,aB] at h;subst h;exact .same _ rfl
 |.aJ,v2,h=>by simp only[bI,aB] at h;subst h;exact .same _ rfl
 |.eE,v2,h=>by simp only[bI,aB] at h;subst h;exact .same _ rfl
 |.e0,v2,h=>by simp only[bI,aB] at h;subst h;exact .same _ rfl
 |.vec es,v2,h=>by simp only[bI,aB] at h;subst h;exact .same _ rfl
 |.vp cs,v2,h=>by simp only[bI,aB] at h;subst h;exact .same _ rfl
theorem Im (vh:af):∀(l l2:List PV),bG vh l=some l2→aK vh 0 (fun _=>true) id l l2
 |[],l2,h=>by simp only[bG,aB] at h;subst h;exact .nil
 |v::r,l2,h=>by
  simp only[bG] at h
  split at h
  ·rename_i a l h1 h2
   injection h with h;subst h
   exact .cons (z0b vh v a h1) (Im vh r l h2)
  cases h
end
mutual
theorem zzm (vh:af):∀(v v2:PV),bI vh v=some v2→v2.aD=true
 |.func f xs ys,v2,h=>by
  simp only[bI] at h
  split at h
  ·rename_i a c h1 h2
   injection h with h;subst h
   rw[PV.U7,GP vh xs a h1,GP vh ys c h2];rfl
  cases h
 |.agg cs,v2,h=>by
  simp only[bI] at h
  obtain⟨l,h1,rfl⟩:=er h
  rw[PV.Pz];exact GP vh cs l h1
 |.bz cs,v2,h=>by
  simp only[bI] at h
  obtain⟨l,h1,rfl⟩:=er h
  rw[PV.U8];exact GP vh cs l h1
 |.ptr i off,v2,h=>by
  simp only[bI] at h
  split at h
  ·cases hb:(PV.az _&&Nat.ble off _) with
   |false=>rw[hb] at h;cases h
   |true=>rw[hb] at h;simp only[aQ,aB] at h;subst h;simp[PV.aD]
  ·cases hb:Nat.ble off _ with
   |false=>rw[hb] at h;cases h
   |true=>rw[hb] at h;simp only[aQ,aB] at h;subst h;simp[PV.aD]
  cases h
 |.own i off len k,v2,h=>by
  simp only[bI] at h
  cases hq:Nat.beq len 0 with
  |true=>rw[hq] at h;simp only[aQ,aB] at h;subst h;simp[PV.aD]
  |false=>
   rw[hq] at h;simp only[bx] at h
   split at h
   ·obtain⟨es,h1,rfl⟩:=er h;simp[PV.aD]
   cases h
 |.sub i off len,v2,h=>by
  simp only[bI] at h
  cases hq:Nat.beq len 0 with
  |true=>rw[hq] at h;simp only[aQ,aB] at h;subst h;simp[PV.aD]
  |false=>
   rw[hq] at h;simp only[bx] at h
   split at h
   ·obtain⟨es,h1,rfl⟩:=er h;simp[PV.aD]
   cases h
 |.grow i n nl,v2,h=>by
  simp only[bI] at h
  split at h
  ·rename_i sz es hg
   cases hq:Nat.beq es.length n with
   |true=>rw[hq] at h;simp only[aQ,aB] at h;subst h;simp[PV.aD]
   |false=>rw[hq] at h;cases h
  cases hq:Nat.beq n 0 with
  |true=>rw[hq] at h;simp only[aQ,aB] at h;subst h;simp[PV.aD]
  |false=>rw[hq] at h;cases h
 |.iface t v,v2,h=>by
  simp only[bI] at h
  cases hf:v.aD with
  |false=>rw[hf] at h;cases h
  |true=>rw[hf] at h;simp only[aQ,aB] at h;subst h;simp only[PV.aD];exact hf
 |.a6 i,v2,h=>by
  simp only[bI] at h
  split at h
  ·injection h with h;subst h;simp[PV.aD]
  cases h
 |.aG es,v2,h=>by simp only[bI,aB] at h;subst h;simp[PV.aD]
 |.cm _,v2,h=>by simp[bI] at h
 |.bool b,v2,h=>by simp only[bI,aB] at h;subst h;simp[PV.aD]
 |.int k n,v2,h=>by simp only[bI,aB] at h;subst h;simp[PV.aD]
 |.str s,v2,h=>by simp only[bI,aB] at h;subst h;simp[PV.aD]
 |.nilFunc,v2,h=>by simp only[bI,aB] at h;subst h;simp[PV.aD]
 |.nilIface,v2,h=>by simp only[bI,aB] at h;subst h;simp[PV.aD]
 |.gD,v2,h=>by simp only[bI,aB] at h;subst h;simp[PV.aD]
 |.aJ,v2,h=>by simp only[bI,aB] at h;subst h;simp[PV.aD]
 |.eE,v2,h=>by simp only[bI,aB] at h;subst h;simp[PV.aD]
 |.e0,v2,h=>by simp only[bI,aB] at h;subst h;simp[PV.aD]
 |.vec es,v2,h=>by simp only[bI,aB] at h;subst h;simp[PV.aD]
 |.vp cs,v2,h=>by simp only[bI,aB] at h;subst h;simp[PV.aD]
theorem GP (vh:af):∀(l l2:List PV),bG vh l=some l2→PV.az l2=true
 |[],l2,h=>by simp only[bG,aB] at h;subst h;rfl
 |v::r,l2,h=>by
  simp only[bG] at h
  split at h
  ·rename_i a l h1 h2
   injection h with h;subst h
   simp only[PV.az,zzm vh v a h1,GP vh r l h2,Bool.and_self]
  cases h
end
def aI (P:Program)(f:FuncId)(args:List PV)(R:PV→Prop):Prop:=
 eN P f args af.empty fun v _=>v.aD=true∧R v
theorem VS.none {lo:Nat}{g:Fz}{h:ai}(uz:∀o x,g o=some x→h.get o=some x)(hl:lo≤h.next)(σ:Sg):VS lo g σ af.empty h:=
 ⟨fun i x hx=>(by cases hx),fun i j x y hx=>(by cases hx),fun i x hx=>(by cases hx),uz,fun i x hx=>(by cases hx),hl⟩
mutual
theorem Io {g g':Fz}:∀ {v:PV} {v':Value},FR g v v'→v.b8=true→FR g' v v'
 |_,_,.bool b,_=>.bool b
 |_,_,.int k n,_=>.int k n
 |_,_,.str s,_=>.str s
 |_,_,.nilFunc,_=>.nilFunc
 |_,_,.nilIface,_=>.nilIface
 |_,_,.gD,_=>.gD
 |_,_,.aJ,_=>.aJ
 |_,_,.eE,_=>.eE
 |_,_,.xI,h=>by simp[PV.b8] at h
 |_,_,.e0 ..,h=>by simp[PV.b8] at h
 |_,_,.func f xs ys bu eI hx hy rx ry,h=>by
  simp only[PV.b8,bW] at h
  exact .func f xs ys bu eI hx hy (fun i v v' hv bg=>Io (rx i v v' hv bg) (PV.I7 h.1 hv)) (fun i v v' hv bg=>Io (ry i v v' hv bg) (PV.I7 h.2 hv))
 |_,_,.agg cs au hs r,h=>by
  simp only[PV.b8] at h
  exact .agg cs au hs fun i v v' hv bg=>Io (r i v v' hv bg) (PV.I7 h hv)
 |_,_,.bz cs au hs r,h=>by
  simp only[PV.b8] at h
  exact .bz cs au hs fun i v v' hv bg=>Io (r i v v' hv bg) (PV.I7 h hv)
 |_,_,.iface t v v' hv,h=>by
  simp only[PV.b8] at h
  exact .iface t v v' (Io hv h)
 |_,_,.ie,h=>by simp[PV.b8] at h
 |_,_,.et ..,h=>by simp[PV.b8] at h
 |_,_,.vec ..,h=>by simp[PV.b8] at h
 |_,_,.vp ..,h=>by simp[PV.b8] at h
 |_,_,.aG ..,h=>by simp[PV.b8] at h
end
def C5 (P:Program)(f:FuncId)(args:List PV)(vh:af)(R:PV→af→Prop):Prop:=
 ∀lo g σ h aH,bp (VR g σ vh.next) args aH→VS lo g σ vh h→qv P lo f aH h fun r h'=>h.sub h'∧∃g' aU v aq,VR g' aU aq.next v r∧VS lo g' aU aq h'∧g.le g'∧(∀i,i<vh.next→aU i=σ i)∧VF σ vh h aU aq h'∧vh.next≤aq.next∧
  e9 g σ vh h g'∧R v aq
theorem C5.call {f:FuncId}{args:List PV}{R:PV→af→Prop}(h:C5 P f args vh R):eN P f args vh R:=fun lo g σ hh aH ha s=>(h lo g σ hh aH ha s).mono fun _ _ hq=>hq.2
theorem C5.mono {f:FuncId}{args:List PV}{R R':PV→af→Prop}(hc:C5 P f args vh R)(hr:∀v vh,R v vh→R' v vh):C5 P f args vh R':=
 fun lo g σ h aH ha s=>(hc lo g σ h aH ha s).mono fun r h' ⟨h0,g',aU,v,aq,h1,h2,h3,h4,h5,h6,h7,h8⟩=>⟨h0,g',aU,v,aq,h1,h2,h3,h4,h5,h6,h7,hr _ _ h8⟩
theorem znj {h h':ai}(hk:∀o,o<h.next→h'.get o=h.get o):h.sub h':=fun o x hx=>by rw[hk o (ai.iE hx)];exact hx
theorem aI.Ev {f:FuncId}{args:List PV}{R:PV→Prop}(hp:aI P f args R)(hf:PV.az args=true):C5 P f args vh fun v aq=>aq=vh∧R v:=fun lo g σ h aH ha s=>by
 have C6:bp (VR g σ af.empty.next) args aH:=(ha.aD hf).vr
 refine(hp lo g σ h aH C6 (.none s.fz s.bX σ)).mono fun r h' ⟨g',aU,v,aq,h1,h2,h3,h4,h5,h6,h7,h8,h9⟩=>?_
 have dL:∀o,o<h.next→h'.get o=h.get o:=fun o ho=>h5.iN o ho fun i x hx=>by cases hx
 have hg:∀o x,g' o=some x→o<h.next→∃y,g o=some y:=fun o x hx ho=>by
  rcases h7 o x hx ho with h|⟨i,y,h,_⟩
  ·exact⟨_,h⟩
  cases h
 refine⟨znj dL,g',σ,v,vh,.fr _ _ (h1.aD h8),⟨fun i x hx=>?_,s.inj,s.low,h2.fz,fun i x hx hl=>?_,h2.bX⟩,h3,fun _ _=>rfl,⟨h5.next,fun o ho _=>dL o ho,fun i x hx hl _=>⟨i,x,hx,hl,rfl⟩⟩,Nat.le_refl _,fun o x hx ho=>.inl (h7 o x hx ho |>.elim id fun⟨i,y,h,_⟩=>by cases h),rfl,h9⟩
 ·obtain⟨k1,k2⟩:=s.obj i x hx
  exact⟨k1,k2.mono h3 (Nat.le_refl _) (fun _ _=>rfl) k1 fun hl=>dL _ (k2.lt hl)⟩
 have hd:=s.l6 i x hx hl
 have a8:=(s.obj i x hx).2.lt hl
 cases qW:g' (σ i).1 with
 |none=>rfl
 |some y=>
  obtain⟨z,hz⟩:=hg _ y qW a8
  rw[hd] at hz;cases hz
theorem aI.z0d {f:FuncId}{args cD:List PV}{R:PV→Prop}(hp:aI P f cD R)(rH:bG vh args=some cD)(GQ:∀v,R v→v.b8=true):C5 P f args vh fun v aq=>aq=vh∧R v:=fun lo g σ h aH ha s=>by
 have C6:=aK.ok s (Im vh args cD rH) ha
 have uz:=LI (D:=fun _=>true) s
 refine(hp lo (g.more σ vh h fun _=>true) (fun j=>σ (id j)) h aH C6 (.none uz s.bX _)).mono fun r h' ⟨g',aU,v,aq,h1,h2,h3,h4,h5,h6,h7,h8,h9⟩=>?_
 have dL:∀o,o<h.next→h'.get o=h.get o:=fun o ho=>h5.iN o ho fun i x hx=>by cases hx
 refine⟨znj dL,g,σ,v,vh,.fr _ _ (Io (h1.aD h8) (GQ v h9)),⟨fun i x hx=>?_,s.inj,s.low,fun o x hx=>?_,s.l6,h2.bX⟩,Fz.le_refl g,fun _ _=>rfl,⟨h5.next,fun o ho _=>dL o ho,fun i x hx hl _=>⟨i,x,hx,hl,rfl⟩⟩,Nat.le_refl _,e9.refl _ _ _ _,rfl,h9⟩
 ·obtain⟨k1,k2⟩:=s.obj i x hx
  exact⟨k1,k2.mono (Fz.le_refl g) (Nat.le_refl _) (fun _ _=>rfl) k1 fun hl=>dL _ (k2.lt hl)⟩
 have:=s.fz o x hx
 rw[dL o (ai.iE this)];exact this
theorem aI.call {f:FuncId}{args:List PV}{R:PV→Prop}(hp:aI P f args R)(hf:PV.az args=true):eN P f args vh fun v aq=>aq=vh∧R v:=(hp.Ev hf).call
theorem aI.borrow {f:FuncId}{args cD:List PV}{R:PV→Prop}(hp:aI P f cD R)(rH:bG vh args=some cD)(GQ:∀v,R v→v.b8=true):eN P f args vh fun v aq=>aq=vh∧R v:=(hp.z0d rH GQ).call
def eu (P:Program)(fn:Func)(R:PV→Prop):kU
 |.normal,ah,vh=>∃l v,iP P ah vh fn.results.toList=some l∧bI vh (jr l)=some v∧R v
 |.ret,ah,vh=>∃l v,iP P ah vh fn.results.toList=some l∧bI vh (jr l)=some v∧R v
 |_,_,_=>False
theorem aI.bJ {f:FuncId}{fn:Func}{c:Code}{args:List PV}{R:PV→Prop}(hf:P.funcs[f]?=some fn)(hb:fn.body=some c)(hn:Nat.ble args.length fn.ntmps=true)
  (hc:VW P fn.ntmps 0 c (eu P fn R) (ja 0 args) af.empty):aI P f args R:=by
 have h1:eN P f args af.empty fun v aq=>∃v2,bI aq v=some v2∧R v2:=by
  refine .bJ hf hb hn (hc.mono fun e ah vh hq=>?_)
  cases e with
  |normal=>obtain⟨l,v,h1,h2,h3⟩:=hq;exact⟨l,h1,v,h2,h3⟩
  |ret=>obtain⟨l,v,h1,h2,h3⟩:=hq;exact⟨l,h1,v,h2,h3⟩
  |exit id=>exact hq.elim
  |goto l=>exact hq.elim
  |panic ch=>exact hq.elim
  |outgrown=>exact hq.elim
 intro lo g σ h aH ha s
 refine(h1 lo g σ h aH ha s).mono fun r h' ⟨g',aU,v,aq,k1,k2,k3,k4,k5,k6,k7,v2,k8,k9⟩=>?_
 have k10:=(z0b aq v v2 k8).ok k2 r k1
 have hF:v2.aD=true:=zzm aq v v2 k8
 refine⟨_,_,v2,af.empty,k10,.none (LI k2) k2.bX _,Fz.le_trans k3 (xt k2),fun i hi=>(by cases hi),⟨k5.next,k5.iN,fun i x hx=>(by cases hx)⟩,Nat.le_refl _,k7.trans k5 Ot,hF,k9⟩
end
theorem wrap64 {x:Int}(h1 : -9223372036854775808≤x)(h2:x<9223372036854775808):IntKind.i64.wrap x=x:=by
 simp[IntKind.wrap,IntKind.bits,IntKind.signed];omega
abbrev ints (l:List Int):PV:=.vec (l.map (PV.int .i64))
theorem AQ {α:Type}{f:α→PV}{n:Nat}(h:∀x,(f x).cells.length=n)(l:List α):nU n (l.map f)=true:=by
 unfold nU
 rw[List.all_eq_true]
 intro e he
 obtain⟨x,_,rfl⟩:=List.mem_map.1 he
 rw[beq_eq,decide_eq_true_eq];exact h x
theorem AR {α:Type}{f:α→PV}(h:∀x,(f x).cells.all PV.one=true)(l:List α):nV (l.map f)=true:=by
 unfold nV
 rw[List.all_eq_true]
 intro e he
 obtain⟨x,_,rfl⟩:=List.mem_map.1 he
 exact h x
theorem z7b {α:Type}{f:α→PV}(h:∀x,(f x).aD=true)(l:List α):PV.az (l.map f)=true:=PV.U6 fun e he=>by
 obtain⟨x,_,rfl⟩:=List.mem_map.1 he
 exact h x
@[simp] theorem xfq (k:IntKind)(l:List Int):nU 1 (l.map (PV.int k))=true:=AQ (f:=PV.int k) (n:=1) (fun _=>rfl) l
@[simp] theorem xdu (k:IntKind)(l:List Int):nV (l.map (PV.int k))=true:=AR (f:=PV.int k) (fun _=>rfl) l
@[simp] theorem xj3 (k:IntKind)(l:List Int):PV.az (l.map (PV.int k))=true:=z7b (f:=PV.int k) (fun _=>by simp[PV.aD]) l
def Rec (b:Nat)(ah:bf)(vh:af)(aF:bf)(aZ:af):Prop:=∃D ρ,Ay b D ρ ah vh aF aZ
theorem VW.rec {P:Program}{N b:Nat}{Q:kU}{ah aF:bf}{vh aZ:af}{c:Code}(a:Rec b ah vh aF aZ)(hc:VW P N b c Q aF aZ):VW P N b c Q ah vh:=by
 obtain⟨D,ρ,a⟩:=a
 exact .xfz D ρ a hc
def dZ (ah:bf):bf→Prop
 |[]=>True
 |(t,v)::r=>bC t ah=some v∧dZ ah r
theorem zv6 {ah:bf}:∀ {aF:bf},dZ ah aF→∀t v,bC t aF=some v→bC t ah=some v
 |[],_,t,v,h=>by simp[bC] at h
 |(u,w)::r,hs,t,v,h=>by
  simp only[bC,beq_eq] at h
  by_cases Eu:t=u
  ·subst Eu;simp at h;subst h;exact hs.1
  simp[Eu] at h;exact zv6 hs.2 t v h
def kc:bf→Bool
 |[]=>true
 |(_,v)::r=>v.aD&&kc r
theorem ztk:∀ {ah:bf},kc ah=true→∀t v,bC t ah=some v→v.aD=true
 |[],_,t,v,h=>by simp[bC] at h
 |(u,w)::r,hs,t,v,h=>by
  simp only[kc,bW] at hs
  simp only[bC,beq_eq] at h
  by_cases Eu:t=u
  ·subst Eu;simp at h;subst h;exact hs.1
  simp[Eu] at h;exact ztk hs.2 t v h
theorem Rec.pure {ah aF:bf}{vh:af}(h1:kc aF=true)(h2:dZ ah aF):Rec 0 ah vh aF af.empty:=
 ⟨fun _=>false,id,⟨fun t v hv=>⟨v,zv6 h2 t v hv,.same v (ztk h1 t v hv)⟩,fun j y hy=>(by cases hy),fun j k y z hy=>(by cases hy),fun j hj=>rfl,Nat.zero_le _⟩⟩
def xX (l:List (Nat×Nat))(j:Nat):Nat:=
 match l with
 |[]=>j
 |(a,b)::r=>bif Nat.beq j a then b else xX r j
def vu (vh:af)(n2:Nat)(D:Nat→Bool)(ρ:Nat→Nat):List (Nat×aO)→Prop
 |[]=>True
 |(j,y)::r=>(j<n2∧((∃sz,y=.grow sz []∧0<sz)∨D (ρ j)=false∧∃x,vh.get (ρ j)=some x∧oH vh n2 D ρ x y))∧vu vh n2 D ρ r
theorem vu.get {vh:af}{n2:Nat}{D:Nat→Bool}{ρ:Nat→Nat}:∀ {l:List (Nat×aO)},vu vh n2 D ρ l→∀j y,bq j l=some y→j<n2∧((∃sz,y=.grow sz []∧0<sz)∨D (ρ j)=false∧∃x,vh.get (ρ j)=some x∧oH vh n2 D ρ x y)
 |[],_,j,y,h=>by simp[bq] at h
 |(k,z)::r,hs,j,y,h=>by
  simp only[bq,beq_eq] at h
  by_cases xJ:j=k
  ·subst xJ;simp at h;subst h;exact hs.1
  simp[xJ] at h;exact vu.get hs.2 j y h
theorem TH:∀ {l:List (Nat×aO)} {j:Nat} {y:aO},bq j l=some y→j∈l.map (·.1)
 |[],j,y,h=>by simp[bq] at h
 |(k,z)::r,j,y,h=>by
  simp only[bq,beq_eq] at h
  by_cases xJ:j=k
  ·subst xJ;simp
  simp[xJ] at h;simp only[List.map_cons,List.mem_cons];exact .inr (TH h)
def zd (ρ:Nat→Nat)(l:List Nat):Bool:=l.all fun j=>l.all fun k=>!(Nat.beq (ρ j) (ρ k))||Nat.beq j k
def Tv (b:Nat)(ρ:Nat→Nat):Bool:=(List.range b).all fun j=>Nat.beq (ρ j) j
theorem Rec.mk {b:Nat}{ah aF:bf}{vh aZ:af}(D:List Nat)(ρ:List (Nat×Nat))(ht:qP ah vh aZ.next (fun i=>D.contains i) (xX ρ) aF)(ho:vu vh aZ.next (fun i=>D.contains i) (xX ρ) aZ.br)
  (hi:zd (xX ρ) (aZ.br.map (·.1))=true) (hb:Tv b (xX ρ)=true) (hn:Nat.ble b aZ.next=true):Rec b ah vh aF aZ:=by
 refine⟨fun i=>D.contains i,xX ρ,⟨fun t v hv=>qP.get ht t v hv,fun j y hy=>vu.get ho j y hy,fun j k y z hy hz _ _ he=>?_,fun j hj=>?_,by simpa using hn⟩⟩
 ·unfold zd at hi
  rw[List.all_eq_true] at hi
  have h1:=hi j (TH hy)
  rw[List.all_eq_true] at h1
  have h2:=h1 k (TH hz)
  rw[he] at h2
  simpa[beq_eq] using h2
 unfold Tv at hb
 rw[List.all_eq_true] at hb
 simpa using hb j (by simpa using hj)
theorem VW.cZ {P:Program}{N b:Nat}{Q:kU}{ah:bf}{vh:af}{c:Code}{S:Type}(st:S→bf×af)(I:S→Prop)(m:S→Nat)(s0:S)(h0:I s0)(hr:Rec b ah vh (st s0).1 (st s0).2)
  (round:∀s,I s→VW P N b c (C0 (fun aY aq=>∃s',I s'∧m s'<m s∧Rec b aY aq (st s').1 (st s').2) Q) (st s).1 (st s).2):VW P N b (.loop c) Q ah vh:=
 .loop (fun k ah vh=>∃s,I s∧m s=k∧Rec b ah vh (st s).1 (st s).2) (m s0) ⟨s0,h0,rfl,hr⟩ fun k ah vh ⟨s,h1,h2,h3⟩=>by
  subst h2
  refine .rec h3 ((round s h1).mono fun e ah vh hq=>?_)
  cases e with
  |normal=>obtain⟨s',k1,k2,k3⟩:=hq;exact⟨m s',k2,s',k1,rfl,k3⟩
  |exit id=>exact hq
  |goto l=>exact hq
  |ret=>exact hq
  |panic ch=>exact hq
  |outgrown=>exact hq
def vY (P:Program)(lo:Nat)(ops:Array Oper)(ts:aL)(h:ai)(m:Nat):Prop:=
 ∃o d v h1,ops[m]?=some o∧o.dst=some d∧xH o.op=true∧ts[d]?=some v∧cV P lo ts h o.op=some (v,h1)
def LM (op:Op)(d:Nat):Bool:=op.operands.toList.all fun x=>match x with
 |.tmp t=>!Nat.beq t d
 |_=>true
def Ov (ops:Array Oper)(dst:Option Tmp)(k:Nat):Bool:=
 match dst with
 |none=>true
 |some d=>match ops[k]? with
  |some o=>LM o.op d&&(match o.dst with|some d'=>!Nat.beq d' d|none=>true)
  |none=>false
def Bo (o:Oper):Bool:=
 match o.dst with
 |some d=>LM o.op d
 |none=>false
section
variable {P:Program} {N b lo:Nat} {ops:Array Oper}
theorem z0k {ts:aL}{x:Operand}{d:Nat}{v:Value}(hx:(match x with|.tmp t=>!Nat.beq t d|_=>true)=true):dF ts x=dF (bN ts (some d) v) x:=by
 cases x with
 |tmp t=>
  have:t≠d:=by simpa[beq_eq] using hx
  simp only[dF]
  rw[U5 (fun h=>this h.symm)]
 |const=>rfl
 |func=>rfl
 |global=>rfl
theorem zni {op:Op}{d:Nat}{ts:aL}{v:Value}(hf:LM op d=true):∀x∈op.operands,dF ts x=dF (bN ts (some d) v) x:=fun x hx=>by
 unfold LM at hf
 rw[List.all_eq_true] at hf
 exact z0k (hf x (by simpa using hx))
theorem vY.put {ts:aL}{h h2:ai}{m:Nat}{dst:Option Tmp}(v:Value)(hc:vY P lo ops ts h m)(hs:h.sub h2)(hf:Ov ops dst m=true):vY P lo ops (bN ts dst v) h2 m:=by
 obtain⟨o,d,u,h1,k1,k2,k3,k4,k5⟩:=hc
 obtain⟨e1,e2⟩:=Dt k3 k5
 have k6:=e2 h2 hs
 cases dst with
 |none=>exact⟨o,d,u,h2,k1,k2,k3,k4,k6⟩
 |some d'=>
  simp only[Ov,k1,k2,bW] at hf
  have db:d≠d':=by simpa[beq_eq] using hf.2
  refine⟨o,d,u,h2,k1,k2,k3,?_,?_⟩
  ·simp only[bN];rw[List.getElem?_set_ne (fun h=>db h.symm)];exact k4
  rw[← E4 (zni hf.1)];exact k6
theorem vY.new {ts:aL}{h:ai}{m d:Nat}{o:Oper}{v:Value}{h1:ai}(ho:ops[m]?=some o)(hd:o.dst=some d)(a8:d<ts.length)(hr:xH o.op=true)(ha:cV P lo ts h o.op=some (v,h1))(hf:LM o.op d=true):vY P lo ops (bN ts o.dst v) h m:=by
 obtain⟨e1,_⟩:=Dt hr ha
 subst e1
 refine⟨o,d,v,h1,ho,hd,hr,by rw[hd];simp[bN,a8],?_⟩
 rw[hd,← E4 (zni hf)];exact ha
def kZ (ops:Array Oper)(todo:List Nat)(dst:Option Tmp):List Nat:=todo.filter (Ov ops dst)
def sF (P:Program)(N b:Nat)(ops:Array Oper)(o:Oper)(todo:List Nat)(next:List Nat→bf→af→Prop)(ah:bf)(vh:af):Prop:=
 ∀lo g σ h ts,VT g σ vh.next ah ts→ts.length=N→VS lo g σ vh h→b≤vh.next→(∀m∈todo,vY P lo ops ts h m)→∀mC,AJ ops o mC ts→
  sV P lo o mC h fun bo h'=>∃v',bo=bN mC o.dst v'∧∃fD,(∀m∈fD,vY P lo ops (bN ts o.dst v') h' m)∧r8 N b lo g σ vh h (next fD) (bN ts o.dst v') h'
theorem LN {h:ai}{y:bn}:h.sub (h.alloc y):=fun o x hx=>by
 rw[ai.lf,if_neg (by have:=ai.iE hx;omega)];exact hx
theorem xdh {op:Op}{ts:aL}{h h':ai}{v:Value}(hi:IL op=true)(ha:cV P lo ts h op=some (v,h')):h.sub h':=by
 cases op<;>simp only[IL,Bool.false_eq_true] at hi
 case alloc t=>
  simp only[cV,G0] at ha
  split at ha
  ·simp only[aB,bO] at ha;rw[← ha.2];exact LN
  cases ha
 case box t x=>
  simp only[cV] at ha
  obtain⟨u,_,h2⟩:=er ha
  simp only[v8,bO] at h2;rw[← h2.2];exact LN
 case buildSlice t n ps=>
  simp only[cV] at ha
  split at ha
  ·unfold G6 at ha
   split at ha
   ·split at ha
    ·cases hb:(Nat.beq _ _&&Nat.ble _ _&&Nat.blt _ _) with
     |false=>rw[hb] at ha;cases ha
     |true=>
      rw[hb] at ha;simp only[aQ] at ha
      split at ha
      ·simp only[aB,bO] at ha;rw[← ha.2];exact LN
      cases ha
    cases ha
   cases ha
  cases ha
 case makeMap t r=>
  cases r with
  |none=>simp only[cV,aB,bO] at ha;rw[← ha.2];exact LN
  |some=>simp[cV] at ha
 case makeSlice t l c=>
  simp only[cV] at ha
  split at ha
  ·unfold G7 at ha
   split at ha
   ·split at ha
    ·cases hb:(Nat.beq _ _&&Nat.ble _ _&&Nat.ble _ _&&Nat.blt _ _&&Nat.ble _ _) with
     |false=>rw[hb] at ha;cases ha
     |true=>rw[hb] at ha;simp only[aQ,aB,bO] at ha;rw[← ha.2];exact LN
    cases ha
   cases ha
  cases ha
section
variable {ah:bf} {vh:af} {o:Oper} {todo:List Nat} {next:List Nat→bf→af→Prop}
theorem sF.dz {v:PV}{aq:af}(hv:Go.Am.dz P ah vh o.op=some (v,aq))(hd:jH N o.dst=true)(hn:next (bif IL o.op then kZ ops todo o.dst else []) (bA ah o.dst v) aq):sF P N b ops o todo next ah vh:=fun lo g σ h ts ht hl s hb jA mC fy=>by
 obtain⟨v',h',k1,aU,k2,k3,k4,k5,k6⟩:=GL s ht hv
 obtain⟨g1,g2⟩:=vt (Fz.le_refl g) k5 k6 ht o.dst (hl▸hd) k2
 refine .op (v:=v') (h':=h') ?_ ⟨v',rfl,_,?_,g,aU,_,aq,⟨g1,g2.trans hl,k3,Fz.le_refl g,fun i hi=>k6 i (by omega),k4,by omega,e9.refl _ _ _ _⟩,hn⟩
 ·rw[E4 (fun x hx=>fy.eval x hx)];exact k1
 intro m hm
 cases hi:IL o.op with
 |false=>rw[hi] at hm;cases hm
 |true=>
  rw[hi] at hm
  simp only[aQ,kZ,List.mem_filter] at hm
  exact(jA m hm.1).put v' (xdh hi k1) hm.2
theorem sF.Ev {fo:Operand}{args:Array Operand}{aT:Array TypeId}{f:FuncId}{xs ys l:List PV}(ho:o.op=.call ⟨.value fo,args,aT⟩)
  (hf:ct ah fo=some (.func f xs ys)) (hl:gf ah args.toList=some l) (eD:∀cs w,(callFunc f cs).run P w=.ok (.enter f cs) w) (hd:jH N o.dst=true)
  (hc:C5 P f (xs++l++ys) vh fun r aq=>next (kZ ops todo o.dst) (bA ah o.dst r) aq):sF P N b ops o todo next ah vh:=fun lo g σ h ts ht hn s hb jA mC fy=>by
 obtain⟨f',k1,k2⟩:=fX ht hf
 obtain⟨l',k3,k4⟩:=BY ht hl
 obtain⟨bu,eI,rfl,hx,hy⟩:=Ou k2
 have e1:dF mC fo=dF ts fo:=fy.eval fo (by rw[ho];simp[Op.operands,Call.operands])
 have e2:rC mC args.toList=rC ts args.toList:=Hg fun x hx=>fy.eval x (by rw[ho];simp[Op.operands,Call.operands];exact .inr (by simpa using hx))
 refine .O7 ho (e1.trans k1) (e2.trans k3) eD ((hc lo g σ h _ ((hx.append k4).append hy) s).mono fun r h' ⟨h0,g',aU,v,aq,h1,h2,h3,h4,h5,h6,h7,h8⟩=>?_)
 obtain⟨g1,g2⟩:=vt h3 h6 h4 ht o.dst (hn▸hd) h1
 refine⟨r,rfl,_,fun m hm=>?_,g',aU,_,aq,⟨g1,g2.trans hn,h2,h3,fun i hi=>h4 i (by omega),h5,by omega,h7⟩,h8⟩
 simp only[kZ,List.mem_filter] at hm
 exact(jA m hm.1).put r h0 hm.2
theorem sF.call {fo:Operand}{args:Array Operand}{aT:Array TypeId}{f:FuncId}{xs ys l:List PV}(ho:o.op=.call ⟨.value fo,args,aT⟩)
  (hf:ct ah fo=some (.func f xs ys)) (hl:gf ah args.toList=some l) (eD:∀cs w,(callFunc f cs).run P w=.ok (.enter f cs) w) (hd:jH N o.dst=true)
  (hc:eN P f (xs++l++ys) vh fun r aq=>next [] (bA ah o.dst r) aq):sF P N b ops o todo next ah vh:=fun lo g σ h ts ht hn s hb jA mC fy=>by
 obtain⟨f',k1,k2⟩:=fX ht hf
 obtain⟨l',k3,k4⟩:=BY ht hl
 obtain⟨bu,eI,rfl,hx,hy⟩:=Ou k2
 have e1:dF mC fo=dF ts fo:=fy.eval fo (by rw[ho];simp[Op.operands,Call.operands])
 have e2:rC mC args.toList=rC ts args.toList:=Hg fun x hx=>fy.eval x (by rw[ho];simp[Op.operands,Call.operands];exact .inr (by simpa using hx))
 refine .O7 ho (e1.trans k1) (e2.trans k3) eD ((hc lo g σ h _ ((hx.append k4).append hy) s).mono fun r h' ⟨g',aU,v,aq,h1,h2,h3,h4,h5,h6,h7,h8⟩=>?_)
 obtain⟨g1,g2⟩:=vt h3 h6 h4 ht o.dst (hn▸hd) h1
 exact⟨r,rfl,[],fun m hm=>(by cases hm),g',aU,_,aq,⟨g1,g2.trans hn,h2,h3,fun i hi=>h4 i (by omega),h5,by omega,h7⟩,h8⟩
end
def cA (P:Program)(N b:Nat)(ops:Array Oper)(W:List Nat)(K:bf→af→Prop):List jo→List Nat→bf→af→Prop
 |[],_,ah,vh=>K ah vh
 |.op m::r,todo,ah,vh=>
  match ops[m]? with
  |none=>False
  |some o=>match fQ ops o ah with
   |none=>False
   |some false=>jH N o.dst=true∧cA P N b ops W K r (kZ ops todo o.dst) (bA ah o.dst (.bz [])) vh
   |some true=>bif W.contains m then sF P N b ops o todo (cA P N b ops W K r) ah vh
    else xH o.op=true∧jH N o.dst=true∧∃v,dz P ah vh o.op=some (v,vh)∧cA P N b ops W K r (bif Bo o then m::kZ ops todo o.dst else kZ ops todo o.dst) (bA ah o.dst v) vh
 |.ck m::r,todo,ah,vh=>
  match ops[m]? with
  |none=>False
  |some o=>(todo.contains m=true∨o.dst.isSome=true∧fQ ops o ah=some false)∧cA P N b ops W K r todo ah vh
theorem LO {ms W:List Nat}(hd:∀d∈(ops.toList.filterMap (·.dst)),d<N){K:bf→af→Prop}{g:Fz}{σ:Sg}{vh:af}{h:ai}{base:Nat}:∀(items:List jo) (todo:List Nat) (bo:aL) (h':ai) (g':Fz) (aU:Sg) (aY:bf) (aq:af),eS N b lo g σ vh h bo h' g' aU aY aq→
  (∀m∈todo,vY P lo ops bo h' m)→cA P N b ops W K items todo aY aq→AL P lo ops base ms W [] (r8 N b lo g σ vh h K) items bo [] h'
 |[],todo,bo,h',g',aU,aY,aq,a,jA,k=>⟨g',aU,aY,aq,a,k⟩
 |.op m::r,todo,bo,h',g',aU,aY,aq,a,jA,k=>by
  simp only[cA] at k
  cases ho:ops[m]? with
  |none=>rw[ho] at k;exact k.elim
  |some o=>
   rw[ho] at k
   simp only at k
   refine⟨o,ho,?_⟩
   split at k
   ·exact k.elim
   ·rename_i hw
    rw[Et (a.len▸hd) a.t hw]
    simp only[bx]
    obtain⟨g1,g2⟩:=vt (Fz.le_refl g') (Nat.le_refl _) (fun _ _=>rfl) a.t o.dst (a.len▸k.1) (.fr _ _ vX)
    refine LO hd r _ _ h' g' aU _ aq ⟨g1,g2.trans a.len,a.s,a.le,a.agree,a.f,a.base,a.own⟩ (fun m hm=>?_) k.2
    simp only[kZ,List.mem_filter] at hm
    exact(jA m hm.1).put _ (fun _ _ hx=>hx) hm.2
   rename_i hw
   rw[Et (a.len▸hd) a.t hw]
   simp only[aQ]
   cases hW:W.contains m with
   |true=>
    rw[hW] at k
    simp only[aQ] at k ⊢
    intro mC fy
    refine(k lo g' aU h' bo a.t a.len a.s a.base jA mC fy).mono fun pY h2 ⟨v',e,fD,GR,g2,eG,aF,aZ,c,k2⟩=>⟨v',e,?_⟩
    exact LO hd r fD _ h2 g2 eG aF aZ (a.trans c) GR k2
   |false=>
    rw[hW] at k
    simp only[bx,List.contains_nil] at k ⊢
    obtain⟨hr,uX,v,hv,k2⟩:=k
    obtain⟨v',h1,e1,eG,e2,e3,e4,e5,e6⟩:=GL (lo:=lo) a.s a.t hv
    obtain⟨e7,_⟩:=Dt hr e1
    subst e7
    obtain⟨g1,g2⟩:=vt (Fz.le_refl g') (Nat.le_refl _) e6 a.t o.dst (a.len▸uX) e2
    have GS:∀i,i<b→eG i=σ i:=fun i hi=>(e6 i (Nat.lt_of_lt_of_le hi a.base)).trans (a.agree i hi)
    refine⟨v',h1,e1,LO hd r _ _ h1 g' eG _ aq ⟨g1,g2.trans a.len,e3,a.le,GS,a.f.trans e4,a.base,a.own⟩ (fun m' hm=>?_) k2⟩
    have jg:m'∈kZ ops todo o.dst→vY P lo ops (bN bo o.dst v') h1 m':=fun hm=>by
     simp only[kZ,List.mem_filter] at hm
     exact(jA m' hm.1).put _ (fun _ _ hx=>hx) hm.2
    cases sG:Bo o with
    |false=>rw[sG] at hm;exact jg hm
    |true=>
     rw[sG] at hm
     simp only[aQ,List.mem_cons] at hm
     rcases hm with rfl|hm
     ·unfold Bo at sG
      cases r7:o.dst with
      |none=>rw[r7] at sG;cases sG
      |some d=>
       rw[r7] at sG
       have a8:d<bo.length:=by
        have:=a.len▸uX
        rw[r7] at this
        simpa[jH] using this
       have:=vY.new (P:=P) (lo:=lo) ho r7 a8 hr e1 sG
       rwa [r7] at this
     exact jg hm
 |.ck m::r,todo,bo,h',g',aU,aY,aq,a,jA,k=>by
  simp only[cA] at k
  cases ho:ops[m]? with
  |none=>rw[ho] at k;exact k.elim
  |some o=>
   rw[ho] at k
   simp only at k
   obtain⟨k1,k2⟩:=k
   have rest:=LO (base:=base) (ms:=ms) hd r _ bo h' g' aU aY aq a jA k2
   rcases k1 with k1|⟨k1,hw⟩
   ·have hm:m∈todo:=by simpa using k1
    obtain⟨o',d,v,h1,c1,c2,c3,c4,c5⟩:=jA m hm
    rw[ho] at c1;injection c1 with c1;subst c1
    exact⟨o,d,ho,c2,fun _=>⟨v,h1,c4,c5⟩,rest⟩
   cases r7:o.dst with
   |none=>rw[r7] at k1;cases k1
   |some d=>exact⟨o,d,ho,r7,fun oS=>(by rw[Et (a.len▸hd) a.t hw] at oS;cases oS),rest⟩
theorem VW.drawn {id:Nat}{Q:kU}{ah:bf}{vh:af}{ms W:List Nat}{items:List jo}(hm:P.follows .mixedOrders=true)(cS:IX ops ms W []=true)(hc:AM ops ms W [] [] W [] items=true)(hd:Bn N ops=true)
  (hs:cA P N b ops W (Q .normal) items [] ah vh):VW P N b (.region id ops true) Q ah vh:=fun lo g σ h ts ht hn s hb=>
 .sched hm cS rfl hc (LO (TD hd) items [] ts h g σ ah vh (.refl ht hn s hb) (fun m hm=>(by cases hm)) hs)
end
@[simp] theorem xfb (cs:List PV):(PV.agg cs).cells=cs:=rfl
@[simp] theorem xin (k:IntKind)(n:Int):(PV.int k n).cells=[.int k n]:=rfl
@[simp] theorem xdq (b:Bool):(PV.bool b).cells=[.bool b]:=rfl
@[simp] theorem xjn (s:ByteArray):(PV.str s).cells=[.str s]:=rfl
@[simp] theorem xh3 (es:List PV):(PV.vec es).cells=[.vec es]:=rfl
@[simp] theorem xds (es:List (PV×PV)):(PV.aG es).cells=[.aG es]:=rfl
@[simp] theorem xju (es:List PV):(PV.vp es).cells=[.vp es]:=rfl
@[simp] theorem xgk:PV.aJ.cells=[.aJ]:=rfl
@[simp] theorem xjy:PV.e0.cells=[.e0]:=rfl
@[simp] theorem xdr:PV.gD.cells=[.gD]:=rfl
@[simp] theorem xdy:PV.eE.cells=[.eE]:=rfl
@[simp] theorem z4y:PV.nilFunc.cells=[.nilFunc]:=rfl
@[simp] theorem xd4 (f:FuncId)(xs ys:List PV):(PV.func f xs ys).cells=[.func f xs ys]:=rfl
@[simp] theorem xfu (i off:Nat):(PV.ptr i off).cells=[.ptr i off]:=rfl
@[simp] theorem xga (i off l k:Nat):(PV.own i off l k).cells=[.own i off l k]:=rfl
@[simp] theorem xes (i off l:Nat):(PV.sub i off l).cells=[.sub i off l]:=rfl
@[simp] theorem xd0 (i n:Nat)(nl:Bool):(PV.grow i n nl).cells=[.grow i n nl]:=rfl
@[simp] theorem xd2 (i:Nat):(PV.a6 i).cells=[.a6 i]:=rfl
@[simp] theorem xi3 (cs:List PV):(PV.bz cs).cells=[.bz cs]:=rfl
@[simp] theorem xdg (a b:List PV):PV.az (a++b)=(PV.az a&&PV.az b):=by
 induction a with
 |nil=>rfl
 |cons v r ih=>simp only[List.cons_append,PV.az,ih,Bool.and_assoc]
theorem lQ (a b:Nat):Nat.ble a b=decide (a≤b):=by rw[Bool.eq_iff_iff];simp
theorem l9 (a b:Nat):Nat.blt a b=decide (a<b):=by rw[Bool.eq_iff_iff];simp
section
variable {P:Program} {N b:Nat} {Q:kU} {ah:bf} {vh:af}
theorem VW.zad {c:Operand}{x y:Code}{v:Bool}(hc:ct ah c=some (.bool v))(hT:v=true→VW P N b x Q ah vh)(hF:v=false→VW P N b y Q ah vh):VW P N b (.cond c x y) Q ah vh:=by
 cases v with
 |true=>exact .dR hc (hT rfl)
 |false=>exact .gI hc (hF rfl)
theorem cq.split {ops:Array Oper}{K:bf→af→Prop}{l:List Nat}{t:Nat}{v:Bool}(hv:bC t ah=some (.bool v))(hT:v=true→cq P N b ops K l ah vh)(hF:v=false→cq P N b ops K l ah vh):cq P N b ops K l ah vh:=by
 cases v with
 |true=>exact hT rfl
 |false=>exact hF rfl
theorem cA.split {ops:Array Oper}{W todo:List Nat}{K:bf→af→Prop}{l:List jo}{t:Nat}{v:Bool}(hv:bC t ah=some (.bool v))(hT:v=true→cA P N b ops W K l todo ah vh)(hF:v=false→cA P N b ops W K l todo ah vh):cA P N b ops W K l todo ah vh:=by
 cases v with
 |true=>exact hT rfl
 |false=>exact hF rfl
theorem VW.ar {id:Nat}{ops:Array Oper}(l:List Nat)(hl:List.range ops.size=l)(hd:Bn N ops=true)(hk:cq P N b ops (Q .normal) l ah vh):VW P N b (.region id ops false) Q ah vh:=.region hd (hl▸hk)
theorem cq.step {ops:Array Oper}{K:bf→af→Prop}{i:Nat}{r:List Nat}{o:Oper}(ho:ops[i]?=some o)(hw:fQ ops o ah=some true)(hs:oh P N b o (cq P N b ops K r) ah vh):cq P N b ops K (i::r) ah vh:=by
 simp only[cq,ho,hw];exact hs
theorem cq.done {ops:Array Oper}{K:bf→af→Prop}(hk:K ah vh):cq P N b ops K [] ah vh:=hk
theorem oh.pure {o:Oper}{next:bf→af→Prop}{fo:Operand}{args:Array Operand}{aT:Array TypeId}{f:FuncId}{xs ys l:List PV}{R:PV→Prop}(ho:o.op=.call ⟨.value fo,args,aT⟩)
  (hf:ct ah fo=some (.func f xs ys)) (hl:gf ah args.toList=some l) (eD:∀cs w,(callFunc f cs).run P w=.ok (.enter f cs) w) (hd:jH N o.dst=true)
  (hp:aI P f (xs++l++ys) R) (hF:PV.az (xs++l++ys)=true) (hn:∀r,R r→next (bA ah o.dst r) vh):oh P N b o next ah vh:=
 .call ho hf hl eD hd ((hp.call hF).mono fun r aq ⟨h1,h2⟩=>h1▸hn r h2)
theorem oh.borrow {o:Oper}{next:bf→af→Prop}{fo:Operand}{args:Array Operand}{aT:Array TypeId}{f:FuncId}{xs ys l cD:List PV}{R:PV→Prop}(ho:o.op=.call ⟨.value fo,args,aT⟩)
  (hf:ct ah fo=some (.func f xs ys)) (hl:gf ah args.toList=some l) (eD:∀cs w,(callFunc f cs).run P w=.ok (.enter f cs) w) (hd:jH N o.dst=true)
  (hz:bG vh (xs++l++ys)=some cD) (hp:aI P f cD R) (GQ:∀v,R v→v.b8=true) (hn:∀r,R r→next (bA ah o.dst r) vh):oh P N b o next ah vh:=
 .call ho hf hl eD hd ((hp.borrow hz GQ).mono fun r aq ⟨h1,h2⟩=>h1▸hn r h2)
theorem sF.pure {ops:Array Oper}{todo:List Nat}{o:Oper}{next:List Nat→bf→af→Prop}{fo:Operand}{args:Array Operand}{aT:Array TypeId}{f:FuncId}{xs ys l:List PV}{R:PV→Prop}(ho:o.op=.call ⟨.value fo,args,aT⟩)
  (hf:ct ah fo=some (.func f xs ys)) (hl:gf ah args.toList=some l) (eD:∀cs w,(callFunc f cs).run P w=.ok (.enter f cs) w) (hd:jH N o.dst=true)
  (hp:aI P f (xs++l++ys) R) (hF:PV.az (xs++l++ys)=true) (hn:∀r,R r→next (kZ ops todo o.dst) (bA ah o.dst r) vh):sF P N b ops o todo next ah vh:=
 .Ev ho hf hl eD hd ((hp.Ev hF).mono fun r aq ⟨h1,h2⟩=>h1▸hn r h2)
theorem sF.borrow {ops:Array Oper}{todo:List Nat}{o:Oper}{next:List Nat→bf→af→Prop}{fo:Operand}{args:Array Operand}{aT:Array TypeId}{f:FuncId}{xs ys l cD:List PV}{R:PV→Prop}(ho:o.op=.call ⟨.value fo,args,aT⟩)
  (hf:ct ah fo=some (.func f xs ys)) (hl:gf ah args.toList=some l) (eD:∀cs w,(callFunc f cs).run P w=.ok (.enter f cs) w) (hd:jH N o.dst=true)
  (hz:bG vh (xs++l++ys)=some cD) (hp:aI P f cD R) (GQ:∀v,R v→v.b8=true) (hn:∀r,R r→next (kZ ops todo o.dst) (bA ah o.dst r) vh):sF P N b ops o todo next ah vh:=
 .Ev ho hf hl eD hd ((hp.z0d hz GQ).mono fun r aq ⟨h1,h2⟩=>h1▸hn r h2)
theorem cA.rd {ops:Array Oper}{W todo:List Nat}{K:bf→af→Prop}{m:Nat}{r:List jo}{o:Oper}{v:PV}(ho:ops[m]?=some o)(hw:fQ ops o ah=some true)(hW:W.contains m=false)(hr:xH o.op=true)(hd:jH N o.dst=true)(hv:dz P ah vh o.op=some (v,vh))
  (k:cA P N b ops W K r (bif Bo o then m::kZ ops todo o.dst else kZ ops todo o.dst) (bA ah o.dst v) vh):cA P N b ops W K (.op m::r) todo ah vh:=by
 simp only[cA,ho,hw,hW,bx];exact⟨hr,hd,v,hv,k⟩
theorem cA.wr {ops:Array Oper}{W todo:List Nat}{K:bf→af→Prop}{m:Nat}{r:List jo}{o:Oper}(ho:ops[m]?=some o)(hw:fQ ops o ah=some true)(hW:W.contains m=true)
  (k:sF P N b ops o todo (cA P N b ops W K r) ah vh):cA P N b ops W K (.op m::r) todo ah vh:=by
 simp only[cA,ho,hw,hW,aQ];exact k
theorem cA.un {ops:Array Oper}{W todo:List Nat}{K:bf→af→Prop}{m:Nat}{r:List jo}{o:Oper}(ho:ops[m]?=some o)(hw:fQ ops o ah=some false)(hd:jH N o.dst=true)
  (k:cA P N b ops W K r (kZ ops todo o.dst) (bA ah o.dst (.bz [])) vh):cA P N b ops W K (.op m::r) todo ah vh:=by
 simp only[cA,ho,hw];exact⟨hd,k⟩
theorem cA.ck {ops:Array Oper}{W todo:List Nat}{K:bf→af→Prop}{m:Nat}{r:List jo}{o:Oper}(ho:ops[m]?=some o)(hc:todo.contains m=true)
  (k:cA P N b ops W K r todo ah vh):cA P N b ops W K (.ck m::r) todo ah vh:=by
 simp only[cA,ho];exact⟨.inl hc,k⟩
theorem cA.done {ops:Array Oper}{W todo:List Nat}{K:bf→af→Prop}(hk:K ah vh):cA P N b ops W K [] todo ah vh:=hk
end
theorem Alt.A4 {vh:af}{n2:Nat}{D:Nat→Bool}{ρ:Nat→Nat}(i j n n':Nat)(nl:Bool)(hn:n=n')(hj:j<n2)(hi:ρ j=i):Alt vh n2 D ρ (.grow i n nl) (.grow j n' nl):=hn▸.grow i j n nl hj hi
mutual
def PV.ids:PV→List Nat
 |.func _ xs ys=>PV.bT xs++PV.bT ys
 |.agg cs=>PV.bT cs
 |.bz cs=>PV.bT cs
 |.ptr i _|.own i _ _ _|.sub i _ _|.grow i _ _|.a6 i|.cm i=>[i]
 |_=>[]
def PV.bT:List PV→List Nat
 |[]=>[]
 |v::r=>v.ids++PV.bT r
end
def fJ:List Nat→af→af
 |[],vh=>vh
 |i::r,vh=>fJ r (vh.drop i)
theorem Bq:∀(l:List Nat) (vh:af),(fJ l vh).next=vh.next
 |[],_=>rfl
 |i::r,vh=>Bq r (vh.drop i)
theorem vZ:∀(l:List Nat) (vh:af) (j:Nat) (y:aO),(fJ l vh).get j=some y→j∉l∧vh.get j=some y
 |[],_,j,y,h=>⟨by simp,h⟩
 |i::r,vh,j,y,h=>by
  obtain⟨h1,h2⟩:=vZ r (vh.drop i) j y h
  obtain⟨h3,h4⟩:=nr h2
  exact⟨by simp[h1,h3],h4⟩
mutual
theorem z6x (vh:af)(D:Nat→Bool):∀(v v2:PV),(∀i∈v.ids,D i=true)→bI vh v=some v2→Alt vh 0 D id v v2
 |.func f xs ys,v2,hD,h=>by
  simp only[bI] at h
  simp only[PV.ids,List.mem_append] at hD
  split at h
  ·rename_i a c h1 h2
   injection h with h;subst h
   exact .eO (GU vh D xs a (fun i hi=>hD i (.inl hi)) h1) (GU vh D ys c (fun i hi=>hD i (.inr hi)) h2)
  cases h
 |.agg cs,v2,hD,h=>by
  simp only[bI] at h
  simp only[PV.ids] at hD
  obtain⟨l,h1,rfl⟩:=er h
  exact .lW (GU vh D cs l hD h1)
 |.bz cs,v2,hD,h=>by
  simp only[bI] at h
  simp only[PV.ids] at hD
  obtain⟨l,h1,rfl⟩:=er h
  exact .GD (GU vh D cs l hD h1)
 |.ptr i off,v2,hD,h=>by
  have Br:=hD i (by simp[PV.ids])
  simp only[bI] at h
  split at h
  ·rename_i cs hg
   cases hb:(PV.az cs&&Nat.ble off cs.length) with
   |false=>rw[hb] at h;cases h
   |true=>
    rw[hb] at h;simp only[aQ,aB] at h;subst h
    simp only[bW,Nat.ble_eq] at hb
    exact .GO i off cs Br hg hb.1 hb.2
  ·rename_i ag sz cs hg
   cases hb:Nat.ble off cs.length with
   |false=>rw[hb] at h;cases h
   |true=>
    rw[hb] at h;simp only[aQ,aB] at h;subst h
    exact .Ax i off ag sz cs Br hg (by simpa using hb)
  cases h
 |.own i off len k,v2,hD,h=>by
  have Br:=hD i (by simp[PV.ids])
  simp only[bI] at h
  rcases ng len 0 with⟨hq,cG⟩|⟨hq,cG⟩
  ·rw[hq] at h;simp only[aQ,aB] at h;subst h;subst cG;exact .Aw i off k
  rw[hq] at h;simp only[bx] at h
  split at h
  ·rename_i ag sz cs hg
   obtain⟨es,h1,rfl⟩:=er h
   exact .ki i off len k ag sz cs es Br hg h1
  cases h
 |.sub i off len,v2,hD,h=>by
  have Br:=hD i (by simp[PV.ids])
  simp only[bI] at h
  rcases ng len 0 with⟨hq,cG⟩|⟨hq,cG⟩
  ·rw[hq] at h;simp only[aQ,aB] at h;subst h;subst cG;exact .Av i off
  rw[hq] at h;simp only[bx] at h
  split at h
  ·rename_i ag sz cs hg
   obtain⟨es,h1,rfl⟩:=er h
   exact .u5 i off len ag sz cs es Br hg h1
  cases h
 |.grow i n nl,v2,hD,h=>by
  have Br:=hD i (by simp[PV.ids])
  simp only[bI] at h
  split at h
  ·rename_i sz es hg
   rcases ng es.length n with⟨hq,cG⟩|⟨hq,cG⟩
   ·rw[hq] at h;simp only[aQ,aB] at h;subst h;exact .b9 i n nl sz es Br hg cG
   rw[hq] at h;cases h
  rcases ng n 0 with⟨hq,cG⟩|⟨hq,cG⟩
  ·rw[hq] at h;simp only[aQ,aB] at h;subst h;subst cG;exact .vv i nl
  rw[hq] at h;cases h
 |.iface t v,v2,hD,h=>by
  simp only[bI] at h
  cases hf:v.aD with
  |false=>rw[hf] at h;cases h
  |true=>rw[hf] at h;simp only[aQ,aB] at h;subst h;exact .same _ (by simp only[PV.aD];exact hf)
 |.a6 i,v2,hD,h=>by
  have Br:=hD i (by simp[PV.ids])
  simp only[bI] at h
  split at h
  ·rename_i es hg
   injection h with h;subst h;exact .eP i es Br hg
  cases h
 |.aG es,v2,hD,h=>by simp only[bI,aB] at h;subst h;exact .same _ rfl
 |.cm _,v2,hD,h=>by simp[bI] at h
 |.bool b,v2,hD,h=>by simp only[bI,aB] at h;subst h;exact .same _ rfl
 |.int k n,v2,hD,h=>by simp only[bI,aB] at h;subst h;exact .same _ rfl
 |.str s,v2,hD,h=>by simp only[bI,aB] at h;subst h;exact .same _ rfl
 |.nilFunc,v2,hD,h=>by simp only[bI,aB] at h;subst h;exact .same _ rfl
 |.nilIface,v2,hD,h=>by simp only[bI,aB] at h;subst h;exact .same _ rfl
 |.gD,v2,hD,h=>by simp only[bI,aB] at h;subst h;exact .same _ rfl
 |.aJ,v2,hD,h=>by simp only[bI,aB] at h;subst h;exact .same _ rfl
 |.eE,v2,hD,h=>by simp only[bI,aB] at h;subst h;exact .same _ rfl
 |.e0,v2,hD,h=>by simp only[bI,aB] at h;subst h;exact .same _ rfl
 |.vec es,v2,hD,h=>by simp only[bI,aB] at h;subst h;exact .same _ rfl
 |.vp cs,v2,hD,h=>by simp only[bI,aB] at h;subst h;exact .same _ rfl
theorem GU (vh:af)(D:Nat→Bool):∀(l l2:List PV),(∀i∈PV.bT l,D i=true)→bG vh l=some l2→aK vh 0 D id l l2
 |[],l2,hD,h=>by simp only[bG,aB] at h;subst h;exact .nil
 |v::r,l2,hD,h=>by
  simp only[bG] at h
  simp only[PV.bT,List.mem_append] at hD
  split at h
  ·rename_i a l h1 h2
   injection h with h;subst h
   exact .cons (z6x vh D v a (fun i hi=>hD i (.inl hi)) h1) (GU vh D r l (fun i hi=>hD i (.inr hi)) h2)
  cases h
end
section
variable {P:Program} {N b:Nat} {ah:bf} {vh:af}
theorem aI.M5 {f:FuncId}{args cD:List PV}{R:PV→Prop}(hp:aI P f cD R)(rH:bG vh args=some cD):eN P f args vh fun v aq=>aq=fJ (PV.bT args) vh∧R v:=fun lo g σ h aH ha s=>by
 have hA:=GU vh (fun i=>(PV.bT args).contains i) args cD (fun i hi=>by simpa using hi) rH
 have C6:=aK.ok s hA ha
 have hF:PV.az cD=true:=GP vh args cD rH
 have hle:=xt (D:=fun i=>(PV.bT args).contains i) s
 have hS:VS lo (g.more σ vh h fun i=>(PV.bT args).contains i) σ (fJ (PV.bT args) vh) h:=by
  refine⟨fun j y hy=>?_,fun j k y z hy hz=>s.inj j k y z (vZ _ _ _ _ hy).2 (vZ _ _ _ _ hz).2,fun j y hy=>s.low j y (vZ _ _ _ _ hy).2,LI s,fun j y hy hl=>?_,s.bX⟩
  ·obtain⟨k1,k2⟩:=s.obj j y (vZ _ _ _ _ hy).2
   rw[Bq]
   exact⟨k1,k2.mono hle (Nat.le_refl _) (fun _ _=>rfl) k1 fun _=>rfl⟩
  obtain⟨h1,h2⟩:=vZ _ _ _ _ hy
  unfold Fz.more
  rw[if_neg]
  ·exact s.l6 j y h2 hl
  rintro⟨i,z,k1,k2,k3,k4⟩
  have:=s.inj i j z y k2 h2 k3 hl k4
  subst this
  exact h1 (by simpa using k1)
 have LP:VF σ vh h σ (fJ (PV.bT args) vh) h:=⟨Nat.le_refl _,fun _ _ _=>rfl,fun j y hy hl _=>⟨j,y,(vZ _ _ _ _ hy).2,hl,rfl⟩⟩
 refine((hp.Ev (vh:=fJ (PV.bT args) vh) hF) lo _ σ h aH (C6.aD hF).vr hS).mono fun r h' ⟨h0,g',aU,v,aq,h1,h2,h3,h4,h5,h6,h7,h8⟩=>?_
 rw[Bq] at h4 h6
 exact⟨g',aU,v,aq,h1,h2,Fz.le_trans hle h3,h4,LP.trans h5,h6,Ot.trans LP h7,h8⟩
theorem oh.take {o:Oper}{next:bf→af→Prop}{fo:Operand}{args:Array Operand}{aT:Array TypeId}{f:FuncId}{xs ys l cD:List PV}{R:PV→Prop}(ho:o.op=.call ⟨.value fo,args,aT⟩)
  (hf:ct ah fo=some (.func f xs ys)) (hl:gf ah args.toList=some l) (eD:∀cs w,(callFunc f cs).run P w=.ok (.enter f cs) w) (hd:jH N o.dst=true)
  (hz:bG vh (xs++l++ys)=some cD) (hp:aI P f cD R) (hn:∀r,R r→next (bA ah o.dst r) (fJ (PV.bT (xs++l++ys)) vh)):oh P N b o next ah vh:=
 .call ho hf hl eD hd ((hp.M5 hz).mono fun r aq ⟨h1,h2⟩=>h1▸hn r h2)
theorem aI.alt {f:FuncId}{args:List PV}{R R2:PV→Prop}(hp:aI P f args R)(ha:∀r,R r→∃r2,Alt af.empty 0 (fun _=>true) id r r2∧r2.aD=true∧R2 r2):aI P f args R2:=fun lo g σ h aH hA s=>by
 refine(hp lo g σ h aH hA s).mono fun r h' ⟨g',aU,v,aq,h1,h2,h3,h4,h5,h6,h7,h8,h9⟩=>?_
 obtain⟨r2,k1,k2,k3⟩:=ha v h9
 have s0:VS lo g' aU af.empty h':=.none h2.fz h2.bX aU
 have hv:VR g' aU af.empty.next v r:=.fr _ _ (h1.aD h8)
 have k4:=(k1.ok s0 r hv).aD k2
 have LQ:g'.more aU af.empty h' (fun _=>true)=g':=by
  funext o
  unfold Fz.more
  rw[if_neg]
  rintro⟨i,x,_,hx,_⟩
  cases hx
 rw[LQ] at k4
 exact⟨g',aU,r2,aq,.fr _ _ k4,h2,h3,h4,h5,h6,h7,k2,k3⟩
end
end Go.Am
end
