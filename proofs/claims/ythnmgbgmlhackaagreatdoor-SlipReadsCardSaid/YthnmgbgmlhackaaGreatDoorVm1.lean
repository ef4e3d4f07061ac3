/-
 What is used in the proof of a statement (part Vm1); no condition.
-/
import Derived.Test.YthnmgbgmlhackaaGreatDoorAm3
set_option linter.all false
set_option maxHeartbeats 40000000
set_option maxRecDepth 100000
section
namespace Go.Am
variable [bG]
section
variable {P:Program} {lo:Nat} {g:Fz} {σ:Sg} {vh:ai} {h:ah}
def kz (es:List PV):Bool:=es.all fun e=>e.cells.all PV.one
theorem Ub {es:List PV}(h:kz es=true):(es.flatMap PV.cells).all PV.one=true:=by
 unfold kz at h
 rw[List.all_eq_true] at h ⊢
 intro v hv
 rw[List.mem_flatMap] at hv
 obtain⟨e,he,hv⟩:=hv
 exact(List.all_eq_true.1 (h e he)) v hv
theorem Uc (s:VS lo g σ vh h){n:Nat}(hn:0<n){xs:List PV}{bl:List Value}(nl:Bool)(hl:∀e∈xs,e.cells.length=n)(hx:be (FR g) (xs.flatMap PV.cells) bl)(aY:xs.length<ay){v0:Value}(h0:v0=.slice none 0 0∨nl=false∧∃o off,v0=.slice (some ⟨o,off,none⟩) 0 0) :
  if xs.length=0 then iN lo g σ vh h (.grow vh.next xs.length nl) (vh.alloc (.grow n xs)) v0 h
  else iN lo g σ vh h (.grow vh.next xs.length nl) (vh.alloc (.grow n xs)) (.slice (some ⟨h.next,0,none⟩) xs.length ay) (h.alloc (.cells n bl)):=by
 have cu:∀p i,i<vh.next→(σ.put vh.next p) i=σ i:=fun p i hi=>Sg.xo _ _ (by omega)
 split
 ·rename_i he
  have he:=List.eq_nil_of_length_eq_zero he
  subst he
  have h1:=s.Pw (x:=.grow n []) (0,0,0) ⟨hn,by simp,by decide,.inl rfl⟩ (fun hl=>by cases hl)
  refine⟨_,?_,h1,⟨Nat.le_refl _,fun _ _ _=>rfl,fun i x hx hl _=>?_⟩,Nat.le_succ _,cu _⟩
  ·rcases h0 with rfl|⟨rfl,o,off,rfl⟩
   ·exact .bX _ _
   exact .bY _ _ _
  rw[ai.ij] at hx
  by_cases hi:i=vh.next
  ·simp[hi] at hx;subst hx;cases hl
  simp[hi] at hx;rw[cu _ i (s.obj i x hx).1];exact⟨i,x,hx,hl,rfl⟩
 rename_i he
 obtain⟨h1,h2⟩:=s.alloc (x:=.grow n xs) (.cells n bl) ay ⟨hn,hl,aY,.inr ⟨n,bl,by rw[Sg.cz,ah.ij,if_pos rfl],by rw[Sg.cz],hx,.inl ⟨by rw[Sg.cz],rfl⟩⟩⟩
 exact⟨_,.grow vh.next xs.length h.next 0 ay nl (Nat.lt_succ_self _) (Sg.cz _ _ _) (by omega),h1,h2,Nat.le_succ _,cu _⟩
theorem iN.after {b9 aP:ai}{h1 h2:ah}{v:PV}{v':Value}(hf:VF σ vh h σ b9 h1)(hn:b9.next=vh.next)(hk:iN lo g σ b9 h1 v aP v' h2):iN lo g σ vh h v aP v' h2:=by
 obtain⟨aO,k1,k2,k3,k4,k5⟩:=hk
 exact⟨aO,k1,k2,hf.trans k3,hn▸k4,fun i hi=>k5 i (hn▸hi)⟩
theorem Ud (s:VS lo g σ vh h){n:Nat}(hn:0<n){i l o k s0:Nat}{x:aL}{es xs:List PV}{ar bl:List Value}(nl:Bool)(hg:vh.get i=some x)(jI:x.live=true)(hi:i<vh.next)(hs:σ i=(o,0,k)∨(σ i).1=o)(hl:∀e∈es,e.cells.length=n)(lj:∀e∈xs,e.cells.length=n)
  (ho:h.get o=some (.cells s0 ar)) (hc:be (FR g) (es.flatMap PV.cells) ar) (hx:be (FR g) (xs.flatMap PV.cells) bl) (pf:es.length=l) (mh:0<l) (aY:l+xs.length≤17592186044416) (hk:k=ay∧s0=n∨k=l) :
  (xs.length=0→iN lo g σ vh h (.grow vh.next (l+xs.length) nl) ((vh.drop i).alloc (.grow n (es++xs))) (.slice (some ⟨o,0,none⟩) l k) h)∧
  (0<xs.length→iN lo g σ vh h (.grow vh.next (l+xs.length) nl) ((vh.drop i).alloc (.grow n (es++xs))) (.slice (some ⟨h.next,0,none⟩) (l+xs.length) ay) (h.alloc (.cells n (ar++bl))))∧
  (0<xs.length→iN lo g σ vh h (.grow vh.next (l+xs.length) nl) ((vh.drop i).alloc (.grow n (es++xs))) (.slice (some ⟨h.next,0,none⟩) (l+xs.length) ay) ((h.put o none).alloc (.cells n (ar++bl)))):=by
 have ir:(σ i).1=o:=by rcases hs with h|h;rw[h];exact h
 have cu:∀p i,i<vh.next→(σ.put vh.next p) i=σ i:=fun p i hi=>Sg.xo _ _ (by omega)
 have dm:(17592186044416:Nat)<ay:=by decide
 have da:∀e∈es++xs,e.cells.length=n:=fun e he=>(List.mem_append.1 he).elim (hl e) (lj e)
 have G2:be (FR g) ((es++xs).flatMap PV.cells) (ar++bl):=by rw[List.flatMap_append];exact hc.append hx
 have hlen:(es++xs).length=l+xs.length:=by simp[pf]
 refine⟨fun h0=>?_,fun h0=>?_,fun h0=>?_⟩
 ·have uH:=List.eq_nil_of_length_eq_zero h0
  subst uH
  obtain⟨s1,f1⟩:=s.sub (aP:=vh.drop i) rfl fun j y hy=>(jX hy).2
  have ox:rj g (σ.put vh.next (o,0,k)) (vh.next+1) h vh.next (.grow n (es++[])):=⟨hn,da,by simp;omega,.inr ⟨s0,ar,by rw[Sg.cz];exact ho,by rw[Sg.cz],by simpa using hc,by rw[Sg.cz];rcases hk with h|h;exact .inl h;exact .inr (by simp[h,pf])⟩⟩
  have h1:VS lo g (σ.put vh.next (o,0,k)) ((vh.drop i).alloc (.grow n (es++[]))) h:=s1.Pw (x:=.grow n (es++[])) (o,0,k) ox
   (fun _=>⟨ir▸s.low i x hg jI,ir▸s.jf i x hg jI,fun j y hy hU he=>by
    obtain⟨g1,g2⟩:=jX hy
    exact g1 (s.inj j i y x g2 hg hU jI (he.trans ir.symm))⟩)
  refine⟨σ.put vh.next (o,0,k),?_,h1,⟨Nat.le_refl _,fun _ _ _=>rfl,fun j y hy hU mV=>?_⟩,Nat.le_succ _,cu _⟩
  ·have:=VR.grow (g:=g) (σ:=σ.put vh.next (o,0,k)) (n:=((vh.drop i).alloc (.grow n (es++[]))).next) vh.next l o 0 k nl (Nat.lt_succ_self _) (Sg.cz _ _ _) mh
   simpa using this
  rw[ai.ij,show (vh.drop i).next=vh.next from rfl] at hy
  by_cases hj:j=vh.next
  ·subst hj;rw[Sg.cz];exact⟨i,x,hg,jI,ir⟩
  rw[if_neg hj] at hy
  obtain⟨_,hy⟩:=jX hy
  rw[cu _ j (s.obj j y hy).1];exact⟨j,y,hy,hU,rfl⟩
 ·obtain⟨s1,f1⟩:=s.sub (aP:=vh.drop i) rfl fun j y hy=>(jX hy).2
  have ox:rj g (σ.put vh.next (h.next,0,ay)) (vh.next+1) (h.alloc (.cells n (ar++bl))) vh.next (.grow n (es++xs)):=⟨hn,da,by omega,.inr ⟨n,ar++bl,by rw[Sg.cz,ah.ij,if_pos rfl],by rw[Sg.cz],G2,.inl ⟨by rw[Sg.cz],rfl⟩⟩⟩
  obtain⟨h1,h2⟩:=s1.alloc (x:=.grow n (es++xs)) (.cells n (ar++bl)) ay ox
  exact⟨_,.grow vh.next (l+xs.length) h.next 0 ay nl (Nat.lt_succ_self _) (Sg.cz _ _ _) (by omega),h1,f1.trans h2,Nat.le_succ _,cu _⟩
 obtain⟨s1,f1⟩:=s.kill hg jI
 rw[ir] at s1 f1
 have ox:rj g (σ.put vh.next (h.next,0,ay)) (vh.next+1) ((h.put o none).alloc (.cells n (ar++bl))) vh.next (.grow n (es++xs)):=⟨hn,da,by omega,.inr ⟨n,ar++bl,by rw[Sg.cz,ah.ij];exact if_pos rfl,by rw[Sg.cz],G2,.inl ⟨by rw[Sg.cz],rfl⟩⟩⟩
 obtain⟨h1,h2⟩:=s1.alloc (x:=.grow n (es++xs)) (.cells n (ar++bl)) ay ox
 exact⟨_,.grow vh.next (l+xs.length) h.next 0 ay nl (Nat.lt_succ_self _) (Sg.cz _ _ _) (by omega),h1,f1.trans h2,Nat.le_succ _,cu _⟩
def og (bytes m:Nat):Bool:=Nat.ble m 4294967296||(Nat.ble m 17592186044320&&Nat.ble bytes 8)
theorem NA (b m:Nat):og b m=(decide (m≤4294967296)||(decide (m≤17592186044320)&&decide (b≤8))):=by unfold og;rw[Bool.eq_iff_iff];simp
theorem Ji {b m:Nat}(h:og b m=true):m≤17592186044416:=by
 rw[NA] at h
 simp at h
 omega
theorem z3m {b m:Nat}(h:og b m=true)(hb:b≤4096):(Nat.ble m 17592186044416&&Nat.ble ((2*m+192)*b) 281474976710656)=true:=by
 rw[NA] at h
 simp at h
 simp only[bV,Nat.ble_eq]
 refine⟨by omega,?_⟩
 rcases h with h|⟨h,h2⟩
 ·have:(2*m+192)*b≤(2*4294967296+192)*4096:=Nat.mul_le_mul (by omega) hb
  omega
 have:(2*m+192)*b≤(2*17592186044320+192)*8:=Nat.mul_le_mul (by omega) h2
 omega
def sA (P:Program)(vh:ai)(sT xT:TypeId)(s x:PV):Option (PV×ai):=
 match fT P sT,fT P xT with
 |some (e,n),some _=>
  match eA P e,(P.info? e).map (·.bytes),jY vh n x with
  |some z,some bytes,some xs=>
   bif !(Nat.beq z.length n&&Nat.blt 0 n&&Nat.ble bytes 4096&&kz xs) then none else
   match s with
   |.aG=>bif og bytes xs.length then some (.grow vh.next xs.length true,vh.alloc (.grow n xs)) else none
   |.e0=>bif og bytes xs.length then some (.grow vh.next xs.length false,vh.alloc (.grow n xs)) else none
   |.own i off l k=>
    bif Nat.beq k 0 then (bif og bytes xs.length then some (.grow vh.next xs.length false,vh.alloc (.grow n xs)) else none) else
    bif !(Nat.beq off 0&&Nat.beq l k&&og bytes (l+xs.length)) then none else
    match vh.get i with
    | some (.arr ag sz cs) => bif Nat.beq cs.length (l * n) then
      match jY vh n (.own i off l k) with
      |some es=>some (.grow vh.next (l+xs.length) false,(vh.drop i).alloc (.grow n (es++xs)))
      |none=>none
     else bif Nat.beq xs.length 0 then some (.own i off l k,vh) else
      match jY vh n (.own i off l k) with
      |some es=>some (.grow vh.next (l+xs.length) false,vh.alloc (.grow n (es++xs)))
      |none=>none
    |_=>none
   |.grow i l nl=>
    match vh.get i with
    |some (.grow sz es)=>bif Nat.beq sz n&&Nat.beq es.length l&&og bytes (l+xs.length) then some (.grow vh.next (l+xs.length) nl,(vh.drop i).alloc (.grow n (es++xs))) else none
    |_=>bif Nat.beq l 0&&og bytes xs.length then some (.grow vh.next xs.length nl,(vh.drop i).alloc (.grow n xs)) else none
   |_=>none
  |_,_,_=>none
 |_,_=>none
theorem zu5 (s:VS lo g σ vh h){sT xT:TypeId}{a x v:PV}{a' x':Value}{ak:ai}(ha:VR g σ vh.next a a')(hx:VR g σ vh.next x x')(hv:sA P vh sT xT a x=some (v,ak)) :
  ∃v' h',oR P lo h sT xT a' x'=some (v',h')∧iN lo g σ vh h v ak v' h':=by
 unfold sA at hv
 split at hv
 ·rename_i e n ex tf wO
  split at hv
  ·rename_i z bytes xs hz nQ q7
   obtain⟨z',h1,h2⟩:=xp (g:=g) hz
   cases hb:(Nat.beq z.length n&&Nat.blt 0 n&&Nat.ble bytes 4096&&kz xs) with
   |false=>rw[hb] at hv;cases hv
   |true=>
   rw[hb] at hv
   simp only[Bool.not_true,bq] at hv
   simp only[bV,Nat.blt_eq,Nat.ble_eq] at hb
   obtain⟨⟨⟨kf,cS⟩,oy⟩,BM⟩:=hb
   obtain⟨eG,eJ,qh⟩:=Dx s cS hx q7
   obtain⟨bl,eS,Ef⟩:=qh xs.length (Nat.le_refl _)
   rw[List.take_length] at Ef
   have cU:(Nat.beq z'.length n&&Nat.blt 0 n&&bl.all (·.oneCell'))=true:=by
    simp only[bV,Nat.blt_eq]
    exact⟨⟨by rw[← h2.1];exact kf,cS⟩,(Ef.vr (σ:=σ) (n:=0)).u7 (Ub BM)⟩
   have lF:∀m,og bytes m=true→(Nat.ble m 17592186044416&&Nat.ble ((2*m+192)*bytes) 281474976710656)=true:=fun m hm=>z3m hm oy
   have dm:(17592186044416:Nat)<ay:=by decide
   have hiu:Nat.blt ay dI=true:=by decide
   have Fy:Nat.blt ay ay=false:=by decide
   have zero:∀ {a':Value} (nl:Bool) {b9:ai} {v0:PV},VS lo g σ b9 h→VF σ vh h σ b9 h→b9.next=vh.next→(a'=.slice none 0 0∨nl=false∧∃o off,a'=.slice (some ⟨o,off,none⟩) 0 0)→og bytes xs.length=true→
     ∃v' h',oR P lo h sT xT a' x'=some (v',h')∧iN lo g σ vh h (.grow vh.next xs.length nl) (b9.alloc (.grow n xs)) v' h':=fun {a'} nl {b9 v0} s1 f1 iR h0 hle=>by
    have hk:=Uc s1 cS nl eJ Ef (by have:=Ji hle;omega) h0
    rw[← iR]
    by_cases ko:xs.length=0
    ·rw[if_pos ko] at hk
     refine⟨a',h,?_,.after f1 iR hk⟩
     have mF:Nat.beq xs.length 0=true:=by rw[ko];rfl
     rcases h0 with rfl|⟨_,o,off,rfl⟩
     ·simp only[oR,tf,wO,eG,h1,nQ,eS,cU,Bool.not_true,bq,mF,aM]
     simp only[oR,tf,wO,eG,h1,nQ,eS,cU,Bool.not_true,bq,mF,aM]
    rw[if_neg ko] at hk
    refine⟨_,_,?_,.after f1 iR hk⟩
    have mF:Nat.beq xs.length 0=false:=by rw[beq_eq];simpa using ko
    rcases h0 with rfl|⟨_,o,off,rfl⟩
    ·simp only[oR,tf,wO,eG,h1,nQ,eS,cU,Bool.not_true,bq,mF,lF _ hle,aM]
    have e1:Nat.blt 0 ay=true:=by decide
    have e2:Nat.ble xs.length 0=false:=by rw[← Bool.not_eq_true,Nat.ble_eq];omega
    have e3:oq h n (.slice (some ⟨o,off,none⟩) 0 0) 0=some []:=by simp[oq]
    simp only[oR,tf,wO,eG,h1,nQ,eS,cU,Bool.not_true,bq,mF,e1,e2,e3,lF _ hle,aM,List.nil_append,Nat.zero_add]
   split at hv
   · -- nil
    cases hc:og bytes xs.length with
    |false=>rw[hc] at hv;cases hv
    |true=>
     rw[hc] at hv;simp only[aM,az,bO] at hv
     obtain⟨rfl,rfl⟩:=hv
     have:=ha.aH rfl;cases this
     exact zero true (v0:=.aG) s (VF.refl _ _ _) rfl (.inl rfl) (by simpa using hc)
   ·cases hc:og bytes xs.length with
    |false=>rw[hc] at hv;cases hv
    |true=>
     rw[hc] at hv;simp only[aM,az,bO] at hv
     obtain⟨rfl,rfl⟩:=hv
     have:=ha.aH rfl
     cases this with
     |tO=>exact zero false (v0:=.aG) s (VF.refl _ _ _) rfl (.inl rfl) (by simpa using hc)
     |e0 o off=>exact zero false (v0:=.aG) s (VF.refl _ _ _) rfl (.inr ⟨rfl,o,off,rfl⟩) (by simpa using hc)
   ·rename_i i off l k
    cases r5:Nat.beq k 0 with
    |true=>
     rw[r5] at hv;simp only[aM] at hv
     have r5:k=0:=by simpa using r5
     subst r5
     cases hc:og bytes xs.length with
     |false=>rw[hc] at hv;cases hv
     |true=>
      rw[hc] at hv;simp only[aM,az,bO] at hv
      obtain⟨rfl,rfl⟩:=hv
      cases ha with
      |fr _ _ h=>cases h
      |own _ _ _ _ o a kk hi hs hl hk=>
       have:l=0:=by omega
       subst this
       exact zero false (v0:=.aG) s (VF.refl _ _ _) rfl (.inr ⟨rfl,_,_,rfl⟩) (by simpa using hc)
    |false=>
     rw[r5] at hv;simp only[bq] at hv
     cases hc:(Nat.beq off 0&&Nat.beq l k&&og bytes (l+xs.length)) with
     |false=>rw[hc] at hv;cases hv
     |true=>
      rw[hc] at hv;simp only[Bool.not_true,bq] at hv
      simp only[bV,Nat.ble_eq,beq_eq,decide_eq_true_eq] at hc
      obtain⟨⟨gZ,fV⟩,im⟩:=hc
      subst gZ;subst fV
      have r5:0<l:=by rw[beq_eq] at r5;simp at r5;omega
      split at hv
      ·rename_i ag sz cs tV
       cases CJ:Nat.beq cs.length (l*n) with
       |false=>
        rw[CJ] at hv;simp only[bq] at hv
        cases ko:Nat.beq xs.length 0 with
        |true=>
         rw[ko] at hv;simp only[aM,az,bO] at hv
         obtain⟨rfl,rfl⟩:=hv
         have hav:=ha
         cases ha with
         |fr _ _ h=>cases h
         |own _ _ _ _ o a kk hi hs hl hk=>
          exact⟨_,h,by simp only[oR,tf,wO,eG,h1,nQ,eS,cU,Bool.not_true,bq,ko,aM],_,hav,s,VF.refl _ _ _,Nat.le_refl _,fun _ _=>rfl⟩
        |false=>
         rw[ko] at hv;simp only[bq] at hv
         split at hv
         ·rename_i es pf
          simp only[az,bO] at hv
          obtain⟨rfl,rfl⟩:=hv
          obtain⟨iK,tm,CK⟩:=Dx s cS ha pf
          obtain⟨gH,g1,g2⟩:=CK es.length (Nat.le_refl _)
          rw[List.take_length] at g2
          cases ha with
          |fr _ _ h=>cases h
          |own _ _ _ _ o a kk hi hs hl hk=>
           simp only[jG,az] at iK
           rw[← iK] at g1
           have hxp:0<xs.length:=by rw[beq_eq] at ko;simp at ko;exact List.length_pos_iff.2 ko
           have e1:Nat.blt l ay=true:=by rw[Nat.blt_eq];omega
           have e2:Nat.ble (l+xs.length) l=false:=by rw[← Bool.not_eq_true,Nat.ble_eq];omega
           have da:(es++xs).length=l+xs.length:=by rw[List.length_append,iK]
           have mj:=Uc s cS (xs:=es++xs) (bl:=gH++bl) false (fun e he=>by
            rcases List.mem_append.1 he with h|h
            ·exact tm e h
            exact eJ e h) (by rw[List.flatMap_append];exact g2.append Ef) (by rw[da];have:=Ji im;omega) (.inl rfl)
           rw[if_neg (by rw[da];omega),da] at mj
           exact⟨_,_,by simp only[oR,tf,wO,eG,h1,nQ,eS,cU,Bool.not_true,bq,ko,e1,e2,g1,lF _ im,aM],mj⟩
         cases hv
       |true=>
        rw[CJ] at hv;simp only[aM] at hv
        split at hv
        ·rename_i es pf
         simp only[az,bO] at hv
         obtain⟨rfl,rfl⟩:=hv
         obtain⟨iK,tm,CK⟩:=Dx s cS ha pf
         obtain⟨h0,s0,ar,k1,k2,k3⟩:=(s.obj i _ tV).2
         cases ha with
         |fr _ _ h=>cases h
         |own _ _ _ _ o a kk hi hs hl hk=>
          rw[hs] at k1 k2;simp only at k1 k2;subst k2
          simp only[jG,az] at iK
          obtain⟨gH,g1,g2⟩:=CK es.length (Nat.le_refl _)
          rw[List.take_length] at g2
          have mF:Nat.beq es.length 0=false:=by rw[← iK,beq_eq];simp;omega
          have G3:ar.length=l*n:=by rw[← k3.1];simpa using CJ
          have holds:gH=ar:=by
           have CL:Nat.ble (0+0+es.length*n) ar.length=true:=by rw[Nat.ble_eq,G3,iK];omega
           simp only[oq,mF,bq,k1,CL,aM,az] at g1
           rw[← g1,← iK,← G3];simp
          subst holds
          have mj:=Ud s cS (σ:=σ) false tV rfl hi (.inr (by rw[hs])) tm eJ k1 g2 Ef iK.symm r5 (Ji im) (.inr rfl)
          by_cases ko:xs.length=0
          ·have cq:Nat.beq xs.length 0=true:=by rw[ko];rfl
           exact⟨.slice (some ⟨o,0,none⟩) l l,h,by simp only[oR,tf,wO,eG,h1,nQ,eS,cU,Bool.not_true,bq,cq,aM,Nat.zero_add],mj.1 ko⟩
          have cq:Nat.beq xs.length 0=false:=by rw[beq_eq];simpa using ko
          have e1:Nat.blt l ay=true:=by rw[Nat.blt_eq];omega
          have e2:Nat.ble (l+xs.length) l=false:=by rw[← Bool.not_eq_true,Nat.ble_eq];omega
          rw[← iK] at g1
          exact⟨_,_,by simp only[oR,tf,wO,eG,h1,nQ,eS,cU,Bool.not_true,bq,cq,e1,e2,g1,lF _ im,aM],mj.2.1 (by omega)⟩
        cases hv
      cases hv
   ·rename_i i l nl
    have AO:l=0→og bytes xs.length=true→∃v' h',oR P lo h sT xT a' x'=some (v',h')∧iN lo g σ vh h (.grow vh.next xs.length nl) ((vh.drop i).alloc (.grow n xs)) v' h':=fun mh hle=>by
     subst mh
     obtain⟨s1,f1⟩:=s.sub (aP:=vh.drop i) rfl fun j y hy=>(jX hy).2
     cases ha with
     |fr _ _ h=>cases h
     |bX=>exact zero nl (v0:=.aG) s1 f1 rfl (.inl rfl) hle
     |bY _ o off=>exact zero false (v0:=.aG) s1 f1 rfl (.inr ⟨rfl,o,off,rfl⟩) hle
     |grow _ _ _ _ _ _ _ _ hn=>omega
    split at hv
    ·rename_i sz es tV
     cases hc:(Nat.beq sz n&&Nat.beq es.length l&&og bytes (l+xs.length)) with
     |false=>rw[hc] at hv;cases hv
     |true=>
      rw[hc] at hv;simp only[aM,az,bO] at hv
      obtain⟨rfl,rfl⟩:=hv
      simp only[bV,Nat.ble_eq,beq_eq,decide_eq_true_eq] at hc
      obtain⟨⟨gZ,fV⟩,im⟩:=hc
      subst gZ
      by_cases mh:l=0
      ·have pf:=List.eq_nil_of_length_eq_zero (fV.trans mh)
       subst pf
       have:=AO mh (by rw[mh,Nat.zero_add] at im;exact im)
       subst mh
       simpa using this
      have mh:0<l:=by omega
      obtain⟨h0,tm,KQ,kP⟩:=(s.obj i _ tV).2
      rcases kP with rfl|⟨s0,ar,k1,k2,k3,k4⟩
      ·simp at fV;omega
      have fB:(aL.grow sz es).live=true:=by
       cases es with
       |nil=>simp at fV;omega
       |cons=>rfl
      cases ha with
      |fr _ _ h=>cases h
      |bX=>omega
      |bY=>omega
      |grow _ _ o a k _ hi hs hm=>
       have bD:=s.low i _ tV fB
       rw[hs] at k1 k2 k4 bD;simp only at k1 k2 k4 bD;subst k2
       have Ii:k=ay∧s0=sz∨k=l:=by rcases k4 with h|h;exact .inl h;exact .inr (h.trans fV)
       have mj:=Ud s cS (σ:=σ) nl tV fB hi (.inr (by rw[hs])) tm eJ k1 k3 Ef fV mh (Ji im) Ii
       have oN:ar.length=l*sz:=by rw[← k3.1,Ao tm,fV]
       by_cases ko:xs.length=0
       ·have cq:Nat.beq xs.length 0=true:=by rw[ko];rfl
        exact⟨_,_,by simp only[oR,tf,wO,eG,h1,nQ,eS,cU,Bool.not_true,bq,cq,aM],mj.1 ko⟩
       have cq:Nat.beq xs.length 0=false:=by rw[beq_eq];simpa using ko
       rcases Ii with⟨rfl,rfl⟩|rfl
       ·have hmul:l*s0<(l+xs.length)*s0:=Nat.mul_lt_mul_of_pos_right (by omega) cS
        have e1:(Nat.ble lo o&&Nat.beq 0 ((ay - ay)*s0)&&Nat.beq s0 s0&&Nat.ble (l+xs.length) 17592186044416&&Nat.ble ((2*(l+xs.length)+192)*bytes) 281474976710656)=true:=by
         have:=lF _ im
         simp only[bV] at this ⊢
         refine⟨⟨⟨⟨by simpa using bD,?_⟩,Nat.beq_refl _⟩,this.1⟩,this.2⟩
         rw[Nat.sub_self,Nat.zero_mul];rfl
        have e2:Nat.ble (0+(l+xs.length)*s0) ar.length=false:=by rw[← Bool.not_eq_true,Nat.ble_eq];omega
        have e3:Nat.ble (0+l*s0) ar.length=true:=by rw[Nat.ble_eq];omega
        have e4:(ar.drop 0).take (l*s0)=ar:=by rw[List.drop_zero,← oN,List.take_length]
        exact⟨_,_,by simp only[oR,tf,wO,eG,h1,nQ,eS,cU,Bool.not_true,bq,cq,Fy,hiu,k1,e1,e2,e3,e4,aM],mj.2.2 (by omega)⟩
       have e1:Nat.blt k ay=true:=by rw[Nat.blt_eq];omega
       have e2:Nat.ble (k+xs.length) k=false:=by rw[← Bool.not_eq_true,Nat.ble_eq];omega
       have gC:Nat.beq k 0=false:=by rw[beq_eq];simp;omega
       have CL:Nat.ble (0+k*sz) ar.length=true:=by rw[Nat.ble_eq];omega
       have e3:oq h sz (.slice (some ⟨o,0,none⟩) k k) k=some ar:=by
        simp only[oq,gC,bq,k1,CL,aM]
        rw[List.drop_zero,← oN,List.take_length]
       exact⟨_,_,by simp only[oR,tf,wO,eG,h1,nQ,eS,cU,Bool.not_true,bq,cq,e1,e2,e3,lF _ im,aM],mj.2.1 (by omega)⟩
    cases cS:(Nat.beq l 0&&og bytes xs.length) with
    |false=>rw[cS] at hv;cases hv
    |true=>
     rw[cS] at hv;simp only[aM,az,bO] at hv
     obtain⟨rfl,rfl⟩:=hv
     simp only[bV,Nat.ble_eq,beq_eq,decide_eq_true_eq] at cS
     exact AO cS.1 cS.2
   cases hv
  cases hv
 cases hv
end
attribute [simp] NA
section
variable {P:Program} {lo:Nat} {g:Fz} {σ:Sg} {vh:ai} {h:ah}
theorem VS.cz (s:VS lo g σ vh h){i:Nat}{x:aL}(hx:vh.get i=some x):VS lo g σ (vh.put i x) h∧VF σ vh h σ (vh.put i x) h:=
 s.sub rfl fun j y hy=>by
  rcases BL hx hy with⟨rfl,rfl⟩|⟨_,hy⟩
  ·exact hx
  exact hy
def dh (P:Program)(vh:ai)(dT:TypeId)(d x:PV):Option (PV×ai):=
 match fT P dT,d with
 |some (_,n),.own i off len _=>
  match jY vh n x,vh.get i with
  |some xs,some (.arr ag sz cs)=>
   bif Nat.blt 0 n&&Nat.ble (off+(xs.take len).length*n) cs.length&&kz xs then
    some (.int .i64 (Nat.min xs.length len),vh.put i (.arr ag sz (kx cs off ((xs.take len).flatMap PV.cells))))
   else none
  |_,_=>none
 |_,_=>none
theorem zr5 {es:List PV}(h:kz es=true)(n:Nat):kz (es.take n)=true:=by
 unfold kz at h ⊢
 rw[List.all_eq_true] at h ⊢
 exact fun e he=>h e (List.mem_of_mem_take he)
theorem z1t (s:VS lo g σ vh h){dT:TypeId}{d x v:PV}{d' x':Value}{ak:ai}(hd:VR g σ vh.next d d')(hx:VR g σ vh.next x x')(hv:dh P vh dT d x=some (v,ak)) :
  ∃v' h',Dh P lo h dT d' x'=some (v',h')∧iN lo g σ vh h v ak v' h':=by
 unfold dh at hv
 split at hv
 ·rename_i e n i off len k ht
  split at hv
  ·rename_i xs ag sz cs q7 hg
   cases hb:(Nat.blt 0 n&&Nat.ble (off+(xs.take len).length*n) cs.length&&kz xs) with
   |false=>rw[hb] at hv;cases hv
   |true=>
    rw[hb] at hv;simp only[aM,az,bO] at hv
    obtain⟨rfl,rfl⟩:=hv
    simp only[bV,Nat.blt_eq,Nat.ble_eq] at hb
    obtain⟨⟨kf,cS⟩,oy⟩:=hb
    obtain⟨eG,eJ,hsr⟩:=Dx s kf hx q7
    obtain⟨bl,g1,g2⟩:=hsr (Nat.min xs.length len) (Nat.min_le_left _ _)
    have xP:xs.take (Nat.min xs.length len)=xs.take len:=by
     rcases Nat.le_total xs.length len with hle|hle
     ·rw[show Nat.min xs.length len=xs.length from Nat.min_eq_left hle,List.take_length,List.take_of_length_le hle]
     rw[show Nat.min xs.length len=len from Nat.min_eq_right hle]
    rw[xP] at g2
    obtain⟨h0,s0,ar,k1,k2,k3⟩:=(s.obj i _ hg).2
    cases hd with
    |fr _ _ h=>cases h
    |own _ _ _ _ o a kk hi hs hl hk=>
     have bD:=s.low i _ hg rfl
     rw[hs] at k1 k2 bD;simp only at k1 k2 bD;subst k2
     rw[Nat.zero_add]
     have zS:jG (.slice (some ⟨o,off,none⟩) len k)=some len:=rfl
     rcases jU (Nat.min xs.length len) 0 with⟨hq,b8⟩|⟨hq,b8⟩
     ·have s9:xs.take len=[]:=by
       rw[← xP,b8];rfl
      have h1:kx cs off ((xs.take len).flatMap PV.cells)=cs:=by rw[s9];simp[kx]
      rw[h1]
      obtain⟨s1,f1⟩:=s.cz hg
      refine⟨lk 0,h,by simp only[Dh,ht,zS,eG,g1,hq,aM],σ,?_,s1,f1,Nat.le_refl _,fun _ _=>rfl⟩
      rw[b8];exact .fr _ _ (.int _ _)
     have h4:=s.write hg rfl (x':=.arr ag sz (kx cs off ((xs.take len).flatMap PV.cells))) (.cells s0 (fq ar off bl)) ⟨h0,s0,_,by rw[ah.dH _ _ _ _ (by rw[hs];exact ah.fJ k1),if_pos rfl],by rw[hs],k3.fq off g2⟩
     rw[hs] at h4;simp only at h4
     have w7:bl.length=(xs.take len).length*n:=by rw[← g2.1,Ao fun e he=>eJ e (List.mem_of_mem_take he)]
     have cU:(Nat.ble lo o&&Nat.ble (off+bl.length) ar.length&&bl.all (·.oneCell'))=true:=by
      simp only[bV,Nat.ble_eq]
      exact⟨⟨bD,by rw[w7,← k3.1];omega⟩,(g2.vr (σ:=σ) (n:=0)).u7 (Ub (zr5 oy len))⟩
     exact⟨lk (Nat.min xs.length len),_,by simp only[Dh,ht,zS,eG,g1,hq,bq,k1,cU,aM],σ,.fr _ _ (.int _ _),h4.1,h4.2,Nat.le_refl _,fun _ _=>rfl⟩
  cases hv
 cases hv
def xZ (kd:IntKind)(n:Int):List (PV×PV)→Option (Option PV)
 |[]=>some none
 |(.int k a,v)::r=>
  bif decide (k=kd) then
   match xZ kd n r with
   |none=>none
   |some q=>some (bif decide (a=n) then some v else q)
  else none
 |_=>none
def zC (R:PV→Value→Prop):Option PV→Option Value→Prop
 |none,none=>True
 |some v,some v'=>R v v'
 |_,_=>False
theorem Eg {kd:IntKind}{n:Int}:∀ {es:List (PV×PV)} {bh:List (Value×Value)} {r:Option PV},be (FR g) (es.map (·.1)) (bh.map (·.1))→be (FR g) (es.map (·.2)) (bh.map (·.2))→xZ kd n es=some r→
  ∃r',uK kd n bh=some r'∧zC (FR g) r r'
 |[],bh,r,hk,hv,hr=>by
  simp only[xZ,az] at hr;subst hr
  cases bh with
  |nil=>exact⟨none,rfl,trivial⟩
  |cons=>have:=hk.1;simp at this
 |(k,v)::es,bh,r,hk,hv,hr=>by
  cases bh with
  |nil=>have:=hk.1;simp at this
  |cons q bh=>
   obtain⟨k',v'⟩:=q
   obtain⟨k1,l1,e1,lp,ja⟩:=hk.dw
   simp only[List.map_cons,List.cons.injEq] at e1;obtain⟨rfl,rfl⟩:=e1
   obtain⟨k1,l1,e1,iP,eT⟩:=hv.dw
   simp only[List.map_cons,List.cons.injEq] at e1;obtain⟨rfl,rfl⟩:=e1
   cases k with
   |int kk a=>
    cases lp
    simp only[xZ] at hr
    simp only[uK]
    cases mj:decide (kk=kd) with
    |false=>rw[mj] at hr;cases hr
    |true=>
     rw[mj] at hr;simp only[aM] at hr ⊢
     split at hr
     ·cases hr
     rename_i q hq
     injection hr with hr;subst hr
     obtain⟨r',g1,g2⟩:=Eg ja eT hq
     refine⟨_,by rw[g1],?_⟩
     cases decide (a=n) with
     |true=>exact iP
     |false=>exact g2
   |_=>simp[xZ] at hr
def qt (vh:ai)(kd:IntKind)(n:Int)(m:PV):Option (Option PV):=
 match m with
 |.dM=>some none
 |.aC es=>xZ kd n es
 |.ba i=>match vh.get i with
  |some (.map es)=>xZ kd n es
  |_=>none
 |_=>none
theorem Ue {g:Fz}{es:List (PV×PV)}{bh:List (Value×Value)}(hlen:es.length=bh.length)(rk:∀(j:Nat) p p',es[j]?=some p→bh[j]?=some p'→FR g p.1 p'.1)(rv:∀(j:Nat) p p',es[j]?=some p→bh[j]?=some p'→FR g p.2 p'.2) :
  be (FR g) (es.map (·.1)) (bh.map (·.1))∧be (FR g) (es.map (·.2)) (bh.map (·.2)):=by
 constructor
 ·refine⟨by simp[hlen],fun i v v' hv aW=>?_⟩
  rw[List.getElem?_map] at hv aW
  obtain⟨p,h1,rfl⟩:=dd hv
  obtain⟨p',h2,rfl⟩:=dd aW
  exact rk i p p' h1 h2
 refine⟨by simp[hlen],fun i v v' hv aW=>?_⟩
 rw[List.getElem?_map] at hv aW
 obtain⟨p,h1,rfl⟩:=dd hv
 obtain⟨p',h2,rfl⟩:=dd aW
 exact rv i p p' h1 h2
theorem zzm {g:Fz}{es:List (PV×PV)}{bh:List (Value×Value)}(h1:be (FR g) (es.map (·.1)) (bh.map (·.1)))(h2:be (FR g) (es.map (·.2)) (bh.map (·.2))){o:Nat}(hg:g o=some (.map bh)):FR g (.aC es) (.map (some o)):=
 .aC es o bh hg (by have:=h1.1;simpa using this) (fun j p p' hp qX=>h1.2 j p.1 p'.1 (by simp[hp]) (by simp[qX])) (fun j p p' hp qX=>h2.2 j p.2 p'.2 (by simp[hp]) (by simp[qX]))
def Uf (P:Program)(vh:ai)(t:TypeId)(m k:PV)(ok:Bool):Option PV:=
 match lG P t,k with
 |some (_,e),.int kd n=>
  match (ey P e).bind bp with
  |some z=>
   match qt vh kd n m with
   |some (some v)=>some (bif ok then .bn [v,.bool true] else v)
   |some none=>some (bif ok then .bn [z,.bool false] else z)
   |none=>none
  |none=>none
 |_,_=>none
theorem Jj {v:PV}{v':Value}{b:Bool}(hv:FR g v v'):FR g (.bn [v,.bool b]) (.tuple #[v',.bool b]):=
 .bn _ _ rfl fun i u u' hu qk=>by
  match i with
  |0=>simp at hu qk;subst hu;subst qk;exact hv
  |1=>simp at hu qk;subst hu;subst qk;exact .bool b
  |i+2=>simp at hu
theorem zq8 (s:VS lo g σ vh h){t:TypeId}{m k v:PV}{m' k':Value}{ok:Bool}(hm:VR g σ vh.next m m')(hk:VR g σ vh.next k k')(hv:Uf P vh t m k ok=some v):∃v',tD P h t m' k' ok=some v'∧FR g v v':=by
 unfold Uf at hv
 split at hv
 ·rename_i kt e kd n ht
  have:=hk.aH rfl;cases this
  split at hv
  ·rename_i z hz
   cases ll:ey P e with
   |none=>rw[ll] at hz;cases hz
   |some z'=>
    rw[ll] at hz
    have G4:=(yH (g:=g) hz).1
    have fin:∀ {q:Option PV} {q':Option Value},qt vh kd n m=some q→zC (FR g) q q'→∃v',(match some q' with
      |some (some v)=>some (bif ok then .tuple #[v,.bool true] else v)
      |some none=>some (bif ok then .tuple #[z',.bool false] else z')
      |none=>none:Option Value)=some v'∧FR g v v':=fun {q q'} hq hr=>by
     rw[hq] at hv
     cases q with
     |none=>
      cases q' with
      |some=>exact hr.elim
      |none=>
       simp only[az] at hv;subst hv
       refine⟨_,rfl,?_⟩
       cases ok with
       |true=>exact Jj G4
       |false=>exact G4
     |some u=>
      cases q' with
      |none=>exact hr.elim
      |some u'=>
       simp only[az] at hv;subst hv
       refine⟨_,rfl,?_⟩
       cases ok with
       |true=>exact Jj hr
       |false=>exact hr
    cases hq:qt vh kd n m with
    |none=>rw[hq] at hv;cases hv
    |some q=>
     have CM:=hq
     unfold qt at hq
     split at hq
     ·injection hq with hq;subst hq
      have:=hm.aH rfl;cases this
      obtain⟨v',g1,g2⟩:=fin (q':=none) CM trivial
      exact⟨v',by simp only[tD,ht,ll];exact g1,g2⟩
     ·have:=hm.aH rfl
      cases this with
      |aC _ o bh hg hlen rk rv=>
       obtain⟨h3,h4⟩:=Ue hlen rk rv
       obtain⟨r',g1,g2⟩:=Eg h3 h4 hq
       obtain⟨v',g3,g4⟩:=fin CM g2
       exact⟨v',by simp only[tD,ht,ll,s.fz _ _ hg,g1];exact g3,g4⟩
     ·rename_i i
      split at hq
      ·rename_i es hg
       cases hm with
       |fr _ _ h=>cases h
       |ba _ o a k hi hs=>
        obtain⟨bh,h1,h2,h3,h4⟩:=(s.obj i _ hg).2
        rw[hs] at h1;simp only at h1
        obtain⟨r',g1,g2⟩:=Eg h3 h4 hq
        obtain⟨v',g3,g4⟩:=fin CM g2
        exact⟨v',by simp only[tD,ht,ll,h1,g1];exact g3,g4⟩
      cases hq
     cases hq
  cases hv
 cases hv
def wP (n:Int)(v:PV)(p:PV×PV):PV×PV:=
 match p with
 |(.int k a,u)=>bif decide (a=n) then (.int k a,v) else (.int k a,u)
 |p=>p
def CN (n:Int)(p:PV×PV):Bool:=
 match p.1 with
 |.int _ a=>!decide (a=n)
 |_=>true
def Jk (kd:IntKind)(n:Int)(v:PV)(es:List (PV×PV)):Option (List (PV×PV)):=
 match xZ kd n es with
 |some (some _)=>some (es.map (wP n v))
 |some none=>some (es++[(.int kd n,v)])
 |none=>none
def Ug (P:Program)(vh:ai)(t:TypeId)(m k v:PV):Option ai:=
 match lG P t,m,k with
 |some _,.ba i,.int kd n=>
  match vh.get i with
  |some (.map es)=>bif v.aH then (Jk kd n v es).map fun es=>vh.put i (.map es) else none
  |_=>none
 |_,_,_=>none
def Uh (P:Program)(vh:ai)(t:TypeId)(m k:PV):Option ai:=
 match lG P t,m,k with
 |some _,.ba i,.int kd n=>
  match vh.get i with
  |some (.map es)=>match xZ kd n es with
   |some _=>some (vh.put i (.map (es.filter (CN n))))
   |none=>none
  |_=>none
 |_,_,_=>none
theorem Ui {n:Int}{v:PV}{v':Value}(hv:FR g v v'):∀ {es:List (PV×PV)} {bh:List (Value×Value)},be (FR g) (es.map (·.1)) (bh.map (·.1))→be (FR g) (es.map (·.2)) (bh.map (·.2))→
  be (FR g) ((es.map (wP n v)).map (·.1)) ((bh.map (jc n v')).map (·.1))∧be (FR g) ((es.map (wP n v)).map (·.2)) ((bh.map (jc n v')).map (·.2))
 |[],bh,hk,hv=>by
  cases bh with
  |nil=>exact⟨.nil,.nil⟩
  |cons=>have:=hk.1;simp at this
 |(k,u)::es,bh,hk,pP=>by
  cases bh with
  |nil=>have:=hk.1;simp at this
  |cons q bh=>
   obtain⟨k',u'⟩:=q
   obtain⟨k1,l1,e1,lp,ja⟩:=hk.dw
   simp only[List.map_cons,List.cons.injEq] at e1;obtain⟨rfl,rfl⟩:=e1
   obtain⟨k1,l1,e1,iP,eT⟩:=pP.dw
   simp only[List.map_cons,List.cons.injEq] at e1;obtain⟨rfl,rfl⟩:=e1
   have ih:=Ui (n:=n) hv ja eT
   have NB:=lp
   cases lp with
   |int kk a=>
    simp only[List.map_cons,wP,jc]
    cases hd:decide (a=n) with
    |true=>exact⟨.cons (.int _ _) ih.1,.cons hv ih.2⟩
    |false=>exact⟨.cons (.int _ _) ih.1,.cons iP ih.2⟩
   |_=>
    simp only[List.map_cons,wP,jc]
    exact⟨.cons NB ih.1,.cons iP ih.2⟩
theorem Uj {n:Int}:∀ {es:List (PV×PV)} {bh:List (Value×Value)},be (FR g) (es.map (·.1)) (bh.map (·.1))→be (FR g) (es.map (·.2)) (bh.map (·.2))→
  be (FR g) ((es.filter (CN n)).map (·.1)) ((bh.filter (oV n)).map (·.1))∧be (FR g) ((es.filter (CN n)).map (·.2)) ((bh.filter (oV n)).map (·.2))
 |[],bh,hk,hv=>by
  cases bh with
  |nil=>exact⟨.nil,.nil⟩
  |cons=>have:=hk.1;simp at this
 |(k,u)::es,bh,hk,pP=>by
  cases bh with
  |nil=>have:=hk.1;simp at this
  |cons q bh=>
   obtain⟨k',u'⟩:=q
   obtain⟨k1,l1,e1,lp,ja⟩:=hk.dw
   simp only[List.map_cons,List.cons.injEq] at e1;obtain⟨rfl,rfl⟩:=e1
   obtain⟨k1,l1,e1,iP,eT⟩:=pP.dw
   simp only[List.map_cons,List.cons.injEq] at e1;obtain⟨rfl,rfl⟩:=e1
   have ih:=Uj (n:=n) ja eT
   have same:CN n (k,u)=oV n (k',u'):=by cases lp<;>rfl
   simp only[List.filter_cons]
   rw[← same]
   cases CN n (k,u) with
   |false=>exact ih
   |true=>exact⟨.cons lp ih.1,.cons iP ih.2⟩
theorem zxm {kd:IntKind}{n:Int}{v:PV}{v':Value}{es out:List (PV×PV)}{bh:List (Value×Value)}(hv:FR g v v')(h3:be (FR g) (es.map (·.1)) (bh.map (·.1)))(h4:be (FR g) (es.map (·.2)) (bh.map (·.2)))(ho:Jk kd n v es=some out) :
  ∃eY,(match uK kd n bh with
   |some (some _)=>some (bh.map (jc n v'))
   |some none=>some (bh++[(.int kd n,v')])
   |none=>none)=some eY∧be (FR g) (out.map (·.1)) (eY.map (·.1))∧be (FR g) (out.map (·.2)) (eY.map (·.2)):=by
 unfold Jk at ho
 split at ho
 ·rename_i u hq
  injection ho with ho;subst ho
  obtain⟨q',h1,h2⟩:=Eg h3 h4 hq
  cases q' with
  |none=>exact h2.elim
  |some u'=>exact⟨_,by rw[h1],Ui hv h3 h4⟩
 ·rename_i hq
  injection ho with ho;subst ho
  obtain⟨q',h1,h2⟩:=Eg h3 h4 hq
  cases q' with
  |some=>exact h2.elim
  |none=>
   refine⟨_,by rw[h1],?_,?_⟩
   ·simp only[List.map_append,List.map_cons,List.map_nil];exact h3.append (.cons (.int _ _) .nil)
   simp only[List.map_append,List.map_cons,List.map_nil];exact h4.append (.cons hv .nil)
 cases ho
theorem rN:FR g (.bn []) Go.undef:=.bn [] #[] rfl (fun i v v' h=>by simp at h)
theorem znd (s:VS lo g σ vh h){t:TypeId}{m k v:PV}{m' k' v':Value}{ak:ai}(hm:VR g σ vh.next m m')(hk:VR g σ vh.next k k')(pP:VR g σ vh.next v v')(hv:Ug P vh t m k v=some ak) :
  ∃h',Be P lo h t m' k' v'=some h'∧iN lo g σ vh h (.bn []) ak Go.undef h':=by
 unfold Ug at hv
 split at hv
 ·rename_i ek i kd n ht
  have:=hk.aH rfl;cases this
  split at hv
  ·rename_i es hg
   cases hf:v.aH with
   |false=>rw[hf] at hv;cases hv
   |true=>
    rw[hf] at hv;simp only[aM] at hv
    obtain⟨out,ho,rfl⟩:=dd hv
    cases hm with
    |fr _ _ h=>cases h
    |ba _ o a k hi hs=>
     obtain⟨bh,h1,h2,h3,h4⟩:=(s.obj i _ hg).2
     have bD:=s.low i _ hg rfl
     obtain⟨eY,g1,g2,g3⟩:=zxm (pP.aH hf) h3 h4 ho
     have h5:=s.write hg rfl (x':=.map out) (.map eY) ⟨eY,by rw[ah.dH _ _ _ _ (ah.fJ h1),if_pos rfl],h2,g2,g3⟩
     rw[hs] at h1 bD h5;simp only at h1 bD h5
     have mf:Nat.ble lo o=true:=by rw[Nat.ble_eq];exact bD
     refine⟨h.put o (some (.map eY)),?_,σ,.fr _ _ rN,h5.1,h5.2,Nat.le_refl _,fun _ _=>rfl⟩
     simp only[Be,ht,h1,mf,aM]
     split at g1
     ·rename_i hq;simp only[hq];injection g1 with g1;rw[g1]
     ·rename_i hq;simp only[hq];injection g1 with g1;rw[g1]
     cases g1
  cases hv
 cases hv
theorem zsi (s:VS lo g σ vh h){t:TypeId}{m k:PV}{m' k':Value}{ak:ai}(hm:VR g σ vh.next m m')(hk:VR g σ vh.next k k')(hv:Uh P vh t m k=some ak) :
  ∃h',Bh P lo h t m' k'=some h'∧iN lo g σ vh h (.bn []) ak Go.undef h':=by
 unfold Uh at hv
 split at hv
 ·rename_i ek i kd n ht
  have:=hk.aH rfl;cases this
  split at hv
  ·rename_i es hg
   split at hv
   ·rename_i q hq
    injection hv with hv;subst hv
    cases hm with
    |fr _ _ h=>cases h
    |ba _ o a k hi hs=>
     obtain⟨bh,h1,h2,h3,h4⟩:=(s.obj i _ hg).2
     have bD:=s.low i _ hg rfl
     obtain⟨g1,g2⟩:=Uj (n:=n) h3 h4
     obtain⟨q',g3,_⟩:=Eg h3 h4 hq
     have h5:=s.write hg rfl (x':=.map (es.filter (CN n))) (.map (bh.filter (oV n))) ⟨_,by rw[ah.dH _ _ _ _ (ah.fJ h1),if_pos rfl],h2,g1,g2⟩
     rw[hs] at h1 bD h5;simp only at h1 bD h5
     have mf:Nat.ble lo o=true:=by rw[Nat.ble_eq];exact bD
     exact⟨_,by simp only[Bh,ht,h1,mf,aM,g3],σ,.fr _ _ rN,h5.1,h5.2,Nat.le_refl _,fun _ _=>rfl⟩
   cases hv
  cases hv
 cases hv
def jk:List PV→Option (List Value)
 |[]=>some []
 |.int k n::r=>(jk r).map (Value.int k n::·)
 |_=>none
theorem Uk:∀ {ds:List PV} {l l':List Value},jk ds=some l→be (FR g) ds l'→l'=l
 |[],l,l',h,hr=>by simp only[jk,az] at h;subst h;exact hr.iW
 |d::r,l,l',h,hr=>by
  obtain⟨v',s,rfl,h1,h2⟩:=hr.dw
  cases d with
  |int k n=>
   simp only[jk] at h
   obtain⟨q,hq,rfl⟩:=dd h
   cases h1
   rw[Uk hq h2]
  |_=>simp[jk] at h
theorem Jl:∀ {ds:List PV} {l:List Value},jk ds=some l→PV.aJ ds=true
 |[],l,h=>rfl
 |d::r,l,h=>by
  cases d with
  |int k n=>
   simp only[jk] at h
   obtain⟨q,hq,rfl⟩:=dd h
   simp only[PV.aJ,PV.aH,Bool.true_and]
   exact Jl hq
  |_=>simp[jk] at h
theorem G5 {ds:List PV}{l:List Value}{k':Value}(h:jk ds=some l)(hk:FR g (.agg ds) k'):k'=.agg l.toArray:=by
 cases hk with
 |agg _ cs hl hr=>rw[show cs=l.toArray from Array.ext' (by simpa using Uk h ⟨by simpa using hl,fun i v v' h1 h2=>hr i v v' h1 (by simpa using h2)⟩)]
def kV (l:List Value):List (PV×PV)→Option (Option PV)
 |[]=>some none
 |(.agg ds,v)::r=>match jk ds with
  |some m=>match iu l m,kV l r with
   |some s,some q=>some (bif s then some v else q)
   |_,_=>none
  |none=>none
 |_=>none
theorem Eh {l:List Value}:∀ {es:List (PV×PV)} {bh:List (Value×Value)} {r:Option PV},be (FR g) (es.map (·.1)) (bh.map (·.1))→be (FR g) (es.map (·.2)) (bh.map (·.2))→kV l es=some r→
  ∃r',r6 l bh=some r'∧zC (FR g) r r'
 |[],bh,r,hk,hv,hr=>by
  simp only[kV,az] at hr;subst hr
  cases bh with
  |nil=>exact⟨none,rfl,trivial⟩
  |cons=>have:=hk.1;simp at this
 |(k,v)::es,bh,r,hk,hv,hr=>by
  cases bh with
  |nil=>have:=hk.1;simp at this
  |cons q bh=>
   obtain⟨k',v'⟩:=q
   obtain⟨k1,l1,e1,lp,ja⟩:=hk.dw
   simp only[List.map_cons,List.cons.injEq] at e1;obtain⟨rfl,rfl⟩:=e1
   obtain⟨k1,l1,e1,iP,eT⟩:=hv.dw
   simp only[List.map_cons,List.cons.injEq] at e1;obtain⟨rfl,rfl⟩:=e1
   cases k with
   |agg ds=>
    simp only[kV] at hr
    split at hr
    ·rename_i m hm
     have tQ:=G5 hm lp
     subst tQ
     split at hr
     ·rename_i s q hs hq
      injection hr with hr;subst hr
      obtain⟨r',g1,g2⟩:=Eh ja eT hq
      refine⟨bif s then some v' else r',by simp[r6,hs,g1],?_⟩
      cases s with
      |true=>exact iP
      |false=>exact g2
     cases hr
    cases hr
   |_=>simp[kV] at hr
def sU (vh:ai)(l:List Value)(m:PV):Option (Option PV):=
 match m with
 |.dM=>some none
 |.aC es=>kV l es
 |.ba i=>match vh.get i with
  |some (.map es)=>kV l es
  |_=>none
 |_=>none
def ue (P:Program)(vh:ai)(t:TypeId)(m:PV)(ds:List PV)(ok:Bool):Option PV:=
 match yr P t,jk ds with
 |some (_,e,n),some l=>
  bif !(gr l&&Nat.beq l.length n) then none else
  match (ey P e).bind bp with
  |some z=>
   match sU vh l m with
   |some (some v)=>some (bif ok then .bn [v,.bool true] else v)
   |some none=>some (bif ok then .bn [z,.bool false] else z)
   |none=>none
  |none=>none
 |_,_=>none
theorem zr7 (s:VS lo g σ vh h){t:TypeId}{m v:PV}{ds:List PV}{m' k':Value}{ok:Bool}(hm:VR g σ vh.next m m')(hk:VR g σ vh.next (.agg ds) k')(hv:ue P vh t m ds ok=some v):∃v',tF P h t m' k' ok=some v'∧FR g v v':=by
 unfold ue at hv
 split at hv
 ·rename_i kt e n l ht hl
  have G6:=G5 hl (hk.aH (by simp only[PV.aH];exact Jl hl))
  subst G6
  cases hb:(!(gr l&&Nat.beq l.length n)) with
  |true=>rw[hb] at hv;cases hv
  |false=>
  rw[hb,bq] at hv
  split at hv
  ·rename_i z hz
   cases ll:ey P e with
   |none=>rw[ll] at hz;cases hz
   |some z'=>
    rw[ll] at hz
    have G4:=(yH (g:=g) hz).1
    have fin:∀ {q:Option PV} {q':Option Value},sU vh l m=some q→zC (FR g) q q'→∃v',(match some q' with
      |some (some v)=>some (bif ok then .tuple #[v,.bool true] else v)
      |some none=>some (bif ok then .tuple #[z',.bool false] else z')
      |none=>none:Option Value)=some v'∧FR g v v':=fun {q q'} hq hr=>by
     rw[hq] at hv
     cases q with
     |none=>
      cases q' with
      |some=>exact hr.elim
      |none=>
       simp only[az] at hv;subst hv
       refine⟨_,rfl,?_⟩
       cases ok with
       |true=>exact Jj G4
       |false=>exact G4
     |some u=>
      cases q' with
      |none=>exact hr.elim
      |some u'=>
       simp only[az] at hv;subst hv
       refine⟨_,rfl,?_⟩
       cases ok with
       |true=>exact Jj hr
       |false=>exact hr
    cases hq:sU vh l m with
    |none=>rw[hq] at hv;cases hv
    |some q=>
     have CM:=hq
     unfold sU at hq
     split at hq
     ·injection hq with hq;subst hq
      have:=hm.aH rfl;cases this
      obtain⟨v',g1,g2⟩:=fin (q':=none) CM trivial
      exact⟨v',by simp only[tF,yt,ht,hb,bq,ll];exact g1,g2⟩
     ·have:=hm.aH rfl
      cases this with
      |aC _ o bh hg hlen rk rv=>
       obtain⟨h3,h4⟩:=Ue hlen rk rv
       obtain⟨r',g1,g2⟩:=Eh h3 h4 hq
       obtain⟨v',g3,g4⟩:=fin CM g2
       exact⟨v',by simp only[tF,yt,ht,hb,bq,ll,s.fz _ _ hg,g1];exact g3,g4⟩
     ·rename_i i
      split at hq
      ·rename_i es hg
       cases hm with
       |fr _ _ h=>cases h
       |ba _ o a k hi hs=>
        obtain⟨bh,h1,h2,h3,h4⟩:=(s.obj i _ hg).2
        rw[hs] at h1;simp only at h1
        obtain⟨r',g1,g2⟩:=Eh h3 h4 hq
        obtain⟨v',g3,g4⟩:=fin CM g2
        exact⟨v',by simp only[tF,yt,ht,hb,bq,ll,h1,g1];exact g3,g4⟩
      cases hq
     cases hq
  cases hv
 cases hv
def qP (l:List Value)(k:PV):Bool:=match k with
 |.agg ds=>match jk ds with
  |some m=>match iu l m with|some s=>s|none=>false
  |none=>false
 |_=>false
def G0 (l:List Value)(ds:List PV)(v:PV)(p:PV×PV):PV×PV:=bif qP l p.1 then (.agg ds,v) else p
def CO (l:List Value)(p:PV×PV):Bool:=!qP l p.1
def qz (l:List Value)(ds:List PV)(v:PV)(es:List (PV×PV)):Option (List (PV×PV)):=
 match kV l es with
 |some (some _)=>some (es.map (G0 l ds v))
 |some none=>some (es++[(.agg ds,v)])
 |none=>none
theorem NC {l:List Value}:∀ {es:List (PV×PV)} {r:Option PV},kV l es=some r→∀p∈es,∃ds m s,p.1=.agg ds∧jk ds=some m∧iu l m=some s
 |[],r,h,p,hp=>by cases hp
 |(k,v)::es,r,h,p,hp=>by
  cases k with
  |agg ds=>
   simp only[kV] at h
   split at h
   ·rename_i m hm
    split at h
    ·rename_i s q hs hq
     rcases List.mem_cons.1 hp with rfl|hp
     ·exact⟨ds,m,s,rfl,hm,hs⟩
     exact NC hq p hp
    cases h
   cases h
  |_=>simp[kV] at h
theorem Ul {l:List Value}{es:List (PV×PV)}{k:PV}{k':Value}(hk:∃ds m s,k=.agg ds∧jk ds=some m∧iu l m=some s)(hr:FR g k k'):zX l k'=qP l k:=by
 obtain⟨ds,m,s,rfl,h2,h3⟩:=hk
 rw[G5 h2 hr]
 simp only[zX,qP,h2,h3]
theorem Um {l:List Value}{ds:List PV}{xs:Array Value}{v:PV}{v':Value}(hx:xs.toList=l)(hd:FR g (.agg ds) (.agg xs))(hv:FR g v v'):∀ {es:List (PV×PV)} {bh:List (Value×Value)},(∀p∈es,∃ds m s,p.1=.agg ds∧jk ds=some m∧iu l m=some s)→be (FR g) (es.map (·.1)) (bh.map (·.1))→be (FR g) (es.map (·.2)) (bh.map (·.2))→
  be (FR g) ((es.map (G0 l ds v)).map (·.1)) ((bh.map (yu xs v')).map (·.1))∧be (FR g) ((es.map (G0 l ds v)).map (·.2)) ((bh.map (yu xs v')).map (·.2))
 |[],bh,_,hk,hv=>by
  cases bh with
  |nil=>exact⟨.nil,.nil⟩
  |cons=>have:=hk.1;simp at this
 |(k,u)::es,bh,ha,hk,pP=>by
  cases bh with
  |nil=>have:=hk.1;simp at this
  |cons q bh=>
   obtain⟨k',u'⟩:=q
   obtain⟨k1,l1,e1,lp,ja⟩:=hk.dw
   simp only[List.map_cons,List.cons.injEq] at e1;obtain⟨rfl,rfl⟩:=e1
   obtain⟨k1,l1,e1,iP,eT⟩:=pP.dw
   simp only[List.map_cons,List.cons.injEq] at e1;obtain⟨rfl,rfl⟩:=e1
   have ih:=Um hx hd hv (fun p hp=>ha p (List.mem_cons_of_mem _ hp)) ja eT
   have he:=Ul (es:=es) (ha (k,u) List.mem_cons_self) lp
   simp only[List.map_cons,G0,yu,hx,he]
   cases qP l k with
   |true=>exact⟨.cons hd ih.1,.cons hv ih.2⟩
   |false=>exact⟨.cons lp ih.1,.cons iP ih.2⟩
theorem Un {l:List Value}{xs:Array Value}(hx:xs.toList=l):∀ {es:List (PV×PV)} {bh:List (Value×Value)},(∀p∈es,∃ds m s,p.1=.agg ds∧jk ds=some m∧iu l m=some s)→be (FR g) (es.map (·.1)) (bh.map (·.1))→be (FR g) (es.map (·.2)) (bh.map (·.2))→
  be (FR g) ((es.filter (CO l)).map (·.1)) ((bh.filter (uO xs)).map (·.1))∧be (FR g) ((es.filter (CO l)).map (·.2)) ((bh.filter (uO xs)).map (·.2))
 |[],bh,_,hk,hv=>by
  cases bh with
  |nil=>exact⟨.nil,.nil⟩
  |cons=>have:=hk.1;simp at this
 |(k,u)::es,bh,ha,hk,pP=>by
  cases bh with
  |nil=>have:=hk.1;simp at this
  |cons q bh=>
   obtain⟨k',u'⟩:=q
   obtain⟨k1,l1,e1,lp,ja⟩:=hk.dw
   simp only[List.map_cons,List.cons.injEq] at e1;obtain⟨rfl,rfl⟩:=e1
   obtain⟨k1,l1,e1,iP,eT⟩:=pP.dw
   simp only[List.map_cons,List.cons.injEq] at e1;obtain⟨rfl,rfl⟩:=e1
   have ih:=Un hx (fun p hp=>ha p (List.mem_cons_of_mem _ hp)) ja eT
   have he:=Ul (es:=es) (ha (k,u) List.mem_cons_self) lp
   have same:CO l (k,u)=uO xs (k',u'):=by unfold CO uO;rw[hx,he]
   simp only[List.filter_cons]
   rw[← same]
   cases CO l (k,u) with
   |false=>exact ih
   |true=>exact⟨.cons lp ih.1,.cons iP ih.2⟩
def uf (P:Program)(vh:ai)(t:TypeId)(m:PV)(ds:List PV)(v:PV):Option ai:=
 match yr P t,m,jk ds with
 |some (_,_,n),.ba i,some l=>
  bif !(gr l&&Nat.beq l.length n) then none else
  match vh.get i with
  |some (.map es)=>bif v.aH then (qz l ds v es).map fun es=>vh.put i (.map es) else none
  |_=>none
 |_,_,_=>none
theorem znc (s:VS lo g σ vh h){t:TypeId}{m v:PV}{ds:List PV}{m' k' v':Value}{ak:ai}(hm:VR g σ vh.next m m')(hk:VR g σ vh.next (.agg ds) k')(pP:VR g σ vh.next v v')(hv:uf P vh t m ds v=some ak) :
  ∃h',zY P lo h t m' k' v'=some h'∧iN lo g σ vh h (.bn []) ak Go.undef h':=by
 unfold uf at hv
 split at hv
 ·rename_i kt e n i l ht hl
  have ND:=hk.aH (by simp only[PV.aH];exact Jl hl)
  have G6:=G5 hl ND
  subst G6
  cases hb:(!(gr l&&Nat.beq l.length n)) with
  |true=>rw[hb] at hv;cases hv
  |false=>
  rw[hb,bq] at hv
  split at hv
  ·rename_i es hg
   cases hf:v.aH with
   |false=>rw[hf] at hv;cases hv
   |true=>
    rw[hf] at hv;simp only[aM] at hv
    obtain⟨out,ho,rfl⟩:=dd hv
    cases hm with
    |fr _ _ h=>cases h
    |ba _ o a k hi hs=>
     obtain⟨bh,h1,h2,h3,h4⟩:=(s.obj i _ hg).2
     have bD:=s.low i _ hg rfl
     have Uo:=pP.aH hf
     obtain⟨eY,g1,g2,g3⟩:∃eY,(match r6 l bh with
       |some (some _)=>some (bh.map (yu l.toArray v'))
       |some none=>some (bh++[(.agg l.toArray,v')])
       |none=>none)=some eY∧be (FR g) (out.map (·.1)) (eY.map (·.1))∧be (FR g) (out.map (·.2)) (eY.map (·.2)):=by
      unfold qz at ho
      split at ho
      ·rename_i u hq
       injection ho with ho;subst ho
       obtain⟨q',e1,e2⟩:=Eh h3 h4 hq
       cases q' with
       |none=>exact e2.elim
       |some u'=>exact⟨_,by rw[e1],Um (by simp) ND Uo (NC hq) h3 h4⟩
      ·rename_i hq
       injection ho with ho;subst ho
       obtain⟨q',e1,e2⟩:=Eh h3 h4 hq
       cases q' with
       |some=>exact e2.elim
       |none=>
        refine⟨_,by rw[e1],?_,?_⟩
        ·simp only[List.map_append,List.map_cons,List.map_nil];exact h3.append (.cons ND .nil)
        simp only[List.map_append,List.map_cons,List.map_nil];exact h4.append (.cons Uo .nil)
      cases ho
     have h5:=s.write hg rfl (x':=.map out) (.map eY) ⟨eY,by rw[ah.dH _ _ _ _ (ah.fJ h1),if_pos rfl],h2,g2,g3⟩
     rw[hs] at h1 bD h5;simp only at h1 bD h5
     have mf:Nat.ble lo o=true:=by rw[Nat.ble_eq];exact bD
     refine⟨h.put o (some (.map eY)),?_,σ,.fr _ _ rN,h5.1,h5.2,Nat.le_refl _,fun _ _=>rfl⟩
     simp only[zY,HG,ht,hb,bq,h1,mf,aM]
     split at g1
     ·rename_i hq;simp only[hq];injection g1 with g1;rw[g1]
     ·rename_i hq;simp only[hq];injection g1 with g1;rw[g1]
     cases g1
  cases hv
 cases hv
def NF (P:Program)(vh:ai)(t:TypeId)(m:PV)(ds:List PV):Option ai:=
 match yr P t,m,jk ds with
 |some (_,_,n),.ba i,some l=>
  bif !(gr l&&Nat.beq l.length n) then none else
  match vh.get i with
  |some (.map es)=>match kV l es with
   |some _=>some (vh.put i (.map (es.filter (CO l))))
   |none=>none
  |_=>none
 |_,_,_=>none
theorem zsn (s:VS lo g σ vh h){t:TypeId}{m:PV}{ds:List PV}{m' k':Value}{ak:ai}(hm:VR g σ vh.next m m')(hk:VR g σ vh.next (.agg ds) k')(hv:NF P vh t m ds=some ak) :
  ∃h',oX P lo h t m' k'=some h'∧iN lo g σ vh h (.bn []) ak Go.undef h':=by
 unfold NF at hv
 split at hv
 ·rename_i kt e n i l ht hl
  have G6:=G5 hl (hk.aH (by simp only[PV.aH];exact Jl hl))
  subst G6
  cases hb:(!(gr l&&Nat.beq l.length n)) with
  |true=>rw[hb] at hv;cases hv
  |false=>
  rw[hb,bq] at hv
  split at hv
  ·rename_i es hg
   split at hv
   ·rename_i q hq
    injection hv with hv;subst hv
    cases hm with
    |fr _ _ h=>cases h
    |ba _ o a k hi hs=>
     obtain⟨bh,h1,h2,h3,h4⟩:=(s.obj i _ hg).2
     have bD:=s.low i _ hg rfl
     obtain⟨g1,g2⟩:=Un (xs:=l.toArray) (by simp) (NC hq) h3 h4
     obtain⟨q',g3,_⟩:=Eh h3 h4 hq
     have h5:=s.write hg rfl (x':=.map (es.filter (CO l))) (.map (bh.filter (uO l.toArray))) ⟨_,by rw[ah.dH _ _ _ _ (ah.fJ h1),if_pos rfl],h2,g1,g2⟩
     rw[hs] at h1 bD h5;simp only at h1 bD h5
     have mf:Nat.ble lo o=true:=by rw[Nat.ble_eq];exact bD
     exact⟨_,by simp only[oX,HH,ht,hb,bq,h1,mf,aM,g3],σ,.fr _ _ rN,h5.1,h5.2,Nat.le_refl _,fun _ _=>rfl⟩
   cases hv
  cases hv
 cases hv
def sB (P:Program)(vh:ai)(t:TypeId)(m k:PV)(ok:Bool):Option PV:=
 match k with
 |.agg ds=>ue P vh t m ds ok
 |k=>
 match lG P t,k with
 |some (_,e),.int kd n=>
  match (ey P e).bind bp with
  |some z=>
   match qt vh kd n m with
   |some (some v)=>some (bif ok then .bn [v,.bool true] else v)
   |some none=>some (bif ok then .bn [z,.bool false] else z)
   |none=>none
  |none=>none
 |_,_=>none
def rq (P:Program)(vh:ai)(t:TypeId)(m k v:PV):Option ai:=
 match k with
 |.agg ds=>uf P vh t m ds v
 |k=>
 match lG P t,m,k with
 |some _,.ba i,.int kd n=>
  match vh.get i with
  |some (.map es)=>bif v.aH then (Jk kd n v es).map fun es=>vh.put i (.map es) else none
  |_=>none
 |_,_,_=>none
def sC (P:Program)(vh:ai)(t:TypeId)(m k:PV):Option ai:=
 match k with
 |.agg ds=>NF P vh t m ds
 |k=>
 match lG P t,m,k with
 |some _,.ba i,.int kd n=>
  match vh.get i with
  |some (.map es)=>match xZ kd n es with
   |some _=>some (vh.put i (.map (es.filter (CN n))))
   |none=>none
  |_=>none
 |_,_,_=>none
theorem zx2 {P:Program}{h:ah}{t:TypeId}{m k v:Value}{ok:Bool}(ha:tD P h t m k ok=some v):tF P h t m k ok=some v:=by
 cases k with
 |agg xs=>unfold tD at ha;split at ha<;>simp_all
 |_=>exact ha
theorem zwk {P:Program}{lo:Nat}{h h':ah}{t:TypeId}{m k v:Value}(ha:Be P lo h t m k v=some h'):zY P lo h t m k v=some h':=by
 cases k with
 |agg xs=>unfold Be at ha;split at ha<;>simp_all
 |_=>exact ha
theorem zzs {P:Program}{lo:Nat}{h h':ah}{t:TypeId}{m k:Value}(ha:Bh P lo h t m k=some h'):oX P lo h t m k=some h':=by
 cases k with
 |agg xs=>unfold Bh at ha;split at ha<;>simp_all
 |_=>exact ha
theorem zvr (s:VS lo g σ vh h){t:TypeId}{m k v:PV}{m' k':Value}{ok:Bool}(hm:VR g σ vh.next m m')(hk:VR g σ vh.next k k')(hv:sB P vh t m k ok=some v):∃v',tF P h t m' k' ok=some v'∧FR g v v':=by
 unfold sB at hv
 split at hv
 ·exact zr7 s hm hk hv
 obtain⟨v',h1,h2⟩:=zq8 s hm hk hv
 exact⟨v',zx2 h1,h2⟩
theorem Up (s:VS lo g σ vh h){t:TypeId}{m k v:PV}{m' k' v':Value}{ak:ai}(hm:VR g σ vh.next m m')(hk:VR g σ vh.next k k')(pP:VR g σ vh.next v v')(hv:rq P vh t m k v=some ak) :
  ∃h',zY P lo h t m' k' v'=some h'∧iN lo g σ vh h (.bn []) ak Go.undef h':=by
 unfold rq at hv
 split at hv
 ·exact znc s hm hk pP hv
 obtain⟨h',h1,h2⟩:=znd s hm hk pP hv
 exact⟨h',zwk h1,h2⟩
theorem zuu (s:VS lo g σ vh h){t:TypeId}{m k:PV}{m' k':Value}{ak:ai}(hm:VR g σ vh.next m m')(hk:VR g σ vh.next k k')(hv:sC P vh t m k=some ak) :
  ∃h',oX P lo h t m' k'=some h'∧iN lo g σ vh h (.bn []) ak Go.undef h':=by
 unfold sC at hv
 split at hv
 ·exact zsn s hm hk hv
 obtain⟨h',h1,h2⟩:=zsi s hm hk hv
 exact⟨h',zzs h1,h2⟩
def sD (P:Program)(vh:ai)(t:TypeId)(x:PV):Option ai:=
 match fT P t,x with
 |some _,.aG=>some vh
 |some _,.vec []=>some vh
 |some (e,n),.sub i off (l+1)=>
  match eA P e,vh.get i with
  |some z,some (.arr ag sz cs)=>bif Nat.beq z.length n&&Nat.beq sz n&&Nat.ble (off+(l+1)*n) cs.length&&z.all PV.one then some (vh.put i (.arr ag sz (kx cs off (cG z (l+1))))) else none
  |_,_=>none
 |_,_=>none
theorem zy2 (s:VS lo g σ vh h){t:TypeId}{x:PV}{x':Value}{ak:ai}(hx:VR g σ vh.next x x')(hv:sD P vh t x=some ak) :
  ∃h',w8 P lo h t x'=some h'∧iN lo g σ vh h (.bn []) ak Go.undef h':=by
 unfold sD at hv
 split at hv
 ·rename_i q ht
  injection hv with hv;subst hv
  have:=hx.aH rfl;cases this
  exact⟨h,by simp only[w8,ht],.same s (.fr _ _ rN)⟩
 ·rename_i q ht
  injection hv with hv;subst hv
  have:=hx.aH rfl
  cases this with
  |fu=>exact⟨h,by simp only[w8,ht],.same s (.fr _ _ rN)⟩
  |de=>exact⟨h,by simp only[w8,ht],.same s (.fr _ _ rN)⟩
  |vec _ o off k s0 sz ar=>exact⟨h,by simp only[w8,ht,List.length_nil],.same s (.fr _ _ rN)⟩
 ·rename_i e n i off l ht
  split at hv
  ·rename_i z ag sz cs hz hg
   cases hb:(Nat.beq z.length n&&Nat.beq sz n&&Nat.ble (off+(l+1)*n) cs.length&&z.all PV.one) with
   |false=>rw[hb] at hv;cases hv
   |true=>
    rw[hb] at hv;simp only[aM,az] at hv;subst hv
    simp only[bV,beq_eq,decide_eq_true_eq,Nat.ble_eq] at hb
    obtain⟨⟨⟨b1,b2⟩,b3⟩,b4⟩:=hb
    subst b2
    obtain⟨z',k1,k2⟩:=xp (g:=g) hz
    obtain⟨h0,s0,ar,h1,h2,h3⟩:=(s.obj i _ hg).2
    have bD:=s.low i _ hg rfl
    cases hx with
    |fr _ _ h=>cases h
    |sub _ _ _ k o a kk hi hs hl hk=>
     rw[hs] at h1 h2 bD;simp only at h1 h2 bD;subst h2
     have iE:be (FR g) (kx cs off (cG z (l+1))) (fq ar off (cR z' (l+1))):=h3.fq off (Dw k2 _)
     have hw:=s.write hg rfl (x':=.arr ag sz (kx cs off (cG z (l+1)))) (.cells s0 (fq ar off (cR z' (l+1)))) ⟨h0,s0,_,by rw[hs,ah.dH _ _ _ _ (ah.fJ h1),if_pos rfl],by rw[hs],iE⟩
     rw[hs] at hw
     have e1:Nat.ble lo o=true:=by rw[Nat.ble_eq];exact bD
     have e2:Nat.beq z'.length sz=true:=by rw[← k2.1,beq_eq];simpa using b1
     have e3:Nat.ble (0+off+(l+1)*sz) ar.length=true:=by rw[Nat.ble_eq,← h3.1];omega
     have e4:z'.all (·.oneCell')=true:=be.u7 (σ:=σ) (n:=vh.next) k2.vr b4
     refine⟨_,by simp only[w8,ht,k1,h1,e1,e2,e3,e4,Bool.and_true,aM];rfl,σ,.fr _ _ rN,?_,?_,Nat.le_refl _,fun _ _=>rfl⟩
     ·simpa using hw.1
     simpa using hw.2
  cases hv
 cases hv
end
def iA:List PV→Option (List Value)
 |[]=>some []
 |v::r=>match pa v,iA r with
  |some x,some l=>some (x::l)
  |_,_=>none
def sy (P:Program)(vh:ai)(b:Builtin)(argTypes:List TypeId)(args:List PV):Option (PV×ai):=
 match b,argTypes,args with
 |.len,[t],[x]=>(kh P vh t x).map (·,vh)
 |.append,[s,x],[a,b]=>sA P vh s x a b
 |.copy,[d,_],[a,b]=>dh P vh d a b
 |.delete,[t,_],[m,k]=>(sC P vh t m k).map fun ak=>(.bn [],ak)
 |.clear,[t],[x]=>(sD P vh t x).map fun ak=>(.bn [],ak)
 |.max,_,x::r=>match iA (x::r) with
  |some (x::r)=>((kL true x r).bind bp).map (·,vh)
  |_=>none
 |.min,_,x::r=>match iA (x::r) with
  |some (x::r)=>((kL false x r).bind bp).map (·,vh)
  |_=>none
 |_,_,_=>none
def eo (P:Program)(ae:aX)(vh:ai):Op→Option (PV×ai)
 |.move x=>(cN ae x).map (·,vh)
 |.assign x=>(cN ae x).map (·,vh)
 |.pick c a b=>match cN ae c with
  |some (.bool true)=>(cN ae a).map (·,vh)
  |some (.bool false)=>(cN ae b).map (·,vh)
  |_=>none
 |.alloc t=>ss P vh t
 |.box _ x=>(cN ae x).map (ki vh)
 |.build t parts=>match o9 ae parts.toList with
  |some l=>(lQ P t l).map (·,vh)
  |none=>none
 |.buildSlice t n parts=>match o9 ae parts.toList with
  |some l=>qo P vh t n l
  |none=>none
 |.load t a=>match cN ae a with
  |some p=>(rp P vh t p).map (·,vh)
  |none=>none
 |.store t a x=>match cN ae a,cN ae x with
  |some p,some v=>(sv P vh t p v).map fun ak=>(.bn [],ak)
  |_,_=>none
 |.nilCheck x=>match cN ae x with
  |some (.ptr i off)=>some (.ptr i off,vh)
  |some (.vp cs)=>some (.vp cs,vh)
  |some (.func f xs ys)=>some (.func f xs ys,vh)
  |_=>none
 |.binOp op t x y _=>match cN ae x,cN ae y with
  |some a,some b=>(kg P op t a b).map (·,vh)
  |_,_=>none
 |.unOp op _ x=>match (cN ae x).bind pa with
  |some a=>((qe op a).bind bp).map (·,vh)
  |none=>none
 |.convert s d x=>match (cN ae x).bind pa with
  |some a=>((qf P s d a).bind bp).map (·,vh)
  |none=>none
 |.makeFunc (.func f) first captured=>match jL ae first.toList,jL ae captured.toList with
  |some xs,some ys=>some (.func f xs ys,vh)
  |_,_=>none
 |.makeMap _ none=>some (su vh)
 |.makeSlice t l c=>match cN ae l,cN ae c with
  |some a,some b=>qq P vh t a b
  |_,_=>none
 |.slice t x lo hi none=>match cN ae x,vO ae lo,vO ae hi with
  |some v,some l,some u=>(sj P t v l u).map (·,vh)
  |_,_,_=>none
 |.slice t x lo hi (some mx)=>match cN ae x,vO ae lo,vO ae hi,vO ae (some mx) with
  |some v,some l,some u,some m=>match BJ P t v l u m with
   |some r=>some (r,vh)
   |none=>bif (l.isNone||lq l)&&lq u&&lq m then (sn P t v).map (·,vh) else none
  |_,_,_,_=>none
 |.fieldAddr s x f=>match cN ae x with
  |some p=>(sg P s p f).map (·,vh)
  |none=>none
 |.field s x f=>match cN ae x with
  |some p=>(sd P s p f).map (·,vh)
  |none=>none
 |.indexAddr t x i=>match cN ae x,cN ae i with
  |some a,some b=>(sh P t a b).map (·,vh)
  |_,_=>none
 |.index t x i=>match cN ae x,cN ae i with
  |some a,some b=>(se P t a b).map (·,vh)
  |_,_=>none
 |.lookup t m k ok=>match cN ae m,cN ae k with
  |some a,some b=>(sB P vh t a b ok).map (·,vh)
  |_,_=>none
 |.mapUpdate t m k x=>match cN ae m,cN ae k,cN ae x with
  |some a,some b,some c=>(rq P vh t a b c).map fun ak=>(.bn [],ak)
  |_,_,_=>none
 |.insert t m k x=>match cN ae m,cN ae k,cN ae x with
  |some a,some b,some c=>(rq P vh t a b c).map fun ak=>(.bn [],ak)
  |_,_,_=>none
 |.extract x i=>match cN ae x with
  |some a=>(sf a i).map (·,vh)
  |none=>none
 |.call ⟨.builtin b,args,argTypes⟩=>match jL ae args.toList with
  |some l=>sy P vh b argTypes.toList l
  |none=>none
 |_=>none
section
variable {P:Program} {lo:Nat} {g:Fz} {σ:Sg} {vh:ai} {h:ah} {ae:aX} {ts:aI}
theorem NG {n:Nat}:∀ {l:List PV} {l' xs:List Value},be (VR g σ n) l l'→iA l=some xs→l'=xs
 |[],l',xs,hl,h=>by simp only[iA,az] at h;subst h;exact hl.iW
 |v::r,l',xs,hl,h=>by
  simp only[iA] at h
  split at h
  ·rename_i p l h1 h2
   injection h with h;subst h
   obtain⟨v',r',rfl,k1,k2⟩:=hl.dw
   rw[E9 k1 h1,NG k2 h2]
  cases h
theorem nD {α:Type}{o:Option PV}{vh ak:ai}{v:PV}(h:o.map (·,vh)=some (v,ak)):o=some v∧ak=vh:=by
 obtain⟨a,h1,h2⟩:=dd h
 simp only[bO] at h2
 exact⟨h2.1▸h1,h2.2.symm⟩
theorem zri (s:VS lo g σ vh h){b:Builtin}{aT:List TypeId}{args:List PV}{aB:List Value}{v:PV}{ak:ai}(ha:be (VR g σ vh.next) args aB)(hv:sy P vh b aT args=some (v,ak)) :
  ∃v' h',ow P lo h b aT aB=some (v',h')∧iN lo g σ vh h v ak v' h':=by
 unfold sy at hv
 split at hv
 ·obtain⟨h1,rfl⟩:=nD (α:=Unit) hv
  obtain⟨x',r1,rfl,hx,h2⟩:=ha.dw
  have:=h2.iW;subst this
  obtain⟨v',g1,g2⟩:=Xi s hx h1
  exact⟨v',h,by simp only[ow,g1,Option.map_some],.same s (.fr _ _ g2)⟩
 ·obtain⟨x',r1,rfl,hx,h2⟩:=ha.dw
  obtain⟨y',r2,rfl,hy,h3⟩:=h2.dw
  have:=h3.iW;subst this
  exact zu5 s hx hy hv
 ·obtain⟨x',r1,rfl,hx,h2⟩:=ha.dw
  obtain⟨y',r2,rfl,hy,h3⟩:=h2.dw
  have:=h3.iW;subst this
  exact z1t s hx hy hv
 ·obtain⟨b9,h1,h2⟩:=dd hv
  simp only[bO] at h2;obtain⟨rfl,rfl⟩:=h2
  obtain⟨x',r1,rfl,hx,h2⟩:=ha.dw
  obtain⟨y',r2,rfl,hy,h3⟩:=h2.dw
  have:=h3.iW;subst this
  obtain⟨h',g1,g2⟩:=zuu s hx hy h1
  exact⟨_,h',by simp only[ow,g1,Option.map_some],g2⟩
 ·obtain⟨b9,h1,h2⟩:=dd hv
  simp only[bO] at h2;obtain⟨rfl,rfl⟩:=h2
  obtain⟨x',r1,rfl,hx,h2⟩:=ha.dw
  have:=h2.iW;subst this
  obtain⟨h',g1,g2⟩:=zy2 s hx h1
  exact⟨_,h',by simp only[ow,g1,Option.map_some],g2⟩
 ·split at hv
  ·rename_i x r hc
   obtain⟨h1,rfl⟩:=nD (α:=Unit) hv
   have:=NG ha hc;subst this
   cases hm:kL true x r with
   |none=>rw[hm] at h1;cases h1
   |some u=>rw[hm] at h1;exact⟨u,h,by simp only[ow,hm,Option.map_some],.same s (.fr _ _ (yH h1).1)⟩
  cases hv
 ·split at hv
  ·rename_i x r hc
   obtain⟨h1,rfl⟩:=nD (α:=Unit) hv
   have:=NG ha hc;subst this
   cases hm:kL false x r with
   |none=>rw[hm] at h1;cases h1
   |some u=>rw[hm] at h1;exact⟨u,h,by simp only[ow,hm,Option.map_some],.same s (.fr _ _ (yH h1).1)⟩
  cases hv
 cases hv
theorem CP (s:VS lo g σ vh h)(ht:VT g σ vh.next ae ts){op:Op}{v:PV}{ak:ai}(hv:eo P ae vh op=some (v,ak)):∃v' h',ct P lo ts h op=some (v',h')∧iN lo g σ vh h v ak v' h':=by
 have pure:∀ {o:Option PV} {v':Value},ak=vh→VR g σ vh.next v v'→ct P lo ts h op=some (v',h)→∃v' h',ct P lo ts h op=some (v',h')∧iN lo g σ vh h v ak v' h':=fun {o v'} e hr ha=>by
  subst e;exact⟨_,_,ha,.same s hr⟩
 unfold eo at hv
 split at hv
 ·obtain⟨h1,e⟩:=nD (α:=Unit) hv
  obtain⟨v',g1,g2⟩:=eH ht h1
  exact pure (o:=none) e g2 (by simp only[ct,g1,Option.map_some])
 ·obtain⟨h1,e⟩:=nD (α:=Unit) hv
  obtain⟨v',g1,g2⟩:=eH ht h1
  exact pure (o:=none) e g2 (by simp only[ct,g1,Option.map_some])
 ·split at hv
  ·rename_i hc
   obtain⟨h1,e⟩:=nD (α:=Unit) hv
   obtain⟨c',k1,k2⟩:=eH ht hc
   have:=k2.aH rfl;cases this
   obtain⟨v',g1,g2⟩:=eH ht h1
   exact pure (o:=none) e g2 (by simp only[ct,k1,g1,Option.map_some])
  ·rename_i hc
   obtain⟨h1,e⟩:=nD (α:=Unit) hv
   obtain⟨c',k1,k2⟩:=eH ht hc
   have:=k2.aH rfl;cases this
   obtain⟨v',g1,g2⟩:=eH ht h1
   exact pure (o:=none) e g2 (by simp only[ct,k1,g1,Option.map_some])
  cases hv
 ·obtain⟨v',h',g1,g2⟩:=Xl s hv
  exact⟨v',h',g1,g2⟩
 ·obtain⟨u,h1,h2⟩:=dd hv
  obtain⟨u',g1,g2⟩:=eH ht h1
  have:=Xk s g2
  rw[h2] at this
  exact⟨_,_,by simp only[ct,g1,Option.map_some],this⟩
 ·split at hv
  ·rename_i l hl
   obtain⟨h1,e⟩:=nD (α:=Unit) hv
   obtain⟨l',k1,k2⟩:=H8 ht hl
   obtain⟨v',g1,g2⟩:=Xn k2 h1
   exact pure (o:=none) e g2 (by simp only[ct,k1,g1,Option.map_some])
  cases hv
 ·split at hv
  ·rename_i l hl
   obtain⟨l',k1,k2⟩:=H8 ht hl
   obtain⟨v',h',g1,g2⟩:=Xo s k2 hv
   exact⟨v',h',by simp only[ct,k1,g1],g2⟩
  cases hv
 ·split at hv
  ·rename_i p hp
   obtain⟨h1,e⟩:=nD (α:=Unit) hv
   obtain⟨p',k1,k2⟩:=eH ht hp
   obtain⟨v',g1,g2⟩:=Pu s k2 h1
   exact pure (o:=none) e g2 (by simp only[ct,k1,g1,Option.map_some])
  cases hv
 ·split at hv
  ·rename_i p u hp hu
   obtain⟨b9,h1,h2⟩:=dd hv
   simp only[bO] at h2;obtain⟨rfl,rfl⟩:=h2
   obtain⟨p',k1,k2⟩:=eH ht hp
   obtain⟨u',k3,k4⟩:=eH ht hu
   obtain⟨h',g1,g2⟩:=Xq s k2 k4 h1
   exact⟨_,h',by simp only[ct,k1,k3,g1,Option.map_some],g2⟩
  cases hv
 ·split at hv
  ·rename_i i off hp
   simp only[az,bO] at hv;obtain⟨rfl,rfl⟩:=hv
   obtain⟨p',k1,k2⟩:=eH ht hp
   have k3:=k2
   cases k2 with
   |fr _ _ h=>cases h
   |ptr=>exact⟨_,_,by simp only[ct,k1,De,Option.map_some],.same s k3⟩
  ·rename_i cs hp
   simp only[az,bO] at hv;obtain⟨rfl,rfl⟩:=hv
   obtain⟨p',k1,k2⟩:=eH ht hp
   have k3:=k2
   have:=k2.aH rfl;cases this
   exact⟨_,_,by simp only[ct,k1,De,Option.map_some],.same s k3⟩
  ·rename_i f xs ys hp
   simp only[az,bO] at hv;obtain⟨rfl,rfl⟩:=hv
   obtain⟨p',k1,k2⟩:=eH ht hp
   have k3:=k2
   cases k2 with
   |fr _ _ h=>cases h;exact⟨_,_,by simp only[ct,k1,De,Option.map_some],.same s k3⟩
   |func=>exact⟨_,_,by simp only[ct,k1,De,Option.map_some],.same s k3⟩
  cases hv
 ·split at hv
  ·rename_i a b ha hb
   obtain⟨h1,e⟩:=nD (α:=Unit) hv
   obtain⟨a',k1,k2⟩:=eH ht ha
   obtain⟨b',k3,k4⟩:=eH ht hb
   obtain⟨v',g1,g2⟩:=W3 k2 k4 h1
   exact pure (o:=none) e (.fr _ _ g2) (by simp only[ct,k1,k3,g1,Option.map_some])
  cases hv
 ·rename_i op ty x
  split at hv
  ·rename_i a ha
   cases hx:cN ae x with
   |none=>rw[hx] at ha;cases ha
   |some u=>
    rw[hx] at ha
    obtain⟨h1,e⟩:=nD (α:=Unit) hv
    obtain⟨u',k1,k2⟩:=eH ht hx
    have:=E9 k2 ha;subst this
    cases hu:qe op u' with
    |none=>rw[hu] at h1;cases h1
    |some w=>rw[hu] at h1;exact pure (o:=none) e (.fr _ _ (yH h1).1) (by simp only[ct,k1,hu,Option.map_some])
  cases hv
 ·rename_i sT dT x
  split at hv
  ·rename_i a ha
   cases hx:cN ae x with
   |none=>rw[hx] at ha;cases ha
   |some u=>
    rw[hx] at ha
    obtain⟨h1,e⟩:=nD (α:=Unit) hv
    obtain⟨u',k1,k2⟩:=eH ht hx
    have:=E9 k2 ha;subst this
    cases hu:qf P sT dT u' with
    |none=>rw[hu] at h1;cases h1
    |some w=>rw[hu] at h1;exact pure (o:=none) e (.fr _ _ (yH h1).1) (by simp only[ct,k1,hu,Option.map_some])
  cases hv
 ·split at hv
  ·rename_i xs ys q7 hys
   simp only[az,bO] at hv;obtain⟨rfl,rfl⟩:=hv
   obtain⟨bl,k1,k2⟩:=yI ht q7
   obtain⟨dv,k3,k4⟩:=yI ht hys
   exact⟨_,_,by simp only[ct,k1,k3],.same s (.func _ _ _ bl.toArray dv.toArray (by simpa using k2.1) (by simpa using k4.1) (fun i v v' hv aW=>k2.2 i v v' hv (by simpa using aW)) (fun i v v' hv aW=>k4.2 i v v' hv (by simpa using aW)))⟩
  cases hv
 ·simp only[az] at hv
  have:=Xm s
  rw[hv] at this
  exact⟨_,_,rfl,this⟩
 ·split at hv
  ·rename_i a b ha hb
   obtain⟨a',k1,k2⟩:=eH ht ha
   obtain⟨b',k3,k4⟩:=eH ht hb
   obtain⟨v',h',g1,g2⟩:=Xp s k2 k4 hv
   exact⟨v',h',by simp only[ct,k1,k3,g1],g2⟩
  cases hv
 ·split at hv
  ·rename_i a l u ha hl hu
   obtain⟨h1,e⟩:=nD (α:=Unit) hv
   obtain⟨a',k1,k2⟩:=eH ht ha
   obtain⟨l',k3,k4⟩:=An ht hl
   obtain⟨u',k5,k6⟩:=An ht hu
   obtain⟨v',g1,g2⟩:=Xd k2 k4 k6 h1
   exact pure (o:=none) e g2 (by simp only[ct,k1,k3,k5,show tH ts none=some none from rfl,g1,Option.map_some])
  cases hv
 ·rename_i t x eX dJ mx
  split at hv
  ·rename_i a l u m ha hl hu hm
   split at hv
   ·rename_i r0 nb
    obtain⟨a',k1,k2⟩:=eH ht ha
    obtain⟨l',k3,k4⟩:=An ht hl
    obtain⟨u',k5,k6⟩:=An ht hu
    obtain⟨m',k7,k8⟩:=An ht hm
    obtain⟨v',g1,g2⟩:=Xe k2 k4 k6 k8 nb
    simp only[az,bO] at hv
    obtain⟨rfl,rfl⟩:=hv
    exact pure (o:=none) rfl g2 (by simp only[ct,k1,k3,k5,k7,g1,Option.map_some])
   cases hb:((l.isNone||lq l)&&lq u&&lq m) with
   |false=>rw[hb] at hv;cases hv
   |true=>
    rw[hb] at hv;simp only[aM] at hv
    simp only[bV,Bool.or_eq_true] at hb
    obtain⟨⟨kf,cS⟩,oy⟩:=hb
    obtain⟨h1,e⟩:=nD (α:=Unit) hv
    obtain⟨a',k1,k2⟩:=eH ht ha
    obtain⟨l',k3,k4⟩:=An ht hl
    obtain⟨u',k5,k6⟩:=An ht hu
    obtain⟨m',k7,k8⟩:=An ht hm
    obtain⟨v',g1,g2⟩:=Xh k2 k4 k6 k8 (by rcases kf with h|h;exact .inl (by simpa using h);exact .inr h) cS oy h1
    exact pure (o:=none) e g2 (by simp only[ct,k1,k3,k5,k7,g1,Option.map_some])
  cases hv
 ·split at hv
  ·rename_i p hp
   obtain⟨h1,e⟩:=nD (α:=Unit) hv
   obtain⟨p',k1,k2⟩:=eH ht hp
   obtain⟨v',g1,g2⟩:=W7 k2 h1
   exact pure (o:=none) e g2 (by simp only[ct,k1,g1,Option.map_some])
  cases hv
 ·split at hv
  ·rename_i p hp
   obtain⟨h1,e⟩:=nD (α:=Unit) hv
   obtain⟨p',k1,k2⟩:=eH ht hp
   obtain⟨v',g1,g2⟩:=W4 k2 h1
   exact pure (o:=none) e g2 (by simp only[ct,k1,g1,Option.map_some])
  cases hv
 ·split at hv
  ·rename_i a b ha hb
   obtain⟨h1,e⟩:=nD (α:=Unit) hv
   obtain⟨a',k1,k2⟩:=eH ht ha
   obtain⟨b',k3,k4⟩:=eH ht hb
   obtain⟨v',g1,g2⟩:=W9 k2 k4 h1
   exact pure (o:=none) e g2 (by simp only[ct,k1,k3,g1,Option.map_some])
  cases hv
 ·split at hv
  ·rename_i a b ha hb
   obtain⟨h1,e⟩:=nD (α:=Unit) hv
   obtain⟨a',k1,k2⟩:=eH ht ha
   obtain⟨b',k3,k4⟩:=eH ht hb
   obtain⟨v',g1,g2⟩:=W5 k2 k4 h1
   exact pure (o:=none) e g2 (by simp only[ct,k1,k3,g1,Option.map_some])
  cases hv
 ·split at hv
  ·rename_i a b ha hb
   obtain⟨h1,e⟩:=nD (α:=Unit) hv
   obtain⟨a',k1,k2⟩:=eH ht ha
   obtain⟨b',k3,k4⟩:=eH ht hb
   obtain⟨v',g1,g2⟩:=zvr s k2 k4 h1
   exact pure (o:=none) e (.fr _ _ g2) (by simp only[ct,k1,k3,g1,Option.map_some])
  cases hv
 ·split at hv
  ·rename_i a b c ha hb hc
   obtain⟨b9,h1,h2⟩:=dd hv
   simp only[bO] at h2;obtain⟨rfl,rfl⟩:=h2
   obtain⟨a',k1,k2⟩:=eH ht ha
   obtain⟨b',k3,k4⟩:=eH ht hb
   obtain⟨c',k5,k6⟩:=eH ht hc
   obtain⟨h',g1,g2⟩:=Up s k2 k4 k6 h1
   exact⟨_,h',by simp only[ct,k1,k3,k5,g1,Option.map_some],g2⟩
  cases hv
 ·split at hv
  ·rename_i a b c ha hb hc
   obtain⟨b9,h1,h2⟩:=dd hv
   simp only[bO] at h2;obtain⟨rfl,rfl⟩:=h2
   obtain⟨a',k1,k2⟩:=eH ht ha
   obtain⟨b',k3,k4⟩:=eH ht hb
   obtain⟨c',k5,k6⟩:=eH ht hc
   obtain⟨h',g1,g2⟩:=Up s k2 k4 k6 h1
   exact⟨_,h',by simp only[ct,k1,k3,k5,g1,Option.map_some],g2⟩
  cases hv
 ·split at hv
  ·rename_i p hp
   obtain⟨h1,e⟩:=nD (α:=Unit) hv
   obtain⟨p',k1,k2⟩:=eH ht hp
   obtain⟨v',g1,g2⟩:=W6 k2 h1
   exact pure (o:=none) e g2 (by simp only[ct,k1,g1,Option.map_some])
  cases hv
 ·split at hv
  ·rename_i l hl
   obtain⟨l',k1,k2⟩:=yI ht hl
   obtain⟨v',h',g1,g2⟩:=zri s k2 hv
   exact⟨v',h',by simp only[ct,k1,g1],g2⟩
  cases hv
 cases hv
end
def dQ (g:Fz)(σ:Sg)(vh:ai)(h:ah)(g':Fz):Prop:=∀o x,g' o=some x→o<h.next→g o=some x∨∃i y,vh.get i=some y∧y.live=true∧(σ i).1=o
abbrev ie:=Exit→aX→ai→Prop
structure dG (N b lo:Nat) (g:Fz) (σ:Sg) (vh:ai) (h:ah) (bc:aI) (h':ah) (g':Fz) (aO:Sg) (aS:aX) (ak:ai):Prop where
  t:VT g' aO ak.next aS bc
  len:bc.length=N
  s:VS lo g' aO ak h'
  le:g.le g'
  agree:∀i,i<b→aO i=σ i
  f:VF σ vh h aO ak h'
  base:b≤ak.next
  own:dQ g σ vh h g'
def oe (N b lo:Nat)(g:Fz)(σ:Sg)(vh:ai)(h:ah)(K:aX→ai→Prop)(bc:aI)(h':ah):Prop:=
 ∃g' aO aS ak,dG N b lo g σ vh h bc h' g' aO aS ak∧K aS ak
def VW (P:Program)(N b:Nat)(c:Code)(Q:ie)(ae:aX)(vh:ai):Prop:=
 ∀lo g σ h ts,VT g σ vh.next ae ts→ts.length=N→VS lo g σ vh h→b≤vh.next→AW P lo c (fun e=>oe N b lo g σ vh h (Q e)) ts h
def kI (P:Program)(N b:Nat)(o:Oper)(next:aX→ai→Prop)(ae:aX)(vh:ai):Prop:=
 ∀lo g σ h ts,VT g σ vh.next ae ts→ts.length=N→VS lo g σ vh h→b≤vh.next→oY P lo o ts h (oe N b lo g σ vh h next)
def du (P:Program)(f:FuncId)(args:List PV)(vh:ai)(R:PV→ai→Prop):Prop:=
 ∀lo g σ h aB,be (VR g σ vh.next) args aB→VS lo g σ vh h→mG P lo f aB h fun r h'=>∃g' aO v ak,VR g' aO ak.next v r∧VS lo g' aO ak h'∧g.le g'∧(∀i,i<vh.next→aO i=σ i)∧VF σ vh h aO ak h'∧vh.next≤ak.next∧
  dQ g σ vh h g'∧R v ak
section
variable {P:Program} {N b:Nat} {Q Q':ie} {ae:aX} {vh:ai}
theorem dQ.refl (g:Fz)(σ:Sg)(vh:ai)(h:ah):dQ g σ vh h g:=fun o x hx _=>.inl hx
theorem dQ.trans {g g1 g2:Fz}{σ o8:Sg}{vh b9:ai}{h h1:ah}(a:dQ g σ vh h g1)(f:VF σ vh h o8 b9 h1)(c:dQ g1 o8 b9 h1 g2):dQ g σ vh h g2:=fun o x hx ho=>by
 rcases c o x hx (Nat.lt_of_lt_of_le ho f.next) with h|⟨i,y,h1,h2,h3⟩
 ·exact a o x h ho
 obtain⟨j,z,k1,k2,k3⟩:=f.own i y h1 h2 (h3▸ho)
 exact .inr ⟨j,z,k1,k2,k3.trans h3⟩
theorem dG.refl {lo:Nat}{g:Fz}{σ:Sg}{h:ah}{ts:aI}(ht:VT g σ vh.next ae ts)(hn:ts.length=N)(s:VS lo g σ vh h)(hb:b≤vh.next):dG N b lo g σ vh h ts h g σ ae vh:=
 ⟨ht,hn,s,Fz.le_refl g,fun _ _=>rfl,VF.refl _ _ _,hb,dQ.refl _ _ _ _⟩
theorem dG.trans {lo:Nat}{g g1 g2:Fz}{σ o8 dq:Sg}{b9 aP:ai}{h h1 h2:ah}{jy me:aI}{gX ax:aX}(a:dG N b lo g σ vh h jy h1 g1 o8 gX b9)(c:dG N b lo g1 o8 b9 h1 me h2 g2 dq ax aP):dG N b lo g σ vh h me h2 g2 dq ax aP:=
 ⟨c.t,c.len,c.s,Fz.le_trans a.le c.le,fun i hi=>(c.agree i hi).trans (a.agree i hi),a.f.trans c.f,c.base,a.own.trans a.f c.own⟩
theorem oe.mono {lo:Nat}{g:Fz}{σ:Sg}{h:ah}{K K':aX→ai→Prop}{bc:aI}{h':ah}(hk:∀ae vh,K ae vh→K' ae vh):oe N b lo g σ vh h K bc h'→oe N b lo g σ vh h K' bc h':=
 fun⟨g',aO,aS,ak,a,k⟩=>⟨g',aO,aS,ak,a,hk _ _ k⟩
theorem oe.trans {lo:Nat}{g g1:Fz}{σ o8:Sg}{b9:ai}{h h1:ah}{jy me:aI}{gX:aX}{K:aX→ai→Prop}{h2:ah}(a:dG N b lo g σ vh h jy h1 g1 o8 gX b9):oe N b lo g1 o8 b9 h1 K me h2→oe N b lo g σ vh h K me h2:=
 fun⟨g',aO,aS,ak,c,k⟩=>⟨g',aO,aS,ak,a.trans c,k⟩
theorem VW.mono {c:Code}(hc:VW P N b c Q ae vh)(hq:∀e ae vh,Q e ae vh→Q' e ae vh):VW P N b c Q' ae vh:=
 fun lo g σ h ts ht hn s hb=>(hc lo g σ h ts ht hn s hb).mono fun e ts h hs=>hs.mono (hq e)
theorem du.mono {f:FuncId}{args:List PV}{R R':PV→ai→Prop}(hc:du P f args vh R)(hr:∀v vh,R v vh→R' v vh):du P f args vh R':=
 fun lo g σ h aB ha s=>(hc lo g σ h aB ha s).mono fun r h' ⟨g',aO,v,ak,h1,h2,h3,h4,h5,h6,h7,h8⟩=>⟨g',aO,v,ak,h1,h2,h3,h4,h5,h6,h7,hr _ _ h8⟩
theorem VW.skip (hq:Q .normal ae vh):VW P N b .skip Q ae vh:=fun lo g σ h ts ht hn s hb=>.skip ⟨g,σ,ae,vh,.refl ht hn s hb,hq⟩
theorem VW.label {l:Nat}(hq:Q .normal ae vh):VW P N b (.label l) Q ae vh:=fun lo g σ h ts ht hn s hb=>.label ⟨g,σ,ae,vh,.refl ht hn s hb,hq⟩
theorem VW.exit {id:Nat}(hq:Q (.exit id) ae vh):VW P N b (.exit id) Q ae vh:=fun lo g σ h ts ht hn s hb=>.exit ⟨g,σ,ae,vh,.refl ht hn s hb,hq⟩
theorem VW.ret (hq:Q .ret ae vh):VW P N b .ret Q ae vh:=fun lo g σ h ts ht hn s hb=>.ret ⟨g,σ,ae,vh,.refl ht hn s hb,hq⟩
def zB (next:aX→ai→Prop)(Q:ie):ie
 |.normal=>next
 |e=>Q e
theorem VW.seq {x y:Code}(hx:VW P N b x (zB (VW P N b y Q) Q) ae vh):VW P N b (.seq x y) Q ae vh:=fun lo g σ h ts ht hn s hb=>
 .seq ((hx lo g σ h ts ht hn s hb).mono fun e bc h' ⟨g',aO,aS,ak,a,k⟩=>by
  cases e with
  |normal=>exact(k lo g' aO h' bc a.t a.len a.s a.base).mono fun e2 me h2 hs=>hs.trans a
  |exit id=>exact⟨g',aO,aS,ak,a,k⟩
  |goto l=>exact⟨g',aO,aS,ak,a,k⟩
  |ret=>exact⟨g',aO,aS,ak,a,k⟩
  |panic ch=>exact⟨g',aO,aS,ak,a,k⟩
  |outgrown=>exact⟨g',aO,aS,ak,a,k⟩)
theorem VW.cond {c:Operand}{x y:Code}{v:Bool}(hc:cN ae c=some (.bool v))(hb:VW P N b (if v then x else y) Q ae vh):VW P N b (.cond c x y) Q ae vh:=fun lo g σ h ts ht hn s uu=>by
 obtain⟨v',k1,k2⟩:=eH ht hc
 have:=k2.aH rfl;cases this
 exact .cond k1 (hb lo g σ h ts ht hn s uu)
theorem VW.ep {c:Operand}{x y:Code}(hc:cN ae c=some (.bool true))(hb:VW P N b x Q ae vh):VW P N b (.cond c x y) Q ae vh:=.cond hc hb
theorem VW.gn {c:Operand}{x y:Code}(hc:cN ae c=some (.bool false))(hb:VW P N b y Q ae vh):VW P N b (.cond c x y) Q ae vh:=.cond hc hb
def Uq (id:Nat)(Q:ie):ie
 |.exit yv=>if yv=id then Q .normal else Q (.exit yv)
 |e=>Q e
theorem VW.block {id:Nat}{c:Code}(hc:VW P N b c (Uq id Q) ae vh):VW P N b (.block id c) Q ae vh:=fun lo g σ h ts ht hn s hb=>
 .block ((hc lo g σ h ts ht hn s hb).mono fun e bc h' hs=>by
  cases e with
  |exit yv=>
   simp only[HK,Uq] at hs ⊢
   by_cases hi:yv=id
   ·simp only[hi,if_true] at hs ⊢;exact hs
   simp only[hi,if_false] at hs ⊢;exact hs
  |normal=>exact hs
  |goto l=>exact hs
  |ret=>exact hs
  |panic ch=>exact hs
  |outgrown=>exact hs)
def z4z (Q:ie):ie
 |.goto _=>fun _ _=>False
 |e=>Q e
theorem VW.scope {c:Code}(hc:VW P N b c (z4z Q) ae vh):VW P N b (.scope c) Q ae vh:=fun lo g σ h ts ht hn s hb=>
 .scope ((hc lo g σ h ts ht hn s hb).mono fun e bc h' hs=>by
  cases e with
  |goto l=>obtain⟨_,_,_,_,_,k⟩:=hs;exact k.elim
  |exit id=>exact hs
  |normal=>exact hs
  |ret=>exact hs
  |panic ch=>exact hs
  |outgrown=>exact hs)
theorem VW.loop {c:Code}(I:Nat→aX→ai→Prop)(m:Nat)(h0:I m ae vh)(round:∀m ae vh,I m ae vh→VW P N b c (zB (fun aS ak=>∃m',m'<m∧I m' aS ak) Q) ae vh):VW P N b (.loop c) Q ae vh:=fun lo g σ h ts ht hn s hb=>by
 refine AW.loop (fun m bc h'=>∃g' aO aS ak,dG N b lo g σ vh h bc h' g' aO aS ak∧I m aS ak) m ⟨g,σ,ae,vh,.refl ht hn s hb,h0⟩ ?_
 rintro m bc h' ⟨g',aO,aS,ak,a,k⟩
 refine(round m aS ak k lo g' aO h' bc a.t a.len a.s a.base).mono fun e me h2 hs=>?_
 cases e with
 |normal=>
  obtain⟨g2,dq,ax,aP,c2,m',aY,k2⟩:=hs
  exact⟨m',aY,g2,dq,ax,aP,a.trans c2,k2⟩
 |exit id=>exact hs.trans a
 |goto l=>exact hs.trans a
 |ret=>exact hs.trans a
 |panic ch=>exact hs.trans a
 |outgrown=>exact hs.trans a
def bZ (ae:aX)(dst:Option Tmp)(v:PV):aX:=
 match dst with
 |some d=>(d,v)::ae
 |none=>ae
def gB (N:Nat)(dst:Option Tmp):Bool:=
 match dst with
 |some d=>Nat.blt d N
 |none=>true
theorem qR {g g':Fz}{σ aO:Sg}{n n':Nat}{ts:aI}{v:PV}{v':Value}(hle:g.le g')(hn:n≤n')(cu:∀i,i<n→aO i=σ i)(ht:VT g σ n ae ts)(dst:Option Tmp)(hd:gB ts.length dst=true)(hv:VR g' aO n' v v') :
  VT g' aO n' (bZ ae dst v) (bA ts dst v')∧(bA ts dst v').length=ts.length:=by
 cases dst with
 |none=>exact⟨ht.mono hle hn cu,rfl⟩
 |some d=>
  have hd:d<ts.length:=by simpa[gB] using hd
  refine⟨fun t u hu=>?_,by simp[bA]⟩
  simp only[bZ,cm,beq_eq] at hu
  by_cases Gv:t=d
  ·subst Gv
   simp at hu;subst hu
   rw[WY hd];exact hv
  simp[Gv] at hu
  rw[Ph (fun h=>Gv h.symm)]
  exact(ht t u hu).mono hle hn cu
theorem kI.op {o:Oper}{v:PV}{ak:ai}{next:aX→ai→Prop}(hv:eo P ae vh o.op=some (v,ak))(hd:gB N o.dst=true)(hn:next (bZ ae o.dst v) ak):kI P N b o next ae vh:=fun lo g σ h ts ht hl s hb=>by
 obtain⟨v',h',k1,aO,k2,k3,k4,k5,k6⟩:=CP s ht hv
 obtain⟨g1,g2⟩:=qR (Fz.le_refl g) k5 k6 ht o.dst (hl▸hd) k2
 exact .op k1 ⟨g,aO,_,ak,⟨g1,g2.trans hl,k3,Fz.le_refl g,fun i hi=>k6 i (by omega),k4,by omega,dQ.refl _ _ _ _⟩,hn⟩
theorem kI.call {o:Oper}{fo:Operand}{args:Array Operand}{aT:Array TypeId}{f:FuncId}{xs ys l:List PV}{next:aX→ai→Prop}(ho:o.op=.call ⟨.value fo,args,aT⟩)
  (hf:cN ae fo=some (.func f xs ys)) (hl:jL ae args.toList=some l) (dR:∀cs w,(callFunc f cs).run P w=.ok (.enter f cs) w) (hd:gB N o.dst=true)
  (hc:du P f (xs++l++ys) vh fun r ak=>next (bZ ae o.dst r) ak):kI P N b o next ae vh:=fun lo g σ h ts ht hn s hb=>by
 obtain⟨f',k1,k2⟩:=eH ht hf
 obtain⟨l',k3,k4⟩:=yI ht hl
 have G1:∃bl dv:Array Value,f'=.func (.func f) bl dv∧be (VR g σ vh.next) xs bl.toList∧be (VR g σ vh.next) ys dv.toList:=by
  cases k2 with
  |fr _ _ h=>cases h with
   |func _ _ _ bl dv hx hy rx ry=>exact⟨bl,dv,rfl,⟨by simpa using hx,fun i v v' hv aW=>.fr _ _ (rx i v v' hv (by simpa using aW))⟩,⟨by simpa using hy,fun i v v' hv aW=>.fr _ _ (ry i v v' hv (by simpa using aW))⟩⟩
  |func _ _ _ bl dv hx hy rx ry=>exact⟨bl,dv,rfl,⟨by simpa using hx,fun i v v' hv aW=>rx i v v' hv (by simpa using aW)⟩,⟨by simpa using hy,fun i v v' hv aW=>ry i v v' hv (by simpa using aW)⟩⟩
 obtain⟨bl,dv,rfl,hx,hy⟩:=G1
 refine .Kc ho k1 k3 dR ((hc lo g σ h _ ((hx.append k4).append hy) s).mono fun r h' ⟨g',aO,v,ak,h1,h2,h3,h4,h5,h6,h7,h8⟩=>?_)
 obtain⟨g1,g2⟩:=qR h3 h6 h4 ht o.dst (hn▸hd) h1
 exact⟨g',aO,_,ak,⟨g1,g2.trans hn,h2,h3,fun i hi=>h4 i (by omega),h5,by omega,h7⟩,h8⟩
def tW (ops:Array Oper)(ae:aX)(j:Nat):Option PV:=
 match (ops[j]?).bind (·.dst) with
 |some d=>cm d ae
 |none=>none
def jh (ops:Array Oper)(o:Oper)(ae:aX):Option Bool:=
 match o.guard with
 |none=>some true
 |some (j,want)=>match tW ops ae j with
  |some (.bool v)=>some (bif want then v else !v)
  |some (.bn [])=>some false
  |_=>none
theorem AP {g:Fz}{σ:Sg}{n:Nat}{ts:aI}{ops:Array Oper}{o:Oper}{w:Bool}(hd:∀d∈(ops.toList.filterMap (·.dst)),d<ts.length)(ht:VT g σ n ae ts)(hw:jh ops o ae=some w):Region.wanted o (ml ops ts)=w:=by
 unfold jh at hw
 unfold Region.wanted
 split at hw
 ·rename_i hg;injection hw with hw;subst hw;rw[hg]
 rename_i j want hg
 rw[hg]
 simp only
 unfold tW at hw
 cases hj:(ops[j]?).bind (·.dst) with
 |none=>rw[hj] at hw;simp at hw
 |some d=>
  rw[hj] at hw
  simp only at hw
  have aY:d<ts.length:=by
   refine hd d ?_
   cases ho:ops[j]? with
   |none=>rw[ho] at hj;cases hj
   |some oo=>
    rw[ho] at hj
    rw[List.mem_filterMap]
    exact⟨oo,by have:=Array.mem_of_getElem? ho;simpa using this,hj⟩
  have fX:ts[d]?=some (ts.getD d Go.undef):=by simp[List.getD,aY]
  unfold ml
  rw[hj]
  simp only[Option.bind_some]
  rw[fX]
  split at hw
  ·rename_i v hv
   injection hw with hw;subst hw
   have Ei:=(ht d _ hv).aH rfl
   generalize ts.getD d Go.undef=u at Ei
   cases Ei
   cases want<;>cases v<;>rfl
  ·rename_i hv
   injection hw with hw;subst hw
   have Ei:=ht d _ hv
   obtain⟨ar,e,_⟩:=KL Ei
   rw[e];rfl
  cases hw
def bE (P:Program)(N b:Nat)(ops:Array Oper)(K:aX→ai→Prop):List Nat→aX→ai→Prop
 |[],ae,vh=>K ae vh
 |i::rest,ae,vh=>
  match ops[i]? with
  |none=>bE P N b ops K rest ae vh
  |some o=>match jh ops o ae with
   |some true=>kI P N b o (bE P N b ops K rest) ae vh
   |some false=>gB N o.dst=true∧bE P N b ops K rest (bZ ae o.dst (.bn [])) vh
   |none=>False
theorem Jm {ops:Array Oper}(hd:∀d∈(ops.toList.filterMap (·.dst)),d<N){K:aX→ai→Prop}{lo:Nat}{g:Fz}{σ:Sg}{h:ah}:∀(l:List Nat) (bc:aI) (h':ah) (g':Fz) (aO:Sg) (aS:aX) (ak:ai),dG N b lo g σ vh h bc h' g' aO aS ak→
  bE P N b ops K l aS ak→oZ P lo ops (oe N b lo g σ vh h K) l bc h'
 |[],bc,h',g',aO,aS,ak,a,k=>⟨g',aO,aS,ak,a,k⟩
 |i::rest,bc,h',g',aO,aS,ak,a,k=>by
  simp only[bE] at k
  simp only[oZ]
  cases ho:ops[i]? with
  |none=>rw[ho] at k;exact Jm hd rest bc h' g' aO aS ak a k
  |some o=>
   rw[ho] at k
   simp only at k ⊢
   split at k
   ·rename_i hw
    rw[AP (a.len▸hd) a.t hw]
    simp only[if_true]
    exact(k lo g' aO h' bc a.t a.len a.s a.base).mono fun me h2 ⟨g2,dq,ax,aP,c,k2⟩=>Jm hd rest me h2 g2 dq ax aP (a.trans c) k2
   ·rename_i hw
    rw[AP (a.len▸hd) a.t hw]
    simp only[Bool.false_eq_true,if_false]
    obtain⟨g1,g2⟩:=qR (Fz.le_refl g') (Nat.le_refl _) (fun _ _=>rfl) a.t o.dst (a.len▸k.1) (.fr _ _ rN)
    exact Jm hd rest _ h' g' aO _ ak ⟨g1,g2.trans a.len,a.s,a.le,a.agree,a.f,a.base,a.own⟩ k.2
   exact k.elim
def xX (N:Nat)(ops:Array Oper):Bool:=ops.toList.all fun o=>gB N o.dst
theorem NH {N:Nat}{ops:Array Oper}(h:xX N ops=true):∀d∈(ops.toList.filterMap (·.dst)),d<N:=fun d hd=>by
 rw[List.mem_filterMap] at hd
 obtain⟨o,ho,hd⟩:=hd
 have:=(List.all_eq_true.1 h) o ho
 rw[hd] at this
 simpa[gB] using this
theorem VW.region {id:Nat}{ops:Array Oper}(hd:xX N ops=true)(hk:bE P N b ops (Q .normal) (List.range ops.size) ae vh):VW P N b (.region id ops false) Q ae vh:=fun lo g σ h ts ht hn s hb=>
 .region (Jm (NH hd) _ ts h g σ ae vh (.refl ht hn s hb) hk)
def fZ (P:Program)(N:Nat)(ops:Array Oper):List Nat→aX→ai→Option (aX×ai)
 |[],ae,vh=>some (ae,vh)
 |i::r,ae,vh=>match ops[i]? with
  |none=>none
  |some o=>match jh ops o ae with
   |some true=>match eo P ae vh o.op with
    |some (v,ak)=>fZ P N ops r (bZ ae o.dst v) ak
    |none=>none
   |some false=>fZ P N ops r (bZ ae o.dst (.bn [])) vh
   |none=>none
theorem bE.run {ops:Array Oper}(hd:xX N ops=true){K:aX→ai→Prop}:∀ {l r:List Nat} {ae aS:aX} {vh ak:ai},fZ P N ops l ae vh=some (aS,ak)→bE P N b ops K r aS ak→bE P N b ops K (l++r) ae vh
 |[],r,ae,aS,vh,ak,hr,hk=>by
  simp only[fZ,az,bO] at hr
  obtain⟨rfl,rfl⟩:=hr;exact hk
 |i::l,r,ae,aS,vh,ak,hr,hk=>by
  simp only[fZ] at hr
  simp only[List.cons_append,bE]
  cases ho:ops[i]? with
  |none=>rw[ho] at hr;cases hr
  |some o=>
   rw[ho] at hr
   simp only at hr ⊢
   have qC:gB N o.dst=true:=(List.all_eq_true.1 hd) o (by have:=Array.mem_of_getElem? ho;simpa using this)
   split at hr
   ·split at hr
    ·rename_i v b9 hv
     exact .op hv qC (bE.run hd hr hk)
    cases hr
   ·exact⟨qC,bE.run hd hr hk⟩
   cases hr
theorem VW.run {id:Nat}{ops:Array Oper}{aS:aX}{ak:ai}(hd:xX N ops=true)(hr:fZ P N ops (List.range ops.size) ae vh=some (aS,ak))(hk:Q .normal aS ak):VW P N b (.region id ops false) Q ae vh:=
 .region hd (by have:=bE.run (b:=b) (K:=Q .normal) (r:=[]) hd hr hk;rwa [List.append_nil] at this)
def tX (P:Program)(ae:aX)(vh:ai):ResultVar→Option PV
 |.tmp t=>cm t ae
 |.cell a t=>match cm a ae with
  |some p=>rp P vh t p
  |none=>none
def ns (P:Program)(ae:aX)(vh:ai):List ResultVar→Option (List PV)
 |[]=>some []
 |x::r=>match tX P ae vh x,ns P ae vh r with
  |some v,some l=>some (v::l)
  |_,_=>none
def oA (l:List PV):PV:=
 match l with
 |[v]=>v
 |l=>.bn l
theorem Ur {lo:Nat}{g:Fz}{σ:Sg}{h:ah}{ts:aI}(ht:VT g σ vh.next ae ts)(s:VS lo g σ vh h):∀ {rs:List ResultVar} {l:List PV},ns P ae vh rs=some l→∃l',r7 P ts h rs=some l'∧be (VR g σ vh.next) l l'
 |[],l,hl=>by simp only[ns,az] at hl;subst hl;exact⟨[],rfl,.nil⟩
 |x::r,l,hl=>by
  simp only[ns] at hl
  split at hl
  ·rename_i v l1 h1 h2
   injection hl with hl;subst hl
   obtain⟨l',k1,k2⟩:=Ur ht s h2
   cases x with
   |tmp t=>exact⟨_::l',by simp only[r7,EK,k1],.cons (ht t v h1) k2⟩
   |cell a t=>
    simp only[tX] at h1
    split at h1
    ·rename_i p hp
     obtain⟨v',g1,g2⟩:=Pu s (ht a p hp) h1
     exact⟨v'::l',by simp only[r7,EK,g1,k1],.cons g2 k2⟩
    cases h1
  cases hl
theorem zro {g:Fz}{σ:Sg}{n:Nat}{l:List PV}{l':List Value}(h:be (VR g σ n) l l'):VR g σ n (oA l) (z6 l'):=by
 have G7:∀ {l:List PV} {l':List Value},be (VR g σ n) l l'→VR g σ n (.bn l) (.tuple l'.toArray):=fun {l l'} h=>.bn _ _ (by simpa using h.1) fun i v v' hv aW=>h.2 i v v' hv (by simpa using aW)
 match l,l',h with
 |[],l',h=>rw[h.iW];exact G7 .nil
 |[v],l',h=>
  obtain⟨v',r,rfl,h1,h2⟩:=h.dw
  rw[h2.iW];exact h1
 |v::u::r,l',h=>
  obtain⟨v',r',rfl,h1,h2⟩:=h.dw
  obtain⟨u',r2,rfl,h3,h4⟩:=h2.dw
  exact G7 (.cons h1 (.cons h3 h4))
def NI (P:Program)(fn:Func)(R:PV→ai→Prop):ie
 |.normal,ae,vh=>∃l,ns P ae vh fn.results.toList=some l∧R (oA l) vh
 |.ret,ae,vh=>∃l,ns P ae vh fn.results.toList=some l∧R (oA l) vh
 |_,_,_=>False
def nR:Nat→List PV→aX
 |_,[]=>[]
 |n,v::r=>(n,v)::nR (n+1) r
theorem NJ:∀(l:List PV) (n t:Nat),cm t (nR n l)=if n≤t then l[t - n]? else none
 |[],n,t=>by simp[nR,cm]
 |v::r,n,t=>by
  simp only[nR,cm,beq_eq,NJ r (n+1) t]
  by_cases h:t=n
  ·subst h;simp
  by_cases h2:n≤t
  ·have h3:n+1≤t:=by omega
   have h4:t - n=(t - (n+1))+1:=by omega
   simp[h,h2,h3,h4]
  have h3:¬n+1≤t:=by omega
  simp[h,h2,h3]
theorem du.bP {f:FuncId}{fn:Func}{c:Code}{args:List PV}{R:PV→ai→Prop}(hf:P.funcs[f]?=some fn)(hb:fn.body=some c)(hn:Nat.ble args.length fn.ntmps=true)
  (hc:VW P fn.ntmps vh.next c (NI P fn R) (nR 0 args) vh):du P f args vh R:=fun lo g σ h aB ha s=>by
 have hn:args.length≤fn.ntmps:=by simpa using hn
 have hlen:(aB++List.replicate (fn.ntmps - aB.length) Go.undef).length=fn.ntmps:=by
  have:=ha.1;simp;omega
 have ht:VT g σ vh.next (nR 0 args) (aB++List.replicate (fn.ntmps - aB.length) Go.undef):=fun t v hv=>by
  rw[NJ] at hv
  simp at hv
  obtain⟨v',h1,h2⟩:=ha.get hv
  have aY:t<aB.length:=by
   rcases Nat.lt_or_ge t aB.length with h|h
   ·exact h
   rw[List.getElem?_eq_none h] at h1;cases h1
  have:(aB++List.replicate (fn.ntmps - aB.length) Go.undef).getD t Go.undef=v':=by
   rw[List.getD,List.getElem?_append_left aY,h1];rfl
  rw[this];exact h2
 refine .bP hf hb ((hc lo g σ h _ ht hlen s (Nat.le_refl _)).mono fun e bc h' ⟨g',aO,aS,ak,a,k⟩=>?_)
 have fin:(∃l,ns P aS ak fn.results.toList=some l∧R (oA l) ak)→∃l',r7 P bc h' fn.results.toList=some l'∧∃g' aO v ak,VR g' aO ak.next v (z6 l')∧VS lo g' aO ak h'∧g.le g'∧(∀i,i<vh.next→aO i=σ i)∧VF σ vh h aO ak h'∧vh.next≤ak.next∧
   dQ g σ vh h g'∧R v ak:=fun⟨l,hl,hR⟩=>by
  obtain⟨l',k1,k2⟩:=Ur a.t a.s hl
  exact⟨l',k1,g',aO,oA l,ak,zro k2,a.s,a.le,a.agree,a.f,a.base,a.own,hR⟩
 cases e with
 |normal=>exact fin k
 |ret=>exact fin k
 |exit id=>exact k.elim
 |goto l=>exact k.elim
 |panic ch=>exact k.elim
 |outgrown=>exact k.elim
end
inductive Alt (vh:ai) (n2:Nat) (D:Nat→Bool) (ρ:Nat→Nat):PV→PV→Prop where
  |same (v:PV) (h:v.aH=true):Alt vh n2 D ρ v v
  |ptr (i j off:Nat) (hj:j<n2) (hi:ρ j=i):Alt vh n2 D ρ (.ptr i off) (.ptr j off)
  |own (i j off len k:Nat) (hj:j<n2) (hi:ρ j=i):Alt vh n2 D ρ (.own i off len k) (.own j off len k)
  |sub (i j off len:Nat) (hj:j<n2) (hi:ρ j=i):Alt vh n2 D ρ (.sub i off len) (.sub j off len)
  |wQ (i off:Nat):Alt vh n2 D ρ (.sub i off 0) (.vec [])
  |NK (i j off len k:Nat) (hj:j<n2) (hi:ρ j=i):Alt vh n2 D ρ (.own i off len k) (.sub j off len)
  |vR (i j n:Nat) (nl:Bool) (sz:Nat) (es:List PV) (hj:j<n2) (hi:ρ j=i) (hg:vh.get i=some (.grow sz es)) (hn:es.length=n) (h0:0<n):Alt vh n2 D ρ (.grow i n nl) (.sub j 0 n)
  |CQ (i j n:Nat) (nl:Bool) (es:List PV) (hj:j<n2) (hi:ρ j=i) (hg:vh.get i=some (.bR es)) (hn:es.length=n):Alt vh n2 D ρ (.grow i n nl) (.sub j 0 n)
  |grow (i j n:Nat) (nl:Bool) (hj:j<n2) (hi:ρ j=i):Alt vh n2 D ρ (.grow i n nl) (.grow j n nl)
  |ba (i j:Nat) (hj:j<n2) (hi:ρ j=i):Alt vh n2 D ρ (.ba i) (.ba j)
  |bw (i j:Nat) (hj:j<n2) (hi:ρ j=i):Alt vh n2 D ρ (.bw i) (.bw j)
  |bY (i j:Nat) (nl:Bool):Alt vh n2 D ρ (.grow i 0 nl) (.grow j 0 nl)
  |aG (j:Nat) (nl:Bool):Alt vh n2 D ρ .aG (.grow j 0 nl)
  |e0 (j:Nat):Alt vh n2 D ρ .e0 (.grow j 0 false)
  |lZ (i j off:Nat):Alt vh n2 D ρ (.own i off 0 0) (.grow j 0 false)
  |dV:Alt vh n2 D ρ .aG (.vec [])
  |e0v:Alt vh n2 D ρ .e0 (.vec [])
  |wR (i off k:Nat):Alt vh n2 D ρ (.own i off 0 k) (.vec [])
  |qT (i:Nat) (nl:Bool):Alt vh n2 D ρ (.grow i 0 nl) (.vec [])
  |CR (i:Nat):Alt vh n2 D ρ (.grow i 0 true) .aG
  |gU (i off len k:Nat) (ag:Bool) (sz:Nat) (cs es:List PV) (hD:D i=true) (hg:vh.get i=some (.arr ag sz cs)) (he:jY vh sz (.own i off len k)=some es):Alt vh n2 D ρ (.own i off len k) (.vec es)
  |qH (i off len:Nat) (ag:Bool) (sz:Nat) (cs es:List PV) (hD:D i=true) (hg:vh.get i=some (.arr ag sz cs)) (he:jY vh sz (.sub i off len)=some es):Alt vh n2 D ρ (.sub i off len) (.vec es)
  |bR (i n:Nat) (nl:Bool) (sz:Nat) (es:List PV) (hD:D i=true) (hg:vh.get i=some (.grow sz es)) (hn:es.length=n):Alt vh n2 D ρ (.grow i n nl) (.vec es)
  |CS (i off:Nat) (cs:List PV) (hD:D i=true) (hg:vh.get i=some (.box cs)) (hf:PV.aJ cs=true) (hle:off≤cs.length):Alt vh n2 D ρ (.ptr i off) (.vp (cs.drop off))
  |wS (i off:Nat) (ag:Bool) (sz:Nat) (cs:List PV) (hD:D i=true) (hg:vh.get i=some (.arr ag sz cs)) (hle:off≤cs.length):Alt vh n2 D ρ (.ptr i off) (.vp (cs.drop off))
  |dD (i:Nat) (es:List (PV×PV)) (hD:D i=true) (hg:vh.get i=some (.map es)):Alt vh n2 D ρ (.ba i) (.aC es)
  |agg (cs mc:List PV) (hs:cs.length=mc.length) (r:∀(i:Nat) v v2,cs[i]?=some v→mc[i]?=some v2→Alt vh n2 D ρ v v2):Alt vh n2 D ρ (.agg cs) (.agg mc)
  |bn (cs mc:List PV) (hs:cs.length=mc.length) (r:∀(i:Nat) v v2,cs[i]?=some v→mc[i]?=some v2→Alt vh n2 D ρ v v2):Alt vh n2 D ρ (.bn cs) (.bn mc)
  |func (f:FuncId) (xs ys Jn Jo:List PV) (hx:xs.length=Jn.length) (hy:ys.length=Jo.length) (rx:∀(i:Nat) v v2,xs[i]?=some v→Jn[i]?=some v2→Alt vh n2 D ρ v v2)
      (ry:∀(i:Nat) v v2,ys[i]?=some v→Jo[i]?=some v2→Alt vh n2 D ρ v v2):Alt vh n2 D ρ (.func f xs ys) (.func f Jn Jo)
def aF (vh:ai)(n2:Nat)(D:Nat→Bool)(ρ:Nat→Nat)(l l2:List PV):Prop:=l.length=l2.length∧∀(i:Nat) v v2,l[i]?=some v→l2[i]?=some v2→Alt vh n2 D ρ v v2
theorem aF.nil {vh:ai}{n2:Nat}{D:Nat→Bool}{ρ:Nat→Nat}:aF vh n2 D ρ [] []:=⟨rfl,fun i v v2 h=>by simp at h⟩
theorem aF.cons {vh:ai}{n2:Nat}{D:Nat→Bool}{ρ:Nat→Nat}{v v2:PV}{l l2:List PV}(h:Alt vh n2 D ρ v v2)(hl:aF vh n2 D ρ l l2):aF vh n2 D ρ (v::l) (v2::l2):=by
 refine⟨by simp[hl.1],fun i u u2 hu DQ=>?_⟩
 cases i with
 |zero=>simp at hu DQ;subst hu;subst DQ;exact h
 |succ i=>simp at hu DQ;exact hl.2 i u u2 hu DQ
theorem Alt.j7 {vh:ai}{n2:Nat}{D:Nat→Bool}{ρ:Nat→Nat}{l l2:List PV}(h:aF vh n2 D ρ l l2):Alt vh n2 D ρ (.agg l) (.agg l2):=.agg _ _ h.1 h.2
theorem Alt.CI {vh:ai}{n2:Nat}{D:Nat→Bool}{ρ:Nat→Nat}{l l2:List PV}(h:aF vh n2 D ρ l l2):Alt vh n2 D ρ (.bn l) (.bn l2):=.bn _ _ h.1 h.2
theorem Alt.dA {vh:ai}{n2:Nat}{D:Nat→Bool}{ρ:Nat→Nat}{f:FuncId}{l l2 r r2:List PV}(h:aF vh n2 D ρ l l2)(h':aF vh n2 D ρ r r2):Alt vh n2 D ρ (.func f l r) (.func f l2 r2):=.func _ _ _ _ _ h.1 h'.1 h.2 h'.2
noncomputable def Fz.more (g:Fz)(σ:Sg)(vh:ai)(h:ah)(D:Nat→Bool):Fz:=fun o=>
 open Classical in if ∃i x,D i=true∧vh.get i=some x∧x.live=true∧(σ i).1=o then h.get o else g o
section
variable {lo:Nat} {g:Fz} {σ:Sg} {vh:ai} {h:ah} {D:Nat→Bool} {ρ:Nat→Nat} {n2:Nat}
theorem tn (s:VS lo g σ vh h):g.le (g.more σ vh h D):=fun o x hx=>by
 unfold Fz.more
 split
 ·rename_i hc
  obtain⟨i,y,h1,h2,h3,h4⟩:=hc
  have:=s.jf i y h2 h3
  rw[h4,hx] at this;cases this
 exact hx
theorem Ej {i:Nat}{x:aL}(hD:D i=true)(hx:vh.get i=some x)(hl:x.live=true):g.more σ vh h D (σ i).1=h.get (σ i).1:=by
 unfold Fz.more
 rw[if_pos ⟨i,x,hD,hx,hl,rfl⟩]
theorem G8 (s:VS lo g σ vh h):∀o x,g.more σ vh h D o=some x→h.get o=some x:=fun o x hx=>by
 unfold Fz.more at hx
 split at hx
 ·exact hx
 exact s.fz o x hx
theorem Jp:dQ g σ vh h (g.more σ vh h D):=fun o x hx _=>by
 unfold Fz.more at hx
 split at hx
 ·rename_i hc
  obtain⟨i,y,h1,h2,h3,h4⟩:=hc
  exact .inr ⟨i,y,h2,h3,h4⟩
 exact .inl hx
theorem Jq {v':Value}{f:FuncId}{xs ys:List PV}{n:Nat}(hv:VR g σ n (.func f xs ys) v'):∃bl dv:Array Value,v'=.func (.func f) bl dv∧be (VR g σ n) xs bl.toList∧be (VR g σ n) ys dv.toList:=by
 cases hv with
 |fr _ _ h=>cases h with
  |func _ _ _ bl dv hx hy rx ry=>exact⟨bl,dv,rfl,⟨by simpa using hx,fun i v v' hv aW=>.fr _ _ (rx i v v' hv (by simpa using aW))⟩,⟨by simpa using hy,fun i v v' hv aW=>.fr _ _ (ry i v v' hv (by simpa using aW))⟩⟩
 |func _ _ _ bl dv hx hy rx ry=>exact⟨bl,dv,rfl,⟨by simpa using hx,fun i v v' hv aW=>rx i v v' hv (by simpa using aW)⟩,⟨by simpa using hy,fun i v v' hv aW=>ry i v v' hv (by simpa using aW)⟩⟩
theorem G9 {R:PV→Value→Prop}{R2:PV→Value→Prop}{l l2:List PV}{l':List Value}(hp:be R l l')(hs:l.length=l2.length)(ih:∀(i:Nat) v v2,l[i]?=some v→l2[i]?=some v2→∀v',R v v'→R2 v2 v'):be R2 l2 l':=
 ⟨hs▸hp.1,fun i v2 v' eT aW=>by
  have aY:i<l2.length:=by
   rcases Nat.lt_or_ge i l2.length with h|h
   ·exact h
   rw[List.getElem?_eq_none h] at eT;cases eT
  have rV:i<l.length:=hs▸aY
  exact ih i l[i] v2 (by simp[rV]) eT v' (hp.2 i l[i] v' (by simp[rV]) aW)⟩
theorem Alt.ok (s:VS lo g σ vh h){v v2:PV}(ha:Alt vh n2 D ρ v v2):∀v',VR g σ vh.next v v'→VR (g.more σ vh h D) (fun j=>σ (ρ j)) n2 v2 v':=by
 induction ha with
 |same v hf=>exact fun v' hv=>.fr _ _ ((hv.aH hf).mono (tn s))
 |ptr i j off hj hi=>
  intro v' hv
  cases hv with
  |fr _ _ h=>cases h
  |ptr _ _ o a k dJ hs=>exact .ptr j off o a k hj (by rw[hi];exact hs)
 |own i j off len k hj hi=>
  intro v' hv
  cases hv with
  |fr _ _ h=>cases h
  |own _ _ _ _ o a kk dJ hs hl hk=>exact .own j off len k o a kk hj (by rw[hi];exact hs) hl hk
 |sub i j off len hj hi=>
  intro v' hv
  cases hv with
  |fr _ _ h=>cases h
  |sub _ _ _ k o a kk dJ hs hl hk=>exact .sub j off len k o a kk hj (by rw[hi];exact hs) hl hk
 |wQ i off=>
  intro v' hv
  cases hv with
  |fr _ _ h=>cases h
  |sub=>exact .fr _ _ (.de _ _ _)
 |NK i j off len k hj hi=>
  intro v' hv
  cases hv with
  |fr _ _ h=>cases h
  |own _ _ _ _ o a kk dJ hs hl hk=>exact .sub j off len k o a kk hj (by rw[hi];exact hs) hl (by simp only[ay] at hk;simp only[dI];omega)
 |vR i j n nl sz es hj hi hg hn h0=>
  intro v' hv
  obtain⟨_,_,q2,q3⟩:=(s.obj i _ hg).2
  cases hv with
  |fr _ _ h=>cases h
  |bX=>omega
  |bY=>omega
  |grow _ _ o a k _ dJ hs na=>
   have pf:es≠[]:=by rintro rfl;simp at hn;omega
   rcases q3 with rfl|⟨s0,ar,_,q5,_,q6⟩
   ·exact absurd rfl pf
   rw[hs] at q5 q6;simp only at q5 q6
   subst q5
   have hk:n≤k∧k+n<dI:=by
    simp only[ay] at q2 q6;simp only[dI]
    rcases q6 with⟨h1,_⟩|h1<;>omega
   have:=VR.sub (g:=g.more σ vh h D) (σ:=fun j=>σ (ρ j)) (n:=n2) j 0 n k o 0 k hj (by rw[hi];exact hs) hk.1 hk.2
   simpa using this
 |CQ i j n nl es hj hi hg hn=>
  intro v' hv
  obtain⟨q0,_,q2,s0,ar,_,q5,_,q6⟩:=(s.obj i _ hg).2
  have h0:0<n:=by rw[← hn];exact List.length_pos_iff.2 q0
  cases hv with
  |fr _ _ h=>cases h
  |bX=>omega
  |bY=>omega
  |grow _ _ o a k _ dJ hs na=>
   rw[hs] at q5 q6;simp only at q5 q6
   subst q5
   have hk:n≤k∧k+n<dI:=by
    simp only[ay] at q2 q6;simp only[dI]
    rcases q6 with⟨h1,_⟩|h1<;>omega
   have:=VR.sub (g:=g.more σ vh h D) (σ:=fun j=>σ (ρ j)) (n:=n2) j 0 n k o 0 k hj (by rw[hi];exact hs) hk.1 hk.2
   simpa using this
 |grow i j n nl hj hi=>
  intro v' hv
  cases hv with
  |fr _ _ h=>cases h
  |bX=>exact .bX _ _
  |bY=>exact .bY _ _ _
  |grow _ _ o a k _ dJ hs hn=>exact .grow j n o a k nl hj (by rw[hi];exact hs) hn
 |ba i j hj hi=>
  intro v' hv
  cases hv with
  |fr _ _ h=>cases h
  |ba _ o a k dJ hs=>exact .ba j o a k hj (by rw[hi];exact hs)
 |bw i j hj hi=>
  intro v' hv
  cases hv with
  |fr _ _ h=>cases h
  |bw _ o a k dJ hs=>exact .bw j o a k hj (by rw[hi];exact hs)
 |bY i j nl=>
  intro v' hv
  cases hv with
  |fr _ _ h=>cases h
  |bX=>exact .bX _ _
  |bY=>exact .bY _ _ _
  |grow _ _ _ _ _ _ _ _ hn=>omega
 |aG j nl=>intro v' hv;have:=hv.aH rfl;cases this;exact .bX _ _
 |e0 j=>
  intro v' hv
  have:=hv.aH rfl
  cases this with
  |tO=>exact .bX _ _
  |e0 o off=>exact .bY _ _ _
 |lZ i j off=>
  intro v' hv
  cases hv with
  |fr _ _ h=>cases h
  |own=>exact .bY _ _ _
 |dV=>intro v' hv;have:=hv.aH rfl;cases this;exact .fr _ _ .fu
 |e0v=>
  intro v' hv
  have:=hv.aH rfl
  cases this with
  |tO=>exact .fr _ _ .fu
  |e0 o off=>exact .fr _ _ (.de _ _ _)
 |wR i off k=>
  intro v' hv
  cases hv with
  |fr _ _ h=>cases h
  |own=>exact .fr _ _ (.de _ _ _)
 |qT i nl=>
  intro v' hv
  cases hv with
  |fr _ _ h=>cases h
  |bX=>exact .fr _ _ .fu
  |bY=>exact .fr _ _ (.de _ _ _)
  |grow _ _ _ _ _ _ _ _ hn=>omega
 |CR i=>
  intro v' hv
  cases hv with
  |fr _ _ h=>cases h
  |bX=>exact .fr _ _ .aG
  |grow _ _ _ _ _ _ _ _ hn=>omega
 |gU i off len k ag sz cs es hD hg he=>
  intro v' hv
  have mg:=Ej (g:=g) (σ:=σ) (h:=h) (D:=D) hD hg rfl
  obtain⟨h0,s0,ar,h1,h2,h3⟩:=(s.obj i _ hg).2
  obtain⟨g1,g2,g3⟩:=Dx s h0 hv he
  obtain⟨bl,g4,g5⟩:=g3 es.length (Nat.le_refl _)
  rw[List.take_length] at g5
  have g5:=g5.mono fun _ _ h=>FR.mono (tn (D:=D) s) h
  cases hv with
  |fr _ _ h=>cases h
  |own _ _ _ _ o a kk hi hs hl hk=>
   rw[hs] at h1 h2 mg;simp only at h1 h2 mg;subst h2
   simp only[jG,az] at g1
   subst g1
   by_cases hz:es.length=0
   ·have:=List.eq_nil_of_length_eq_zero hz
    subst this
    exact .fr _ _ (.de _ _ _)
   have hq:Nat.beq es.length 0=false:=by rw[beq_eq];simpa using hz
   simp only[oq,hq,bq,h1] at g4
   cases hb:Nat.ble (0+off+es.length*sz) ar.length with
   |false=>rw[hb] at g4;cases g4
   |true=>
    rw[hb] at g4;simp only[aM,az] at g4
    have hb:0+off+es.length*sz≤ar.length:=by simpa using hb
    subst g4
    have yC:=Fc g2 g5
    have dL:k+es.length<dI:=by
     have h1:k<4611686018427387904:=hk
     show k+es.length<9223372036854775808
     omega
    refine .fr _ _ (.vec es o (0+off) k s0 sz ar hl dL (by rw[mg];exact h1) h0 (fun i e he=>g2 e (List.mem_of_getElem? he)) hb fun i e j v v' he hv aW=>yC i e j v v' he hv ?_)
    have hi:i<es.length:=by
     rcases Nat.lt_or_ge i es.length with h|h
     ·exact h
     rw[List.getElem?_eq_none h] at he;cases he
    have hj:j<sz:=by
     rw[← g2 e (List.mem_of_getElem? he)]
     rcases Nat.lt_or_ge j e.cells.length with h|h
     ·exact h
     rw[List.getElem?_eq_none h] at hv;cases hv
    have e8:i*sz+j<es.length*sz:=by
     have:i*sz+sz≤es.length*sz:=by rw[← Nat.succ_mul];exact Nat.mul_le_mul_right _ hi
     omega
    rw[List.getElem?_take,if_pos e8,List.getElem?_drop,show 0+off+(i*sz+j)=0+off+i*sz+j by omega]
    exact aW
 |qH i off len ag sz cs es hD hg he=>
  intro v' hv
  have mg:=Ej (g:=g) (σ:=σ) (h:=h) (D:=D) hD hg rfl
  obtain⟨h0,s0,ar,h1,h2,h3⟩:=(s.obj i _ hg).2
  obtain⟨g1,g2,g3⟩:=Dx s h0 hv he
  obtain⟨bl,g4,g5⟩:=g3 es.length (Nat.le_refl _)
  rw[List.take_length] at g5
  have g5:=g5.mono fun _ _ h=>FR.mono (tn (D:=D) s) h
  cases hv with
  |fr _ _ h=>cases h
  |sub _ _ _ k o a kk hi hs hl hk=>
   rw[hs] at h1 h2 mg;simp only at h1 h2 mg;subst h2
   simp only[jG,az] at g1
   subst g1
   by_cases hz:es.length=0
   ·have:=List.eq_nil_of_length_eq_zero hz
    subst this
    exact .fr _ _ (.de _ _ _)
   have hq:Nat.beq es.length 0=false:=by rw[beq_eq];simpa using hz
   simp only[oq,hq,bq,h1] at g4
   cases hb:Nat.ble (0+off+es.length*sz) ar.length with
   |false=>rw[hb] at g4;cases g4
   |true=>
    rw[hb] at g4;simp only[aM,az] at g4
    have hb:0+off+es.length*sz≤ar.length:=by simpa using hb
    subst g4
    have yC:=Fc g2 g5
    have dL:k+es.length<dI:=hk
    refine .fr _ _ (.vec es o (0+off) k s0 sz ar hl dL (by rw[mg];exact h1) h0 (fun i e he=>g2 e (List.mem_of_getElem? he)) hb fun i e j v v' he hv aW=>yC i e j v v' he hv ?_)
    have hi:i<es.length:=by
     rcases Nat.lt_or_ge i es.length with h|h
     ·exact h
     rw[List.getElem?_eq_none h] at he;cases he
    have hj:j<sz:=by
     rw[← g2 e (List.mem_of_getElem? he)]
     rcases Nat.lt_or_ge j e.cells.length with h|h
     ·exact h
     rw[List.getElem?_eq_none h] at hv;cases hv
    have e8:i*sz+j<es.length*sz:=by
     have:i*sz+sz≤es.length*sz:=by rw[← Nat.succ_mul];exact Nat.mul_le_mul_right _ hi
     omega
    rw[List.getElem?_take,if_pos e8,List.getElem?_drop,show 0+off+(i*sz+j)=0+off+i*sz+j by omega]
    exact aW
 |bR i n nl sz es hD hg hn=>
  intro v' hv
  subst hn
  obtain⟨h0,eJ,dm,kP⟩:=(s.obj i _ hg).2
  by_cases hz:es=[]
  ·subst hz
   cases hv with
   |fr _ _ h=>cases h
   |bX=>exact .fr _ _ .fu
   |bY=>exact .fr _ _ (.de _ _ _)
   |grow _ _ _ _ _ _ _ _ hn=>simp at hn
  have fB:(aL.grow sz es).live=true:=by
   cases es with
   |nil=>exact absurd rfl hz
   |cons=>rfl
  have mg:=Ej (g:=g) (σ:=σ) (h:=h) (D:=D) hD hg fB
  rcases kP with rfl|⟨s0,ar,h1,h2,h3,h4⟩
  ·exact absurd rfl hz
  have h3:=h3.mono fun _ _ h=>FR.mono (tn (D:=D) s) h
  have hlen:0<es.length:=by
   cases es with
   |nil=>exact absurd rfl hz
   |cons=>simp
  generalize hm:es.length=m at hv
  cases hv with
  |fr _ _ h=>cases h
  |bX=>omega
  |bY=>omega
  |grow _ _ o a k _ hi hs hn=>
   subst hm
   rw[hs] at h1 h2 h4 mg;simp only at h1 h2 h4 mg;subst h2
   have lN:=Ao eJ
   have yC:=Fc eJ h3
   have za:es.length<4611686018427387904:=dm
   have hk:es.length≤k∧k+es.length<dI:=by
    show es.length≤k∧k+es.length<9223372036854775808
    rcases h4 with⟨rfl,_⟩|rfl
    ·show es.length≤4611686018427387904∧4611686018427387904+es.length<9223372036854775808
     omega
    omega
   exact .fr _ _ (.vec es o 0 k s0 sz ar hk.1 hk.2 (by rw[mg];exact h1) h0 (fun i e he=>eJ e (List.mem_of_getElem? he)) (by rw[← lN,h3.1];omega) fun i e j v v' he hv aW=>yC i e j v v' he hv (by rw[Nat.zero_add] at aW;exact aW))
 |CS i off cs hD hg hf hle=>
  intro v' hv
  have mg:=Ej (g:=g) (σ:=σ) (h:=h) (D:=D) hD hg rfl
  obtain⟨s0,ar,h1,h2,h3⟩:=(s.obj i _ hg).2
  have h3:=(h3.aH hf).mono fun _ _ h=>FR.mono (tn (D:=D) s) h
  cases hv with
  |fr _ _ h=>cases h
  |ptr _ _ o a k hi hs=>
   rw[hs] at h1 h2 mg;simp only at h1 h2 mg;subst h2
   exact .fr _ _ (KM (by rw[mg];exact h1) (by rw[h3.1];omega) (fun j v v' hv aW=>h3.2 j v v' hv (by rw[Nat.zero_add] at aW;exact aW)) hle)
 |wS i off ag sz cs hD hg hle=>
  intro v' hv
  have mg:=Ej (g:=g) (σ:=σ) (h:=h) (D:=D) hD hg rfl
  obtain⟨h0,s0,ar,h1,h2,h3⟩:=(s.obj i _ hg).2
  have h3:=h3.mono fun _ _ h=>FR.mono (tn (D:=D) s) h
  cases hv with
  |fr _ _ h=>cases h
  |ptr _ _ o a k hi hs=>
   rw[hs] at h1 h2 mg;simp only at h1 h2 mg;subst h2
   exact .fr _ _ (KM (by rw[mg];exact h1) (by rw[h3.1];omega) (fun j v v' hv aW=>h3.2 j v v' hv (by rw[Nat.zero_add] at aW;exact aW)) hle)
 |dD i es hD hg=>
  intro v' hv
  have mg:=Ej (g:=g) (σ:=σ) (h:=h) (D:=D) hD hg rfl
  obtain⟨bh,h1,h2,h3,h4⟩:=(s.obj i _ hg).2
  have h3:=h3.mono fun _ _ h=>FR.mono (tn (D:=D) s) h
  have h4:=h4.mono fun _ _ h=>FR.mono (tn (D:=D) s) h
  cases hv with
  |fr _ _ h=>cases h
  |ba _ o a k hi hs=>
   rw[hs] at h1 mg;simp only at h1 mg
   exact .fr _ _ (zzm h3 h4 (by rw[mg];exact h1))
 |agg cs mc hs _ ih=>
  intro v' hv
  obtain⟨ar,rfl,hc⟩:=KK hv
  have:=Du (G9 hc hs ih)
  simpa using this
 |bn cs mc hs _ ih=>
  intro v' hv
  obtain⟨ar,rfl,hc⟩:=KL hv
  have:=G9 hc hs ih
  exact .bn _ _ (by simpa using this.1) fun i v v' hv aW=>this.2 i v v' hv (by simpa using aW)
 |func f xs ys Jn Jo hx hy _ _ ihx ihy=>
  intro v' hv
  obtain⟨bl,dv,rfl,h1,h2⟩:=Jq hv
  have k1:=G9 h1 hx ihx
  have k2:=G9 h2 hy ihy
  exact .func _ _ _ _ _ (by simpa using k1.1) (by simpa using k2.1) (fun i v v' hv aW=>k1.2 i v v' hv (by simpa using aW)) (fun i v v' hv aW=>k2.2 i v v' hv (by simpa using aW))
theorem aF.ok (s:VS lo g σ vh h){l l2:List PV}(ha:aF vh n2 D ρ l l2){l':List Value}(hl:be (VR g σ vh.next) l l'):be (VR (g.more σ vh h D) (fun j=>σ (ρ j)) n2) l2 l':=
 G9 hl ha.1 fun i v v2 hv eT=>(ha.2 i v v2 hv eT).ok s
def mU (ae:aX)(vh:ai)(n2:Nat)(D:Nat→Bool)(ρ:Nat→Nat):aX→Prop
 |[]=>True
 |(t,v2)::r=>(∃v,cm t ae=some v∧Alt vh n2 D ρ v v2)∧mU ae vh n2 D ρ r
theorem mU.get {ae:aX}{vh:ai}{n2:Nat}{D:Nat→Bool}{ρ:Nat→Nat}:∀ {ax:aX},mU ae vh n2 D ρ ax→∀t v2,cm t ax=some v2→∃v,cm t ae=some v∧Alt vh n2 D ρ v v2
 |[],_,t,v,h=>by simp[cm] at h
 |(u,w)::r,hs,t,v,h=>by
  simp only[cm,beq_eq] at h
  by_cases AQ:t=u
  ·subst AQ;simp at h;subst h;exact hs.1
  simp[AQ] at h;exact mU.get hs.2 t v h
theorem z0r {es:List PV}(h:∀e∈es,e.cells=[e]):es.flatMap PV.cells=es:=by
 induction es with
 |nil=>rfl
 |cons e r ih=>rw[List.flatMap_cons,h e (List.mem_cons_self ..),ih fun x hx=>h x (List.mem_cons_of_mem _ hx)];rfl
structure pX (vh:ai) (n2:Nat) (D:Nat→Bool) (ρ:Nat→Nat) (N N2:Nat) (ps qU:Array Tmp) (a bd a2 Ha:Code) (j j2:Option Code) (ae ax:aX):Prop where
  n:N=N2
  p:ps=qU
  a:a=a2
  b:bd=Ha
  j:j=j2
  t:mU ae vh n2 D ρ ax
def kZ (vh:ai)(n2:Nat)(D:Nat→Bool)(ρ:Nat→Nat):aL→aL→Prop
 |.box cs,.box mc=>aF vh n2 D ρ cs mc
 |.loop N ps a bd ae j,.loop N2 qU a2 Ha ax j2=>pX vh n2 D ρ N N2 ps qU a bd a2 Ha j j2 ae ax
 |.grow sz es,.arr _ zD cs=>sz=zD∧(∃e r,es=e::r)∧es.flatMap PV.cells=cs
 |.grow sz es,.bR mC=>sz=1∧es=mC∧es≠[]∧∀e∈es,e.cells=[e]
 |.bR es,.bR mC=>aF vh n2 D ρ es mC∧∀e∈mC,e.cells=[e]
 |.bR es,.box cs=>aF vh n2 D ρ es cs
 |.box cs,.arr _ sz mc=>0<sz∧aF vh n2 D ρ cs mc∧PV.aJ mc=true
 |.dD es,.dD mC=>es.map (·.1)=mC.map (·.1)∧aF vh n2 D ρ (es.map (·.2)) (mC.map (·.2))
 |x,y=>x=y
structure wT (b:Nat) (D:Nat→Bool) (ρ:Nat→Nat) (ae:aX) (vh:ai) (ax:aX) (aP:ai):Prop where
  tmps:∀t v2,cm t ax=some v2→∃v,cm t ae=some v∧Alt vh aP.next D ρ v v2
  bg:∀j y,aP.get j=some y→j<aP.next∧((∃sz,y=.grow sz []∧0<sz)∨D (ρ j)=false∧∃x,vh.get (ρ j)=some x∧kZ vh aP.next D ρ x y)
  inj:∀j k y z,aP.get j=some y→aP.get k=some z→y.live=true→z.live=true→ρ j=ρ k→j=k
  base:∀j,j<b→ρ j=j
  bnd:b≤aP.next
theorem wT.Nx {N b:Nat}{ae ax:aX}{aP:ai}{ts:aI}(a:wT b D ρ ae vh ax aP)(ht:VT g σ vh.next ae ts)(hn:ts.length=N)(s:VS lo g σ vh h) :
  dG N b lo g σ vh h ts h (g.more σ vh h D) (fun j=>σ (ρ j)) ax aP:=by
 have live:∀j y,aP.get j=some y→y.live=true→D (ρ j)=false∧∃x,vh.get (ρ j)=some x∧kZ vh aP.next D ρ x y∧x.live=true:=fun j y hy hl=>by
  rcases (a.bg j y hy).2 with⟨sz,rfl,_⟩|⟨h1,x,h2,h3⟩
  ·cases hl
  refine⟨h1,x,h2,h3,?_⟩
  cases x with
  |box cs=>rfl
  |arr ag sz cs=>rfl
  |map es=>rfl
  |dD es=>rfl
  |emap es=>rfl
  |bR es=>rfl
  |loop=>rfl
  |grow sz es=>
   cases y with
   |arr ag zD cs=>
    obtain⟨_,⟨e,r,rfl⟩,_⟩:=(h3:sz=zD∧(∃e r,es=e::r)∧es.flatMap PV.cells=cs)
    rfl
   |bR mC=>
    obtain⟨_,_,h0,_⟩:=(h3:sz=1∧es=mC∧es≠[]∧∀e∈es,e.cells=[e])
    cases es with
    |nil=>exact absurd rfl h0
    |cons=>rfl
   |box=>cases h3
   |map=>cases h3
   |emap=>cases h3
   |dD=>cases h3
   |loop=>cases h3
   |grow zD mC=>
    have h3:aL.grow sz es=aL.grow zD mC:=h3
    rw[h3];exact hl
 refine⟨fun t v2 eT=>?_,hn,⟨fun j y hy=>?_,fun j k y z hy hz hU bW he=>?_,fun j y hy hl=>?_,G8 s,fun j y hy hl=>?_,s.bI⟩,tn s,fun i hi=>by simp only[a.base i hi],⟨Nat.le_refl _,fun _ _ _=>rfl,fun j y hy hl _=>?_⟩,a.bnd,Jp⟩
 ·obtain⟨v,h1,h2⟩:=a.tmps t v2 eT
  exact h2.ok s _ (ht t v h1)
 ·obtain⟨hj,h1⟩:=a.bg j y hy
  refine⟨hj,?_⟩
  rcases h1 with⟨sz,rfl,fp⟩|⟨h1,x,h2,h3⟩
  ·exact⟨fp,by simp,by decide,.inl rfl⟩
  have hx:=(s.obj (ρ j) x h2).2
  have hle:=tn (D:=D) s
  cases x with
  |box cs=>
   cases y with
   |box mc=>
    obtain⟨s0,ar,k1,k2,k3⟩:=hx
    exact⟨s0,ar,k1,k2,aF.ok s h3 k3⟩
   |arr ag sz mc=>
    obtain⟨e0,e1,e2⟩:=(h3:0<sz∧aF vh aP.next D ρ cs mc∧PV.aJ mc=true)
    obtain⟨s0,ar,k1,k2,k3⟩:=hx
    exact⟨e0,s0,ar,k1,k2,(aF.ok s e1 k3).aH e2⟩
   |bR=>cases h3
   |grow=>cases h3
   |map=>cases h3
   |emap=>cases h3
   |dD=>cases h3
   |loop=>cases h3
  |arr ag sz cs=>
   have h3:aL.arr ag sz cs=y:=h3
   subst h3
   obtain⟨h0,s0,ar,k1,k2,k3⟩:=hx
   exact⟨h0,s0,ar,k1,k2,k3.mono fun _ _ h=>h.mono hle⟩
  |grow sz es=>
   cases y with
   |arr ag zD cs=>
    obtain⟨rfl,⟨e,r,rfl⟩,rfl⟩:=(h3:sz=zD∧(∃e r,es=e::r)∧es.flatMap PV.cells=cs)
    obtain⟨h0,h1,h2,kP⟩:=hx
    rcases kP with h4|⟨s0,ar,k1,k2,k3,k4⟩
    ·cases h4
    exact⟨h0,s0,ar,k1,k2,k3.mono fun _ _ h=>h.mono hle⟩
   |bR mC=>
    obtain⟨rfl,rfl,e1,e2⟩:=(h3:sz=1∧es=mC∧es≠[]∧∀e∈es,e.cells=[e])
    obtain⟨h0,h1,h2,kP⟩:=hx
    rcases kP with h4|⟨s0,ar,k1,k2,k3,k4⟩
    ·exact absurd h4 e1
    exact⟨e1,e2,h2,s0,ar,k1,k2,((z0r e2▸k3:be (FR g) es ar).mono fun _ _ h=>h.mono hle).vr,k4⟩
   |box=>cases h3
   |map=>cases h3
   |emap=>cases h3
   |dD=>cases h3
   |loop=>cases h3
   |grow zD mC=>
   have h3:aL.grow sz es=aL.grow zD mC:=h3
   injection h3 with h3 h4
   subst h3;subst h4
   obtain⟨h0,h1,h2,kP⟩:=hx
   exact⟨h0,h1,h2,kP.imp_right fun⟨s0,ar,k1,k2,k3,k4⟩=>⟨s0,ar,k1,k2,k3.mono fun _ _ h=>h.mono hle,k4⟩⟩
  |bR es=>
   obtain⟨h0,h1,h2,s0,ar,k1,k2,k3,k4⟩:=hx
   cases y with
   |bR mC=>
    obtain⟨e1,e2⟩:=(h3:aF vh aP.next D ρ es mC∧∀e∈mC,e.cells=[e])
    have hl:mC.length=es.length:=e1.1.symm
    exact⟨fun h=>h0 (List.eq_nil_of_length_eq_zero (by rw[← hl,h];rfl)),e2,by rw[hl];exact h2,s0,ar,k1,k2,aF.ok s e1 k3,by rw[hl];exact k4⟩
   |box cs=>
    exact⟨s0,ar,k1,k2,aF.ok s (h3:aF vh aP.next D ρ es cs) k3⟩
   |arr=>cases h3
   |grow=>cases h3
   |map=>cases h3
   |emap=>cases h3
   |dD=>cases h3
   |loop=>cases h3
  |map es=>
   have h3:aL.map es=y:=h3
   subst h3
   obtain⟨bh,k1,k2,k3,k4⟩:=hx
   exact⟨bh,k1,k2,k3.mono fun _ _ h=>h.mono hle,k4.mono fun _ _ h=>h.mono hle⟩
  |emap es k born=>
   have h3:aL.emap es k born=y:=h3
   subst h3
   obtain⟨bh,k1,k2,k3,k4⟩:=hx
   exact⟨bh,k1,k2,k3.mono fun _ _ h=>h.mono hle,k4.mono fun _ _ h=>h.mono hle⟩
  |dD es=>
   cases y with
   |dD mC=>
    obtain⟨e1,e2⟩:=(h3:es.map (·.1)=mC.map (·.1)∧aF vh aP.next D ρ (es.map (·.2)) (mC.map (·.2)))
    obtain⟨bh,k1,k2,k3,k4⟩:=hx
    exact⟨bh,k1,k2,e1▸k3.mono fun _ _ h=>h.mono hle,aF.ok s e2 k4⟩
   |box=>cases h3
   |arr=>cases h3
   |grow=>cases h3
   |map=>cases h3
   |emap=>cases h3
   |bR=>cases h3
   |loop=>cases h3
  |loop N ps a bd ae jump=>
   cases y with
   |loop N2 qU a2 Ha ax j2=>
    obtain⟨rfl,rfl,rfl,rfl,rfl,h6⟩:=(h3:pX vh aP.next D ρ N N2 ps qU a bd a2 Ha jump j2 ae ax)
    obtain⟨L,k1,k2,k3,k4,k5,k6⟩:=hx
    refine⟨L,k1,k2,k3,k4,k5,fun t v2 eT=>?_⟩
    obtain⟨v,q1,q2⟩:=mU.get h6 t v2 eT
    exact q2.ok s _ (k6 t v q1)
   |box=>cases h3
   |arr=>cases h3
   |grow=>cases h3
   |map=>cases h3
   |emap=>cases h3
   |bR=>cases h3
   |dD=>cases h3
 ·obtain⟨_,x,h1,_,h2⟩:=live j y hy hU
  obtain⟨_,x',nF,_,EA⟩:=live k z hz bW
  exact a.inj j k y z hy hz hU bW (s.inj _ _ x x' h1 nF h2 EA he)
 ·obtain⟨_,x,h1,_,h2⟩:=live j y hy hl
  exact s.low _ x h1 h2
 ·obtain⟨hD,x,h1,_,h2⟩:=live j y hy hl
  unfold Fz.more
  rw[if_neg]
  ·exact s.jf _ x h1 h2
  rintro⟨i,z,k1,k2,k3,k4⟩
  have:=s.inj i (ρ j) z x k2 h1 k3 h2 k4
  subst this
  rw[hD] at k1;cases k1
 obtain⟨_,x,h1,_,h2⟩:=live j y hy hl
 exact⟨ρ j,x,h1,h2,rfl⟩
end
section
variable {P:Program} {N b:Nat} {Q:ie} {ae ax:aX} {vh aP:ai}
theorem VW.z9s {c:Code}(D:Nat→Bool)(ρ:Nat→Nat)(a:wT b D ρ ae vh ax aP)(hc:VW P N b c Q ax aP):VW P N b c Q ae vh:=fun lo g σ h ts ht hn s hb=>by
 have:=a.Nx ht hn s
 exact(hc lo _ _ h ts this.t this.len this.s this.base).mono fun e bc h' hs=>hs.trans this
theorem bE.zvj {o:Oper}{next:aX→ai→Prop}(D:Nat→Bool)(ρ:Nat→Nat)(a:wT b D ρ ae vh ax aP)(hc:kI P N b o next ax aP):kI P N b o next ae vh:=fun lo g σ h ts ht hn s hb=>by
 have:=a.Nx ht hn s
 exact(hc lo _ _ h ts this.t this.len this.s this.base).mono fun bc h' hs=>hs.trans this
mutual
def bK (vh:ai):PV→Option PV
 |.func f xs ys=>match cA vh xs,cA vh ys with
  |some a,some b=>some (.func f a b)
  |_,_=>none
 |.agg cs=>(cA vh cs).map .agg
 |.bn cs=>(cA vh cs).map .bn
 |.ptr i off=>match vh.get i with
  |some (.box cs)=>bif PV.aJ cs&&Nat.ble off cs.length then some (.vp (cs.drop off)) else none
  |some (.arr _ _ cs)=>bif Nat.ble off cs.length then some (.vp (cs.drop off)) else none
  |_=>none
 |.own i off len k=>bif Nat.beq len 0 then some (.vec []) else match vh.get i with
  |some (.arr _ sz _)=>(jY vh sz (.own i off len k)).map .vec
  |_=>none
 |.sub i off len=>bif Nat.beq len 0 then some (.vec []) else match vh.get i with
  |some (.arr _ sz _)=>(jY vh sz (.sub i off len)).map .vec
  |_=>none
 |.grow i n nl=>match vh.get i with
  |some (.grow _ es)=>bif Nat.beq es.length n then some (.vec es) else none
  |_=>bif Nat.beq n 0 then some (.vec []) else none
 |.iface t v=>bif v.aH then some (.iface t v) else none
 |.ba i=>match vh.get i with
  |some (.map es)=>some (.aC es)
  |_=>none
 |.bw _=>none
 |v=>some v
def cA (vh:ai):List PV→Option (List PV)
 |[]=>some []
 |v::r=>match bK vh v,cA vh r with
  |some a,some l=>some (a::l)
  |_,_=>none
end
mutual
theorem Us (vh:ai):∀(v v2:PV),bK vh v=some v2→Alt vh 0 (fun _=>true) id v v2
 |.func f xs ys,v2,h=>by
  simp only[bK] at h
  split at h
  ·rename_i a c h1 h2
   injection h with h;subst h
   exact .dA (Ek vh xs a h1) (Ek vh ys c h2)
  cases h
 |.agg cs,v2,h=>by
  simp only[bK] at h
  obtain⟨l,h1,rfl⟩:=dd h
  exact .j7 (Ek vh cs l h1)
 |.bn cs,v2,h=>by
  simp only[bK] at h
  obtain⟨l,h1,rfl⟩:=dd h
  exact .CI (Ek vh cs l h1)
 |.ptr i off,v2,h=>by
  simp only[bK] at h
  split at h
  ·rename_i cs hg
   cases hb:(PV.aJ cs&&Nat.ble off cs.length) with
   |false=>rw[hb] at h;cases h
   |true=>
    rw[hb] at h;simp only[aM,az] at h;subst h
    simp only[bV,Nat.ble_eq] at hb
    exact .CS i off cs rfl hg hb.1 hb.2
  ·rename_i ag sz cs hg
   cases hb:Nat.ble off cs.length with
   |false=>rw[hb] at h;cases h
   |true=>
    rw[hb] at h;simp only[aM,az] at h;subst h
    exact .wS i off ag sz cs rfl hg (by simpa using hb)
  cases h
 |.own i off len k,v2,h=>by
  simp only[bK] at h
  rcases jU len 0 with⟨hq,b8⟩|⟨hq,b8⟩
  ·rw[hq] at h;simp only[aM,az] at h;subst h;subst b8;exact .wR i off k
  rw[hq] at h;simp only[bq] at h
  split at h
  ·rename_i ag sz cs hg
   obtain⟨es,h1,rfl⟩:=dd h
   exact .gU i off len k ag sz cs es rfl hg h1
  cases h
 |.sub i off len,v2,h=>by
  simp only[bK] at h
  rcases jU len 0 with⟨hq,b8⟩|⟨hq,b8⟩
  ·rw[hq] at h;simp only[aM,az] at h;subst h;subst b8;exact .wQ i off
  rw[hq] at h;simp only[bq] at h
  split at h
  ·rename_i ag sz cs hg
   obtain⟨es,h1,rfl⟩:=dd h
   exact .qH i off len ag sz cs es rfl hg h1
  cases h
 |.grow i n nl,v2,h=>by
  simp only[bK] at h
  split at h
  ·rename_i sz es hg
   rcases jU es.length n with⟨hq,b8⟩|⟨hq,b8⟩
   ·rw[hq] at h;simp only[aM,az] at h;subst h;exact .bR i n nl sz es rfl hg b8
   rw[hq] at h;cases h
  rcases jU n 0 with⟨hq,b8⟩|⟨hq,b8⟩
  ·rw[hq] at h;simp only[aM,az] at h;subst h;subst b8;exact .qT i nl
  rw[hq] at h;cases h
 |.iface t v,v2,h=>by
  simp only[bK] at h
  cases hf:v.aH with
  |false=>rw[hf] at h;cases h
  |true=>rw[hf] at h;simp only[aM,az] at h;subst h;exact .same _ (by simp only[PV.aH];exact hf)
 |.ba i,v2,h=>by
  simp only[bK] at h
  split at h
  ·rename_i es hg
   injection h with h;subst h;exact .dD i es rfl hg
  cases h
 |.aC es,v2,h=>by simp only[bK,az] at h;subst h;exact .same _ rfl
 |.bw _,v2,h=>by simp[bK] at h
 |.bool b,v2,h=>by simp only[bK,az] at h;subst h;exact .same _ rfl
 |.int k n,v2,h=>by simp only[bK,az] at h;subst h;exact .same _ rfl
 |.str s,v2,h=>by simp only[bK,az] at h;subst h;exact .same _ rfl
 |.nilFunc,v2,h=>by simp only[bK,az] at h;subst h;exact .same _ rfl
 |.nilIface,v2,h=>by simp only[bK,az] at h;subst h;exact .same _ rfl
 |.eU,v2,h=>by simp only[bK,az] at h;subst h;exact .same _ rfl
 |.aG,v2,h=>by simp only[bK,az] at h;subst h;exact .same _ rfl
 |.dM,v2,h=>by simp only[bK,az] at h;subst h;exact .same _ rfl
 |.e0,v2,h=>by simp only[bK,az] at h;subst h;exact .same _ rfl
 |.vec es,v2,h=>by simp only[bK,az] at h;subst h;exact .same _ rfl
 |.vp cs,v2,h=>by simp only[bK,az] at h;subst h;exact .same _ rfl
theorem Ek (vh:ai):∀(l l2:List PV),cA vh l=some l2→aF vh 0 (fun _=>true) id l l2
 |[],l2,h=>by simp only[cA,az] at h;subst h;exact .nil
 |v::r,l2,h=>by
  simp only[cA] at h
  split at h
  ·rename_i a l h1 h2
   injection h with h;subst h
   exact .cons (Us vh v a h1) (Ek vh r l h2)
  cases h
end
mutual
theorem Ut (vh:ai):∀(v v2:PV),bK vh v=some v2→v2.aH=true
 |.func f xs ys,v2,h=>by
  simp only[bK] at h
  split at h
  ·rename_i a c h1 h2
   injection h with h;subst h
   rw[PV.Pk,CT vh xs a h1,CT vh ys c h2];rfl
  cases h
 |.agg cs,v2,h=>by
  simp only[bK] at h
  obtain⟨l,h1,rfl⟩:=dd h
  rw[PV.KF];exact CT vh cs l h1
 |.bn cs,v2,h=>by
  simp only[bK] at h
  obtain⟨l,h1,rfl⟩:=dd h
  rw[PV.Pl];exact CT vh cs l h1
 |.ptr i off,v2,h=>by
  simp only[bK] at h
  split at h
  ·cases hb:(PV.aJ _&&Nat.ble off _) with
   |false=>rw[hb] at h;cases h
   |true=>rw[hb] at h;simp only[aM,az] at h;subst h;simp[PV.aH]
  ·cases hb:Nat.ble off _ with
   |false=>rw[hb] at h;cases h
   |true=>rw[hb] at h;simp only[aM,az] at h;subst h;simp[PV.aH]
  cases h
 |.own i off len k,v2,h=>by
  simp only[bK] at h
  cases hq:Nat.beq len 0 with
  |true=>rw[hq] at h;simp only[aM,az] at h;subst h;simp[PV.aH]
  |false=>
   rw[hq] at h;simp only[bq] at h
   split at h
   ·obtain⟨es,h1,rfl⟩:=dd h;simp[PV.aH]
   cases h
 |.sub i off len,v2,h=>by
  simp only[bK] at h
  cases hq:Nat.beq len 0 with
  |true=>rw[hq] at h;simp only[aM,az] at h;subst h;simp[PV.aH]
  |false=>
   rw[hq] at h;simp only[bq] at h
   split at h
   ·obtain⟨es,h1,rfl⟩:=dd h;simp[PV.aH]
   cases h
 |.grow i n nl,v2,h=>by
  simp only[bK] at h
  split at h
  ·rename_i sz es hg
   cases hq:Nat.beq es.length n with
   |true=>rw[hq] at h;simp only[aM,az] at h;subst h;simp[PV.aH]
   |false=>rw[hq] at h;cases h
  cases hq:Nat.beq n 0 with
  |true=>rw[hq] at h;simp only[aM,az] at h;subst h;simp[PV.aH]
  |false=>rw[hq] at h;cases h
 |.iface t v,v2,h=>by
  simp only[bK] at h
  cases hf:v.aH with
  |false=>rw[hf] at h;cases h
  |true=>rw[hf] at h;simp only[aM,az] at h;subst h;simp only[PV.aH];exact hf
 |.ba i,v2,h=>by
  simp only[bK] at h
  split at h
  ·injection h with h;subst h;simp[PV.aH]
  cases h
 |.aC es,v2,h=>by simp only[bK,az] at h;subst h;simp[PV.aH]
 |.bw _,v2,h=>by simp[bK] at h
 |.bool b,v2,h=>by simp only[bK,az] at h;subst h;simp[PV.aH]
 |.int k n,v2,h=>by simp only[bK,az] at h;subst h;simp[PV.aH]
 |.str s,v2,h=>by simp only[bK,az] at h;subst h;simp[PV.aH]
 |.nilFunc,v2,h=>by simp only[bK,az] at h;subst h;simp[PV.aH]
 |.nilIface,v2,h=>by simp only[bK,az] at h;subst h;simp[PV.aH]
 |.eU,v2,h=>by simp only[bK,az] at h;subst h;simp[PV.aH]
 |.aG,v2,h=>by simp only[bK,az] at h;subst h;simp[PV.aH]
 |.dM,v2,h=>by simp only[bK,az] at h;subst h;simp[PV.aH]
 |.e0,v2,h=>by simp only[bK,az] at h;subst h;simp[PV.aH]
 |.vec es,v2,h=>by simp only[bK,az] at h;subst h;simp[PV.aH]
 |.vp cs,v2,h=>by simp only[bK,az] at h;subst h;simp[PV.aH]
theorem CT (vh:ai):∀(l l2:List PV),cA vh l=some l2→PV.aJ l2=true
 |[],l2,h=>by simp only[cA,az] at h;subst h;rfl
 |v::r,l2,h=>by
  simp only[cA] at h
  split at h
  ·rename_i a l h1 h2
   injection h with h;subst h
   simp only[PV.aJ,Ut vh v a h1,CT vh r l h2,Bool.and_self]
  cases h
end
def aN (P:Program)(f:FuncId)(args:List PV)(R:PV→Prop):Prop:=
 du P f args ai.empty fun v _=>v.aH=true∧R v
theorem VS.none {lo:Nat}{g:Fz}{h:ah}(rR:∀o x,g o=some x→h.get o=some x)(hl:lo≤h.next)(σ:Sg):VS lo g σ ai.empty h:=
 ⟨fun i x hx=>(by cases hx),fun i j x y hx=>(by cases hx),fun i x hx=>(by cases hx),rR,fun i x hx=>(by cases hx),hl⟩
mutual
theorem El {g g':Fz}:∀ {v:PV} {v':Value},FR g v v'→v.dU=true→FR g' v v'
 |_,_,.bool b,_=>.bool b
 |_,_,.int k n,_=>.int k n
 |_,_,.str s,_=>.str s
 |_,_,.nilFunc,_=>.nilFunc
 |_,_,.nilIface,_=>.nilIface
 |_,_,.eU,_=>.eU
 |_,_,.aG,_=>.aG
 |_,_,.dM,_=>.dM
 |_,_,.tO,h=>by simp[PV.dU] at h
 |_,_,.e0 ..,h=>by simp[PV.dU] at h
 |_,_,.func f xs ys bl dv hx hy rx ry,h=>by
  simp only[PV.dU,bV] at h
  exact .func f xs ys bl dv hx hy (fun i v v' hv aW=>El (rx i v v' hv aW) (PV.E8 h.1 hv)) (fun i v v' hv aW=>El (ry i v v' hv aW) (PV.E8 h.2 hv))
 |_,_,.agg cs ar hs r,h=>by
  simp only[PV.dU] at h
  exact .agg cs ar hs fun i v v' hv aW=>El (r i v v' hv aW) (PV.E8 h hv)
 |_,_,.bn cs ar hs r,h=>by
  simp only[PV.dU] at h
  exact .bn cs ar hs fun i v v' hv aW=>El (r i v v' hv aW) (PV.E8 h hv)
 |_,_,.iface t v v' hv,h=>by
  simp only[PV.dU] at h
  exact .iface t v v' (El hv h)
 |_,_,.fu,h=>by simp[PV.dU] at h
 |_,_,.de ..,h=>by simp[PV.dU] at h
 |_,_,.vec ..,h=>by simp[PV.dU] at h
 |_,_,.vp ..,h=>by simp[PV.dU] at h
 |_,_,.aC ..,h=>by simp[PV.dU] at h
end
def zF (P:Program)(f:FuncId)(args:List PV)(vh:ai)(R:PV→ai→Prop):Prop:=
 ∀lo g σ h aB,be (VR g σ vh.next) args aB→VS lo g σ vh h→mG P lo f aB h fun r h'=>h.sub h'∧∃g' aO v ak,VR g' aO ak.next v r∧VS lo g' aO ak h'∧g.le g'∧(∀i,i<vh.next→aO i=σ i)∧VF σ vh h aO ak h'∧vh.next≤ak.next∧
  dQ g σ vh h g'∧R v ak
theorem zF.call {f:FuncId}{args:List PV}{R:PV→ai→Prop}(h:zF P f args vh R):du P f args vh R:=fun lo g σ hh aB ha s=>(h lo g σ hh aB ha s).mono fun _ _ hq=>hq.2
theorem zF.mono {f:FuncId}{args:List PV}{R R':PV→ai→Prop}(hc:zF P f args vh R)(hr:∀v vh,R v vh→R' v vh):zF P f args vh R':=
 fun lo g σ h aB ha s=>(hc lo g σ h aB ha s).mono fun r h' ⟨h0,g',aO,v,ak,h1,h2,h3,h4,h5,h6,h7,h8⟩=>⟨h0,g',aO,v,ak,h1,h2,h3,h4,h5,h6,h7,hr _ _ h8⟩
theorem Uu {h h':ah}(hk:∀o,o<h.next→h'.get o=h.get o):h.sub h':=fun o x hx=>by rw[hk o (ah.fJ hx)];exact hx
theorem aN.CU {f:FuncId}{args:List PV}{R:PV→Prop}(hp:aN P f args R)(hf:PV.aJ args=true):zF P f args vh fun v ak=>ak=vh∧R v:=fun lo g σ h aB ha s=>by
 have zG:be (VR g σ ai.empty.next) args aB:=(ha.aH hf).vr
 refine(hp lo g σ h aB zG (.none s.fz s.bI σ)).mono fun r h' ⟨g',aO,v,ak,h1,h2,h3,h4,h5,h6,h7,h8,h9⟩=>?_
 have cT:∀o,o<h.next→h'.get o=h.get o:=fun o ho=>h5.fM o ho fun i x hx=>by cases hx
 have hg:∀o x,g' o=some x→o<h.next→∃y,g o=some y:=fun o x hx ho=>by
  rcases h7 o x hx ho with h|⟨i,y,h,_⟩
  ·exact⟨_,h⟩
  cases h
 refine⟨Uu cT,g',σ,v,vh,.fr _ _ (h1.aH h8),⟨fun i x hx=>?_,s.inj,s.low,h2.fz,fun i x hx hl=>?_,h2.bI⟩,h3,fun _ _=>rfl,⟨h5.next,fun o ho _=>cT o ho,fun i x hx hl _=>⟨i,x,hx,hl,rfl⟩⟩,Nat.le_refl _,fun o x hx ho=>.inl (h7 o x hx ho |>.elim id fun⟨i,y,h,_⟩=>by cases h),rfl,h9⟩
 ·obtain⟨k1,k2⟩:=s.obj i x hx
  exact⟨k1,k2.mono h3 (Nat.le_refl _) (fun _ _=>rfl) k1 fun hl=>cT _ (k2.lt hl)⟩
 have hd:=s.jf i x hx hl
 have aY:=(s.obj i x hx).2.lt hl
 cases nf:g' (σ i).1 with
 |none=>rfl
 |some y=>
  obtain⟨z,hz⟩:=hg _ y nf aY
  rw[hd] at hz;cases hz
theorem aN.z6p {f:FuncId}{args cB:List PV}{R:PV→Prop}(hp:aN P f cB R)(o6:cA vh args=some cB)(Hb:∀v,R v→v.dU=true):zF P f args vh fun v ak=>ak=vh∧R v:=fun lo g σ h aB ha s=>by
 have zG:=aF.ok s (Ek vh args cB o6) ha
 have rR:=G8 (D:=fun _=>true) s
 refine(hp lo (g.more σ vh h fun _=>true) (fun j=>σ (id j)) h aB zG (.none rR s.bI _)).mono fun r h' ⟨g',aO,v,ak,h1,h2,h3,h4,h5,h6,h7,h8,h9⟩=>?_
 have cT:∀o,o<h.next→h'.get o=h.get o:=fun o ho=>h5.fM o ho fun i x hx=>by cases hx
 refine⟨Uu cT,g,σ,v,vh,.fr _ _ (El (h1.aH h8) (Hb v h9)),⟨fun i x hx=>?_,s.inj,s.low,fun o x hx=>?_,s.jf,h2.bI⟩,Fz.le_refl g,fun _ _=>rfl,⟨h5.next,fun o ho _=>cT o ho,fun i x hx hl _=>⟨i,x,hx,hl,rfl⟩⟩,Nat.le_refl _,dQ.refl _ _ _ _,rfl,h9⟩
 ·obtain⟨k1,k2⟩:=s.obj i x hx
  exact⟨k1,k2.mono (Fz.le_refl g) (Nat.le_refl _) (fun _ _=>rfl) k1 fun hl=>cT _ (k2.lt hl)⟩
 have:=s.fz o x hx
 rw[cT o (ah.fJ this)];exact this
theorem aN.call {f:FuncId}{args:List PV}{R:PV→Prop}(hp:aN P f args R)(hf:PV.aJ args=true):du P f args vh fun v ak=>ak=vh∧R v:=(hp.CU hf).call
theorem aN.borrow {f:FuncId}{args cB:List PV}{R:PV→Prop}(hp:aN P f cB R)(o6:cA vh args=some cB)(Hb:∀v,R v→v.dU=true):du P f args vh fun v ak=>ak=vh∧R v:=(hp.z6p o6 Hb).call
def kQ (P:Program)(fn:Func)(R:PV→Prop):ie
 |.normal,ae,vh=>∃l v,ns P ae vh fn.results.toList=some l∧bK vh (oA l)=some v∧R v
 |.ret,ae,vh=>∃l v,ns P ae vh fn.results.toList=some l∧bK vh (oA l)=some v∧R v
 |_,_,_=>False
theorem aN.bP {f:FuncId}{fn:Func}{c:Code}{args:List PV}{R:PV→Prop}(hf:P.funcs[f]?=some fn)(hb:fn.body=some c)(hn:Nat.ble args.length fn.ntmps=true)
  (hc:VW P fn.ntmps 0 c (kQ P fn R) (nR 0 args) ai.empty):aN P f args R:=by
 have h1:du P f args ai.empty fun v ak=>∃v2,bK ak v=some v2∧R v2:=by
  refine .bP hf hb hn (hc.mono fun e ae vh hq=>?_)
  cases e with
  |normal=>obtain⟨l,v,h1,h2,h3⟩:=hq;exact⟨l,h1,v,h2,h3⟩
  |ret=>obtain⟨l,v,h1,h2,h3⟩:=hq;exact⟨l,h1,v,h2,h3⟩
  |exit id=>exact hq.elim
  |goto l=>exact hq.elim
  |panic ch=>exact hq.elim
  |outgrown=>exact hq.elim
 intro lo g σ h aB ha s
 refine(h1 lo g σ h aB ha s).mono fun r h' ⟨g',aO,v,ak,k1,k2,k3,k4,k5,k6,k7,v2,k8,k9⟩=>?_
 have k10:=(Us ak v v2 k8).ok k2 r k1
 have hF:v2.aH=true:=Ut ak v v2 k8
 refine⟨_,_,v2,ai.empty,k10,.none (G8 k2) k2.bI _,Fz.le_trans k3 (tn k2),fun i hi=>(by cases hi),⟨k5.next,k5.fM,fun i x hx=>(by cases hx)⟩,Nat.le_refl _,k7.trans k5 Jp,hF,k9⟩
end
theorem wrap64 {x:Int}(h1 : -9223372036854775808≤x)(h2:x<9223372036854775808):IntKind.i64.wrap x=x:=by
 simp[IntKind.wrap,IntKind.bits,IntKind.signed];omega
abbrev ints (l:List Int):PV:=.vec (l.map (PV.int .i64))
theorem xr {α:Type}{f:α→PV}{n:Nat}(h:∀x,(f x).cells.length=n)(l:List α):ky n (l.map f)=true:=by
 unfold ky
 rw[List.all_eq_true]
 intro e he
 obtain⟨x,_,rfl⟩:=List.mem_map.1 he
 rw[beq_eq,decide_eq_true_eq];exact h x
theorem xt {α:Type}{f:α→PV}(h:∀x,(f x).cells.all PV.one=true)(l:List α):kz (l.map f)=true:=by
 unfold kz
 rw[List.all_eq_true]
 intro e he
 obtain⟨x,_,rfl⟩:=List.mem_map.1 he
 exact h x
theorem zzt {α:Type}{f:α→PV}(h:∀x,(f x).aH=true)(l:List α):PV.aJ (l.map f)=true:=PV.Pj fun e he=>by
 obtain⟨x,_,rfl⟩:=List.mem_map.1 he
 exact h x
@[simp] theorem z8z (k:IntKind)(l:List Int):ky 1 (l.map (PV.int k))=true:=xr (f:=PV.int k) (n:=1) (fun _=>rfl) l
@[simp] theorem z7d (k:IntKind)(l:List Int):kz (l.map (PV.int k))=true:=xt (f:=PV.int k) (fun _=>rfl) l
@[simp] theorem xa0 (k:IntKind)(l:List Int):PV.aJ (l.map (PV.int k))=true:=zzt (f:=PV.int k) (fun _=>by simp[PV.aH]) l
def Rec (b:Nat)(ae:aX)(vh:ai)(ax:aX)(aP:ai):Prop:=∃D ρ,wT b D ρ ae vh ax aP
theorem VW.rec {P:Program}{N b:Nat}{Q:ie}{ae ax:aX}{vh aP:ai}{c:Code}(a:Rec b ae vh ax aP)(hc:VW P N b c Q ax aP):VW P N b c Q ae vh:=by
 obtain⟨D,ρ,a⟩:=a
 exact .z9s D ρ a hc
def kj (ae:aX):aX→Prop
 |[]=>True
 |(t,v)::r=>cm t ae=some v∧kj ae r
theorem Uv {ae:aX}:∀ {ax:aX},kj ae ax→∀t v,cm t ax=some v→cm t ae=some v
 |[],_,t,v,h=>by simp[cm] at h
 |(u,w)::r,hs,t,v,h=>by
  simp only[cm,beq_eq] at h
  by_cases AQ:t=u
  ·subst AQ;simp at h;subst h;exact hs.1
  simp[AQ] at h;exact Uv hs.2 t v h
def ru:aX→Bool
 |[]=>true
 |(_,v)::r=>v.aH&&ru r
theorem Uw:∀ {ae:aX},ru ae=true→∀t v,cm t ae=some v→v.aH=true
 |[],_,t,v,h=>by simp[cm] at h
 |(u,w)::r,hs,t,v,h=>by
  simp only[ru,bV] at hs
  simp only[cm,beq_eq] at h
  by_cases AQ:t=u
  ·subst AQ;simp at h;subst h;exact hs.1
  simp[AQ] at h;exact Uw hs.2 t v h
theorem Rec.pure {ae ax:aX}{vh:ai}(h1:ru ax=true)(h2:kj ae ax):Rec 0 ae vh ax ai.empty:=
 ⟨fun _=>false,id,⟨fun t v hv=>⟨v,Uv h2 t v hv,.same v (Uw h1 t v hv)⟩,fun j y hy=>(by cases hy),fun j k y z hy=>(by cases hy),fun j hj=>rfl,Nat.zero_le _⟩⟩
def uo (l:List (Nat×Nat))(j:Nat):Nat:=
 match l with
 |[]=>j
 |(a,b)::r=>bif Nat.beq j a then b else uo r j
def qS (vh:ai)(n2:Nat)(D:Nat→Bool)(ρ:Nat→Nat):List (Nat×aL)→Prop
 |[]=>True
 |(j,y)::r=>(j<n2∧((∃sz,y=.grow sz []∧0<sz)∨D (ρ j)=false∧∃x,vh.get (ρ j)=some x∧kZ vh n2 D ρ x y))∧qS vh n2 D ρ r
theorem qS.get {vh:ai}{n2:Nat}{D:Nat→Bool}{ρ:Nat→Nat}:∀ {l:List (Nat×aL)},qS vh n2 D ρ l→∀j y,bs j l=some y→j<n2∧((∃sz,y=.grow sz []∧0<sz)∨D (ρ j)=false∧∃x,vh.get (ρ j)=some x∧kZ vh n2 D ρ x y)
 |[],_,j,y,h=>by simp[bs] at h
 |(k,z)::r,hs,j,y,h=>by
  simp only[bs,beq_eq] at h
  by_cases tP:j=k
  ·subst tP;simp at h;subst h;exact hs.1
  simp[tP] at h;exact qS.get hs.2 j y h
theorem NL:∀ {l:List (Nat×aL)} {j:Nat} {y:aL},bs j l=some y→j∈l.map (·.1)
 |[],j,y,h=>by simp[bs] at h
 |(k,z)::r,j,y,h=>by
  simp only[bs,beq_eq] at h
  by_cases tP:j=k
  ·subst tP;simp
  simp[tP] at h;simp only[List.map_cons,List.mem_cons];exact .inr (NL h)
def vJ (ρ:Nat→Nat)(l:List Nat):Bool:=l.all fun j=>l.all fun k=>!(Nat.beq (ρ j) (ρ k))||Nat.beq j k
def Nz (b:Nat)(ρ:Nat→Nat):Bool:=(List.range b).all fun j=>Nat.beq (ρ j) j
theorem Rec.mk {b:Nat}{ae ax:aX}{vh aP:ai}(D:List Nat)(ρ:List (Nat×Nat))(ht:mU ae vh aP.next (fun i=>D.contains i) (uo ρ) ax)(ho:qS vh aP.next (fun i=>D.contains i) (uo ρ) aP.bg)
  (hi:vJ (uo ρ) (aP.bg.map (·.1))=true) (hb:Nz b (uo ρ)=true) (hn:Nat.ble b aP.next=true):Rec b ae vh ax aP:=by
 refine⟨fun i=>D.contains i,uo ρ,⟨fun t v hv=>mU.get ht t v hv,fun j y hy=>qS.get ho j y hy,fun j k y z hy hz _ _ he=>?_,fun j hj=>?_,by simpa using hn⟩⟩
 ·unfold vJ at hi
  rw[List.all_eq_true] at hi
  have h1:=hi j (NL hy)
  rw[List.all_eq_true] at h1
  have h2:=h1 k (NL hz)
  rw[he] at h2
  simpa[beq_eq] using h2
 unfold Nz at hb
 rw[List.all_eq_true] at hb
 simpa using hb j (by simpa using hj)
theorem VW.ec {P:Program}{N b:Nat}{Q:ie}{ae:aX}{vh:ai}{c:Code}{S:Type}(st:S→aX×ai)(I:S→Prop)(m:S→Nat)(s0:S)(h0:I s0)(hr:Rec b ae vh (st s0).1 (st s0).2)
  (round:∀s,I s→VW P N b c (zB (fun aS ak=>∃s',I s'∧m s'<m s∧Rec b aS ak (st s').1 (st s').2) Q) (st s).1 (st s).2):VW P N b (.loop c) Q ae vh:=
 .loop (fun k ae vh=>∃s,I s∧m s=k∧Rec b ae vh (st s).1 (st s).2) (m s0) ⟨s0,h0,rfl,hr⟩ fun k ae vh ⟨s,h1,h2,h3⟩=>by
  subst h2
  refine .rec h3 ((round s h1).mono fun e ae vh hq=>?_)
  cases e with
  |normal=>obtain⟨s',k1,k2,k3⟩:=hq;exact⟨m s',k2,s',k1,rfl,k3⟩
  |exit id=>exact hq
  |goto l=>exact hq
  |ret=>exact hq
  |panic ch=>exact hq
  |outgrown=>exact hq
def rO (P:Program)(lo:Nat)(ops:Array Oper)(ts:aI)(h:ah)(m:Nat):Prop:=
 ∃o d v h1,ops[m]?=some o∧o.dst=some d∧tL o.op=true∧ts[d]?=some v∧ct P lo ts h o.op=some (v,h1)
def Hc (op:Op)(d:Nat):Bool:=op.operands.toList.all fun x=>match x with
 |.tmp t=>!Nat.beq t d
 |_=>true
def Jr (ops:Array Oper)(dst:Option Tmp)(k:Nat):Bool:=
 match dst with
 |none=>true
 |some d=>match ops[k]? with
  |some o=>Hc o.op d&&(match o.dst with|some d'=>!Nat.beq d' d|none=>true)
  |none=>false
def xY (o:Oper):Bool:=
 match o.dst with
 |some d=>Hc o.op d
 |none=>false
section
variable {P:Program} {N b lo:Nat} {ops:Array Oper}
theorem zxp {ts:aI}{x:Operand}{d:Nat}{v:Value}(hx:(match x with|.tmp t=>!Nat.beq t d|_=>true)=true):cP ts x=cP (bA ts (some d) v) x:=by
 cases x with
 |tmp t=>
  have:t≠d:=by simpa[beq_eq] using hx
  simp only[cP]
  rw[Ph (fun h=>this h.symm)]
 |const=>rfl
 |func=>rfl
 |global=>rfl
theorem Ux {op:Op}{d:Nat}{ts:aI}{v:Value}(hf:Hc op d=true):∀x∈op.operands,cP ts x=cP (bA ts (some d) v) x:=fun x hx=>by
 unfold Hc at hf
 rw[List.all_eq_true] at hf
 exact zxp (hf x (by simpa using hx))
theorem rO.put {ts:aI}{h h2:ah}{m:Nat}{dst:Option Tmp}(v:Value)(hc:rO P lo ops ts h m)(hs:h.sub h2)(hf:Jr ops dst m=true):rO P lo ops (bA ts dst v) h2 m:=by
 obtain⟨o,d,u,h1,k1,k2,k3,k4,k5⟩:=hc
 obtain⟨e1,e2⟩:=z7 k3 k5
 have k6:=e2 h2 hs
 cases dst with
 |none=>exact⟨o,d,u,h2,k1,k2,k3,k4,k6⟩
 |some d'=>
  simp only[Jr,k1,k2,bV] at hf
  have dp:d≠d':=by simpa[beq_eq] using hf.2
  refine⟨o,d,u,h2,k1,k2,k3,?_,?_⟩
  ·simp only[bA];rw[List.getElem?_set_ne (fun h=>dp h.symm)];exact k4
  rw[← Bn (Ux hf.1)];exact k6
theorem rO.new {ts:aI}{h:ah}{m d:Nat}{o:Oper}{v:Value}{h1:ah}(ho:ops[m]?=some o)(hd:o.dst=some d)(aY:d<ts.length)(hr:tL o.op=true)(ha:ct P lo ts h o.op=some (v,h1))(hf:Hc o.op d=true):rO P lo ops (bA ts o.dst v) h m:=by
 obtain⟨e1,_⟩:=z7 hr ha
 subst e1
 refine⟨o,d,v,h1,ho,hd,hr,by rw[hd];simp[bA,aY],?_⟩
 rw[hd,← Bn (Ux hf)];exact ha
def iL (ops:Array Oper)(todo:List Nat)(dst:Option Tmp):List Nat:=todo.filter (Jr ops dst)
def p7 (P:Program)(N b:Nat)(ops:Array Oper)(o:Oper)(todo:List Nat)(next:List Nat→aX→ai→Prop)(ae:aX)(vh:ai):Prop:=
 ∀lo g σ h ts,VT g σ vh.next ae ts→ts.length=N→VS lo g σ vh h→b≤vh.next→(∀m∈todo,rO P lo ops ts h m)→∀jy,xd ops o jy ts→
  oY P lo o jy h fun bc h'=>∃v',bc=bA jy o.dst v'∧∃ee,(∀m∈ee,rO P lo ops (bA ts o.dst v') h' m)∧oe N b lo g σ vh h (next ee) (bA ts o.dst v') h'
theorem Hd {h:ah}{y:a7}:h.sub (h.alloc y):=fun o x hx=>by
 rw[ah.ij,if_neg (by have:=ah.fJ hx;omega)];exact hx
theorem z3w {op:Op}{ts:aI}{h h':ah}{v:Value}(hi:EN op=true)(ha:ct P lo ts h op=some (v,h')):h.sub h':=by
 cases op<;>simp only[EN,Bool.false_eq_true] at hi
 case alloc t=>
  simp only[ct,C6] at ha
  split at ha
  ·simp only[az,bO] at ha;rw[← ha.2];exact Hd
  cases ha
 case box t x=>
  simp only[ct] at ha
  obtain⟨u,_,h2⟩:=dd ha
  simp only[rS,bO] at h2;rw[← h2.2];exact Hd
 case buildSlice t n ps=>
  simp only[ct] at ha
  split at ha
  ·unfold Dc at ha
   split at ha
   ·split at ha
    ·cases hb:(Nat.beq _ _&&Nat.ble _ _&&Nat.blt _ _) with
     |false=>rw[hb] at ha;cases ha
     |true=>
      rw[hb] at ha;simp only[aM] at ha
      split at ha
      ·simp only[az,bO] at ha;rw[← ha.2];exact Hd
      cases ha
    cases ha
   cases ha
  cases ha
 case makeMap t r=>
  cases r with
  |none=>simp only[ct,az,bO] at ha;rw[← ha.2];exact Hd
  |some=>simp[ct] at ha
 case makeSlice t l c=>
  simp only[ct] at ha
  split at ha
  ·unfold Dd at ha
   split at ha
   ·split at ha
    ·cases hb:(Nat.beq _ _&&Nat.ble _ _&&Nat.ble _ _&&Nat.blt _ _&&Nat.ble _ _) with
     |false=>rw[hb] at ha;cases ha
     |true=>rw[hb] at ha;simp only[aM,az,bO] at ha;rw[← ha.2];exact Hd
    cases ha
   cases ha
  cases ha
section
variable {ae:aX} {vh:ai} {o:Oper} {todo:List Nat} {next:List Nat→aX→ai→Prop}
theorem p7.eo {v:PV}{ak:ai}(hv:Go.Am.eo P ae vh o.op=some (v,ak))(hd:gB N o.dst=true)(hn:next (bif EN o.op then iL ops todo o.dst else []) (bZ ae o.dst v) ak):p7 P N b ops o todo next ae vh:=fun lo g σ h ts ht hl s hb gk jy dZ=>by
 obtain⟨v',h',k1,aO,k2,k3,k4,k5,k6⟩:=CP s ht hv
 obtain⟨g1,g2⟩:=qR (Fz.le_refl g) k5 k6 ht o.dst (hl▸hd) k2
 refine .op (v:=v') (h':=h') ?_ ⟨v',rfl,_,?_,g,aO,_,ak,⟨g1,g2.trans hl,k3,Fz.le_refl g,fun i hi=>k6 i (by omega),k4,by omega,dQ.refl _ _ _ _⟩,hn⟩
 ·rw[Bn (fun x hx=>dZ.eval x hx)];exact k1
 intro m hm
 cases hi:EN o.op with
 |false=>rw[hi] at hm;cases hm
 |true=>
  rw[hi] at hm
  simp only[aM,iL,List.mem_filter] at hm
  exact(gk m hm.1).put v' (z3w hi k1) hm.2
theorem p7.CU {fo:Operand}{args:Array Operand}{aT:Array TypeId}{f:FuncId}{xs ys l:List PV}(ho:o.op=.call ⟨.value fo,args,aT⟩)
  (hf:cN ae fo=some (.func f xs ys)) (hl:jL ae args.toList=some l) (dR:∀cs w,(callFunc f cs).run P w=.ok (.enter f cs) w) (hd:gB N o.dst=true)
  (hc:zF P f (xs++l++ys) vh fun r ak=>next (iL ops todo o.dst) (bZ ae o.dst r) ak):p7 P N b ops o todo next ae vh:=fun lo g σ h ts ht hn s hb gk jy dZ=>by
 obtain⟨f',k1,k2⟩:=eH ht hf
 obtain⟨l',k3,k4⟩:=yI ht hl
 obtain⟨bl,dv,rfl,hx,hy⟩:=Jq k2
 have e1:cP jy fo=cP ts fo:=dZ.eval fo (by rw[ho];simp[Op.operands,Call.operands])
 have e2:nK jy args.toList=nK ts args.toList:=Dm fun x hx=>dZ.eval x (by rw[ho];simp[Op.operands,Call.operands];exact .inr (by simpa using hx))
 refine .Kc ho (e1.trans k1) (e2.trans k3) dR ((hc lo g σ h _ ((hx.append k4).append hy) s).mono fun r h' ⟨h0,g',aO,v,ak,h1,h2,h3,h4,h5,h6,h7,h8⟩=>?_)
 obtain⟨g1,g2⟩:=qR h3 h6 h4 ht o.dst (hn▸hd) h1
 refine⟨r,rfl,_,fun m hm=>?_,g',aO,_,ak,⟨g1,g2.trans hn,h2,h3,fun i hi=>h4 i (by omega),h5,by omega,h7⟩,h8⟩
 simp only[iL,List.mem_filter] at hm
 exact(gk m hm.1).put r h0 hm.2
theorem p7.call {fo:Operand}{args:Array Operand}{aT:Array TypeId}{f:FuncId}{xs ys l:List PV}(ho:o.op=.call ⟨.value fo,args,aT⟩)
  (hf:cN ae fo=some (.func f xs ys)) (hl:jL ae args.toList=some l) (dR:∀cs w,(callFunc f cs).run P w=.ok (.enter f cs) w) (hd:gB N o.dst=true)
  (hc:du P f (xs++l++ys) vh fun r ak=>next [] (bZ ae o.dst r) ak):p7 P N b ops o todo next ae vh:=fun lo g σ h ts ht hn s hb gk jy dZ=>by
 obtain⟨f',k1,k2⟩:=eH ht hf
 obtain⟨l',k3,k4⟩:=yI ht hl
 obtain⟨bl,dv,rfl,hx,hy⟩:=Jq k2
 have e1:cP jy fo=cP ts fo:=dZ.eval fo (by rw[ho];simp[Op.operands,Call.operands])
 have e2:nK jy args.toList=nK ts args.toList:=Dm fun x hx=>dZ.eval x (by rw[ho];simp[Op.operands,Call.operands];exact .inr (by simpa using hx))
 refine .Kc ho (e1.trans k1) (e2.trans k3) dR ((hc lo g σ h _ ((hx.append k4).append hy) s).mono fun r h' ⟨g',aO,v,ak,h1,h2,h3,h4,h5,h6,h7,h8⟩=>?_)
 obtain⟨g1,g2⟩:=qR h3 h6 h4 ht o.dst (hn▸hd) h1
 exact⟨r,rfl,[],fun m hm=>(by cases hm),g',aO,_,ak,⟨g1,g2.trans hn,h2,h3,fun i hi=>h4 i (by omega),h5,by omega,h7⟩,h8⟩
end
def cy (P:Program)(N b:Nat)(ops:Array Oper)(W:List Nat)(K:aX→ai→Prop):List iy→List Nat→aX→ai→Prop
 |[],_,ae,vh=>K ae vh
 |.op m::r,todo,ae,vh=>
  match ops[m]? with
  |none=>False
  |some o=>match jh ops o ae with
   |none=>False
   |some false=>gB N o.dst=true∧cy P N b ops W K r (iL ops todo o.dst) (bZ ae o.dst (.bn [])) vh
   |some true=>bif W.contains m then p7 P N b ops o todo (cy P N b ops W K r) ae vh
    else tL o.op=true∧gB N o.dst=true∧∃v,eo P ae vh o.op=some (v,vh)∧cy P N b ops W K r (bif xY o then m::iL ops todo o.dst else iL ops todo o.dst) (bZ ae o.dst v) vh
 |.ck m::r,todo,ae,vh=>
  match ops[m]? with
  |none=>False
  |some o=>(todo.contains m=true∨o.dst.isSome=true∧jh ops o ae=some false)∧cy P N b ops W K r todo ae vh
theorem He {ms W:List Nat}(hd:∀d∈(ops.toList.filterMap (·.dst)),d<N){K:aX→ai→Prop}{g:Fz}{σ:Sg}{vh:ai}{h:ah}{base:Nat}:∀(items:List iy) (todo:List Nat) (bc:aI) (h':ah) (g':Fz) (aO:Sg) (aS:aX) (ak:ai),dG N b lo g σ vh h bc h' g' aO aS ak→
  (∀m∈todo,rO P lo ops bc h' m)→cy P N b ops W K items todo aS ak→xh P lo ops base ms W [] (oe N b lo g σ vh h K) items bc [] h'
 |[],todo,bc,h',g',aO,aS,ak,a,gk,k=>⟨g',aO,aS,ak,a,k⟩
 |.op m::r,todo,bc,h',g',aO,aS,ak,a,gk,k=>by
  simp only[cy] at k
  cases ho:ops[m]? with
  |none=>rw[ho] at k;exact k.elim
  |some o=>
   rw[ho] at k
   simp only at k
   refine⟨o,ho,?_⟩
   split at k
   ·exact k.elim
   ·rename_i hw
    rw[AP (a.len▸hd) a.t hw]
    simp only[bq]
    obtain⟨g1,g2⟩:=qR (Fz.le_refl g') (Nat.le_refl _) (fun _ _=>rfl) a.t o.dst (a.len▸k.1) (.fr _ _ rN)
    refine He hd r _ _ h' g' aO _ ak ⟨g1,g2.trans a.len,a.s,a.le,a.agree,a.f,a.base,a.own⟩ (fun m hm=>?_) k.2
    simp only[iL,List.mem_filter] at hm
    exact(gk m hm.1).put _ (fun _ _ hx=>hx) hm.2
   rename_i hw
   rw[AP (a.len▸hd) a.t hw]
   simp only[aM]
   cases hW:W.contains m with
   |true=>
    rw[hW] at k
    simp only[aM] at k ⊢
    intro jy dZ
    refine(k lo g' aO h' bc a.t a.len a.s a.base gk jy dZ).mono fun me h2 ⟨v',e,ee,CW,g2,dq,ax,aP,c,k2⟩=>⟨v',e,?_⟩
    exact He hd r ee _ h2 g2 dq ax aP (a.trans c) CW k2
   |false=>
    rw[hW] at k
    simp only[bq,List.contains_nil] at k ⊢
    obtain⟨hr,qC,v,hv,k2⟩:=k
    obtain⟨v',h1,e1,dq,e2,e3,e4,e5,e6⟩:=CP (lo:=lo) a.s a.t hv
    obtain⟨e7,_⟩:=z7 hr e1
    subst e7
    obtain⟨g1,g2⟩:=qR (Fz.le_refl g') (Nat.le_refl _) e6 a.t o.dst (a.len▸qC) e2
    have CX:∀i,i<b→dq i=σ i:=fun i hi=>(e6 i (Nat.lt_of_lt_of_le hi a.base)).trans (a.agree i hi)
    refine⟨v',h1,e1,He hd r _ _ h1 g' dq _ ak ⟨g1,g2.trans a.len,e3,a.le,CX,a.f.trans e4,a.base,a.own⟩ (fun m' hm=>?_) k2⟩
    have fS:m'∈iL ops todo o.dst→rO P lo ops (bA bc o.dst v') h1 m':=fun hm=>by
     simp only[iL,List.mem_filter] at hm
     exact(gk m' hm.1).put _ (fun _ _ hx=>hx) hm.2
    cases oK:xY o with
    |false=>rw[oK] at hm;exact fS hm
    |true=>
     rw[oK] at hm
     simp only[aM,List.mem_cons] at hm
     rcases hm with rfl|hm
     ·unfold xY at oK
      cases od:o.dst with
      |none=>rw[od] at oK;cases oK
      |some d=>
       rw[od] at oK
       have aY:d<bc.length:=by
        have:=a.len▸qC
        rw[od] at this
        simpa[gB] using this
       have:=rO.new (P:=P) (lo:=lo) ho od aY hr e1 oK
       rwa [od] at this
     exact fS hm
 |.ck m::r,todo,bc,h',g',aO,aS,ak,a,gk,k=>by
  simp only[cy] at k
  cases ho:ops[m]? with
  |none=>rw[ho] at k;exact k.elim
  |some o=>
   rw[ho] at k
   simp only at k
   obtain⟨k1,k2⟩:=k
   have rest:=He (base:=base) (ms:=ms) hd r _ bc h' g' aO aS ak a gk k2
   rcases k1 with k1|⟨k1,hw⟩
   ·have hm:m∈todo:=by simpa using k1
    obtain⟨o',d,v,h1,c1,c2,c3,c4,c5⟩:=gk m hm
    rw[ho] at c1;injection c1 with c1;subst c1
    exact⟨o,d,ho,c2,fun _=>⟨v,h1,c4,c5⟩,rest⟩
   cases od:o.dst with
   |none=>rw[od] at k1;cases k1
   |some d=>exact⟨o,d,ho,od,fun mn=>(by rw[AP (a.len▸hd) a.t hw] at mn;cases mn),rest⟩
theorem VW.drawn {id:Nat}{Q:ie}{ae:aX}{vh:ai}{ms W:List Nat}{items:List iy}(hm:P.follows .mixedOrders=true)(dB:EY ops ms W []=true)(hc:xj ops ms W [] [] W [] items=true)(hd:xX N ops=true)
  (hs:cy P N b ops W (Q .normal) items [] ae vh):VW P N b (.region id ops true) Q ae vh:=fun lo g σ h ts ht hn s hb=>
 .sched hm dB rfl hc (He (NH hd) items [] ts h g σ ae vh (.refl ht hn s hb) (fun m hm=>(by cases hm)) hs)
end
@[simp] theorem z8x (cs:List PV):(PV.agg cs).cells=cs:=rfl
@[simp] theorem z9j (k:IntKind)(n:Int):(PV.int k n).cells=[.int k n]:=rfl
@[simp] theorem z7k (b:Bool):(PV.bool b).cells=[.bool b]:=rfl
@[simp] theorem z9d (s:ByteArray):(PV.str s).cells=[.str s]:=rfl
@[simp] theorem z9k (es:List PV):(PV.vec es).cells=[.vec es]:=rfl
@[simp] theorem z7l (es:List (PV×PV)):(PV.aC es).cells=[.aC es]:=rfl
@[simp] theorem xa2 (es:List PV):(PV.vp es).cells=[.vp es]:=rfl
@[simp] theorem z9t:PV.aG.cells=[.aG]:=rfl
@[simp] theorem xat:PV.e0.cells=[.e0]:=rfl
@[simp] theorem z7p:PV.eU.cells=[.eU]:=rfl
@[simp] theorem z7j:PV.dM.cells=[.dM]:=rfl
@[simp] theorem z1g:PV.nilFunc.cells=[.nilFunc]:=rfl
@[simp] theorem z7o (f:FuncId)(xs ys:List PV):(PV.func f xs ys).cells=[.func f xs ys]:=rfl
@[simp] theorem z9g (i off:Nat):(PV.ptr i off).cells=[.ptr i off]:=rfl
@[simp] theorem z9p (i off l k:Nat):(PV.own i off l k).cells=[.own i off l k]:=rfl
@[simp] theorem xap (i off l:Nat):(PV.sub i off l).cells=[.sub i off l]:=rfl
@[simp] theorem z7g (i n:Nat)(nl:Bool):(PV.grow i n nl).cells=[.grow i n nl]:=rfl
@[simp] theorem z7n (i:Nat):(PV.ba i).cells=[.ba i]:=rfl
@[simp] theorem z9r (cs:List PV):(PV.bn cs).cells=[.bn cs]:=rfl
@[simp] theorem z5n (a b:List PV):PV.aJ (a++b)=(PV.aJ a&&PV.aJ b):=by
 induction a with
 |nil=>rfl
 |cons v r ih=>simp only[List.cons_append,PV.aJ,ih,Bool.and_assoc]
theorem vc (a b:Nat):Nat.ble a b=decide (a≤b):=by rw[Bool.eq_iff_iff];simp
theorem xq (a b:Nat):Nat.blt a b=decide (a<b):=by rw[Bool.eq_iff_iff];simp
section
variable {P:Program} {N b:Nat} {Q:ie} {ae:aX} {vh:ai}
theorem VW.zae {c:Operand}{x y:Code}{v:Bool}(hc:cN ae c=some (.bool v))(hT:v=true→VW P N b x Q ae vh)(hF:v=false→VW P N b y Q ae vh):VW P N b (.cond c x y) Q ae vh:=by
 cases v with
 |true=>exact .ep hc (hT rfl)
 |false=>exact .gn hc (hF rfl)
theorem bE.split {ops:Array Oper}{K:aX→ai→Prop}{l:List Nat}{t:Nat}{v:Bool}(hv:cm t ae=some (.bool v))(hT:v=true→bE P N b ops K l ae vh)(hF:v=false→bE P N b ops K l ae vh):bE P N b ops K l ae vh:=by
 cases v with
 |true=>exact hT rfl
 |false=>exact hF rfl
theorem cy.split {ops:Array Oper}{W todo:List Nat}{K:aX→ai→Prop}{l:List iy}{t:Nat}{v:Bool}(hv:cm t ae=some (.bool v))(hT:v=true→cy P N b ops W K l todo ae vh)(hF:v=false→cy P N b ops W K l todo ae vh):cy P N b ops W K l todo ae vh:=by
 cases v with
 |true=>exact hT rfl
 |false=>exact hF rfl
theorem VW.au {id:Nat}{ops:Array Oper}(l:List Nat)(hl:List.range ops.size=l)(hd:xX N ops=true)(hk:bE P N b ops (Q .normal) l ae vh):VW P N b (.region id ops false) Q ae vh:=.region hd (hl▸hk)
theorem bE.step {ops:Array Oper}{K:aX→ai→Prop}{i:Nat}{r:List Nat}{o:Oper}(ho:ops[i]?=some o)(hw:jh ops o ae=some true)(hs:kI P N b o (bE P N b ops K r) ae vh):bE P N b ops K (i::r) ae vh:=by
 simp only[bE,ho,hw];exact hs
theorem bE.done {ops:Array Oper}{K:aX→ai→Prop}(hk:K ae vh):bE P N b ops K [] ae vh:=hk
theorem kI.pure {o:Oper}{next:aX→ai→Prop}{fo:Operand}{args:Array Operand}{aT:Array TypeId}{f:FuncId}{xs ys l:List PV}{R:PV→Prop}(ho:o.op=.call ⟨.value fo,args,aT⟩)
  (hf:cN ae fo=some (.func f xs ys)) (hl:jL ae args.toList=some l) (dR:∀cs w,(callFunc f cs).run P w=.ok (.enter f cs) w) (hd:gB N o.dst=true)
  (hp:aN P f (xs++l++ys) R) (hF:PV.aJ (xs++l++ys)=true) (hn:∀r,R r→next (bZ ae o.dst r) vh):kI P N b o next ae vh:=
 .call ho hf hl dR hd ((hp.call hF).mono fun r ak ⟨h1,h2⟩=>h1▸hn r h2)
theorem kI.borrow {o:Oper}{next:aX→ai→Prop}{fo:Operand}{args:Array Operand}{aT:Array TypeId}{f:FuncId}{xs ys l cB:List PV}{R:PV→Prop}(ho:o.op=.call ⟨.value fo,args,aT⟩)
  (hf:cN ae fo=some (.func f xs ys)) (hl:jL ae args.toList=some l) (dR:∀cs w,(callFunc f cs).run P w=.ok (.enter f cs) w) (hd:gB N o.dst=true)
  (hz:cA vh (xs++l++ys)=some cB) (hp:aN P f cB R) (Hb:∀v,R v→v.dU=true) (hn:∀r,R r→next (bZ ae o.dst r) vh):kI P N b o next ae vh:=
 .call ho hf hl dR hd ((hp.borrow hz Hb).mono fun r ak ⟨h1,h2⟩=>h1▸hn r h2)
theorem p7.pure {ops:Array Oper}{todo:List Nat}{o:Oper}{next:List Nat→aX→ai→Prop}{fo:Operand}{args:Array Operand}{aT:Array TypeId}{f:FuncId}{xs ys l:List PV}{R:PV→Prop}(ho:o.op=.call ⟨.value fo,args,aT⟩)
  (hf:cN ae fo=some (.func f xs ys)) (hl:jL ae args.toList=some l) (dR:∀cs w,(callFunc f cs).run P w=.ok (.enter f cs) w) (hd:gB N o.dst=true)
  (hp:aN P f (xs++l++ys) R) (hF:PV.aJ (xs++l++ys)=true) (hn:∀r,R r→next (iL ops todo o.dst) (bZ ae o.dst r) vh):p7 P N b ops o todo next ae vh:=
 .CU ho hf hl dR hd ((hp.CU hF).mono fun r ak ⟨h1,h2⟩=>h1▸hn r h2)
theorem cy.rd {ops:Array Oper}{W todo:List Nat}{K:aX→ai→Prop}{m:Nat}{r:List iy}{o:Oper}{v:PV}(ho:ops[m]?=some o)(hw:jh ops o ae=some true)(hW:W.contains m=false)(hr:tL o.op=true)(hd:gB N o.dst=true)(hv:eo P ae vh o.op=some (v,vh))
  (k:cy P N b ops W K r (bif xY o then m::iL ops todo o.dst else iL ops todo o.dst) (bZ ae o.dst v) vh):cy P N b ops W K (.op m::r) todo ae vh:=by
 simp only[cy,ho,hw,hW,bq];exact⟨hr,hd,v,hv,k⟩
theorem cy.wr {ops:Array Oper}{W todo:List Nat}{K:aX→ai→Prop}{m:Nat}{r:List iy}{o:Oper}(ho:ops[m]?=some o)(hw:jh ops o ae=some true)(hW:W.contains m=true)
  (k:p7 P N b ops o todo (cy P N b ops W K r) ae vh):cy P N b ops W K (.op m::r) todo ae vh:=by
 simp only[cy,ho,hw,hW,aM];exact k
theorem cy.un {ops:Array Oper}{W todo:List Nat}{K:aX→ai→Prop}{m:Nat}{r:List iy}{o:Oper}(ho:ops[m]?=some o)(hw:jh ops o ae=some false)(hd:gB N o.dst=true)
  (k:cy P N b ops W K r (iL ops todo o.dst) (bZ ae o.dst (.bn [])) vh):cy P N b ops W K (.op m::r) todo ae vh:=by
 simp only[cy,ho,hw];exact⟨hd,k⟩
theorem cy.ck {ops:Array Oper}{W todo:List Nat}{K:aX→ai→Prop}{m:Nat}{r:List iy}{o:Oper}(ho:ops[m]?=some o)(hc:todo.contains m=true)
  (k:cy P N b ops W K r todo ae vh):cy P N b ops W K (.ck m::r) todo ae vh:=by
 simp only[cy,ho];exact⟨.inl hc,k⟩
theorem cy.done {ops:Array Oper}{W todo:List Nat}{K:aX→ai→Prop}(hk:K ae vh):cy P N b ops W K [] todo ae vh:=hk
end
theorem Alt.xM {vh:ai}{n2:Nat}{D:Nat→Bool}{ρ:Nat→Nat}(i j n n':Nat)(nl:Bool)(hn:n=n')(hj:j<n2)(hi:ρ j=i):Alt vh n2 D ρ (.grow i n nl) (.grow j n' nl):=hn▸.grow i j n nl hj hi
mutual
def PV.ids:PV→List Nat
 |.func _ xs ys=>PV.di xs++PV.di ys
 |.agg cs=>PV.di cs
 |.bn cs=>PV.di cs
 |.ptr i _|.own i _ _ _|.sub i _ _|.grow i _ _|.ba i|.bw i=>[i]
 |_=>[]
def PV.di:List PV→List Nat
 |[]=>[]
 |v::r=>v.ids++PV.di r
end
def ia:List Nat→ai→ai
 |[],vh=>vh
 |i::r,vh=>ia r (vh.drop i)
theorem x5:∀(l:List Nat) (vh:ai),(ia l vh).next=vh.next
 |[],_=>rfl
 |i::r,vh=>x5 r (vh.drop i)
theorem rP:∀(l:List Nat) (vh:ai) (j:Nat) (y:aL),(ia l vh).get j=some y→j∉l∧vh.get j=some y
 |[],_,j,y,h=>⟨by simp,h⟩
 |i::r,vh,j,y,h=>by
  obtain⟨h1,h2⟩:=rP r (vh.drop i) j y h
  obtain⟨h3,h4⟩:=jX h2
  exact⟨by simp[h1,h3],h4⟩
mutual
theorem z0v (vh:ai)(D:Nat→Bool):∀(v v2:PV),(∀i∈v.ids,D i=true)→bK vh v=some v2→Alt vh 0 D id v v2
 |.func f xs ys,v2,hD,h=>by
  simp only[bK] at h
  simp only[PV.ids,List.mem_append] at hD
  split at h
  ·rename_i a c h1 h2
   injection h with h;subst h
   exact .dA (CY vh D xs a (fun i hi=>hD i (.inl hi)) h1) (CY vh D ys c (fun i hi=>hD i (.inr hi)) h2)
  cases h
 |.agg cs,v2,hD,h=>by
  simp only[bK] at h
  simp only[PV.ids] at hD
  obtain⟨l,h1,rfl⟩:=dd h
  exact .j7 (CY vh D cs l hD h1)
 |.bn cs,v2,hD,h=>by
  simp only[bK] at h
  simp only[PV.ids] at hD
  obtain⟨l,h1,rfl⟩:=dd h
  exact .CI (CY vh D cs l hD h1)
 |.ptr i off,v2,hD,h=>by
  have x6:=hD i (by simp[PV.ids])
  simp only[bK] at h
  split at h
  ·rename_i cs hg
   cases hb:(PV.aJ cs&&Nat.ble off cs.length) with
   |false=>rw[hb] at h;cases h
   |true=>
    rw[hb] at h;simp only[aM,az] at h;subst h
    simp only[bV,Nat.ble_eq] at hb
    exact .CS i off cs x6 hg hb.1 hb.2
  ·rename_i ag sz cs hg
   cases hb:Nat.ble off cs.length with
   |false=>rw[hb] at h;cases h
   |true=>
    rw[hb] at h;simp only[aM,az] at h;subst h
    exact .wS i off ag sz cs x6 hg (by simpa using hb)
  cases h
 |.own i off len k,v2,hD,h=>by
  have x6:=hD i (by simp[PV.ids])
  simp only[bK] at h
  rcases jU len 0 with⟨hq,b8⟩|⟨hq,b8⟩
  ·rw[hq] at h;simp only[aM,az] at h;subst h;subst b8;exact .wR i off k
  rw[hq] at h;simp only[bq] at h
  split at h
  ·rename_i ag sz cs hg
   obtain⟨es,h1,rfl⟩:=dd h
   exact .gU i off len k ag sz cs es x6 hg h1
  cases h
 |.sub i off len,v2,hD,h=>by
  have x6:=hD i (by simp[PV.ids])
  simp only[bK] at h
  rcases jU len 0 with⟨hq,b8⟩|⟨hq,b8⟩
  ·rw[hq] at h;simp only[aM,az] at h;subst h;subst b8;exact .wQ i off
  rw[hq] at h;simp only[bq] at h
  split at h
  ·rename_i ag sz cs hg
   obtain⟨es,h1,rfl⟩:=dd h
   exact .qH i off len ag sz cs es x6 hg h1
  cases h
 |.grow i n nl,v2,hD,h=>by
  have x6:=hD i (by simp[PV.ids])
  simp only[bK] at h
  split at h
  ·rename_i sz es hg
   rcases jU es.length n with⟨hq,b8⟩|⟨hq,b8⟩
   ·rw[hq] at h;simp only[aM,az] at h;subst h;exact .bR i n nl sz es x6 hg b8
   rw[hq] at h;cases h
  rcases jU n 0 with⟨hq,b8⟩|⟨hq,b8⟩
  ·rw[hq] at h;simp only[aM,az] at h;subst h;subst b8;exact .qT i nl
  rw[hq] at h;cases h
 |.iface t v,v2,hD,h=>by
  simp only[bK] at h
  cases hf:v.aH with
  |false=>rw[hf] at h;cases h
  |true=>rw[hf] at h;simp only[aM,az] at h;subst h;exact .same _ (by simp only[PV.aH];exact hf)
 |.ba i,v2,hD,h=>by
  have x6:=hD i (by simp[PV.ids])
  simp only[bK] at h
  split at h
  ·rename_i es hg
   injection h with h;subst h;exact .dD i es x6 hg
  cases h
 |.aC es,v2,hD,h=>by simp only[bK,az] at h;subst h;exact .same _ rfl
 |.bw _,v2,hD,h=>by simp[bK] at h
 |.bool b,v2,hD,h=>by simp only[bK,az] at h;subst h;exact .same _ rfl
 |.int k n,v2,hD,h=>by simp only[bK,az] at h;subst h;exact .same _ rfl
 |.str s,v2,hD,h=>by simp only[bK,az] at h;subst h;exact .same _ rfl
 |.nilFunc,v2,hD,h=>by simp only[bK,az] at h;subst h;exact .same _ rfl
 |.nilIface,v2,hD,h=>by simp only[bK,az] at h;subst h;exact .same _ rfl
 |.eU,v2,hD,h=>by simp only[bK,az] at h;subst h;exact .same _ rfl
 |.aG,v2,hD,h=>by simp only[bK,az] at h;subst h;exact .same _ rfl
 |.dM,v2,hD,h=>by simp only[bK,az] at h;subst h;exact .same _ rfl
 |.e0,v2,hD,h=>by simp only[bK,az] at h;subst h;exact .same _ rfl
 |.vec es,v2,hD,h=>by simp only[bK,az] at h;subst h;exact .same _ rfl
 |.vp cs,v2,hD,h=>by simp only[bK,az] at h;subst h;exact .same _ rfl
theorem CY (vh:ai)(D:Nat→Bool):∀(l l2:List PV),(∀i∈PV.di l,D i=true)→cA vh l=some l2→aF vh 0 D id l l2
 |[],l2,hD,h=>by simp only[cA,az] at h;subst h;exact .nil
 |v::r,l2,hD,h=>by
  simp only[cA] at h
  simp only[PV.di,List.mem_append] at hD
  split at h
  ·rename_i a l h1 h2
   injection h with h;subst h
   exact .cons (z0v vh D v a (fun i hi=>hD i (.inl hi)) h1) (CY vh D r l (fun i hi=>hD i (.inr hi)) h2)
  cases h
end
section
variable {P:Program} {N b:Nat} {ae:aX} {vh:ai}
theorem aN.Iv {f:FuncId}{args cB:List PV}{R:PV→Prop}(hp:aN P f cB R)(o6:cA vh args=some cB):du P f args vh fun v ak=>ak=ia (PV.di args) vh∧R v:=fun lo g σ h aB ha s=>by
 have hA:=CY vh (fun i=>(PV.di args).contains i) args cB (fun i hi=>by simpa using hi) o6
 have zG:=aF.ok s hA ha
 have hF:PV.aJ cB=true:=CT vh args cB o6
 have hle:=tn (D:=fun i=>(PV.di args).contains i) s
 have hS:VS lo (g.more σ vh h fun i=>(PV.di args).contains i) σ (ia (PV.di args) vh) h:=by
  refine⟨fun j y hy=>?_,fun j k y z hy hz=>s.inj j k y z (rP _ _ _ _ hy).2 (rP _ _ _ _ hz).2,fun j y hy=>s.low j y (rP _ _ _ _ hy).2,G8 s,fun j y hy hl=>?_,s.bI⟩
  ·obtain⟨k1,k2⟩:=s.obj j y (rP _ _ _ _ hy).2
   rw[x5]
   exact⟨k1,k2.mono hle (Nat.le_refl _) (fun _ _=>rfl) k1 fun _=>rfl⟩
  obtain⟨h1,h2⟩:=rP _ _ _ _ hy
  unfold Fz.more
  rw[if_neg]
  ·exact s.jf j y h2 hl
  rintro⟨i,z,k1,k2,k3,k4⟩
  have:=s.inj i j z y k2 h2 k3 hl k4
  subst this
  exact h1 (by simpa using k1)
 have Hf:VF σ vh h σ (ia (PV.di args) vh) h:=⟨Nat.le_refl _,fun _ _ _=>rfl,fun j y hy hl _=>⟨j,y,(rP _ _ _ _ hy).2,hl,rfl⟩⟩
 refine((hp.CU (vh:=ia (PV.di args) vh) hF) lo _ σ h aB (zG.aH hF).vr hS).mono fun r h' ⟨h0,g',aO,v,ak,h1,h2,h3,h4,h5,h6,h7,h8⟩=>?_
 rw[x5] at h4 h6
 exact⟨g',aO,v,ak,h1,h2,Fz.le_trans hle h3,h4,Hf.trans h5,h6,Jp.trans Hf h7,h8⟩
theorem kI.take {o:Oper}{next:aX→ai→Prop}{fo:Operand}{args:Array Operand}{aT:Array TypeId}{f:FuncId}{xs ys l cB:List PV}{R:PV→Prop}(ho:o.op=.call ⟨.value fo,args,aT⟩)
  (hf:cN ae fo=some (.func f xs ys)) (hl:jL ae args.toList=some l) (dR:∀cs w,(callFunc f cs).run P w=.ok (.enter f cs) w) (hd:gB N o.dst=true)
  (hz:cA vh (xs++l++ys)=some cB) (hp:aN P f cB R) (hn:∀r,R r→next (bZ ae o.dst r) (ia (PV.di (xs++l++ys)) vh)):kI P N b o next ae vh:=
 .call ho hf hl dR hd ((hp.Iv hz).mono fun r ak ⟨h1,h2⟩=>h1▸hn r h2)
theorem aN.alt {f:FuncId}{args:List PV}{R R2:PV→Prop}(hp:aN P f args R)(ha:∀r,R r→∃r2,Alt ai.empty 0 (fun _=>true) id r r2∧r2.aH=true∧R2 r2):aN P f args R2:=fun lo g σ h aB hA s=>by
 refine(hp lo g σ h aB hA s).mono fun r h' ⟨g',aO,v,ak,h1,h2,h3,h4,h5,h6,h7,h8,h9⟩=>?_
 obtain⟨r2,k1,k2,k3⟩:=ha v h9
 have s0:VS lo g' aO ai.empty h':=.none h2.fz h2.bI aO
 have hv:VR g' aO ai.empty.next v r:=.fr _ _ (h1.aH h8)
 have k4:=(k1.ok s0 r hv).aH k2
 have Hg:g'.more aO ai.empty h' (fun _=>true)=g':=by
  funext o
  unfold Fz.more
  rw[if_neg]
  rintro⟨i,x,_,hx,_⟩
  cases hx
 rw[Hg] at k4
 exact⟨g',aO,r2,ak,.fr _ _ k4,h2,h3,h4,h5,h6,h7,k2,k3⟩
end
end Go.Am
end
