/-
 What is used in the proof of a statement (part Vm1); no condition.
-/
import Derived.Test.YtnablaecbohhmaaGreatAm3
set_option linter.all false
set_option maxHeartbeats 40000000
set_option maxRecDepth 100000
/-
 The value machine, part F: append, copy, maps.
-/
section
namespace Go.Am
section
variable {P:Program} {lo:Nat} {g:Fz} {σ:Sg} {vh:zab} {h:zaa}
def zdr (es:List PV):Bool:=es.all fun e=>e.cells.all PV.one
theorem zmi {es:List PV}(h:zdr es=true):(es.flatMap PV.cells).all PV.one=true:=by
 unfold zdr at h
 rw[List.all_eq_true] at h ⊢
 intro v hv
 rw[List.mem_flatMap] at hv
 obtain⟨e,he,hv⟩:=hv
 exact(List.all_eq_true.1 (h e he)) v hv
theorem zrd (s:VS lo g σ vh h){n:Nat}(hn:0<n){xs:List PV}{xs':List Value}(nl:Bool)(hl:∀e∈xs,e.cells.length=n)(hx:PRs (FR g) (xs.flatMap PV.cells) xs')(hlt:xs.length<inex){v0:Value}(h0:v0=.slice none 0 0∨nl=false∧∃o off,v0=.slice (some ⟨o,off,none⟩) 0 0) :
  if xs.length=0 then VOK lo g σ vh h (.grow vh.next xs.length nl) (vh.alloc (.grow n xs)) v0 h
  else VOK lo g σ vh h (.grow vh.next xs.length nl) (vh.alloc (.grow n xs)) (.slice (some ⟨h.next,0,none⟩) xs.length inex) (h.alloc (.cells n xs')):=by
 have hσ:∀p i,i<vh.next→(σ.put vh.next p) i=σ i:=fun p i hi=>Sg.zix _ _ (by omega)
 split
 ·rename_i he
  have he:=List.eq_nil_of_length_eq_zero he
  subst he
  have h1:=s.xac (x:=.grow n []) (0,0,0) ⟨hn,by simp,by decide,.inl rfl⟩ (fun hl=>by cases hl)
  refine⟨_,?_,h1,⟨Nat.le_refl _,fun _ _ _=>rfl,fun i x hx hl _=>?_⟩,Nat.le_succ _,hσ _⟩
  ·rcases h0 with rfl|⟨rfl,o,off,rfl⟩
   ·exact .growN _ _
   exact .grow0 _ _ _
  rw[zab.zay] at hx
  by_cases hi:i=vh.next
  ·simp[hi] at hx;subst hx;cases hl
  simp[hi] at hx;rw[hσ _ i (s.obj i x hx).1];exact⟨i,x,hx,hl,rfl⟩
 rename_i he
 obtain⟨h1,h2⟩:=s.alloc (x:=.grow n xs) (.cells n xs') inex ⟨hn,hl,hlt,.inr ⟨n,xs',by rw[Sg.zaf,zaa.zay,if_pos rfl],by rw[Sg.zaf],hx,.inl ⟨by rw[Sg.zaf],rfl⟩⟩⟩
 exact⟨_,.grow vh.next xs.length h.next 0 inex nl (Nat.lt_succ_self _) (Sg.zaf _ _ _) (by omega),h1,h2,Nat.le_succ _,hσ _⟩
theorem VOK.after {vh1 vh2:zab}{h1 h2:zaa}{v:PV}{v':Value}(hf:VF σ vh h σ vh1 h1)(hn:vh1.next=vh.next)(hk:VOK lo g σ vh1 h1 v vh2 v' h2):VOK lo g σ vh h v vh2 v' h2:=by
 obtain⟨σ',k1,k2,k3,k4,k5⟩:=hk
 exact⟨σ',k1,k2,hf.trans k3,hn▸k4,fun i hi=>k5 i (hn▸hi)⟩
theorem zrs (s:VS lo g σ vh h){n:Nat}(hn:0<n){i l o k s0:Nat}{x:VObj}{es xs:List PV}{cs' xs':List Value}(nl:Bool)(hg:vh.get i=some x)(hli:x.live=true)(hi:i<vh.next)(hs:σ i=(o,0,k)∨(σ i).1=o)(hl:∀e∈es,e.cells.length=n)(hl2:∀e∈xs,e.cells.length=n)
  (ho:h.get o=some (.cells s0 cs')) (hc:PRs (FR g) (es.flatMap PV.cells) cs') (hx:PRs (FR g) (xs.flatMap PV.cells) xs') (hes:es.length=l) (hl0:0<l) (hlt:l+xs.length≤17592186044416) (hk:k=inex∧s0=n∨k=l) :
  (xs.length=0→VOK lo g σ vh h (.grow vh.next (l+xs.length) nl) ((vh.drop i).alloc (.grow n (es++xs))) (.slice (some ⟨o,0,none⟩) l k) h)∧
  (0<xs.length→VOK lo g σ vh h (.grow vh.next (l+xs.length) nl) ((vh.drop i).alloc (.grow n (es++xs))) (.slice (some ⟨h.next,0,none⟩) (l+xs.length) inex) (h.alloc (.cells n (cs'++xs'))))∧
  (0<xs.length→VOK lo g σ vh h (.grow vh.next (l+xs.length) nl) ((vh.drop i).alloc (.grow n (es++xs))) (.slice (some ⟨h.next,0,none⟩) (l+xs.length) inex) ((h.put o none).alloc (.cells n (cs'++xs')))):=by
 have hso:(σ i).1=o:=by rcases hs with h|h;rw[h];exact h
 have hσ:∀p i,i<vh.next→(σ.put vh.next p) i=σ i:=fun p i hi=>Sg.zix _ _ (by omega)
 have hin:(17592186044416:Nat)<inex:=by decide
 have hll:∀e∈es++xs,e.cells.length=n:=fun e he=>(List.mem_append.1 he).elim (hl e) (hl2 e)
 have hcat:PRs (FR g) ((es++xs).flatMap PV.cells) (cs'++xs'):=by rw[List.flatMap_append];exact hc.append hx
 have hlen:(es++xs).length=l+xs.length:=by simp[hes]
 refine⟨fun h0=>?_,fun h0=>?_,fun h0=>?_⟩
 ·have hx0:=List.eq_nil_of_length_eq_zero h0
  subst hx0
  obtain⟨s1,f1⟩:=s.sub (vh2:=vh.drop i) rfl fun j y hy=>(zbd hy).2
  have hro:VRO g (σ.put vh.next (o,0,k)) (vh.next+1) h vh.next (.grow n (es++[])):=⟨hn,hll,by simp;omega,.inr ⟨s0,cs',by rw[Sg.zaf];exact ho,by rw[Sg.zaf],by simpa using hc,by rw[Sg.zaf];rcases hk with h|h;exact .inl h;exact .inr (by simp[h,hes])⟩⟩
  have h1:VS lo g (σ.put vh.next (o,0,k)) ((vh.drop i).alloc (.grow n (es++[]))) h:=s1.xac (x:=.grow n (es++[])) (o,0,k) hro
   (fun _=>⟨hso▸s.low i x hg hli,hso▸s.dis i x hg hli,fun j y hy hly he=>by
    obtain⟨g1,g2⟩:=zbd hy
    exact g1 (s.inj j i y x g2 hg hly hli (he.trans hso.symm))⟩)
  refine⟨σ.put vh.next (o,0,k),?_,h1,⟨Nat.le_refl _,fun _ _ _=>rfl,fun j y hy hly hlt2=>?_⟩,Nat.le_succ _,hσ _⟩
  ·have:=VR.grow (g:=g) (σ:=σ.put vh.next (o,0,k)) (n:=((vh.drop i).alloc (.grow n (es++[]))).next) vh.next l o 0 k nl (Nat.lt_succ_self _) (Sg.zaf _ _ _) hl0
   simpa using this
  rw[zab.zay,show (vh.drop i).next=vh.next from rfl] at hy
  by_cases hj:j=vh.next
  ·subst hj;rw[Sg.zaf];exact⟨i,x,hg,hli,hso⟩
  rw[if_neg hj] at hy
  obtain⟨_,hy⟩:=zbd hy
  rw[hσ _ j (s.obj j y hy).1];exact⟨j,y,hy,hly,rfl⟩
 ·obtain⟨s1,f1⟩:=s.sub (vh2:=vh.drop i) rfl fun j y hy=>(zbd hy).2
  have hro:VRO g (σ.put vh.next (h.next,0,inex)) (vh.next+1) (h.alloc (.cells n (cs'++xs'))) vh.next (.grow n (es++xs)):=⟨hn,hll,by omega,.inr ⟨n,cs'++xs',by rw[Sg.zaf,zaa.zay,if_pos rfl],by rw[Sg.zaf],hcat,.inl ⟨by rw[Sg.zaf],rfl⟩⟩⟩
  obtain⟨h1,h2⟩:=s1.alloc (x:=.grow n (es++xs)) (.cells n (cs'++xs')) inex hro
  exact⟨_,.grow vh.next (l+xs.length) h.next 0 inex nl (Nat.lt_succ_self _) (Sg.zaf _ _ _) (by omega),h1,f1.trans h2,Nat.le_succ _,hσ _⟩
 obtain⟨s1,f1⟩:=s.kill hg hli
 rw[hso] at s1 f1
 have hro:VRO g (σ.put vh.next (h.next,0,inex)) (vh.next+1) ((h.put o none).alloc (.cells n (cs'++xs'))) vh.next (.grow n (es++xs)):=⟨hn,hll,by omega,.inr ⟨n,cs'++xs',by rw[Sg.zaf,zaa.zay];exact if_pos rfl,by rw[Sg.zaf],hcat,.inl ⟨by rw[Sg.zaf],rfl⟩⟩⟩
 obtain⟨h1,h2⟩:=s1.alloc (x:=.grow n (es++xs)) (.cells n (cs'++xs')) inex hro
 exact⟨_,.grow vh.next (l+xs.length) h.next 0 inex nl (Nat.lt_succ_self _) (Sg.zaf _ _ _) (by omega),h1,f1.trans h2,Nat.le_succ _,hσ _⟩
def apL (bytes m:Nat):Bool:=Nat.ble m 4294967296||(Nat.ble m 17592186044320&&Nat.ble bytes 8)
theorem zsx (b m:Nat):apL b m=(decide (m≤4294967296)||(decide (m≤17592186044320)&&decide (b≤8))):=by unfold apL;rw[Bool.eq_iff_iff];simp
theorem ztz {b m:Nat}(h:apL b m=true):m≤17592186044416:=by
 rw[zsx] at h
 simp at h
 omega
theorem z5m {b m:Nat}(h:apL b m=true)(hb:b≤4096):(Nat.ble m 17592186044416&&Nat.ble ((2*m+192)*b) 281474976710656)=true:=by
 rw[zsx] at h
 simp at h
 simp only[xfr,Nat.ble_eq]
 refine⟨by omega,?_⟩
 rcases h with h|⟨h,h2⟩
 ·have:(2*m+192)*b≤(2*4294967296+192)*4096:=Nat.mul_le_mul (by omega) hb
  omega
 have:(2*m+192)*b≤(2*17592186044320+192)*8:=Nat.mul_le_mul (by omega) h2
 omega
def zbs (P:Program)(vh:zab)(sT xT:TypeId)(s x:PV):Option (PV×zab):=
 match zc8 P sT,zc8 P xT with
 |some (e,n),some _=>
  match zb1 P e,(P.info? e).map (·.bytes),zbz vh n x with
  |some z,some bytes,some xs=>
   bif !(Nat.beq z.length n&&Nat.blt 0 n&&Nat.ble bytes 4096&&zdr xs) then none else
   match s with
   |.sl0=>bif apL bytes xs.length then some (.grow vh.next xs.length true,vh.alloc (.grow n xs)) else none
   |.e0=>bif apL bytes xs.length then some (.grow vh.next xs.length false,vh.alloc (.grow n xs)) else none
   |.own i off l k=>
    bif Nat.beq k 0 then (bif apL bytes xs.length then some (.grow vh.next xs.length false,vh.alloc (.grow n xs)) else none) else
    bif !(Nat.beq off 0&&Nat.beq l k&&apL bytes (l+xs.length)) then none else
    match vh.get i with
    | some (.arr ag sz cs) => bif Nat.beq cs.length (l * n) then
      match zbz vh n (.own i off l k) with
      |some es=>some (.grow vh.next (l+xs.length) false,(vh.drop i).alloc (.grow n (es++xs)))
      |none=>none
     else bif Nat.beq xs.length 0 then some (.own i off l k,vh) else
      match zbz vh n (.own i off l k) with
      |some es=>some (.grow vh.next (l+xs.length) false,vh.alloc (.grow n (es++xs)))
      |none=>none
    |_=>none
   |.grow i l nl=>
    match vh.get i with
    |some (.grow sz es)=>bif Nat.beq sz n&&Nat.beq es.length l&&apL bytes (l+xs.length) then some (.grow vh.next (l+xs.length) nl,(vh.drop i).alloc (.grow n (es++xs))) else none
    |_=>bif Nat.beq l 0&&apL bytes xs.length then some (.grow vh.next xs.length nl,(vh.drop i).alloc (.grow n xs)) else none
   |_=>none
  |_,_,_=>none
 |_,_=>none
theorem zv9 (s:VS lo g σ vh h){sT xT:TypeId}{a x v:PV}{a' x':Value}{vh':zab}(ha:VR g σ vh.next a a')(hx:VR g σ vh.next x x')(hv:zbs P vh sT xT a x=some (v,vh')) :
  ∃v' h',zd1 P lo h sT xT a' x'=some (v',h')∧VOK lo g σ vh h v vh' v' h':=by
 unfold zbs at hv
 split at hv
 ·rename_i e n ex hsT hxT
  split at hv
  ·rename_i z bytes xs hz hby hxs
   obtain⟨z',h1,h2⟩:=zfa (g:=g) hz
   cases hb:(Nat.beq z.length n&&Nat.blt 0 n&&Nat.ble bytes 4096&&zdr xs) with
   |false=>rw[hb] at hv;cases hv
   |true=>
   rw[hb] at hv
   simp only[Bool.not_true,xfq] at hv
   simp only[xfr,Nat.blt_eq,Nat.ble_eq] at hb
   obtain⟨⟨⟨hb1,hb2⟩,hb3⟩,hb4⟩:=hb
   obtain⟨hal,hcl,hsrc⟩:=zgt s hb2 hx hxs
   obtain⟨xs',hxs',hpr⟩:=hsrc xs.length (Nat.le_refl _)
   rw[List.take_length] at hpr
   have hcond:(Nat.beq z'.length n&&Nat.blt 0 n&&xs'.all (·.oneCell'))=true:=by
    simp only[xfr,Nat.blt_eq]
    exact⟨⟨by rw[← h2.1];exact hb1,hb2⟩,(hpr.vr (σ:=σ) (n:=0)).ones (zmi hb4)⟩
   have hbig:∀m,apL bytes m=true→(Nat.ble m 17592186044416&&Nat.ble ((2*m+192)*bytes) 281474976710656)=true:=fun m hm=>z5m hm hb3
   have hin:(17592186044416:Nat)<inex:=by decide
   have hiu:Nat.blt inex unk=true:=by decide
   have hii:Nat.blt inex inex=false:=by decide
   have zero:∀ {a':Value} (nl:Bool) {vh1:zab} {v0:PV},VS lo g σ vh1 h→VF σ vh h σ vh1 h→vh1.next=vh.next→(a'=.slice none 0 0∨nl=false∧∃o off,a'=.slice (some ⟨o,off,none⟩) 0 0)→apL bytes xs.length=true→
     ∃v' h',zd1 P lo h sT xT a' x'=some (v',h')∧VOK lo g σ vh h (.grow vh.next xs.length nl) (vh1.alloc (.grow n xs)) v' h':=fun {a'} nl {vh1 v0} s1 f1 hn1 h0 hle=>by
    have hk:=zrd s1 hb2 nl hcl hpr (by have:=ztz hle;omega) h0
    rw[← hn1]
    by_cases hz0:xs.length=0
    ·rw[if_pos hz0] at hk
     refine⟨a',h,?_,.after f1 hn1 hk⟩
     have hm0:Nat.beq xs.length 0=true:=by rw[hz0];rfl
     rcases h0 with rfl|⟨_,o,off,rfl⟩
     ·simp only[zd1,hsT,hxT,hal,h1,hby,hxs',hcond,Bool.not_true,xfq,hm0,xfp]
     simp only[zd1,hsT,hxT,hal,h1,hby,hxs',hcond,Bool.not_true,xfq,hm0,xfp]
    rw[if_neg hz0] at hk
    refine⟨_,_,?_,.after f1 hn1 hk⟩
    have hm0:Nat.beq xs.length 0=false:=by rw[beq_eq];simpa using hz0
    rcases h0 with rfl|⟨_,o,off,rfl⟩
    ·simp only[zd1,hsT,hxT,hal,h1,hby,hxs',hcond,Bool.not_true,xfq,hm0,hbig _ hle,xfp]
    have e1:Nat.blt 0 inex=true:=by decide
    have e2:Nat.ble xs.length 0=false:=by rw[← Bool.not_eq_true,Nat.ble_eq];omega
    have e3:zdp h n (.slice (some ⟨o,off,none⟩) 0 0) 0=some []:=by simp[zdp]
    simp only[zd1,hsT,hxT,hal,h1,hby,hxs',hcond,Bool.not_true,xfq,hm0,e1,e2,e3,hbig _ hle,xfp,List.nil_append,Nat.zero_add]
   split at hv
   · -- nil
    cases hc:apL bytes xs.length with
    |false=>rw[hc] at hv;cases hv
    |true=>
     rw[hc] at hv;simp only[xfp,xfm,xfn] at hv
     obtain⟨rfl,rfl⟩:=hv
     have:=ha.isF rfl;cases this
     exact zero true (v0:=.sl0) s (VF.refl _ _ _) rfl (.inl rfl) (by simpa using hc)
   ·cases hc:apL bytes xs.length with
    |false=>rw[hc] at hv;cases hv
    |true=>
     rw[hc] at hv;simp only[xfp,xfm,xfn] at hv
     obtain⟨rfl,rfl⟩:=hv
     have:=ha.isF rfl
     cases this with
     |e0N=>exact zero false (v0:=.sl0) s (VF.refl _ _ _) rfl (.inl rfl) (by simpa using hc)
     |e0 o off=>exact zero false (v0:=.sl0) s (VF.refl _ _ _) rfl (.inr ⟨rfl,o,off,rfl⟩) (by simpa using hc)
   ·rename_i i off l k
    cases hk0:Nat.beq k 0 with
    |true=>
     rw[hk0] at hv;simp only[xfp] at hv
     have hk0:k=0:=by simpa using hk0
     subst hk0
     cases hc:apL bytes xs.length with
     |false=>rw[hc] at hv;cases hv
     |true=>
      rw[hc] at hv;simp only[xfp,xfm,xfn] at hv
      obtain⟨rfl,rfl⟩:=hv
      cases ha with
      |fr _ _ h=>cases h
      |own _ _ _ _ o a kk hi hs hl hk=>
       have:l=0:=by omega
       subst this
       exact zero false (v0:=.sl0) s (VF.refl _ _ _) rfl (.inr ⟨rfl,_,_,rfl⟩) (by simpa using hc)
    |false=>
     rw[hk0] at hv;simp only[xfq] at hv
     cases hc:(Nat.beq off 0&&Nat.beq l k&&apL bytes (l+xs.length)) with
     |false=>rw[hc] at hv;cases hv
     |true=>
      rw[hc] at hv;simp only[Bool.not_true,xfq] at hv
      simp only[xfr,Nat.ble_eq,beq_eq,decide_eq_true_eq] at hc
      obtain⟨⟨hc1,hc2⟩,hc3⟩:=hc
      subst hc1;subst hc2
      have hk0:0<l:=by rw[beq_eq] at hk0;simp at hk0;omega
      split at hv
      ·rename_i ag sz cs hgi
       cases hcl2:Nat.beq cs.length (l*n) with
       |false=>
        rw[hcl2] at hv;simp only[xfq] at hv
        cases hz0:Nat.beq xs.length 0 with
        |true=>
         rw[hz0] at hv;simp only[xfp,xfm,xfn] at hv
         obtain⟨rfl,rfl⟩:=hv
         have hav:=ha
         cases ha with
         |fr _ _ h=>cases h
         |own _ _ _ _ o a kk hi hs hl hk=>
          exact⟨_,h,by simp only[zd1,hsT,hxT,hal,h1,hby,hxs',hcond,Bool.not_true,xfq,hz0,xfp],_,hav,s,VF.refl _ _ _,Nat.le_refl _,fun _ _=>rfl⟩
        |false=>
         rw[hz0] at hv;simp only[xfq] at hv
         split at hv
         ·rename_i es hes
          simp only[xfm,xfn] at hv
          obtain⟨rfl,rfl⟩:=hv
          obtain⟨hal2,hcle,hsr2⟩:=zgt s hb2 ha hes
          obtain⟨olds,g1,g2⟩:=hsr2 es.length (Nat.le_refl _)
          rw[List.take_length] at g2
          cases ha with
          |fr _ _ h=>cases h
          |own _ _ _ _ o a kk hi hs hl hk=>
           simp only[alen,xfm] at hal2
           rw[← hal2] at g1
           have hxp:0<xs.length:=by rw[beq_eq] at hz0;simp at hz0;exact List.length_pos_iff.2 hz0
           have e1:Nat.blt l inex=true:=by rw[Nat.blt_eq];omega
           have e2:Nat.ble (l+xs.length) l=false:=by rw[← Bool.not_eq_true,Nat.ble_eq];omega
           have hll:(es++xs).length=l+xs.length:=by rw[List.length_append,hal2]
           have hkk:=zrd s hb2 (xs:=es++xs) (xs':=olds++xs') false (fun e he=>by
            rcases List.mem_append.1 he with h|h
            ·exact hcle e h
            exact hcl e h) (by rw[List.flatMap_append];exact g2.append hpr) (by rw[hll];have:=ztz hc3;omega) (.inl rfl)
           rw[if_neg (by rw[hll];omega),hll] at hkk
           exact⟨_,_,by simp only[zd1,hsT,hxT,hal,h1,hby,hxs',hcond,Bool.not_true,xfq,hz0,e1,e2,g1,hbig _ hc3,xfp],hkk⟩
         cases hv
       |true=>
        rw[hcl2] at hv;simp only[xfp] at hv
        split at hv
        ·rename_i es hes
         simp only[xfm,xfn] at hv
         obtain⟨rfl,rfl⟩:=hv
         obtain⟨hal2,hcle,hsr2⟩:=zgt s hb2 ha hes
         obtain⟨h0,s0,cs',k1,k2,k3⟩:=(s.obj i _ hgi).2
         cases ha with
         |fr _ _ h=>cases h
         |own _ _ _ _ o a kk hi hs hl hk=>
          rw[hs] at k1 k2;simp only at k1 k2;subst k2
          simp only[alen,xfm] at hal2
          obtain⟨olds,g1,g2⟩:=hsr2 es.length (Nat.le_refl _)
          rw[List.take_length] at g2
          have hm0:Nat.beq es.length 0=false:=by rw[← hal2,beq_eq];simp;omega
          have hcl3:cs'.length=l*n:=by rw[← k3.1];simpa using hcl2
          have holds:olds=cs':=by
           have hble:Nat.ble (0+0+es.length*n) cs'.length=true:=by rw[Nat.ble_eq,hcl3,hal2];omega
           simp only[zdp,hm0,xfq,k1,hble,xfp,xfm] at g1
           rw[← g1,← hal2,← hcl3];simp
          subst holds
          have hkk:=zrs s hb2 (σ:=σ) false hgi rfl hi (.inr (by rw[hs])) hcle hcl k1 g2 hpr hal2.symm hk0 (ztz hc3) (.inr rfl)
          by_cases hz0:xs.length=0
          ·have hm1:Nat.beq xs.length 0=true:=by rw[hz0];rfl
           exact⟨.slice (some ⟨o,0,none⟩) l l,h,by simp only[zd1,hsT,hxT,hal,h1,hby,hxs',hcond,Bool.not_true,xfq,hm1,xfp,Nat.zero_add],hkk.1 hz0⟩
          have hm1:Nat.beq xs.length 0=false:=by rw[beq_eq];simpa using hz0
          have e1:Nat.blt l inex=true:=by rw[Nat.blt_eq];omega
          have e2:Nat.ble (l+xs.length) l=false:=by rw[← Bool.not_eq_true,Nat.ble_eq];omega
          rw[← hal2] at g1
          exact⟨_,_,by simp only[zd1,hsT,hxT,hal,h1,hby,hxs',hcond,Bool.not_true,xfq,hm1,e1,e2,g1,hbig _ hc3,xfp],hkk.2.1 (by omega)⟩
        cases hv
      cases hv
   ·rename_i i l nl
    have zeroC:l=0→apL bytes xs.length=true→∃v' h',zd1 P lo h sT xT a' x'=some (v',h')∧VOK lo g σ vh h (.grow vh.next xs.length nl) ((vh.drop i).alloc (.grow n xs)) v' h':=fun hl0 hle=>by
     subst hl0
     obtain⟨s1,f1⟩:=s.sub (vh2:=vh.drop i) rfl fun j y hy=>(zbd hy).2
     cases ha with
     |fr _ _ h=>cases h
     |growN=>exact zero nl (v0:=.sl0) s1 f1 rfl (.inl rfl) hle
     |grow0 _ o off=>exact zero false (v0:=.sl0) s1 f1 rfl (.inr ⟨rfl,o,off,rfl⟩) hle
     |grow _ _ _ _ _ _ _ _ hn=>omega
    split at hv
    ·rename_i sz es hgi
     cases hc:(Nat.beq sz n&&Nat.beq es.length l&&apL bytes (l+xs.length)) with
     |false=>rw[hc] at hv;cases hv
     |true=>
      rw[hc] at hv;simp only[xfp,xfm,xfn] at hv
      obtain⟨rfl,rfl⟩:=hv
      simp only[xfr,Nat.ble_eq,beq_eq,decide_eq_true_eq] at hc
      obtain⟨⟨hc1,hc2⟩,hc3⟩:=hc
      subst hc1
      by_cases hl0:l=0
      ·have hes:=List.eq_nil_of_length_eq_zero (hc2.trans hl0)
       subst hes
       have:=zeroC hl0 (by rw[hl0,Nat.zero_add] at hc3;exact hc3)
       subst hl0
       simpa using this
      have hl0:0<l:=by omega
      obtain⟨h0,hcle,hinx,hor⟩:=(s.obj i _ hgi).2
      rcases hor with rfl|⟨s0,cs',k1,k2,k3,k4⟩
      ·simp at hc2;omega
      have hlive:(VObj.grow sz es).live=true:=by
       cases es with
       |nil=>simp at hc2;omega
       |cons=>rfl
      cases ha with
      |fr _ _ h=>cases h
      |growN=>omega
      |grow0=>omega
      |grow _ _ o a k _ hi hs hm=>
       have hlow:=s.low i _ hgi hlive
       rw[hs] at k1 k2 k4 hlow;simp only at k1 k2 k4 hlow;subst k2
       have hk4:k=inex∧s0=sz∨k=l:=by rcases k4 with h|h;exact .inl h;exact .inr (h.trans hc2)
       have hkk:=zrs s hb2 (σ:=σ) nl hgi hlive hi (.inr (by rw[hs])) hcle hcl k1 k3 hpr hc2 hl0 (ztz hc3) hk4
       have hcs:cs'.length=l*sz:=by rw[← k3.1,zdz hcle,hc2]
       by_cases hz0:xs.length=0
       ·have hm1:Nat.beq xs.length 0=true:=by rw[hz0];rfl
        exact⟨_,_,by simp only[zd1,hsT,hxT,hal,h1,hby,hxs',hcond,Bool.not_true,xfq,hm1,xfp],hkk.1 hz0⟩
       have hm1:Nat.beq xs.length 0=false:=by rw[beq_eq];simpa using hz0
       rcases hk4 with⟨rfl,rfl⟩|rfl
       ·have hmul:l*s0<(l+xs.length)*s0:=Nat.mul_lt_mul_of_pos_right (by omega) hb2
        have e1:(Nat.ble lo o&&Nat.beq 0 ((inex - inex)*s0)&&Nat.beq s0 s0&&Nat.ble (l+xs.length) 17592186044416&&Nat.ble ((2*(l+xs.length)+192)*bytes) 281474976710656)=true:=by
         have:=hbig _ hc3
         simp only[xfr] at this ⊢
         refine⟨⟨⟨⟨by simpa using hlow,?_⟩,Nat.beq_refl _⟩,this.1⟩,this.2⟩
         rw[Nat.sub_self,Nat.zero_mul];rfl
        have e2:Nat.ble (0+(l+xs.length)*s0) cs'.length=false:=by rw[← Bool.not_eq_true,Nat.ble_eq];omega
        have e3:Nat.ble (0+l*s0) cs'.length=true:=by rw[Nat.ble_eq];omega
        have e4:(cs'.drop 0).take (l*s0)=cs':=by rw[List.drop_zero,← hcs,List.take_length]
        exact⟨_,_,by simp only[zd1,hsT,hxT,hal,h1,hby,hxs',hcond,Bool.not_true,xfq,hm1,hii,hiu,k1,e1,e2,e3,e4,xfp],hkk.2.2 (by omega)⟩
       have e1:Nat.blt k inex=true:=by rw[Nat.blt_eq];omega
       have e2:Nat.ble (k+xs.length) k=false:=by rw[← Bool.not_eq_true,Nat.ble_eq];omega
       have hm2:Nat.beq k 0=false:=by rw[beq_eq];simp;omega
       have hble:Nat.ble (0+k*sz) cs'.length=true:=by rw[Nat.ble_eq];omega
       have e3:zdp h sz (.slice (some ⟨o,0,none⟩) k k) k=some cs':=by
        simp only[zdp,hm2,xfq,k1,hble,xfp]
        rw[List.drop_zero,← hcs,List.take_length]
       exact⟨_,_,by simp only[zd1,hsT,hxT,hal,h1,hby,hxs',hcond,Bool.not_true,xfq,hm1,e1,e2,e3,hbig _ hc3,xfp],hkk.2.1 (by omega)⟩
    cases hb2:(Nat.beq l 0&&apL bytes xs.length) with
    |false=>rw[hb2] at hv;cases hv
    |true=>
     rw[hb2] at hv;simp only[xfp,xfm,xfn] at hv
     obtain⟨rfl,rfl⟩:=hv
     simp only[xfr,Nat.ble_eq,beq_eq,decide_eq_true_eq] at hb2
     exact zeroC hb2.1 hb2.2
   cases hv
  cases hv
 cases hv
end
attribute [simp] zsx
end Go.Am
end
/-
 The value machine, part G: copy, maps, all operations without calls.
-/
section
namespace Go.Am
section
variable {P:Program} {lo:Nat} {g:Fz} {σ:Sg} {vh:zab} {h:zaa}
theorem VS.zaf (s:VS lo g σ vh h){i:Nat}{x:VObj}(hx:vh.get i=some x):VS lo g σ (vh.put i x) h∧VF σ vh h σ (vh.put i x) h:=
 s.sub rfl fun j y hy=>by
  rcases zhf hx hy with⟨rfl,rfl⟩|⟨_,hy⟩
  ·exact hx
  exact hy
def zd2 (P:Program)(vh:zab)(dT:TypeId)(d x:PV):Option (PV×zab):=
 match zc8 P dT,d with
 |some (_,n),.own i off len _=>
  match zbz vh n x,vh.get i with
  |some xs,some (.arr ag sz cs)=>
   bif Nat.blt 0 n&&Nat.ble (off+(xs.take len).length*n) cs.length&&zdr xs then
    some (.int .i64 (Nat.min xs.length len),vh.put i (.arr ag sz (zbb cs off ((xs.take len).flatMap PV.cells))))
   else none
  |_,_=>none
 |_,_=>none
theorem zsv {es:List PV}(h:zdr es=true)(n:Nat):zdr (es.take n)=true:=by
 unfold zdr at h ⊢
 rw[List.all_eq_true] at h ⊢
 exact fun e he=>h e (List.mem_of_mem_take he)
theorem z1e (s:VS lo g σ vh h){dT:TypeId}{d x v:PV}{d' x':Value}{vh':zab}(hd:VR g σ vh.next d d')(hx:VR g σ vh.next x x')(hv:zd2 P vh dT d x=some (v,vh')) :
  ∃v' h',zvi P lo h dT d' x'=some (v',h')∧VOK lo g σ vh h v vh' v' h':=by
 unfold zd2 at hv
 split at hv
 ·rename_i e n i off len k ht
  split at hv
  ·rename_i xs ag sz cs hxs hg
   cases hb:(Nat.blt 0 n&&Nat.ble (off+(xs.take len).length*n) cs.length&&zdr xs) with
   |false=>rw[hb] at hv;cases hv
   |true=>
    rw[hb] at hv;simp only[xfp,xfm,xfn] at hv
    obtain⟨rfl,rfl⟩:=hv
    simp only[xfr,Nat.blt_eq,Nat.ble_eq] at hb
    obtain⟨⟨hb1,hb2⟩,hb3⟩:=hb
    obtain⟨hal,hcl,hsr⟩:=zgt s hb1 hx hxs
    obtain⟨xs',g1,g2⟩:=hsr (Nat.min xs.length len) (Nat.min_le_left _ _)
    have htk:xs.take (Nat.min xs.length len)=xs.take len:=by
     rcases Nat.le_total xs.length len with hle|hle
     ·rw[show Nat.min xs.length len=xs.length from Nat.min_eq_left hle,List.take_length,List.take_of_length_le hle]
     rw[show Nat.min xs.length len=len from Nat.min_eq_right hle]
    rw[htk] at g2
    obtain⟨h0,s0,cs',k1,k2,k3⟩:=(s.obj i _ hg).2
    cases hd with
    |fr _ _ h=>cases h
    |own _ _ _ _ o a kk hi hs hl hk=>
     have hlow:=s.low i _ hg rfl
     rw[hs] at k1 k2 hlow;simp only at k1 k2 hlow;subst k2
     rw[Nat.zero_add]
     have hdl:alen (.slice (some ⟨o,off,none⟩) len k)=some len:=rfl
     rcases zam (Nat.min xs.length len) 0 with⟨hq,hq'⟩|⟨hq,hq'⟩
     ·have hnil:xs.take len=[]:=by
       rw[← htk,hq'];rfl
      have h1:zbb cs off ((xs.take len).flatMap PV.cells)=cs:=by rw[hnil];simp[zbb]
      rw[h1]
      obtain⟨s1,f1⟩:=s.zaf hg
      refine⟨zdq 0,h,by simp only[zvi,ht,hdl,hal,g1,hq,xfp],σ,?_,s1,f1,Nat.le_refl _,fun _ _=>rfl⟩
      rw[hq'];exact .fr _ _ (.int _ _)
     have h4:=s.write hg rfl (x':=.arr ag sz (zbb cs off ((xs.take len).flatMap PV.cells))) (.cells s0 (zcb cs' off xs')) ⟨h0,s0,_,by rw[zaa.zaw _ _ _ _ (by rw[hs];exact zaa.zai k1),if_pos rfl],by rw[hs],k3.zcb off g2⟩
     rw[hs] at h4;simp only at h4
     have hxl:xs'.length=(xs.take len).length*n:=by rw[← g2.1,zdz fun e he=>hcl e (List.mem_of_mem_take he)]
     have hcond:(Nat.ble lo o&&Nat.ble (off+xs'.length) cs'.length&&xs'.all (·.oneCell'))=true:=by
      simp only[xfr,Nat.ble_eq]
      exact⟨⟨hlow,by rw[hxl,← k3.1];omega⟩,(g2.vr (σ:=σ) (n:=0)).ones (zmi (zsv hb3 len))⟩
     exact⟨zdq (Nat.min xs.length len),_,by simp only[zvi,ht,hdl,hal,g1,hq,xfq,k1,hcond,xfp],σ,.fr _ _ (.int _ _),h4.1,h4.2,Nat.le_refl _,fun _ _=>rfl⟩
  cases hv
 cases hv
def zh8 (kd:IntKind)(n:Int):List (PV×PV)→Option (Option PV)
 |[]=>some none
 |(.int k a,v)::r=>
  bif decide (k=kd) then
   match zh8 kd n r with
   |none=>none
   |some q=>some (bif decide (a=n) then some v else q)
  else none
 |_=>none
def ORel (R:PV→Value→Prop):Option PV→Option Value→Prop
 |none,none=>True
 |some v,some v'=>R v v'
 |_,_=>False
theorem zib {kd:IntKind}{n:Int}:∀ {es:List (PV×PV)} {es':List (Value×Value)} {r:Option PV},PRs (FR g) (es.map (·.1)) (es'.map (·.1))→PRs (FR g) (es.map (·.2)) (es'.map (·.2))→zh8 kd n es=some r→
  ∃r',zkk kd n es'=some r'∧ORel (FR g) r r'
 |[],es',r,hk,hv,hr=>by
  simp only[zh8,xfm] at hr;subst hr
  cases es' with
  |nil=>exact⟨none,rfl,trivial⟩
  |cons=>have:=hk.1;simp at this
 |(k,v)::es,es',r,hk,hv,hr=>by
  cases es' with
  |nil=>have:=hk.1;simp at this
  |cons q es'=>
   obtain⟨k',v'⟩:=q
   obtain⟨k1,l1,e1,hk1,hk2⟩:=hk.zax
   simp only[List.map_cons,List.cons.injEq] at e1;obtain⟨rfl,rfl⟩:=e1
   obtain⟨k1,l1,e1,hv1,hv2⟩:=hv.zax
   simp only[List.map_cons,List.cons.injEq] at e1;obtain⟨rfl,rfl⟩:=e1
   cases k with
   |int kk a=>
    cases hk1
    simp only[zh8] at hr
    simp only[zkk]
    cases hkk:decide (kk=kd) with
    |false=>rw[hkk] at hr;cases hr
    |true=>
     rw[hkk] at hr;simp only[xfp] at hr ⊢
     split at hr
     ·cases hr
     rename_i q hq
     injection hr with hr;subst hr
     obtain⟨r',g1,g2⟩:=zib hk2 hv2 hq
     refine⟨_,by rw[g1],?_⟩
     cases decide (a=n) with
     |true=>exact hv1
     |false=>exact g2
   |_=>simp[zh8] at hr
def zdk (vh:zab)(kd:IntKind)(n:Int)(m:PV):Option (Option PV):=
 match m with
 |.map0=>some none
 |.vmap es=>zh8 kd n es
 |.mapv i=>match vh.get i with
  |some (.map es)=>zh8 kd n es
  |_=>none
 |_=>none
theorem zzx {g:Fz}{es:List (PV×PV)}{es':List (Value×Value)}(hlen:es.length=es'.length)(rk:∀(j:Nat) p p',es[j]?=some p→es'[j]?=some p'→FR g p.1 p'.1)(rv:∀(j:Nat) p p',es[j]?=some p→es'[j]?=some p'→FR g p.2 p'.2) :
  PRs (FR g) (es.map (·.1)) (es'.map (·.1))∧PRs (FR g) (es.map (·.2)) (es'.map (·.2)):=by
 constructor
 ·refine⟨by simp[hlen],fun i v v' hv hv'=>?_⟩
  rw[List.getElem?_map] at hv hv'
  obtain⟨p,h1,rfl⟩:=zad hv
  obtain⟨p',h2,rfl⟩:=zad hv'
  exact rk i p p' h1 h2
 refine⟨by simp[hlen],fun i v v' hv hv'=>?_⟩
 rw[List.getElem?_map] at hv hv'
 obtain⟨p,h1,rfl⟩:=zad hv
 obtain⟨p',h2,rfl⟩:=zad hv'
 exact rv i p p' h1 h2
theorem z1j {g:Fz}{es:List (PV×PV)}{es':List (Value×Value)}(h1:PRs (FR g) (es.map (·.1)) (es'.map (·.1)))(h2:PRs (FR g) (es.map (·.2)) (es'.map (·.2))){o:Nat}(hg:g o=some (.map es')):FR g (.vmap es) (.map (some o)):=
 .vmap es o es' hg (by have:=h1.1;simpa using this) (fun j p p' hp hp'=>h1.2 j p.1 p'.1 (by simp[hp]) (by simp[hp'])) (fun j p p' hp hp'=>h2.2 j p.2 p'.2 (by simp[hp]) (by simp[hp']))
def zts (P:Program)(vh:zab)(t:TypeId)(m k:PV)(ok:Bool):Option PV:=
 match tkey P t,k with
 |some (_,e),.int kd n=>
  match (zb9 P e).bind pvcV with
  |some z=>
   match zdk vh kd n m with
   |some (some v)=>some (bif ok then .tup [v,.bool true] else v)
   |some none=>some (bif ok then .tup [z,.bool false] else z)
   |none=>none
  |none=>none
 |_,_=>none
theorem zy0 {v:PV}{v':Value}{b:Bool}(hv:FR g v v'):FR g (.tup [v,.bool b]) (.tuple #[v',.bool b]):=
 .tup _ _ rfl fun i u u' hu hu'=>by
  match i with
  |0=>simp at hu hu';subst hu;subst hu';exact hv
  |1=>simp at hu hu';subst hu;subst hu';exact .bool b
  |i+2=>simp at hu
theorem ztl (s:VS lo g σ vh h){t:TypeId}{m k v:PV}{m' k':Value}{ok:Bool}(hm:VR g σ vh.next m m')(hk:VR g σ vh.next k k')(hv:zts P vh t m k ok=some v):∃v',zfs P h t m' k' ok=some v'∧FR g v v':=by
 unfold zts at hv
 split at hv
 ·rename_i kt e kd n ht
  have:=hk.isF rfl;cases this
  split at hv
  ·rename_i z hz
   cases hz1:zb9 P e with
   |none=>rw[hz1] at hz;cases hz
   |some z'=>
    rw[hz1] at hz
    have hzr:=(zhx (g:=g) hz).1
    have fin:∀ {q:Option PV} {q':Option Value},zdk vh kd n m=some q→ORel (FR g) q q'→∃v',(match some q' with
      |some (some v)=>some (bif ok then .tuple #[v,.bool true] else v)
      |some none=>some (bif ok then .tuple #[z',.bool false] else z')
      |none=>none:Option Value)=some v'∧FR g v v':=fun {q q'} hq hr=>by
     rw[hq] at hv
     cases q with
     |none=>
      cases q' with
      |some=>exact hr.elim
      |none=>
       simp only[xfm] at hv;subst hv
       refine⟨_,rfl,?_⟩
       cases ok with
       |true=>exact zy0 hzr
       |false=>exact hzr
     |some u=>
      cases q' with
      |none=>exact hr.elim
      |some u'=>
       simp only[xfm] at hv;subst hv
       refine⟨_,rfl,?_⟩
       cases ok with
       |true=>exact zy0 hr
       |false=>exact hr
    cases hq:zdk vh kd n m with
    |none=>rw[hq] at hv;cases hv
    |some q=>
     have hq0:=hq
     unfold zdk at hq
     split at hq
     ·injection hq with hq;subst hq
      have:=hm.isF rfl;cases this
      obtain⟨v',g1,g2⟩:=fin (q':=none) hq0 trivial
      exact⟨v',by simp only[zfs,ht,hz1];exact g1,g2⟩
     ·have:=hm.isF rfl
      cases this with
      |vmap _ o es' hg hlen rk rv=>
       obtain⟨h3,h4⟩:=zzx hlen rk rv
       obtain⟨r',g1,g2⟩:=zib h3 h4 hq
       obtain⟨v',g3,g4⟩:=fin hq0 g2
       exact⟨v',by simp only[zfs,ht,hz1,s.fz _ _ hg,g1];exact g3,g4⟩
     ·rename_i i
      split at hq
      ·rename_i es hg
       cases hm with
       |fr _ _ h=>cases h
       |mapv _ o a k hi hs=>
        obtain⟨es',h1,h2,h3,h4⟩:=(s.obj i _ hg).2
        rw[hs] at h1;simp only at h1
        obtain⟨r',g1,g2⟩:=zib h3 h4 hq
        obtain⟨v',g3,g4⟩:=fin hq0 g2
        exact⟨v',by simp only[zfs,ht,hz1,h1,g1];exact g3,g4⟩
      cases hq
     cases hq
  cases hv
 cases hv
def qput (n:Int)(v:PV)(p:PV×PV):PV×PV:=
 match p with
 |(.int k a,u)=>bif decide (a=n) then (.int k a,v) else (.int k a,u)
 |p=>p
def zsn (n:Int)(p:PV×PV):Bool:=
 match p.1 with
 |.int _ a=>!decide (a=n)
 |_=>true
def zn8 (kd:IntKind)(n:Int)(v:PV)(es:List (PV×PV)):Option (List (PV×PV)):=
 match zh8 kd n es with
 |some (some _)=>some (es.map (qput n v))
 |some none=>some (es++[(.int kd n,v)])
 |none=>none
def zmh (P:Program)(vh:zab)(t:TypeId)(m k v:PV):Option zab:=
 match tkey P t,m,k with
 |some _,.mapv i,.int kd n=>
  match vh.get i with
  |some (.map es)=>bif v.isF then (zn8 kd n v es).map fun es=>vh.put i (.map es) else none
  |_=>none
 |_,_,_=>none
def zuv (P:Program)(vh:zab)(t:TypeId)(m k:PV):Option zab:=
 match tkey P t,m,k with
 |some _,.mapv i,.int kd n=>
  match vh.get i with
  |some (.map es)=>match zh8 kd n es with
   |some _=>some (vh.put i (.map (es.filter (zsn n))))
   |none=>none
  |_=>none
 |_,_,_=>none
theorem zt3 {n:Int}{v:PV}{v':Value}(hv:FR g v v'):∀ {es:List (PV×PV)} {es':List (Value×Value)},PRs (FR g) (es.map (·.1)) (es'.map (·.1))→PRs (FR g) (es.map (·.2)) (es'.map (·.2))→
  PRs (FR g) ((es.map (qput n v)).map (·.1)) ((es'.map (mput n v')).map (·.1))∧PRs (FR g) ((es.map (qput n v)).map (·.2)) ((es'.map (mput n v')).map (·.2))
 |[],es',hk,hv=>by
  cases es' with
  |nil=>exact⟨.nil,.nil⟩
  |cons=>have:=hk.1;simp at this
 |(k,u)::es,es',hk,hvv=>by
  cases es' with
  |nil=>have:=hk.1;simp at this
  |cons q es'=>
   obtain⟨k',u'⟩:=q
   obtain⟨k1,l1,e1,hk1,hk2⟩:=hk.zax
   simp only[List.map_cons,List.cons.injEq] at e1;obtain⟨rfl,rfl⟩:=e1
   obtain⟨k1,l1,e1,hv1,hv2⟩:=hvv.zax
   simp only[List.map_cons,List.cons.injEq] at e1;obtain⟨rfl,rfl⟩:=e1
   have ih:=zt3 (n:=n) hv hk2 hv2
   have hk1':=hk1
   cases hk1 with
   |int kk a=>
    simp only[List.map_cons,qput,mput]
    cases hd:decide (a=n) with
    |true=>exact⟨.cons (.int _ _) ih.1,.cons hv ih.2⟩
    |false=>exact⟨.cons (.int _ _) ih.1,.cons hv1 ih.2⟩
   |_=>
    simp only[List.map_cons,qput,mput]
    exact⟨.cons hk1' ih.1,.cons hv1 ih.2⟩
theorem zqn {n:Int}:∀ {es:List (PV×PV)} {es':List (Value×Value)},PRs (FR g) (es.map (·.1)) (es'.map (·.1))→PRs (FR g) (es.map (·.2)) (es'.map (·.2))→
  PRs (FR g) ((es.filter (zsn n)).map (·.1)) ((es'.filter (zhr n)).map (·.1))∧PRs (FR g) ((es.filter (zsn n)).map (·.2)) ((es'.filter (zhr n)).map (·.2))
 |[],es',hk,hv=>by
  cases es' with
  |nil=>exact⟨.nil,.nil⟩
  |cons=>have:=hk.1;simp at this
 |(k,u)::es,es',hk,hvv=>by
  cases es' with
  |nil=>have:=hk.1;simp at this
  |cons q es'=>
   obtain⟨k',u'⟩:=q
   obtain⟨k1,l1,e1,hk1,hk2⟩:=hk.zax
   simp only[List.map_cons,List.cons.injEq] at e1;obtain⟨rfl,rfl⟩:=e1
   obtain⟨k1,l1,e1,hv1,hv2⟩:=hvv.zax
   simp only[List.map_cons,List.cons.injEq] at e1;obtain⟨rfl,rfl⟩:=e1
   have ih:=zqn (n:=n) hk2 hv2
   have same:zsn n (k,u)=zhr n (k',u'):=by cases hk1<;>rfl
   simp only[List.filter_cons]
   rw[← same]
   cases zsn n (k,u) with
   |false=>exact ih
   |true=>exact⟨.cons hk1 ih.1,.cons hv1 ih.2⟩
theorem zxn {kd:IntKind}{n:Int}{v:PV}{v':Value}{es out:List (PV×PV)}{es':List (Value×Value)}(hv:FR g v v')(h3:PRs (FR g) (es.map (·.1)) (es'.map (·.1)))(h4:PRs (FR g) (es.map (·.2)) (es'.map (·.2)))(ho:zn8 kd n v es=some out) :
  ∃out',(match zkk kd n es' with
   |some (some _)=>some (es'.map (mput n v'))
   |some none=>some (es'++[(.int kd n,v')])
   |none=>none)=some out'∧PRs (FR g) (out.map (·.1)) (out'.map (·.1))∧PRs (FR g) (out.map (·.2)) (out'.map (·.2)):=by
 unfold zn8 at ho
 split at ho
 ·rename_i u hq
  injection ho with ho;subst ho
  obtain⟨q',h1,h2⟩:=zib h3 h4 hq
  cases q' with
  |none=>exact h2.elim
  |some u'=>exact⟨_,by rw[h1],zt3 hv h3 h4⟩
 ·rename_i hq
  injection ho with ho;subst ho
  obtain⟨q',h1,h2⟩:=zib h3 h4 hq
  cases q' with
  |some=>exact h2.elim
  |none=>
   refine⟨_,by rw[h1],?_,?_⟩
   ·simp only[List.map_append,List.map_cons,List.map_nil];exact h3.append (.cons (.int _ _) .nil)
   simp only[List.map_append,List.map_cons,List.map_nil];exact h4.append (.cons hv .nil)
 cases ho
theorem zej:FR g (.tup []) Go.undef:=.tup [] #[] rfl (fun i v v' h=>by simp at h)
theorem zn3 (s:VS lo g σ vh h){t:TypeId}{m k v:PV}{m' k' v':Value}{vh':zab}(hm:VR g σ vh.next m m')(hk:VR g σ vh.next k k')(hvv:VR g σ vh.next v v')(hv:zmh P vh t m k v=some vh') :
  ∃h',zer P lo h t m' k' v'=some h'∧VOK lo g σ vh h (.tup []) vh' Go.undef h':=by
 unfold zmh at hv
 split at hv
 ·rename_i ek i kd n ht
  have:=hk.isF rfl;cases this
  split at hv
  ·rename_i es hg
   cases hf:v.isF with
   |false=>rw[hf] at hv;cases hv
   |true=>
    rw[hf] at hv;simp only[xfp] at hv
    obtain⟨out,ho,rfl⟩:=zad hv
    cases hm with
    |fr _ _ h=>cases h
    |mapv _ o a k hi hs=>
     obtain⟨es',h1,h2,h3,h4⟩:=(s.obj i _ hg).2
     have hlow:=s.low i _ hg rfl
     obtain⟨out',g1,g2,g3⟩:=zxn (hvv.isF hf) h3 h4 ho
     have h5:=s.write hg rfl (x':=.map out) (.map out') ⟨out',by rw[zaa.zaw _ _ _ _ (zaa.zai h1),if_pos rfl],h2,g2,g3⟩
     rw[hs] at h1 hlow h5;simp only at h1 hlow h5
     have hlow':Nat.ble lo o=true:=by rw[Nat.ble_eq];exact hlow
     refine⟨h.put o (some (.map out')),?_,σ,.fr _ _ zej,h5.1,h5.2,Nat.le_refl _,fun _ _=>rfl⟩
     simp only[zer,ht,h1,hlow',xfp]
     split at g1
     ·rename_i hq;simp only[hq];injection g1 with g1;rw[g1]
     ·rename_i hq;simp only[hq];injection g1 with g1;rw[g1]
     cases g1
  cases hv
 cases hv
theorem ztk (s:VS lo g σ vh h){t:TypeId}{m k:PV}{m' k':Value}{vh':zab}(hm:VR g σ vh.next m m')(hk:VR g σ vh.next k k')(hv:zuv P vh t m k=some vh') :
  ∃h',zjh P lo h t m' k'=some h'∧VOK lo g σ vh h (.tup []) vh' Go.undef h':=by
 unfold zuv at hv
 split at hv
 ·rename_i ek i kd n ht
  have:=hk.isF rfl;cases this
  split at hv
  ·rename_i es hg
   split at hv
   ·rename_i q hq
    injection hv with hv;subst hv
    cases hm with
    |fr _ _ h=>cases h
    |mapv _ o a k hi hs=>
     obtain⟨es',h1,h2,h3,h4⟩:=(s.obj i _ hg).2
     have hlow:=s.low i _ hg rfl
     obtain⟨g1,g2⟩:=zqn (n:=n) h3 h4
     obtain⟨q',g3,_⟩:=zib h3 h4 hq
     have h5:=s.write hg rfl (x':=.map (es.filter (zsn n))) (.map (es'.filter (zhr n))) ⟨_,by rw[zaa.zaw _ _ _ _ (zaa.zai h1),if_pos rfl],h2,g1,g2⟩
     rw[hs] at h1 hlow h5;simp only at h1 hlow h5
     have hlow':Nat.ble lo o=true:=by rw[Nat.ble_eq];exact hlow
     exact⟨_,by simp only[zjh,ht,h1,hlow',xfp,g3],σ,.fr _ _ zej,h5.1,h5.2,Nat.le_refl _,fun _ _=>rfl⟩
   cases hv
  cases hv
 cases hv
def zo3 (P:Program)(vh:zab)(t:TypeId)(m:PV)(ds:List PV)(ok:Bool):Option PV:=none
theorem ztc (s:VS lo g σ vh h){t:TypeId}{m v:PV}{ds:List PV}{m' k':Value}{ok:Bool}(hm:VR g σ vh.next m m')(hk:VR g σ vh.next (.agg ds) k')(hv:zo3 P vh t m ds ok=some v):∃v',zn4 P h t m' k' ok=some v'∧FR g v v':=by
 simp[zo3] at hv
def zjg (P:Program)(vh:zab)(t:TypeId)(m:PV)(ds:List PV)(v:PV):Option zab:=none
theorem zny (s:VS lo g σ vh h){t:TypeId}{m v:PV}{ds:List PV}{m' k' v':Value}{vh':zab}(hm:VR g σ vh.next m m')(hk:VR g σ vh.next (.agg ds) k')(hvv:VR g σ vh.next v v')(hv:zjg P vh t m ds v=some vh') :
  ∃h',znz P lo h t m' k' v'=some h'∧VOK lo g σ vh h (.tup []) vh' Go.undef h':=by
 simp[zjg] at hv
def zo0 (P:Program)(vh:zab)(t:TypeId)(m:PV)(ds:List PV):Option zab:=none
theorem zsp (s:VS lo g σ vh h){t:TypeId}{m:PV}{ds:List PV}{m' k':Value}{vh':zab}(hm:VR g σ vh.next m m')(hk:VR g σ vh.next (.agg ds) k')(hv:zo0 P vh t m ds=some vh') :
  ∃h',adel P lo h t m' k'=some h'∧VOK lo g σ vh h (.tup []) vh' Go.undef h':=by
 simp[zo0] at hv
def zbp (P:Program)(vh:zab)(t:TypeId)(m k:PV)(ok:Bool):Option PV:=
 match k with
 |.agg ds=>zo3 P vh t m ds ok
 |k=>
 match tkey P t,k with
 |some (_,e),.int kd n=>
  match (zb9 P e).bind pvcV with
  |some z=>
   match zdk vh kd n m with
   |some (some v)=>some (bif ok then .tup [v,.bool true] else v)
   |some none=>some (bif ok then .tup [z,.bool false] else z)
   |none=>none
  |none=>none
 |_,_=>none
def zar (P:Program)(vh:zab)(t:TypeId)(m k v:PV):Option zab:=
 match k with
 |.agg ds=>zjg P vh t m ds v
 |k=>
 match tkey P t,m,k with
 |some _,.mapv i,.int kd n=>
  match vh.get i with
  |some (.map es)=>bif v.isF then (zn8 kd n v es).map fun es=>vh.put i (.map es) else none
  |_=>none
 |_,_,_=>none
def zbt (P:Program)(vh:zab)(t:TypeId)(m k:PV):Option zab:=
 match k with
 |.agg ds=>zo0 P vh t m ds
 |k=>
 match tkey P t,m,k with
 |some _,.mapv i,.int kd n=>
  match vh.get i with
  |some (.map es)=>match zh8 kd n es with
   |some _=>some (vh.put i (.map (es.filter (zsn n))))
   |none=>none
  |_=>none
 |_,_,_=>none
theorem zxw {P:Program}{h:zaa}{t:TypeId}{m k v:Value}{ok:Bool}(ha:zfs P h t m k ok=some v):zn4 P h t m k ok=some v:=by
 cases k with
 |agg xs=>unfold zfs at ha;split at ha<;>simp_all
 |_=>exact ha
theorem zyr {P:Program}{lo:Nat}{h h':zaa}{t:TypeId}{m k v:Value}(ha:zer P lo h t m k v=some h'):znz P lo h t m k v=some h':=by
 cases k with
 |agg xs=>unfold zer at ha;split at ha<;>simp_all
 |_=>exact ha
theorem z0d {P:Program}{lo:Nat}{h h':zaa}{t:TypeId}{m k:Value}(ha:zjh P lo h t m k=some h'):adel P lo h t m k=some h':=by
 cases k with
 |agg xs=>unfold zjh at ha;split at ha<;>simp_all
 |_=>exact ha
theorem zv0 (s:VS lo g σ vh h){t:TypeId}{m k v:PV}{m' k':Value}{ok:Bool}(hm:VR g σ vh.next m m')(hk:VR g σ vh.next k k')(hv:zbp P vh t m k ok=some v):∃v',zn4 P h t m' k' ok=some v'∧FR g v v':=by
 unfold zbp at hv
 split at hv
 ·exact ztc s hm hk hv
 obtain⟨v',h1,h2⟩:=ztl s hm hk hv
 exact⟨v',zxw h1,h2⟩
theorem zjv (s:VS lo g σ vh h){t:TypeId}{m k v:PV}{m' k' v':Value}{vh':zab}(hm:VR g σ vh.next m m')(hk:VR g σ vh.next k k')(hvv:VR g σ vh.next v v')(hv:zar P vh t m k v=some vh') :
  ∃h',znz P lo h t m' k' v'=some h'∧VOK lo g σ vh h (.tup []) vh' Go.undef h':=by
 unfold zar at hv
 split at hv
 ·exact zny s hm hk hvv hv
 obtain⟨h',h1,h2⟩:=zn3 s hm hk hvv hv
 exact⟨h',zyr h1,h2⟩
theorem zwd (s:VS lo g σ vh h){t:TypeId}{m k:PV}{m' k':Value}{vh':zab}(hm:VR g σ vh.next m m')(hk:VR g σ vh.next k k')(hv:zbt P vh t m k=some vh') :
  ∃h',adel P lo h t m' k'=some h'∧VOK lo g σ vh h (.tup []) vh' Go.undef h':=by
 unfold zbt at hv
 split at hv
 ·exact zsp s hm hk hv
 obtain⟨h',h1,h2⟩:=ztk s hm hk hv
 exact⟨h',z0d h1,h2⟩
def zct (P:Program)(vh:zab)(t:TypeId)(x:PV):Option zab:=
 match zc8 P t,x with
 |some _,.sl0=>some vh
 |some _,.vec []=>some vh
 |some (e,n),.sub i off (l+1)=>
  match zb1 P e,vh.get i with
  |some z,some (.arr ag sz cs)=>bif Nat.beq z.length n&&Nat.beq sz n&&Nat.ble (off+(l+1)*n) cs.length&&z.all PV.one then some (vh.put i (.arr ag sz (zbb cs off (zda z (l+1))))) else none
  |_,_=>none
 |_,_=>none
theorem zxp (s:VS lo g σ vh h){t:TypeId}{x:PV}{x':Value}{vh':zab}(hx:VR g σ vh.next x x')(hv:zct P vh t x=some vh') :
  ∃h',zi0 P lo h t x'=some h'∧VOK lo g σ vh h (.tup []) vh' Go.undef h':=by
 unfold zct at hv
 split at hv
 ·rename_i q ht
  injection hv with hv;subst hv
  have:=hx.isF rfl;cases this
  exact⟨h,by simp only[zi0,ht],.same s (.fr _ _ zej)⟩
 ·rename_i q ht
  injection hv with hv;subst hv
  have:=hx.isF rfl
  cases this with
  |vecN=>exact⟨h,by simp only[zi0,ht],.same s (.fr _ _ zej)⟩
  |vec0=>exact⟨h,by simp only[zi0,ht],.same s (.fr _ _ zej)⟩
  |vec _ o off k s0 sz cs'=>exact⟨h,by simp only[zi0,ht,List.length_nil],.same s (.fr _ _ zej)⟩
 ·rename_i e n i off l ht
  split at hv
  ·rename_i z ag sz cs hz hg
   cases hb:(Nat.beq z.length n&&Nat.beq sz n&&Nat.ble (off+(l+1)*n) cs.length&&z.all PV.one) with
   |false=>rw[hb] at hv;cases hv
   |true=>
    rw[hb] at hv;simp only[xfp,xfm] at hv;subst hv
    simp only[xfr,beq_eq,decide_eq_true_eq,Nat.ble_eq] at hb
    obtain⟨⟨⟨b1,b2⟩,b3⟩,b4⟩:=hb
    subst b2
    obtain⟨z',k1,k2⟩:=zfa (g:=g) hz
    obtain⟨h0,s0,cs',h1,h2,h3⟩:=(s.obj i _ hg).2
    have hlow:=s.low i _ hg rfl
    cases hx with
    |fr _ _ h=>cases h
    |sub _ _ _ k o a kk hi hs hl hk=>
     rw[hs] at h1 h2 hlow;simp only at h1 h2 hlow;subst h2
     have hsp:PRs (FR g) (zbb cs off (zda z (l+1))) (zcb cs' off (reps z' (l+1))):=h3.zcb off (zim k2 _)
     have hw:=s.write hg rfl (x':=.arr ag sz (zbb cs off (zda z (l+1)))) (.cells s0 (zcb cs' off (reps z' (l+1)))) ⟨h0,s0,_,by rw[hs,zaa.zaw _ _ _ _ (zaa.zai h1),if_pos rfl],by rw[hs],hsp⟩
     rw[hs] at hw
     have e1:Nat.ble lo o=true:=by rw[Nat.ble_eq];exact hlow
     have e2:Nat.beq z'.length sz=true:=by rw[← k2.1,beq_eq];simpa using b1
     have e3:Nat.ble (0+off+(l+1)*sz) cs'.length=true:=by rw[Nat.ble_eq,← h3.1];omega
     have e4:z'.all (·.oneCell')=true:=PRs.ones (σ:=σ) (n:=vh.next) k2.vr b4
     refine⟨_,by simp only[zi0,ht,k1,h1,e1,e2,e3,e4,Bool.and_true,xfp];rfl,σ,.fr _ _ zej,?_,?_,Nat.le_refl _,fun _ _=>rfl⟩
     ·simpa using hw.1
     simpa using hw.2
  cases hv
 cases hv
end
end Go.Am
end
/-
 The value machine, part H: all operations without calls, and the logic.
-/
section
namespace Go.Am
def vscl:List PV→Option (List Value)
 |[]=>some []
 |v::r=>match vsc v,vscl r with
  |some x,some l=>some (x::l)
  |_,_=>none
def zbc (P:Program)(vh:zab)(b:Builtin)(argTypes:List TypeId)(args:List PV):Option (PV×zab):=
 match b,argTypes,args with
 |.len,[t],[x]=>(vlen P vh t x).map (·,vh)
 |.append,[s,x],[a,b]=>zbs P vh s x a b
 |.copy,[d,_],[a,b]=>zd2 P vh d a b
 |.delete,[t,_],[m,k]=>(zbt P vh t m k).map fun vh'=>(.tup [],vh')
 |.clear,[t],[x]=>(zct P vh t x).map fun vh'=>(.tup [],vh')
 |.max,_,x::r=>match vscl (x::r) with
  |some (x::r)=>((zcx true x r).bind pvcV).map (·,vh)
  |_=>none
 |.min,_,x::r=>match vscl (x::r) with
  |some (x::r)=>((zcx false x r).bind pvcV).map (·,vh)
  |_=>none
 |_,_,_=>none
def vop (P:Program)(vts:VTs)(vh:zab):Op→Option (PV×zab)
 |.move x=>(za6 vts x).map (·,vh)
 |.assign x=>(za6 vts x).map (·,vh)
 |.pick c a b=>match za6 vts c with
  |some (.bool true)=>(za6 vts a).map (·,vh)
  |some (.bool false)=>(za6 vts b).map (·,vh)
  |_=>none
 |.alloc t=>zcj P vh t
 |.box _ x=>(za6 vts x).map (vbox vh)
 |.build t parts=>match zb4 vts parts.toList with
  |some l=>(zed P t l).map (·,vh)
  |none=>none
 |.buildSlice t n parts=>match zb4 vts parts.toList with
  |some l=>zak P vh t n l
  |none=>none
 |.load t a=>match za6 vts a with
  |some p=>(zdu P vh t p).map (·,vh)
  |none=>none
 |.store t a x=>match za6 vts a,za6 vts x with
  |some p,some v=>(zcm P vh t p v).map fun vh'=>(.tup [],vh')
  |_,_=>none
 |.nilCheck x=>match za6 vts x with
  |some (.ptr i off)=>some (.ptr i off,vh)
  |some (.vp cs)=>some (.vp cs,vh)
  |some (.func f xs ys)=>some (.func f xs ys,vh)
  |_=>none
 |.binOp op t x y _=>match za6 vts x,za6 vts y with
  |some a,some b=>(vbin P op t a b).map (·,vh)
  |_,_=>none
 |.unOp op _ x=>match (za6 vts x).bind vsc with
  |some a=>((zdl op a).bind pvcV).map (·,vh)
  |none=>none
 |.convert s d x=>match (za6 vts x).bind vsc with
  |some a=>((za8 P s d a).bind pvcV).map (·,vh)
  |none=>none
 |.makeFunc (.func f) first captured=>match zbo vts first.toList,zbo vts captured.toList with
  |some xs,some ys=>some (.func f xs ys,vh)
  |_,_=>none
 |.makeMap _ none=>some (zbe vh)
 |.makeSlice t l c=>match za6 vts l,za6 vts c with
  |some a,some b=>zaq P vh t a b
  |_,_=>none
 |.slice t x lo hi none=>match za6 vts x,vO vts lo,vO vts hi with
  |some v,some l,some u=>(zci P t v l u).map (·,vh)
  |_,_,_=>none
 |.slice t x lo hi (some mx)=>match za6 vts x,vO vts lo,vO vts hi,vO vts (some mx) with
  |some v,some l,some u,some m=>match zi8 P t v l u m with
   |some r=>some (r,vh)
   |none=>bif (l.isNone||zcz l)&&zcz u&&zcz m then (zbr P t v).map (·,vh) else none
  |_,_,_,_=>none
 |.fieldAddr s x f=>match za6 vts x with
  |some p=>(zau P s p f).map (·,vh)
  |none=>none
 |.field s x f=>match za6 vts x with
  |some p=>(zcn P s p f).map (·,vh)
  |none=>none
 |.indexAddr t x i=>match za6 vts x,za6 vts i with
  |some a,some b=>(zav P t a b).map (·,vh)
  |_,_=>none
 |.index t x i=>match za6 vts x,za6 vts i with
  |some a,some b=>(zcl P t a b).map (·,vh)
  |_,_=>none
 |.lookup t m k ok=>match za6 vts m,za6 vts k with
  |some a,some b=>(zbp P vh t a b ok).map (·,vh)
  |_,_=>none
 |.mapUpdate t m k x=>match za6 vts m,za6 vts k,za6 vts x with
  |some a,some b,some c=>(zar P vh t a b c).map fun vh'=>(.tup [],vh')
  |_,_,_=>none
 |.insert t m k x=>match za6 vts m,za6 vts k,za6 vts x with
  |some a,some b,some c=>(zar P vh t a b c).map fun vh'=>(.tup [],vh')
  |_,_,_=>none
 |.extract x i=>match za6 vts x with
  |some a=>(zbf a i).map (·,vh)
  |none=>none
 |.call ⟨.builtin b,args,argTypes⟩=>match zbo vts args.toList with
  |some l=>zbc P vh b argTypes.toList l
  |none=>none
 |_=>none
section
variable {P:Program} {lo:Nat} {g:Fz} {σ:Sg} {vh:zab} {h:zaa} {vts:VTs} {ts:Tmps}
theorem zsq {n:Nat}:∀ {l:List PV} {l' xs:List Value},PRs (VR g σ n) l l'→vscl l=some xs→l'=xs
 |[],l',xs,hl,h=>by simp only[vscl,xfm] at h;subst h;exact hl.zcd
 |v::r,l',xs,hl,h=>by
  simp only[vscl] at h
  split at h
  ·rename_i p l h1 h2
   injection h with h;subst h
   obtain⟨v',r',rfl,k1,k2⟩:=hl.zax
   rw[zrm k1 h1,zsq k2 h2]
  cases h
theorem zcp {α:Type}{o:Option PV}{vh vh':zab}{v:PV}(h:o.map (·,vh)=some (v,vh')):o=some v∧vh'=vh:=by
 obtain⟨a,h1,h2⟩:=zad h
 simp only[xfn] at h2
 exact⟨h2.1▸h1,h2.2.symm⟩
theorem zta (s:VS lo g σ vh h){b:Builtin}{aT:List TypeId}{args:List PV}{args':List Value}{v:PV}{vh':zab}(ha:PRs (VR g σ vh.next) args args')(hv:zbc P vh b aT args=some (v,vh')) :
  ∃v' h',zcs P lo h b aT args'=some (v',h')∧VOK lo g σ vh h v vh' v' h':=by
 unfold zbc at hv
 split at hv
 ·obtain⟨h1,rfl⟩:=zcp (α:=Unit) hv
  obtain⟨x',r1,rfl,hx,h2⟩:=ha.zax
  have:=h2.zcd;subst this
  obtain⟨v',g1,g2⟩:=z3p s hx h1
  exact⟨v',h,by simp only[zcs,g1,Option.map_some],.same s (.fr _ _ g2)⟩
 ·obtain⟨x',r1,rfl,hx,h2⟩:=ha.zax
  obtain⟨y',r2,rfl,hy,h3⟩:=h2.zax
  have:=h3.zcd;subst this
  exact zv9 s hx hy hv
 ·obtain⟨x',r1,rfl,hx,h2⟩:=ha.zax
  obtain⟨y',r2,rfl,hy,h3⟩:=h2.zax
  have:=h3.zcd;subst this
  exact z1e s hx hy hv
 ·obtain⟨vh1,h1,h2⟩:=zad hv
  simp only[xfn] at h2;obtain⟨rfl,rfl⟩:=h2
  obtain⟨x',r1,rfl,hx,h2⟩:=ha.zax
  obtain⟨y',r2,rfl,hy,h3⟩:=h2.zax
  have:=h3.zcd;subst this
  obtain⟨h',g1,g2⟩:=zwd s hx hy h1
  exact⟨_,h',by simp only[zcs,g1,Option.map_some],g2⟩
 ·obtain⟨vh1,h1,h2⟩:=zad hv
  simp only[xfn] at h2;obtain⟨rfl,rfl⟩:=h2
  obtain⟨x',r1,rfl,hx,h2⟩:=ha.zax
  have:=h2.zcd;subst this
  obtain⟨h',g1,g2⟩:=zxp s hx h1
  exact⟨_,h',by simp only[zcs,g1,Option.map_some],g2⟩
 ·split at hv
  ·rename_i x r hc
   obtain⟨h1,rfl⟩:=zcp (α:=Unit) hv
   have:=zsq ha hc;subst this
   cases hm:zcx true x r with
   |none=>rw[hm] at h1;cases h1
   |some u=>rw[hm] at h1;exact⟨u,h,by simp only[zcs,hm,Option.map_some],.same s (.fr _ _ (zhx h1).1)⟩
  cases hv
 ·split at hv
  ·rename_i x r hc
   obtain⟨h1,rfl⟩:=zcp (α:=Unit) hv
   have:=zsq ha hc;subst this
   cases hm:zcx false x r with
   |none=>rw[hm] at h1;cases h1
   |some u=>rw[hm] at h1;exact⟨u,h,by simp only[zcs,hm,Option.map_some],.same s (.fr _ _ (zhx h1).1)⟩
  cases hv
 cases hv
theorem zog (s:VS lo g σ vh h)(ht:VT g σ vh.next vts ts){op:Op}{v:PV}{vh':zab}(hv:vop P vts vh op=some (v,vh')):∃v' h',aop P lo ts h op=some (v',h')∧VOK lo g σ vh h v vh' v' h':=by
 have pure:∀ {o:Option PV} {v':Value},vh'=vh→VR g σ vh.next v v'→aop P lo ts h op=some (v',h)→∃v' h',aop P lo ts h op=some (v',h')∧VOK lo g σ vh h v vh' v' h':=fun {o v'} e hr ha=>by
  subst e;exact⟨_,_,ha,.same s hr⟩
 unfold vop at hv
 split at hv
 ·obtain⟨h1,e⟩:=zcp (α:=Unit) hv
  obtain⟨v',g1,g2⟩:=zao ht h1
  exact pure (o:=none) e g2 (by simp only[aop,g1,Option.map_some])
 ·obtain⟨h1,e⟩:=zcp (α:=Unit) hv
  obtain⟨v',g1,g2⟩:=zao ht h1
  exact pure (o:=none) e g2 (by simp only[aop,g1,Option.map_some])
 ·split at hv
  ·rename_i hc
   obtain⟨h1,e⟩:=zcp (α:=Unit) hv
   obtain⟨c',k1,k2⟩:=zao ht hc
   have:=k2.isF rfl;cases this
   obtain⟨v',g1,g2⟩:=zao ht h1
   exact pure (o:=none) e g2 (by simp only[aop,k1,g1,Option.map_some])
  ·rename_i hc
   obtain⟨h1,e⟩:=zcp (α:=Unit) hv
   obtain⟨c',k1,k2⟩:=zao ht hc
   have:=k2.isF rfl;cases this
   obtain⟨v',g1,g2⟩:=zao ht h1
   exact pure (o:=none) e g2 (by simp only[aop,k1,g1,Option.map_some])
  cases hv
 ·obtain⟨v',h',g1,g2⟩:=zx7 s hv
  exact⟨v',h',g1,g2⟩
 ·obtain⟨u,h1,h2⟩:=zad hv
  obtain⟨u',g1,g2⟩:=zao ht h1
  have:=z4p s g2
  rw[h2] at this
  exact⟨_,_,by simp only[aop,g1,Option.map_some],this⟩
 ·split at hv
  ·rename_i l hl
   obtain⟨h1,e⟩:=zcp (α:=Unit) hv
   obtain⟨l',k1,k2⟩:=zj2 ht hl
   obtain⟨v',g1,g2⟩:=zwx k2 h1
   exact pure (o:=none) e g2 (by simp only[aop,k1,g1,Option.map_some])
  cases hv
 ·split at hv
  ·rename_i l hl
   obtain⟨l',k1,k2⟩:=zj2 ht hl
   obtain⟨v',h',g1,g2⟩:=zn5 s k2 hv
   exact⟨v',h',by simp only[aop,k1,g1],g2⟩
  cases hv
 ·split at hv
  ·rename_i p hp
   obtain⟨h1,e⟩:=zcp (α:=Unit) hv
   obtain⟨p',k1,k2⟩:=zao ht hp
   obtain⟨v',g1,g2⟩:=zuw s k2 h1
   exact pure (o:=none) e g2 (by simp only[aop,k1,g1,Option.map_some])
  cases hv
 ·split at hv
  ·rename_i p u hp hu
   obtain⟨vh1,h1,h2⟩:=zad hv
   simp only[xfn] at h2;obtain⟨rfl,rfl⟩:=h2
   obtain⟨p',k1,k2⟩:=zao ht hp
   obtain⟨u',k3,k4⟩:=zao ht hu
   obtain⟨h',g1,g2⟩:=zx2 s k2 k4 h1
   exact⟨_,h',by simp only[aop,k1,k3,g1,Option.map_some],g2⟩
  cases hv
 ·split at hv
  ·rename_i i off hp
   simp only[xfm,xfn] at hv;obtain⟨rfl,rfl⟩:=hv
   obtain⟨p',k1,k2⟩:=zao ht hp
   have k3:=k2
   cases k2 with
   |fr _ _ h=>cases h
   |ptr=>exact⟨_,_,by simp only[aop,k1,zf4,Option.map_some],.same s k3⟩
  ·rename_i cs hp
   simp only[xfm,xfn] at hv;obtain⟨rfl,rfl⟩:=hv
   obtain⟨p',k1,k2⟩:=zao ht hp
   have k3:=k2
   have:=k2.isF rfl;cases this
   exact⟨_,_,by simp only[aop,k1,zf4,Option.map_some],.same s k3⟩
  ·rename_i f xs ys hp
   simp only[xfm,xfn] at hv;obtain⟨rfl,rfl⟩:=hv
   obtain⟨p',k1,k2⟩:=zao ht hp
   have k3:=k2
   cases k2 with
   |fr _ _ h=>cases h;exact⟨_,_,by simp only[aop,k1,zf4,Option.map_some],.same s k3⟩
   |func=>exact⟨_,_,by simp only[aop,k1,zf4,Option.map_some],.same s k3⟩
  cases hv
 ·split at hv
  ·rename_i a b ha hb
   obtain⟨h1,e⟩:=zcp (α:=Unit) hv
   obtain⟨a',k1,k2⟩:=zao ht ha
   obtain⟨b',k3,k4⟩:=zao ht hb
   obtain⟨v',g1,g2⟩:=z4j k2 k4 h1
   exact pure (o:=none) e (.fr _ _ g2) (by simp only[aop,k1,k3,g1,Option.map_some])
  cases hv
 ·rename_i op ty x
  split at hv
  ·rename_i a ha
   cases hx:za6 vts x with
   |none=>rw[hx] at ha;cases ha
   |some u=>
    rw[hx] at ha
    obtain⟨h1,e⟩:=zcp (α:=Unit) hv
    obtain⟨u',k1,k2⟩:=zao ht hx
    have:=zrm k2 ha;subst this
    cases hu:zdl op u' with
    |none=>rw[hu] at h1;cases h1
    |some w=>rw[hu] at h1;exact pure (o:=none) e (.fr _ _ (zhx h1).1) (by simp only[aop,k1,hu,Option.map_some])
  cases hv
 ·rename_i sT dT x
  split at hv
  ·rename_i a ha
   cases hx:za6 vts x with
   |none=>rw[hx] at ha;cases ha
   |some u=>
    rw[hx] at ha
    obtain⟨h1,e⟩:=zcp (α:=Unit) hv
    obtain⟨u',k1,k2⟩:=zao ht hx
    have:=zrm k2 ha;subst this
    cases hu:za8 P sT dT u' with
    |none=>rw[hu] at h1;cases h1
    |some w=>rw[hu] at h1;exact pure (o:=none) e (.fr _ _ (zhx h1).1) (by simp only[aop,k1,hu,Option.map_some])
  cases hv
 ·split at hv
  ·rename_i xs ys hxs hys
   simp only[xfm,xfn] at hv;obtain⟨rfl,rfl⟩:=hv
   obtain⟨xs',k1,k2⟩:=zf6 ht hxs
   obtain⟨ys',k3,k4⟩:=zf6 ht hys
   exact⟨_,_,by simp only[aop,k1,k3],.same s (.func _ _ _ xs'.toArray ys'.toArray (by simpa using k2.1) (by simpa using k4.1) (fun i v v' hv hv'=>k2.2 i v v' hv (by simpa using hv')) (fun i v v' hv hv'=>k4.2 i v v' hv (by simpa using hv')))⟩
  cases hv
 ·simp only[xfm] at hv
  have:=zsl s
  rw[hv] at this
  exact⟨_,_,rfl,this⟩
 ·split at hv
  ·rename_i a b ha hb
   obtain⟨a',k1,k2⟩:=zao ht ha
   obtain⟨b',k3,k4⟩:=zao ht hb
   obtain⟨v',h',g1,g2⟩:=zqd s k2 k4 hv
   exact⟨v',h',by simp only[aop,k1,k3,g1],g2⟩
  cases hv
 ·split at hv
  ·rename_i a l u ha hl hu
   obtain⟨h1,e⟩:=zcp (α:=Unit) hv
   obtain⟨a',k1,k2⟩:=zao ht ha
   obtain⟨l',k3,k4⟩:=zqu ht hl
   obtain⟨u',k5,k6⟩:=zqu ht hu
   obtain⟨v',g1,g2⟩:=zw5 k2 k4 k6 h1
   exact pure (o:=none) e g2 (by simp only[aop,k1,k3,k5,show zg3 ts none=some none from rfl,g1,Option.map_some])
  cases hv
 ·rename_i t x lo' hi' mx
  split at hv
  ·rename_i a l u m ha hl hu hm
   split at hv
   ·rename_i r0 hr0
    obtain⟨a',k1,k2⟩:=zao ht ha
    obtain⟨l',k3,k4⟩:=zqu ht hl
    obtain⟨u',k5,k6⟩:=zqu ht hu
    obtain⟨m',k7,k8⟩:=zqu ht hm
    obtain⟨v',g1,g2⟩:=zvv k2 k4 k6 k8 hr0
    simp only[xfm,xfn] at hv
    obtain⟨rfl,rfl⟩:=hv
    exact pure (o:=none) rfl g2 (by simp only[aop,k1,k3,k5,k7,g1,Option.map_some])
   cases hb:((l.isNone||zcz l)&&zcz u&&zcz m) with
   |false=>rw[hb] at hv;cases hv
   |true=>
    rw[hb] at hv;simp only[xfp] at hv
    simp only[xfr,Bool.or_eq_true] at hb
    obtain⟨⟨hb1,hb2⟩,hb3⟩:=hb
    obtain⟨h1,e⟩:=zcp (α:=Unit) hv
    obtain⟨a',k1,k2⟩:=zao ht ha
    obtain⟨l',k3,k4⟩:=zqu ht hl
    obtain⟨u',k5,k6⟩:=zqu ht hu
    obtain⟨m',k7,k8⟩:=zqu ht hm
    obtain⟨v',g1,g2⟩:=zv2 k2 k4 k6 k8 (by rcases hb1 with h|h;exact .inl (by simpa using h);exact .inr h) hb2 hb3 h1
    exact pure (o:=none) e g2 (by simp only[aop,k1,k3,k5,k7,g1,Option.map_some])
  cases hv
 ·split at hv
  ·rename_i p hp
   obtain⟨h1,e⟩:=zcp (α:=Unit) hv
   obtain⟨p',k1,k2⟩:=zao ht hp
   obtain⟨v',g1,g2⟩:=zp0 k2 h1
   exact pure (o:=none) e g2 (by simp only[aop,k1,g1,Option.map_some])
  cases hv
 ·split at hv
  ·rename_i p hp
   obtain⟨h1,e⟩:=zcp (α:=Unit) hv
   obtain⟨p',k1,k2⟩:=zao ht hp
   obtain⟨v',g1,g2⟩:=zxy k2 h1
   exact pure (o:=none) e g2 (by simp only[aop,k1,g1,Option.map_some])
  cases hv
 ·split at hv
  ·rename_i a b ha hb
   obtain⟨h1,e⟩:=zcp (α:=Unit) hv
   obtain⟨a',k1,k2⟩:=zao ht ha
   obtain⟨b',k3,k4⟩:=zao ht hb
   obtain⟨v',g1,g2⟩:=zpt k2 k4 h1
   exact pure (o:=none) e g2 (by simp only[aop,k1,k3,g1,Option.map_some])
  cases hv
 ·split at hv
  ·rename_i a b ha hb
   obtain⟨h1,e⟩:=zcp (α:=Unit) hv
   obtain⟨a',k1,k2⟩:=zao ht ha
   obtain⟨b',k3,k4⟩:=zao ht hb
   obtain⟨v',g1,g2⟩:=zwl k2 k4 h1
   exact pure (o:=none) e g2 (by simp only[aop,k1,k3,g1,Option.map_some])
  cases hv
 ·split at hv
  ·rename_i a b ha hb
   obtain⟨h1,e⟩:=zcp (α:=Unit) hv
   obtain⟨a',k1,k2⟩:=zao ht ha
   obtain⟨b',k3,k4⟩:=zao ht hb
   obtain⟨v',g1,g2⟩:=zv0 s k2 k4 h1
   exact pure (o:=none) e (.fr _ _ g2) (by simp only[aop,k1,k3,g1,Option.map_some])
  cases hv
 ·split at hv
  ·rename_i a b c ha hb hc
   obtain⟨vh1,h1,h2⟩:=zad hv
   simp only[xfn] at h2;obtain⟨rfl,rfl⟩:=h2
   obtain⟨a',k1,k2⟩:=zao ht ha
   obtain⟨b',k3,k4⟩:=zao ht hb
   obtain⟨c',k5,k6⟩:=zao ht hc
   obtain⟨h',g1,g2⟩:=zjv s k2 k4 k6 h1
   exact⟨_,h',by simp only[aop,k1,k3,k5,g1,Option.map_some],g2⟩
  cases hv
 ·split at hv
  ·rename_i a b c ha hb hc
   obtain⟨vh1,h1,h2⟩:=zad hv
   simp only[xfn] at h2;obtain⟨rfl,rfl⟩:=h2
   obtain⟨a',k1,k2⟩:=zao ht ha
   obtain⟨b',k3,k4⟩:=zao ht hb
   obtain⟨c',k5,k6⟩:=zao ht hc
   obtain⟨h',g1,g2⟩:=zjv s k2 k4 k6 h1
   exact⟨_,h',by simp only[aop,k1,k3,k5,g1,Option.map_some],g2⟩
  cases hv
 ·split at hv
  ·rename_i p hp
   obtain⟨h1,e⟩:=zcp (α:=Unit) hv
   obtain⟨p',k1,k2⟩:=zao ht hp
   obtain⟨v',g1,g2⟩:=zsk k2 h1
   exact pure (o:=none) e g2 (by simp only[aop,k1,g1,Option.map_some])
  cases hv
 ·split at hv
  ·rename_i l hl
   obtain⟨l',k1,k2⟩:=zf6 ht hl
   obtain⟨v',h',g1,g2⟩:=zta s k2 hv
   exact⟨v',h',by simp only[aop,k1,g1],g2⟩
  cases hv
 cases hv
end
end Go.Am
end
/-
 The value machine, part I: the logic.
-/
section
namespace Go.Am
def GOwn (g:Fz)(σ:Sg)(vh:zab)(h:zaa)(g':Fz):Prop:=∀o x,g' o=some x→o<h.next→g o=some x∨∃i y,vh.get i=some y∧y.live=true∧(σ i).1=o
abbrev zfz:=Exit→VTs→zab→Prop
structure SimR (N b lo:Nat) (g:Fz) (σ:Sg) (vh:zab) (h:zaa) (ts':Tmps) (h':zaa) (g':Fz) (σ':Sg) (vts':VTs) (vh':zab):Prop where
  t:VT g' σ' vh'.next vts' ts'
  len:ts'.length=N
  s:VS lo g' σ' vh' h'
  le:g.le g'
  agree:∀i,i<b→σ' i=σ i
  f:VF σ vh h σ' vh' h'
  base:b≤vh'.next
  own:GOwn g σ vh h g'
def Sim (N b lo:Nat)(g:Fz)(σ:Sg)(vh:zab)(h:zaa)(K:VTs→zab→Prop)(ts':Tmps)(h':zaa):Prop:=
 ∃g' σ' vts' vh',SimR N b lo g σ vh h ts' h' g' σ' vts' vh'∧K vts' vh'
def VW (P:Program)(N b:Nat)(c:Code)(Q:zfz)(vts:VTs)(vh:zab):Prop:=
 ∀lo g σ h ts,VT g σ vh.next vts ts→ts.length=N→VS lo g σ vh h→b≤vh.next→AW P lo c (fun e=>Sim N b lo g σ vh h (Q e)) ts h
def zgz (P:Program)(N b:Nat)(o:Oper)(next:VTs→zab→Prop)(vts:VTs)(vh:zab):Prop:=
 ∀lo g σ h ts,VT g σ vh.next vts ts→ts.length=N→VS lo g σ vh h→b≤vh.next→zgm P lo o ts h (Sim N b lo g σ vh h next)
def zbj (P:Program)(f:FuncId)(args:List PV)(vh:zab)(R:PV→zab→Prop):Prop:=
 ∀lo g σ h args',PRs (VR g σ vh.next) args args'→VS lo g σ vh h→zc0 P lo f args' h fun r h'=>∃g' σ' v vh',VR g' σ' vh'.next v r∧VS lo g' σ' vh' h'∧g.le g'∧(∀i,i<vh.next→σ' i=σ i)∧VF σ vh h σ' vh' h'∧vh.next≤vh'.next∧
  GOwn g σ vh h g'∧R v vh'
section
variable {P:Program} {N b:Nat} {Q Q':zfz} {vts:VTs} {vh:zab}
theorem GOwn.refl (g:Fz)(σ:Sg)(vh:zab)(h:zaa):GOwn g σ vh h g:=fun o x hx _=>.inl hx
theorem GOwn.trans {g g1 g2:Fz}{σ σ1:Sg}{vh vh1:zab}{h h1:zaa}(a:GOwn g σ vh h g1)(f:VF σ vh h σ1 vh1 h1)(c:GOwn g1 σ1 vh1 h1 g2):GOwn g σ vh h g2:=fun o x hx ho=>by
 rcases c o x hx (Nat.lt_of_lt_of_le ho f.next) with h|⟨i,y,h1,h2,h3⟩
 ·exact a o x h ho
 obtain⟨j,z,k1,k2,k3⟩:=f.own i y h1 h2 (h3▸ho)
 exact .inr ⟨j,z,k1,k2,k3.trans h3⟩
theorem SimR.refl {lo:Nat}{g:Fz}{σ:Sg}{h:zaa}{ts:Tmps}(ht:VT g σ vh.next vts ts)(hn:ts.length=N)(s:VS lo g σ vh h)(hb:b≤vh.next):SimR N b lo g σ vh h ts h g σ vts vh:=
 ⟨ht,hn,s,Fz.le_refl g,fun _ _=>rfl,VF.refl _ _ _,hb,GOwn.refl _ _ _ _⟩
theorem SimR.trans {lo:Nat}{g g1 g2:Fz}{σ σ1 σ2:Sg}{vh1 vh2:zab}{h h1 h2:zaa}{ts1 ts2:Tmps}{vts1 vts2:VTs}(a:SimR N b lo g σ vh h ts1 h1 g1 σ1 vts1 vh1)(c:SimR N b lo g1 σ1 vh1 h1 ts2 h2 g2 σ2 vts2 vh2):SimR N b lo g σ vh h ts2 h2 g2 σ2 vts2 vh2:=
 ⟨c.t,c.len,c.s,Fz.le_trans a.le c.le,fun i hi=>(c.agree i hi).trans (a.agree i hi),a.f.trans c.f,c.base,a.own.trans a.f c.own⟩
theorem Sim.mono {lo:Nat}{g:Fz}{σ:Sg}{h:zaa}{K K':VTs→zab→Prop}{ts':Tmps}{h':zaa}(hk:∀vts vh,K vts vh→K' vts vh):Sim N b lo g σ vh h K ts' h'→Sim N b lo g σ vh h K' ts' h':=
 fun⟨g',σ',vts',vh',a,k⟩=>⟨g',σ',vts',vh',a,hk _ _ k⟩
theorem Sim.trans {lo:Nat}{g g1:Fz}{σ σ1:Sg}{vh1:zab}{h h1:zaa}{ts1 ts2:Tmps}{vts1:VTs}{K:VTs→zab→Prop}{h2:zaa}(a:SimR N b lo g σ vh h ts1 h1 g1 σ1 vts1 vh1):Sim N b lo g1 σ1 vh1 h1 K ts2 h2→Sim N b lo g σ vh h K ts2 h2:=
 fun⟨g',σ',vts',vh',c,k⟩=>⟨g',σ',vts',vh',a.trans c,k⟩
theorem VW.mono {c:Code}(hc:VW P N b c Q vts vh)(hq:∀e vts vh,Q e vts vh→Q' e vts vh):VW P N b c Q' vts vh:=
 fun lo g σ h ts ht hn s hb=>(hc lo g σ h ts ht hn s hb).mono fun e ts h hs=>hs.mono (hq e)
theorem zbj.mono {f:FuncId}{args:List PV}{R R':PV→zab→Prop}(hc:zbj P f args vh R)(hr:∀v vh,R v vh→R' v vh):zbj P f args vh R':=
 fun lo g σ h args' ha s=>(hc lo g σ h args' ha s).mono fun r h' ⟨g',σ',v,vh',h1,h2,h3,h4,h5,h6,h7,h8⟩=>⟨g',σ',v,vh',h1,h2,h3,h4,h5,h6,h7,hr _ _ h8⟩
theorem VW.skip (hq:Q .normal vts vh):VW P N b .skip Q vts vh:=fun lo g σ h ts ht hn s hb=>.skip ⟨g,σ,vts,vh,.refl ht hn s hb,hq⟩
theorem VW.label {l:Nat}(hq:Q .normal vts vh):VW P N b (.label l) Q vts vh:=fun lo g σ h ts ht hn s hb=>.label ⟨g,σ,vts,vh,.refl ht hn s hb,hq⟩
theorem VW.exit {id:Nat}(hq:Q (.exit id) vts vh):VW P N b (.exit id) Q vts vh:=fun lo g σ h ts ht hn s hb=>.exit ⟨g,σ,vts,vh,.refl ht hn s hb,hq⟩
theorem VW.ret (hq:Q .ret vts vh):VW P N b .ret Q vts vh:=fun lo g σ h ts ht hn s hb=>.ret ⟨g,σ,vts,vh,.refl ht hn s hb,hq⟩
def zs5 (next:VTs→zab→Prop)(Q:zfz):zfz
 |.normal=>next
 |e=>Q e
theorem VW.seq {x y:Code}(hx:VW P N b x (zs5 (VW P N b y Q) Q) vts vh):VW P N b (.seq x y) Q vts vh:=fun lo g σ h ts ht hn s hb=>
 .seq ((hx lo g σ h ts ht hn s hb).mono fun e ts' h' ⟨g',σ',vts',vh',a,k⟩=>by
  cases e with
  |normal=>exact(k lo g' σ' h' ts' a.t a.len a.s a.base).mono fun e2 ts2 h2 hs=>hs.trans a
  |exit id=>exact⟨g',σ',vts',vh',a,k⟩
  |goto l=>exact⟨g',σ',vts',vh',a,k⟩
  |ret=>exact⟨g',σ',vts',vh',a,k⟩
  |panic ch=>exact⟨g',σ',vts',vh',a,k⟩
  |outgrown=>exact⟨g',σ',vts',vh',a,k⟩)
theorem VW.cond {c:Operand}{x y:Code}{v:Bool}(hc:za6 vts c=some (.bool v))(hb:VW P N b (if v then x else y) Q vts vh):VW P N b (.cond c x y) Q vts vh:=fun lo g σ h ts ht hn s hbn=>by
 obtain⟨v',k1,k2⟩:=zao ht hc
 have:=k2.isF rfl;cases this
 exact .cond k1 (hb lo g σ h ts ht hn s hbn)
theorem VW.zey {c:Operand}{x y:Code}(hc:za6 vts c=some (.bool true))(hb:VW P N b x Q vts vh):VW P N b (.cond c x y) Q vts vh:=.cond hc hb
theorem VW.zd3 {c:Operand}{x y:Code}(hc:za6 vts c=some (.bool false))(hb:VW P N b y Q vts vh):VW P N b (.cond c x y) Q vts vh:=.cond hc hb
def zfn (id:Nat)(Q:zfz):zfz
 |.exit id'=>if id'=id then Q .normal else Q (.exit id')
 |e=>Q e
theorem VW.block {id:Nat}{c:Code}(hc:VW P N b c (zfn id Q) vts vh):VW P N b (.block id c) Q vts vh:=fun lo g σ h ts ht hn s hb=>
 .block ((hc lo g σ h ts ht hn s hb).mono fun e ts' h' hs=>by
  cases e with
  |exit id'=>
   simp only[zb6,zfn] at hs ⊢
   by_cases hi:id'=id
   ·simp only[hi,if_true] at hs ⊢;exact hs
   simp only[hi,if_false] at hs ⊢;exact hs
  |normal=>exact hs
  |goto l=>exact hs
  |ret=>exact hs
  |panic ch=>exact hs
  |outgrown=>exact hs)
def z3v (Q:zfz):zfz
 |.goto _=>fun _ _=>False
 |e=>Q e
theorem VW.scope {c:Code}(hc:VW P N b c (z3v Q) vts vh):VW P N b (.scope c) Q vts vh:=fun lo g σ h ts ht hn s hb=>
 .scope ((hc lo g σ h ts ht hn s hb).mono fun e ts' h' hs=>by
  cases e with
  |goto l=>obtain⟨_,_,_,_,_,k⟩:=hs;exact k.elim
  |exit id=>exact hs
  |normal=>exact hs
  |ret=>exact hs
  |panic ch=>exact hs
  |outgrown=>exact hs)
theorem VW.loop {c:Code}(I:Nat→VTs→zab→Prop)(m:Nat)(h0:I m vts vh)(round:∀m vts vh,I m vts vh→VW P N b c (zs5 (fun vts' vh'=>∃m',m'<m∧I m' vts' vh') Q) vts vh):VW P N b (.loop c) Q vts vh:=fun lo g σ h ts ht hn s hb=>by
 refine AW.loop (fun m ts' h'=>∃g' σ' vts' vh',SimR N b lo g σ vh h ts' h' g' σ' vts' vh'∧I m vts' vh') m ⟨g,σ,vts,vh,.refl ht hn s hb,h0⟩ ?_
 rintro m ts' h' ⟨g',σ',vts',vh',a,k⟩
 refine(round m vts' vh' k lo g' σ' h' ts' a.t a.len a.s a.base).mono fun e ts2 h2 hs=>?_
 cases e with
 |normal=>
  obtain⟨g2,σ2,vts2,vh2,c2,m',hlt,k2⟩:=hs
  exact⟨m',hlt,g2,σ2,vts2,vh2,a.trans c2,k2⟩
 |exit id=>exact hs.trans a
 |goto l=>exact hs.trans a
 |ret=>exact hs.trans a
 |panic ch=>exact hs.trans a
 |outgrown=>exact hs.trans a
def tput (vts:VTs)(dst:Option Tmp)(v:PV):VTs:=
 match dst with
 |some d=>(d,v)::vts
 |none=>vts
def zc1 (N:Nat)(dst:Option Tmp):Bool:=
 match dst with
 |some d=>Nat.blt d N
 |none=>true
theorem zeb {g g':Fz}{σ σ':Sg}{n n':Nat}{ts:Tmps}{v:PV}{v':Value}(hle:g.le g')(hn:n≤n')(hσ:∀i,i<n→σ' i=σ i)(ht:VT g σ n vts ts)(dst:Option Tmp)(hd:zc1 ts.length dst=true)(hv:VR g' σ' n' v v') :
  VT g' σ' n' (tput vts dst v) (aput ts dst v')∧(aput ts dst v').length=ts.length:=by
 cases dst with
 |none=>exact⟨ht.mono hle hn hσ,rfl⟩
 |some d=>
  have hd:d<ts.length:=by simpa[zc1] using hd
  refine⟨fun t u hu=>?_,by simp[aput]⟩
  simp only[tput,tget,beq_eq] at hu
  by_cases htd:t=d
  ·subst htd
   simp at hu;subst hu
   rw[zc7 hd];exact hv
  simp[htd] at hu
  rw[zck (fun h=>htd h.symm)]
  exact(ht t u hu).mono hle hn hσ
theorem zgz.op {o:Oper}{v:PV}{vh':zab}{next:VTs→zab→Prop}(hv:vop P vts vh o.op=some (v,vh'))(hd:zc1 N o.dst=true)(hn:next (tput vts o.dst v) vh'):zgz P N b o next vts vh:=fun lo g σ h ts ht hl s hb=>by
 obtain⟨v',h',k1,σ',k2,k3,k4,k5,k6⟩:=zog s ht hv
 obtain⟨g1,g2⟩:=zeb (Fz.le_refl g) k5 k6 ht o.dst (hl▸hd) k2
 exact .op k1 ⟨g,σ',_,vh',⟨g1,g2.trans hl,k3,Fz.le_refl g,fun i hi=>k6 i (by omega),k4,by omega,GOwn.refl _ _ _ _⟩,hn⟩
theorem zgz.call {o:Oper}{fo:Operand}{args:Array Operand}{aT:Array TypeId}{f:FuncId}{xs ys l:List PV}{next:VTs→zab→Prop}(ho:o.op=.call ⟨.value fo,args,aT⟩)
  (hf:za6 vts fo=some (.func f xs ys)) (hl:zbo vts args.toList=some l) (hcf:∀cs w,(callFunc f cs).run P w=.ok (.enter f cs) w) (hd:zc1 N o.dst=true)
  (hc:zbj P f (xs++l++ys) vh fun r vh'=>next (tput vts o.dst r) vh'):zgz P N b o next vts vh:=fun lo g σ h ts ht hn s hb=>by
 obtain⟨f',k1,k2⟩:=zao ht hf
 obtain⟨l',k3,k4⟩:=zf6 ht hl
 have hfv:∃xs' ys':Array Value,f'=.func (.func f) xs' ys'∧PRs (VR g σ vh.next) xs xs'.toList∧PRs (VR g σ vh.next) ys ys'.toList:=by
  cases k2 with
  |fr _ _ h=>cases h with
   |func _ _ _ xs' ys' hx hy rx ry=>exact⟨xs',ys',rfl,⟨by simpa using hx,fun i v v' hv hv'=>.fr _ _ (rx i v v' hv (by simpa using hv'))⟩,⟨by simpa using hy,fun i v v' hv hv'=>.fr _ _ (ry i v v' hv (by simpa using hv'))⟩⟩
  |func _ _ _ xs' ys' hx hy rx ry=>exact⟨xs',ys',rfl,⟨by simpa using hx,fun i v v' hv hv'=>rx i v v' hv (by simpa using hv')⟩,⟨by simpa using hy,fun i v v' hv hv'=>ry i v v' hv (by simpa using hv')⟩⟩
 obtain⟨xs',ys',rfl,hx,hy⟩:=hfv
 refine .z1a ho k1 k3 hcf ((hc lo g σ h _ ((hx.append k4).append hy) s).mono fun r h' ⟨g',σ',v,vh',h1,h2,h3,h4,h5,h6,h7,h8⟩=>?_)
 obtain⟨g1,g2⟩:=zeb h3 h6 h4 ht o.dst (hn▸hd) h1
 exact⟨g',σ',_,vh',⟨g1,g2.trans hn,h2,h3,fun i hi=>h4 i (by omega),h5,by omega,h7⟩,h8⟩
def zbg (ops:Array Oper)(vts:VTs)(j:Nat):Option PV:=
 match (ops[j]?).bind (·.dst) with
 |some d=>tget d vts
 |none=>none
def zaz (ops:Array Oper)(o:Oper)(vts:VTs):Option Bool:=
 match o.guard with
 |none=>some true
 |some (j,want)=>match zbg ops vts j with
  |some (.bool v)=>some (bif want then v else !v)
  |some (.tup [])=>some false
  |_=>none
theorem zes {g:Fz}{σ:Sg}{n:Nat}{ts:Tmps}{ops:Array Oper}{o:Oper}{w:Bool}(hd:∀d∈(ops.toList.filterMap (·.dst)),d<ts.length)(ht:VT g σ n vts ts)(hw:zaz ops o vts=some w):Region.wanted o (za2 ops ts)=w:=by
 unfold zaz at hw
 unfold Region.wanted
 split at hw
 ·rename_i hg;injection hw with hw;subst hw;rw[hg]
 rename_i j want hg
 rw[hg]
 simp only
 unfold zbg at hw
 cases hj:(ops[j]?).bind (·.dst) with
 |none=>rw[hj] at hw;simp at hw
 |some d=>
  rw[hj] at hw
  simp only at hw
  have hlt:d<ts.length:=by
   refine hd d ?_
   cases ho:ops[j]? with
   |none=>rw[ho] at hj;cases hj
   |some oo=>
    rw[ho] at hj
    rw[List.mem_filterMap]
    exact⟨oo,by have:=Array.mem_of_getElem? ho;simpa using this,hj⟩
  have hget:ts[d]?=some (ts.getD d Go.undef):=by simp[List.getD,hlt]
  unfold za2
  rw[hj]
  simp only[Option.bind_some]
  rw[hget]
  split at hw
  ·rename_i v hv
   injection hw with hw;subst hw
   have hvr:=(ht d _ hv).isF rfl
   generalize ts.getD d Go.undef=u at hvr
   cases hvr
   cases want<;>cases v<;>rfl
  ·rename_i hv
   injection hw with hw;subst hw
   have hvr:=ht d _ hv
   obtain⟨cs',e,_⟩:=zkm hvr
   rw[e];rfl
  cases hw
def VOps (P:Program)(N b:Nat)(ops:Array Oper)(K:VTs→zab→Prop):List Nat→VTs→zab→Prop
 |[],vts,vh=>K vts vh
 |i::rest,vts,vh=>
  match ops[i]? with
  |none=>VOps P N b ops K rest vts vh
  |some o=>match zaz ops o vts with
   |some true=>zgz P N b o (VOps P N b ops K rest) vts vh
   |some false=>zc1 N o.dst=true∧VOps P N b ops K rest (tput vts o.dst (.tup [])) vh
   |none=>False
theorem zja {ops:Array Oper}(hd:∀d∈(ops.toList.filterMap (·.dst)),d<N){K:VTs→zab→Prop}{lo:Nat}{g:Fz}{σ:Sg}{h:zaa}:∀(l:List Nat) (ts':Tmps) (h':zaa) (g':Fz) (σ':Sg) (vts':VTs) (vh':zab),SimR N b lo g σ vh h ts' h' g' σ' vts' vh'→
  VOps P N b ops K l vts' vh'→AOps P lo ops (Sim N b lo g σ vh h K) l ts' h'
 |[],ts',h',g',σ',vts',vh',a,k=>⟨g',σ',vts',vh',a,k⟩
 |i::rest,ts',h',g',σ',vts',vh',a,k=>by
  simp only[VOps] at k
  simp only[AOps]
  cases ho:ops[i]? with
  |none=>rw[ho] at k;exact zja hd rest ts' h' g' σ' vts' vh' a k
  |some o=>
   rw[ho] at k
   simp only at k ⊢
   split at k
   ·rename_i hw
    rw[zes (a.len▸hd) a.t hw]
    simp only[if_true]
    exact(k lo g' σ' h' ts' a.t a.len a.s a.base).mono fun ts2 h2 ⟨g2,σ2,vts2,vh2,c,k2⟩=>zja hd rest ts2 h2 g2 σ2 vts2 vh2 (a.trans c) k2
   ·rename_i hw
    rw[zes (a.len▸hd) a.t hw]
    simp only[Bool.false_eq_true,if_false]
    obtain⟨g1,g2⟩:=zeb (Fz.le_refl g') (Nat.le_refl _) (fun _ _=>rfl) a.t o.dst (a.len▸k.1) (.fr _ _ zej)
    exact zja hd rest _ h' g' σ' _ vh' ⟨g1,g2.trans a.len,a.s,a.le,a.agree,a.f,a.base,a.own⟩ k.2
   exact k.elim
def zlo (N:Nat)(ops:Array Oper):Bool:=ops.toList.all fun o=>zc1 N o.dst
theorem zik {N:Nat}{ops:Array Oper}(h:zlo N ops=true):∀d∈(ops.toList.filterMap (·.dst)),d<N:=fun d hd=>by
 rw[List.mem_filterMap] at hd
 obtain⟨o,ho,hd⟩:=hd
 have:=(List.all_eq_true.1 h) o ho
 rw[hd] at this
 simpa[zc1] using this
theorem VW.region {id:Nat}{ops:Array Oper}(hd:zlo N ops=true)(hk:VOps P N b ops (Q .normal) (List.range ops.size) vts vh):VW P N b (.region id ops false) Q vts vh:=fun lo g σ h ts ht hn s hb=>
 .region (zja (zik hd) _ ts h g σ vts vh (.refl ht hn s hb) hk)
def vrun (P:Program)(N:Nat)(ops:Array Oper):List Nat→VTs→zab→Option (VTs×zab)
 |[],vts,vh=>some (vts,vh)
 |i::r,vts,vh=>match ops[i]? with
  |none=>none
  |some o=>match zaz ops o vts with
   |some true=>match vop P vts vh o.op with
    |some (v,vh')=>vrun P N ops r (tput vts o.dst v) vh'
    |none=>none
   |some false=>vrun P N ops r (tput vts o.dst (.tup [])) vh
   |none=>none
theorem VOps.run {ops:Array Oper}(hd:zlo N ops=true){K:VTs→zab→Prop}:∀ {l r:List Nat} {vts vts':VTs} {vh vh':zab},vrun P N ops l vts vh=some (vts',vh')→VOps P N b ops K r vts' vh'→VOps P N b ops K (l++r) vts vh
 |[],r,vts,vts',vh,vh',hr,hk=>by
  simp only[vrun,xfm,xfn] at hr
  obtain⟨rfl,rfl⟩:=hr;exact hk
 |i::l,r,vts,vts',vh,vh',hr,hk=>by
  simp only[vrun] at hr
  simp only[List.cons_append,VOps]
  cases ho:ops[i]? with
  |none=>rw[ho] at hr;cases hr
  |some o=>
   rw[ho] at hr
   simp only at hr ⊢
   have hdo:zc1 N o.dst=true:=(List.all_eq_true.1 hd) o (by have:=Array.mem_of_getElem? ho;simpa using this)
   split at hr
   ·split at hr
    ·rename_i v vh1 hv
     exact .op hv hdo (VOps.run hd hr hk)
    cases hr
   ·exact⟨hdo,VOps.run hd hr hk⟩
   cases hr
theorem VW.run {id:Nat}{ops:Array Oper}{vts':VTs}{vh':zab}(hd:zlo N ops=true)(hr:vrun P N ops (List.range ops.size) vts vh=some (vts',vh'))(hk:Q .normal vts' vh'):VW P N b (.region id ops false) Q vts vh:=
 .region hd (by have:=VOps.run (b:=b) (K:=Q .normal) (r:=[]) hd hr hk;rwa [List.append_nil] at this)
def zbu (P:Program)(vts:VTs)(vh:zab):ResultVar→Option PV
 |.tmp t=>tget t vts
 |.cell a t=>match tget a vts with
  |some p=>zdu P vh t p
  |none=>none
def za0 (P:Program)(vts:VTs)(vh:zab):List ResultVar→Option (List PV)
 |[]=>some []
 |x::r=>match zbu P vts vh x,za0 P vts vh r with
  |some v,some l=>some (v::l)
  |_,_=>none
def za1 (l:List PV):PV:=
 match l with
 |[v]=>v
 |l=>.tup l
theorem zmc {lo:Nat}{g:Fz}{σ:Sg}{h:zaa}{ts:Tmps}(ht:VT g σ vh.next vts ts)(s:VS lo g σ vh h):∀ {rs:List ResultVar} {l:List PV},za0 P vts vh rs=some l→∃l',zd8 P ts h rs=some l'∧PRs (VR g σ vh.next) l l'
 |[],l,hl=>by simp only[za0,xfm] at hl;subst hl;exact⟨[],rfl,.nil⟩
 |x::r,l,hl=>by
  simp only[za0] at hl
  split at hl
  ·rename_i v l1 h1 h2
   injection hl with hl;subst hl
   obtain⟨l',k1,k2⟩:=zmc ht s h2
   cases x with
   |tmp t=>exact⟨_::l',by simp only[zd8,zhz,k1],.cons (ht t v h1) k2⟩
   |cell a t=>
    simp only[zbu] at h1
    split at h1
    ·rename_i p hp
     obtain⟨v',g1,g2⟩:=zuw s (ht a p hp) h1
     exact⟨v'::l',by simp only[zd8,zhz,g1,k1],.cons g2 k2⟩
    cases h1
  cases hl
theorem zsg {g:Fz}{σ:Sg}{n:Nat}{l:List PV}{l':List Value}(h:PRs (VR g σ n) l l'):VR g σ n (za1 l) (zd5 l'):=by
 have tupc:∀ {l:List PV} {l':List Value},PRs (VR g σ n) l l'→VR g σ n (.tup l) (.tuple l'.toArray):=fun {l l'} h=>.tup _ _ (by simpa using h.1) fun i v v' hv hv'=>h.2 i v v' hv (by simpa using hv')
 match l,l',h with
 |[],l',h=>rw[h.zcd];exact tupc .nil
 |[v],l',h=>
  obtain⟨v',r,rfl,h1,h2⟩:=h.zax
  rw[h2.zcd];exact h1
 |v::u::r,l',h=>
  obtain⟨v',r',rfl,h1,h2⟩:=h.zax
  obtain⟨u',r2,rfl,h3,h4⟩:=h2.zax
  exact tupc (.cons h1 (.cons h3 h4))
def retV (P:Program)(fn:Func)(R:PV→zab→Prop):zfz
 |.normal,vts,vh=>∃l,za0 P vts vh fn.results.toList=some l∧R (za1 l) vh
 |.ret,vts,vh=>∃l,za0 P vts vh fn.results.toList=some l∧R (za1 l) vh
 |_,_,_=>False
def zdd:Nat→List PV→VTs
 |_,[]=>[]
 |n,v::r=>(n,v)::zdd (n+1) r
theorem zq8:∀(l:List PV) (n t:Nat),tget t (zdd n l)=if n≤t then l[t - n]? else none
 |[],n,t=>by simp[zdd,tget]
 |v::r,n,t=>by
  simp only[zdd,tget,beq_eq,zq8 r (n+1) t]
  by_cases h:t=n
  ·subst h;simp
  by_cases h2:n≤t
  ·have h3:n+1≤t:=by omega
   have h4:t - n=(t - (n+1))+1:=by omega
   simp[h,h2,h3,h4]
  have h3:¬n+1≤t:=by omega
  simp[h,h2,h3]
theorem zbj.zah {f:FuncId}{fn:Func}{c:Code}{args:List PV}{R:PV→zab→Prop}(hf:P.funcs[f]?=some fn)(hb:fn.body=some c)(hn:Nat.ble args.length fn.ntmps=true)
  (hc:VW P fn.ntmps vh.next c (retV P fn R) (zdd 0 args) vh):zbj P f args vh R:=fun lo g σ h args' ha s=>by
 have hn:args.length≤fn.ntmps:=by simpa using hn
 have hlen:(args'++List.replicate (fn.ntmps - args'.length) Go.undef).length=fn.ntmps:=by
  have:=ha.1;simp;omega
 have ht:VT g σ vh.next (zdd 0 args) (args'++List.replicate (fn.ntmps - args'.length) Go.undef):=fun t v hv=>by
  rw[zq8] at hv
  simp at hv
  obtain⟨v',h1,h2⟩:=ha.get hv
  have hlt:t<args'.length:=by
   rcases Nat.lt_or_ge t args'.length with h|h
   ·exact h
   rw[List.getElem?_eq_none h] at h1;cases h1
  have:(args'++List.replicate (fn.ntmps - args'.length) Go.undef).getD t Go.undef=v':=by
   rw[List.getD,List.getElem?_append_left hlt,h1];rfl
  rw[this];exact h2
 refine .zah hf hb ((hc lo g σ h _ ht hlen s (Nat.le_refl _)).mono fun e ts' h' ⟨g',σ',vts',vh',a,k⟩=>?_)
 have fin:(∃l,za0 P vts' vh' fn.results.toList=some l∧R (za1 l) vh')→∃l',zd8 P ts' h' fn.results.toList=some l'∧∃g' σ' v vh',VR g' σ' vh'.next v (zd5 l')∧VS lo g' σ' vh' h'∧g.le g'∧(∀i,i<vh.next→σ' i=σ i)∧VF σ vh h σ' vh' h'∧vh.next≤vh'.next∧
   GOwn g σ vh h g'∧R v vh':=fun⟨l,hl,hR⟩=>by
  obtain⟨l',k1,k2⟩:=zmc a.t a.s hl
  exact⟨l',k1,g',σ',za1 l,vh',zsg k2,a.s,a.le,a.agree,a.f,a.base,a.own,hR⟩
 cases e with
 |normal=>exact fin k
 |ret=>exact fin k
 |exit id=>exact k.elim
 |goto l=>exact k.elim
 |panic ch=>exact k.elim
 |outgrown=>exact k.elim
end
end Go.Am
end
/-
 The value machine, part J: the same state under another description; pure calls.
-/
section
namespace Go.Am
inductive Alt (vh:zab) (n2:Nat) (D:Nat→Bool) (ρ:Nat→Nat):PV→PV→Prop where
  |same (v:PV) (h:v.isF=true):Alt vh n2 D ρ v v
  |ptr (i j off:Nat) (hj:j<n2) (hi:ρ j=i):Alt vh n2 D ρ (.ptr i off) (.ptr j off)
  |own (i j off len k:Nat) (hj:j<n2) (hi:ρ j=i):Alt vh n2 D ρ (.own i off len k) (.own j off len k)
  |sub (i j off len:Nat) (hj:j<n2) (hi:ρ j=i):Alt vh n2 D ρ (.sub i off len) (.sub j off len)
  |sub0v (i off:Nat):Alt vh n2 D ρ (.sub i off 0) (.vec [])
  |ownS (i j off len k:Nat) (hj:j<n2) (hi:ρ j=i):Alt vh n2 D ρ (.own i off len k) (.sub j off len)
  |growS (i j n:Nat) (nl:Bool) (sz:Nat) (es:List PV) (hj:j<n2) (hi:ρ j=i) (hg:vh.get i=some (.grow sz es)) (hn:es.length=n) (h0:0<n):Alt vh n2 D ρ (.grow i n nl) (.sub j 0 n)
  |growSF (i j n:Nat) (nl:Bool) (es:List PV) (hj:j<n2) (hi:ρ j=i) (hg:vh.get i=some (.fgrow es)) (hn:es.length=n):Alt vh n2 D ρ (.grow i n nl) (.sub j 0 n)
  |grow (i j n:Nat) (nl:Bool) (hj:j<n2) (hi:ρ j=i):Alt vh n2 D ρ (.grow i n nl) (.grow j n nl)
  |mapv (i j:Nat) (hj:j<n2) (hi:ρ j=i):Alt vh n2 D ρ (.mapv i) (.mapv j)
  |yld (i j:Nat) (hj:j<n2) (hi:ρ j=i):Alt vh n2 D ρ (.yld i) (.yld j)
  |grow0 (i j:Nat) (nl:Bool):Alt vh n2 D ρ (.grow i 0 nl) (.grow j 0 nl)
  |sl0 (j:Nat) (nl:Bool):Alt vh n2 D ρ .sl0 (.grow j 0 nl)
  |e0 (j:Nat):Alt vh n2 D ρ .e0 (.grow j 0 false)
  |own0 (i j off:Nat):Alt vh n2 D ρ (.own i off 0 0) (.grow j 0 false)
  |sl0v:Alt vh n2 D ρ .sl0 (.vec [])
  |e0v:Alt vh n2 D ρ .e0 (.vec [])
  |own0v (i off k:Nat):Alt vh n2 D ρ (.own i off 0 k) (.vec [])
  |grow0v (i:Nat) (nl:Bool):Alt vh n2 D ρ (.grow i 0 nl) (.vec [])
  |grow0s (i:Nat):Alt vh n2 D ρ (.grow i 0 true) .sl0
  |fown (i off len k:Nat) (ag:Bool) (sz:Nat) (cs es:List PV) (hD:D i=true) (hg:vh.get i=some (.arr ag sz cs)) (he:zbz vh sz (.own i off len k)=some es):Alt vh n2 D ρ (.own i off len k) (.vec es)
  |fsub (i off len:Nat) (ag:Bool) (sz:Nat) (cs es:List PV) (hD:D i=true) (hg:vh.get i=some (.arr ag sz cs)) (he:zbz vh sz (.sub i off len)=some es):Alt vh n2 D ρ (.sub i off len) (.vec es)
  |fgrow (i n:Nat) (nl:Bool) (sz:Nat) (es:List PV) (hD:D i=true) (hg:vh.get i=some (.grow sz es)) (hn:es.length=n):Alt vh n2 D ρ (.grow i n nl) (.vec es)
  |fptr (i off:Nat) (cs:List PV) (hD:D i=true) (hg:vh.get i=some (.box cs)) (hf:PV.allF cs=true) (hle:off≤cs.length):Alt vh n2 D ρ (.ptr i off) (.vp (cs.drop off))
  |fptrA (i off:Nat) (ag:Bool) (sz:Nat) (cs:List PV) (hD:D i=true) (hg:vh.get i=some (.arr ag sz cs)) (hle:off≤cs.length):Alt vh n2 D ρ (.ptr i off) (.vp (cs.drop off))
  |fmap (i:Nat) (es:List (PV×PV)) (hD:D i=true) (hg:vh.get i=some (.map es)):Alt vh n2 D ρ (.mapv i) (.vmap es)
  |agg (cs cs2:List PV) (hs:cs.length=cs2.length) (r:∀(i:Nat) v v2,cs[i]?=some v→cs2[i]?=some v2→Alt vh n2 D ρ v v2):Alt vh n2 D ρ (.agg cs) (.agg cs2)
  |tup (cs cs2:List PV) (hs:cs.length=cs2.length) (r:∀(i:Nat) v v2,cs[i]?=some v→cs2[i]?=some v2→Alt vh n2 D ρ v v2):Alt vh n2 D ρ (.tup cs) (.tup cs2)
  |func (f:FuncId) (xs ys xs2 ys2:List PV) (hx:xs.length=xs2.length) (hy:ys.length=ys2.length) (rx:∀(i:Nat) v v2,xs[i]?=some v→xs2[i]?=some v2→Alt vh n2 D ρ v v2)
      (ry:∀(i:Nat) v v2,ys[i]?=some v→ys2[i]?=some v2→Alt vh n2 D ρ v v2):Alt vh n2 D ρ (.func f xs ys) (.func f xs2 ys2)
def AltL (vh:zab)(n2:Nat)(D:Nat→Bool)(ρ:Nat→Nat)(l l2:List PV):Prop:=l.length=l2.length∧∀(i:Nat) v v2,l[i]?=some v→l2[i]?=some v2→Alt vh n2 D ρ v v2
theorem AltL.nil {vh:zab}{n2:Nat}{D:Nat→Bool}{ρ:Nat→Nat}:AltL vh n2 D ρ [] []:=⟨rfl,fun i v v2 h=>by simp at h⟩
theorem AltL.cons {vh:zab}{n2:Nat}{D:Nat→Bool}{ρ:Nat→Nat}{v v2:PV}{l l2:List PV}(h:Alt vh n2 D ρ v v2)(hl:AltL vh n2 D ρ l l2):AltL vh n2 D ρ (v::l) (v2::l2):=by
 refine⟨by simp[hl.1],fun i u u2 hu hu2=>?_⟩
 cases i with
 |zero=>simp at hu hu2;subst hu;subst hu2;exact h
 |succ i=>simp at hu hu2;exact hl.2 i u u2 hu hu2
theorem Alt.agg' {vh:zab}{n2:Nat}{D:Nat→Bool}{ρ:Nat→Nat}{l l2:List PV}(h:AltL vh n2 D ρ l l2):Alt vh n2 D ρ (.agg l) (.agg l2):=.agg _ _ h.1 h.2
theorem Alt.tup' {vh:zab}{n2:Nat}{D:Nat→Bool}{ρ:Nat→Nat}{l l2:List PV}(h:AltL vh n2 D ρ l l2):Alt vh n2 D ρ (.tup l) (.tup l2):=.tup _ _ h.1 h.2
theorem Alt.func' {vh:zab}{n2:Nat}{D:Nat→Bool}{ρ:Nat→Nat}{f:FuncId}{l l2 r r2:List PV}(h:AltL vh n2 D ρ l l2)(h':AltL vh n2 D ρ r r2):Alt vh n2 D ρ (.func f l r) (.func f l2 r2):=.func _ _ _ _ _ h.1 h'.1 h.2 h'.2
noncomputable def Fz.more (g:Fz)(σ:Sg)(vh:zab)(h:zaa)(D:Nat→Bool):Fz:=fun o=>
 open Classical in if ∃i x,D i=true∧vh.get i=some x∧x.live=true∧(σ i).1=o then h.get o else g o
section
variable {lo:Nat} {g:Fz} {σ:Sg} {vh:zab} {h:zaa} {D:Nat→Bool} {ρ:Nat→Nat} {n2:Nat}
theorem zew (s:VS lo g σ vh h):g.le (g.more σ vh h D):=fun o x hx=>by
 unfold Fz.more
 split
 ·rename_i hc
  obtain⟨i,y,h1,h2,h3,h4⟩:=hc
  have:=s.dis i y h2 h3
  rw[h4,hx] at this;cases this
 exact hx
theorem zig {i:Nat}{x:VObj}(hD:D i=true)(hx:vh.get i=some x)(hl:x.live=true):g.more σ vh h D (σ i).1=h.get (σ i).1:=by
 unfold Fz.more
 rw[if_pos ⟨i,x,hD,hx,hl,rfl⟩]
theorem zky (s:VS lo g σ vh h):∀o x,g.more σ vh h D o=some x→h.get o=some x:=fun o x hx=>by
 unfold Fz.more at hx
 split at hx
 ·exact hx
 exact s.fz o x hx
theorem zjz:GOwn g σ vh h (g.more σ vh h D):=fun o x hx _=>by
 unfold Fz.more at hx
 split at hx
 ·rename_i hc
  obtain⟨i,y,h1,h2,h3,h4⟩:=hc
  exact .inr ⟨i,y,h2,h3,h4⟩
 exact .inl hx
theorem zi6 {v':Value}{f:FuncId}{xs ys:List PV}{n:Nat}(hv:VR g σ n (.func f xs ys) v'):∃xs' ys':Array Value,v'=.func (.func f) xs' ys'∧PRs (VR g σ n) xs xs'.toList∧PRs (VR g σ n) ys ys'.toList:=by
 cases hv with
 |fr _ _ h=>cases h with
  |func _ _ _ xs' ys' hx hy rx ry=>exact⟨xs',ys',rfl,⟨by simpa using hx,fun i v v' hv hv'=>.fr _ _ (rx i v v' hv (by simpa using hv'))⟩,⟨by simpa using hy,fun i v v' hv hv'=>.fr _ _ (ry i v v' hv (by simpa using hv'))⟩⟩
 |func _ _ _ xs' ys' hx hy rx ry=>exact⟨xs',ys',rfl,⟨by simpa using hx,fun i v v' hv hv'=>rx i v v' hv (by simpa using hv')⟩,⟨by simpa using hy,fun i v v' hv hv'=>ry i v v' hv (by simpa using hv')⟩⟩
theorem zjs {R:PV→Value→Prop}{R2:PV→Value→Prop}{l l2:List PV}{l':List Value}(hp:PRs R l l')(hs:l.length=l2.length)(ih:∀(i:Nat) v v2,l[i]?=some v→l2[i]?=some v2→∀v',R v v'→R2 v2 v'):PRs R2 l2 l':=
 ⟨hs▸hp.1,fun i v2 v' hv2 hv'=>by
  have hlt:i<l2.length:=by
   rcases Nat.lt_or_ge i l2.length with h|h
   ·exact h
   rw[List.getElem?_eq_none h] at hv2;cases hv2
  have hlt':i<l.length:=hs▸hlt
  exact ih i l[i] v2 (by simp[hlt']) hv2 v' (hp.2 i l[i] v' (by simp[hlt']) hv')⟩
theorem Alt.ok (s:VS lo g σ vh h){v v2:PV}(ha:Alt vh n2 D ρ v v2):∀v',VR g σ vh.next v v'→VR (g.more σ vh h D) (fun j=>σ (ρ j)) n2 v2 v':=by
 induction ha with
 |same v hf=>exact fun v' hv=>.fr _ _ ((hv.isF hf).mono (zew s))
 |ptr i j off hj hi=>
  intro v' hv
  cases hv with
  |fr _ _ h=>cases h
  |ptr _ _ o a k hi' hs=>exact .ptr j off o a k hj (by rw[hi];exact hs)
 |own i j off len k hj hi=>
  intro v' hv
  cases hv with
  |fr _ _ h=>cases h
  |own _ _ _ _ o a kk hi' hs hl hk=>exact .own j off len k o a kk hj (by rw[hi];exact hs) hl hk
 |sub i j off len hj hi=>
  intro v' hv
  cases hv with
  |fr _ _ h=>cases h
  |sub _ _ _ k o a kk hi' hs hl hk=>exact .sub j off len k o a kk hj (by rw[hi];exact hs) hl hk
 |sub0v i off=>
  intro v' hv
  cases hv with
  |fr _ _ h=>cases h
  |sub=>exact .fr _ _ (.vec0 _ _ _)
 |ownS i j off len k hj hi=>
  intro v' hv
  cases hv with
  |fr _ _ h=>cases h
  |own _ _ _ _ o a kk hi' hs hl hk=>exact .sub j off len k o a kk hj (by rw[hi];exact hs) hl (by simp only[inex] at hk;simp only[unk];omega)
 |growS i j n nl sz es hj hi hg hn h0=>
  intro v' hv
  obtain⟨_,_,q2,q3⟩:=(s.obj i _ hg).2
  cases hv with
  |fr _ _ h=>cases h
  |growN=>omega
  |grow0=>omega
  |grow _ _ o a k _ hi' hs hn'=>
   have hes:es≠[]:=by rintro rfl;simp at hn;omega
   rcases q3 with rfl|⟨s0,cs',_,q5,_,q6⟩
   ·exact absurd rfl hes
   rw[hs] at q5 q6;simp only at q5 q6
   subst q5
   have hk:n≤k∧k+n<unk:=by
    simp only[inex] at q2 q6;simp only[unk]
    rcases q6 with⟨h1,_⟩|h1<;>omega
   have:=VR.sub (g:=g.more σ vh h D) (σ:=fun j=>σ (ρ j)) (n:=n2) j 0 n k o 0 k hj (by rw[hi];exact hs) hk.1 hk.2
   simpa using this
 |growSF i j n nl es hj hi hg hn=>
  intro v' hv
  obtain⟨q0,_,q2,s0,cs',_,q5,_,q6⟩:=(s.obj i _ hg).2
  have h0:0<n:=by rw[← hn];exact List.length_pos_iff.2 q0
  cases hv with
  |fr _ _ h=>cases h
  |growN=>omega
  |grow0=>omega
  |grow _ _ o a k _ hi' hs hn'=>
   rw[hs] at q5 q6;simp only at q5 q6
   subst q5
   have hk:n≤k∧k+n<unk:=by
    simp only[inex] at q2 q6;simp only[unk]
    rcases q6 with⟨h1,_⟩|h1<;>omega
   have:=VR.sub (g:=g.more σ vh h D) (σ:=fun j=>σ (ρ j)) (n:=n2) j 0 n k o 0 k hj (by rw[hi];exact hs) hk.1 hk.2
   simpa using this
 |grow i j n nl hj hi=>
  intro v' hv
  cases hv with
  |fr _ _ h=>cases h
  |growN=>exact .growN _ _
  |grow0=>exact .grow0 _ _ _
  |grow _ _ o a k _ hi' hs hn=>exact .grow j n o a k nl hj (by rw[hi];exact hs) hn
 |mapv i j hj hi=>
  intro v' hv
  cases hv with
  |fr _ _ h=>cases h
  |mapv _ o a k hi' hs=>exact .mapv j o a k hj (by rw[hi];exact hs)
 |yld i j hj hi=>
  intro v' hv
  cases hv with
  |fr _ _ h=>cases h
  |yld _ o a k hi' hs=>exact .yld j o a k hj (by rw[hi];exact hs)
 |grow0 i j nl=>
  intro v' hv
  cases hv with
  |fr _ _ h=>cases h
  |growN=>exact .growN _ _
  |grow0=>exact .grow0 _ _ _
  |grow _ _ _ _ _ _ _ _ hn=>omega
 |sl0 j nl=>intro v' hv;have:=hv.isF rfl;cases this;exact .growN _ _
 |e0 j=>
  intro v' hv
  have:=hv.isF rfl
  cases this with
  |e0N=>exact .growN _ _
  |e0 o off=>exact .grow0 _ _ _
 |own0 i j off=>
  intro v' hv
  cases hv with
  |fr _ _ h=>cases h
  |own=>exact .grow0 _ _ _
 |sl0v=>intro v' hv;have:=hv.isF rfl;cases this;exact .fr _ _ .vecN
 |e0v=>
  intro v' hv
  have:=hv.isF rfl
  cases this with
  |e0N=>exact .fr _ _ .vecN
  |e0 o off=>exact .fr _ _ (.vec0 _ _ _)
 |own0v i off k=>
  intro v' hv
  cases hv with
  |fr _ _ h=>cases h
  |own=>exact .fr _ _ (.vec0 _ _ _)
 |grow0v i nl=>
  intro v' hv
  cases hv with
  |fr _ _ h=>cases h
  |growN=>exact .fr _ _ .vecN
  |grow0=>exact .fr _ _ (.vec0 _ _ _)
  |grow _ _ _ _ _ _ _ _ hn=>omega
 |grow0s i=>
  intro v' hv
  cases hv with
  |fr _ _ h=>cases h
  |growN=>exact .fr _ _ .sl0
  |grow _ _ _ _ _ _ _ _ hn=>omega
 |fown i off len k ag sz cs es hD hg he=>
  intro v' hv
  have hmg:=zig (g:=g) (σ:=σ) (h:=h) (D:=D) hD hg rfl
  obtain⟨h0,s0,cs',h1,h2,h3⟩:=(s.obj i _ hg).2
  obtain⟨g1,g2,g3⟩:=zgt s h0 hv he
  obtain⟨xs',g4,g5⟩:=g3 es.length (Nat.le_refl _)
  rw[List.take_length] at g5
  have g5:=g5.mono fun _ _ h=>FR.mono (zew (D:=D) s) h
  cases hv with
  |fr _ _ h=>cases h
  |own _ _ _ _ o a kk hi hs hl hk=>
   rw[hs] at h1 h2 hmg;simp only at h1 h2 hmg;subst h2
   simp only[alen,xfm] at g1
   subst g1
   by_cases hz:es.length=0
   ·have:=List.eq_nil_of_length_eq_zero hz
    subst this
    exact .fr _ _ (.vec0 _ _ _)
   have hq:Nat.beq es.length 0=false:=by rw[beq_eq];simpa using hz
   simp only[zdp,hq,xfq,h1] at g4
   cases hb:Nat.ble (0+off+es.length*sz) cs'.length with
   |false=>rw[hb] at g4;cases g4
   |true=>
    rw[hb] at g4;simp only[xfp,xfm] at g4
    have hb:0+off+es.length*sz≤cs'.length:=by simpa using hb
    subst g4
    have hun:=zgs g2 g5
    have hku:k+es.length<unk:=by
     have h1:k<4611686018427387904:=hk
     show k+es.length<9223372036854775808
     omega
    refine .fr _ _ (.vec es o (0+off) k s0 sz cs' hl hku (by rw[hmg];exact h1) h0 (fun i e he=>g2 e (List.mem_of_getElem? he)) hb fun i e j v v' he hv hv'=>hun i e j v v' he hv ?_)
    have hi:i<es.length:=by
     rcases Nat.lt_or_ge i es.length with h|h
     ·exact h
     rw[List.getElem?_eq_none h] at he;cases he
    have hj:j<sz:=by
     rw[← g2 e (List.mem_of_getElem? he)]
     rcases Nat.lt_or_ge j e.cells.length with h|h
     ·exact h
     rw[List.getElem?_eq_none h] at hv;cases hv
    have hij:i*sz+j<es.length*sz:=by
     have:i*sz+sz≤es.length*sz:=by rw[← Nat.succ_mul];exact Nat.mul_le_mul_right _ hi
     omega
    rw[List.getElem?_take,if_pos hij,List.getElem?_drop,show 0+off+(i*sz+j)=0+off+i*sz+j by omega]
    exact hv'
 |fsub i off len ag sz cs es hD hg he=>
  intro v' hv
  have hmg:=zig (g:=g) (σ:=σ) (h:=h) (D:=D) hD hg rfl
  obtain⟨h0,s0,cs',h1,h2,h3⟩:=(s.obj i _ hg).2
  obtain⟨g1,g2,g3⟩:=zgt s h0 hv he
  obtain⟨xs',g4,g5⟩:=g3 es.length (Nat.le_refl _)
  rw[List.take_length] at g5
  have g5:=g5.mono fun _ _ h=>FR.mono (zew (D:=D) s) h
  cases hv with
  |fr _ _ h=>cases h
  |sub _ _ _ k o a kk hi hs hl hk=>
   rw[hs] at h1 h2 hmg;simp only at h1 h2 hmg;subst h2
   simp only[alen,xfm] at g1
   subst g1
   by_cases hz:es.length=0
   ·have:=List.eq_nil_of_length_eq_zero hz
    subst this
    exact .fr _ _ (.vec0 _ _ _)
   have hq:Nat.beq es.length 0=false:=by rw[beq_eq];simpa using hz
   simp only[zdp,hq,xfq,h1] at g4
   cases hb:Nat.ble (0+off+es.length*sz) cs'.length with
   |false=>rw[hb] at g4;cases g4
   |true=>
    rw[hb] at g4;simp only[xfp,xfm] at g4
    have hb:0+off+es.length*sz≤cs'.length:=by simpa using hb
    subst g4
    have hun:=zgs g2 g5
    have hku:k+es.length<unk:=hk
    refine .fr _ _ (.vec es o (0+off) k s0 sz cs' hl hku (by rw[hmg];exact h1) h0 (fun i e he=>g2 e (List.mem_of_getElem? he)) hb fun i e j v v' he hv hv'=>hun i e j v v' he hv ?_)
    have hi:i<es.length:=by
     rcases Nat.lt_or_ge i es.length with h|h
     ·exact h
     rw[List.getElem?_eq_none h] at he;cases he
    have hj:j<sz:=by
     rw[← g2 e (List.mem_of_getElem? he)]
     rcases Nat.lt_or_ge j e.cells.length with h|h
     ·exact h
     rw[List.getElem?_eq_none h] at hv;cases hv
    have hij:i*sz+j<es.length*sz:=by
     have:i*sz+sz≤es.length*sz:=by rw[← Nat.succ_mul];exact Nat.mul_le_mul_right _ hi
     omega
    rw[List.getElem?_take,if_pos hij,List.getElem?_drop,show 0+off+(i*sz+j)=0+off+i*sz+j by omega]
    exact hv'
 |fgrow i n nl sz es hD hg hn=>
  intro v' hv
  subst hn
  obtain⟨h0,hcl,hin,hor⟩:=(s.obj i _ hg).2
  by_cases hz:es=[]
  ·subst hz
   cases hv with
   |fr _ _ h=>cases h
   |growN=>exact .fr _ _ .vecN
   |grow0=>exact .fr _ _ (.vec0 _ _ _)
   |grow _ _ _ _ _ _ _ _ hn=>simp at hn
  have hlive:(VObj.grow sz es).live=true:=by
   cases es with
   |nil=>exact absurd rfl hz
   |cons=>rfl
  have hmg:=zig (g:=g) (σ:=σ) (h:=h) (D:=D) hD hg hlive
  rcases hor with rfl|⟨s0,cs',h1,h2,h3,h4⟩
  ·exact absurd rfl hz
  have h3:=h3.mono fun _ _ h=>FR.mono (zew (D:=D) s) h
  have hlen:0<es.length:=by
   cases es with
   |nil=>exact absurd rfl hz
   |cons=>simp
  generalize hm:es.length=m at hv
  cases hv with
  |fr _ _ h=>cases h
  |growN=>omega
  |grow0=>omega
  |grow _ _ o a k _ hi hs hn=>
   subst hm
   rw[hs] at h1 h2 h4 hmg;simp only at h1 h2 h4 hmg;subst h2
   have hfl:=zdz hcl
   have hun:=zgs hcl h3
   have hin':es.length<4611686018427387904:=hin
   have hk:es.length≤k∧k+es.length<unk:=by
    show es.length≤k∧k+es.length<9223372036854775808
    rcases h4 with⟨rfl,_⟩|rfl
    ·show es.length≤4611686018427387904∧4611686018427387904+es.length<9223372036854775808
     omega
    omega
   exact .fr _ _ (.vec es o 0 k s0 sz cs' hk.1 hk.2 (by rw[hmg];exact h1) h0 (fun i e he=>hcl e (List.mem_of_getElem? he)) (by rw[← hfl,h3.1];omega) fun i e j v v' he hv hv'=>hun i e j v v' he hv (by rw[Nat.zero_add] at hv';exact hv'))
 |fptr i off cs hD hg hf hle=>
  intro v' hv
  have hmg:=zig (g:=g) (σ:=σ) (h:=h) (D:=D) hD hg rfl
  obtain⟨s0,cs',h1,h2,h3⟩:=(s.obj i _ hg).2
  have h3:=(h3.isF hf).mono fun _ _ h=>FR.mono (zew (D:=D) s) h
  cases hv with
  |fr _ _ h=>cases h
  |ptr _ _ o a k hi hs=>
   rw[hs] at h1 h2 hmg;simp only at h1 h2 hmg;subst h2
   exact .fr _ _ (zkl (by rw[hmg];exact h1) (by rw[h3.1];omega) (fun j v v' hv hv'=>h3.2 j v v' hv (by rw[Nat.zero_add] at hv';exact hv')) hle)
 |fptrA i off ag sz cs hD hg hle=>
  intro v' hv
  have hmg:=zig (g:=g) (σ:=σ) (h:=h) (D:=D) hD hg rfl
  obtain⟨h0,s0,cs',h1,h2,h3⟩:=(s.obj i _ hg).2
  have h3:=h3.mono fun _ _ h=>FR.mono (zew (D:=D) s) h
  cases hv with
  |fr _ _ h=>cases h
  |ptr _ _ o a k hi hs=>
   rw[hs] at h1 h2 hmg;simp only at h1 h2 hmg;subst h2
   exact .fr _ _ (zkl (by rw[hmg];exact h1) (by rw[h3.1];omega) (fun j v v' hv hv'=>h3.2 j v v' hv (by rw[Nat.zero_add] at hv';exact hv')) hle)
 |fmap i es hD hg=>
  intro v' hv
  have hmg:=zig (g:=g) (σ:=σ) (h:=h) (D:=D) hD hg rfl
  obtain⟨es',h1,h2,h3,h4⟩:=(s.obj i _ hg).2
  have h3:=h3.mono fun _ _ h=>FR.mono (zew (D:=D) s) h
  have h4:=h4.mono fun _ _ h=>FR.mono (zew (D:=D) s) h
  cases hv with
  |fr _ _ h=>cases h
  |mapv _ o a k hi hs=>
   rw[hs] at h1 hmg;simp only at h1 hmg
   exact .fr _ _ (z1j h3 h4 (by rw[hmg];exact h1))
 |agg cs cs2 hs _ ih=>
  intro v' hv
  obtain⟨cs',rfl,hc⟩:=zkt hv
  have:=zoi (zjs hc hs ih)
  simpa using this
 |tup cs cs2 hs _ ih=>
  intro v' hv
  obtain⟨cs',rfl,hc⟩:=zkm hv
  have:=zjs hc hs ih
  exact .tup _ _ (by simpa using this.1) fun i v v' hv hv'=>this.2 i v v' hv (by simpa using hv')
 |func f xs ys xs2 ys2 hx hy _ _ ihx ihy=>
  intro v' hv
  obtain⟨xs',ys',rfl,h1,h2⟩:=zi6 hv
  have k1:=zjs h1 hx ihx
  have k2:=zjs h2 hy ihy
  exact .func _ _ _ _ _ (by simpa using k1.1) (by simpa using k2.1) (fun i v v' hv hv'=>k1.2 i v v' hv (by simpa using hv')) (fun i v v' hv hv'=>k2.2 i v v' hv (by simpa using hv'))
theorem AltL.ok (s:VS lo g σ vh h){l l2:List PV}(ha:AltL vh n2 D ρ l l2){l':List Value}(hl:PRs (VR g σ vh.next) l l'):PRs (VR (g.more σ vh h D) (fun j=>σ (ρ j)) n2) l2 l':=
 zjs hl ha.1 fun i v v2 hv hv2=>(ha.2 i v v2 hv hv2).ok s
def AltT (vts:VTs)(vh:zab)(n2:Nat)(D:Nat→Bool)(ρ:Nat→Nat):VTs→Prop
 |[]=>True
 |(t,v2)::r=>(∃v,tget t vts=some v∧Alt vh n2 D ρ v v2)∧AltT vts vh n2 D ρ r
theorem AltT.get {vts:VTs}{vh:zab}{n2:Nat}{D:Nat→Bool}{ρ:Nat→Nat}:∀ {vts2:VTs},AltT vts vh n2 D ρ vts2→∀t v2,tget t vts2=some v2→∃v,tget t vts=some v∧Alt vh n2 D ρ v v2
 |[],_,t,v,h=>by simp[tget] at h
 |(u,w)::r,hs,t,v,h=>by
  simp only[tget,beq_eq] at h
  by_cases htu:t=u
  ·subst htu;simp at h;subst h;exact hs.1
  simp[htu] at h;exact AltT.get hs.2 t v h
theorem z0r {es:List PV}(h:∀e∈es,e.cells=[e]):es.flatMap PV.cells=es:=by
 induction es with
 |nil=>rfl
 |cons e r ih=>rw[List.flatMap_cons,h e (List.mem_cons_self ..),ih fun x hx=>h x (List.mem_cons_of_mem _ hx)];rfl
structure zp3 (vh:zab) (n2:Nat) (D:Nat→Bool) (ρ:Nat→Nat) (N N2:Nat) (ps ps2:Array Tmp) (a bd a2 bd2:Code) (j j2:Option Code) (vts vts2:VTs):Prop where
  n:N=N2
  p:ps=ps2
  a:a=a2
  b:bd=bd2
  j:j=j2
  t:AltT vts vh n2 D ρ vts2
def AltO (vh:zab)(n2:Nat)(D:Nat→Bool)(ρ:Nat→Nat):VObj→VObj→Prop
 |.box cs,.box cs2=>AltL vh n2 D ρ cs cs2
 |.loop N ps a bd vts j,.loop N2 ps2 a2 bd2 vts2 j2=>zp3 vh n2 D ρ N N2 ps ps2 a bd a2 bd2 j j2 vts vts2
 |.grow sz es,.arr _ sz2 cs=>sz=sz2∧(∃e r,es=e::r)∧es.flatMap PV.cells=cs
 |.grow sz es,.fgrow es2=>sz=1∧es=es2∧es≠[]∧∀e∈es,e.cells=[e]
 |.fgrow es,.fgrow es2=>AltL vh n2 D ρ es es2∧∀e∈es2,e.cells=[e]
 |.fgrow es,.box cs=>AltL vh n2 D ρ es cs
 |.box cs,.arr _ sz cs2=>0<sz∧AltL vh n2 D ρ cs cs2∧PV.allF cs2=true
 |.fmap es,.fmap es2=>es.map (·.1)=es2.map (·.1)∧AltL vh n2 D ρ (es.map (·.2)) (es2.map (·.2))
 |x,y=>x=y
structure AltS (b:Nat) (D:Nat→Bool) (ρ:Nat→Nat) (vts:VTs) (vh:zab) (vts2:VTs) (vh2:zab):Prop where
  tmps:∀t v2,tget t vts2=some v2→∃v,tget t vts=some v∧Alt vh vh2.next D ρ v v2
  objs:∀j y,vh2.get j=some y→j<vh2.next∧((∃sz,y=.grow sz []∧0<sz)∨D (ρ j)=false∧∃x,vh.get (ρ j)=some x∧AltO vh vh2.next D ρ x y)
  inj:∀j k y z,vh2.get j=some y→vh2.get k=some z→y.live=true→z.live=true→ρ j=ρ k→j=k
  base:∀j,j<b→ρ j=j
  bnd:b≤vh2.next
theorem AltS.sim {N b:Nat}{vts vts2:VTs}{vh2:zab}{ts:Tmps}(a:AltS b D ρ vts vh vts2 vh2)(ht:VT g σ vh.next vts ts)(hn:ts.length=N)(s:VS lo g σ vh h) :
  SimR N b lo g σ vh h ts h (g.more σ vh h D) (fun j=>σ (ρ j)) vts2 vh2:=by
 have live:∀j y,vh2.get j=some y→y.live=true→D (ρ j)=false∧∃x,vh.get (ρ j)=some x∧AltO vh vh2.next D ρ x y∧x.live=true:=fun j y hy hl=>by
  rcases (a.objs j y hy).2 with⟨sz,rfl,_⟩|⟨h1,x,h2,h3⟩
  ·cases hl
  refine⟨h1,x,h2,h3,?_⟩
  cases x with
  |box cs=>rfl
  |arr ag sz cs=>rfl
  |map es=>rfl
  |fmap es=>rfl
  |emap es=>rfl
  |fgrow es=>rfl
  |loop=>rfl
  |grow sz es=>
   cases y with
   |arr ag sz2 cs=>
    obtain⟨_,⟨e,r,rfl⟩,_⟩:=(h3:sz=sz2∧(∃e r,es=e::r)∧es.flatMap PV.cells=cs)
    rfl
   |fgrow es2=>
    obtain⟨_,_,h0,_⟩:=(h3:sz=1∧es=es2∧es≠[]∧∀e∈es,e.cells=[e])
    cases es with
    |nil=>exact absurd rfl h0
    |cons=>rfl
   |box=>cases h3
   |map=>cases h3
   |emap=>cases h3
   |fmap=>cases h3
   |loop=>cases h3
   |grow sz2 es2=>
    have h3:VObj.grow sz es=VObj.grow sz2 es2:=h3
    rw[h3];exact hl
 refine⟨fun t v2 hv2=>?_,hn,⟨fun j y hy=>?_,fun j k y z hy hz hly hlz he=>?_,fun j y hy hl=>?_,zky s,fun j y hy hl=>?_,s.lole⟩,zew s,fun i hi=>by simp only[a.base i hi],⟨Nat.le_refl _,fun _ _ _=>rfl,fun j y hy hl _=>?_⟩,a.bnd,zjz⟩
 ·obtain⟨v,h1,h2⟩:=a.tmps t v2 hv2
  exact h2.ok s _ (ht t v h1)
 ·obtain⟨hj,h1⟩:=a.objs j y hy
  refine⟨hj,?_⟩
  rcases h1 with⟨sz,rfl,hsz⟩|⟨h1,x,h2,h3⟩
  ·exact⟨hsz,by simp,by decide,.inl rfl⟩
  have hx:=(s.obj (ρ j) x h2).2
  have hle:=zew (D:=D) s
  cases x with
  |box cs=>
   cases y with
   |box cs2=>
    obtain⟨s0,cs',k1,k2,k3⟩:=hx
    exact⟨s0,cs',k1,k2,AltL.ok s h3 k3⟩
   |arr ag sz cs2=>
    obtain⟨e0,e1,e2⟩:=(h3:0<sz∧AltL vh vh2.next D ρ cs cs2∧PV.allF cs2=true)
    obtain⟨s0,cs',k1,k2,k3⟩:=hx
    exact⟨e0,s0,cs',k1,k2,(AltL.ok s e1 k3).isF e2⟩
   |fgrow=>cases h3
   |grow=>cases h3
   |map=>cases h3
   |emap=>cases h3
   |fmap=>cases h3
   |loop=>cases h3
  |arr ag sz cs=>
   have h3:VObj.arr ag sz cs=y:=h3
   subst h3
   obtain⟨h0,s0,cs',k1,k2,k3⟩:=hx
   exact⟨h0,s0,cs',k1,k2,k3.mono fun _ _ h=>h.mono hle⟩
  |grow sz es=>
   cases y with
   |arr ag sz2 cs=>
    obtain⟨rfl,⟨e,r,rfl⟩,rfl⟩:=(h3:sz=sz2∧(∃e r,es=e::r)∧es.flatMap PV.cells=cs)
    obtain⟨h0,h1,h2,hor⟩:=hx
    rcases hor with h4|⟨s0,cs',k1,k2,k3,k4⟩
    ·cases h4
    exact⟨h0,s0,cs',k1,k2,k3.mono fun _ _ h=>h.mono hle⟩
   |fgrow es2=>
    obtain⟨rfl,rfl,e1,e2⟩:=(h3:sz=1∧es=es2∧es≠[]∧∀e∈es,e.cells=[e])
    obtain⟨h0,h1,h2,hor⟩:=hx
    rcases hor with h4|⟨s0,cs',k1,k2,k3,k4⟩
    ·exact absurd h4 e1
    exact⟨e1,e2,h2,s0,cs',k1,k2,((z0r e2▸k3:PRs (FR g) es cs').mono fun _ _ h=>h.mono hle).vr,k4⟩
   |box=>cases h3
   |map=>cases h3
   |emap=>cases h3
   |fmap=>cases h3
   |loop=>cases h3
   |grow sz2 es2=>
   have h3:VObj.grow sz es=VObj.grow sz2 es2:=h3
   injection h3 with h3 h4
   subst h3;subst h4
   obtain⟨h0,h1,h2,hor⟩:=hx
   exact⟨h0,h1,h2,hor.imp_right fun⟨s0,cs',k1,k2,k3,k4⟩=>⟨s0,cs',k1,k2,k3.mono fun _ _ h=>h.mono hle,k4⟩⟩
  |fgrow es=>
   obtain⟨h0,h1,h2,s0,cs',k1,k2,k3,k4⟩:=hx
   cases y with
   |fgrow es2=>
    obtain⟨e1,e2⟩:=(h3:AltL vh vh2.next D ρ es es2∧∀e∈es2,e.cells=[e])
    have hl:es2.length=es.length:=e1.1.symm
    exact⟨fun h=>h0 (List.eq_nil_of_length_eq_zero (by rw[← hl,h];rfl)),e2,by rw[hl];exact h2,s0,cs',k1,k2,AltL.ok s e1 k3,by rw[hl];exact k4⟩
   |box cs=>
    exact⟨s0,cs',k1,k2,AltL.ok s (h3:AltL vh vh2.next D ρ es cs) k3⟩
   |arr=>cases h3
   |grow=>cases h3
   |map=>cases h3
   |emap=>cases h3
   |fmap=>cases h3
   |loop=>cases h3
  |map es=>
   have h3:VObj.map es=y:=h3
   subst h3
   obtain⟨es',k1,k2,k3,k4⟩:=hx
   exact⟨es',k1,k2,k3.mono fun _ _ h=>h.mono hle,k4.mono fun _ _ h=>h.mono hle⟩
  |emap es k born=>
   have h3:VObj.emap es k born=y:=h3
   subst h3
   obtain⟨es',k1,k2,k3,k4⟩:=hx
   exact⟨es',k1,k2,k3.mono fun _ _ h=>h.mono hle,k4.mono fun _ _ h=>h.mono hle⟩
  |fmap es=>
   cases y with
   |fmap es2=>
    obtain⟨e1,e2⟩:=(h3:es.map (·.1)=es2.map (·.1)∧AltL vh vh2.next D ρ (es.map (·.2)) (es2.map (·.2)))
    obtain⟨es',k1,k2,k3,k4⟩:=hx
    exact⟨es',k1,k2,e1▸k3.mono fun _ _ h=>h.mono hle,AltL.ok s e2 k4⟩
   |box=>cases h3
   |arr=>cases h3
   |grow=>cases h3
   |map=>cases h3
   |emap=>cases h3
   |fgrow=>cases h3
   |loop=>cases h3
  |loop N ps a bd vts jump=>
   cases y with
   |loop N2 ps2 a2 bd2 vts2 j2=>
    obtain⟨rfl,rfl,rfl,rfl,rfl,h6⟩:=(h3:zp3 vh vh2.next D ρ N N2 ps ps2 a bd a2 bd2 jump j2 vts vts2)
    obtain⟨L,k1,k2,k3,k4,k5,k6⟩:=hx
    refine⟨L,k1,k2,k3,k4,k5,fun t v2 hv2=>?_⟩
    obtain⟨v,q1,q2⟩:=AltT.get h6 t v2 hv2
    exact q2.ok s _ (k6 t v q1)
   |box=>cases h3
   |arr=>cases h3
   |grow=>cases h3
   |map=>cases h3
   |emap=>cases h3
   |fgrow=>cases h3
   |fmap=>cases h3
 ·obtain⟨_,x,h1,_,h2⟩:=live j y hy hly
  obtain⟨_,x',h1',_,h2'⟩:=live k z hz hlz
  exact a.inj j k y z hy hz hly hlz (s.inj _ _ x x' h1 h1' h2 h2' he)
 ·obtain⟨_,x,h1,_,h2⟩:=live j y hy hl
  exact s.low _ x h1 h2
 ·obtain⟨hD,x,h1,_,h2⟩:=live j y hy hl
  unfold Fz.more
  rw[if_neg]
  ·exact s.dis _ x h1 h2
  rintro⟨i,z,k1,k2,k3,k4⟩
  have:=s.inj i (ρ j) z x k2 h1 k3 h2 k4
  subst this
  rw[hD] at k1;cases k1
 obtain⟨_,x,h1,_,h2⟩:=live j y hy hl
 exact⟨ρ j,x,h1,h2,rfl⟩
end
section
variable {P:Program} {N b:Nat} {Q:zfz} {vts vts2:VTs} {vh vh2:zab}
theorem VW.zty {c:Code}(D:Nat→Bool)(ρ:Nat→Nat)(a:AltS b D ρ vts vh vts2 vh2)(hc:VW P N b c Q vts2 vh2):VW P N b c Q vts vh:=fun lo g σ h ts ht hn s hb=>by
 have:=a.sim ht hn s
 exact(hc lo _ _ h ts this.t this.len this.s this.base).mono fun e ts' h' hs=>hs.trans this
mutual
def frz (vh:zab):PV→Option PV
 |.func f xs ys=>match frzL vh xs,frzL vh ys with
  |some a,some b=>some (.func f a b)
  |_,_=>none
 |.agg cs=>(frzL vh cs).map .agg
 |.tup cs=>(frzL vh cs).map .tup
 |.ptr i off=>match vh.get i with
  |some (.box cs)=>bif PV.allF cs&&Nat.ble off cs.length then some (.vp (cs.drop off)) else none
  |some (.arr _ _ cs)=>bif Nat.ble off cs.length then some (.vp (cs.drop off)) else none
  |_=>none
 |.own i off len k=>bif Nat.beq len 0 then some (.vec []) else match vh.get i with
  |some (.arr _ sz _)=>(zbz vh sz (.own i off len k)).map .vec
  |_=>none
 |.sub i off len=>bif Nat.beq len 0 then some (.vec []) else match vh.get i with
  |some (.arr _ sz _)=>(zbz vh sz (.sub i off len)).map .vec
  |_=>none
 |.grow i n nl=>match vh.get i with
  |some (.grow _ es)=>bif Nat.beq es.length n then some (.vec es) else none
  |_=>bif Nat.beq n 0 then some (.vec []) else none
 |.iface t v=>bif v.isF then some (.iface t v) else none
 |.mapv i=>match vh.get i with
  |some (.map es)=>some (.vmap es)
  |_=>none
 |.yld _=>none
 |v=>some v
def frzL (vh:zab):List PV→Option (List PV)
 |[]=>some []
 |v::r=>match frz vh v,frzL vh r with
  |some a,some l=>some (a::l)
  |_,_=>none
end
mutual
theorem zst (vh:zab):∀(v v2:PV),frz vh v=some v2→Alt vh 0 (fun _=>true) id v v2
 |.func f xs ys,v2,h=>by
  simp only[frz] at h
  split at h
  ·rename_i a c h1 h2
   injection h with h;subst h
   exact .func' (zih vh xs a h1) (zih vh ys c h2)
  cases h
 |.agg cs,v2,h=>by
  simp only[frz] at h
  obtain⟨l,h1,rfl⟩:=zad h
  exact .agg' (zih vh cs l h1)
 |.tup cs,v2,h=>by
  simp only[frz] at h
  obtain⟨l,h1,rfl⟩:=zad h
  exact .tup' (zih vh cs l h1)
 |.ptr i off,v2,h=>by
  simp only[frz] at h
  split at h
  ·rename_i cs hg
   cases hb:(PV.allF cs&&Nat.ble off cs.length) with
   |false=>rw[hb] at h;cases h
   |true=>
    rw[hb] at h;simp only[xfp,xfm] at h;subst h
    simp only[xfr,Nat.ble_eq] at hb
    exact .fptr i off cs rfl hg hb.1 hb.2
  ·rename_i ag sz cs hg
   cases hb:Nat.ble off cs.length with
   |false=>rw[hb] at h;cases h
   |true=>
    rw[hb] at h;simp only[xfp,xfm] at h;subst h
    exact .fptrA i off ag sz cs rfl hg (by simpa using hb)
  cases h
 |.own i off len k,v2,h=>by
  simp only[frz] at h
  rcases zam len 0 with⟨hq,hq'⟩|⟨hq,hq'⟩
  ·rw[hq] at h;simp only[xfp,xfm] at h;subst h;subst hq';exact .own0v i off k
  rw[hq] at h;simp only[xfq] at h
  split at h
  ·rename_i ag sz cs hg
   obtain⟨es,h1,rfl⟩:=zad h
   exact .fown i off len k ag sz cs es rfl hg h1
  cases h
 |.sub i off len,v2,h=>by
  simp only[frz] at h
  rcases zam len 0 with⟨hq,hq'⟩|⟨hq,hq'⟩
  ·rw[hq] at h;simp only[xfp,xfm] at h;subst h;subst hq';exact .sub0v i off
  rw[hq] at h;simp only[xfq] at h
  split at h
  ·rename_i ag sz cs hg
   obtain⟨es,h1,rfl⟩:=zad h
   exact .fsub i off len ag sz cs es rfl hg h1
  cases h
 |.grow i n nl,v2,h=>by
  simp only[frz] at h
  split at h
  ·rename_i sz es hg
   rcases zam es.length n with⟨hq,hq'⟩|⟨hq,hq'⟩
   ·rw[hq] at h;simp only[xfp,xfm] at h;subst h;exact .fgrow i n nl sz es rfl hg hq'
   rw[hq] at h;cases h
  rcases zam n 0 with⟨hq,hq'⟩|⟨hq,hq'⟩
  ·rw[hq] at h;simp only[xfp,xfm] at h;subst h;subst hq';exact .grow0v i nl
  rw[hq] at h;cases h
 |.iface t v,v2,h=>by
  simp only[frz] at h
  cases hf:v.isF with
  |false=>rw[hf] at h;cases h
  |true=>rw[hf] at h;simp only[xfp,xfm] at h;subst h;exact .same _ (by simp only[PV.isF];exact hf)
 |.mapv i,v2,h=>by
  simp only[frz] at h
  split at h
  ·rename_i es hg
   injection h with h;subst h;exact .fmap i es rfl hg
  cases h
 |.vmap es,v2,h=>by simp only[frz,xfm] at h;subst h;exact .same _ rfl
 |.yld _,v2,h=>by simp[frz] at h
 |.bool b,v2,h=>by simp only[frz,xfm] at h;subst h;exact .same _ rfl
 |.int k n,v2,h=>by simp only[frz,xfm] at h;subst h;exact .same _ rfl
 |.str s,v2,h=>by simp only[frz,xfm] at h;subst h;exact .same _ rfl
 |.nilFunc,v2,h=>by simp only[frz,xfm] at h;subst h;exact .same _ rfl
 |.nilIface,v2,h=>by simp only[frz,xfm] at h;subst h;exact .same _ rfl
 |.ptr0,v2,h=>by simp only[frz,xfm] at h;subst h;exact .same _ rfl
 |.sl0,v2,h=>by simp only[frz,xfm] at h;subst h;exact .same _ rfl
 |.map0,v2,h=>by simp only[frz,xfm] at h;subst h;exact .same _ rfl
 |.e0,v2,h=>by simp only[frz,xfm] at h;subst h;exact .same _ rfl
 |.vec es,v2,h=>by simp only[frz,xfm] at h;subst h;exact .same _ rfl
 |.vp cs,v2,h=>by simp only[frz,xfm] at h;subst h;exact .same _ rfl
theorem zih (vh:zab):∀(l l2:List PV),frzL vh l=some l2→AltL vh 0 (fun _=>true) id l l2
 |[],l2,h=>by simp only[frzL,xfm] at h;subst h;exact .nil
 |v::r,l2,h=>by
  simp only[frzL] at h
  split at h
  ·rename_i a l h1 h2
   injection h with h;subst h
   exact .cons (zst vh v a h1) (zih vh r l h2)
  cases h
end
mutual
theorem zti (vh:zab):∀(v v2:PV),frz vh v=some v2→v2.isF=true
 |.func f xs ys,v2,h=>by
  simp only[frz] at h
  split at h
  ·rename_i a c h1 h2
   injection h with h;subst h
   rw[PV.zuy,zha vh xs a h1,zha vh ys c h2];rfl
  cases h
 |.agg cs,v2,h=>by
  simp only[frz] at h
  obtain⟨l,h1,rfl⟩:=zad h
  rw[PV.zs4];exact zha vh cs l h1
 |.tup cs,v2,h=>by
  simp only[frz] at h
  obtain⟨l,h1,rfl⟩:=zad h
  rw[PV.zy1];exact zha vh cs l h1
 |.ptr i off,v2,h=>by
  simp only[frz] at h
  split at h
  ·cases hb:(PV.allF _&&Nat.ble off _) with
   |false=>rw[hb] at h;cases h
   |true=>rw[hb] at h;simp only[xfp,xfm] at h;subst h;simp[PV.isF]
  ·cases hb:Nat.ble off _ with
   |false=>rw[hb] at h;cases h
   |true=>rw[hb] at h;simp only[xfp,xfm] at h;subst h;simp[PV.isF]
  cases h
 |.own i off len k,v2,h=>by
  simp only[frz] at h
  cases hq:Nat.beq len 0 with
  |true=>rw[hq] at h;simp only[xfp,xfm] at h;subst h;simp[PV.isF]
  |false=>
   rw[hq] at h;simp only[xfq] at h
   split at h
   ·obtain⟨es,h1,rfl⟩:=zad h;simp[PV.isF]
   cases h
 |.sub i off len,v2,h=>by
  simp only[frz] at h
  cases hq:Nat.beq len 0 with
  |true=>rw[hq] at h;simp only[xfp,xfm] at h;subst h;simp[PV.isF]
  |false=>
   rw[hq] at h;simp only[xfq] at h
   split at h
   ·obtain⟨es,h1,rfl⟩:=zad h;simp[PV.isF]
   cases h
 |.grow i n nl,v2,h=>by
  simp only[frz] at h
  split at h
  ·rename_i sz es hg
   cases hq:Nat.beq es.length n with
   |true=>rw[hq] at h;simp only[xfp,xfm] at h;subst h;simp[PV.isF]
   |false=>rw[hq] at h;cases h
  cases hq:Nat.beq n 0 with
  |true=>rw[hq] at h;simp only[xfp,xfm] at h;subst h;simp[PV.isF]
  |false=>rw[hq] at h;cases h
 |.iface t v,v2,h=>by
  simp only[frz] at h
  cases hf:v.isF with
  |false=>rw[hf] at h;cases h
  |true=>rw[hf] at h;simp only[xfp,xfm] at h;subst h;simp only[PV.isF];exact hf
 |.mapv i,v2,h=>by
  simp only[frz] at h
  split at h
  ·injection h with h;subst h;simp[PV.isF]
  cases h
 |.vmap es,v2,h=>by simp only[frz,xfm] at h;subst h;simp[PV.isF]
 |.yld _,v2,h=>by simp[frz] at h
 |.bool b,v2,h=>by simp only[frz,xfm] at h;subst h;simp[PV.isF]
 |.int k n,v2,h=>by simp only[frz,xfm] at h;subst h;simp[PV.isF]
 |.str s,v2,h=>by simp only[frz,xfm] at h;subst h;simp[PV.isF]
 |.nilFunc,v2,h=>by simp only[frz,xfm] at h;subst h;simp[PV.isF]
 |.nilIface,v2,h=>by simp only[frz,xfm] at h;subst h;simp[PV.isF]
 |.ptr0,v2,h=>by simp only[frz,xfm] at h;subst h;simp[PV.isF]
 |.sl0,v2,h=>by simp only[frz,xfm] at h;subst h;simp[PV.isF]
 |.map0,v2,h=>by simp only[frz,xfm] at h;subst h;simp[PV.isF]
 |.e0,v2,h=>by simp only[frz,xfm] at h;subst h;simp[PV.isF]
 |.vec es,v2,h=>by simp only[frz,xfm] at h;subst h;simp[PV.isF]
 |.vp cs,v2,h=>by simp only[frz,xfm] at h;subst h;simp[PV.isF]
theorem zha (vh:zab):∀(l l2:List PV),frzL vh l=some l2→PV.allF l2=true
 |[],l2,h=>by simp only[frzL,xfm] at h;subst h;rfl
 |v::r,l2,h=>by
  simp only[frzL] at h
  split at h
  ·rename_i a l h1 h2
   injection h with h;subst h
   simp only[PV.allF,zti vh v a h1,zha vh r l h2,Bool.and_self]
  cases h
end
def zat (P:Program)(f:FuncId)(args:List PV)(R:PV→Prop):Prop:=
 zbj P f args zab.empty fun v _=>v.isF=true∧R v
theorem VS.none {lo:Nat}{g:Fz}{h:zaa}(hfz:∀o x,g o=some x→h.get o=some x)(hl:lo≤h.next)(σ:Sg):VS lo g σ zab.empty h:=
 ⟨fun i x hx=>(by cases hx),fun i j x y hx=>(by cases hx),fun i x hx=>(by cases hx),hfz,fun i x hx=>(by cases hx),hl⟩
mutual
theorem zk3 {g g':Fz}:∀ {v:PV} {v':Value},FR g v v'→v.scal=true→FR g' v v'
 |_,_,.bool b,_=>.bool b
 |_,_,.int k n,_=>.int k n
 |_,_,.str s,_=>.str s
 |_,_,.nilFunc,_=>.nilFunc
 |_,_,.nilIface,_=>.nilIface
 |_,_,.ptr0,_=>.ptr0
 |_,_,.sl0,_=>.sl0
 |_,_,.map0,_=>.map0
 |_,_,.e0N,h=>by simp[PV.scal] at h
 |_,_,.e0 ..,h=>by simp[PV.scal] at h
 |_,_,.func f xs ys xs' ys' hx hy rx ry,h=>by
  simp only[PV.scal,xfr] at h
  exact .func f xs ys xs' ys' hx hy (fun i v v' hv hv'=>zk3 (rx i v v' hv hv') (PV.zj8 h.1 hv)) (fun i v v' hv hv'=>zk3 (ry i v v' hv hv') (PV.zj8 h.2 hv))
 |_,_,.agg cs cs' hs r,h=>by
  simp only[PV.scal] at h
  exact .agg cs cs' hs fun i v v' hv hv'=>zk3 (r i v v' hv hv') (PV.zj8 h hv)
 |_,_,.tup cs cs' hs r,h=>by
  simp only[PV.scal] at h
  exact .tup cs cs' hs fun i v v' hv hv'=>zk3 (r i v v' hv hv') (PV.zj8 h hv)
 |_,_,.iface t v v' hv,h=>by
  simp only[PV.scal] at h
  exact .iface t v v' (zk3 hv h)
 |_,_,.vecN,h=>by simp[PV.scal] at h
 |_,_,.vec0 ..,h=>by simp[PV.scal] at h
 |_,_,.vec ..,h=>by simp[PV.scal] at h
 |_,_,.vp ..,h=>by simp[PV.scal] at h
 |_,_,.vmap ..,h=>by simp[PV.scal] at h
end
def zj1 (P:Program)(f:FuncId)(args:List PV)(vh:zab)(R:PV→zab→Prop):Prop:=
 ∀lo g σ h args',PRs (VR g σ vh.next) args args'→VS lo g σ vh h→zc0 P lo f args' h fun r h'=>h.sub h'∧∃g' σ' v vh',VR g' σ' vh'.next v r∧VS lo g' σ' vh' h'∧g.le g'∧(∀i,i<vh.next→σ' i=σ i)∧VF σ vh h σ' vh' h'∧vh.next≤vh'.next∧
  GOwn g σ vh h g'∧R v vh'
theorem zj1.call {f:FuncId}{args:List PV}{R:PV→zab→Prop}(h:zj1 P f args vh R):zbj P f args vh R:=fun lo g σ hh args' ha s=>(h lo g σ hh args' ha s).mono fun _ _ hq=>hq.2
theorem zj1.mono {f:FuncId}{args:List PV}{R R':PV→zab→Prop}(hc:zj1 P f args vh R)(hr:∀v vh,R v vh→R' v vh):zj1 P f args vh R':=
 fun lo g σ h args' ha s=>(hc lo g σ h args' ha s).mono fun r h' ⟨h0,g',σ',v,vh',h1,h2,h3,h4,h5,h6,h7,h8⟩=>⟨h0,g',σ',v,vh',h1,h2,h3,h4,h5,h6,h7,hr _ _ h8⟩
theorem znh {h h':zaa}(hk:∀o,o<h.next→h'.get o=h.get o):h.sub h':=fun o x hx=>by rw[hk o (zaa.zai hx)];exact hx
theorem zat.zsa {f:FuncId}{args:List PV}{R:PV→Prop}(hp:zat P f args R)(hf:PV.allF args=true):zj1 P f args vh fun v vh'=>vh'=vh∧R v:=fun lo g σ h args' ha s=>by
 have ha0:PRs (VR g σ zab.empty.next) args args':=(ha.isF hf).vr
 refine(hp lo g σ h args' ha0 (.none s.fz s.lole σ)).mono fun r h' ⟨g',σ',v,vh',h1,h2,h3,h4,h5,h6,h7,h8,h9⟩=>?_
 have hkeep:∀o,o<h.next→h'.get o=h.get o:=fun o ho=>h5.pres o ho fun i x hx=>by cases hx
 have hg:∀o x,g' o=some x→o<h.next→∃y,g o=some y:=fun o x hx ho=>by
  rcases h7 o x hx ho with h|⟨i,y,h,_⟩
  ·exact⟨_,h⟩
  cases h
 refine⟨znh hkeep,g',σ,v,vh,.fr _ _ (h1.isF h8),⟨fun i x hx=>?_,s.inj,s.low,h2.fz,fun i x hx hl=>?_,h2.lole⟩,h3,fun _ _=>rfl,⟨h5.next,fun o ho _=>hkeep o ho,fun i x hx hl _=>⟨i,x,hx,hl,rfl⟩⟩,Nat.le_refl _,fun o x hx ho=>.inl (h7 o x hx ho |>.elim id fun⟨i,y,h,_⟩=>by cases h),rfl,h9⟩
 ·obtain⟨k1,k2⟩:=s.obj i x hx
  exact⟨k1,k2.mono h3 (Nat.le_refl _) (fun _ _=>rfl) k1 fun hl=>hkeep _ (k2.lt hl)⟩
 have hd:=s.dis i x hx hl
 have hlt:=(s.obj i x hx).2.lt hl
 cases hgo:g' (σ i).1 with
 |none=>rfl
 |some y=>
  obtain⟨z,hz⟩:=hg _ y hgo hlt
  rw[hd] at hz;cases hz
theorem zat.z2h {f:FuncId}{args args2:List PV}{R:PV→Prop}(hp:zat P f args2 R)(ha2:frzL vh args=some args2)(hsc:∀v,R v→v.scal=true):zj1 P f args vh fun v vh'=>vh'=vh∧R v:=fun lo g σ h args' ha s=>by
 have ha0:=AltL.ok s (zih vh args args2 ha2) ha
 have hfz:=zky (D:=fun _=>true) s
 refine(hp lo (g.more σ vh h fun _=>true) (fun j=>σ (id j)) h args' ha0 (.none hfz s.lole _)).mono fun r h' ⟨g',σ',v,vh',h1,h2,h3,h4,h5,h6,h7,h8,h9⟩=>?_
 have hkeep:∀o,o<h.next→h'.get o=h.get o:=fun o ho=>h5.pres o ho fun i x hx=>by cases hx
 refine⟨znh hkeep,g,σ,v,vh,.fr _ _ (zk3 (h1.isF h8) (hsc v h9)),⟨fun i x hx=>?_,s.inj,s.low,fun o x hx=>?_,s.dis,h2.lole⟩,Fz.le_refl g,fun _ _=>rfl,⟨h5.next,fun o ho _=>hkeep o ho,fun i x hx hl _=>⟨i,x,hx,hl,rfl⟩⟩,Nat.le_refl _,GOwn.refl _ _ _ _,rfl,h9⟩
 ·obtain⟨k1,k2⟩:=s.obj i x hx
  exact⟨k1,k2.mono (Fz.le_refl g) (Nat.le_refl _) (fun _ _=>rfl) k1 fun hl=>hkeep _ (k2.lt hl)⟩
 have:=s.fz o x hx
 rw[hkeep o (zaa.zai this)];exact this
theorem zat.call {f:FuncId}{args:List PV}{R:PV→Prop}(hp:zat P f args R)(hf:PV.allF args=true):zbj P f args vh fun v vh'=>vh'=vh∧R v:=(hp.zsa hf).call
theorem zat.borrow {f:FuncId}{args args2:List PV}{R:PV→Prop}(hp:zat P f args2 R)(ha2:frzL vh args=some args2)(hsc:∀v,R v→v.scal=true):zbj P f args vh fun v vh'=>vh'=vh∧R v:=(hp.z2h ha2 hsc).call
def retP (P:Program)(fn:Func)(R:PV→Prop):zfz
 |.normal,vts,vh=>∃l v,za0 P vts vh fn.results.toList=some l∧frz vh (za1 l)=some v∧R v
 |.ret,vts,vh=>∃l v,za0 P vts vh fn.results.toList=some l∧frz vh (za1 l)=some v∧R v
 |_,_,_=>False
theorem zat.zah {f:FuncId}{fn:Func}{c:Code}{args:List PV}{R:PV→Prop}(hf:P.funcs[f]?=some fn)(hb:fn.body=some c)(hn:Nat.ble args.length fn.ntmps=true)
  (hc:VW P fn.ntmps 0 c (retP P fn R) (zdd 0 args) zab.empty):zat P f args R:=by
 have h1:zbj P f args zab.empty fun v vh'=>∃v2,frz vh' v=some v2∧R v2:=by
  refine .zah hf hb hn (hc.mono fun e vts vh hq=>?_)
  cases e with
  |normal=>obtain⟨l,v,h1,h2,h3⟩:=hq;exact⟨l,h1,v,h2,h3⟩
  |ret=>obtain⟨l,v,h1,h2,h3⟩:=hq;exact⟨l,h1,v,h2,h3⟩
  |exit id=>exact hq.elim
  |goto l=>exact hq.elim
  |panic ch=>exact hq.elim
  |outgrown=>exact hq.elim
 intro lo g σ h args' ha s
 refine(h1 lo g σ h args' ha s).mono fun r h' ⟨g',σ',v,vh',k1,k2,k3,k4,k5,k6,k7,v2,k8,k9⟩=>?_
 have k10:=(zst vh' v v2 k8).ok k2 r k1
 have hF:v2.isF=true:=zti vh' v v2 k8
 refine⟨_,_,v2,zab.empty,k10,.none (zky k2) k2.lole _,Fz.le_trans k3 (zew k2),fun i hi=>(by cases hi),⟨k5.next,k5.pres,fun i x hx=>(by cases hx)⟩,Nat.le_refl _,k7.trans k5 zjz,hF,k9⟩
end
end Go.Am
end
/-
 The value machine, part K: loops by states; small facts for walks.
-/
section
namespace Go.Am
theorem wrap64 {x:Int}(h1 : -9223372036854775808≤x)(h2:x<9223372036854775808):IntKind.i64.wrap x=x:=by
 simp[IntKind.wrap,IntKind.bits,IntKind.signed];omega
theorem z5p {x:Int}(h1:0≤x)(h2:x<4294967296):IntKind.u32.wrap x=x:=by
 simp[IntKind.wrap,IntKind.bits,IntKind.signed];omega
abbrev ints (l:List Int):PV:=.vec (l.map (PV.int .i64))
theorem zf7 {α:Type}{f:α→PV}{n:Nat}(h:∀x,(f x).cells.length=n)(l:List α):zfu n (l.map f)=true:=by
 unfold zfu
 rw[List.all_eq_true]
 intro e he
 obtain⟨x,_,rfl⟩:=List.mem_map.1 he
 rw[beq_eq,decide_eq_true_eq];exact h x
theorem zfi {α:Type}{f:α→PV}(h:∀x,(f x).cells.all PV.one=true)(l:List α):zdr (l.map f)=true:=by
 unfold zdr
 rw[List.all_eq_true]
 intro e he
 obtain⟨x,_,rfl⟩:=List.mem_map.1 he
 exact h x
theorem z1d {α:Type}{f:α→PV}(h:∀x,(f x).isF=true)(l:List α):PV.allF (l.map f)=true:=PV.zr7 fun e he=>by
 obtain⟨x,_,rfl⟩:=List.mem_map.1 he
 exact h x
@[simp] theorem zqo (k:IntKind)(l:List Int):zfu 1 (l.map (PV.int k))=true:=zf7 (f:=PV.int k) (n:=1) (fun _=>rfl) l
@[simp] theorem zov (k:IntKind)(l:List Int):zdr (l.map (PV.int k))=true:=zfi (f:=PV.int k) (fun _=>rfl) l
@[simp] theorem xbt (k:IntKind)(l:List Int):PV.allF (l.map (PV.int k))=true:=z1d (f:=PV.int k) (fun _=>by simp[PV.isF]) l
def Rec (b:Nat)(vts:VTs)(vh:zab)(vts2:VTs)(vh2:zab):Prop:=∃D ρ,AltS b D ρ vts vh vts2 vh2
theorem VW.rec {P:Program}{N b:Nat}{Q:zfz}{vts vts2:VTs}{vh vh2:zab}{c:Code}(a:Rec b vts vh vts2 vh2)(hc:VW P N b c Q vts2 vh2):VW P N b c Q vts vh:=by
 obtain⟨D,ρ,a⟩:=a
 exact .zty D ρ a hc
def subT (vts:VTs):VTs→Prop
 |[]=>True
 |(t,v)::r=>tget t vts=some v∧subT vts r
theorem zuq {vts:VTs}:∀ {vts2:VTs},subT vts vts2→∀t v,tget t vts2=some v→tget t vts=some v
 |[],_,t,v,h=>by simp[tget] at h
 |(u,w)::r,hs,t,v,h=>by
  simp only[tget,beq_eq] at h
  by_cases htu:t=u
  ·subst htu;simp at h;subst h;exact hs.1
  simp[htu] at h;exact zuq hs.2 t v h
def zds:VTs→Bool
 |[]=>true
 |(_,v)::r=>v.isF&&zds r
theorem zrg:∀ {vts:VTs},zds vts=true→∀t v,tget t vts=some v→v.isF=true
 |[],_,t,v,h=>by simp[tget] at h
 |(u,w)::r,hs,t,v,h=>by
  simp only[zds,xfr] at hs
  simp only[tget,beq_eq] at h
  by_cases htu:t=u
  ·subst htu;simp at h;subst h;exact hs.1
  simp[htu] at h;exact zrg hs.2 t v h
theorem Rec.pure {vts vts2:VTs}{vh:zab}(h1:zds vts2=true)(h2:subT vts vts2):Rec 0 vts vh vts2 zab.empty:=
 ⟨fun _=>false,id,⟨fun t v hv=>⟨v,zuq h2 t v hv,.same v (zrg h1 t v hv)⟩,fun j y hy=>(by cases hy),fun j k y z hy=>(by cases hy),fun j hj=>rfl,Nat.zero_le _⟩⟩
def rho (l:List (Nat×Nat))(j:Nat):Nat:=
 match l with
 |[]=>j
 |(a,b)::r=>bif Nat.beq j a then b else rho r j
def AltH (vh:zab)(n2:Nat)(D:Nat→Bool)(ρ:Nat→Nat):List (Nat×VObj)→Prop
 |[]=>True
 |(j,y)::r=>(j<n2∧((∃sz,y=.grow sz []∧0<sz)∨D (ρ j)=false∧∃x,vh.get (ρ j)=some x∧AltO vh n2 D ρ x y))∧AltH vh n2 D ρ r
theorem AltH.get {vh:zab}{n2:Nat}{D:Nat→Bool}{ρ:Nat→Nat}:∀ {l:List (Nat×VObj)},AltH vh n2 D ρ l→∀j y,zce j l=some y→j<n2∧((∃sz,y=.grow sz []∧0<sz)∨D (ρ j)=false∧∃x,vh.get (ρ j)=some x∧AltO vh n2 D ρ x y)
 |[],_,j,y,h=>by simp[zce] at h
 |(k,z)::r,hs,j,y,h=>by
  simp only[zce,beq_eq] at h
  by_cases hjk:j=k
  ·subst hjk;simp at h;subst h;exact hs.1
  simp[hjk] at h;exact AltH.get hs.2 j y h
theorem znj:∀ {l:List (Nat×VObj)} {j:Nat} {y:VObj},zce j l=some y→j∈l.map (·.1)
 |[],j,y,h=>by simp[zce] at h
 |(k,z)::r,j,y,h=>by
  simp only[zce,beq_eq] at h
  by_cases hjk:j=k
  ·subst hjk;simp
  simp[hjk] at h;simp only[List.map_cons,List.mem_cons];exact .inr (znj h)
def injB (ρ:Nat→Nat)(l:List Nat):Bool:=l.all fun j=>l.all fun k=>!(Nat.beq (ρ j) (ρ k))||Nat.beq j k
def z9o (b:Nat)(ρ:Nat→Nat):Bool:=(List.range b).all fun j=>Nat.beq (ρ j) j
theorem Rec.mk {b:Nat}{vts vts2:VTs}{vh vh2:zab}(D:List Nat)(ρ:List (Nat×Nat))(ht:AltT vts vh vh2.next (fun i=>D.contains i) (rho ρ) vts2)(ho:AltH vh vh2.next (fun i=>D.contains i) (rho ρ) vh2.objs)
  (hi:injB (rho ρ) (vh2.objs.map (·.1))=true) (hb:z9o b (rho ρ)=true) (hn:Nat.ble b vh2.next=true):Rec b vts vh vts2 vh2:=by
 refine⟨fun i=>D.contains i,rho ρ,⟨fun t v hv=>AltT.get ht t v hv,fun j y hy=>AltH.get ho j y hy,fun j k y z hy hz _ _ he=>?_,fun j hj=>?_,by simpa using hn⟩⟩
 ·unfold injB at hi
  rw[List.all_eq_true] at hi
  have h1:=hi j (znj hy)
  rw[List.all_eq_true] at h1
  have h2:=h1 k (znj hz)
  rw[he] at h2
  simpa[beq_eq] using h2
 unfold z9o at hb
 rw[List.all_eq_true] at hb
 simpa using hb j (by simpa using hj)
theorem VW.zco {P:Program}{N b:Nat}{Q:zfz}{vts:VTs}{vh:zab}{c:Code}{S:Type}(st:S→VTs×zab)(I:S→Prop)(m:S→Nat)(s0:S)(h0:I s0)(hr:Rec b vts vh (st s0).1 (st s0).2)
  (round:∀s,I s→VW P N b c (zs5 (fun vts' vh'=>∃s',I s'∧m s'<m s∧Rec b vts' vh' (st s').1 (st s').2) Q) (st s).1 (st s).2):VW P N b (.loop c) Q vts vh:=
 .loop (fun k vts vh=>∃s,I s∧m s=k∧Rec b vts vh (st s).1 (st s).2) (m s0) ⟨s0,h0,rfl,hr⟩ fun k vts vh ⟨s,h1,h2,h3⟩=>by
  subst h2
  refine .rec h3 ((round s h1).mono fun e vts vh hq=>?_)
  cases e with
  |normal=>obtain⟨s',k1,k2,k3⟩:=hq;exact⟨m s',k2,s',k1,rfl,k3⟩
  |exit id=>exact hq
  |goto l=>exact hq
  |ret=>exact hq
  |panic ch=>exact hq
  |outgrown=>exact hq
end Go.Am
end
/-
 The value machine, part L: stretches whose order is drawn.
-/
section
namespace Go.Am
def CkF (P:Program)(lo:Nat)(ops:Array Oper)(ts:Tmps)(h:zaa)(m:Nat):Prop:=
 ∃o d v h1,ops[m]?=some o∧o.dst=some d∧isR o.op=true∧ts[d]?=some v∧aop P lo ts h o.op=some (v,h1)
def zqw (op:Op)(d:Nat):Bool:=op.operands.toList.all fun x=>match x with
 |.tmp t=>!Nat.beq t d
 |_=>true
def z5l (ops:Array Oper)(dst:Option Tmp)(k:Nat):Bool:=
 match dst with
 |none=>true
 |some d=>match ops[k]? with
  |some o=>zqw o.op d&&(match o.dst with|some d'=>!Nat.beq d' d|none=>true)
  |none=>false
def zfm (o:Oper):Bool:=
 match o.dst with
 |some d=>zqw o.op d
 |none=>false
section
variable {P:Program} {N b lo:Nat} {ops:Array Oper}
theorem zx9 {ts:Tmps}{x:Operand}{d:Nat}{v:Value}(hx:(match x with|.tmp t=>!Nat.beq t d|_=>true)=true):za7 ts x=za7 (aput ts (some d) v) x:=by
 cases x with
 |tmp t=>
  have:t≠d:=by simpa[beq_eq] using hx
  simp only[za7]
  rw[zck (fun h=>this h.symm)]
 |const=>rfl
 |func=>rfl
 |global=>rfl
theorem zmg {op:Op}{d:Nat}{ts:Tmps}{v:Value}(hf:zqw op d=true):∀x∈op.operands,za7 ts x=za7 (aput ts (some d) v) x:=fun x hx=>by
 unfold zqw at hf
 rw[List.all_eq_true] at hf
 exact zx9 (hf x (by simpa using hx))
theorem CkF.put {ts:Tmps}{h h2:zaa}{m:Nat}{dst:Option Tmp}(v:Value)(hc:CkF P lo ops ts h m)(hs:h.sub h2)(hf:z5l ops dst m=true):CkF P lo ops (aput ts dst v) h2 m:=by
 obtain⟨o,d,u,h1,k1,k2,k3,k4,k5⟩:=hc
 obtain⟨e1,e2⟩:=zep k3 k5
 have k6:=e2 h2 hs
 cases dst with
 |none=>exact⟨o,d,u,h2,k1,k2,k3,k4,k6⟩
 |some d'=>
  simp only[z5l,k1,k2,xfr] at hf
  have hne:d≠d':=by simpa[beq_eq] using hf.2
  refine⟨o,d,u,h2,k1,k2,k3,?_,?_⟩
  ·simp only[aput];rw[List.getElem?_set_ne (fun h=>hne h.symm)];exact k4
  rw[← zfp (zmg hf.1)];exact k6
theorem CkF.new {ts:Tmps}{h:zaa}{m d:Nat}{o:Oper}{v:Value}{h1:zaa}(ho:ops[m]?=some o)(hd:o.dst=some d)(hlt:d<ts.length)(hr:isR o.op=true)(ha:aop P lo ts h o.op=some (v,h1))(hf:zqw o.op d=true):CkF P lo ops (aput ts o.dst v) h m:=by
 obtain⟨e1,_⟩:=zep hr ha
 subst e1
 refine⟨o,d,v,h1,ho,hd,hr,by rw[hd];simp[aput,hlt],?_⟩
 rw[hd,← zfp (zmg hf)];exact ha
def zee (ops:Array Oper)(todo:List Nat)(dst:Option Tmp):List Nat:=todo.filter (z5l ops dst)
def zfb (P:Program)(N b:Nat)(ops:Array Oper)(o:Oper)(todo:List Nat)(next:List Nat→VTs→zab→Prop)(vts:VTs)(vh:zab):Prop:=
 ∀lo g σ h ts,VT g σ vh.next vts ts→ts.length=N→VS lo g σ vh h→b≤vh.next→(∀m∈todo,CkF P lo ops ts h m)→∀ts1,zn7 ops o ts1 ts→
  zgm P lo o ts1 h fun ts' h'=>∃v',ts'=aput ts1 o.dst v'∧∃todo',(∀m∈todo',CkF P lo ops (aput ts o.dst v') h' m)∧Sim N b lo g σ vh h (next todo') (aput ts o.dst v') h'
theorem zh7 {h:zaa}{y:AObj}:h.sub (h.alloc y):=fun o x hx=>by
 rw[zaa.zay,if_neg (by have:=zaa.zai hx;omega)];exact hx
theorem z2z {op:Op}{ts:Tmps}{h h':zaa}{v:Value}(hi:isA op=true)(ha:aop P lo ts h op=some (v,h')):h.sub h':=by
 cases op<;>simp only[isA,Bool.false_eq_true] at hi
 case alloc t=>
  simp only[aop,zl2] at ha
  split at ha
  ·simp only[xfm,xfn] at ha;rw[← ha.2];exact zh7
  cases ha
 case box t x=>
  simp only[aop] at ha
  obtain⟨u,_,h2⟩:=zad ha
  simp only[abox,xfn] at h2;rw[← h2.2];exact zh7
 case buildSlice t n ps=>
  simp only[aop] at ha
  split at ha
  ·unfold zdy at ha
   split at ha
   ·split at ha
    ·cases hb:(Nat.beq _ _&&Nat.ble _ _&&Nat.blt _ _) with
     |false=>rw[hb] at ha;cases ha
     |true=>
      rw[hb] at ha;simp only[xfp] at ha
      split at ha
      ·simp only[xfm,xfn] at ha;rw[← ha.2];exact zh7
      cases ha
    cases ha
   cases ha
  cases ha
 case makeMap t r=>
  cases r with
  |none=>simp only[aop,xfm,xfn] at ha;rw[← ha.2];exact zh7
  |some=>simp[aop] at ha
 case makeSlice t l c=>
  simp only[aop] at ha
  split at ha
  ·unfold zfh at ha
   split at ha
   ·split at ha
    ·cases hb:(Nat.beq _ _&&Nat.ble _ _&&Nat.ble _ _&&Nat.blt _ _&&Nat.ble _ _) with
     |false=>rw[hb] at ha;cases ha
     |true=>rw[hb] at ha;simp only[xfp,xfm,xfn] at ha;rw[← ha.2];exact zh7
    cases ha
   cases ha
  cases ha
section
variable {vts:VTs} {vh:zab} {o:Oper} {todo:List Nat} {next:List Nat→VTs→zab→Prop}
theorem zfb.vop {v:PV}{vh':zab}(hv:Go.Am.vop P vts vh o.op=some (v,vh'))(hd:zc1 N o.dst=true)(hn:next (bif isA o.op then zee ops todo o.dst else []) (tput vts o.dst v) vh'):zfb P N b ops o todo next vts vh:=fun lo g σ h ts ht hl s hb hck ts1 hag=>by
 obtain⟨v',h',k1,σ',k2,k3,k4,k5,k6⟩:=zog s ht hv
 obtain⟨g1,g2⟩:=zeb (Fz.le_refl g) k5 k6 ht o.dst (hl▸hd) k2
 refine .op (v:=v') (h':=h') ?_ ⟨v',rfl,_,?_,g,σ',_,vh',⟨g1,g2.trans hl,k3,Fz.le_refl g,fun i hi=>k6 i (by omega),k4,by omega,GOwn.refl _ _ _ _⟩,hn⟩
 ·rw[zfp (fun x hx=>hag.eval x hx)];exact k1
 intro m hm
 cases hi:isA o.op with
 |false=>rw[hi] at hm;cases hm
 |true=>
  rw[hi] at hm
  simp only[xfp,zee,List.mem_filter] at hm
  exact(hck m hm.1).put v' (z2z hi k1) hm.2
theorem zfb.zsa {fo:Operand}{args:Array Operand}{aT:Array TypeId}{f:FuncId}{xs ys l:List PV}(ho:o.op=.call ⟨.value fo,args,aT⟩)
  (hf:za6 vts fo=some (.func f xs ys)) (hl:zbo vts args.toList=some l) (hcf:∀cs w,(callFunc f cs).run P w=.ok (.enter f cs) w) (hd:zc1 N o.dst=true)
  (hc:zj1 P f (xs++l++ys) vh fun r vh'=>next (zee ops todo o.dst) (tput vts o.dst r) vh'):zfb P N b ops o todo next vts vh:=fun lo g σ h ts ht hn s hb hck ts1 hag=>by
 obtain⟨f',k1,k2⟩:=zao ht hf
 obtain⟨l',k3,k4⟩:=zf6 ht hl
 obtain⟨xs',ys',rfl,hx,hy⟩:=zi6 k2
 have e1:za7 ts1 fo=za7 ts fo:=hag.eval fo (by rw[ho];simp[Op.operands,Call.operands])
 have e2:zea ts1 args.toList=zea ts args.toList:=zdx fun x hx=>hag.eval x (by rw[ho];simp[Op.operands,Call.operands];exact .inr (by simpa using hx))
 refine .z1a ho (e1.trans k1) (e2.trans k3) hcf ((hc lo g σ h _ ((hx.append k4).append hy) s).mono fun r h' ⟨h0,g',σ',v,vh',h1,h2,h3,h4,h5,h6,h7,h8⟩=>?_)
 obtain⟨g1,g2⟩:=zeb h3 h6 h4 ht o.dst (hn▸hd) h1
 refine⟨r,rfl,_,fun m hm=>?_,g',σ',_,vh',⟨g1,g2.trans hn,h2,h3,fun i hi=>h4 i (by omega),h5,by omega,h7⟩,h8⟩
 simp only[zee,List.mem_filter] at hm
 exact(hck m hm.1).put r h0 hm.2
theorem zfb.call {fo:Operand}{args:Array Operand}{aT:Array TypeId}{f:FuncId}{xs ys l:List PV}(ho:o.op=.call ⟨.value fo,args,aT⟩)
  (hf:za6 vts fo=some (.func f xs ys)) (hl:zbo vts args.toList=some l) (hcf:∀cs w,(callFunc f cs).run P w=.ok (.enter f cs) w) (hd:zc1 N o.dst=true)
  (hc:zbj P f (xs++l++ys) vh fun r vh'=>next [] (tput vts o.dst r) vh'):zfb P N b ops o todo next vts vh:=fun lo g σ h ts ht hn s hb hck ts1 hag=>by
 obtain⟨f',k1,k2⟩:=zao ht hf
 obtain⟨l',k3,k4⟩:=zf6 ht hl
 obtain⟨xs',ys',rfl,hx,hy⟩:=zi6 k2
 have e1:za7 ts1 fo=za7 ts fo:=hag.eval fo (by rw[ho];simp[Op.operands,Call.operands])
 have e2:zea ts1 args.toList=zea ts args.toList:=zdx fun x hx=>hag.eval x (by rw[ho];simp[Op.operands,Call.operands];exact .inr (by simpa using hx))
 refine .z1a ho (e1.trans k1) (e2.trans k3) hcf ((hc lo g σ h _ ((hx.append k4).append hy) s).mono fun r h' ⟨g',σ',v,vh',h1,h2,h3,h4,h5,h6,h7,h8⟩=>?_)
 obtain⟨g1,g2⟩:=zeb h3 h6 h4 ht o.dst (hn▸hd) h1
 exact⟨r,rfl,[],fun m hm=>(by cases hm),g',σ',_,vh',⟨g1,g2.trans hn,h2,h3,fun i hi=>h4 i (by omega),h5,by omega,h7⟩,h8⟩
end
def VScr (P:Program)(N b:Nat)(ops:Array Oper)(W:List Nat)(K:VTs→zab→Prop):List zfl→List Nat→VTs→zab→Prop
 |[],_,vts,vh=>K vts vh
 |.op m::r,todo,vts,vh=>
  match ops[m]? with
  |none=>False
  |some o=>match zaz ops o vts with
   |none=>False
   |some false=>zc1 N o.dst=true∧VScr P N b ops W K r (zee ops todo o.dst) (tput vts o.dst (.tup [])) vh
   |some true=>bif W.contains m then zfb P N b ops o todo (VScr P N b ops W K r) vts vh
    else isR o.op=true∧zc1 N o.dst=true∧∃v,vop P vts vh o.op=some (v,vh)∧VScr P N b ops W K r (bif zfm o then m::zee ops todo o.dst else zee ops todo o.dst) (tput vts o.dst v) vh
 |.ck m::r,todo,vts,vh=>
  match ops[m]? with
  |none=>False
  |some o=>(todo.contains m=true∨o.dst.isSome=true∧zaz ops o vts=some false)∧VScr P N b ops W K r todo vts vh
theorem zmu {ms W:List Nat}(hd:∀d∈(ops.toList.filterMap (·.dst)),d<N){K:VTs→zab→Prop}{g:Fz}{σ:Sg}{vh:zab}{h:zaa}{base:Nat}:∀(items:List zfl) (todo:List Nat) (ts':Tmps) (h':zaa) (g':Fz) (σ':Sg) (vts':VTs) (vh':zab),SimR N b lo g σ vh h ts' h' g' σ' vts' vh'→
  (∀m∈todo,CkF P lo ops ts' h' m)→VScr P N b ops W K items todo vts' vh'→Scr P lo ops base ms W [] (Sim N b lo g σ vh h K) items ts' [] h'
 |[],todo,ts',h',g',σ',vts',vh',a,hck,k=>⟨g',σ',vts',vh',a,k⟩
 |.op m::r,todo,ts',h',g',σ',vts',vh',a,hck,k=>by
  simp only[VScr] at k
  cases ho:ops[m]? with
  |none=>rw[ho] at k;exact k.elim
  |some o=>
   rw[ho] at k
   simp only at k
   refine⟨o,ho,?_⟩
   split at k
   ·exact k.elim
   ·rename_i hw
    rw[zes (a.len▸hd) a.t hw]
    simp only[xfq]
    obtain⟨g1,g2⟩:=zeb (Fz.le_refl g') (Nat.le_refl _) (fun _ _=>rfl) a.t o.dst (a.len▸k.1) (.fr _ _ zej)
    refine zmu hd r _ _ h' g' σ' _ vh' ⟨g1,g2.trans a.len,a.s,a.le,a.agree,a.f,a.base,a.own⟩ (fun m hm=>?_) k.2
    simp only[zee,List.mem_filter] at hm
    exact(hck m hm.1).put _ (fun _ _ hx=>hx) hm.2
   rename_i hw
   rw[zes (a.len▸hd) a.t hw]
   simp only[xfp]
   cases hW:W.contains m with
   |true=>
    rw[hW] at k
    simp only[xfp] at k ⊢
    intro ts1 hag
    refine(k lo g' σ' h' ts' a.t a.len a.s a.base hck ts1 hag).mono fun ts2 h2 ⟨v',e,todo',hck',g2,σ2,vts2,vh2,c,k2⟩=>⟨v',e,?_⟩
    exact zmu hd r todo' _ h2 g2 σ2 vts2 vh2 (a.trans c) hck' k2
   |false=>
    rw[hW] at k
    simp only[xfq,List.contains_nil] at k ⊢
    obtain⟨hr,hdo,v,hv,k2⟩:=k
    obtain⟨v',h1,e1,σ2,e2,e3,e4,e5,e6⟩:=zog (lo:=lo) a.s a.t hv
    obtain⟨e7,_⟩:=zep hr e1
    subst e7
    obtain⟨g1,g2⟩:=zeb (Fz.le_refl g') (Nat.le_refl _) e6 a.t o.dst (a.len▸hdo) e2
    have hagree:∀i,i<b→σ2 i=σ i:=fun i hi=>(e6 i (Nat.lt_of_lt_of_le hi a.base)).trans (a.agree i hi)
    refine⟨v',h1,e1,zmu hd r _ _ h1 g' σ2 _ vh' ⟨g1,g2.trans a.len,e3,a.le,hagree,a.f.trans e4,a.base,a.own⟩ (fun m' hm=>?_) k2⟩
    have old:m'∈zee ops todo o.dst→CkF P lo ops (aput ts' o.dst v') h1 m':=fun hm=>by
     simp only[zee,List.mem_filter] at hm
     exact(hck m' hm.1).put _ (fun _ _ hx=>hx) hm.2
    cases hsf:zfm o with
    |false=>rw[hsf] at hm;exact old hm
    |true=>
     rw[hsf] at hm
     simp only[xfp,List.mem_cons] at hm
     rcases hm with rfl|hm
     ·unfold zfm at hsf
      cases hdd:o.dst with
      |none=>rw[hdd] at hsf;cases hsf
      |some d=>
       rw[hdd] at hsf
       have hlt:d<ts'.length:=by
        have:=a.len▸hdo
        rw[hdd] at this
        simpa[zc1] using this
       have:=CkF.new (P:=P) (lo:=lo) ho hdd hlt hr e1 hsf
       rwa [hdd] at this
     exact old hm
 |.ck m::r,todo,ts',h',g',σ',vts',vh',a,hck,k=>by
  simp only[VScr] at k
  cases ho:ops[m]? with
  |none=>rw[ho] at k;exact k.elim
  |some o=>
   rw[ho] at k
   simp only at k
   obtain⟨k1,k2⟩:=k
   have rest:=zmu (base:=base) (ms:=ms) hd r _ ts' h' g' σ' vts' vh' a hck k2
   rcases k1 with k1|⟨k1,hw⟩
   ·have hm:m∈todo:=by simpa using k1
    obtain⟨o',d,v,h1,c1,c2,c3,c4,c5⟩:=hck m hm
    rw[ho] at c1;injection c1 with c1;subst c1
    exact⟨o,d,ho,c2,fun _=>⟨v,h1,c4,c5⟩,rest⟩
   cases hdd:o.dst with
   |none=>rw[hdd] at k1;cases k1
   |some d=>exact⟨o,d,ho,hdd,fun hwt=>(by rw[zes (a.len▸hd) a.t hw] at hwt;cases hwt),rest⟩
theorem VW.drawn {id:Nat}{Q:zfz}{vts:VTs}{vh:zab}{ms W:List Nat}{items:List zfl}(hm:P.follows .mixedOrders=true)(hst:zsd ops ms W []=true)(hc:zhn ops ms W [] [] W [] items=true)(hd:zlo N ops=true)
  (hs:VScr P N b ops W (Q .normal) items [] vts vh):VW P N b (.region id ops true) Q vts vh:=fun lo g σ h ts ht hn s hb=>
 .sched hm hst rfl hc (zmu (zik hd) items [] ts h g σ vts vh (.refl ht hn s hb) (fun m hm=>(by cases hm)) hs)
end
end Go.Am
end
/-
 The value machine, part M: steps for walks.
-/
section
namespace Go.Am
@[simp] theorem z6z (cs:List PV):(PV.agg cs).cells=cs:=rfl
@[simp] theorem z8t (k:IntKind)(n:Int):(PV.int k n).cells=[.int k n]:=rfl
@[simp] theorem z5w (b:Bool):(PV.bool b).cells=[.bool b]:=rfl
@[simp] theorem z9m (s:ByteArray):(PV.str s).cells=[.str s]:=rfl
@[simp] theorem z7i (es:List PV):(PV.vec es).cells=[.vec es]:=rfl
@[simp] theorem z6d (es:List (PV×PV)):(PV.vmap es).cells=[.vmap es]:=rfl
@[simp] theorem xbu (es:List PV):(PV.vp es).cells=[.vp es]:=rfl
@[simp] theorem z9v:PV.sl0.cells=[.sl0]:=rfl
@[simp] theorem xbr:PV.e0.cells=[.e0]:=rfl
@[simp] theorem z6a:PV.ptr0.cells=[.ptr0]:=rfl
@[simp] theorem z6h:PV.map0.cells=[.map0]:=rfl
@[simp] theorem z0c:PV.nilFunc.cells=[.nilFunc]:=rfl
@[simp] theorem z6c (f:FuncId)(xs ys:List PV):(PV.func f xs ys).cells=[.func f xs ys]:=rfl
@[simp] theorem z8c (i off:Nat):(PV.ptr i off).cells=[.ptr i off]:=rfl
@[simp] theorem z7g (i off l k:Nat):(PV.own i off l k).cells=[.own i off l k]:=rfl
@[simp] theorem z8w (i off l:Nat):(PV.sub i off l).cells=[.sub i off l]:=rfl
@[simp] theorem z6g (i n:Nat)(nl:Bool):(PV.grow i n nl).cells=[.grow i n nl]:=rfl
@[simp] theorem z5y (i:Nat):(PV.mapv i).cells=[.mapv i]:=rfl
@[simp] theorem z8j (cs:List PV):(PV.tup cs).cells=[.tup cs]:=rfl
@[simp] theorem z4i (a b:List PV):PV.allF (a++b)=(PV.allF a&&PV.allF b):=by
 induction a with
 |nil=>rfl
 |cons v r ih=>simp only[List.cons_append,PV.allF,ih,Bool.and_assoc]
theorem zbw (a b:Nat):Nat.ble a b=decide (a≤b):=by rw[Bool.eq_iff_iff];simp
theorem zbx (a b:Nat):Nat.blt a b=decide (a<b):=by rw[Bool.eq_iff_iff];simp
section
variable {P:Program} {N b:Nat} {Q:zfz} {vts:VTs} {vh:zab}
theorem VW.zal {c:Operand}{x y:Code}{v:Bool}(hc:za6 vts c=some (.bool v))(hT:v=true→VW P N b x Q vts vh)(hF:v=false→VW P N b y Q vts vh):VW P N b (.cond c x y) Q vts vh:=by
 cases v with
 |true=>exact .zey hc (hT rfl)
 |false=>exact .zd3 hc (hF rfl)
theorem VOps.split {ops:Array Oper}{K:VTs→zab→Prop}{l:List Nat}{t:Nat}{v:Bool}(hv:tget t vts=some (.bool v))(hT:v=true→VOps P N b ops K l vts vh)(hF:v=false→VOps P N b ops K l vts vh):VOps P N b ops K l vts vh:=by
 cases v with
 |true=>exact hT rfl
 |false=>exact hF rfl
theorem VScr.split {ops:Array Oper}{W todo:List Nat}{K:VTs→zab→Prop}{l:List zfl}{t:Nat}{v:Bool}(hv:tget t vts=some (.bool v))(hT:v=true→VScr P N b ops W K l todo vts vh)(hF:v=false→VScr P N b ops W K l todo vts vh):VScr P N b ops W K l todo vts vh:=by
 cases v with
 |true=>exact hT rfl
 |false=>exact hF rfl
theorem VW.zac {id:Nat}{ops:Array Oper}(l:List Nat)(hl:List.range ops.size=l)(hd:zlo N ops=true)(hk:VOps P N b ops (Q .normal) l vts vh):VW P N b (.region id ops false) Q vts vh:=.region hd (hl▸hk)
theorem VOps.step {ops:Array Oper}{K:VTs→zab→Prop}{i:Nat}{r:List Nat}{o:Oper}(ho:ops[i]?=some o)(hw:zaz ops o vts=some true)(hs:zgz P N b o (VOps P N b ops K r) vts vh):VOps P N b ops K (i::r) vts vh:=by
 simp only[VOps,ho,hw];exact hs
theorem VOps.done {ops:Array Oper}{K:VTs→zab→Prop}(hk:K vts vh):VOps P N b ops K [] vts vh:=hk
theorem zgz.pure {o:Oper}{next:VTs→zab→Prop}{fo:Operand}{args:Array Operand}{aT:Array TypeId}{f:FuncId}{xs ys l:List PV}{R:PV→Prop}(ho:o.op=.call ⟨.value fo,args,aT⟩)
  (hf:za6 vts fo=some (.func f xs ys)) (hl:zbo vts args.toList=some l) (hcf:∀cs w,(callFunc f cs).run P w=.ok (.enter f cs) w) (hd:zc1 N o.dst=true)
  (hp:zat P f (xs++l++ys) R) (hF:PV.allF (xs++l++ys)=true) (hn:∀r,R r→next (tput vts o.dst r) vh):zgz P N b o next vts vh:=
 .call ho hf hl hcf hd ((hp.call hF).mono fun r vh' ⟨h1,h2⟩=>h1▸hn r h2)
theorem zgz.borrow {o:Oper}{next:VTs→zab→Prop}{fo:Operand}{args:Array Operand}{aT:Array TypeId}{f:FuncId}{xs ys l args2:List PV}{R:PV→Prop}(ho:o.op=.call ⟨.value fo,args,aT⟩)
  (hf:za6 vts fo=some (.func f xs ys)) (hl:zbo vts args.toList=some l) (hcf:∀cs w,(callFunc f cs).run P w=.ok (.enter f cs) w) (hd:zc1 N o.dst=true)
  (hz:frzL vh (xs++l++ys)=some args2) (hp:zat P f args2 R) (hsc:∀v,R v→v.scal=true) (hn:∀r,R r→next (tput vts o.dst r) vh):zgz P N b o next vts vh:=
 .call ho hf hl hcf hd ((hp.borrow hz hsc).mono fun r vh' ⟨h1,h2⟩=>h1▸hn r h2)
theorem zfb.pure {ops:Array Oper}{todo:List Nat}{o:Oper}{next:List Nat→VTs→zab→Prop}{fo:Operand}{args:Array Operand}{aT:Array TypeId}{f:FuncId}{xs ys l:List PV}{R:PV→Prop}(ho:o.op=.call ⟨.value fo,args,aT⟩)
  (hf:za6 vts fo=some (.func f xs ys)) (hl:zbo vts args.toList=some l) (hcf:∀cs w,(callFunc f cs).run P w=.ok (.enter f cs) w) (hd:zc1 N o.dst=true)
  (hp:zat P f (xs++l++ys) R) (hF:PV.allF (xs++l++ys)=true) (hn:∀r,R r→next (zee ops todo o.dst) (tput vts o.dst r) vh):zfb P N b ops o todo next vts vh:=
 .zsa ho hf hl hcf hd ((hp.zsa hF).mono fun r vh' ⟨h1,h2⟩=>h1▸hn r h2)
theorem VScr.rd {ops:Array Oper}{W todo:List Nat}{K:VTs→zab→Prop}{m:Nat}{r:List zfl}{o:Oper}{v:PV}(ho:ops[m]?=some o)(hw:zaz ops o vts=some true)(hW:W.contains m=false)(hr:isR o.op=true)(hd:zc1 N o.dst=true)(hv:vop P vts vh o.op=some (v,vh))
  (k:VScr P N b ops W K r (bif zfm o then m::zee ops todo o.dst else zee ops todo o.dst) (tput vts o.dst v) vh):VScr P N b ops W K (.op m::r) todo vts vh:=by
 simp only[VScr,ho,hw,hW,xfq];exact⟨hr,hd,v,hv,k⟩
theorem VScr.wr {ops:Array Oper}{W todo:List Nat}{K:VTs→zab→Prop}{m:Nat}{r:List zfl}{o:Oper}(ho:ops[m]?=some o)(hw:zaz ops o vts=some true)(hW:W.contains m=true)
  (k:zfb P N b ops o todo (VScr P N b ops W K r) vts vh):VScr P N b ops W K (.op m::r) todo vts vh:=by
 simp only[VScr,ho,hw,hW,xfp];exact k
theorem VScr.un {ops:Array Oper}{W todo:List Nat}{K:VTs→zab→Prop}{m:Nat}{r:List zfl}{o:Oper}(ho:ops[m]?=some o)(hw:zaz ops o vts=some false)(hd:zc1 N o.dst=true)
  (k:VScr P N b ops W K r (zee ops todo o.dst) (tput vts o.dst (.tup [])) vh):VScr P N b ops W K (.op m::r) todo vts vh:=by
 simp only[VScr,ho,hw];exact⟨hd,k⟩
theorem VScr.ck {ops:Array Oper}{W todo:List Nat}{K:VTs→zab→Prop}{m:Nat}{r:List zfl}{o:Oper}(ho:ops[m]?=some o)(hc:todo.contains m=true)
  (k:VScr P N b ops W K r todo vts vh):VScr P N b ops W K (.ck m::r) todo vts vh:=by
 simp only[VScr,ho];exact⟨.inl hc,k⟩
theorem VScr.done {ops:Array Oper}{W todo:List Nat}{K:VTs→zab→Prop}(hk:K vts vh):VScr P N b ops W K [] todo vts vh:=hk
end
end Go.Am
end
/-
 The value machine, part N: pure calls that take what they are given.
-/
section
namespace Go.Am
theorem Alt.ziv {vh:zab}{n2:Nat}{D:Nat→Bool}{ρ:Nat→Nat}(i j n n':Nat)(nl:Bool)(hn:n=n')(hj:j<n2)(hi:ρ j=i):Alt vh n2 D ρ (.grow i n nl) (.grow j n' nl):=hn▸.grow i j n nl hj hi
mutual
def PV.ids:PV→List Nat
 |.func _ xs ys=>PV.idsL xs++PV.idsL ys
 |.agg cs=>PV.idsL cs
 |.tup cs=>PV.idsL cs
 |.ptr i _|.own i _ _ _|.sub i _ _|.grow i _ _|.mapv i|.yld i=>[i]
 |_=>[]
def PV.idsL:List PV→List Nat
 |[]=>[]
 |v::r=>v.ids++PV.idsL r
end
def zcc:List Nat→zab→zab
 |[],vh=>vh
 |i::r,vh=>zcc r (vh.drop i)
theorem zdm:∀(l:List Nat) (vh:zab),(zcc l vh).next=vh.next
 |[],_=>rfl
 |i::r,vh=>zdm r (vh.drop i)
theorem zc4:∀(l:List Nat) (vh:zab) (j:Nat) (y:VObj),(zcc l vh).get j=some y→j∉l∧vh.get j=some y
 |[],_,j,y,h=>⟨by simp,h⟩
 |i::r,vh,j,y,h=>by
  obtain⟨h1,h2⟩:=zc4 r (vh.drop i) j y h
  obtain⟨h3,h4⟩:=zbd h2
  exact⟨by simp[h1,h3],h4⟩
mutual
theorem z0q (vh:zab)(D:Nat→Bool):∀(v v2:PV),(∀i∈v.ids,D i=true)→frz vh v=some v2→Alt vh 0 D id v v2
 |.func f xs ys,v2,hD,h=>by
  simp only[frz] at h
  simp only[PV.ids,List.mem_append] at hD
  split at h
  ·rename_i a c h1 h2
   injection h with h;subst h
   exact .func' (zf3 vh D xs a (fun i hi=>hD i (.inl hi)) h1) (zf3 vh D ys c (fun i hi=>hD i (.inr hi)) h2)
  cases h
 |.agg cs,v2,hD,h=>by
  simp only[frz] at h
  simp only[PV.ids] at hD
  obtain⟨l,h1,rfl⟩:=zad h
  exact .agg' (zf3 vh D cs l hD h1)
 |.tup cs,v2,hD,h=>by
  simp only[frz] at h
  simp only[PV.ids] at hD
  obtain⟨l,h1,rfl⟩:=zad h
  exact .tup' (zf3 vh D cs l hD h1)
 |.ptr i off,v2,hD,h=>by
  have hDi:=hD i (by simp[PV.ids])
  simp only[frz] at h
  split at h
  ·rename_i cs hg
   cases hb:(PV.allF cs&&Nat.ble off cs.length) with
   |false=>rw[hb] at h;cases h
   |true=>
    rw[hb] at h;simp only[xfp,xfm] at h;subst h
    simp only[xfr,Nat.ble_eq] at hb
    exact .fptr i off cs hDi hg hb.1 hb.2
  ·rename_i ag sz cs hg
   cases hb:Nat.ble off cs.length with
   |false=>rw[hb] at h;cases h
   |true=>
    rw[hb] at h;simp only[xfp,xfm] at h;subst h
    exact .fptrA i off ag sz cs hDi hg (by simpa using hb)
  cases h
 |.own i off len k,v2,hD,h=>by
  have hDi:=hD i (by simp[PV.ids])
  simp only[frz] at h
  rcases zam len 0 with⟨hq,hq'⟩|⟨hq,hq'⟩
  ·rw[hq] at h;simp only[xfp,xfm] at h;subst h;subst hq';exact .own0v i off k
  rw[hq] at h;simp only[xfq] at h
  split at h
  ·rename_i ag sz cs hg
   obtain⟨es,h1,rfl⟩:=zad h
   exact .fown i off len k ag sz cs es hDi hg h1
  cases h
 |.sub i off len,v2,hD,h=>by
  have hDi:=hD i (by simp[PV.ids])
  simp only[frz] at h
  rcases zam len 0 with⟨hq,hq'⟩|⟨hq,hq'⟩
  ·rw[hq] at h;simp only[xfp,xfm] at h;subst h;subst hq';exact .sub0v i off
  rw[hq] at h;simp only[xfq] at h
  split at h
  ·rename_i ag sz cs hg
   obtain⟨es,h1,rfl⟩:=zad h
   exact .fsub i off len ag sz cs es hDi hg h1
  cases h
 |.grow i n nl,v2,hD,h=>by
  have hDi:=hD i (by simp[PV.ids])
  simp only[frz] at h
  split at h
  ·rename_i sz es hg
   rcases zam es.length n with⟨hq,hq'⟩|⟨hq,hq'⟩
   ·rw[hq] at h;simp only[xfp,xfm] at h;subst h;exact .fgrow i n nl sz es hDi hg hq'
   rw[hq] at h;cases h
  rcases zam n 0 with⟨hq,hq'⟩|⟨hq,hq'⟩
  ·rw[hq] at h;simp only[xfp,xfm] at h;subst h;subst hq';exact .grow0v i nl
  rw[hq] at h;cases h
 |.iface t v,v2,hD,h=>by
  simp only[frz] at h
  cases hf:v.isF with
  |false=>rw[hf] at h;cases h
  |true=>rw[hf] at h;simp only[xfp,xfm] at h;subst h;exact .same _ (by simp only[PV.isF];exact hf)
 |.mapv i,v2,hD,h=>by
  have hDi:=hD i (by simp[PV.ids])
  simp only[frz] at h
  split at h
  ·rename_i es hg
   injection h with h;subst h;exact .fmap i es hDi hg
  cases h
 |.vmap es,v2,hD,h=>by simp only[frz,xfm] at h;subst h;exact .same _ rfl
 |.yld _,v2,hD,h=>by simp[frz] at h
 |.bool b,v2,hD,h=>by simp only[frz,xfm] at h;subst h;exact .same _ rfl
 |.int k n,v2,hD,h=>by simp only[frz,xfm] at h;subst h;exact .same _ rfl
 |.str s,v2,hD,h=>by simp only[frz,xfm] at h;subst h;exact .same _ rfl
 |.nilFunc,v2,hD,h=>by simp only[frz,xfm] at h;subst h;exact .same _ rfl
 |.nilIface,v2,hD,h=>by simp only[frz,xfm] at h;subst h;exact .same _ rfl
 |.ptr0,v2,hD,h=>by simp only[frz,xfm] at h;subst h;exact .same _ rfl
 |.sl0,v2,hD,h=>by simp only[frz,xfm] at h;subst h;exact .same _ rfl
 |.map0,v2,hD,h=>by simp only[frz,xfm] at h;subst h;exact .same _ rfl
 |.e0,v2,hD,h=>by simp only[frz,xfm] at h;subst h;exact .same _ rfl
 |.vec es,v2,hD,h=>by simp only[frz,xfm] at h;subst h;exact .same _ rfl
 |.vp cs,v2,hD,h=>by simp only[frz,xfm] at h;subst h;exact .same _ rfl
theorem zf3 (vh:zab)(D:Nat→Bool):∀(l l2:List PV),(∀i∈PV.idsL l,D i=true)→frzL vh l=some l2→AltL vh 0 D id l l2
 |[],l2,hD,h=>by simp only[frzL,xfm] at h;subst h;exact .nil
 |v::r,l2,hD,h=>by
  simp only[frzL] at h
  simp only[PV.idsL,List.mem_append] at hD
  split at h
  ·rename_i a l h1 h2
   injection h with h;subst h
   exact .cons (z0q vh D v a (fun i hi=>hD i (.inl hi)) h1) (zf3 vh D r l (fun i hi=>hD i (.inr hi)) h2)
  cases h
end
section
variable {P:Program} {N b:Nat} {vts:VTs} {vh:zab}
theorem zat.zr0 {f:FuncId}{args args2:List PV}{R:PV→Prop}(hp:zat P f args2 R)(ha2:frzL vh args=some args2):zbj P f args vh fun v vh'=>vh'=zcc (PV.idsL args) vh∧R v:=fun lo g σ h args' ha s=>by
 have hA:=zf3 vh (fun i=>(PV.idsL args).contains i) args args2 (fun i hi=>by simpa using hi) ha2
 have ha0:=AltL.ok s hA ha
 have hF:PV.allF args2=true:=zha vh args args2 ha2
 have hle:=zew (D:=fun i=>(PV.idsL args).contains i) s
 have hS:VS lo (g.more σ vh h fun i=>(PV.idsL args).contains i) σ (zcc (PV.idsL args) vh) h:=by
  refine⟨fun j y hy=>?_,fun j k y z hy hz=>s.inj j k y z (zc4 _ _ _ _ hy).2 (zc4 _ _ _ _ hz).2,fun j y hy=>s.low j y (zc4 _ _ _ _ hy).2,zky s,fun j y hy hl=>?_,s.lole⟩
  ·obtain⟨k1,k2⟩:=s.obj j y (zc4 _ _ _ _ hy).2
   rw[zdm]
   exact⟨k1,k2.mono hle (Nat.le_refl _) (fun _ _=>rfl) k1 fun _=>rfl⟩
  obtain⟨h1,h2⟩:=zc4 _ _ _ _ hy
  unfold Fz.more
  rw[if_neg]
  ·exact s.dis j y h2 hl
  rintro⟨i,z,k1,k2,k3,k4⟩
  have:=s.inj i j z y k2 h2 k3 hl k4
  subst this
  exact h1 (by simpa using k1)
 have hVF:VF σ vh h σ (zcc (PV.idsL args) vh) h:=⟨Nat.le_refl _,fun _ _ _=>rfl,fun j y hy hl _=>⟨j,y,(zc4 _ _ _ _ hy).2,hl,rfl⟩⟩
 refine((hp.zsa (vh:=zcc (PV.idsL args) vh) hF) lo _ σ h args' (ha0.isF hF).vr hS).mono fun r h' ⟨h0,g',σ',v,vh',h1,h2,h3,h4,h5,h6,h7,h8⟩=>?_
 rw[zdm] at h4 h6
 exact⟨g',σ',v,vh',h1,h2,Fz.le_trans hle h3,h4,hVF.trans h5,h6,zjz.trans hVF h7,h8⟩
theorem zgz.take {o:Oper}{next:VTs→zab→Prop}{fo:Operand}{args:Array Operand}{aT:Array TypeId}{f:FuncId}{xs ys l args2:List PV}{R:PV→Prop}(ho:o.op=.call ⟨.value fo,args,aT⟩)
  (hf:za6 vts fo=some (.func f xs ys)) (hl:zbo vts args.toList=some l) (hcf:∀cs w,(callFunc f cs).run P w=.ok (.enter f cs) w) (hd:zc1 N o.dst=true)
  (hz:frzL vh (xs++l++ys)=some args2) (hp:zat P f args2 R) (hn:∀r,R r→next (tput vts o.dst r) (zcc (PV.idsL (xs++l++ys)) vh)):zgz P N b o next vts vh:=
 .call ho hf hl hcf hd ((hp.zr0 hz).mono fun r vh' ⟨h1,h2⟩=>h1▸hn r h2)
theorem zfb.take {ops:Array Oper}{todo:List Nat}{o:Oper}{next:List Nat→VTs→zab→Prop}{fo:Operand}{args:Array Operand}{aT:Array TypeId}{f:FuncId}{xs ys l args2:List PV}{R:PV→Prop}(ho:o.op=.call ⟨.value fo,args,aT⟩)
  (hf:za6 vts fo=some (.func f xs ys)) (hl:zbo vts args.toList=some l) (hcf:∀cs w,(callFunc f cs).run P w=.ok (.enter f cs) w) (hd:zc1 N o.dst=true)
  (hz:frzL vh (xs++l++ys)=some args2) (hp:zat P f args2 R) (hn:∀r,R r→next [] (tput vts o.dst r) (zcc (PV.idsL (xs++l++ys)) vh)):zfb P N b ops o todo next vts vh:=
 .call ho hf hl hcf hd ((hp.zr0 hz).mono fun r vh' ⟨h1,h2⟩=>h1▸hn r h2)
theorem zat.alt {f:FuncId}{args:List PV}{R R2:PV→Prop}(hp:zat P f args R)(ha:∀r,R r→∃r2,Alt zab.empty 0 (fun _=>true) id r r2∧r2.isF=true∧R2 r2):zat P f args R2:=fun lo g σ h args' hA s=>by
 refine(hp lo g σ h args' hA s).mono fun r h' ⟨g',σ',v,vh',h1,h2,h3,h4,h5,h6,h7,h8,h9⟩=>?_
 obtain⟨r2,k1,k2,k3⟩:=ha v h9
 have s0:VS lo g' σ' zab.empty h':=.none h2.fz h2.lole σ'
 have hv:VR g' σ' zab.empty.next v r:=.fr _ _ (h1.isF h8)
 have k4:=(k1.ok s0 r hv).isF k2
 have hmore:g'.more σ' zab.empty h' (fun _=>true)=g':=by
  funext o
  unfold Fz.more
  rw[if_neg]
  rintro⟨i,x,_,hx,_⟩
  cases hx
 rw[hmore] at k4
 exact⟨g',σ',r2,vh',.fr _ _ k4,h2,h3,h4,h5,h6,h7,k2,k3⟩
end
end Go.Am
end
