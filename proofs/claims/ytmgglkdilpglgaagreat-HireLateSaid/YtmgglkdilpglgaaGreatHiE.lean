/-
 What is used in the proof of a statement (part HiE); no condition.
-/
import Derived.Test.YtmgglkdilpglgaaGreatHiT
import Derived.Test.YtmgglkdilpglgaaGreatAm3
import Derived.Test.YtmgglkdilpglgaaGreatAm2
import Derived.Test.YtmgglkdilpglgaaGreatVm2
set_option linter.all false
set_option maxHeartbeats 40000000
set_option maxRecDepth 100000
section
namespace Go.Am.Hi
open Go Go.Am Go.Proofs Tryz
def zrw (H:zaa)(N lo:Nat)(ks:List Value):Prop:=
 (ks=[]∧H.get N=some (.cells 0 [.slice none 0 0]))∨(ks≠[]∧∃o,lo≤o∧o≠N∧o≠N+1∧H.get N=some (.cells 0 [.slice (some ⟨o,0,none⟩) ks.length inex])∧H.get o=some (.cells 1 ks))
noncomputable def zmm:Array Oper:=#[{ dst:=some 8,op:=Op.load 22 (Operand.tmp 2),type:=22,pos := "iter.go:52", after:=#[],guard:=none },
 { dst:=some 9,op:=Op.move (Operand.tmp 5),type:=3,pos := "iter.go:52", after:=#[],guard:=none },
 { dst:=some 10,op:=Op.buildSlice 22 1 #[(0,Operand.tmp 9)],type:=22,pos := "iter.go:52", after:=#[{ on:=1,ground:=Ground.data }],guard:=none },
 { dst:=some 11,op:=Op.call { callee:=Callee.builtin Builtin.append,args:=#[Operand.tmp 8,Operand.tmp 10],argTypes:=#[22,22] },type:=22,pos := "iter.go:52", after:=#[{ on:=0,ground:=Ground.data },{ on:=2,ground:=Ground.data }],guard:=none },
 { dst:=none,op:=Op.store 22 (Operand.tmp 2) (Operand.tmp 11),type:=0,pos := "iter.go:52", after:=#[{ on:=3,ground:=Ground.data },{ on:=3,ground:=Ground.chain },{ on:=0,ground:=Ground.phase },{ on:=1,ground:=Ground.phase },{ on:=2,ground:=Ground.phase },{ on:=3,ground:=Ground.phase }],guard:=none }]
theorem tz3:zgv prog 3=some [.int .i64 0]:=by rfl
theorem grow_step {H:zaa}{N lo:Nat}{ks:List Value}{k:Int}(hN:lo≤N)(hg:zrw H N lo ks)(hlen:ks.length<1000000){ts:Tmps}(hts:ts.length=13)(h2:ts.getD 2 Go.undef=.pointer (some ⟨N,0,none⟩))(h5:ts.getD 5 Go.undef=.int .i64 k) :
  ∃ts' H',zcs prog lo zmm (List.range zmm.size) ts H=some (ts',H')∧zrw H' N lo (ks++[.int .i64 k])∧H.next≤H'.next∧∀i,i<H.next→i≠N→(∀o,H.get N=some (.cells 0 [.slice (some ⟨o,0,none⟩) ks.length inex])→i≠o)→H'.get i=H.get i:=by
 match ts,hts with
 |[a0,a1,a2,a3,a4,a5,a6,a7,a8,a9,a10,a11,a12],_=>
 simp only[List.getD_cons_zero,List.getD_cons_succ] at h2 h5
 subst h2;subst h5
 have hb1:Nat.ble lo N=true:=by rw[Nat.ble_eq];exact hN
 rcases hg with⟨rfl,hN0⟩|⟨hne,o,hlo,hon,hon1,hN0,ho⟩
 ·have hlt:=zaa.zal hN0
  have g1:(H.alloc (.cells 0 [.int .i64 k])).get H.next=some (.cells 0 [.int .i64 k]):=by rw[zaa.zaj,if_pos rfl]
  have g2:((H.alloc (.cells 0 [.int .i64 k])).alloc (.cells 1 [.int .i64 k])).get N=some (.cells 0 [.slice none 0 0]):=by
   rw[zaa.zaj,if_neg (by simp;omega),zaa.zaj,if_neg (by omega)];exact hN0
  refine⟨[a0,a1,.pointer (some ⟨N,0,none⟩),a3,a4,.int .i64 k,a6,a7,.slice none 0 0,.int .i64 k,.slice (some ⟨H.next,0,none⟩) 1 1,.slice (some ⟨H.next+1,0,none⟩) 1 inex,a12],((H.alloc (.cells 0 [.int .i64 k])).alloc (.cells 1 [.int .i64 k])).put N (some (.cells 0 [.slice (some ⟨H.next+1,0,none⟩) 1 inex])),?_,?_,?_,?_⟩
  ·simp[zcs,zmm,List.range,List.range.loop,aop,zav,zcf,zfq,Region.wanted,zaq,aput,zcr,za7,List.set,zhc,hN0,zco,tz3,zjg,reps,zbq,zcn,alen,zb3,g1,zij,g2,hN,beq_eq,zdn,zed,zbs,Value.cells,Value.oneCell',inex]
  ·refine .inr ⟨by simp,H.next+1,by omega,by omega,by omega,?_,?_⟩
   ·rw[zaa.zap _ _ _ _ (by simp;omega),if_pos rfl];rfl
   rw[zaa.zap _ _ _ _ (by simp;omega),if_neg (by omega),zaa.zaj,if_pos (by simp)];rfl
  ·simp;omega
  intro i hi hiN _
  rw[zaa.zap _ _ _ _ (by simp;omega),if_neg hiN,zaa.zaj,if_neg (by simp;omega),zaa.zaj,if_neg (by omega)]
 have hlt:=zaa.zal hN0
 have holt:=zaa.zal ho
 have hbo:Nat.ble lo o=true:=by rw[Nat.ble_eq];exact hlo
 have hpos:0<ks.length:=List.length_pos_iff.2 hne
 have g1:(H.alloc (.cells 0 [.int .i64 k])).get H.next=some (.cells 0 [.int .i64 k]):=by rw[zaa.zaj,if_pos rfl]
 have g3:(H.alloc (.cells 0 [.int .i64 k])).get o=some (.cells 1 ks):=by rw[zaa.zaj,if_neg (by omega)];exact ho
 have g2:(((H.alloc (.cells 0 [.int .i64 k])).put o none).alloc (.cells 1 (ks++[.int .i64 k]))).get N=some (.cells 0 [.slice (some ⟨o,0,none⟩) ks.length inex]):=by
  rw[zaa.zaj,if_neg (by simp;omega),zaa.zap _ _ _ _ (by simp;omega),if_neg (by omega),zaa.zaj,if_neg (by omega)];exact hN0
 have hno:¬(ks.length+1≤ks.length):=by omega
 have hL:ks.length+1≤17592186044416:=by omega
 have hL2:(2*(ks.length+1)+192)*8≤281474976710656:=by omega
 refine⟨[a0,a1,.pointer (some ⟨N,0,none⟩),a3,a4,.int .i64 k,a6,a7,.slice (some ⟨o,0,none⟩) ks.length inex,.int .i64 k,.slice (some ⟨H.next,0,none⟩) 1 1,.slice (some ⟨H.next+1,0,none⟩) (ks.length+1) inex,a12],((((H.alloc (.cells 0 [.int .i64 k])).put o none).alloc (.cells 1 (ks++[.int .i64 k]))).put N (some (.cells 0 [.slice (some ⟨H.next+1,0,none⟩) (ks.length+1) inex]))),?_,?_,?_,?_⟩
 ·simp[zcs,zmm,List.range,List.range.loop,aop,zav,zcf,zfq,Region.wanted,zaq,aput,zcr,za7,List.set,zhc,hN0,zco,tz3,zjg,reps,zbq,zcn,alen,zb3,g1,g3,zij,g2,hN,hlo,hno,beq_eq,zdn,zed,zbs,Value.cells,Value.oneCell',inex,unk,hL,hL2]
 ·refine .inr ⟨by simp,H.next+1,by omega,by omega,by omega,?_,?_⟩
  ·rw[zaa.zap _ _ _ _ (by simp;omega),if_pos rfl];simp
  rw[zaa.zap _ _ _ _ (by simp;omega),if_neg (by omega),zaa.zaj,if_pos (by simp)]
 ·simp;omega
 intro i hi hiN hio
 have hio:=hio o hN0
 rw[zaa.zap _ _ _ _ (by simp;omega),if_neg hiN,zaa.zaj,if_neg (by simp;omega),zaa.zap _ _ _ _ (by simp;omega),if_neg hio,zaa.zaj,if_neg (by omega)]
theorem zrw.put {H:zaa}{N lo:Nat}{ks:List Value}(hg:zrw H N lo ks)(x:Option AObj)(hl:N+1<H.next):zrw (H.put (N+1) x) N lo ks:=by
 rcases hg with⟨h1,h2⟩|⟨h1,o,h3,h4,h5,h6,h7⟩
 ·exact .inl ⟨h1,by rw[zaa.zap _ _ _ _ hl,if_neg (by omega)];exact h2⟩
 exact .inr ⟨h1,o,h3,h4,h5,by rw[zaa.zap _ _ _ _ hl,if_neg (by omega)];exact h6,by rw[zaa.zap _ _ _ _ hl,if_neg h5];exact h7⟩
theorem AOps.zla {P:Program}{lo:Nat}{ops:Array Oper}{K:Tmps→zaa→Prop}{l2:List Nat}:∀ {l:List Nat} {ts ts':Tmps} {h h':zaa},zcs P lo ops l ts h=some (ts',h')→AOps P lo ops K l2 ts' h'→AOps P lo ops K (l++l2) ts h
 |[],ts,ts',h,h',hr,hk=>by
  simp only[zcs,xfy,xfz] at hr
  obtain⟨rfl,rfl⟩:=hr;exact hk
 |i::r,ts,ts',h,h',hr,hk=>by
  simp only[zcs] at hr
  simp only[List.cons_append,AOps]
  cases ho:ops[i]? with
  |none=>rw[ho] at hr;cases hr
  |some o=>
   rw[ho] at hr
   simp only at hr ⊢
   cases hw:Region.wanted o (zaq ops ts) with
   |true=>
    rw[hw] at hr
    simp only[if_true] at hr ⊢
    split at hr
    ·rename_i v h1 ha
     exact zee.op ha (AOps.zla hr hk)
    cases hr
   |false=>
    rw[hw] at hr
    simp only[Bool.false_eq_true,if_false] at hr ⊢
    exact AOps.zla hr hk
theorem AOps.zzu {P:Program}{lo:Nat}{ops:Array Oper}{K:Tmps→zaa→Prop}{i:Nat}{r:List Nat}{o:Oper}{ts:Tmps}{h:zaa}(ho:ops[i]?=some o)(hw:Region.wanted o (zaq ops ts)=true)(hs:zee P lo o ts h (AOps P lo ops K r)):AOps P lo ops K (i::r) ts h:=by
 simp only[AOps,ho];rw[if_pos hw];exact hs
theorem zqw {α:Type}:∀ {l m:List α},l.Nodup→(∀x∈l,x∈m)→l.length≤m.length
 |[],_,_,_=>Nat.zero_le _
 |a::r,m,hn,h=>by
  rw[List.nodup_cons] at hn
  obtain⟨s,t,rfl⟩:=List.append_of_mem (h a List.mem_cons_self)
  have ih:=zqw (l:=r) (m:=s++t) hn.2 fun x hx=>by
   have:=h x (List.mem_cons_of_mem _ hx)
   rcases List.mem_append.1 this with h1|h1
   ·exact List.mem_append_left _ h1
   rcases List.mem_cons.1 h1 with rfl|h1
   ·exact absurd hx hn.1
   exact List.mem_append_right _ h1
  simp only[List.length_append,List.length_cons] at ih ⊢
  omega
theorem xan {vis es:List (Value×Value)}(h:(vis.map (·.1)).Nodup)(hs:∀p∈vis,p∈es):vis.length≤es.length:=
 zqw (List.Pairwise.of_map (·.1) (fun a b hab he=>hab (congrArg (·.1) he)) h) hs
noncomputable def z1g:Array Oper:=#[{ dst:=some 5,op:=Op.assign (Operand.tmp 7),type:=3,pos := "iter.go:51", after:=#[],guard:=none }]
noncomputable def assC:Code:=.region 2 z1g false
noncomputable def z3d:Code:=.block 1 (.region 3 zmm false)
theorem z4i {lo b m s off:Nat}{h:zaa}{cs:List Value}{es:List (Value×Value)}{kl:List Int}(hb:h.get b=some (.cells s cs))(hoff:cs[off]?=some (.map (some m)))(hm:h.get m=some (.map es))(hml:m<lo)(hlo:lo≤h.next)(hk:es.map (·.1)=kl.map (Value.int .i64))(hlen:es.length<1000000)(hnd:kl.Nodup) :
  zbx prog lo 161 [.slice none 0 0,.func (.func 159) #[] #[.pointer (some ⟨b,off,none⟩)]] h fun r h'=>∃vis:List (Value×Value),vis.Perm es∧((vis=[]∧r=.slice none 0 0)∨(vis≠[]∧∃o,lo≤o∧r=.slice (some ⟨o,0,none⟩) vis.length inex∧h'.get o=some (.cells 1 (vis.map (·.1))))):=by
 have hbl:=zaa.zal hb
 have hmn:=zaa.zal hm
 have hnd':(es.map (·.1)).Nodup:=by rw[hk];exact hnd.map _ fun a b hab=>by simpa using hab
 refine .zag func161 rfl ?_
 refine .seq (.region (AOps.run (by simp[zcs,List.range,List.range.loop,aop,zav,Region.wanted,zaq,aput,zcr,za7,List.set,ntmps161,List.replicate,abox,Value.cells];exact⟨rfl,rfl⟩) ?_))
 refine .seq (.seq (.region (AOps.run (by simp[zcs,List.range,List.range.loop,aop,zav,Region.wanted,zaq,aput,zcr,za7,List.set];exact⟨rfl,rfl⟩) ?_)))
 refine .block (.rangeFunc 161 rfl call159 ?_)
 have e1:(h.alloc (.cells 0 [.slice none 0 0])).next=h.next+1:=rfl
 obtain⟨L,hL⟩:∃L:zv4,L=⟨#[7],assC,z3d,[.slice none 0 0,.func (.func 159) #[] #[.pointer (some ⟨b,off,none⟩)],.pointer (some ⟨h.next,0,none⟩),Go.undef,.slice none 0 0,Go.undef,.func (.func 159) #[] #[.pointer (some ⟨b,off,none⟩)],Go.undef,Go.undef,Go.undef,Go.undef,Go.undef,Go.undef],161⟩:=⟨_,rfl⟩
 obtain⟨H2,hH2⟩:∃H2,(h.alloc (.cells 0 [.slice none 0 0])).alloc (.loop L none)=H2:=⟨_,rfl⟩
 have n2:H2.next=h.next+2:=by rw[← hH2];rfl
 have gN:H2.get h.next=some (.cells 0 [.slice none 0 0]):=by rw[← hH2,zaa.zaj,if_neg (by simp),zaa.zaj,if_pos rfl]
 have gL:H2.get (h.next+1)=some (.loop L none):=by rw[← hH2,zaa.zaj,if_pos (by rfl)]
 have gb:H2.get b=some (.cells s cs):=by rw[← hH2,zaa.zaj,if_neg (by simp;omega),zaa.zaj,if_neg (by omega)];exact hb
 have gm:H2.get m=some (.map es):=by rw[← hH2,zaa.zaj,if_neg (by simp;omega),zaa.zaj,if_neg (by omega)];exact hm
 show zbx prog lo 159 [.func (.yield (h.next+1)) #[] #[],.pointer (some ⟨b,off,none⟩)] ((h.alloc (.cells 0 [.slice none 0 0])).alloc (.loop ⟨#[7],assC,z3d,_,161⟩ none)) _
 rw[show (⟨#[7],assC,z3d,_,161⟩:zv4)=L from hL.symm,hH2]
 have hcall:zbx prog lo 159 [.func (.yield (h.next+1)) #[] #[],.pointer (some ⟨b,off,none⟩)] H2 fun _ h'=>h'.get (h.next+1)=some (.loop L none)∧h.next+2≤h'.next∧∃vis:List (Value×Value),vis.Perm es∧zrw h' h.next lo (vis.map (·.1)):=by
  refine .zag func159 rfl ?_
  refine AW.mapRange (i:=0) (j:=1) (tI:=5) (tN:=6) (tB:=7) (tE:=8) (k:=1) (x:=.tmp 4) rfl rfl rfl rfl rfl u158 rfl rfl rfl rfl rfl rfl rfl rfl rfl rfl ?_
  refine AOps.run (by simp[zcs,List.range,List.range.loop,aop,zav,Region.wanted,zaq,aput,zcr,za7,List.set,ntmps159,List.replicate,zhc,gb,hoff];exact⟨rfl,rfl⟩) ?_
  refine⟨m,es,14,fun vis ts hh=>ts.length=14∧ts.getD 0 Go.undef=.func (.yield (h.next+1)) #[] #[]∧ts.getD 5 Go.undef=.pointer (some ⟨H2.next,0,none⟩)∧hh.get (h.next+1)=some (.loop L none)∧h.next+2≤hh.next∧vis.length≤es.length∧(vis.map (·.1)).Nodup∧(∀p∈vis,p∈es)∧zrw hh h.next lo (vis.map (·.1)),by simp[zav],gm,⟨by decide,by decide,by decide,by decide,hml,fun p hp=>?_,fun vis ts hh hi=>hi.1,fun vis ts hh hi=>hi.2.2.1,?_,?_⟩,?_⟩
  ·have:p.1∈es.map (·.1):=List.mem_map_of_mem hp
   rw[hk,List.mem_map] at this
   obtain⟨q,_,hq⟩:=this
   rw[← hq];rfl
  ·rintro vis ⟨pk,pv⟩ ts hh ⟨hl,t0,t5,hgl,hnx,hvl,hvn,hvs,hgs⟩ hp hnv hgm
   obtain⟨q,hq,hqe⟩:∃q∈kl,Value.int .i64 q=pk:=by
    have:pk∈es.map (·.1):=List.mem_map_of_mem hp
    rw[hk,List.mem_map] at this
    exact this
   subst hqe
   have hll:=zaa.zal hgl
   have hvn2:((vis++[(Value.int .i64 q,pv)]).map (·.1)).Nodup:=by
    rw[List.map_append,List.nodup_append]
    exact⟨hvn,by simp,fun a ha c hc he=>by
     simp only[List.map_cons,List.map_nil,List.mem_singleton] at hc
     subst he;subst hc;exact hnv ha⟩
   have hvs2:∀p∈vis++[(Value.int .i64 q,pv)],p∈es:=fun p hp'=>by
    rcases List.mem_append.1 hp' with h|h
    ·exact hvs p h
    rw[List.mem_singleton] at h;subst h;exact hp
   have hvlt:vis.length<1000000:=by omega
   subst hL
   match ts,hl with
   |[a0,a1,a2,a3,a4,a5,a6,a7,a8,a9,a10,a11,a12,a13],_=>
   simp only[List.getD_cons_zero,List.getD_cons_succ] at t0 t5
   subst t0;subst t5
   refine AOps.run (by simp[zcs,List.range',aop,zav,Region.wanted,zaq,aput,zcr,za7,List.set,zhr];exact⟨rfl,rfl⟩) ?_
   refine .seq (.region ?_)
   refine AOps.zla (l:=[0,1]) (l2:=[2,3]) (by simp[zcs,aop,zav,Region.wanted,zaq,aput,zcr,za7,List.set];exact⟨rfl,rfl⟩) ?_
   refine AOps.zzu rfl rfl (zee.yield rfl rfl rfl hgl (by omega) rfl ?_)
   refine .region (AOps.run (by simp[zcs,z1g,List.range,List.range.loop,aop,zav,Region.wanted,zaq,aput,zcr,za7,List.set,zdv];exact⟨rfl,rfl⟩) ?_)
   obtain⟨ts',H',hr,hg',hn',hk'⟩:=grow_step (H:=hh.put (h.next+1) none) (N:=h.next) (lo:=lo) (k:=q) hlo (hgs.put none hll) (by rw[List.length_map];exact hvlt) (ts:=[.slice none 0 0,.func (.func 159) #[] #[.pointer (some ⟨b,off,none⟩)],.pointer (some ⟨h.next,0,none⟩),Go.undef,.slice none 0 0,.int .i64 q,.func (.func 159) #[] #[.pointer (some ⟨b,off,none⟩)],.int .i64 q,Go.undef,Go.undef,Go.undef,Go.undef,Go.undef]) rfl rfl rfl
   refine .block (.region (AOps.run hr ?_))
   have hn2:h.next+1<H'.next:=Nat.lt_of_lt_of_le hll hn'
   simp only[zb6,zor]
   refine AOps.run (by simp[zcs,aop,zav,Region.wanted,zaq,aput,zcr,za7,List.set,zhf];exact⟨rfl,rfl⟩) ?_
   show AW prog lo (.cond _ _ _) _ _ _
   refine AW.cond (b:=false) rfl ?_
   refine .skip ?_
   refine⟨by simp[aput],by simp[aput],by simp[aput],?_,?_,?_,?_,?_,?_⟩
   ·rw[zaa.zap _ _ _ _ hn2,if_pos rfl]
   ·show h.next+2≤H'.next;omega
   ·exact xan hvn2 hvs2
   ·exact hvn2
   ·exact hvs2
   rw[List.map_append];exact hg'.put _ hn2
  ·rintro vis ts hh ⟨hl,t0,t5,hgl,hnx,hvl,hvn,hvs,hgs⟩ hall hsub hnod hgm
   refine⟨[],rfl,hgl,hnx,vis,?_,hgs⟩
   have n1:vis.Nodup:=List.Pairwise.of_map (·.1) (fun a b hab he=>hab (congrArg (·.1) he)) hnod
   have n2:es.Nodup:=List.Pairwise.of_map (·.1) (fun a b hab he=>hab (congrArg (·.1) he)) hnd'
   exact(List.perm_ext_iff_of_nodup n1 n2).2 fun a=>⟨hsub a,hall a⟩
  refine⟨by simp[aput],by simp[aput],by simp[aput],?_,?_,by simp,by simp,by simp,.inl ⟨rfl,?_⟩⟩
  ·rw[zaa.zbi];exact gL
  ·rw[zaa.zce];omega
  rw[zaa.zbi];exact gN
 refine hcall.mono fun r h' ⟨k1,k2,vis,k3,k4⟩=>⟨L,none,k1,?_⟩
 have hl2:h.next+1<h'.next:=by omega
 have hg2:=k4.put none hl2
 rcases hg2 with⟨g1,g2⟩|⟨g1,o,g3,g4,g5,g6,g7⟩
 ·show AW prog lo _ _ _ (h'.put (h.next+1) none)
  refine .seq (.region (AOps.run (by simp[zcs,List.range,List.range.loop,aop,zav,Region.wanted,zaq,aput,zcr,za7,List.set,zhc,g2];exact⟨rfl,rfl⟩) ?_))
  refine .ret ⟨[.slice none 0 0],rfl,vis,k3,.inl ⟨?_,rfl⟩⟩
  cases vis with
  |nil=>rfl
  |cons a r=>cases g1
 show AW prog lo _ _ _ (h'.put (h.next+1) none)
 refine .seq (.region (AOps.run (by simp[zcs,List.range,List.range.loop,aop,zav,Region.wanted,zaq,aput,zcr,za7,List.set,zhc,g6];exact⟨rfl,rfl⟩) ?_))
 refine .ret ⟨[.slice (some ⟨o,0,none⟩) vis.length inex],rfl,vis,k3,.inr ⟨?_,o,g3,rfl,g7⟩⟩
 rintro rfl
 exact g1 rfl
end Go.Am.Hi
end
section
namespace Go.Am.Hi
open Go Go.Am Go.Proofs Tryz
theorem zot {lo b m s off:Nat}{h:zaa}{cs:List Value}{es:List (Value×Value)}{kl:List Int}(hb:h.get b=some (.cells s cs))(hoff:cs[off]?=some (.map (some m)))(hm:h.get m=some (.map es))(hml:m<lo)(hlo:lo≤h.next)(hk:es.map (·.1)=kl.map (Value.int .i64))(hlen:es.length<1000000)(hnd:kl.Nodup) :
  zbx prog lo 134 [.func (.func 159) #[] #[.pointer (some ⟨b,off,none⟩)]] h fun r h'=>∃vis:List (Value×Value),vis.Perm es∧((vis=[]∧r=.slice none 0 0)∨(vis≠[]∧∃o,lo≤o∧r=.slice (some ⟨o,0,none⟩) vis.length inex∧h'.get o=some (.cells 1 (vis.map (·.1))))):=by
 refine .zag func134 rfl ?_
 refine .seq (.region (AOps.run (by simp[zcs,List.range,List.range.loop,aop,zav,Region.wanted,zaq,aput,zcr,za7,List.set,ntmps134,List.replicate];exact⟨rfl,rfl⟩) ?_))
 refine .seq (.region ?_)
 refine AOps.zla (l:=[0]) (l2:=[1,2]) (by simp[zcs,aop,zav,Region.wanted,zaq,aput,zcr,za7,List.set];exact⟨rfl,rfl⟩) ?_
 refine AOps.zzu rfl rfl (zee.znr rfl rfl rfl call161 ((z4i hb hoff hm hml hlo hk hlen hnd).mono fun r h' hR=>?_))
 refine AOps.run (by simp[zcs,aop,zav,Region.wanted,zaq,aput,zcr,za7,List.set];exact⟨rfl,rfl⟩) ?_
 exact .ret ⟨[r],rfl,hR⟩
theorem ztw {lo b m s off:Nat}{h:zaa}{cs:List Value}{es:List (Value×Value)}{kl:List Int}(hb:h.get b=some (.cells s cs))(hoff:cs[off]?=some (.map (some m)))(hm:h.get m=some (.map es))(hml:m<lo)(hlo:lo≤h.next)(hk:es.map (·.1)=kl.map (Value.int .i64))(hlen:es.length<1000000)(hnd:kl.Nodup)(hne:kl≠[]) :
  zbx prog lo 73 [.func (.func 159) #[] #[.pointer (some ⟨b,off,none⟩)]] h fun r h'=>∃o,lo≤o∧r=.slice (some ⟨o,0,none⟩) kl.length inex∧h'.get o=some (.cells 1 ((kl.mergeSort fun x y=>decide (x≤y)).map (.int .i64))):=by
 refine .zag func73 rfl ?_
 refine .seq (.region (AOps.run (by simp[zcs,List.range,List.range.loop,aop,zav,Region.wanted,zaq,aput,zcr,za7,List.set,ntmps73,List.replicate];exact⟨rfl,rfl⟩) ?_))
 refine .seq (.region ?_)
 refine AOps.zla (l:=[0]) (l2:=[1,2]) (by simp[zcs,aop,zav,Region.wanted,zaq,aput,zcr,za7,List.set];exact⟨rfl,rfl⟩) ?_
 refine AOps.zzu rfl rfl (zee.znr rfl rfl rfl call134 ((zot hb hoff hm hml hlo hk hlen hnd).mono fun r h' hR=>?_))
 obtain⟨vis,hp,hR⟩:=hR
 have hel:es.length=kl.length:=by have:=congrArg List.length hk;simpa using this
 have hpos:0<kl.length:=List.length_pos_iff.2 hne
 have hvl:vis.length=kl.length:=by rw[hp.length_eq,hel]
 rcases hR with⟨rfl,_⟩|⟨_,o,h1,rfl,h3⟩
 ·simp at hvl;omega
 rw[hvl]
 have hperm:(vis.map (·.1)).Perm (kl.map (Value.int .i64)):=by rw[← hk];exact hp.map _
 obtain⟨zs,hzs,hzp⟩:∃zs:List Int,vis.map (·.1)=zs.map (Value.int .i64)∧zs.Perm kl:=by
  have:∀(l:List Value) (k:List Int),l.Perm (k.map (Value.int .i64))→∃zs:List Int,l=zs.map (Value.int .i64):=by
   intro l k hlk
   have hall:∀v∈l,∃n:Int,v=.int .i64 n:=fun v hv=>by
    obtain⟨n,_,hn⟩:=List.mem_map.1 (hlk.mem_iff.1 hv)
    exact⟨n,hn.symm⟩
   clear hlk
   induction l with
   |nil=>exact⟨[],rfl⟩
   |cons a r ih=>
    obtain⟨n,rfl⟩:=hall a List.mem_cons_self
    obtain⟨zs,hz⟩:=ih fun v hv=>hall v (List.mem_cons_of_mem _ hv)
    exact⟨n::zs,by rw[hz];rfl⟩
  obtain⟨zs,hz⟩:=this _ _ hperm
  refine⟨zs,hz,?_⟩
  rw[hz] at hperm
  have h2:=hperm.map (fun v=>match v with|Value.int _ n=>n|_=>0)
  simpa[List.map_map,Function.comp_def] using h2
 rw[hzs] at h3
 have hzl:zs.length=kl.length:=hzp.length_eq
 refine AOps.run (by simp[zcs,aop,zav,Region.wanted,zaq,aput,zcr,za7,List.set];exact⟨rfl,rfl⟩) ?_
 refine .seq (.region ?_)
 refine AOps.zla (l:=[0]) (l2:=[1]) (by simp[zcs,aop,zav,Region.wanted,zaq,aput,zcr,za7,List.set];exact⟨rfl,rfl⟩) ?_
 have hsort:=zbx.zub (lo:=lo) (h:=h') z2t (o:=o) (off:=0) (s:=1) (k:=inex) (cs:=zs.map (Value.int .i64)) (zs:=zs) h3 h1 (Nat.zero_le _) (fun i x hx=>by simp[hx]) (by omega) (by decide) (by omega)
 rw[hzl] at hsort
 refine AOps.zzu rfl rfl (zee.znr rfl rfl rfl call98 (hsort.mono fun r2 h2 ⟨e1,e2⟩=>?_))
 subst e1;subst e2
 refine .seq (.region (AOps.run (by simp[zcs,List.range,List.range.loop,aop,zav,Region.wanted,zaq,aput,zcr,za7,List.set];exact⟨rfl,rfl⟩) ?_))
 refine .ret ⟨[.slice (some ⟨o,0,none⟩) kl.length inex],rfl,o,h1,rfl,?_⟩
 have hol:=zaa.zal h3
 rw[zaa.zap _ _ _ _ hol,if_pos rfl]
 have hsp:zs.mergeSort (fun x y=>decide (x≤y))=kl.mergeSort fun x y=>decide (x≤y):=zx0 hzp
 rw[hsp]
 congr 2
 unfold zbs
 simp[hzl]
end Go.Am.Hi
end
section
namespace Go.Am.Hi
open Go Go.Am Go.Proofs Tryz
noncomputable def rdK (es:List (Value×Value)):Option (List Int):=
 List.rec (motive:=fun _=>Option (List Int)) (some []) (fun p _ ih=>match p.1,ih with
  |.int .i64 k,some l=>some (k::l)
  |_,_=>none) es
theorem zzo (a v:Value)(r:List (Value×Value)):rdK ((a,v)::r)=(match a,rdK r with|.int .i64 k,some l=>some (k::l)|_,_=>none):=rfl
theorem zuk:∀ {es:List (Value×Value)} {l:List Int},rdK es=some l→es.map (·.1)=l.map (Value.int .i64)
 |[],l,h0=>by
  have h:some ([]:List Int)=some l:=h0
  injection h with h;subst h;rfl
 |(a,v)::r,l,h0=>by
  rw[zzo] at h0
  split at h0
  ·rename_i k l1 h1
   injection h0 with h0;subst h0
   rw[List.map_cons,List.map_cons,zuk h1]
  cases h0
noncomputable def srtK (b:Nat)(h:zaa):Option (Value×zaa):=
 match h.get b with
 |some (.cells _ [.map (some m)])=>match h.get m with
  |some (.map es)=>match rdK es with
   | some (p :: r) => bif zoq (p :: r) && Nat.blt es.length 1000000 then
    some (.slice (some ⟨h.next,0,none⟩) (p::r).length inex,h.alloc (.cells 0 ((zsq (p::r)).map (.int .i64)))) else none
   |_=>none
  |_=>none
 |_=>none
theorem z2d {lo b:Nat}{h h':zaa}{r:Value}(hlo:lo≤h.next)(he:srtK b h=some (r,h')):zbx prog lo 73 [.func (.func 159) #[] #[.pointer (some ⟨b,0,none⟩)]] h fun r2 h2=>r2=r∧h2=h':=by
 unfold srtK at he
 split at he
 ·rename_i s m hb
  split at he
  ·rename_i es hm
   split at he
   ·rename_i p l hr
    cases hc:(zoq (p::l)&&Nat.blt es.length 1000000) with
    |false=>rw[hc] at he;cases he
    |true=>
     rw[hc,xf1] at he
     simp only[xfy,xfz] at he
     rw[xf3,zoz,Nat.blt_eq] at hc
     obtain⟨e1,e2⟩:=he
     subst e1;subst e2
     have hlen:(zsq (p::l)).length=(p::l).length:=(zhb _).length_eq
     have:=zbx.zzy (P:=prog) (lo:=lo) (h:=h) (f:=73) (args:=[.func (.func 159) #[] #[.pointer (some ⟨b,0,none⟩)]]) (zs:=zsq (p::l)) hlo (by rw[hlen];simp) (by
      refine(ztw (lo:=h.next) hb (off:=0) rfl hm (zaa.zal hm) (Nat.le_refl _) (zuk hr) hc.2 hc.1 (by simp)).mono ?_
      rintro r h' ⟨o,h1,rfl,h3⟩
      rw[zp5] at h3
      refine⟨o,0,inex,1,_,by rw[hlen],h1,by decide,h3,fun i x hx=>?_⟩
      rw[Nat.zero_add,List.getElem?_map,hx];rfl)
     rw[hlen] at this
     exact this
   cases he
  cases he
 cases he
noncomputable def z1y (orc:Orc)(args:List Value)(h:zaa):Option (Value×zaa):=
 match args with
 |[.func (.func 159) ⟨[]⟩ ⟨[.pointer (some ⟨b,0,none⟩)]⟩]=>srtK b h
 |_=>(zz6 prog 0 (zog tabL) (fun _=>none) 100000 orc).call 73 args h
noncomputable def fd79:FD:=match z1k f79 with
 |.seq (.region i0 o0 _) (.seq (.region i1 o1 _) (.seq (.region i2 o2 _) (.seq (.region i3 o3 _) rest)))=>match o3.toList with
  |[a,d]=>⟨f79,[(i0,o0),(i1,o1),(i2,o2)],i3,o3,[a],d,.tmp 6,rest,dd79,136,2⟩
  |_=>⟨f79,[],0,#[],[],⟨none,.move (.tmp 0),0, "", #[],none⟩,.tmp 6,.skip,dd79,136,2⟩
 |_=>⟨f79,[],0,#[],[],⟨none,.move (.tmp 0),0, "", #[],none⟩,.tmp 6,.skip,dd79,136,2⟩
theorem z2s:FDOK prog 79 fd79 #[]:=⟨func79,rfl,rfl,rfl,rfl,by decide +kernel,zt1⟩
noncomputable def spc (f:Nat):Option (Orc→List Value→zaa→Option (Value×zaa)):=cond (Nat.beq f 73) (some z1y) (cond (Nat.beq f 79) (some fun orc args h=>evD prog 0 100000 79 fd79 orc args h) none)
theorem mixed:prog.follows .mixedOrders=true:=by decide +kernel
theorem z6p:zqo prog 0 spc:=by
 intro orc ok f g hg args h r h' he
 unfold spc at hg
 cases h1:Nat.beq f 73 with
 |true=>
  have e:=xf4 h1
  subst e
  rw[h1,xf1,xfy] at hg
  subst hg
  unfold z1y at he
  split at he
  ·exact⟨call73,z2d (Nat.zero_le _) he⟩
  exact(zpf mixed (zpu zr2) zsa 100000 ok).1 73 _ h r h' he
 |false=>
  rw[h1,xf2] at hg
  cases h2:Nat.beq f 79 with
  |true=>
   have e:=xf4 h2
   subst e
   rw[h2,xf1,xfy] at hg
   subst hg
   exact⟨call79,z5t mixed ok z2s he⟩
  |false=>rw[h2,xf2] at hg;cases hg
noncomputable def orc0:Orc:=evK prog 0 (zog tabL) spc 100000 60
end Go.Am.Hi
end
namespace Go.Am.Hi
open Go
def zn (z:Int):Value:=.int .i64 z
def zN(l:List Int):List Value:=l.map zn
end Go.Am.Hi
