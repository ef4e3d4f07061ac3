/-
  What is used in the proof of a statement (part Vm2); no condition.
-/
import Derived.Shelf.SortM.SortNone
import Derived.SizedLaws
import Derived.ReadAgain
import Derived.ChangeArms
import Derived.ChangeSame
import Derived.Test.YtmgglkdilpglgaaGreatVm1
import Derived.Test.YtmgglkdilpglgaaGreatAm3
set_option linter.all false
/-
  The value machine, part O: the library's sort.
-/
section
namespace Go.Am
set_option linter.unusedVariables false
set_option linter.unusedSimpArgs false

theorem PRs.ints {g : Fz} : ∀ {l : List Int} {l' : List Value}, PRs (FR g) (l.map (PV.int .i64)) l' → l' = l.map (Value.int .i64)
  | [], l', h => h.inv_nil
  | a :: r, l', h => by
    obtain ⟨v', r', rfl, h1, h2⟩ := h.inv_cons
    cases h1
    rw [PRs.ints h2]; rfl
section
variable {P : Program} {vh : VHeap}

end
end Go.Am
end

/-
  The value machine, part P: ranges over maps.
-/
section
namespace Go.Am
set_option linter.unusedVariables false
set_option linter.unusedSimpArgs false

theorem SimR.lower {N b lo lo' : Nat} {g g' : Fz} {σ σ' : Sg} {vh vh' : VHeap} {h h' : AHeap} {ts' : Tmps} {vts' : VTs} (hle : lo ≤ lo') (a : SimR N b lo' g σ vh h ts' h' g' σ' vts' vh') : SimR N b lo g σ vh h ts' h' g' σ' vts' vh' :=
  ⟨a.t, a.len, ⟨a.s.obj, a.s.inj, fun i x hx hl => Nat.le_trans hle (a.s.low i x hx hl), a.s.fz, a.s.dis, Nat.le_trans hle a.s.lole⟩, a.le, a.agree, a.f, a.base, a.own⟩

theorem AOps.mono {P : Program} {lo : Nat} {ops : Array Oper} {K K' : Tmps → AHeap → Prop} (hk : ∀ ts h, K ts h → K' ts h) : ∀ {l : List Nat} {ts : Tmps} {h : AHeap}, AOps P lo ops K l ts h → AOps P lo ops K' l ts h
  | [], ts, h, ho => hk ts h ho
  | i :: r, ts, h, ho => by
    simp only [AOps] at ho ⊢
    cases hq : ops[i]? with
    | none => rw [hq] at ho; exact AOps.mono hk ho
    | some o =>
      rw [hq] at ho
      simp only at ho ⊢
      by_cases hw : Region.wanted o (ayielded ops ts) = true
      · rw [if_pos hw] at ho ⊢; exact AStep.mono ho fun ts h => AOps.mono hk
      · rw [if_neg hw] at ho ⊢; exact AOps.mono hk ho

section
variable {P : Program} {N i j tI tN tB tE : Nat} {o1 o2 o3 : Oper} {ops2 : Array Oper} {body : Code} {id1 id2 : Nat}

theorem reserve1_get (h : AHeap) (o : Nat) : (AHeap.reserve 1 h).get o = h.get o := AHeap.reserve_get 1 h o
theorem reserve1_next (h : AHeap) : (AHeap.reserve 1 h).next = h.next + 1 := AHeap.reserve_next 1 h

theorem VW.mapRange {Q : VPost} {vts : VTs} {id0 : Nat} {om o0 : Oper} {ty kt et : TypeId} {y : Operand} {tX : Tmp} {es : List (PV × PV)} (st : List Nat → VTs × VHeap) (I : List Nat → Prop)
    (hm : om.op = .move y) (gm : om.guard = none) (dm : om.dst = some tX) (h0 : o0.op = .range ty (.tmp tX)) (g0 : o0.guard = none) (d0 : o0.dst = some tI) (hu : P.underlying ty = some (.map kt et))
    (h1 : o1.op = .next (.tmp tI) false) (g1 : o1.guard = none) (d1 : o1.dst = some tN) (h2 : o2.op = .extract (.tmp tN) 0) (g2 : o2.guard = none) (d2 : o2.dst = some tB)
    (h3 : ops2[0]? = some o3) (h3op : o3.op = .entry (.tmp tI)) (g3 : o3.guard = none) (d3 : o3.dst = some tE) (hd2 : dstsB N ops2 = true)
    (hlt : tX < N ∧ tI < N ∧ tN < N ∧ tB < N ∧ tE < N) (hne : tN ≠ tI ∧ tB ≠ tI ∧ tE ≠ tI ∧ tX ≠ tI)
    (hy : veval vts y = some (.vmap es)) (hk : ∀ p ∈ es, ∃ kd n, p.1 = .int kd n) (hnd : (es.map (·.1)).Nodup)
    (hst : ∀ vis, tget tI (st vis).1 = some (.ptr 0 0) ∧ tget tN (st vis).1 = none)
    (hS : Rec 1 ((tI, .ptr 0 0) :: vts) ⟨1,[]⟩ (st []).1 (st []).2) (hSx : tget tX vts = none ∧ tget tI vts = none) (hI : I [])
    (step : ∀ vis k p, I vis → vis.Nodup → es[k]? = some p → k ∉ vis → VOps P N 1 ops2 (VW P N 1 body (inBlockV j (thenV (fun vts' vh' => I (vis ++ [k]) ∧ Rec 1 vts' vh' (st (vis ++ [k])).1 (st (vis ++ [k])).2) (inBlockV i Q)))) (List.range' 1 (ops2.size - 1)) ((tE, .tup [p.1, p.2]) :: (tB, .bool true) :: (st vis).1) (st vis).2)
    (fin : ∀ vis, I vis → vis.Nodup → (∀ k, k ∈ vis ↔ k < es.length) → Q .normal ((tB, .bool false) :: (st vis).1) (st vis).2) :
    VW P N 0 (.seq (.region id0 #[om, o0] false) (.block i (.loop (.seq (.region id1 #[o1, o2] false) (.seq (.cond (.tmp tB) .skip (.exit i)) (.block j (.seq (.region id2 ops2 false) body))))))) Q vts VHeap.empty := fun lo g σ h ts ht hn s hb => by
  obtain ⟨y', hy1, hy2⟩ := veval_ok ht hy
  have hyf := hy2.isF rfl
  cases hyf with
  | vmap _ m es' hgm hlen rk rv =>
  have hmh := s.fz _ _ hgm
  have hml : m < h.next := AHeap.lt_of_get hmh
  have hkeys' : es'.map (·.1) = (es.map fun p => match p.1 with | .int kd n => Value.int kd n | _ => Go.undef) := by
    apply List.ext_getElem?
    intro q
    rw [List.getElem?_map, List.getElem?_map]
    cases hq : es[q]? with
    | none => rw [List.getElem?_eq_none (by rw [List.getElem?_eq_none_iff] at hq; omega)]; rfl
    | some p =>
      have hql : q < es'.length := by
        rcases Nat.lt_or_ge q es.length with h | h
        · omega
        · rw [List.getElem?_eq_none h] at hq; cases hq
      have hq' : es'[q]? = some es'[q] := by simp [hql]
      rw [hq']
      have hr := rk q p _ hq hq'
      obtain ⟨kd, n, hp⟩ := hk p (List.mem_of_getElem? hq)
      rw [hp] at hr
      simp only [Option.map_some, hp]
      cases hv : es'[q].1 <;> rw [hv] at hr <;> cases hr <;> rfl
  have hself : ∀ p ∈ es', selfV p.1 = true := fun p hp => by
    have : p.1 ∈ es'.map (·.1) := List.mem_map.2 ⟨p, hp, rfl⟩
    rw [hkeys', List.mem_map] at this
    obtain ⟨q, hq, he⟩ := this
    obtain ⟨kd, n, hqe⟩ := hk q hq
    rw [hqe] at he
    rw [← he]; rfl
  have hinj : ∀ (a c : Nat) p q, es'[a]? = some p → es'[c]? = some q → p.1 = q.1 → a = c := fun a c p q ha hc he => by
    have hnd' : (es'.map (·.1)).Nodup := by
      rw [hkeys']
      have : es.map (fun p => match p.1 with | .int kd n => Value.int kd n | _ => Go.undef) = (es.map (·.1)).map fun p => match p with | .int kd n => Value.int kd n | _ => Go.undef := by rw [List.map_map]; rfl
      rw [this]
      refine List.Pairwise.map _ ?_ (List.Pairwise.and_mem.1 hnd)
      rintro a b ⟨ha, hb, hab⟩
      obtain ⟨p, hp, rfl⟩ := List.mem_map.1 ha
      obtain ⟨q, hq, rfl⟩ := List.mem_map.1 hb
      obtain ⟨k1, n1, e1⟩ := hk p hp
      obtain ⟨k2, n2, e2⟩ := hk q hq
      rw [e1, e2] at hab ⊢
      intro hh
      apply hab
      simp only [Value.int.injEq] at hh
      rw [hh.1, hh.2]
    have h1 : (es'.map (·.1))[a]? = some p.1 := by simp [ha]
    have h2 : (es'.map (·.1))[c]? = some q.1 := by simp [hc]
    rw [he] at h1
    have hal : a < (es'.map (·.1)).length := by
      rcases Nat.lt_or_ge a (es'.map (·.1)).length with h | h
      · exact h
      · rw [List.getElem?_eq_none h] at h1; cases h1
    exact (List.getElem?_inj hal hnd').1 (h1.trans h2.symm)
  obtain ⟨hlX, hlI, hlN, hlB, hlE⟩ := hlt
  obtain ⟨hn1, hn2, hn3, hn4⟩ := hne
  let ts1 := aput ts (some tX) (.map (some m))
  let hh := AHeap.reserve 1 h
  let σ2 : Sg := σ.put 0 (h.next, 0,0)
  let pt : Value := .pointer (some ⟨h.next, 0, none⟩)
  have hts1 : ts1.length = N := by simp [ts1, aput, hn]
  have hts2 : (aput ts1 (some tI) pt).length = N := by simp [aput, hts1]
  have s2 : VS h.next g σ2 ⟨1,[]⟩ hh := ⟨fun i x hx => (by cases hx), fun i j x y hx => (by cases hx), fun i x hx => (by cases hx), fun o x hx => by rw [reserve1_get]; exact s.fz o x hx, fun i x hx => (by cases hx), by rw [reserve1_next]; omega⟩
  have hpt : ∀ g', VR g' σ2 1 (.ptr 0 0) pt := fun g' => by
    have := VR.ptr (g := g') (σ := σ2) (n := 1) 0 0 h.next 0 0 (by omega) (Sg.put_same _ _ _)
    simpa using this
  have t2 : VT g σ2 1 ((tI, .ptr 0 0) :: vts) (aput ts1 (some tI) pt) := fun t v hv => by
    simp only [tget, beq_eq] at hv
    by_cases ht1 : t = tI
    · subst ht1; simp at hv; subst hv
      rw [aput_getD_same (by rw [hts1]; exact hlI)]; exact hpt g
    · simp [ht1] at hv
      have hX : t ≠ tX := fun h => by subst h; rw [hSx.1] at hv; cases hv
      rw [aput_getD_ne (fun h => ht1 h.symm)]
      show VR g σ2 1 v ((aput ts (some tX) (.map (some m))).getD t Go.undef)
      rw [aput_getD_ne (fun h => hX h.symm)]
      exact (ht t v hv).mono (Fz.le_refl g) (Nat.zero_le _) (fun i hi => (by cases hi))
  have F0 : VF σ VHeap.empty h σ2 ⟨1,[]⟩ hh := ⟨by rw [reserve1_next]; omega, fun o _ _ => reserve1_get h o, fun i x hx => (by cases hx)⟩
  have G0 : GOwn g σ VHeap.empty h g := GOwn.refl _ _ _ _
  have up : ∀ {K : VTs → VHeap → Prop} {ts' h'}, Sim N 1 h.next g σ2 ⟨1,[]⟩ hh K ts' h' → Sim N 0 lo g σ VHeap.empty h K ts' h' := fun {K ts' h'} ⟨g', σ', vts', vh', a, k⟩ =>
    ⟨g', σ', vts', vh', SimR.lower s.lole ⟨a.t, a.len, a.s, a.le, fun i hi => (by cases hi), F0.trans a.f, Nat.zero_le _, G0.trans F0 a.own⟩, k⟩
  let Inv : List (Value × Value) → Tmps → AHeap → Prop := fun vis' ts' h' => ∃ vis g' σ', vis.Nodup ∧ (∀ k ∈ vis, k < es'.length) ∧ vis' = vis.filterMap (es'[·]?) ∧ I vis ∧ SimR N 1 h.next g σ2 ⟨1,[]⟩ hh ts' h' g' σ' (st vis).1 (st vis).2
  have hIt : ∀ vis' ts' h', Inv vis' ts' h' → ts'.getD tI Go.undef = pt := by
    rintro vis' ts' h' ⟨vis, g', σ', _, _, _, _, a⟩
    have hv := a.t tI _ (hst vis).1
    have hag := a.agree 0 (by omega)
    generalize ts'.getD tI Go.undef = u at hv
    cases hv with
    | fr _ _ h => cases h
    | ptr _ _ o a k hi hs => rw [hag, show σ2 0 = (h.next, 0,0) from Sg.put_same _ _ _] at hs; cases hs; rfl
  refine (AW.raise h.next s.lole (Nat.le_refl _) (AW.mapRange (Q := fun e => Sim N 0 lo g σ VHeap.empty h (Q e)) (k := 1) (o0 := o0) (x := .tmp tX) rfl rfl h0 g0 d0 hu h1 g1 d1 h2 g2 d2 h3 h3op g3 d3 ?_)).mono fun e ts' h' hq => hq.1
  show AOps P h.next #[om, o0] _ [0] ts h
  simp only [AOps]
  have hw : Region.wanted om (ayielded #[om, o0] ts) = true := by simp [Region.wanted, gm]
  show (if Region.wanted om (ayielded #[om, o0] ts) = true then AStep P h.next om ts h _ else _)
  rw [if_pos hw]
  refine AStep.op (v := .map (some m)) (h' := h) (by rw [hm]; simp only [aop, hy1, Option.map_some]) ?_
  rw [dm]
  refine ⟨m, es', N, Inv, by simp only [aeval]; rw [aput_getD_same (by rw [hn]; exact hlX)], hmh, ⟨hlN, hlB, fun h => hn1 h, fun h => hn2 h, hml, hself, ?_, hIt, ?_, ?_⟩, ?_⟩
  · rintro vis' ts' h' ⟨vis, g', σ', _, _, _, _, a⟩; exact a.len
  · rintro vis' p ts' h' ⟨vis, g', σ', hvn, hvl, rfl, hIv, a⟩ hp hnv hgm'
    obtain ⟨k, hkp⟩ := List.getElem?_of_mem hp
    have hkl : k < es'.length := by
      rcases Nat.lt_or_ge k es'.length with h | h
      · exact h
      · rw [List.getElem?_eq_none h] at hkp; cases hkp
    have hkv : k ∉ vis := fun hkm => hnv (List.mem_map.2 ⟨p, List.mem_filterMap.2 ⟨k, hkm, hkp⟩, rfl⟩)
    obtain ⟨q, hq⟩ : ∃ q, es[k]? = some q := ⟨es[k]'(by omega), by simp [show k < es.length by omega]⟩
    have hk1 := rk k q p hq hkp
    have hk2 := rv k q p hq hkp
    have hle : g.le g' := a.le
    have hpair : VR g' σ' (st vis).2.next (.tup [q.1, q.2]) (.tuple #[p.1, p.2]) := .fr _ _ (.tup _ _ rfl fun i u u' hu hu' => by
      match i with
      | 0 => simp at hu hu'; subst hu; subst hu'; exact hk1.mono hle
      | 1 => simp at hu hu'; subst hu; subst hu'; exact hk2.mono hle
      | i + 2 => simp at hu)
    have tN0 : VT g' σ' (st vis).2.next (st vis).1 (aput ts' (some tN) (.tuple #[.bool true, p.1, p.2])) := fun t v hv => by
      have : t ≠ tN := fun h => by subst h; rw [(hst vis).2] at hv; cases hv
      rw [aput_getD_ne (fun h => this h.symm)]; exact a.t t v hv
    have hl1 : (aput ts' (some tN) (Value.tuple #[.bool true, p.1, p.2])).length = N := by simp [aput, a.len]
    obtain ⟨tB0, hl2⟩ := vt_put (Fz.le_refl g') (Nat.le_refl _) (fun _ _ => rfl) tN0 (some tB) (by simp [dstOK, hl1, hlB]) (.fr _ _ (.bool true) : VR g' σ' (st vis).2.next (.bool true) (.bool true))
    obtain ⟨tE0, hl3⟩ := vt_put (Fz.le_refl g') (Nat.le_refl _) (fun _ _ => rfl) tB0 (some tE) (by simp [dstOK, hl2, hl1, hlE]) hpair
    have a2 : SimR N 1 h.next g σ2 ⟨1,[]⟩ hh _ h' g' σ' ((tE, .tup [q.1, q.2]) :: (tB, .bool true) :: (st vis).1) (st vis).2 := ⟨tE0, by rw [hl3, hl2, hl1], a.s, a.le, a.agree, a.f, a.base, a.own⟩
    have := vops_ok (P := P) (dstsB_ok hd2) _ _ h' g' σ' _ _ a2 (step vis k q hIv hvn hq hkv)
    refine AOps.mono ?_ this
    rintro ts3 h3' ⟨g3, σ3, vts3, vh3, a3, hW⟩
    refine (hW h.next g3 σ3 h3' ts3 a3.t a3.len a3.s a3.base).mono fun e ts4 h4 hs => ?_
    have hs := hs.trans a3
    cases e with
    | normal =>
      obtain ⟨g4, σ4, vts4, vh4, a4, k4, D, ρ, a5⟩ := hs
      have a6 := a4.trans (a5.sim a4.t a4.len a4.s)
      refine ⟨vis ++ [k], _, _, ?_, ?_, ?_, k4, a6⟩
      · rw [List.nodup_append]; exact ⟨hvn, by simp, fun a ha b hb => by simp at hb; subst hb; rintro rfl; exact hkv ha⟩
      · intro k' hk'
        rcases List.mem_append.1 hk' with h | h
        · exact hvl k' h
        · simp at h; subst h; exact hkl
      · simp [List.filterMap_append, hkp]
    | exit id' =>
      simp only [inBlockA, inBlockV] at hs ⊢
      by_cases hij : id' = j
      · simp only [hij, if_true] at hs ⊢
        obtain ⟨g4, σ4, vts4, vh4, a4, k4, D, ρ, a5⟩ := hs
        have a6 := a4.trans (a5.sim a4.t a4.len a4.s)
        refine ⟨vis ++ [k], _, _, ?_, ?_, ?_, k4, a6⟩
        · rw [List.nodup_append]; exact ⟨hvn, by simp, fun a ha b hb => by simp at hb; subst hb; rintro rfl; exact hkv ha⟩
        · intro k' hk'
          rcases List.mem_append.1 hk' with h | h
          · exact hvl k' h
          · simp at h; subst h; exact hkl
        · simp [List.filterMap_append, hkp]
      · simp only [hij, if_false, thenA, thenV] at hs ⊢
        simp only [inBlockA, inBlockV] at hs ⊢
        by_cases hii : id' = i
        · simp only [hii, if_true] at hs ⊢; exact up hs
        · simp only [hii, if_false] at hs ⊢; exact up hs
    | goto l => exact up hs
    | ret => exact up hs
    | panic ch => exact up hs
    | outgrown => exact up hs
  · rintro vis' ts' h' ⟨vis, g', σ', hvn, hvl, rfl, hIv, a⟩ hall hsub hnod hgm'
    have tN0 : VT g' σ' (st vis).2.next (st vis).1 (aput ts' (some tN) (.tuple #[.bool false])) := fun t v hv => by
      have : t ≠ tN := fun h => by subst h; rw [(hst vis).2] at hv; cases hv
      rw [aput_getD_ne (fun h => this h.symm)]; exact a.t t v hv
    have hl1 : (aput ts' (some tN) (Value.tuple #[.bool false])).length = N := by simp [aput, a.len]
    obtain ⟨tB0, hl2⟩ := vt_put (Fz.le_refl g') (Nat.le_refl _) (fun _ _ => rfl) tN0 (some tB) (by simp [dstOK, hl1, hlB]) (.fr _ _ (.bool false) : VR g' σ' (st vis).2.next (.bool false) (.bool false))
    refine up ⟨g', σ', _, _, ⟨tB0, by rw [hl2, hl1], a.s, a.le, a.agree, a.f, a.base, a.own⟩, fin vis hIv hvn fun k => ⟨fun hkm => by rw [hlen]; exact hvl k hkm, fun hkl => ?_⟩⟩
    have hkl' : k < es'.length := by omega
    have hmem := hall es'[k] (List.getElem_mem hkl')
    rw [List.mem_filterMap] at hmem
    obtain ⟨k2, hk2, hk3⟩ := hmem
    have := hinj k k2 es'[k] es'[k] (by simp [hkl']) hk3 rfl
    subst this; exact hk2
  · refine ⟨[], ?_⟩
    obtain ⟨D, ρ, aS⟩ := hS
    have a0 : SimR N 1 h.next g σ2 ⟨1,[]⟩ hh (aput ts1 (some tI) pt) hh g σ2 ((tI, .ptr 0 0) :: vts) ⟨1,[]⟩ := .refl t2 hts2 s2 (Nat.le_refl _)
    exact ⟨_, _, List.nodup_nil, fun k hk => (by cases hk), rfl, hI, a0.trans (aS.sim t2 hts2 s2)⟩
end
end Go.Am
end

/-
  The value machine, part Q: the entry. What the caller handed over, read as values.
-/
section
namespace Go.Am

inductive CV (w : World) : PV → Value → Prop where
  | bool (b : Bool) : CV w (.bool b) (.bool b)
  | int (k : IntKind) (n : Int) : CV w (.int k n) (.int k n)
  | str (s : ByteArray) : CV w (.str s) (.string s)
  | nilIface : CV w .nilIface .nilIface
  | vecN : CV w (.vec []) (.slice none 0 0)
  | vec0 (p : Addr) (k : Nat) : CV w (.vec []) (.slice (some p) 0 k)
  | vec (es : List PV) (b off k sz : Nat) (cs : List Value) (hk : es.length ≤ k) (hl : es.length < inex) (h0 : 0 < sz) (hsz : ∀ e ∈ es, e.cells.length = sz) (hb : b < w.heap.size)
      (hc : ∀ (n : Nat) v', cs[n]? = some v' → w.cell? ⟨b, off + n, none⟩ = some v') (hlen : cs.length = (es.flatMap PV.cells).length)
      (r : ∀ (n : Nat) v v', (es.flatMap PV.cells)[n]? = some v → cs[n]? = some v' → CV w v v') : CV w (.vec es) (.slice (some ⟨b, off, none⟩) es.length k)
  | agg (cs : List PV) (cs' : Array Value) (hs : cs.length = cs'.size) (r : ∀ (i : Nat) v v', cs[i]? = some v → cs'[i]? = some v' → CV w v v') : CV w (.agg cs) (.agg cs')

structure More (μ : Mu) (h : AHeap) (μ' : Mu) (h' : AHeap) : Prop where
  le : μ.le μ'
  sub : ∀ o x, h.get o = some x → h'.get o = some x

theorem More.refl (μ : Mu) (h : AHeap) : More μ h μ h := ⟨Mu.le_refl μ, fun _ _ h => h⟩
theorem More.trans {μ μ1 μ2 : Mu} {h h1 h2 : AHeap} (a : More μ h μ1 h1) (b : More μ1 h1 μ2 h2) : More μ h μ2 h2 := ⟨Mu.le_trans a.le b.le, fun o x hx => b.sub o x (a.sub o x hx)⟩

def Realizes (w : World) (v : PV) (v' : Value) : Prop :=
  ∀ μ h, Rel μ h.next h w → ∃ μ' h' u, More μ h μ' h' ∧ Rel μ' h'.next h' w ∧ FR h'.get v u ∧ RelV μ' u v'

theorem realize_all {w : World} : ∀ {l : List PV} {l' : List Value}, l.length = l'.length → (∀ (i : Nat) v v', l[i]? = some v → l'[i]? = some v' → Realizes w v v') →
    ∀ μ h, Rel μ h.next h w → ∃ μ' h' us, More μ h μ' h' ∧ Rel μ' h'.next h' w ∧ PRs (FR h'.get) l us ∧ RelVs μ' us l'
  | [],[], _, _, μ, h, r => ⟨μ, h, [], More.refl μ h, r, ⟨rfl, fun i v v' hv => by simp at hv⟩, .nil _⟩
  | [], _ :: _, hl, _, _, _, _ => by simp at hl
  | _ :: _, [], hl, _, _, _, _ => by simp at hl
  | x :: l, x' :: l', hl, hr, μ, h, r => by
    obtain ⟨μ1, h1, u, m1, r1, f1, v1⟩ := hr 0 x x' rfl rfl μ h r
    obtain ⟨μ2, h2, us, m2, r2, f2, v2⟩ := realize_all (l := l) (l' := l') (by simpa using hl) (fun i v v' hv hv' => hr (i + 1) v v' (by simpa using hv) (by simpa using hv')) μ1 h1 r1
    refine ⟨μ2, h2, u :: us, m1.trans m2, r2, ⟨by simp [f2.1], fun i v v' hv hv' => ?_⟩, .cons (v1.mono m2.le) v2⟩
    cases i with
    | zero => simp at hv hv'; subst hv; subst hv'; exact f1.mono m2.sub
    | succ i => exact f2.2 i v v' (by simpa using hv) (by simpa using hv')

theorem realize_block {w : World} {μ : Mu} {h : AHeap} (r : Rel μ h.next h w) {b off C : Nat} {us cs : List Value} (hb : b < w.heap.size) (hv : RelVs μ us cs) (hc : ∀ (n : Nat) v', cs[n]? = some v' → w.cell? ⟨b, off + n, none⟩ = some v') :
    More μ h (μ.put h.next (b, off, C)) (h.alloc (.cells 0 us)) ∧ Rel (μ.put h.next (b, off, C)) (h.alloc (.cells 0 us)).next (h.alloc (.cells 0 us)) w := by
  have hle := r.le_put (b, off, C)
  refine ⟨⟨hle, fun o x hx => ?_⟩, ⟨fun o x hx => ?_, fun o o' x x' b1 a1 C1 a2 C2 hl hx => ?_, fun o x hx => ?_, fun o x b1 a1 C1 hl hx => ?_, Nat.le_refl _⟩⟩
  · rw [AHeap.get_alloc, if_neg (by have := AHeap.lt_of_get hx; omega)]; exact hx
  · rw [AHeap.get_alloc] at hx
    by_cases ho : o = h.next
    · simp [ho] at hx
      subst hx; subst ho
      refine ⟨b, off, C, Mu.put_same _ _ _, hb, fun i v hi => ?_, fun h => absurd h (Nat.lt_irrefl _)⟩
      obtain ⟨v', h1, h2⟩ := hv.2 i v hi
      exact ⟨v', hc i v' h1, h2.mono hle⟩
    · simp [ho] at hx
      obtain ⟨b1, a1, C1, h1, h2⟩ := r.objs o x hx
      exact ⟨b1, a1, C1, hle _ _ h1, h2.mono hle⟩
  · have := AHeap.lt_of_get hx; omega
  · by_cases ho : o = h.next
    · subst ho; simp
    · rw [Mu.put_other _ ho] at hx
      have := r.dom o x hx
      simp; omega
  · have := AHeap.lt_of_get hx; omega

theorem CV.realizes {w : World} {v : PV} {v' : Value} (hc : CV w v v') : Realizes w v v' := by
  induction hc with
  | bool b => exact fun μ h r => ⟨μ, h, _, .refl _ _, r, .bool b, .bool b⟩
  | int k n => exact fun μ h r => ⟨μ, h, _, .refl _ _, r, .int k n, .int k n⟩
  | str s => exact fun μ h r => ⟨μ, h, _, .refl _ _, r, .str s, .string s⟩
  | nilIface => exact fun μ h r => ⟨μ, h, _, .refl _ _, r, .nilIface, .nilIface⟩
  | vecN => exact fun μ h r => ⟨μ, h, _, .refl _ _, r, .vecN, .sliceNil⟩
  | vec0 p k => exact fun μ h r => ⟨μ, h, _, .refl _ _, r, .vec0 0 0 unk, .sliceZ _ _ _⟩
  | vec es b off k sz cs hk hl h0 hsz hb hcell hlen _ ih =>
    intro μ h r
    obtain ⟨μ1, h1, us, m1, r1, f1, v1⟩ := realize_all hlen.symm ih μ h r
    have hx : ∃ C kk, capOf C kk = k ∧ kk ≤ inex ∧ es.length ≤ kk := by
      by_cases hki : k < inex
      · exact ⟨0, k, by simp [capOf, hki], Nat.le_of_lt hki, hk⟩
      · exact ⟨k, inex, by simp [capOf], Nat.le_refl _, Nat.le_of_lt hl⟩
    obtain ⟨C, kk, e1, e2, e3⟩ := hx
    obtain ⟨m2, r2⟩ := realize_block (C := C) r1 hb v1 hcell
    refine ⟨_, _, .slice (some ⟨h1.next, 0, none⟩) es.length kk, m1.trans m2, r2, ?_, ?_⟩
    · refine .vec es h1.next 0 kk 0 sz us e3 ?_ (by rw [AHeap.get_alloc]; simp) h0 (fun i e he => hsz e (List.mem_of_getElem? he)) ?_ (fun i e j v v' he hv hv' => ?_)
      · simp only [inex] at hl e2; simp only [unk]; omega
      · have := f1.1
        rw [flat_length hsz] at this
        omega
      · exact (unflat_rel (R := FR h1.get) hsz f1 i e j v v' he hv (by simpa using hv')).mono m2.sub
    · have := RelV.slice (μ := μ1.put h1.next (b, off, C)) h1.next 0 es.length kk b off C (Mu.put_same _ _ _) (by rw [e1]; exact hk) (by simp only [inex] at e2; simp only [unk]; omega)
      rw [e1] at this
      exact this
  | agg cs cs' hs _ ih =>
    intro μ h r
    obtain ⟨μ1, h1, us, m1, r1, f1, v1⟩ := realize_all (l' := cs'.toList) (by simpa using hs) (fun i v v' hv hv' => ih i v v' hv (by simpa using hv')) μ h r
    refine ⟨μ1, h1, .agg us.toArray, m1, r1, .agg cs us.toArray (by simpa using f1.1) (fun i v v' hv hv' => f1.2 i v v' hv (by simpa using hv')), ?_⟩
    refine .agg us.toArray cs' (by have := v1.1; simpa using this) (fun i hi hi' => ?_)
    obtain ⟨u', k1, k2⟩ := v1.2 i us[i] (by simp at hi ⊢)
    have : cs'[i] = u' := by simpa [hi'] using k1
    rw [this]; simpa using k2

def Untouched (w w' : World) : Prop := Calm w w' ∧ w.heap.size ≤ w'.heap.size ∧ ∀ b, b < w.heap.size → w'.heap[b]? = w.heap[b]?

theorem VPure.enter {P : Program} {f : FuncId} {args : List PV} {t : Bool} (hp : VPure P f args fun r => r = .bool t) {w : World} {cargs : Array Value} (hl : args.length = cargs.size)
    (ha : ∀ (i : Nat) v v', args[i]? = some v → cargs[i]? = some v' → CV w v v') : Calls P f cargs w fun e w' => e = .returned (.bool t) ∧ Untouched w w' := by
  have e0 : ∀ o x, AHeap.empty.get o = some x → False := fun o x hx => by rw [AHeap.get_empty] at hx; cases hx
  have r0 : Rel (fun _ => none) AHeap.empty.next AHeap.empty w := ⟨fun o x hx => (e0 o x hx).elim, fun o o' x x' b a C a' C' _ hx => (e0 o x hx).elim, fun o x hx => (by cases hx), fun o x b a C _ hx => (e0 o x hx).elim, Nat.le_refl _⟩
  obtain ⟨μ, h, us, m, r, f1, v1⟩ := realize_all (l' := cargs.toList) (by simpa using hl) (fun i v v' hv hv' => (ha i v v' hv (by simpa using hv')).realizes) _ _ r0
  have hc : ACall P h.next f us h _ := hp h.next h.get (fun _ => (0,0,0)) h us ⟨f1.1, fun i v v' hv hv' => .fr _ _ (f1.2 i v v' hv hv')⟩ (VS.none (fun _ _ hx => hx) (Nat.le_refl _) _)
  refine Calls.mono (callsIn_wide.1 (hc Fence.wide wide_wide rfl 0 μ w cargs v1 r)) fun e w' ⟨r', v, h', μ', k1, k2, k3, k4, g', σ', pv, vh', k5, _, _, _, _, _, _, k6, k7⟩ => ?_
  subst k7
  cases k5 with
  | fr _ _ hf =>
    cases hf
    cases k2
    exact ⟨k1, k4.calm, k4.size, fun b hb => k4.kept b hb (by rintro ⟨o, x, a, C, g1, g2, _⟩; have := AHeap.lt_of_get g2; omega)⟩

end Go.Am
end

/-
  The value machine, part R: what the statement's reading of an argument says of its value.
-/
section
namespace Go.Am

section
variable {H : Type} {enc : TypeId × Value → H} {P : Program} {w : World}

def Reads (enc : TypeId × Value → H) (P : Program) (w : World) (t : TypeId) (Q : PV → Prop) : Prop :=
  ∀ n cs x, DataW.trod enc P w 0 (fun _ => true) true n t cs = some x → (∀ m ∈ x.1.weights P t, m ≤ reachBytes) → ∃ p : PV, p.cells.length = P.cellsOf t ∧ PRs (CV w) p.cells cs ∧ Q p

theorem Reads.mono {t : TypeId} {Q Q' : PV → Prop} (h : Reads enc P w t Q) (hq : ∀ p, Q p → Q' p) : Reads enc P w t Q' := fun n cs x hx hm => let ⟨p, h1, h2, h3⟩ := h n cs x hx hm; ⟨p, h1, h2, hq p h3⟩

theorem reads_int {t : TypeId} {k : IntKind} (ht : P.underlying t = some (.int k)) (hc : P.cellsOf t = 1) : Reads enc P w t fun p => ∃ n, p = .int k n ∧ (Lit.int k n).wf = true := by
  intro n cs x hx _
  cases n with
  | zero => simp [DataW.trod] at hx
  | succ n =>
    unfold DataW.trod at hx
    rw [ht] at hx
    split at hx <;> simp_all
    obtain ⟨⟨rfl, hw⟩, _⟩ := hx
    exact ⟨_, rfl, .cons (.int _ _) .nil, _, rfl, hw⟩

theorem weights_all {e : TypeId} {l : List (DataW H)} {d : DataW H} (hd : d ∈ l) : ∀ m ∈ d.weights P e, m ∈ DataW.weightsAll P e l := by
  induction l with
  | nil => cases hd
  | cons a r ih =>
    intro m hm
    simp only [DataW.weightsAll, List.mem_append]
    rcases List.mem_cons.1 hd with rfl | hd
    · exact .inl hm
    · exact .inr (ih hd m hm)

theorem spot_none {a : Addr} {v : Value} (h : w.cell? a = some v) : a.spot = none := by
  cases hs : a.spot with
  | none => rfl
  | some s =>
    simp only [World.cell?] at h
    split at h
    · simp [hs] at h
    · cases h

theorem reads_slice {t e : TypeId} {Q : PV → Prop} (ht : P.underlying t = some (.slice e)) (hc : P.cellsOf t = 1) (h0 : 0 < P.cellsOf e) (hby : 0 < P.bytesOf e) (he : Reads enc P w e Q) :
    Reads enc P w t fun p => ∃ es, p = .vec es ∧ (∀ x ∈ es, Q x) ∧ es.length < inex := by
  intro n cs x hx hm
  rcases DataW.trod_slice ht hx with ⟨rfl, rfl⟩ | ⟨a, len, cap, elems, rest, n', _, rfl, rfl, _, hlc, _, hlen, hel, _, _⟩
  · exact ⟨.vec [], by rw [hc]; rfl, .cons .vecN .nil, [], rfl, fun x h => (by cases h), by decide⟩
  simp only [DataW.weights, ht] at hm
  have hbound : len < inex := by
    have := hm _ (List.mem_cons_self ..)
    simp only [List.length_map, hlen] at this
    have h2 : len ≤ (len + rest.length) * P.bytesOf e := Nat.le_trans (Nat.le_add_right _ _) (Nat.le_mul_of_pos_right _ hby)
    have := reachBytes_lt
    simp only [inex]; omega
  rcases Nat.eq_zero_or_pos len with h00 | hpos
  · subst h00
    exact ⟨.vec [], by rw [hc]; rfl, .cons (.vec0 a cap) .nil, [], rfl, fun x h => (by cases h), by decide⟩
  have at0 : ∀ i, i < len → ∃ c y, w.cells? 0 (a.add (i * P.cellsOf e)) (P.cellsOf e) = some c ∧ DataW.trod enc P w 0 (fun _ => true) true n' e c = some y ∧ elems[i]? = some y := fun i hi => by
    have h1 := hel i hi
    rw [List.getElem?_eq_getElem (by omega)] at h1
    obtain ⟨c, h2, h3⟩ := Option.bind_eq_some_iff.1 h1
    exact ⟨c, _, h2, h3, by rw [List.getElem?_eq_getElem (by omega)]⟩
  have hspot : a.spot = none := by
    obtain ⟨c, y, h1, _, _⟩ := at0 0 hpos
    obtain ⟨_, h2, h3⟩ := World.cells?_some h1
    have h4 := h3 0 h0
    rw [List.getElem?_eq_getElem (by omega)] at h4
    have := spot_none h4
    simpa [Addr.add] using this
  obtain ⟨b, off, sp⟩ := a
  simp only at hspot
  subst hspot
  have build : ∀ m, m ≤ len → ∃ (es : List PV) (cc : List Value), es.length = m ∧ (∀ p ∈ es, p.cells.length = P.cellsOf e ∧ Q p) ∧ PRs (CV w) (es.flatMap PV.cells) cc ∧ (∀ (k : Nat) v', cc[k]? = some v' → w.cell? ⟨b, off + k, none⟩ = some v') := by
    intro m
    induction m with
    | zero => exact fun _ => ⟨[],[], rfl, fun p h => (by cases h), .nil, fun k v' h => by simp at h⟩
    | succ m ih =>
      intro hm1
      obtain ⟨es, cc, h1, h2, h3, h4⟩ := ih (by omega)
      obtain ⟨c, y, k1, k2, k3⟩ := at0 m (by omega)
      obtain ⟨p, p1, p2, p3⟩ := he n' c y k2 (fun q hq => hm q (List.mem_cons_of_mem _ (List.mem_append_left _ (weights_all (List.mem_map.2 ⟨y, List.mem_of_getElem? k3, rfl⟩) q hq))))
      obtain ⟨_, g2, g3⟩ := World.cells?_some k1
      have hlen2 : cc.length = m * P.cellsOf e := by rw [← h3.1, flat_length (fun x hx => (h2 x hx).1), h1]
      refine ⟨es ++ [p], cc ++ c, by simp [h1], fun x hx => ?_, by simpa using h3.append p2, fun k v' hk => ?_⟩
      · rcases List.mem_append.1 hx with hx | hx
        · exact h2 x hx
        · simp at hx; subst hx; exact ⟨p1, p3⟩
      · by_cases hkc : k < cc.length
        · rw [List.getElem?_append_left hkc] at hk; exact h4 k v' hk
        · rw [List.getElem?_append_right (by omega)] at hk
          have hlt := (List.getElem?_eq_some_iff.1 hk).1
          have := g3 (k - cc.length) (by omega)
          rw [addr_add, addr_add, hk] at this
          rw [← this]
          congr 2
          omega
  obtain ⟨es, cc, h1, h2, h3, h4⟩ := build len (Nat.le_refl _)
  have hb : b < w.heap.size := by
    obtain ⟨c, y, k1, _, _⟩ := at0 0 hpos
    have := World.cells?_block k1 h0
    simpa [Addr.add] using this
  refine ⟨.vec es, by rw [hc]; rfl, .cons ?_ .nil, es, rfl, fun x hx => (h2 x hx).2, by omega⟩
  subst h1
  exact .vec es b off cap (P.cellsOf e) cc hlc hbound h0 (fun p hp => (h2 p hp).1) hb h4 h3.1.symm (fun k v v' hv hv' => h3.2 k v v' hv hv')

def total (P : Program) : List Field → Nat
  | [] => 0
  | f :: r => P.cellsOf f.type + total P r

def contig (P : Program) : Nat → List Field → Bool
  | _, [] => true
  | off, f :: r => decide (f.offset = off) && contig P (off + P.cellsOf f.type) r

theorem reads_fields {n : Nat} {cs : List Value} : ∀ (fs : List Field) (off : Nat) (Qs : List (PV → Prop)) (xs : List (DataW H × List MemPlace)), fs.length = Qs.length → (∀ (i : Nat) f Q, fs[i]? = some f → Qs[i]? = some Q → Reads enc P w f.type Q) → contig P off fs = true →
    xs.length = fs.length → off + total P fs ≤ cs.length →
    (∀ (i : Nat) (f : Field), fs[i]? = some f → DataW.trod enc P w 0 (fun _ => true) true n f.type ((cs.drop f.offset).take (P.cellsOf f.type)) = xs[i]?) →
    (∀ m ∈ DataW.weightsEach P (fs.map (·.type)) (xs.map (·.1)), m ≤ reachBytes) →
    ∃ ps : List PV, ps.length = fs.length ∧ (ps.flatMap PV.cells).length = total P fs ∧ PRs (CV w) (ps.flatMap PV.cells) ((cs.drop off).take (total P fs)) ∧ ∀ (i : Nat) Q p, Qs[i]? = some Q → ps[i]? = some p → Q p
  | [], off, Qs, xs, hQ, _, _, _, _, _, _ => ⟨[], rfl, rfl, by simp only [total, List.take_zero]; exact .nil, fun i Q p _ hp => by simp at hp⟩
  | f :: fs, off, [], xs, hQ, _, _, _, _, _, _ => by simp at hQ
  | f :: fs, off, Q :: Qs, [], _, _, _, hx, _, _, _ => by simp at hx
  | f :: fs, off, Q :: Qs, x :: xs, hQ, hr, hcg, hx, htot, htr, hm => by
    simp only [contig, Bool.and_eq_true, decide_eq_true_eq] at hcg
    obtain ⟨ho, hcg⟩ := hcg
    simp only [total] at htot
    simp only [List.map_cons, DataW.weightsEach, List.mem_append] at hm
    have t0 := htr 0 f rfl
    simp only [List.getElem?_cons_zero] at t0
    obtain ⟨p, p1, p2, p3⟩ := hr 0 f Q rfl rfl n _ x t0 (fun m h => hm m (.inl h))
    obtain ⟨ps, h1, h2, h3, h4⟩ := reads_fields (n := n) (cs := cs) fs (off + P.cellsOf f.type) Qs xs (by simpa using hQ) (fun i f Q hf hq => hr (i + 1) f Q (by simpa using hf) (by simpa using hq)) hcg (by simpa using hx) (by omega)
      (fun i f' hf => by have := htr (i + 1) f' (by simpa using hf); simpa using this) (fun m h => hm m (.inr h))
    refine ⟨p :: ps, by simp [h1], by simp [total, h2, p1], ?_, fun i Q' p' hq hp => ?_⟩
    · have e1 : (cs.drop off).take (total P (f :: fs)) = (cs.drop f.offset).take (P.cellsOf f.type) ++ (cs.drop (off + P.cellsOf f.type)).take (total P fs) := by
        subst ho
        rw [total, List.take_add, List.drop_drop]
      rw [e1, List.flatMap_cons]
      exact p2.append h3
    · cases i with
      | zero => simp at hq hp; subst hq; subst hp; exact p3
      | succ i => exact h4 i Q' p' (by simpa using hq) (by simpa using hp)

theorem reads_struct {t : TypeId} {fs : Array Field} (Qs : List (PV → Prop)) (ht : P.underlying t = some (.struct fs)) (hQ : fs.toList.length = Qs.length) (hr : ∀ (i : Nat) f Q, fs.toList[i]? = some f → Qs[i]? = some Q → Reads enc P w f.type Q)
    (hcg : contig P 0 fs.toList = true) (htot : total P fs.toList = P.cellsOf t) : Reads enc P w t fun p => ∃ ps : List PV, p = .agg (ps.flatMap PV.cells) ∧ ps.length = Qs.length ∧ ∀ (i : Nat) Q p, Qs[i]? = some Q → ps[i]? = some p → Q p := by
  intro n cs x hx hm
  obtain ⟨xs, n', _, rfl, hl, hlen, hf⟩ := DataW.trod_struct ht hx
  simp only [DataW.weights, ht] at hm
  obtain ⟨ps, h1, h2, h3, h4⟩ := reads_fields (n := n') (cs := cs) fs.toList 0 Qs xs hQ hr hcg (by simpa using hlen) (by rw [htot]; omega) (fun i f hfi => hf i f (by simpa using hfi)) hm
  refine ⟨.agg (ps.flatMap PV.cells), by rw [← htot]; exact h2, ?_, ps, rfl, by rw [h1, hQ], h4⟩
  have e : (cs.drop 0).take (total P fs.toList) = cs := by rw [htot, ← hl]; simp
  rw [e] at h3
  exact h3

end
end Go.Am
end

/-
  The value machine, part S: a call that touches nothing leaves the arguments as they read.
-/
section
namespace Go.Am
open Go.ChangeShapes Go.WideShapes

section
variable {H : Type} {enc : TypeId × Value → H} {P : Program} {w w' : World}

theorem Untouched.sameAt (u : Untouched w w') {p : MemPlace} (hp : p.block < w.heap.size) : w.sameAt w' p := by
  cases p with
  | cell b off => exact cell_of_block (u.2.2 b hp)
  | map b => exact u.2.2 b hp

theorem Untouched.keptBut (u : Untouched w w') (may : MemPlace → Prop) : w.keptBut w' may := by
  refine ⟨u.1.1, u.1.2, fun i hi => ?_⟩
  rw [u.2.2 i hi]
  cases w.heap[i]? with
  | none => rfl
  | some o => cases o <;> first | exact ⟨rfl, rfl, rfl, fun _ _ => rfl⟩ | exact .inr ⟨rfl, rfl⟩ | rfl

theorem trodAll_carry {base : Nat} {spare : Nat → Bool} {held : Bool} : ∀ {ts : List TypeId} {vs : List Value} {ds : List (DataW H)} {ps : List MemPlace}, DataW.TrodAll enc P w base spare held ts vs ds ps → (∀ p ∈ ps, w.sameAt w' p) →
    DataW.TrodAll enc P w' base spare held ts vs ds ps
  | [], _, _, _, h, _ => by
    obtain ⟨rfl, rfl, rfl⟩ := trodAll_nil h
    exact trodAll_mk0
  | _ :: _, _, _, _, h, hs => by
    obtain ⟨v, vs1, d, ds1, a, b, rfl, rfl, rfl, ⟨n, h1⟩, h2⟩ := trodAll_cons h
    exact ⟨a, b, ⟨n, DataW.trod_carry n _ _ _ h1 (fun p hp => hs p (List.mem_append_left _ hp))⟩, trodAll_carry h2 (fun p hp => hs p (List.mem_append_right _ hp)), rfl⟩

theorem post_untouched {T : TypeId → Prop} (K : Kids P T) (hz : ∀ t e, T t → P.underlying t = some (.slice e) → 0 < P.cellsOf e) {f : Func} (hT : ∀ t ∈ f.params.toList, T t) {s : ChangeSpec} {apart fresh handsOn : Bool} {args : Array Value} {v : Value}
    {ds gs : List (DataW H)} {before : List MemPlace} (hW : DataW.Whole enc P f.params.toList s.vars apart w args.toList ds gs before) (hvars : s.vars = [])
    (hres : ∀ (b : Nat) (sp : Nat → Bool) (hd : Bool), DataW.TrodAll enc P w' b sp hd f.resultTypes.toList (v.resultList f.resultTypes.size) (s.fn H (ds ++ gs)).results [])
    (hargs : (s.fn H (ds ++ gs)).args = ds) (hv : (s.fn H (ds ++ gs)).vars = []) (hu : Untouched w w') : s.post enc P f apart fresh handsOn false w args v w' := by
  have hlt := hW.lt
  refine ⟨ds, gs, before, [], before, [], hW, hres _ _ _, ?_, by rw [hvars, hv]; rfl, hu.keptBut _, fun h => by cases h⟩
  obtain ⟨p, q, h1, h2, rfl, _, _⟩ := hW
  rw [hvars] at h2
  obtain ⟨_, rfl⟩ := trodVars_none h2
  rw [List.append_nil] at hlt ⊢
  rw [hargs]
  exact DataW.TrodAll.respare K hz hT (trodAll_carry h1 (fun x hx => hu.sameAt (hlt x hx))) (fun x hx => by simpa using hlt x hx)

def ArgOK (enc : TypeId × Value → H) (P : Program) (w : World) (base : Nat) (t : TypeId) (Q : PV → Prop) : Prop :=
  ∀ v d p, Value.okWide P w .any base t v → DataW.Trod enc P w 0 (fun _ => true) true t v d p → (∀ m ∈ d.weights P t, m ≤ reachBytes) → ∃ pv : PV, CV w pv v ∧ Q pv

theorem argOK_one {base : Nat} {t : TypeId} {Q : PV → Prop} (hv : ∀ v, Value.okWide P w .any base t v → v.cells = #[v]) (hq : ∀ p, Q p → p.cells = [p]) (hr : Reads enc P w t Q) : ArgOK enc P w base t Q := by
  intro v d p hok ⟨n, hn⟩ hm
  obtain ⟨pv, _, h2, h3⟩ := hr n _ _ hn hm
  rw [hq pv h3, hv v hok] at h2
  exact ⟨pv, h2.2 0 _ _ rfl rfl, h3⟩

theorem argOK_int {base : Nat} {t : TypeId} {k : IntKind} {Q : PV → Prop} (ht : P.underlying t = some (.int k)) (hq : ∀ p, Q p → p.cells = [p]) (hr : Reads enc P w t Q) : ArgOK enc P w base t Q :=
  argOK_one (fun v h => by obtain ⟨n, rfl⟩ := okWide_int ht h; rfl) hq hr

theorem args_cv {base : Nat} : ∀ {ts : List TypeId} (Qs : List (PV → Prop)) {vs : List Value} {ds : List (DataW H)} {ps : List MemPlace}, ts.length = Qs.length → (∀ (i : Nat) t Q, ts[i]? = some t → Qs[i]? = some Q → ArgOK enc P w base t Q) →
    (∀ (i : Nat) t v, ts[i]? = some t → vs[i]? = some v → Value.okWide P w .any base t v) → DataW.TrodAll enc P w 0 (fun _ => true) true ts vs ds ps → (∀ m ∈ DataW.weightsEach P ts ds, m ≤ reachBytes) →
    ∃ pvs : List PV, pvs.length = Qs.length ∧ PRs (CV w) pvs vs ∧ ∀ (i : Nat) Q p, Qs[i]? = some Q → pvs[i]? = some p → Q p
  | [],[], _, _, _, _, _, _, h, _ => by
    obtain ⟨rfl, rfl, rfl⟩ := trodAll_nil h
    exact ⟨[], rfl, .nil, fun i Q p _ hp => by simp at hp⟩
  | [], _ :: _, _, _, _, hl, _, _, _, _ => by simp at hl
  | _ :: _, [], _, _, _, hl, _, _, _, _ => by simp at hl
  | t :: ts, Q :: Qs, _, _, _, hl, ha, hok, h, hm => by
    obtain ⟨v, vs1, d, ds1, a, b, rfl, rfl, rfl, h1, h2⟩ := trodAll_cons h
    simp only [DataW.weightsEach, List.mem_append] at hm
    obtain ⟨p, k1, k2⟩ := ha 0 t Q rfl rfl v d a (hok 0 t v rfl rfl) h1 (fun m hx => hm m (.inl hx))
    obtain ⟨pvs, k3, k4, k5⟩ := args_cv (base := base) Qs (by simpa using hl) (fun i t Q ht hq => ha (i + 1) t Q (by simpa using ht) (by simpa using hq)) (fun i t v ht hv => hok (i + 1) t v (by simpa using ht) (by simpa using hv)) h2 (fun m hx => hm m (.inr hx))
    refine ⟨p :: pvs, by simp [k3], k4.cons k1, fun i Q' p' hq hp => ?_⟩
    cases i with
    | zero => simp at hq hp; subst hq; subst hp; exact k2
    | succ i => exact k5 i Q' p' (by simpa using hq) (by simpa using hp)

theorem law_contract {T : TypeId → Prop} (K : Kids P T) (hz : ∀ t e, T t → P.underlying t = some (.slice e) → 0 < P.cellsOf e) {fid : FuncId} {f : Func} (hT : ∀ t ∈ f.params.toList, T t) {tb : TypeId} (hb : P.underlying tb = some .bool) (hrt : f.resultTypes = #[tb])
    {s : ChangeSpec} (hvars : s.vars = []) {base : Nat} {args : Array Value} {ds gs : List (DataW H)} {before : List MemPlace}
    (hval : ∀ (j : Nat) t v, f.params[j]? = some t → args[j]? = some v → Value.okWide P w .any base t v) (hW : DataW.Whole enc P f.params.toList s.vars false w args.toList ds gs before)
    (hsz : (DataW.weightsEach P (f.params.toList ++ s.plain.varTypes P) (ds ++ gs)).all (· ≤ reachBytes) = true) (hvt : s.plain.varTypes P = [])
    (hspec : ∀ l : List (DataW H), l.length = f.params.toList.length → s.fn H l = { results := [.lit (.bool true)], args := l })
    (Qs : List (PV → Prop)) (hQ : f.params.toList.length = Qs.length) (ha : ∀ (i : Nat) t Q, f.params.toList[i]? = some t → Qs[i]? = some Q → ArgOK enc P w base t Q)
    (walk : ∀ pvs : List PV, pvs.length = Qs.length → (∀ (i : Nat) Q p, Qs[i]? = some Q → pvs[i]? = some p → Q p) → VPure P fid pvs fun r => r = .bool true) :
    Calls P fid args w fun e w' => ∃ v, e = .returned v ∧ s.post enc P f false true false false w args v w' := by
  have hW' := hW
  obtain ⟨p, q, h1, h2, rfl, _, _⟩ := hW
  rw [hvars] at h2
  obtain ⟨rfl, rfl⟩ := trodVars_none h2
  rw [hvt, List.append_nil, List.append_nil] at hsz
  have hds : ds.length = f.params.toList.length := by
    have : ∀ {ts : List TypeId} {vs : List Value} {ds : List (DataW H)} {ps : List MemPlace}, DataW.TrodAll enc P w 0 (fun _ => true) true ts vs ds ps → ds.length = ts.length := by
      intro ts
      induction ts with
      | nil => intro vs ds ps h; obtain ⟨_, rfl, _⟩ := trodAll_nil h; rfl
      | cons t ts ih => intro vs ds ps h; obtain ⟨_, _, _, _, _, _, _, rfl, _, _, h⟩ := trodAll_cons h; simp [ih h]
    exact this h1
  obtain ⟨pvs, k1, k2, k3⟩ := args_cv (base := base) Qs hQ ha (fun i t v ht hv => hval i t v (by simpa using ht) (by simpa using hv)) h1 (fun m hm => by simpa using List.all_eq_true.1 hsz m hm)
  refine ((walk pvs k1 k3).enter (w := w) (cargs := args) (by have := k2.1; simpa using this) (fun i v v' hv hv' => k2.2 i v v' hv (by simpa using hv'))).mono fun e w' ⟨he, hu⟩ => ⟨_, he, ?_⟩
  have hs := hspec (ds ++ []) (by simpa using hds)
  refine post_untouched K hz hT hW' hvars (fun b sp hd => ?_) (by rw [hs]; simp) (by rw [hs]) hu
  rw [hs, hrt]
  exact trodAll_mk1 (v := .bool true) (p := []) ⟨1, by simp [Value.cells, DataW.trod, hb]⟩

end
end Go.Am
end

/-
  The value machine, part T: a closed call that was evaluated.
-/
section
namespace Go.Am

theorem VPure.of_closed {P : Program} {f : FuncId} {b : Bool} (hc : ACall P 0 f [] AHeap.empty fun r _ => r = .bool b) : VPure P f [] fun r => r = .bool b := by
  intro lo g σ h args' ha s
  have e : args' = [] := ha.inv_nil
  subst e
  have h1 : ACall P 0 f [] AHeap.empty fun r _ => selfV r = true ∧ r = .bool b := hc.mono fun r h' hr => by subst hr; exact ⟨rfl, rfl⟩
  refine (ACall.closed h1 lo h).mono fun r h' ⟨hr, hh⟩ => ?_
  subst hr; subst hh
  exact ⟨g, σ, .bool b, VHeap.empty, .fr _ _ (.bool b), s, Fz.le_refl g, fun _ _ => rfl, VF.refl _ _ _, Nat.le_refl _, GOwn.refl _ _ _ _, rfl, rfl⟩

end Go.Am
end

/-
  The value machine, part U: ranges over functions.
-/
section
namespace Go.Am
set_option linter.unusedVariables false
set_option linter.unusedSimpArgs false

def VHeap.back (vh : VHeap) (i : Nat) (x : VObj) : VHeap := ⟨vh.next, (i, x) :: vh.objs⟩
theorem VHeap.get_back (vh : VHeap) (i j : Nat) (x : VObj) : (vh.back i x).get j = if j = i then some x else vh.get j := by
  simp only [VHeap.get, VHeap.back, vlook, beq_eq]
  by_cases h : j = i <;> simp [h]

section
variable {P : Program} {N b : Nat} {Q : VPost} {vts : VTs} {vh : VHeap} {lo : Nat} {g : Fz} {σ : Sg} {h : AHeap}

theorem SimR.back {N0 : Nat} {ts' : Tmps} {h' : AHeap} {g' : Fz} {σ' : Sg} {vts' : VTs} {vh' : VHeap} (s : VS lo g σ vh h) {i : Nat} {x x' : VObj} {y : AObj} (hx : vh.get i = some x) (hl : x.live = true)
    (a : SimR N0 vh.next lo g σ (vh.drop i) (h.put (σ i).1 none) ts' h' g' σ' vts' vh') (hx' : VRO g' σ' vh'.next (h'.put (σ i).1 (some y)) i x') :
    VS lo g' σ' (vh'.back i x') (h'.put (σ i).1 (some y)) ∧ VF σ vh h σ' (vh'.back i x') (h'.put (σ i).1 (some y)) ∧ GOwn g σ vh h g' := by
  have hlt := (s.obj i x hx).2.lt hl
  have hi := (s.obj i x hx).1
  have hσ : σ' i = σ i := a.agree i hi
  have hlt' : (σ i).1 < h'.next := Nat.lt_of_lt_of_le hlt a.f.next
  have hno : ∀ j z, vh'.get j = some z → z.live = true → (σ' j).1 ≠ (σ i).1 := fun j z hz hlz he => by
    obtain ⟨k, u, k1, k2, k3⟩ := a.f.own j z hz hlz (by rw [he]; exact hlt)
    obtain ⟨k4, k5⟩ := vdrop_sub k1
    exact k4 (s.inj k i u x k5 hx k2 hl (k3.trans he))
  have hgn : g' (σ i).1 = none := by
    cases hg : g' (σ i).1 with
    | none => rfl
    | some z =>
      rcases a.own _ z hg hlt with h1 | ⟨k, u, k1, k2, k3⟩
      · rw [s.dis i x hx hl] at h1; cases h1
      · obtain ⟨k4, k5⟩ := vdrop_sub k1
        exact absurd (s.inj k i u x k5 hx k2 hl k3) k4
  have hput : ∀ p, (h'.put (σ i).1 (some y)).get p = if p = (σ i).1 then some y else h'.get p := fun p => AHeap.get_put _ _ _ _ hlt'
  refine ⟨⟨fun j z hz => ?_, fun j k z u hz hu hlz hlu he => ?_, fun j z hz hlz => ?_, fun p z hz => ?_, fun j z hz hlz => ?_, a.s.lole⟩, ⟨a.f.next, fun p hp hn => ?_, fun j z hz hlz hlt2 => ?_⟩, fun p z hz hp => ?_⟩
  · rw [VHeap.get_back] at hz
    by_cases hj : j = i
    · subst hj; simp at hz; subst hz; exact ⟨Nat.lt_of_lt_of_le hi a.base, hx'⟩
    · simp [hj] at hz
      obtain ⟨k1, k2⟩ := a.s.obj j z hz
      exact ⟨k1, k2.mono (Fz.le_refl g') (Nat.le_refl _) (fun _ _ => rfl) k1 fun hlz => by rw [hput, if_neg (hno j z hz hlz)]⟩
  · rw [VHeap.get_back] at hz hu
    by_cases hj : j = i <;> by_cases hk : k = i
    · rw [hj, hk]
    · simp [hk] at hu; subst hj; rw [hσ] at he; exact absurd he.symm (hno k u hu hlu)
    · simp [hj] at hz; subst hk; rw [hσ] at he; exact absurd he (hno j z hz hlz)
    · simp [hj] at hz; simp [hk] at hu; exact a.s.inj j k z u hz hu hlz hlu he
  · rw [VHeap.get_back] at hz
    by_cases hj : j = i
    · subst hj; rw [hσ]; exact s.low j x hx hl
    · simp [hj] at hz; exact a.s.low j z hz hlz
  · rw [hput, if_neg (by rintro rfl; rw [hgn] at hz; cases hz)]; exact a.s.fz p z hz
  · rw [VHeap.get_back] at hz
    by_cases hj : j = i
    · subst hj; rw [hσ]; exact hgn
    · simp [hj] at hz; exact a.s.dis j z hz hlz
  · have hpi : p ≠ (σ i).1 := fun he => hn i x hx hl he.symm
    rw [hput, if_neg hpi, a.f.pres p hp fun j z hz hlz => hn j z (vdrop_sub hz).2 hlz, AHeap.get_put _ _ _ _ hlt, if_neg hpi]
  · rw [VHeap.get_back] at hz
    by_cases hj : j = i
    · subst hj; exact ⟨j, x, hx, hl, by rw [hσ]⟩
    · simp [hj] at hz
      obtain ⟨k, u, k1, k2, k3⟩ := a.f.own j z hz hlz hlt2
      exact ⟨k, u, (vdrop_sub k1).2, k2, k3⟩
  · rcases a.own p z hz hp with h1 | ⟨k, u, k1, k2, k3⟩
    · exact .inl h1
    · exact .inr ⟨k, u, (vdrop_sub k1).2, k2, k3⟩

def vputAll (vts : VTs) : List (Tmp × PV) → VTs
  | [] => vts
  | (t, v) :: r => vputAll ((t, v) :: vts) r

theorem vputAll_ok {n : Nat} : ∀ {ps : List Tmp} {l : List PV} {l' : List Value} {vts : VTs} {ts : Tmps}, VT g σ n vts ts → PRs (VR g σ n) l l' → (∀ t ∈ ps, t < ts.length) →
    VT g σ n (vputAll vts (ps.zip l)) (putAll ts (ps.zip l')) ∧ (putAll ts (ps.zip l')).length = ts.length
  | [], _, _, _, _, ht, _, _ => by exact ⟨by simpa [vputAll, putAll] using ht, by simp [putAll]⟩
  | p :: ps, [], l', vts, ts, ht, hl, _ => by
    have := hl.inv_nil; subst this
    exact ⟨by simpa [vputAll, putAll] using ht, by simp [putAll]⟩
  | p :: ps, v :: l, l', vts, ts, ht, hl, hp => by
    obtain ⟨v', r', rfl, h1, h2⟩ := hl.inv_cons
    simp only [List.zip_cons_cons, vputAll, putAll]
    have hlt := hp p List.mem_cons_self
    obtain ⟨k1, k2⟩ := vputAll_ok (ps := ps) (l := l) (l' := r') (vts := (p, v) :: vts) (ts := ts.set p v') (fun t u hu => by
      simp only [tget, beq_eq] at hu
      by_cases htp : t = p
      · subst htp; simp at hu; subst hu
        rw [List.getD_eq_getElem?_getD, List.getElem?_set_self hlt]; exact h1
      · simp [htp] at hu
        rw [List.getD_eq_getElem?_getD, List.getElem?_set_ne (fun h => htp h.symm), ← List.getD_eq_getElem?_getD]; exact ht t u hu) h2 (fun t hm => by simp; exact hp t (List.mem_cons_of_mem _ hm))
    exact ⟨k1, by simpa using k2⟩

def yldPost (N0 : Nat) (ps : Array Tmp) (assign body : Code) (vts0 : VTs) (i : Nat) (K : Bool → VHeap → Prop) : VPost
  | .normal, _, vh' => K true (vh'.back i (.loop N0 ps assign body vts0 none))
  | .ret, _, vh' => K false (vh'.back i (.loop N0 ps assign body vts0 (some .ret)))
  | .exit id, _, vh' => K false (vh'.back i (.loop N0 ps assign body vts0 (some (.exit id))))
  | _, _, _ => False

theorem VStep.yield {o : Oper} {fo : Operand} {args : Array Operand} {aT : Array TypeId} {i N0 : Nat} {ps : Array Tmp} {assign body : Code} {vts0 : VTs} {l : List PV} {next : VTs → VHeap → Prop} (ho : o.op = .call ⟨.value fo, args, aT⟩)
    (hf : veval vts fo = some (.yld i)) (hl : vevals vts args.toList = some l) (hg : vh.get i = some (.loop N0 ps assign body vts0 none)) (hlen : l.length = ps.size) (hps : ps.toList.all (Nat.blt · N0) = true) (hd : dstOK N o.dst = true)
    (hc : VW P N0 vh.next assign (thenV (VW P N0 vh.next body (yldPost N0 ps assign body vts0 i fun bb vh' => next (tput vts o.dst (.bool bb)) vh')) (fun _ _ _ => False)) (vputAll vts0 (ps.toList.zip l)) (vh.drop i)) :
    VStep P N b o next vts vh := fun lo g σ h ts ht hn s hb => by
  obtain ⟨f', k1, k2⟩ := veval_ok ht hf
  obtain ⟨l', k3, k4⟩ := vevals_ok ht hl
  obtain ⟨hi, L, q1, q2, q3, q4, q5, q6⟩ := s.obj i _ hg
  have hfv : f' = .func (.yield (σ i).1) #[] #[] := by
    cases k2 with
    | fr _ _ h => cases h
    | yld _ o a k hi' hs => rw [hs]
  subst hfv
  subst q2; subst q3; subst q4
  have hll : VObj.live (.loop N0 L.params L.assign L.body vts0 none) = true := rfl
  obtain ⟨sk, _⟩ := s.kill hg hll
  have hpl : ∀ t ∈ L.params.toList, t < L.ts.length := fun t htm => by
    rw [List.all_eq_true] at hps
    rw [q5]; simpa using hps t htm
  obtain ⟨e1, e2⟩ := vputAll_ok (g := g) (σ := σ) (n := vh.next) (ps := L.params.toList) q6 k4 hpl
  refine .yield ho k1 k3 q1 (s.low i _ hg hll) (by rw [← hlen, k4.1]) ?_
  have run := hc lo g σ (h.put (σ i).1 none) _ e1 (e2.trans q5) sk (Nat.le_refl _)
  have fin : ∀ (jump : Option Code) (ts2 : Tmps) (h2 : AHeap) (g2 : Fz) (σ2 : Sg) (vts2 : VTs) (vh2 : VHeap), SimR N0 vh.next lo g σ (vh.drop i) (h.put (σ i).1 none) ts2 h2 g2 σ2 vts2 vh2 →
      next (tput vts o.dst (.bool jump.isNone)) (vh2.back i (.loop N0 L.params L.assign L.body vts0 jump)) → Sim N b lo g σ vh h next (aput ts o.dst (.bool jump.isNone)) (h2.put (σ i).1 (some (.loop L jump))) := by
    intro jump ts2 h2 g2 σ2 vts2 vh2 a hk
    have hσ : σ2 i = σ i := a.agree i hi
    have hlt2 : (σ i).1 < h2.next := Nat.lt_of_lt_of_le ((s.obj i _ hg).2.lt hll) a.f.next
    obtain ⟨r1, r2, r3⟩ := SimR.back (x' := .loop N0 L.params L.assign L.body vts0 jump) (y := .loop L jump) s hg hll a ⟨L, by rw [hσ, AHeap.get_put _ _ _ _ hlt2]; simp, rfl, rfl, rfl, q5, q6.mono a.le a.base a.agree⟩
    obtain ⟨t1, t2⟩ := vt_put a.le a.base a.agree ht o.dst (hn ▸ hd) (.fr _ _ (.bool jump.isNone) : VR g2 σ2 vh2.next (.bool jump.isNone) (.bool jump.isNone))
    exact ⟨g2, σ2, _, vh2.back i (.loop N0 L.params L.assign L.body vts0 jump), ⟨t1, t2.trans hn, r1, a.le, fun j hj => a.agree j (by omega), r2, Nat.le_trans hb a.base, r3⟩, hk⟩
  refine run.mono fun e ts1 h1 hs => ?_
  cases e with
  | normal =>
    obtain ⟨g1, σ1, vts1, vh1, a1, hW⟩ := hs
    refine (hW lo g1 σ1 h1 ts1 a1.t a1.len a1.s a1.base).mono fun e ts2 h2 hs2 => ?_
    cases e with
    | normal => obtain ⟨g2, σ2, vts2, vh2, a2, hk⟩ := hs2; exact fin none _ _ _ _ _ _ (a1.trans a2) hk
    | ret => obtain ⟨g2, σ2, vts2, vh2, a2, hk⟩ := hs2; exact fin (some .ret) _ _ _ _ _ _ (a1.trans a2) hk
    | exit id => obtain ⟨g2, σ2, vts2, vh2, a2, hk⟩ := hs2; exact fin (some (.exit id)) _ _ _ _ _ _ (a1.trans a2) hk
    | goto l => obtain ⟨_, _, _, _, _, hk⟩ := hs2; exact hk.elim
    | panic ch => obtain ⟨_, _, _, _, _, hk⟩ := hs2; exact hk.elim
    | outgrown => obtain ⟨_, _, _, _, _, hk⟩ := hs2; exact hk.elim
  | exit id => obtain ⟨_, _, _, _, _, hk⟩ := hs; exact hk.elim
  | goto l => obtain ⟨_, _, _, _, _, hk⟩ := hs; exact hk.elim
  | ret => obtain ⟨_, _, _, _, _, hk⟩ := hs; exact hk.elim
  | panic ch => obtain ⟨_, _, _, _, _, hk⟩ := hs; exact hk.elim
  | outgrown => obtain ⟨_, _, _, _, _, hk⟩ := hs; exact hk.elim

@[irreducible] def rfEnd (i : Nat) (vts : VTs) (Q : VPost) (vh' : VHeap) : Prop := match vh'.get i with
  | some (.loop _ _ _ _ _ none) => Q .normal vts (vh'.drop i)
  | some (.loop _ _ _ _ _ (some .ret)) => Q .ret vts (vh'.drop i)
  | some (.loop _ _ _ _ _ (some (.exit id))) => Q (.exit id) vts (vh'.drop i)
  | _ => False
def rfPost (i : Nat) (vts : VTs) (Q : VPost) : VPost
  | .normal, _, vh' => rfEnd i vts Q vh'
  | .ret, _, vh' => rfEnd i vts Q vh'
  | _, _, _ => False

theorem vt_args {n m : Nat} {args : List PV} {args' : List Value} (ha : PRs (VR g σ n) args args') : VT g σ n (vargs 0 args) (args' ++ List.replicate m Go.undef) := fun t v hv => by
  rw [vargs_get] at hv
  simp at hv
  obtain ⟨v', h1, h2⟩ := ha.get hv
  have hlt : t < args'.length := by
    rcases Nat.lt_or_ge t args'.length with h | h
    · exact h
    · rw [List.getElem?_eq_none h] at h1; cases h1
  have : (args' ++ List.replicate m Go.undef).getD t Go.undef = v' := by
    rw [List.getD, List.getElem?_append_left hlt, h1]; rfl
  rw [this]; exact h2

theorem VW.rangeFunc {g0 : Operand} {ps : Array Tmp} {assign body : Code} {f : FuncId} {fn : Func} {c : Code} {xs ys : List PV} (hg : veval vts g0 = some (.func f xs ys)) (hcf : ∀ cs w, (callFunc f cs).run P w = .ok (.enter f cs) w)
    (hf : P.funcs[f]? = some fn) (hb : fn.body = some c) (hr : fn.results = #[]) (hn : Nat.ble (xs.length + 1 + ys.length) fn.ntmps = true)
    (hc : VW P fn.ntmps (vh.next + 1) c (rfPost vh.next vts Q) (vargs 0 (xs ++ [.yld vh.next] ++ ys)) (vh.alloc (.loop N ps assign body vts none))) : VW P N b (.rangeFunc g0 ps assign body) Q vts vh := fun lo g σ h ts ht hN s hbn => by
  obtain ⟨f', k1, k2⟩ := veval_ok ht hg
  obtain ⟨xs', ys', rfl, hx, hy⟩ := vr_list_inv k2
  have hσ1 : ∀ i, i < vh.next → (σ.put vh.next (h.next, 0,0)) i = σ i := fun i hi => Sg.put_ne _ _ (by omega)
  obtain ⟨s1, f1⟩ := s.alloc (x := .loop N ps assign body vts none) (.loop ⟨ps, assign, body, ts, 0⟩ none) 0 ⟨⟨ps, assign, body, ts, 0⟩, by rw [Sg.put_same, AHeap.get_alloc]; simp, rfl, rfl, rfl, hN, ht.mono (Fz.le_refl g) (Nat.le_succ _) hσ1⟩
  have ha : PRs (VR g (σ.put vh.next (h.next, 0,0)) (vh.next + 1)) (xs ++ [.yld vh.next] ++ ys) (xs'.toList ++ [Value.func (.yield h.next) #[] #[]] ++ ys'.toList) :=
    ((hx.vmono (Fz.le_refl g) (Nat.le_succ _) hσ1).append (.cons (.yld vh.next h.next 0 0 (Nat.lt_succ_self _) (Sg.put_same _ _ _)) .nil)).append (hy.vmono (Fz.le_refl g) (Nat.le_succ _) hσ1)
  refine .rangeFunc 0 k1 hcf (.of_body hf hb ?_)
  have hlen : ((xs'.toList ++ [Value.func (.yield h.next) #[] #[]] ++ ys'.toList) ++ List.replicate (fn.ntmps - (xs'.toList ++ [Value.func (.yield h.next) #[] #[]] ++ ys'.toList).length) Go.undef).length = fn.ntmps := by
    have h1 := ha.1
    have h2 : xs.length + 1 + ys.length ≤ fn.ntmps := by simpa using hn
    simp at h1 ⊢; omega
  refine (hc lo g _ _ _ (vt_args ha) hlen s1 (Nat.le_refl _)).mono fun e ts' h' ⟨g', σ', vts', vh', a, k⟩ => ?_
  have fin : rfEnd vh.next vts Q vh' → ∃ l, aresults P ts' h' fn.results.toList = some l ∧ ∃ L jump, h'.get h.next = some (.loop L jump) ∧ match jump with
        | none => Sim N b lo g σ vh h (Q .normal) ts (h'.put h.next none)
        | some c => AW P lo c (fun e => Sim N b lo g σ vh h (Q e)) ts (h'.put h.next none) := fun hend => by
    refine ⟨[], by rw [hr]; rfl, ?_⟩
    have hag : σ' vh.next = (h.next, 0,0) := (a.agree vh.next (Nat.lt_succ_self _)).trans (Sg.put_same _ _ _)
    have hag2 : ∀ i, i < vh.next → σ' i = σ i := fun i hi => (a.agree i (by omega)).trans (hσ1 i hi)
    have hnn : vh.next ≤ vh'.next := Nat.le_trans (Nat.le_succ _) a.base
    have done : ∀ {N2 ps2 a2 b2 vts2 jump}, vh'.get vh.next = some (.loop N2 ps2 a2 b2 vts2 jump) → ∀ {K : VTs → VHeap → Prop}, K vts (vh'.drop vh.next) → Sim N b lo g σ vh h K ts (h'.put h.next none) := fun hgv K hK => by
      have := a.s.kill hgv rfl
      rw [hag] at this
      exact ⟨g', σ', vts, vh'.drop vh.next, ⟨ht.mono a.le hnn hag2, hN, this.1, a.le, fun i hi => hag2 i (by omega),(f1.trans a.f).trans this.2, Nat.le_trans hbn hnn, (GOwn.refl g σ vh h).trans f1 a.own⟩, hK⟩
    have obj : ∀ {N2 ps2 a2 b2 vts2 jump}, vh'.get vh.next = some (.loop N2 ps2 a2 b2 vts2 jump) → ∃ L, h'.get h.next = some (.loop L jump) := fun hgv => by
      obtain ⟨_, L, q1, _⟩ := a.s.obj _ _ hgv
      rw [hag] at q1
      exact ⟨L, q1⟩
    unfold rfEnd at hend
    split at hend
    · rename_i hgv; obtain ⟨L, hL⟩ := obj hgv; exact ⟨L, none, hL, done hgv hend⟩
    · rename_i hgv; obtain ⟨L, hL⟩ := obj hgv; exact ⟨L, some .ret, hL, .ret (done hgv hend)⟩
    · rename_i id hgv; obtain ⟨L, hL⟩ := obj hgv; exact ⟨L, some (.exit id), hL, .exit (done hgv hend)⟩
    · exact hend.elim
  cases e with
  | normal => exact fin k
  | ret => exact fin k
  | exit id => exact k.elim
  | goto l => exact k.elim
  | panic ch => exact k.elim
  | outgrown => exact k.elim
end
end Go.Am
end

/-
  The value machine, part V: stretches whose order is drawn, with objects that float.
-/
section
namespace Go.Am
set_option linter.unusedVariables false
set_option linter.unusedSimpArgs false

section
variable {P : Program} {N b lo : Nat} {Q : VPost} {vts : VTs} {vh vh' : VHeap} {g g' : Fz} {σ σ' : Sg} {h h' : AHeap}

def vopA (P : Program) (vts : VTs) (vh : VHeap) : Op → Option (PV × VObj)
  | .alloc t => (vzero P t).map fun z => (.ptr vh.next 0, .box z)
  | .box _ x => (veval vts x).map fun v => (.ptr vh.next 0, .box v.cells)
  | .buildSlice t n parts => match vparts vts parts.toList with
    | some l => match vbuildSlice P ⟨vh.next, []⟩ t n l with
      | some (v, vh2) => match vh2.get vh.next with
        | some x => some (v, x)
        | none => none
      | none => none
    | none => none
  | _ => none

end
end Go.Am
end

/-
  The value machine, part W: schedules with objects that float.
-/
section
namespace Go.Am
set_option linter.unusedVariables false
set_option linter.unusedSimpArgs false

def hidF (ms : List Nat) (k : Nat) (vfl : List (Nat × Nat)) : List (Nat × Nat) := vfl.filter fun p => !bm ms p.1 k
def hidI (ms : List Nat) (k : Nat) (vfl : List (Nat × Nat)) : List Nat := (hidF ms k vfl).map (·.2)
def backL (vh0 : VHeap) : List Nat → VHeap → VHeap
  | [], vh => vh
  | i :: r, vh => match vh0.get i with
    | some x => (backL vh0 r vh).back i x
    | none => backL vh0 r vh
structure FlA (base : Nat) (σ' : Sg) (vh' : VHeap) (h' : AHeap) (vfl : List (Nat × Nat)) (fl : List (Nat × AObj)) : Prop where
  ms : vfl.map (·.1) = fl.map (·.1)
  nd : (fl.map (·.1)).Nodup
  place : ∀ p ∈ vfl, (σ' p.2).1 = base + p.1 ∧ ∃ x, vh'.get p.2 = some x ∧ x.live = true
  free : ∀ q ∈ fl, h'.get (base + q.1) = none ∧ base + q.1 < h'.next

def VScrF (P : Program) (N b : Nat) (ops : Array Oper) (ms W As : List Nat) (K : VTs → VHeap → Prop) : List SItem → List Nat → List (Nat × Nat) → List Nat → VTs → VHeap → Prop
  | [], _, _, _, vts, vh => K vts vh
  | .op m :: r, todo, vfl, Ar, vts, vh =>
    match ops[m]? with
    | none => False
    | some o => match vwanted ops o vts with
      | none => False
      | some false => dstOK N o.dst = true ∧ VScrF P N b ops ms W As K r (todoF ops todo o.dst) vfl Ar (tput vts o.dst (.tup [])) vh
      | some true => bif W.contains m then VWStep P N vh.next ops o todo (fun todo' vts2 vh2 => VScrF P N b ops ms W As K r todo' (hidF ms m vfl) Ar vts2 (backL vh (hidI ms m vfl) vh2)) vts (dropL (hidI ms m vfl) vh)
        else bif Ar.contains m then As.contains m = true ∧ dstOK N o.dst = true ∧ ∃ v x, vopA P vts vh o.op = some (v, x) ∧ VScrF P N b ops ms W As K r (todoF ops todo o.dst) ((m, vh.next) :: vfl) (Ar.filter fun k => !Nat.beq k m) (tput vts o.dst v) (vh.alloc x)
        else As.contains m = false ∧ isR o.op = true ∧ dstOK N o.dst = true ∧ ∃ v, vop P vts (dropL (hidI ms m vfl) vh) o.op = some (v, dropL (hidI ms m vfl) vh) ∧
          VScrF P N b ops ms W As K r (bif selfFree o && vfl.isEmpty then m :: todoF ops todo o.dst else todoF ops todo o.dst) vfl Ar (tput vts o.dst v) vh
  | .ck m :: r, todo, vfl, Ar, vts, vh =>
    match ops[m]? with
    | none => False
    | some o => (todo.contains m = true ∨ o.dst.isSome = true ∧ vwanted ops o vts = some false) ∧ VScrF P N b ops ms W As K r todo vfl Ar vts vh

section
variable {P : Program} {N b lo : Nat} {ops : Array Oper} {g g' : Fz} {σ σ' : Sg} {vh vh' : VHeap} {hs h' : AHeap} {base : Nat} {ms W As : List Nat}

variable {vts : VTs} {todo : List Nat} {vfl : List (Nat × Nat)} {Ar : List Nat} {K : VTs → VHeap → Prop} {m : Nat} {r : List SItem} {o : Oper}
theorem VScrF.rd {v : PV} (ho : ops[m]? = some o) (hw : vwanted ops o vts = some true) (hW : W.contains m = false) (hA : Ar.contains m = false) (hA2 : As.contains m = false) (hr : isR o.op = true) (hd : dstOK N o.dst = true)
    (hv : vop P vts (dropL (hidI ms m vfl) vh) o.op = some (v, dropL (hidI ms m vfl) vh)) (hk : VScrF P N b ops ms W As K r (bif selfFree o && vfl.isEmpty then m :: todoF ops todo o.dst else todoF ops todo o.dst) vfl Ar (tput vts o.dst v) vh) :
    VScrF P N b ops ms W As K (.op m :: r) todo vfl Ar vts vh := by
  simp only [VScrF, ho, hw, hW, hA, cond_false]
  exact ⟨hA2, hr, hd, v, hv, hk⟩
theorem VScrF.al {v : PV} {x : VObj} (ho : ops[m]? = some o) (hw : vwanted ops o vts = some true) (hW : W.contains m = false) (hA : Ar.contains m = true) (hA2 : As.contains m = true) (hd : dstOK N o.dst = true)
    (hv : vopA P vts vh o.op = some (v, x)) (hk : VScrF P N b ops ms W As K r (todoF ops todo o.dst) ((m, vh.next) :: vfl) (Ar.filter fun k => !Nat.beq k m) (tput vts o.dst v) (vh.alloc x)) :
    VScrF P N b ops ms W As K (.op m :: r) todo vfl Ar vts vh := by
  simp only [VScrF, ho, hw, hW, hA, cond_false, cond_true]
  exact ⟨hA2, hd, v, x, hv, hk⟩
theorem VScrF.wr (ho : ops[m]? = some o) (hw : vwanted ops o vts = some true) (hW : W.contains m = true)
    (hs : VWStep P N vh.next ops o todo (fun todo' vts2 vh2 => VScrF P N b ops ms W As K r todo' (hidF ms m vfl) Ar vts2 (backL vh (hidI ms m vfl) vh2)) vts (dropL (hidI ms m vfl) vh)) :
    VScrF P N b ops ms W As K (.op m :: r) todo vfl Ar vts vh := by
  simp only [VScrF, ho, hw, hW, cond_true]
  exact hs
theorem VScrF.un (ho : ops[m]? = some o) (hw : vwanted ops o vts = some false) (hd : dstOK N o.dst = true) (hk : VScrF P N b ops ms W As K r (todoF ops todo o.dst) vfl Ar (tput vts o.dst (.tup [])) vh) :
    VScrF P N b ops ms W As K (.op m :: r) todo vfl Ar vts vh := by
  simp only [VScrF, ho, hw]
  exact ⟨hd, hk⟩
theorem VScrF.ck (ho : ops[m]? = some o) (hc : todo.contains m = true) (hk : VScrF P N b ops ms W As K r todo vfl Ar vts vh) : VScrF P N b ops ms W As K (.ck m :: r) todo vfl Ar vts vh := by
  simp only [VScrF, ho]
  exact ⟨.inl hc, hk⟩
theorem VScrF.done (hk : K vts vh) : VScrF P N b ops ms W As K [] todo vfl Ar vts vh := hk
end
end Go.Am
end

/-
  The value machine, part X: what is handed over to be written; what comes new; nil or not.
-/
section
namespace Go.Am
set_option linter.unusedVariables false
set_option linter.unusedSimpArgs false

theorem Alt.ofEq {vh : VHeap} {n2 : Nat} {D : Nat → Bool} {ρ : Nat → Nat} {v v2 : PV} (hf : v.isF = true) (h : v = v2) : Alt vh n2 D ρ v v2 := h ▸ .same v hf
theorem Alt.sl0vE {vh : VHeap} {n2 : Nat} {D : Nat → Bool} {ρ : Nat → Nat} {v2 : PV} (h : v2 = .vec []) : Alt vh n2 D ρ .sl0 v2 := h ▸ .sl0v
theorem Alt.sl0E {vh : VHeap} {n2 : Nat} {D : Nat → Bool} {ρ : Nat → Nat} (j n : Nat) (nl : Bool) (hn : n = 0) : Alt vh n2 D ρ .sl0 (.grow j n nl) := hn ▸ .sl0 j nl

section
variable {P : Program} {N b : Nat} {vts : VTs} {vh : VHeap}

theorem VCall.fresh {f : FuncId} {args es : List PV} {sz : Nat} (hp : VCall P f args VHeap.empty fun v vh' => ∃ i nl, v = .grow i es.length nl ∧ vh'.get i = some (.grow sz es)) (hf : PV.allF args = true) (hne : 0 < es.length) :
    VCall P f args vh fun v vh' => v = .grow vh.next es.length false ∧ vh' = vh.alloc (.grow sz es) := fun lo g σ h args' ha s => by
  have ha0 : PRs (VR g σ VHeap.empty.next) args args' := (ha.isF hf).vr
  refine (hp lo g σ h args' ha0 (.none s.fz s.lole σ)).mono fun r h' ⟨g', σ', v, vh', h1, h2, h3, h4, h5, h6, h7, i, nl, h8, h9⟩ => ?_
  subst h8
  have hkeep : ∀ o, o < h.next → h'.get o = h.get o := fun o ho => h5.pres o ho fun i x hx => by cases hx
  have hlive : VObj.live (.grow sz es) = true := by
    cases es with
    | nil => simp at hne
    | cons => rfl
  obtain ⟨hi, hob⟩ := h2.obj i _ h9
  have hge : h.next ≤ (σ' i).1 := by
    rcases Nat.lt_or_ge (σ' i).1 h.next with hlt | hge
    · obtain ⟨j, y, hj, _⟩ := h5.own i _ h9 hlive hlt
      cases hj
    · exact hge
  have hg : ∀ o x, g' o = some x → o < h.next → ∃ y, g o = some y := fun o x hx ho => by
    rcases h7 o x hx ho with h | ⟨i, y, h, _⟩
    · exact ⟨_, h⟩
    · cases h
  have hσ : ∀ j, j < vh.next → (σ.put vh.next (σ' i)) j = σ j := fun j hj => Sg.put_ne _ _ (by omega)
  have split : ∀ j z, (vh.alloc (.grow sz es)).get j = some z → (j = vh.next ∧ z = .grow sz es) ∨ (j < vh.next ∧ vh.get j = some z) := fun j z hz => by
    rw [VHeap.get_alloc] at hz
    by_cases hj : j = vh.next
    · subst hj; simp at hz; exact .inl ⟨rfl, hz.symm⟩
    · simp [hj] at hz; exact .inr ⟨(s.obj j z hz).1, hz⟩
  refine ⟨g', σ.put vh.next (σ' i), .grow vh.next es.length false, vh.alloc (.grow sz es), ?_, ⟨fun j z hz => ?_, fun j k z u hz hu hlz hlu he => ?_, fun j z hz hlz => ?_, h2.fz, fun j z hz hlz => ?_, h2.lole⟩, h3, hσ, ⟨h5.next, fun o ho _ => hkeep o ho, fun j z hz hlz hlt => ?_⟩, Nat.le_succ _, fun o x hx ho => .inl (h7 o x hx ho |>.elim id fun ⟨i, y, h, _⟩ => by cases h), rfl, rfl⟩
  · generalize hm : es.length = m at h1 hne ⊢
    cases h1 with
    | fr _ _ h => cases h
    | growN => omega
    | grow0 => omega
    | grow _ _ o a k _ hi' hs hn => exact .grow vh.next m o a k false (Nat.lt_succ_self _) (by rw [Sg.put_same]; exact hs) hn
  · rcases split j z hz with ⟨rfl, rfl⟩ | ⟨hj, hz⟩
    · refine ⟨Nat.lt_succ_self _, ?_⟩
      obtain ⟨q0, q1, q2, q3⟩ := hob
      refine ⟨q0, q1, q2, q3.imp_right fun ⟨s0, cs', k1, k2, k3, k4⟩ => ⟨s0, cs', by rw [Sg.put_same]; exact k1, by rw [Sg.put_same]; exact k2, k3, by rw [Sg.put_same]; exact k4⟩⟩
    · obtain ⟨k1, k2⟩ := s.obj j z hz
      exact ⟨Nat.lt_succ_of_lt hj, k2.mono h3 (Nat.le_succ _) hσ hj fun hlz => hkeep _ (k2.lt hlz)⟩
  · rcases split j z hz with ⟨hj, _⟩ | ⟨hj, hz⟩ <;> rcases split k u hu with ⟨hk, _⟩ | ⟨hk, hu⟩
    · rw [hj, hk]
    · rw [hj, Sg.put_same, hσ k hk] at he
      have := (s.obj k u hu).2.lt hlu; omega
    · rw [hk, Sg.put_same, hσ j hj] at he
      have := (s.obj j z hz).2.lt hlz; omega
    · rw [hσ j hj, hσ k hk] at he; exact s.inj j k z u hz hu hlz hlu he
  · rcases split j z hz with ⟨rfl, rfl⟩ | ⟨hj, hz⟩
    · rw [Sg.put_same]; exact h2.low i _ h9 hlive
    · rw [hσ j hj]; exact s.low j z hz hlz
  · rcases split j z hz with ⟨rfl, rfl⟩ | ⟨hj, hz⟩
    · rw [Sg.put_same]; exact h2.dis i _ h9 hlive
    · rw [hσ j hj]
      have hd := s.dis j z hz hlz
      have hlt := (s.obj j z hz).2.lt hlz
      cases hgo : g' (σ j).1 with
      | none => rfl
      | some y =>
        obtain ⟨w, hw⟩ := hg _ y hgo hlt
        rw [hd] at hw; cases hw
  · rcases split j z hz with ⟨rfl, rfl⟩ | ⟨hj, hz⟩
    · rw [Sg.put_same] at hlt; omega
    · rw [hσ j hj] at hlt ⊢; exact ⟨j, z, hz, hlz, rfl⟩

def ReadsOK (P : Program) (vts : VTs) (vh2 : VHeap) (ops : Array Oper) (todo : List Nat) : List Nat → Prop
  | [] => True
  | m :: r => (todo.contains m = true ∧ ∃ om u, ops[m]? = some om ∧ vop P vts vh2 om.op = some (u, vh2)) ∧ ReadsOK P vts vh2 ops todo r
theorem ReadsOK.mem {vts : VTs} {vh2 : VHeap} {ops : Array Oper} {todo : List Nat} : ∀ {l : List Nat}, ReadsOK P vts vh2 ops todo l → ∀ m ∈ l, m ∈ todo ∧ ∃ om u, ops[m]? = some om ∧ vop P vts vh2 om.op = some (u, vh2)
  | [], _, m, hm => by cases hm
  | k :: r, h, m, hm => by
    rcases List.mem_cons.1 hm with rfl | hm
    · exact ⟨by simpa using h.1.1, h.1.2⟩
    · exact ReadsOK.mem h.2 m hm

theorem astore_put {lo : Nat} {h h' : AHeap} {t : TypeId} {o off : Nat} {v : Value} (hs : astore P lo h t (.pointer (some ⟨o, off, none⟩)) v = some h') : ∃ z, h' = h.put o z := by
  unfold astore at hs
  simp only at hs
  split at hs
  · rename_i s cs n hg hn
    cases hb : (Nat.ble lo o && Nat.beq v.cells.toList.length n && v.cells.toList.all (·.oneCell') && Nat.ble (off + n) cs.length) with
    | false => rw [hb] at hs; cases hs
    | true => rw [hb] at hs; simp only [cond_true, Option.some.injEq] at hs; exact ⟨_, hs.symm⟩
  · cases hs

theorem VWStep.stor {ops : Array Oper} {o : Oper} {todo todo' : List Nat} {next : List Nat → VTs → VHeap → Prop} {t : TypeId} {a x : Operand} {i off : Nat} {y0 : VObj} {v : PV} {vh' : VHeap} (ho : o.op = .store t a x) (hp : veval vts a = some (.ptr i off)) (hvi : vh.get i = some y0) (hl0 : y0.live = true)
    (hv : Go.Am.vop P vts vh o.op = some (v, vh')) (hd : o.dst = none) (ht : ReadsOK P vts (vh.drop i) ops todo todo') (hn : next todo' (tput vts o.dst v) vh') : VWStep P N b ops o todo next vts vh := fun lo g σ h ts htv hl s hb hck ts1 hag => by
  obtain ⟨v', h', k1, σ', k2, k3, k4, k5, k6⟩ := vop_ok (lo := lo) s htv hv
  obtain ⟨g1, g2⟩ := vt_put (Fz.le_refl g) k5 k6 htv o.dst (by rw [hd]; simp [dstOK]) k2
  refine .op (v := v') (h' := h') (by rw [aop_congr (fun x hx => hag.eval x hx)]; exact k1) ⟨v', rfl, todo', fun m hm => ?_, g, σ', _, vh', ⟨g1, g2.trans hl, k3, Fz.le_refl g, fun i hi => k6 i (by omega), k4, by omega, GOwn.refl _ _ _ _⟩, hn⟩
  rw [hd]
  obtain ⟨h1, om, u, h2, h3⟩ := ht.mem m hm
  obtain ⟨o', d, w, h4, c1, c2, c3, c4, c5⟩ := hck m h1
  rw [h2] at c1; injection c1 with c1; subst c1
  obtain ⟨sk, _⟩ := s.kill hvi hl0
  have hlt := (s.obj i y0 hvi).2.lt hl0
  obtain ⟨w', h5, e1, _⟩ := vop_ok (lo := lo) (vh := vh.drop i) sk htv h3
  obtain ⟨e2, e3⟩ := aop_reader c3 e1
  have sub : ∀ z, (h.put (σ i).1 none).sub (h.put (σ i).1 z) := fun z p q hq => by
    rw [AHeap.get_put _ _ _ _ hlt] at hq ⊢
    by_cases hpi : p = (σ i).1
    · simp [hpi] at hq
    · simpa [hpi] using hq
  have sub0 : (h.put (σ i).1 none).sub h := fun p q hq => by
    rw [AHeap.get_put _ _ _ _ hlt] at hq
    by_cases hpi : p = (σ i).1
    · simp [hpi] at hq
    · simpa [hpi] using hq
  have ew : w' = w := by
    have := e3 h sub0
    rw [c5] at this
    simp only [Option.some.injEq, Prod.mk.injEq] at this
    exact this.1.symm
  subst ew
  obtain ⟨a', q1, q2⟩ := veval_ok htv hp
  have hz : ∃ z, h' = h.put (σ i).1 z := by
    rw [ho] at k1
    simp only [aop, q1] at k1
    cases q2 with
    | fr _ _ hh => cases hh
    | ptr _ _ o2 a2 k2 hi2 hs2 =>
      split at k1
      · rename_i p2 v2 hp2 hv2
        injection hp2 with hp2; subst hp2
        obtain ⟨h6, e5, e6⟩ := map_some_inv k1
        simp only [Prod.mk.injEq] at e6
        obtain ⟨_, rfl⟩ := e6
        rw [hs2]
        exact astore_put e5
      · cases k1
  obtain ⟨z, rfl⟩ := hz
  exact ⟨om, d, w', _, h2, c2, c3, c4, e3 _ (sub z)⟩

theorem VScr.ckU {ops : Array Oper} {W todo : List Nat} {K : VTs → VHeap → Prop} {m : Nat} {r : List SItem} {o : Oper} (ho : ops[m]? = some o) (hw : vwanted ops o vts = some false) (hd : o.dst.isSome = true)
    (k : VScr P N b ops W K r todo vts vh) : VScr P N b ops W K (.ck m :: r) todo vts vh := by
  simp only [VScr, ho]; exact ⟨.inr ⟨hd, hw⟩, k⟩
theorem VScrF.ckU {ops : Array Oper} {ms W As todo Ar : List Nat} {vfl : List (Nat × Nat)} {K : VTs → VHeap → Prop} {m : Nat} {r : List SItem} {o : Oper} (ho : ops[m]? = some o) (hw : vwanted ops o vts = some false) (hd : o.dst.isSome = true)
    (k : VScrF P N b ops ms W As K r todo vfl Ar vts vh) : VScrF P N b ops ms W As K (.ck m :: r) todo vfl Ar vts vh := by
  simp only [VScrF, ho]; exact ⟨.inr ⟨hd, hw⟩, k⟩
end
end Go.Am
end

/-
  The value machine, part Y: where the branches of a statement meet again.
-/
section
namespace Go.Am
set_option linter.unusedVariables false

section
variable {P : Program} {N b : Nat} {vts : VTs} {vh : VHeap}
end
end Go.Am
end

section
namespace Go.Am
open Go Go.Proofs
section
variable {P : Program} {N b : Nat} {vts : VTs} {vh : VHeap}
theorem amapUpdate_put {P : Program} {lo : Nat} {h h' : AHeap} {t : TypeId} {o : Nat} {k v : Value} (hs : amapUpdate P lo h t (.map (some o)) k v = some h') : ∃ z, h' = h.put o z := by
  unfold amapUpdate at hs
  split at hs
  · rename_i hk
    injection hk with hk; injection hk with hk; subst hk
    split at hs
    · cases hb : Nat.ble lo _ with
      | false => rw [hb] at hs; cases hs
      | true =>
        rw [hb, cond_true] at hs
        split at hs
        · injection hs with hs; exact ⟨_, hs.symm⟩
        · injection hs with hs; exact ⟨_, hs.symm⟩
        · cases hs
    · cases hs
  · cases hs
theorem VWStep.mput {ops : Array Oper} {o : Oper} {todo todo' : List Nat} {next : List Nat → VTs → VHeap → Prop} {t : TypeId} {a kx x : Operand} {i : Nat} {y0 : VObj} {v : PV} {vh' : VHeap} (ho : o.op = .mapUpdate t a kx x) (hp : veval vts a = some (.mapv i)) (hvi : vh.get i = some y0) (hl0 : y0.live = true)
    (hv : Go.Am.vop P vts vh o.op = some (v, vh')) (hd : o.dst = none) (ht : ReadsOK P vts (vh.drop i) ops todo todo') (hn : next todo' (tput vts o.dst v) vh') : VWStep P N b ops o todo next vts vh := fun lo g σ h ts htv hl s hb hck ts1 hag => by
  obtain ⟨v', h', k1, σ', k2, k3, k4, k5, k6⟩ := vop_ok (lo := lo) s htv hv
  obtain ⟨g1, g2⟩ := vt_put (Fz.le_refl g) k5 k6 htv o.dst (by rw [hd]; simp [dstOK]) k2
  refine .op (v := v') (h' := h') (by rw [aop_congr (fun x hx => hag.eval x hx)]; exact k1) ⟨v', rfl, todo', fun m hm => ?_, g, σ', _, vh', ⟨g1, g2.trans hl, k3, Fz.le_refl g, fun i hi => k6 i (by omega), k4, by omega, GOwn.refl _ _ _ _⟩, hn⟩
  rw [hd]
  obtain ⟨h1, om, u, h2, h3⟩ := ht.mem m hm
  obtain ⟨o', d, w, h4, c1, c2, c3, c4, c5⟩ := hck m h1
  rw [h2] at c1; injection c1 with c1; subst c1
  obtain ⟨sk, _⟩ := s.kill hvi hl0
  have hlt := (s.obj i y0 hvi).2.lt hl0
  obtain ⟨w', h5, e1, _⟩ := vop_ok (lo := lo) (vh := vh.drop i) sk htv h3
  obtain ⟨e2, e3⟩ := aop_reader c3 e1
  have sub : ∀ z, (h.put (σ i).1 none).sub (h.put (σ i).1 z) := fun z p q hq => by
    rw [AHeap.get_put _ _ _ _ hlt] at hq ⊢
    by_cases hpi : p = (σ i).1
    · simp [hpi] at hq
    · simpa [hpi] using hq
  have sub0 : (h.put (σ i).1 none).sub h := fun p q hq => by
    rw [AHeap.get_put _ _ _ _ hlt] at hq
    by_cases hpi : p = (σ i).1
    · simp [hpi] at hq
    · simpa [hpi] using hq
  have ew : w' = w := by
    have := e3 h sub0
    rw [c5] at this
    simp only [Option.some.injEq, Prod.mk.injEq] at this
    exact this.1.symm
  subst ew
  obtain ⟨a', q1, q2⟩ := veval_ok htv hp
  have hz : ∃ z, h' = h.put (σ i).1 z := by
    rw [ho] at k1
    simp only [aop, q1] at k1
    cases q2 with
    | fr _ _ hh => cases hh
    | mapv _ o2 a2 k2 hi2 hs2 =>
      split at k1
      · rename_i p2 w2 v2 hp2 hw2 hv2
        injection hp2 with hp2; subst hp2
        obtain ⟨h6, e5, e6⟩ := map_some_inv k1
        simp only [Prod.mk.injEq] at e6
        obtain ⟨_, rfl⟩ := e6
        rw [hs2]
        exact amapUpdate_put e5
      · cases k1
  obtain ⟨z, rfl⟩ := hz
  exact ⟨om, d, w', _, h2, c2, c3, c4, e3 _ (sub z)⟩
theorem VScr.td {P : Program} {N b : Nat} {vts : VTs} {vh : VHeap} {ops : Array Oper} {W todo todo' : List Nat} {K : VTs → VHeap → Prop} {l : List SItem} (h : todo = todo') (hc : VScr P N b ops W K l todo' vts vh) : VScr P N b ops W K l todo vts vh := h ▸ hc
end
end Go.Am
end

/-
  The abstract machine, evaluated in pieces: calls whose heaps before and behind are written down.
-/
section
namespace Go.Am

noncomputable def sameT : Value → Value → Bool
  | .tuple x, .tuple y => List.rec (motive := fun _ => List Value → Bool) (fun m => match m with | [] => true | _ => false) (fun a _ ih m => match m with | [] => false | b :: s => sameD a b && ih s) x.toList y.toList
  | a, b => sameD a b

noncomputable def sameDL (l : List Value) : List Value → Bool :=
  List.rec (motive := fun _ => List Value → Bool) (fun m => match m with | [] => true | _ => false) (fun a _ ih m => match m with | [] => false | b :: s => sameD a b && ih s) l

theorem sameDL_eq : ∀ {l m : List Value}, sameDL l m = true → l = m
  | [],[], _ => rfl
  | [], _ :: _, h => by cases h
  | _ :: _, [], h => by cases h
  | a :: r, b :: s, h => by
    have h' : (sameD a b && sameDL r s) = true := h
    rw [Bool.and_eq_true] at h'
    rw [sameD_eq h'.1, sameDL_eq h'.2]

theorem sameT_eq {a b : Value} (h : sameT a b = true) : a = b := by
  unfold sameT at h
  split at h
  · rw [Array.ext' (sameDL_eq h)]
  · exact sameD_eq h

noncomputable def sameP (l : List (Value × Value)) : List (Value × Value) → Bool :=
  List.rec (motive := fun _ => List (Value × Value) → Bool) (fun m => match m with | [] => true | _ => false) (fun a _ ih m => match m with | [] => false | b :: s => sameV a.1 b.1 && (sameV a.2 b.2 && ih s)) l

theorem sameP_eq : ∀ {l m : List (Value × Value)}, sameP l m = true → l = m
  | [],[], _ => rfl
  | [], _ :: _, h => by cases h
  | _ :: _, [], h => by cases h
  | a :: r, b :: s, h => by
    have h' : (sameV a.1 b.1 && (sameV a.2 b.2 && sameP r s)) = true := h
    rw [Bool.and_eq_true, Bool.and_eq_true] at h'
    rw [Prod.ext (sameV_eq h'.1) (sameV_eq h'.2.1), sameP_eq h'.2.2]

noncomputable def sameO : AObj → AObj → Bool
  | .cells s cs, .cells s' cs' => Nat.beq s s' && sameL cs cs'
  | .map es, .map es' => sameP es es'
  | _, _ => false

theorem sameO_eq {a b : AObj} (h : sameO a b = true) : a = b := by
  unfold sameO at h
  split at h
  · rw [Bool.and_eq_true] at h
    rw [Nat.eq_of_beq_eq_true h.1, sameL_eq h.2]
  · rw [sameP_eq h]
  · cases h

noncomputable def mkH (n : Nat) (l : List (Nat × AObj)) : AHeap := List.rec (motive := fun _ => AHeap) ⟨n, .nil⟩ (fun p _ ih => ih.put p.1 (some p.2)) l

theorem mkH_next (n : Nat) : ∀ l, (mkH n l).next = n
  | [] => rfl
  | p :: r => mkH_next n r

noncomputable def allLt (n : Nat) (l : List (Nat × AObj)) : Bool := List.rec (motive := fun _ => Bool) true (fun p _ ih => Nat.blt p.1 n && ih) l
noncomputable def subB (h : AHeap) (l : List (Nat × AObj)) : Bool := List.rec (motive := fun _ => Bool) true (fun p _ ih => (match h.get p.1 with
  | some x => sameO x p.2
  | none => false) && ih) l

theorem get_nil (n o : Nat) : (AHeap.mk n .nil).get o = none := by
  simp only [AHeap.get_eq]
  split <;> rfl

theorem mkH_get (n : Nat) : ∀ {l : List (Nat × AObj)}, allLt n l = true → ∀ {o x},(mkH n l).get o = some x → ∃ p ∈ l, p.1 = o ∧ p.2 = x
  | [], _, o, x, h => by
    have h : (AHeap.mk n .nil).get o = some x := h
    rw [get_nil] at h; cases h
  | p :: r, ha, o, x, h => by
    have ha : (Nat.blt p.1 n && allLt n r) = true := ha
    rw [Bool.and_eq_true, Nat.blt_eq] at ha
    have h : ((mkH n r).put p.1 (some p.2)).get o = some x := h
    rw [AHeap.get_put _ _ _ _ (by rw [mkH_next]; exact ha.1)] at h
    by_cases ho : o = p.1
    · simp only [ho, if_true, Option.some.injEq] at h
      exact ⟨p, List.mem_cons_self, ho.symm, h⟩
    · simp only [ho, if_false] at h
      obtain ⟨q, h1, h2⟩ := mkH_get n ha.2 h
      exact ⟨q, List.mem_cons_of_mem _ h1, h2⟩

theorem subB_get {h : AHeap} : ∀ {l : List (Nat × AObj)}, subB h l = true → ∀ p ∈ l, h.get p.1 = some p.2
  | [], _, p, hp => by cases hp
  | q :: r, hs, p, hp => by
    have hs : ((match h.get q.1 with | some x => sameO x q.2 | none => false) && subB h r) = true := hs
    rw [Bool.and_eq_true] at hs
    rcases List.mem_cons.1 hp with rfl | hp
    · cases hg : h.get p.1 with
      | none => rw [hg] at hs; cases hs.1
      | some x => rw [hg] at hs; rw [sameO_eq hs.1]
    · exact subB_get hs.2 p hp

theorem Recast.toH {h : AHeap} {n : Nat} {l : List (Nat × AObj)} (hn : h.next = n) (hl : allLt n l = true) (hs : subB h l = true) : Recast 0 h (mkH n l) :=
  .sub (by rw [mkH_next, hn]) (fun o x hx => by
    obtain ⟨p, h1, rfl, rfl⟩ := mkH_get n hl hx
    exact subB_get hs p h1) (fun o ho => absurd ho (Nat.not_lt_zero o))

structure Piece where
  f : Nat
  args : List Value
  n : Nat
  l : List (Nat × AObj)
  r : Value
  n' : Nat
  l' : List (Nat × AObj)

section
variable {P : Program}

def CallOK (P : Program) (f : Nat) : Prop := ∀ cs w, (callFunc f cs).run P w = .ok (.enter f cs) w

structure PieceOK (P : Program) (p : Piece) : Prop where
  call : CallOK P p.f
  run : ACall P 0 p.f p.args (mkH p.n p.l) fun r h => r = p.r ∧ h = mkH p.n' p.l'
  lt : allLt p.n p.l = true

noncomputable def pieceB (orc : Orc) (p : Piece) : Bool := allLt p.n p.l && match orc.call p.f p.args (mkH p.n p.l) with
  | some (r, h') => sameT r p.r && Nat.beq h'.next p.n' && allLt p.n' p.l' && subB h' p.l'
  | none => false

theorem pieceOK_of {orc : Orc} (ok : OrcOK P 0 orc) {p : Piece} (hp : pieceB orc p = true) : PieceOK P p := by
  unfold pieceB at hp
  rw [Bool.and_eq_true] at hp
  obtain ⟨h0, hp⟩ := hp
  split at hp
  · rename_i r h' hc
    simp only [Bool.and_eq_true] at hp
    obtain ⟨⟨⟨h1, h2⟩, h3⟩, h4⟩ := hp
    obtain ⟨hk, ha⟩ := ok.call _ _ _ _ _ hc
    refine ⟨hk, ha.recast fun r2 h2' ⟨e1, e2⟩ => ?_, h0⟩
    subst e1; subst e2
    exact ⟨_, .toH (Nat.eq_of_beq_eq_true h2) h3 h4, sameT_eq h1, rfl⟩
  · cases hp

noncomputable def findP (n : Nat) (l : List Piece) : Option Piece := List.rec (motive := fun _ => Option Piece) none (fun a _ ih => cond (Nat.beq n a.n) (some a) ih) l

theorem findP_mem {n : Nat} : ∀ {l : List Piece} {p : Piece}, findP n l = some p → p ∈ l ∧ p.n = n
  | [], _, h => by cases h
  | a :: r, p, h => by
    have h : cond (Nat.beq n a.n) (some a) (findP n r) = some p := h
    cases hb : Nat.beq n a.n with
    | true =>
      rw [hb, cond_true] at h; injection h with h; subst h
      exact ⟨List.mem_cons_self, (Nat.eq_of_beq_eq_true hb).symm⟩
    | false =>
      rw [hb, cond_false] at h
      exact ⟨List.mem_cons_of_mem _ (findP_mem h).1,(findP_mem h).2⟩

noncomputable def orcP (ps : List Piece) (orc : Orc) : Orc where
  call f args h := match findP h.next ps with
    | some p => cond (Nat.beq f p.f && sameDL args p.args && subB h p.l) (some (p.r, mkH p.n' p.l')) (orc.call f args h)
    | none => orc.call f args h
  yld := orc.yld

theorem ACall.recast1 {f : FuncId} {args : List Value} {h h2 : AHeap} {lo : Nat} {R : Value → AHeap → Prop} (hr : Recast lo h h2) (hc : ACall P lo f args h2 R) : ACall P lo f args h R := by
  intro F hF hro n μ w cargs ha r
  obtain ⟨k1, k2⟩ := hr μ w μ h w r (Frame.refl _ _ _ _)
  refine (hc F hF hro n μ w cargs ha k1).mono fun e w' ⟨r', v, h', μ', h1, h2, h3, h4, h5⟩ => ?_
  exact ⟨r', v, h', μ', h1, h2, h3, k2.trans h4, h5⟩

theorem orcP_ok {ps : List Piece} {orc : Orc} (hps : ∀ p ∈ ps, PieceOK P p) (ok : OrcOK P 0 orc) : OrcOK P 0 (orcP ps orc) := by
  refine ⟨fun f args h r h' hv => ?_, ok.yld⟩
  have hv : (match findP h.next ps with
    | some p => cond (Nat.beq f p.f && sameDL args p.args && subB h p.l) (some (p.r, mkH p.n' p.l')) (orc.call f args h)
    | none => orc.call f args h) = some (r, h') := hv
  cases hf : findP h.next ps with
  | none => rw [hf] at hv; exact ok.call _ _ _ _ _ hv
  | some p =>
    rw [hf] at hv
    obtain ⟨h1, h2⟩ := findP_mem hf
    have hp := hps p h1
    have hv : cond (Nat.beq f p.f && sameDL args p.args && subB h p.l) (some (p.r, mkH p.n' p.l')) (orc.call f args h) = some (r, h') := hv
    cases hb : (Nat.beq f p.f && sameDL args p.args && subB h p.l) with
    | false => rw [hb, cond_false] at hv; exact ok.call _ _ _ _ _ hv
    | true =>
      rw [hb, cond_true, Option.some.injEq, Prod.mk.injEq] at hv
      obtain ⟨v1, v2⟩ := hv
      simp only [Bool.and_eq_true] at hb
      obtain ⟨⟨b1, b2⟩, b3⟩ := hb
      have e1 := Nat.eq_of_beq_eq_true b1
      have e2 := sameDL_eq b2
      subst e1; subst e2
      refine ⟨hp.call, (ACall.recast1 (.toH h2.symm hp.lt b3) hp.run).mono fun r2 h3 ⟨k1, k2⟩ => ?_⟩
      rw [k1, k2]; exact ⟨v1, v2⟩

theorem closed_of {orc : Orc} (ok : OrcOK P 0 orc) {f : FuncId} {b : Bool} (h : (match orc.call f [] AHeap.empty with
    | some (.bool c, _) => c == b
    | _ => false) = true) : ACall P 0 f [] AHeap.empty fun r _ => r = .bool b := by
  split at h
  · rename_i c h' hc
    refine (ok.call _ _ _ _ _ hc).2.mono fun r2 h2 ⟨e1, _⟩ => ?_
    rw [e1, eq_of_beq h]
  · cases h
end
end Go.Am
end

/-
  The abstract machine: what a call of plain values hands back, in the next object.
-/
section
namespace Go.Am

section
variable {P : Program} {lo : Nat}

theorem ACall.keepInts {h : AHeap} {f : FuncId} {args : List Value} {zs : List Int} (hlo : lo ≤ h.next) (hpos : 0 < zs.length)
    (hc : ACall P h.next f args h fun r h' => ∃ o off k s cs, r = .slice (some ⟨o, off, none⟩) zs.length k ∧ h.next ≤ o ∧ k < unk ∧ h'.get o = some (.cells s cs) ∧ ∀ (i : Nat) x, zs[i]? = some x → cs[off + i]? = some (.int .i64 x)) :
    ACall P lo f args h fun r h' => r = .slice (some ⟨h.next, 0, none⟩) zs.length inex ∧ h' = h.alloc (.cells 0 (zs.map (.int .i64))) := by
  intro F hF hro n μ w cargs ha r
  refine (hc F hF hro n μ w cargs ha (r.sub (Nat.le_refl _) (fun _ _ hx => hx) hlo (Nat.le_refl _))).mono fun e w' ⟨r', v, h', μ', h1, h2, h3, h4, o, off, k, s, cs, h5, h6, h7, h8, h9⟩ => ?_
  subst h5
  obtain ⟨g1, g2⟩ := r.restore h4 (fun o x hx => AHeap.lt_of_get hx)
  obtain ⟨b, a, C, hm, hob⟩ := h3.objs o _ h8
  have hbw : w.heap.size ≤ b := by
    rcases Nat.lt_or_ge b w.heap.size with hb | hb
    · obtain ⟨o2, x2, a2, C2, k1, k2, _⟩ := h4.own b hb ⟨o, _, a, C, h6, h8, hm⟩
      have := AHeap.lt_of_get k2
      omega
    · exact hb
  have hv : v = .slice (some ⟨b, a + off, none⟩) zs.length (capOf C k) ∧ zs.length ≤ capOf C k := by
    generalize hz : zs.length = z at h2 hpos ⊢
    cases h2 with
    | slice _ _ _ _ b1 a1 C1 hm1 hl1 hk1 =>
      rw [hm] at hm1; injection hm1 with hm1; injection hm1 with e1 e2; injection e2 with e2 e3; subst e1; subst e2; subst e3
      exact ⟨rfl, hl1⟩
    | sliceZ => exact absurd hpos (Nat.lt_irrefl _)
    | slice0 => exact absurd hpos (Nat.lt_irrefl _)
  obtain ⟨hv, hcap⟩ := hv
  have hle := r.le_put (b, a + off, capOf C k)
  have hblk : ∀ p y b' a' C', h.get p = some y → μ p = some (b', a', C') → b' < w.heap.size := fun p y b' a' C' hy hmu => by
    obtain ⟨b2, a2, C2, k1, k2⟩ := r.objs p y hy
    rw [hmu] at k1; injection k1 with k1; injection k1 with k1 _; subst k1
    exact k2.block_lt
  have hnew : RelO (μ.put h.next (b, a + off, capOf C k)) w' b (a + off) (capOf C k) (.cells 0 (zs.map (.int .i64))) := ⟨hob.1, fun i v' hv' => by
    rw [List.getElem?_map] at hv'
    cases hz : zs[i]? with
    | none => rw [hz] at hv'; cases hv'
    | some x =>
      rw [hz] at hv'; simp only [Option.map_some, Option.some.injEq] at hv'; subst hv'
      obtain ⟨v2, k1, k2⟩ := hob.2.1 (off + i) _ (h9 i x hz)
      cases k2
      exact ⟨_, by rw [Nat.add_assoc]; exact k1, .int _ _⟩, fun h => absurd h (Nat.lt_irrefl _)⟩
  have split : ∀ p y, (h.alloc (.cells 0 (zs.map (.int .i64)))).get p = some y → (p = h.next ∧ y = .cells 0 (zs.map (.int .i64))) ∨ (p ≠ h.next ∧ h.get p = some y) := fun p y hy => by
    rw [AHeap.get_alloc] at hy
    by_cases hp : p = h.next
    · subst hp; simp at hy; exact .inl ⟨rfl, hy.symm⟩
    · simp [hp] at hy; exact .inr ⟨hp, hy⟩
  refine ⟨_, v, _, μ.put h.next (b, a + off, capOf C k), h1, ?_, ⟨fun p y hy => ?_, fun p p' y y' b' a' C' a2 C2 hlp hy hy' k1 k2 => ?_, fun p y hy => ?_, fun p y b' a' C' hlp hy k1 off => ?_, ?_⟩, ⟨hle, g2.size, by simp, g2.kept, fun b' hb' => ?_, fun p hp => ?_, fun p hp => Mu.put_other _ (by omega), fun p hp hn => ?_, g2.calm⟩, rfl, rfl⟩
  · rw [hv]
    have hc2 : capOf (capOf C k) inex = capOf C k := by unfold capOf; simp
    have := RelV.slice (μ := μ.put h.next (b, a + off, capOf C k)) h.next 0 zs.length inex b (a + off) (capOf C k) (Mu.put_same _ _ _) (by rw [hc2]; exact hcap) (by decide)
    rw [hc2] at this
    exact this
  · rcases split p y hy with ⟨rfl, rfl⟩ | ⟨hp, hy⟩
    · exact ⟨b, a + off, capOf C k, Mu.put_same _ _ _, hnew⟩
    · obtain ⟨b', a', C', k1, k2⟩ := g1.objs p y hy
      exact ⟨b', a', C', by rw [Mu.put_other _ hp]; exact k1, k2.mono hle⟩
  · rcases split p y hy with ⟨rfl, rfl⟩ | ⟨hp, hy⟩ <;> rcases split p' y' hy' with ⟨rfl, rfl⟩ | ⟨hp', hy'⟩
    · rfl
    · rw [Mu.put_same] at k1; injection k1 with k1; injection k1 with k1 _; subst k1
      rw [Mu.put_other _ hp'] at k2
      have := hblk p' y' _ _ _ hy' k2
      omega
    · rw [Mu.put_same] at k2; injection k2 with k2; injection k2 with k2 _; subst k2
      rw [Mu.put_other _ hp] at k1
      have := hblk p y _ _ _ hy k1
      omega
    · rw [Mu.put_other _ hp] at k1; rw [Mu.put_other _ hp'] at k2
      exact g1.inj p p' y y' b' a' C' a2 C2 hlp hy hy' k1 k2
  · by_cases hp : p = h.next
    · subst hp; simp
    · rw [Mu.put_other _ hp] at hy
      have := r.dom p y hy
      simp; omega
  · rcases split p y hy with ⟨rfl, rfl⟩ | ⟨hp, hy⟩
    · rw [Mu.put_same] at k1; injection k1 with k1; injection k1 with k1 _; subst k1
      exact h3.thaw o _ b a C h6 h8 hm off
    · rw [Mu.put_other _ hp] at k1
      exact g1.thaw p y b' a' C' hlp hy k1 off
  · simp; omega
  · rintro ⟨p, y, a', C', k1, k2, k3⟩
    rcases split p y k2 with ⟨rfl, rfl⟩ | ⟨hp, hy⟩
    · rw [Mu.put_same] at k3; injection k3 with k3; injection k3 with k3 _; omega
    · rw [Mu.put_other _ hp] at k3
      exact ⟨p, y, a', C', k1, hy, k3⟩
  · rw [AHeap.get_alloc, if_neg (by omega)]
  · rw [AHeap.get_alloc, if_neg (by omega)]; exact hn

def rdMap : List (Value × Value) → Option (List (Int × PV))
  | [] => some []
  | (.int .i64 k, v) :: r => match pvc v, rdMap r with
    | some p, some l => some ((k, p) :: l)
    | _, _ => none
  | _ => none

def memI (k : Int) : List Int → Bool
  | [] => false
  | a :: r => decide (a = k) || memI k r
def nodupI : List Int → Bool
  | [] => true
  | a :: r => !memI a r && nodupI r
theorem memI_iff {k : Int} : ∀ {l : List Int}, memI k l = true ↔ k ∈ l
  | [] => by simp [memI]
  | a :: r => by
    rw [memI, Bool.or_eq_true, decide_eq_true_eq, memI_iff (l := r), List.mem_cons]
    exact ⟨fun h => h.elim (fun h => .inl h.symm) .inr, fun h => h.elim (fun h => .inl h.symm) .inr⟩
theorem nodupI_iff : ∀ {l : List Int}, nodupI l = true ↔ l.Nodup
  | [] => by simp [nodupI]
  | a :: r => by
    simp only [nodupI, Bool.and_eq_true, Bool.not_eq_true', List.nodup_cons, nodupI_iff (l := r)]
    rw [← memI_iff]
    cases memI a r <;> simp

def kvs (l : List (Int × PV)) : List (PV × PV) := l.map fun p => (.int .i64 p.1, p.2)

def ins (k : Int) : List Int → List Int
  | [] => [k]
  | a :: r => bif decide (k ≤ a) then k :: a :: r else a :: ins k r
def isort : List Int → List Int
  | [] => []
  | a :: r => ins a (isort r)
theorem ins_perm (k : Int) : ∀ l, (ins k l).Perm (k :: l)
  | [] => .refl _
  | a :: r => by
    simp only [ins]
    cases decide (k ≤ a) with
    | true => exact .refl _
    | false => exact ((ins_perm k r).cons a).trans (.swap k a r)
theorem isort_perm : ∀ l, (isort l).Perm l
  | [] => .refl _
  | a :: r => (ins_perm a _).trans ((isort_perm r).cons a)
theorem ins_sorted (k : Int) : ∀ l, l.Pairwise (· ≤ ·) → (ins k l).Pairwise (· ≤ ·)
  | [], _ => by simp [ins]
  | a :: r, h => by
    simp only [ins]
    rw [List.pairwise_cons] at h
    by_cases hk : k ≤ a
    · simp only [hk, decide_true, cond_true, List.pairwise_cons]
      exact ⟨fun b hb => by rcases List.mem_cons.1 hb with rfl | hb; exact hk; exact Int.le_trans hk (h.1 b hb), h⟩
    · simp only [hk, decide_false, cond_false, List.pairwise_cons]
      exact ⟨fun b hb => by rcases List.mem_cons.1 ((ins_perm k r).mem_iff.1 hb) with rfl | hb; omega; exact h.1 b hb, ins_sorted k r h.2⟩
theorem isort_sorted : ∀ l, (isort l).Pairwise (· ≤ ·)
  | [] => .nil
  | a :: r => ins_sorted a _ (isort_sorted r)
theorem sorted_perm_eq : ∀ {l m : List Int}, l.Perm m → l.Pairwise (· ≤ ·) → m.Pairwise (· ≤ ·) → l = m
  | [], m, hp, _, _ => (hp.symm.eq_nil).symm
  | a :: r, [], hp, _, _ => hp.eq_nil
  | a :: r, b :: s, hp, hl, hm => by
    rw [List.pairwise_cons] at hl hm
    have h1 : a ≤ b := by rcases List.mem_cons.1 (hp.mem_iff.2 List.mem_cons_self) with h | h; omega; exact hl.1 b h
    have h2 : b ≤ a := by rcases List.mem_cons.1 (hp.mem_iff.1 List.mem_cons_self) with h | h; omega; exact hm.1 a h
    have : a = b := by omega
    subst this
    rw [sorted_perm_eq (List.perm_cons a |>.1 hp) hl.2 hm.2]
theorem isort_eq (l : List Int) : l.mergeSort (fun x y => decide (x ≤ y)) = isort l := by
  refine sorted_perm_eq ((List.mergeSort_perm l _).trans (isort_perm l).symm) ?_ (isort_sorted l)
  have := List.pairwise_mergeSort (le := fun x y : Int => decide (x ≤ y)) (fun a b c h1 h2 => by simp only [decide_eq_true_eq] at *; omega) (fun a b => by simp only [Bool.or_eq_true, decide_eq_true_eq]; omega) l
  exact this.imp fun h => by simpa using h

def srtV (args : List Value) (h : AHeap) : Option (Value × AHeap) :=
  match args with
  | [.map (some m)] => match h.get m with
    | some (.map es) => match rdMap es with
      | some (p :: r) => bif nodupI ((p :: r).map (·.1)) && Nat.blt (p :: r).length 4294967296 then
          some (.slice (some ⟨h.next, 0, none⟩) (p :: r).length inex, h.alloc (.cells 0 ((isort ((p :: r).map (·.1))).map (.int .i64)))) else none
      | _ => none
    | _ => none
  | _ => none

end
end Go.Am
end

/-
  The abstract machine: a call that fills one map, whatever number it has.
-/
section
namespace Go.Am

section
variable {P : Program} {lo : Nat}

def cpyV (lo : Nat) (args : List Value) (h : AHeap) : Option (Value × AHeap) :=
  match args with
  | [.map (some o), .map (some m)] => bif Nat.beq m o || !Nat.ble lo o then none else match h.get o, h.get m with
    | some (.map []), some (.map es) => match rdMap es with
      | some l => bif nodupI (l.map (·.1)) then some (.tuple #[], h.put o (some (.map es))) else none
      | none => none
    | _, _ => none
  | _ => none

end
end Go.Am
end

/-
  What is visited when a map is ranged over.
-/
section
namespace Go.Am

def kk (l : List (Int × PV)) (vis : List Nat) : List Int := vis.map fun k => (l[k]?.map (·.1)).getD 0
theorem sort_perm {a b : List Int} (h : a.Perm b) : a.mergeSort (fun x y => decide (x ≤ y)) = b.mergeSort (fun x y => decide (x ≤ y)) := by
  rw [isort_eq, isort_eq]
  exact sorted_perm_eq ((isort_perm a).trans (h.trans (isort_perm b).symm)) (isort_sorted a) (isort_sorted b)

end Go.Am
end
