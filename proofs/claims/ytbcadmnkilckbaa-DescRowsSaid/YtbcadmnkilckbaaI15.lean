/- The ideal machine: regions that draw their order, proved. Own text; nothing here is trusted. -/
import Derived.Test.YtbcadmnkilckbaaI15b
namespace Go.Ideal
set_option linter.unusedSimpArgs false
set_option linter.unusedVariables false

/-- What there is below m. -/
def cut (r : Rho) (m : Nat) : Rho := ⟨r.pl, fun i => r.ok i ∧ i < m, m⟩

theorem cut_sub {r r' : Rho} (h : Sub r r') {m m' : Nat} (hm : m ≤ m') : Sub (cut r m) (cut r' m') :=
  ⟨fun i hi => ⟨h.ok i hi.1, Nat.lt_of_lt_of_le hi.2 hm⟩, fun i hi => h.pl i hi.1⟩

/-- Behind the operations S, in whatever order they came. -/
structure Inv (nt : Nat) (ds : List D) (T0 : Tr V) (H0 : Hp) (r0 : Rho) (w0 : World) (S : Nat → Bool) (r : Rho) (a : Act) (w : World) : Prop where
  size : a.tmps.size = nt
  defers : a.defers = []
  ok0 : Sub r0 r
  ok : ∀ i, r.ok i → r0.ok i ∨ ∃ k d, ds[k]? = some d ∧ S k = true ∧ d.lo ≤ i ∧ i < d.hi
  tmp : ∀ t v m, Cur (wT ds t) S (T0.get t, H0.n) (some v, m) → VR (cut r m) v (a.tmps.getD t undef)
  blk : ∀ i b m, Cur (wB ds i) S (H0.tr.get i, H0.n) (some b, m) → BR (cut r m) w (r.pl i) b
  apart : ∀ i j b c m m', i ≠ j → Cur (wB ds i) S (H0.tr.get i, H0.n) (some b, m) → Cur (wB ds j) S (H0.tr.get j, H0.n) (some c, m') → b.isOwn = true → c.there → (r.pl i).blk ≠ (r.pl j).blk
  kept : Kept (Mine r0 H0) w0 w
  mine : ∀ k, k < w0.heap.size → ∀ i b m, Cur (wB ds i) S (H0.tr.get i, H0.n) (some b, m) → b.writable = true → (r.pl i).blk = k → Mine r0 H0 k

theorem Blk.isOwn_of_writable {b : Blk} (h : b.writable = true) : b.isOwn = true := by cases b <;> simp [Blk.writable, Blk.isOwn] at h ⊢
theorem Blk.there_of_own {b : Blk} (h : b.isOwn = true) : b.there := by cases b <;> simp [Blk.there, Blk.isOwn] at h ⊢
theorem Blk.lock_not {b c : Blk} (h : b.lock = some c) : c.writable = false := by
  cases b <;> simp only [Blk.lock, Option.some.injEq, reduceCtorEq] at h <;> subst h <;> rfl
theorem Blk.lock_isOwn {b c : Blk} (h : b.lock = some c) : c.isOwn = b.isOwn := by
  cases b <;> simp only [Blk.lock, Option.some.injEq, reduceCtorEq] at h <;> subst h <;> rfl
theorem Blk.lock_there {b c : Blk} (h : b.lock = some c) : c.there → b.there := by
  cases b <;> simp only [Blk.lock, Option.some.injEq, reduceCtorEq] at h <;> subst h <;> exact id
theorem BR.lock {r : Rho} {w : World} {p : Pl} {b c : Blk} (h : BR r w p b) (hl : b.lock = some c) : BR r w p c := by
  cases b <;> simp only [Blk.lock, Option.some.injEq, reduceCtorEq] at hl <;> subst hl <;> exact h

theorem D.apart_spec {x y : D} (h : x.apart y = true) :
    (∀ i, i ∈ x.up → i ∉ y.F ∧ i ∉ y.up) ∧ (∀ i, i ∈ y.up → i ∉ x.F) ∧ (∀ t, x.dst = some t → t ∉ y.reads ∧ y.dst ≠ some t) ∧ (∀ t, y.dst = some t → t ∉ x.reads) := by
  simp only [D.apart, Bool.and_eq_true, List.all_eq_true, Bool.not_eq_true', List.contains_eq_mem, decide_eq_false_iff_not] at h
  obtain ⟨⟨⟨h1, h2⟩, h3⟩, h4⟩ := h
  refine ⟨fun i hi => h1 i hi, fun i hi => h2 i hi, fun t ht => ?_, fun t ht => ?_⟩
  · rw [ht] at h3; simpa using h3
  · rw [ht] at h4; simpa using h4

section
variable {P : Program} {cf : CallF} {nt : Nat} {ops : Array Oper} {ds : List D} {T0 : Tr V} {H0 : Hp} {r0 : Rho} {w0 : World}

theorem also_of {S : Nat → Bool} {k j : Nat} (h : S j = true) : also S k j = true := by
  unfold also
  split
  · rfl
  · exact h

/-- Which of those that touch the same have run: those ahead in the text. -/
theorem agree {S : Nat → Bool} {k : Nat} {d : D} (hS : Down ops S) (hk : S k = false) (hO : Open ops S k) (hd : ds[k]? = some d)
    (hpair : ∀ (i j : Nat) (x y : D), j < i → ds[j]? = some x → ds[i]? = some y → Before ops j i ∨ x.apart y = true) (hops : ∀ j : Nat, ds[j]? ≠ none → ∃ o, ops[j]? = some o) {j : Nat} {x : D} (hx : ds[j]? = some x) (hjk : j ≠ k)
    (hc : ¬ (if j < k then x.apart d else d.apart x) = true) : (S j = true ↔ upTo k j = true) := by
  unfold upTo
  rcases Nat.lt_or_ge j k with hlt | hge
  · simp only [decide_eq_true_eq, hlt, iff_true]
    rw [if_pos hlt] at hc
    rcases hpair k j x d hlt hx hd with hb | hb
    · exact hb S hS hO
    · exact absurd hb hc
  · have hgt : k < j := by omega
    have hnl : ¬ j < k := by omega
    simp only [decide_eq_true_eq, hnl, iff_false, Bool.not_eq_true]
    rw [if_neg hnl] at hc
    rcases hpair j k d x hgt hd hx with hb | hb
    · cases hSj : S j with
      | false => rfl
      | true =>
        obtain ⟨o, ho⟩ := hops j (by rw [hx]; simp)
        have := hb S hS ⟨o, ho, hS j o ho hSj⟩
        rw [hk] at this; simp at this
    · exact absurd hb hc

theorem step_ok (hcf : CallFOk P cf) {S : Nat → Bool} {k : Nat} {o : Oper} {d : D} {r : Rho} {a : Act} {w : World} {Q : Exit → Act → World → Prop} {K : Act → World → Prop}
    (hS : Down ops S) (hk : S k = false) (hO : Open ops S k) (ho : ops[k]? = some o) (hd : ds[k]? = some d) (hdok : DOk P cf ops nt T0 H0 ds k o d) (hall : ∀ j x, ds[j]? = some x → ∃ o, ops[j]? = some o ∧ DOk P cf ops nt T0 H0 ds j o x)
    (hpair : ∀ (i j : Nat) (x y : D), j < i → ds[j]? = some x → ds[i]? = some y → Before ops j i ∨ x.apart y = true) (hr0n : r0.n = H0.n) (hokn : ∀ i, r0.ok i → i < r0.n)
    (hI : Inv nt ds T0 H0 r0 w0 S r a w) (hK : ∀ a' w' r', Inv nt ds T0 H0 r0 w0 (also S k) r' a' w' → K a' w') : wpOp P ops Q k K a w := by
  have hops : ∀ j : Nat, ds[j]? ≠ none → ∃ o, ops[j]? = some o := fun j hj => by
    cases hx : ds[j]? with
    | none => exact absurd hx hj
    | some x => obtain ⟨o, h, _⟩ := hall j x hx; exact ⟨o, h⟩
  -- which have run, of those that touch what this one touches
  have agB : ∀ i, (i ∈ d.F ∨ i ∈ d.up) → ∀ j, j ≠ k → wB ds i j ≠ none → (S j = true ↔ upTo k j = true) := by
    intro i hi j hjk hw
    cases hx : ds[j]? with
    | none => simp [wB, hx] at hw
    | some x =>
      rw [wB_some hx] at hw
      have hup : i ∈ x.up := by
        by_cases e : i ∈ x.up
        · exact e
        · rw [if_neg e] at hw; simp at hw
      refine agree hS hk hO hd hpair hops hx hjk ?_
      split
      · intro hap
        obtain ⟨h1, _⟩ := D.apart_spec hap
        rcases hi with hi | hi
        · exact (h1 i hup).1 hi
        · exact (h1 i hup).2 hi
      · intro hap
        obtain ⟨h1, h2, _⟩ := D.apart_spec hap
        rcases hi with hi | hi
        · exact h2 i hup hi
        · exact (h1 i hi).2 hup
  have agT : ∀ t, (t ∈ d.reads ∨ d.dst = some t) → ∀ j, j ≠ k → wT ds t j ≠ none → (S j = true ↔ upTo k j = true) := by
    intro t ht j hjk hw
    cases hx : ds[j]? with
    | none => simp [wT, hx] at hw
    | some x =>
      rw [wT_some hx] at hw
      have hup : x.dst = some t := by
        by_cases e : x.dst = some t
        · exact e
        · rw [if_neg e] at hw; simp at hw
      refine agree hS hk hO hd hpair hops hx hjk ?_
      split
      · intro hap
        obtain ⟨_, _, h3, _⟩ := D.apart_spec hap
        rcases ht with ht | ht
        · exact (h3 t hup).1 ht
        · exact (h3 t hup).2 ht
      · intro hap
        obtain ⟨_, _, h3, h4⟩ := D.apart_spec hap
        rcases ht with ht | ht
        · exact h4 t hup ht
        · exact (h3 t ht).2 hup
  have curB : ∀ (i : Nat) x, i ∈ d.F → Cur (wB ds i) (upTo k) (H0.tr.get i, H0.n) x → Cur (wB ds i) S (H0.tr.get i, H0.n) x := fun i x hi hc =>
    hc.congr fun j hj => by
      by_cases e : j = k
      · subst e; rw [hk]; simp [upTo]
      · exact (agB i (.inl hi) j e hj).symm
  have curT : ∀ (t : Nat) x, t ∈ d.reads → Cur (wT ds t) (upTo k) (T0.get t, H0.n) x → Cur (wT ds t) S (T0.get t, H0.n) x := fun t x hi hc =>
    hc.congr fun j hj => by
      by_cases e : j = k
      · subst e; rw [hk]; simp [upTo]
      · exact (agT t (.inl hi) j e hj).symm
  -- behind it
  have nowB : ∀ (i : Nat) x, i ∈ d.up → Cur (wB ds i) (also S k) (H0.tr.get i, H0.n) x → x = (d.after.get i, d.hi) := fun i x hi hc =>
    hc.now (by rw [wB_some hd, if_pos hi]) fun j hj hSj => by
      cases hw : wB ds i j with
      | none => rfl
      | some y =>
        have := (agB i (.inr hi) j (by omega) (by rw [hw]; simp)).1 hSj
        simp [upTo] at this; omega
  have notB : ∀ (i : Nat) x, i ∉ d.up → Cur (wB ds i) (also S k) (H0.tr.get i, H0.n) x → Cur (wB ds i) S (H0.tr.get i, H0.n) x := fun i x hi hc => hc.not (by rw [wB_some hd, if_neg hi])
  have nowT : ∀ (t : Nat) x, d.dst = some t → Cur (wT ds t) (also S k) (T0.get t, H0.n) x → x = (some d.v, d.hi) := fun t x hi hc =>
    hc.now (by rw [wT_some hd, if_pos hi]) fun j hj hSj => by
      cases hw : wT ds t j with
      | none => rfl
      | some y =>
        have := (agT t (.inr hi) j (by omega) (by rw [hw]; simp)).1 hSj
        simp [upTo] at this; omega
  have notT : ∀ (t : Nat) x, d.dst ≠ some t → Cur (wT ds t) (also S k) (T0.get t, H0.n) x → Cur (wT ds t) S (T0.get t, H0.n) x := fun t x hi hc => hc.not (by rw [wT_some hd, if_neg hi])
  -- the frame
  have hnew : ∀ i, d.lo ≤ i → i < d.hi → ¬ r.ok i := by
    intro i h1 h2 hok
    rcases hI.ok i hok with h0 | ⟨j, x, hx, hSj, h3, h4⟩
    · have := hokn i h0; have := hdok.lo; omega
    · have hjk : j ≠ k := fun e => by subst e; rw [hk] at hSj; simp at hSj
      rcases Nat.lt_or_ge j k with hlt | hge
      · have := hdok.prev j x hlt hx; omega
      · obtain ⟨_, _, hxo⟩ := hall j x hx
        have := hxo.prev k d (by omega) hd; omega
  obtain ⟨T1, hT1, hrun⟩ := hdok.run
  have hA1 : AR (cut r d.lo) nt T1 a := by
    refine ⟨hI.size, hI.defers, fun t u hu => ?_⟩
    obtain ⟨ht, v, m, hc, hm, hr⟩ := hT1 t u hu
    exact hr _ _ (VR.sub (cut_sub ⟨fun _ h => h, fun _ _ => rfl⟩ hm) _ _ (hI.tmp t v m (curT t _ ht hc)))
  -- what one writes, and nothing else
  have getOther : ∀ (t : Tmp) (y : Value), d.dst ≠ some t → (a.put o.dst y).tmps.getD t undef = a.tmps.getD t undef := by
    intro t y ht
    rw [← hdok.dst]
    cases hdst : d.dst with
    | none => rfl
    | some x =>
      have hne : x ≠ t := fun e => ht (by rw [hdst, e])
      simp [Act.put, Array.getD_eq_getD_getElem?, Array.getElem?_setIfInBounds_ne hne]
  have getSame : ∀ (t : Tmp) (y : Value), d.dst = some t → (a.put o.dst y).tmps.getD t undef = y := by
    intro t y ht
    have hlt := hdok.dlt t (hdok.dst ▸ ht)
    rw [← hdok.dst, ht]
    simp [Act.put, Array.getD_eq_getD_getElem?, Array.getElem?_setIfInBounds_self_of_lt (hI.size ▸ hlt)]
  have hsz : ∀ y : Value, (a.put o.dst y).tmps.size = nt := fun y => by
    cases o.dst <;> simp [Act.put, hI.size]
  have hdf : ∀ y : Value, (a.put o.dst y).defers = [] := fun y => by
    cases o.dst <;> exact hI.defers
  unfold wpOp
  rw [ho]
  simp only
  rcases hrun with ⟨T2, s1, s2, hask, hst, hcs2, hn1, hn2, htr, hblk⟩ | ⟨hask, hv, hup, hlohi⟩
  · obtain ⟨hA2, hwant⟩ := hask _ a hA1
    rw [hwant]
    simp only [if_true]
    have hmineB : ∀ x, Mine (cut r d.lo) s1.H x → ∃ i b m, i ∈ d.up ∧ Cur (wB ds i) S (H0.tr.get i, H0.n) (some b, m) ∧ b.writable = true ∧ (r.pl i).blk = x := by
      rintro x ⟨i, b, hib, hw, hx⟩
      obtain ⟨hF, _, b0, m, hc, _, hb⟩ := hblk i b hib
      rcases hb with ⟨hu, rfl⟩ | hl
      · exact ⟨i, b, m, hu, curB i _ hF hc, hw, hx⟩
      · rw [Blk.lock_not hl] at hw; simp at hw
    have hH : HR (cut r d.lo) s1.H w := by
      refine ⟨hn1, fun i hi => hi.2, fun i b hib => hn1 ▸ (hblk i b hib).2.1, fun i b hib => ?_, fun i j b c hij hib hjc hown hth => ?_⟩
      · obtain ⟨hF, _, b0, m, hc, hm, hb⟩ := hblk i b hib
        have := (hI.blk i b0 m (curB i _ hF hc)).sub (cut_sub (r' := r) ⟨fun _ h => h, fun _ _ => rfl⟩ hm)
        rcases hb with ⟨_, rfl⟩ | hl
        · exact this
        · exact this.lock hl
      · obtain ⟨hF, _, b0, m, hc, hm, hb⟩ := hblk i b hib
        obtain ⟨hF', _, c0, m', hc', hm', hb'⟩ := hblk j c hjc
        refine hI.apart i j b0 c0 m m' hij (curB i _ hF hc) (curB j _ hF' hc') ?_ ?_
        · rcases hb with ⟨_, rfl⟩ | hl
          · exact hown
          · rw [← Blk.lock_isOwn hl]; exact hown
        · rcases hb' with ⟨_, rfl⟩ | hl
          · exact hth
          · exact Blk.lock_there hl hth
    refine .inl (stepV_ok hcf hst hcs2 hA2 hH fun y w' r' hvr hf => ?_)
    have hrn : r'.n = d.hi := by rw [← hf.hr.n, hn2]
    -- the new places
    let r2 : Rho := ⟨fun i => if i ∈ d.up then r'.pl i else r.pl i, fun i => if d.lo ≤ i ∧ i < d.hi then r'.ok i else r.ok i, r.n⟩
    have hr2up : ∀ i, i ∈ d.up → r2.pl i = r'.pl i := fun i hi => if_pos hi
    have hr2not : ∀ i, i ∉ d.up → r2.pl i = r.pl i := fun i hi => if_neg hi
    have hsub : Sub r r2 := by
      refine ⟨fun i hi => ?_, fun i hi => ?_⟩
      · have : ¬ (d.lo ≤ i ∧ i < d.hi) := fun h => hnew i h.1 h.2 hi
        show (if d.lo ≤ i ∧ i < d.hi then r'.ok i else r.ok i)
        rw [if_neg this]; exact hi
      · by_cases hu : i ∈ d.up
        · rw [hr2up i hu]
          rcases hdok.up i hu with ⟨_, hlt⟩ | ⟨h1, h2⟩
          · exact hf.ext.pl i ⟨hi, hlt⟩
          · exact absurd hi (hnew i h1 h2)
        · exact hr2not i hu
    have hsub' : Sub r' (cut r2 d.hi) := by
      refine ⟨fun i hi => ?_, fun i hi => ?_⟩
      · have hlt : i < d.hi := hrn ▸ hf.hr.okn i hi
        refine ⟨?_, hlt⟩
        show (if d.lo ≤ i ∧ i < d.hi then r'.ok i else r.ok i)
        by_cases hlo : d.lo ≤ i
        · rw [if_pos ⟨hlo, hlt⟩]; exact hi
        · rw [if_neg (fun h => hlo h.1)]
          rcases hf.ext.old i hi with h | h
          · exact h.1
          · exact absurd h hlo
      · by_cases hu : i ∈ d.up
        · exact hr2up i hu
        · have hlt : i < d.hi := hrn ▸ hf.hr.okn i hi
          have hlo : ¬ d.lo ≤ i := fun h => hu (hdok.fresh i h hlt)
          rcases hf.ext.old i hi with h | h
          · show r2.pl i = r'.pl i
            rw [hr2not i hu]; exact (hf.ext.pl i h).symm
          · exact absurd h hlo
    have hthere : ∀ i b m, i ∉ d.up → Cur (wB ds i) S (H0.tr.get i, H0.n) (some b, m) → b.there → ¬ Mine (cut r d.lo) s1.H (r.pl i).blk := by
      intro i b m hi hc hth hM
      obtain ⟨j, c, m', hj, hc', hw, he⟩ := hmineB _ hM
      exact hI.apart j i c b m' m (fun e => hi (e ▸ hj)) hc' hc (Blk.isOwn_of_writable hw) hth he
    refine hK _ _ r2 ⟨hsz y, hdf y, ⟨fun i hi => hsub.ok i (hI.ok0.ok i hi), fun i hi => (hsub.pl i (hI.ok0.ok i hi)).trans (hI.ok0.pl i hi)⟩, fun i hi => ?_, fun t v m hc => ?_, fun i b m hc => ?_, fun i j b c m m' hij hc hc' hown hth => ?_, ?_, fun x hx i b m hc hw he => ?_⟩
    · have hi' : (if d.lo ≤ i ∧ i < d.hi then r'.ok i else r.ok i) := hi
      by_cases hr : d.lo ≤ i ∧ i < d.hi
      · exact .inr ⟨k, d, hd, by simp [also], hr.1, hr.2⟩
      · rw [if_neg hr] at hi'
        rcases hI.ok i hi' with h | ⟨j, x, hx, hSj, h⟩
        · exact .inl h
        · exact .inr ⟨j, x, hx, also_of hSj, h⟩
    · by_cases ht : d.dst = some t
      · have e := nowT t _ ht hc
        simp only [Prod.mk.injEq, Option.some.injEq] at e
        obtain ⟨rfl, rfl⟩ := e
        rw [getSame t y ht]
        exact VR.sub hsub' _ _ hvr
      · rw [getOther t y ht]
        exact VR.sub (cut_sub hsub (Nat.le_refl _)) _ _ (hI.tmp t v m (notT t _ ht hc))
    · by_cases hu : i ∈ d.up
      · have e := nowB i _ hu hc
        simp only [Prod.mk.injEq] at e
        obtain ⟨e1, rfl⟩ := e
        rw [hr2up i hu]
        exact (hf.hr.live i b (by rw [htr]; exact e1.symm)).sub hsub'
      · have hc := notB i _ hu hc
        rw [hr2not i hu]
        have hb := hI.blk i b m hc
        refine (hb.of_block fun hth => hf.kept.block _ (hb.lt hth) ?_).sub (cut_sub hsub (Nat.le_refl _))
        exact hthere i b m hu hc hth
    · by_cases hu : i ∈ d.up
      · have e := nowB i _ hu hc
        simp only [Prod.mk.injEq] at e
        obtain ⟨e1, _⟩ := e
        rw [hr2up i hu]
        have hgi : s2.H.tr.get i = some b := by rw [htr]; exact e1.symm
        by_cases hu' : j ∈ d.up
        · have e' := nowB j _ hu' hc'
          simp only [Prod.mk.injEq] at e'
          rw [hr2up j hu']
          exact hf.hr.apart i j b c hij hgi (by rw [htr]; exact e'.1.symm) hown hth
        · have hc' := notB j _ hu' hc'
          rw [hr2not j hu']
          intro he
          have hlt := (hI.blk j c m' hc').lt hth
          refine hthere j c m' hu' hc' hth (hf.mine _ hlt ⟨i, b, hgi, hdok.wr i b hu e1.symm, he⟩)
      · have hc := notB i _ hu hc
        rw [hr2not i hu]
        by_cases hu' : j ∈ d.up
        · have e' := nowB j _ hu' hc'
          simp only [Prod.mk.injEq] at e'
          have hgj : s2.H.tr.get j = some c := by rw [htr]; exact e'.1.symm
          rw [hr2up j hu']
          intro he
          have hlt := (hI.blk i b m hc).lt (Blk.there_of_own hown)
          exact hthere i b m hu hc (Blk.there_of_own hown) (hf.mine _ hlt ⟨j, c, hgj, hdok.wr j c hu' e'.1.symm, he.symm⟩)
        · rw [hr2not j hu']
          exact hI.apart i j b c m m' hij hc (notB j _ hu' hc') hown hth
    · refine hI.kept.trans hf.kept fun x hx hM => ?_
      obtain ⟨j, c, m', _, hc', hw, he⟩ := hmineB _ hM
      exact hI.mine x hx j c m' hc' hw he
    · by_cases hu : i ∈ d.up
      · have e := nowB i _ hu hc
        simp only [Prod.mk.injEq] at e
        rw [hr2up i hu] at he
        have hgi : s2.H.tr.get i = some b := by rw [htr]; exact e.1.symm
        obtain ⟨j, c, m', _, hc', hw', he'⟩ := hmineB _ (hf.mine x (Nat.lt_of_lt_of_le hx hI.kept.size) ⟨i, b, hgi, hw, he⟩)
        exact hI.mine x hx j c m' hc' hw' he'
      · rw [hr2not i hu] at he
        exact hI.mine x hx i b m (notB i _ hu hc) hw he
  · rw [hask _ a hA1]
    simp only [Bool.false_eq_true, if_false]
    have hnu : ∀ i, i ∉ d.up := fun i hi => by rw [hup] at hi; simp at hi
    refine hK _ _ r ⟨hsz _, hdf _, hI.ok0, fun i hi => ?_, fun t v m hc => ?_, fun i b m hc => hI.blk i b m (notB i _ (hnu i) hc), fun i j b c m m' hij hc hc' => hI.apart i j b c m m' hij (notB i _ (hnu i) hc) (notB j _ (hnu j) hc'), hI.kept, fun x hx i b m hc => hI.mine x hx i b m (notB i _ (hnu i) hc)⟩
    · rcases hI.ok i hi with h | ⟨j, x, hx, hSj, h⟩
      · exact .inl h
      · exact .inr ⟨j, x, hx, also_of hSj, h⟩
    · by_cases ht : d.dst = some t
      · have e := nowT t _ ht hc
        simp only [Prod.mk.injEq, Option.some.injEq] at e
        obtain ⟨rfl, rfl⟩ := e
        rw [getSame t _ ht, hv]
        simp only [VR, VRs]
        exact ⟨[], rfl, rfl⟩
      · rw [getOther t _ ht]
        exact hI.tmp t v m (notT t _ ht hc)

theorem also_set {listed : Array Bool} {k : Nat} (hk : k < listed.size) : (fun j => (listed.setIfInBounds k true).getD j false) = also (fun j => listed.getD j false) k := by
  funext j
  unfold also
  by_cases e : j = k
  · subst e; simp [Array.getD_eq_getD_getElem?, Array.getElem?_setIfInBounds_self_of_lt hk]
  · rw [if_neg e]; simp [Array.getD_eq_getD_getElem?, Array.getElem?_setIfInBounds_ne (fun h => e h.symm)]

theorem any_ok (hcf : CallFOk P cf) {Q : Exit → Act → World → Prop} (hall' : ∀ j o, ops[j]? = some o → ∃ d, ds[j]? = some d ∧ DOk P cf ops nt T0 H0 ds j o d) (hall : ∀ j x, ds[j]? = some x → ∃ o, ops[j]? = some o ∧ DOk P cf ops nt T0 H0 ds j o x)
    (hback : ∀ (i : Nat) (o : Oper), ops[i]? = some o → ∀ e ∈ o.after, Region.binds .any e = true → e.on < i)
    (hpair : ∀ (i j : Nat) (x y : D), j < i → ds[j]? = some x → ds[i]? = some y → Before ops j i ∨ x.apart y = true) (hr0n : r0.n = H0.n) (hokn : ∀ i, r0.ok i → i < r0.n)
    (hQ : ∀ S r a w, (∀ k, k < ops.size → S k = true) → Inv nt ds T0 H0 r0 w0 S r a w → Q .normal a w) :
    ∀ (fuel : Nat) (listed : Array Bool) (r : Rho) (a : Act) (w : World), listed.size = ops.size → listed.count false = fuel → Down ops (fun j => listed.getD j false) → Inv nt ds T0 H0 r0 w0 (fun j => listed.getD j false) r a w →
      wpAny P .any ops Q fuel listed a w := by
  have hfull : ∀ (listed : Array Bool), listed.size = ops.size → Region.ready .any ops listed = [] → ∀ k, k < ops.size → listed.getD k false = true := by
    intro listed hsz hr k
    induction k using Nat.strongRecOn with
    | _ k ih =>
      intro hk
      cases hl : listed.getD k false with
      | true => rfl
      | false =>
        have : k ∈ Region.ready .any ops listed := by
          refine mem_ready.2 ⟨?_, ops[k], Array.getElem?_eq_getElem hk, fun e he hb => ?_⟩
          · have hlt : k < listed.size := hsz ▸ hk
            simp only [Array.getD_eq_getD_getElem?, Array.getElem?_eq_getElem hlt, Option.getD_some] at hl ⊢
            exact hl
          · have hlt := hback k ops[k] (Array.getElem?_eq_getElem hk) e he hb
            exact ih e.on hlt (Nat.lt_trans hlt hk)
        rw [hr] at this; simp at this
  intro fuel
  induction fuel with
  | zero =>
    intro listed r a w hsz hc hS hI
    have hall1 : ∀ k, k < ops.size → listed.getD k false = true := by
      intro k hk
      have hlt : k < listed.size := hsz ▸ hk
      have hm : false ∉ listed := Array.count_eq_zero.1 hc
      cases hx : listed[k] with
      | true => simp [Array.getD_eq_getD_getElem?, hlt, hx]
      | false => exact absurd (hx ▸ Array.getElem_mem hlt) hm
    refine ⟨?_, hQ _ r a w hall1 hI⟩
    refine List.eq_nil_iff_forall_not_mem.2 fun j hj => ?_
    obtain ⟨h1, o, ho, _⟩ := mem_ready.1 hj
    have hlt : j < ops.size := (Array.getElem?_eq_some_iff.1 ho).1
    have h2 := hall1 j hlt
    have hlt' : j < listed.size := hsz ▸ hlt
    simp only [Array.getD_eq_getD_getElem?, Array.getElem?_eq_getElem hlt', Option.getD_some] at h1 h2
    rw [h1] at h2; simp at h2
  | succ fuel ih =>
    intro listed r a w hsz hc hS hI
    refine ⟨fun hr => hQ _ r a w (hfull listed hsz hr) hI, fun k hk => ?_⟩
    obtain ⟨h1, o, ho, h2⟩ := mem_ready.1 hk
    have hlt : k < ops.size := (Array.getElem?_eq_some_iff.1 ho).1
    have hlt' : k < listed.size := hsz ▸ hlt
    have hSk : listed.getD k false = false := by
      simp only [Array.getD_eq_getD_getElem?, Array.getElem?_eq_getElem hlt', Option.getD_some] at h1 ⊢
      exact h1
    obtain ⟨d, hd, hdok⟩ := hall' k o ho
    refine step_ok hcf hS hSk ⟨o, ho, h2⟩ ho hd hdok hall hpair hr0n hokn hI fun a' w' r' hI' => ?_
    refine ih _ r' a' w' (by simp [hsz]) ?_ ?_ ?_
    · have hget : listed[k] = false := by
        simpa [Array.getD_eq_getD_getElem?, hlt'] using hSk
      rw [Array.setIfInBounds_def, dif_pos hlt', Array.count_set]
      simp [hget, hc]
    · rw [also_set hlt']
      intro j o' ho' hj e he hb
      unfold also at hj ⊢
      by_cases e1 : e.on = k
      · rw [if_pos e1]
      · rw [if_neg e1]
        by_cases e2 : j = k
        · subst e2
          rw [ho] at ho'
          simp only [Option.some.injEq] at ho'
          subst ho'
          exact h2 e he hb
        · rw [if_neg e2] at hj
          exact hS j o' ho' hj e he hb
    · rw [also_set hlt']; exact hI'

end

theorem drawOps_more {P : Program} {cf : CallF} {nt : Nat} {ops : Array Oper} (hcf : CallFOk P cf) {T T' : Tr V} {s s' : S} (h : drawOps P cf ops nt T s = some (T', s')) : More s.cs s'.cs := by
  unfold drawOps at h
  split at h
  · rename_i ds T1 s1 hp
    split at h
    · simp only [Option.some.injEq, Prod.mk.injEq] at h
      obtain ⟨_, rfl⟩ := h
      exact planOps_more hcf _ _ _ _ _ _ hp
    · simp at h
  · simp at h

theorem drawOps_ok {P : Program} {cf : CallF} {nt : Nat} {ops : Array Oper} (hcf : CallFOk P cf) (hm : P.follows .mixedOrders = true) {id : Nat} {Q : Exit → Act → World → Prop} {T T' : Tr V} {s s' : S} {r : Rho} {w : World} {a : Act}
    (h : drawOps P cf ops nt T s = some (T', s')) (hcs : ∀ q, q ∈ s'.cs → q) (hA : AR r nt T a) (hH : HR r s.H w) (hQ : ∀ a' w' r', AR r' nt T' a' → Fits r s.H w r' s'.H w' → Q .normal a' w') :
    (Code.region id ops true).wp P Q a w := by
  unfold drawOps at h
  split at h
  · rename_i ds T1 s1 hp
    split at h
    · rename_i hok
      simp only [Option.some.injEq, Prod.mk.injEq] at h
      obtain ⟨rfl, rfl⟩ := h
      have hJ0 : J T s.H ds 0 T s.H := by
        refine ⟨Nat.le_refl _, fun j x hj => by omega, fun t u hu => ⟨u, s.H.n, .inr ⟨fun k hk => by simp [upTo] at hk, by rw [hu]⟩, Nat.le_refl _, fun _ _ h => h⟩, fun i b hb => ⟨hH.bound i b hb, s.H.n, .inr ⟨fun k hk => by simp [upTo] at hk, by rw [hb]⟩, Nat.le_refl _⟩⟩
      obtain ⟨g1, g2⟩ := planOps_ok hcf (T0 := T) (H0 := s.H) (ds := ds) ops.toList 0 T T1 s s1 ds (fun j => by simp) (fun j => by simp) hp hcs hJ0
      have hlen : ops.toList.length = ops.size := by simp
      rw [Nat.zero_add, hlen] at g2
      obtain ⟨hback, hpair⟩ := okPairs_ok (ops := ops) (dt := ds) ops.toList ds 0 .nil [] (fun j => by simp) (fun j => by simp) (fun i m j hi => by rw [Tr.get_nil] at hi; simp at hi) (fun j d hj => by omega) hok
      have hall' : ∀ j o, ops[j]? = some o → ∃ d, ds[j]? = some d ∧ DOk P cf ops nt T s.H ds j o d := fun j o ho => g1 j o (Nat.zero_le _) ho
      have hdlen : ds.length = ops.size := by
        have key : ∀ (os : List Oper) (k : Nat) (M : Tr Nat) (pre : List (Nat × D)) (ds : List D), okPairs k M pre os ds = true → ds.length = os.length := by
          intro os
          induction os with
          | nil => intro k M pre ds h; cases ds with
            | nil => rfl
            | cons _ _ => simp [okPairs] at h
          | cons o os ih => intro k M pre ds h; cases ds with
            | nil => simp [okPairs] at h
            | cons d ds =>
              simp only [okPairs] at h
              split at h
              · simp only [Bool.and_eq_true] at h
                simp [ih _ _ _ _ h.2]
              · simp at h
        rw [← hlen]; exact key _ _ _ _ _ hok
      have hall : ∀ j x, ds[j]? = some x → ∃ o, ops[j]? = some o ∧ DOk P cf ops nt T s.H ds j o x := by
        intro j x hx
        have hlt : j < ops.size := hdlen ▸ (List.getElem?_eq_some_iff.1 hx).1
        obtain ⟨d, hd, hdok⟩ := hall' j ops[j] (Array.getElem?_eq_getElem hlt)
        rw [hx] at hd
        simp only [Option.some.injEq] at hd
        subst hd
        exact ⟨_, Array.getElem?_eq_getElem hlt, hdok⟩
      refine wp_region_any hm ?_
      refine any_ok (r0 := r) (w0 := w) hcf hall' hall (fun i o => hback i o (Nat.zero_le _)) (fun i j x y => hpair i j x y (Nat.zero_le _)) hH.n.symm hH.okn (fun S r' a' w' hS hI => ?_) ops.size _ r a _ (by simp) (by simp) ?_ ?_
      · have hup : ∀ j, (∃ x, ds[j]? = some x) → (S j = true ↔ upTo ops.size j = true) := by
          rintro j ⟨x, hx⟩
          have hlt : j < ops.size := hdlen ▸ (List.getElem?_eq_some_iff.1 hx).1
          simp [upTo, hlt, hS j hlt]
        have toT : ∀ t x, Cur (wT ds t) (upTo ops.size) (T.get t, s.H.n) x → Cur (wT ds t) S (T.get t, s.H.n) x := fun t x hc => hc.congr fun j hj => (hup j (by
          cases hx : ds[j]? with
          | none => simp [wT, hx] at hj
          | some x => exact ⟨x, rfl⟩)).symm
        have toB : ∀ i x, Cur (wB ds i) (upTo ops.size) (s.H.tr.get i, s.H.n) x → Cur (wB ds i) S (s.H.tr.get i, s.H.n) x := fun i x hc => hc.congr fun j hj => (hup j (by
          cases hx : ds[j]? with
          | none => simp [wB, hx] at hj
          | some x => exact ⟨x, rfl⟩)).symm
        let re : Rho := ⟨r'.pl, r'.ok, s1.H.n⟩
        have hre : ∀ m, Sub (cut r' m) re := fun m => ⟨fun i hi => hi.1, fun _ _ => rfl⟩
        refine hQ a' w' re ⟨hI.size, hI.defers, fun t u hu => ?_⟩ ⟨⟨?_, hI.ok0.ok, hI.ok0.pl, fun i hi => ?_⟩, ⟨rfl, fun i hi => ?_, fun i b hb => (g2.blk i b hb).1, fun i b hb => ?_, fun i j b c hij hb hc => ?_⟩, hI.kept, fun k hk hM => ?_⟩
        · obtain ⟨v, m, hc, _, hr⟩ := g2.tmp t u hu
          exact hr _ _ (VR.sub (hre m) _ _ (hI.tmp t v m (toT t _ hc)))
        · show r.n ≤ s1.H.n
          rw [← hH.n]; exact g2.n
        · rcases hI.ok i hi with h | ⟨k, d, hd, _, h, _⟩
          · exact .inl h
          · obtain ⟨_, _, hdok⟩ := hall k d hd
            exact .inr (Nat.le_trans (hH.n ▸ hdok.lo) h)
        · show i < s1.H.n
          rcases hI.ok i hi with h | ⟨k, d, hd, _, _, h⟩
          · have := hH.okn i h; rw [← hH.n] at this; exact Nat.lt_of_lt_of_le this g2.n
          · have hlt : k < ops.size := hdlen ▸ (List.getElem?_eq_some_iff.1 hd).1
            exact Nat.lt_of_lt_of_le h (g2.hi k d hlt hd)
        · obtain ⟨_, m, hc, _⟩ := g2.blk i b hb
          exact (hI.blk i b m (toB i _ hc)).sub (hre m)
        · obtain ⟨_, m, hc1, _⟩ := g2.blk i b hb
          obtain ⟨_, m', hc2, _⟩ := g2.blk j c hc
          exact hI.apart i j b c m m' hij (toB i _ hc1) (toB j _ hc2)
        · obtain ⟨i, b, hb, hw, he⟩ := hM
          obtain ⟨_, m, hc1, _⟩ := g2.blk i b hb
          exact hI.mine k hk i b m (toB i _ hc1) hw he
      · intro k o ho hk
        by_cases hlt : k < ops.size <;> simp [Array.getD_eq_getD_getElem?, hlt] at hk
      · have hnone : ∀ k, (fun j => (Array.replicate ops.size false).getD j false) k = true → False := fun k hk => by
          by_cases hlt : k < ops.size <;> simp [Array.getD_eq_getD_getElem?, hlt] at hk
        have hH' := hH.drawn (w.drawn + 1)
        have initT : ∀ t x, Cur (wT ds t) (fun j => (Array.replicate ops.size false).getD j false) (T.get t, s.H.n) x → x = (T.get t, s.H.n) := fun t x hc => by
          rcases hc with ⟨k, hk, _⟩ | ⟨_, h⟩
          · exact (hnone k hk).elim
          · exact h
        have initB : ∀ i x, Cur (wB ds i) (fun j => (Array.replicate ops.size false).getD j false) (s.H.tr.get i, s.H.n) x → x = (s.H.tr.get i, s.H.n) := fun t x hc => by
          rcases hc with ⟨k, hk, _⟩ | ⟨_, h⟩
          · exact (hnone k hk).elim
          · exact h
        have hsub : Sub r (cut r s.H.n) := ⟨fun i hi => ⟨hi, by rw [hH.n]; exact hH.okn i hi⟩, fun _ _ => rfl⟩
        refine ⟨hA.size, hA.defers, ⟨fun _ h => h, fun _ _ => rfl⟩, fun i hi => .inl hi, fun t v m hc => ?_, fun i b m hc => ?_, fun i j b c m m' hij hc hc' hown hth => ?_, Kept.drawn w _, fun k hk i b m hc hw he => ?_⟩
        · have e := initT t _ hc
          simp only [Prod.mk.injEq] at e
          obtain ⟨e, rfl⟩ := e
          exact VR.sub hsub _ _ (hA.tmp t v e.symm)
        · have e := initB i _ hc
          simp only [Prod.mk.injEq] at e
          obtain ⟨e, rfl⟩ := e
          exact (hH'.live i b e.symm).sub hsub
        · have e := initB i _ hc
          have e' := initB j _ hc'
          simp only [Prod.mk.injEq] at e e'
          exact hH.apart i j b c hij e.1.symm e'.1.symm hown hth
        · have e := initB i _ hc
          simp only [Prod.mk.injEq] at e
          exact ⟨i, b, e.1.symm, hw, he⟩
    · simp at h
  · simp at h

end Go.Ideal
