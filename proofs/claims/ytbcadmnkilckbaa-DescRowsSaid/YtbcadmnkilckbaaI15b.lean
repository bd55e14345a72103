/- The ideal machine: regions that draw their order, the plan. Own text; nothing here is trusted. -/
import Derived.Test.YtbcadmnkilckbaaI15a
namespace Go.Ideal
set_option linter.unusedSimpArgs false
set_option linter.unusedVariables false

/-! ### What was written last -/

/-- 'x' is what lies there when those of S have written: the last that wrote, or what was there. -/
def Cur {X : Type} (ws : Nat → Option X) (S : Nat → Bool) (init x : X) : Prop :=
  (∃ k, S k = true ∧ ws k = some x ∧ ∀ j, k < j → S j = true → ws j = none) ∨ ((∀ k, S k = true → ws k = none) ∧ x = init)

theorem Cur.congr {X : Type} {ws : Nat → Option X} {S S' : Nat → Bool} {init x : X} (h : Cur ws S init x) (hs : ∀ j, ws j ≠ none → (S j = true ↔ S' j = true)) : Cur ws S' init x := by
  rcases h with ⟨k, h1, h2, h3⟩ | ⟨h1, h2⟩
  · refine .inl ⟨k, (hs k (by rw [h2]; simp)).1 h1, h2, fun j hj hS => ?_⟩
    cases hw : ws j with
    | none => rfl
    | some y => exact absurd (h3 j hj ((hs j (by rw [hw]; simp)).2 hS)) (by rw [hw]; simp)
  · refine .inr ⟨fun k hS => ?_, h2⟩
    cases hw : ws k with
    | none => rfl
    | some y => exact absurd (h1 k ((hs k (by rw [hw]; simp)).2 hS)) (by rw [hw]; simp)

def also (S : Nat → Bool) (k : Nat) : Nat → Bool := fun j => if j = k then true else S j

/-- What lies there behind one more that does not write there. -/
theorem Cur.not {X : Type} {ws : Nat → Option X} {S : Nat → Bool} {k : Nat} {init x : X} (h : Cur ws (also S k) init x) (hw : ws k = none) : Cur ws S init x :=
  h.congr fun j hj => by
    unfold also
    by_cases e : j = k
    · subst e; exact absurd hw hj
    · rw [if_neg e]
/-- .. and that does. -/
theorem Cur.now {X : Type} {ws : Nat → Option X} {S : Nat → Bool} {k : Nat} {init x y : X} (h : Cur ws (also S k) init x) (hw : ws k = some y) (hl : ∀ j, k < j → S j = true → ws j = none) : x = y := by
  rcases h with ⟨i, h1, h2, h3⟩ | ⟨h1, _⟩
  · rcases Nat.lt_trichotomy i k with hik | hik | hik
    · have := h3 k hik (by simp [also]); rw [hw] at this; simp at this
    · subst hik; rw [hw] at h2; simpa using h2.symm
    · have hS : S i = true := by
        unfold also at h1
        rwa [if_neg (by omega)] at h1
      have := hl i hik hS; rw [h2] at this; simp at this
  · have := h1 k (by simp [also]); rw [hw] at this; simp at this

def upTo (k : Nat) : Nat → Bool := fun j => decide (j < k)
theorem Cur.next_not {X : Type} {ws : Nat → Option X} {k : Nat} {init x : X} (h : Cur ws (upTo k) init x) (hw : ws k = none) : Cur ws (upTo (k + 1)) init x :=
  h.congr fun j hj => by
    unfold upTo
    by_cases e : j = k
    · subst e; exact absurd hw hj
    · simp only [decide_eq_true_eq]; omega
theorem Cur.next_now {X : Type} {ws : Nat → Option X} {k : Nat} {init x : X} (hw : ws k = some x) : Cur ws (upTo (k + 1)) init x :=
  .inl ⟨k, by simp [upTo], hw, fun j hj hS => by simp [upTo] at hS; omega⟩

/-- What the operations write: temporaries, blocks. -/
def wT (ds : List D) (t : Tmp) (k : Nat) : Option (Option V × Nat) := (ds[k]?).bind fun d => if d.dst = some t then some (some d.v, d.hi) else none
def wB (ds : List D) (i : Nat) (k : Nat) : Option (Option Blk × Nat) := (ds[k]?).bind fun d => if i ∈ d.up then some (d.after.get i, d.hi) else none

/-- A row of the plan is right. -/
structure DOk (P : Program) (cf : CallF) (ops : Array Oper) (nt : Nat) (T0 : Tr V) (H0 : Hp) (ds : List D) (k : Nat) (o : Oper) (d : D) : Prop where
  lo : H0.n ≤ d.lo
  hi : d.lo ≤ d.hi
  prev : ∀ j x, j < k → ds[j]? = some x → x.hi ≤ d.lo
  up : ∀ i, i ∈ d.up → (i ∈ d.F ∧ i < d.lo) ∨ (d.lo ≤ i ∧ i < d.hi)
  fresh : ∀ i, d.lo ≤ i → i < d.hi → i ∈ d.up
  wr : ∀ i b, i ∈ d.up → d.after.get i = some b → b.writable = true
  dst : d.dst = o.dst
  dlt : ∀ t, o.dst = some t → t < nt
  run : ∃ T1 : Tr V, (∀ t u, T1.get t = some u → t ∈ d.reads ∧ ∃ v m, Cur (wT ds t) (upTo k) (T0.get t, H0.n) (some v, m) ∧ m ≤ d.lo ∧ ∀ r y, VR r v y → VR r u y) ∧
    ((∃ T2 s1 s2, (∀ r a, AR r nt T1 a → AR r nt T2 a ∧ Region.wanted o (yielded ops a.tmps) = true) ∧ stepV P cf T2 o.op s1 = some (d.v, s2) ∧ (∀ q, q ∈ s2.cs → q) ∧ s1.H.n = d.lo ∧ s2.H.n = d.hi ∧ s2.H.tr = d.after ∧
        ∀ i b, s1.H.tr.get i = some b → i ∈ d.F ∧ i < d.lo ∧ ∃ b0 m, Cur (wB ds i) (upTo k) (H0.tr.get i, H0.n) (some b0, m) ∧ m ≤ d.lo ∧ ((i ∈ d.up ∧ b = b0) ∨ b0.lock = some b)) ∨
      ((∀ r a, AR r nt T1 a → Region.wanted o (yielded ops a.tmps) = false) ∧ d.v = .tuple [] ∧ d.up = [] ∧ d.lo = d.hi))

/-- What is known in the order of the text, ahead of k. -/
structure J (T0 : Tr V) (H0 : Hp) (ds : List D) (k : Nat) (T : Tr V) (H : Hp) : Prop where
  n : H0.n ≤ H.n
  hi : ∀ j x, j < k → ds[j]? = some x → x.hi ≤ H.n
  tmp : ∀ t u, T.get t = some u → ∃ v m, Cur (wT ds t) (upTo k) (T0.get t, H0.n) (some v, m) ∧ m ≤ H.n ∧ ∀ r y, VR r v y → VR r u y
  blk : ∀ i b, H.tr.get i = some b → i < H.n ∧ ∃ m, Cur (wB ds i) (upTo k) (H0.tr.get i, H0.n) (some b, m) ∧ m ≤ H.n

theorem askT_shape {T T' : Tr V} {t : Tmp} {s s' : S} {b : Bool} (h : askT T t s = some (b, T', s')) :
    s'.H = s.H ∧ ((∀ q, q ∈ s'.cs → q) → ∀ x u, T'.get x = some u → ∃ v, T.get x = some v ∧ ∀ r y, VR r v y → VR r u y) := by
  unfold askT at h
  split at h
  · simp only [Option.some.injEq, Prod.mk.injEq] at h
    obtain ⟨_, rfl, rfl⟩ := h
    exact ⟨rfl, fun _ x u hu => ⟨u, hu, fun _ _ h => h⟩⟩
  · rename_i c hc
    split at h
    · rename_i hd hs hhs
      simp only [Option.some.injEq, Prod.mk.injEq] at h
      obtain ⟨rfl, rfl, rfl⟩ := h
      refine ⟨rfl, fun hcs x u hu => ?_⟩
      have he : c = hd := hcs _ (List.mem_cons_self ..)
      rw [Tr.get_set] at hu
      by_cases e : x = t
      · rw [if_pos e] at hu
        simp only [Option.some.injEq] at hu
        subst hu; subst e
        exact ⟨_, hc, fun r y hy => by simp only [VR, B.val] at hy ⊢; rw [hy, he]⟩
      · rw [if_neg e] at hu
        exact ⟨u, hu, fun _ _ h => h⟩
    · simp at h
  · simp at h

theorem wantedG_shape {ops : Array Oper} {o : Oper} {T T' : Tr V} {s s' : S} {b : Bool} (h : wantedG ops o T s = some (b, T', s')) :
    s'.H = s.H ∧ ((∀ q, q ∈ s'.cs → q) → ∀ x u, T'.get x = some u → ∃ v, T.get x = some v ∧ ∀ r y, VR r v y → VR r u y) := by
  unfold wantedG at h
  split at h
  · simp only [Option.some.injEq, Prod.mk.injEq] at h
    obtain ⟨_, rfl, rfl⟩ := h
    exact ⟨rfl, fun _ x u hu => ⟨u, hu, fun _ _ h => h⟩⟩
  · split at h
    · split at h
      · simp only [Option.some.injEq, Prod.mk.injEq] at h
        obtain ⟨_, rfl, rfl⟩ := h
        exact ⟨rfl, fun _ x u hu => ⟨u, hu, fun _ _ h => h⟩⟩
      · split at h
        · rename_i hask
          simp only [Option.some.injEq, Prod.mk.injEq] at h
          obtain ⟨_, rfl, rfl⟩ := h
          exact askT_shape hask
        · simp at h
    · simp at h

theorem wantedV_shape {ops : Array Oper} {o : Oper} {T T' : Tr V} {s s' : S} {b : Bool} (h : wantedV ops o T s = some (b, T', s')) :
    s'.H = s.H ∧ ((∀ q, q ∈ s'.cs → q) → ∀ x u, T'.get x = some u → ∃ v, T.get x = some v ∧ ∀ r y, VR r v y → VR r u y) := by
  obtain ⟨T1, s1, hg, hm, hH, hT⟩ := wantedV_some h
  obtain ⟨h1, h2⟩ := wantedG_shape hg
  refine ⟨hH.trans h1, fun hcs x u hu => ?_⟩
  have h2 := h2 fun q hq => hcs q (hm q hq)
  rcases hT hcs with rfl | ⟨t, k, z, hz, rfl⟩
  · exact h2 x u hu
  · rw [Tr.get_set] at hu
    by_cases e : x = t
    · rw [if_pos e] at hu
      simp only [Option.some.injEq] at hu
      subst hu; subst e
      obtain ⟨v, hv, hvr⟩ := h2 _ _ hz
      exact ⟨v, hv, fun r y hy => by have := hvr r y hy; simp only [VR, E.val] at this ⊢; exact this⟩
    · rw [if_neg e] at hu
      exact h2 x u hu

section
variable {P : Program} {cf : CallF} {nt : Nat} {ops : Array Oper}

theorem planOps_more (hcf : CallFOk P cf) : ∀ (os : List Oper) (T T' : Tr V) (s s' : S) (ds : List D), planOps P cf ops nt os T s = some (ds, T', s') → More s.cs s'.cs
  | [], _, _, _, _, _, h => by simp only [planOps, Option.some.injEq, Prod.mk.injEq] at h; obtain ⟨_, _, rfl⟩ := h; exact More.refl _
  | o :: os, T, T', s, s', ds, h => by
    simp only [planOps] at h
    split at h
    · rename_i T2 s1 hw
      split at h
      · split at h
        · rename_i v s2 hst
          split at h
          · split at h
            · split at h
              · rename_i ds' T3' s3 hp
                simp only [Option.some.injEq, Prod.mk.injEq] at h
                obtain ⟨_, _, rfl⟩ := h
                have h1 := (wantedV_ok (nt := nt) hw).1
                have h2 := stepV_more hcf hst
                have h3 := planOps_more hcf os _ _ _ _ _ hp
                exact (h1.trans h2).trans h3
              · simp at h
            · simp at h
          · simp at h
        · simp at h
      · simp at h
    · rename_i T2 s1 hw
      split at h
      · split at h
        · rename_i ds' T3' s3 hp
          simp only [Option.some.injEq, Prod.mk.injEq] at h
          obtain ⟨_, _, rfl⟩ := h
          exact (wantedV_ok (nt := nt) hw).1.trans (planOps_more hcf os _ _ _ _ _ hp)
        · simp at h
      · simp at h
    · simp at h

theorem putT_shape {T T' : Tr V} {dst : Option Tmp} {v : V} (h : putT nt T dst v = some T') : (∀ t, dst = some t → t < nt) ∧ ∀ t u, T'.get t = some u → (dst = some t ∧ u = v) ∨ (dst ≠ some t ∧ T.get t = some u) := by
  unfold putT at h
  split at h
  · simp only [Option.some.injEq] at h; subst h
    exact ⟨fun t ht => by simp at ht, fun t u hu => .inr ⟨by simp, hu⟩⟩
  · rename_i d
    split at h
    · rename_i hd
      rw [V.force_eq] at h
      simp only [Option.some.injEq] at h; subst h
      refine ⟨fun t ht => by simp only [Option.some.injEq] at ht; exact ht ▸ hd, fun t u hu => ?_⟩
      rw [Tr.get_set] at hu
      by_cases e : t = d
      · rw [if_pos e] at hu
        simp only [Option.some.injEq] at hu
        exact .inl ⟨by rw [e], hu.symm⟩
      · rw [if_neg e] at hu
        exact .inr ⟨by simp only [ne_eq, Option.some.injEq]; exact fun h => e h.symm, hu⟩
    · simp at h

theorem wT_some {ds : List D} {k : Nat} {d : D} (hd : ds[k]? = some d) (t : Tmp) : wT ds t k = if d.dst = some t then some (some d.v, d.hi) else none := by simp [wT, hd]
theorem wB_some {ds : List D} {k : Nat} {d : D} (hd : ds[k]? = some d) (i : Nat) : wB ds i k = if i ∈ d.up then some (d.after.get i, d.hi) else none := by simp [wB, hd]

theorem planOps_ok (hcf : CallFOk P cf) {T0 : Tr V} {H0 : Hp} {ds : List D} : ∀ (os : List Oper) (k : Nat) (T T' : Tr V) (s s' : S) (ds' : List D), (∀ j, os[j]? = ops[k + j]?) → (∀ j, ds'[j]? = ds[k + j]?) →
    planOps P cf ops nt os T s = some (ds', T', s') → (∀ q, q ∈ s'.cs → q) → J T0 H0 ds k T s.H →
    (∀ j o, k ≤ j → ops[j]? = some o → ∃ d, ds[j]? = some d ∧ DOk P cf ops nt T0 H0 ds j o d) ∧ J T0 H0 ds (k + os.length) T' s'.H
  | [], k, T, T', s, s', ds', ho, hd, h, _, hJ => by
    simp only [planOps, Option.some.injEq, Prod.mk.injEq] at h
    obtain ⟨_, rfl, rfl⟩ := h
    refine ⟨fun j o hj hjo => ?_, hJ⟩
    have := ho (j - k); rw [Nat.add_sub_cancel' hj, hjo] at this; simp at this
  | o :: os, k, T, T', s, s', ds', ho, hd, h, hcs, hJ => by
    have ho0 : ops[k]? = some o := by have := ho 0; simpa using this.symm
    have ho' : ∀ j, os[j]? = ops[k + 1 + j]? := fun j => by have := ho (j + 1); rw [List.getElem?_cons_succ] at this; rw [this]; congr 1; omega
    have hT1 : ∀ t u, (Tr.only (o.looksAt ops) T).get t = some u → t ∈ o.looksAt ops ∧ T.get t = some u := fun t u hu => by
      rw [Tr.get_only] at hu
      by_cases e : t ∈ o.looksAt ops
      · rw [if_pos e] at hu; exact ⟨e, hu⟩
      · rw [if_neg e] at hu; simp at hu
    simp only [planOps] at h
    split at h
    · rename_i T2 s1 hw
      obtain ⟨hs1, hshape⟩ := wantedV_shape hw
      split at h
      · rename_i hU
        split at h
        · rename_i v s2 hst
          split at h
          · rename_i hchk
            split at h
            · rename_i T3 hput
              split at h
              · rename_i ds2 T4 s3 hp
                simp only [Option.some.injEq, Prod.mk.injEq] at h
                obtain ⟨rfl, rfl, rfl⟩ := h
                have hm3 := planOps_more hcf os _ _ _ _ _ hp
                have hcs2 : ∀ q, q ∈ s2.cs → q := fun q hq => hcs q (hm3 q hq)
                have hcs1 : ∀ q, q ∈ s1.cs → q := fun q hq => hcs2 q (stepV_more hcf hst q hq)
                have hshape := hshape hcs1
                simp only [Bool.and_eq_true, decide_eq_true_eq, List.all_eq_true] at hchk hU
                generalize hfeet : feet s1.H T2 o.op = FU at *
                obtain ⟨F, U⟩ := FU
                simp only at hst hU hchk hp hd
                rw [hs1] at hst hU hchk hp hd
                have hd0 : ds[k]? = some ⟨o.dst, o.looksAt ops, F, U ++ List.range' s.H.n (s2.H.n - s.H.n), s.H.n, s2.H.n, v, s2.H.tr⟩ := by have := hd 0; simpa using this.symm
                have hd' : ∀ j, ds2[j]? = ds[k + 1 + j]? := fun j => by have := hd (j + 1); rw [List.getElem?_cons_succ] at this; rw [this]; congr 1; omega
                obtain ⟨hdlt, hput⟩ := putT_shape hput
                have hJ' : J T0 H0 ds (k + 1) T3 ⟨Tr.patch (U ++ List.range' s.H.n (s2.H.n - s.H.n)) s2.H.tr s.H.tr, s2.H.n⟩ := by
                  refine ⟨Nat.le_trans hJ.n hchk.1, fun j x hj hx => ?_, fun t u hu => ?_, fun i b hb => ?_⟩
                  · by_cases e : j = k
                    · subst e; rw [hd0] at hx; simp only [Option.some.injEq] at hx; subst hx; exact Nat.le_refl _
                    · exact Nat.le_trans (hJ.hi j x (by omega) hx) hchk.1
                  · rcases hput t u hu with ⟨e, rfl⟩ | ⟨e, hu⟩
                    · exact ⟨u, s2.H.n, Cur.next_now (by rw [wT_some hd0]; simp [e]), Nat.le_refl _, fun _ _ h => h⟩
                    · have hpre : ∃ v, T.get t = some v ∧ ∀ r y, VR r v y → VR r u y := by
                        rw [Tr.get_patch] at hu
                        by_cases e' : t ∈ o.looksAt ops
                        · rw [if_pos e'] at hu
                          obtain ⟨v', hv', hvr⟩ := hshape t u hu
                          exact ⟨v', (hT1 t v' hv').2, hvr⟩
                        · rw [if_neg e'] at hu
                          exact ⟨u, hu, fun _ _ h => h⟩
                      obtain ⟨v1, hv1, hr1⟩ := hpre
                      obtain ⟨v2, m, hc, hm, hr2⟩ := hJ.tmp t v1 hv1
                      exact ⟨v2, m, hc.next_not (by rw [wT_some hd0]; simp [e]), Nat.le_trans hm hchk.1, fun r y hy => hr1 r y (hr2 r y hy)⟩
                  · rw [Tr.get_patch] at hb
                    by_cases e : i ∈ U ++ List.range' s.H.n (s2.H.n - s.H.n)
                    · rw [if_pos e] at hb
                      refine ⟨?_, s2.H.n, Cur.next_now (by rw [wB_some hd0]; simp only [e, if_true, hb]), Nat.le_refl _⟩
                      rcases List.mem_append.1 e with e | e
                      · exact Nat.lt_of_lt_of_le (hU i e).2 hchk.1
                      · have := List.mem_range'_1.1 e; show i < s2.H.n; omega
                    · rw [if_neg e] at hb
                      obtain ⟨h1, m, hc, hm⟩ := hJ.blk i b hb
                      exact ⟨Nat.lt_of_lt_of_le h1 hchk.1, m, hc.next_not (by rw [wB_some hd0]; simp only [e, if_false]), Nat.le_trans hm hchk.1⟩
                obtain ⟨g1, g2⟩ := planOps_ok hcf os (k + 1) T3 T4 _ s3 ds2 ho' hd' hp hcs hJ'
                refine ⟨fun j o' hj hjo => ?_, ?_⟩
                · by_cases e : j = k
                  · subst e
                    rw [ho0] at hjo
                    simp only [Option.some.injEq] at hjo
                    subst hjo
                    refine ⟨_, hd0, ⟨hJ.n, hchk.1, hJ.hi, fun i hi => ?_, fun i h1 h2 => ?_, fun i b hi hb => ?_, rfl, hdlt, ?_⟩⟩
                    · rcases List.mem_append.1 hi with hi | hi
                      · exact .inl ⟨by simpa using (hU i hi).1, (hU i hi).2⟩
                      · have := List.mem_range'_1.1 hi
                        have := hchk.1
                        exact .inr ⟨by show s.H.n ≤ i; omega, by show i < s2.H.n; omega⟩
                    · refine List.mem_append_right _ (List.mem_range'_1.2 ⟨h1, ?_⟩)
                      have := hchk.1
                      have h2 : i < s2.H.n := h2
                      omega
                    · have := hchk.2 i hi
                      simp only at hb
                      rw [hb] at this
                      exact this
                    · refine ⟨Tr.only (o.looksAt ops) T, fun t u hu => ?_, .inl ⟨T2, _, s2, fun r a hA => ?_, hst, hcs2, rfl, rfl, rfl, fun i b hb => ?_⟩⟩
                      · obtain ⟨h1, h2⟩ := hT1 t u hu
                        exact ⟨h1, hJ.tmp t u h2⟩
                      · exact (wantedV_ok (nt := nt) hw).2.2 hcs1 r a hA
                      · simp only at hb
                        rw [get_part] at hb
                        by_cases e : i ∈ F
                        · rw [if_pos e] at hb
                          cases hg : s.H.tr.get i with
                          | none => rw [hg] at hb; simp at hb
                          | some b0 =>
                            rw [hg] at hb
                            simp only [Option.bind_some] at hb
                            obtain ⟨h1, m, hc, hm⟩ := hJ.blk i b0 hg
                            refine ⟨e, h1, b0, m, hc, hm, ?_⟩
                            by_cases eU : U.contains i = true
                            · rw [if_pos eU] at hb
                              simp only [Option.some.injEq] at hb
                              exact .inl ⟨List.mem_append_left _ (by simpa using eU), hb.symm⟩
                            · rw [if_neg eU] at hb
                              exact .inr hb
                        · rw [if_neg e] at hb; simp at hb
                  · exact g1 j o' (by omega) hjo
                · have : k + (o :: os).length = k + 1 + os.length := by simp; omega
                  rw [this]; exact g2
              · simp at h
            · simp at h
          · simp at h
        · simp at h
      · simp at h
    · rename_i T2 s1 hw
      obtain ⟨hs1, hshape⟩ := wantedV_shape hw
      split at h
      · rename_i T3 hput
        split at h
        · rename_i ds2 T4 s3 hp
          simp only [Option.some.injEq, Prod.mk.injEq] at h
          obtain ⟨rfl, rfl, rfl⟩ := h
          have hm3 := planOps_more hcf os _ _ _ _ _ hp
          have hcs1 : ∀ q, q ∈ s1.cs → q := fun q hq => hcs q (hm3 q hq)
          have hshape := hshape hcs1
          rw [hs1] at hd
          have hd0 : ds[k]? = some ⟨o.dst, o.looksAt ops, [], [], s.H.n, s.H.n, .tuple [], .nil⟩ := by have := hd 0; simpa using this.symm
          have hd' : ∀ j, ds2[j]? = ds[k + 1 + j]? := fun j => by have := hd (j + 1); rw [List.getElem?_cons_succ] at this; rw [this]; congr 1; omega
          obtain ⟨hdlt, hput⟩ := putT_shape hput
          have hJ' : J T0 H0 ds (k + 1) T3 s1.H := by
            rw [hs1]
            refine ⟨hJ.n, fun j x hj hx => ?_, fun t u hu => ?_, fun i b hb => ?_⟩
            · by_cases e : j = k
              · subst e; rw [hd0] at hx; simp only [Option.some.injEq] at hx; subst hx; exact Nat.le_refl _
              · exact hJ.hi j x (by omega) hx
            · rcases hput t u hu with ⟨e, rfl⟩ | ⟨e, hu⟩
              · exact ⟨.tuple [], s.H.n, Cur.next_now (by rw [wT_some hd0]; simp [e]), Nat.le_refl _, fun _ _ h => h⟩
              · have hpre : ∃ v, T.get t = some v ∧ ∀ r y, VR r v y → VR r u y := by
                  rw [Tr.get_patch] at hu
                  by_cases e' : t ∈ o.looksAt ops
                  · rw [if_pos e'] at hu
                    obtain ⟨v', hv', hvr⟩ := hshape t u hu
                    exact ⟨v', (hT1 t v' hv').2, hvr⟩
                  · rw [if_neg e'] at hu
                    exact ⟨u, hu, fun _ _ h => h⟩
                obtain ⟨v1, hv1, hr1⟩ := hpre
                obtain ⟨v2, m, hc, hm, hr2⟩ := hJ.tmp t v1 hv1
                exact ⟨v2, m, hc.next_not (by rw [wT_some hd0]; simp [e]), hm, fun r y hy => hr1 r y (hr2 r y hy)⟩
            · obtain ⟨h1, m, hc, hm⟩ := hJ.blk i b hb
              exact ⟨h1, m, hc.next_not (by rw [wB_some hd0]; simp), hm⟩
          obtain ⟨g1, g2⟩ := planOps_ok hcf os (k + 1) T3 T4 _ s3 ds2 ho' hd' hp hcs hJ'
          refine ⟨fun j o' hj hjo => ?_, ?_⟩
          · by_cases e : j = k
            · subst e
              rw [ho0] at hjo
              simp only [Option.some.injEq] at hjo
              subst hjo
              refine ⟨_, hd0, ⟨hJ.n, Nat.le_refl _, hJ.hi, fun i hi => by simp at hi, fun i h1 h2 => absurd h2 (Nat.not_lt_of_le h1), fun i b hi => by simp at hi, rfl, hdlt, ?_⟩⟩
              refine ⟨Tr.only (o.looksAt ops) T, fun t u hu => ?_, .inr ⟨fun r a hA => ?_, rfl, rfl, rfl⟩⟩
              · obtain ⟨h1, h2⟩ := hT1 t u hu
                exact ⟨h1, hJ.tmp t u h2⟩
              · exact ((wantedV_ok (nt := nt) hw).2.2 hcs1 r a hA).2
            · exact g1 j o' (by omega) hjo
          · have : k + (o :: os).length = k + 1 + os.length := by simp; omega
            rw [this]; exact g2
        · simp at h
      · simp at h
    · simp at h

end
end Go.Ideal
