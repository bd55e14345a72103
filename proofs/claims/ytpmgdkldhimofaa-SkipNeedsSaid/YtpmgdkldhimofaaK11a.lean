/- Chapter 6: what is asked for, and on what an outcome hangs: plain laws for SkipNeeds. Own text. -/
import Derived.Test.YtpmgdkldhimofaaKH
namespace Go.Ideal.K6
open Go.Proofs Go.Ideal Go.Ideal.L1
set_option linter.unusedSimpArgs false
set_option linter.unusedVariables false
set_option maxRecDepth 100000
set_option maxHeartbeats 8000000

/-- A cell that a walk asks for. -/
def askC (bs : List Bool) (c : Int) : Prop := (0 ≤ c ∧ c < 16) ∧ kn bs c = false
theorem askC_lk {bs : List Bool} {key lv : Int} (h1 : -1 ≤ key) (h2 : key < 5) (h3 : 0 ≤ lv) (h4 : lv < 2) (hk : ¬ kn bs (lk key lv) = true) : askC bs (lk key lv) := ⟨by unfold lk; omega, by simpa using hk⟩
theorem lk_in {key lv : Int} (h1 : -1 ≤ key) (h2 : key < 5) (h3 : 0 ≤ lv) (h4 : lv < 2) : 0 ≤ lk key lv ∧ lk key lv < 16 := by unfold lk; omega
theorem btG_ask (bs : List Bool) (zs : List Int) (B : Int) : ∀ (n : Nat) (x out : Int), -1 ≤ x → x < 5 → (btG bs zs B n x out).1 = -1 ∨ askC bs (btG bs zs B n x out).1
  | 0, x, out, _, _ => Or.inl rfl
  | n + 1, x, out, h1, h2 => by
    unfold btG
    split
    · split
      · have h := nxV_ok x (nw zs (lk x 0))
        exact btG_ask bs zs B n _ _ (by omega) (by omega)
      · next hk => exact Or.inr (askC_lk h1 h2 (by omega) (by omega) hk)
    · exact Or.inl rfl
def okB (bs : List Bool) (lv : Int) (p : Int × Int) : Prop := -1 ≤ p.2 ∧ p.2 < 5 ∧ True ∧ (p.1 = -1 → kn bs (lk p.2 lv) = true ∧ True) ∧ (p.1 ≠ -1 → ∃ k, -1 ≤ k ∧ k < 5 ∧ p.1 = lk k lv ∧ kn bs (lk k lv) = false)
theorem okB_of (bs : List Bool) (zs : List Int) (key lv : Int) (hlv : 0 ≤ lv) (fr : Int) (h1 : -1 ≤ fr) (h2 : fr < 5) : okB bs lv (bfG bs zs key lv 6 fr) := by
  obtain ⟨g1, g2, _, g4, g5⟩ := bfG_ok bs zs key lv hlv 6 fr h1 h2 (by omega)
  exact ⟨g1, g2, trivial, fun h => ⟨(g4 h).1, trivial⟩, g5⟩
theorem skHi_ok (bs : List Bool) (zs : List Int) (A : Int) : okB bs 1 (skHi bs zs A) := okB_of bs zs A 1 (by omega) (-1) (by omega) (by omega)
theorem skLo_ok (bs : List Bool) (zs : List Int) (A : Int) : okB bs 0 (skLo bs zs A) := okB_of bs zs A 0 (by omega) (skHi bs zs A).2 (skHi_ok bs zs A).1 (skHi_ok bs zs A).2.1
theorem skAt_in (bs : List Bool) (zs : List Int) (A : Int) : -1 ≤ skAt bs zs A ∧ skAt bs zs A < 5 := by
  have h := nxV_ok (skLo bs zs A).2 (nw zs (lk (skLo bs zs A).2 0))
  have h1 := (skLo_ok bs zs A).1
  have h2 := (skLo_ok bs zs A).2.1
  unfold skAt; omega
/-- What is asked for was not known. -/
theorem skN_ask {bs : List Bool} {zs : List Int} {k A B x : Int} (hA : 0 ≤ A ∧ A < 5) (h : skN bs zs k A B x ≠ -1) : askC bs (skN bs zs k A B x) := by
  revert h
  unfold skN
  split
  · split
    · intro h; exact absurd rfl h
    · next hk => intro _; exact askC_lk (by omega) (by omega) (by omega) (by omega) hk
  · split
    · split
      · intro h; exact (btG_ask bs zs B 6 _ 0 (skAt_in bs zs A).1 (skAt_in bs zs A).2).resolve_left h
      · split
        · split
          · intro h; exact absurd rfl h
          · split
            · split
              · split
                · intro h; exact absurd rfl h
                · next hk => intro _; exact askC_lk (by omega) (by omega) (by omega) (by omega) hk
              · intro h; exact absurd rfl h
            · next hk => intro _; exact askC_lk (by omega) (by omega) (by omega) (by omega) hk
        · split
          · split
            · split
              · split
                · split
                  · intro h; exact absurd rfl h
                  · next hk => intro _; exact askC_lk (by omega) (by omega) (by omega) (by omega) hk
                · intro h; exact absurd rfl h
              · next hk => intro _; exact askC_lk (by omega) (by omega) (by omega) (by omega) hk
            · intro h; exact absurd rfl h
          · intro h; exact absurd rfl h
    · next hf =>
      intro _
      unfold skF at hf ⊢
      split
      · next h1 =>
        rw [if_pos h1] at hf
        obtain ⟨c, c1, c2, c3, c4⟩ := (skLo_ok bs zs A).2.2.2.2 hf
        rw [c3]; exact askC_lk c1 c2 (by omega) (by omega) (by simp [c4])
      · next h1 =>
        rw [if_neg h1] at hf
        obtain ⟨c, c1, c2, c3, c4⟩ := (skHi_ok bs zs A).2.2.2.2 hf
        rw [c3]; exact askC_lk c1 c2 (by omega) (by omega) (by simp [c4])

/-- Two views are alike on what is known. -/
def Ag (bs : List Bool) (zs ws : List Int) : Prop := ∀ c, 0 ≤ c ∧ c < 16 → kn bs c = true → nw ws c = nw zs c
def Un (bs : List Bool) (zs ws : List Int) : Prop := ∀ c, 0 ≤ c ∧ c < 16 → kn bs c = false → nw ws c = nw zs c
theorem upz_len {zs : List Int} (h : zs.length = 32) (c x : Int) : (upz zs c x).length = 32 := by
  match zs, h with
  | [z0, z1, z2, z3, z4, z5, z6, z7, z8, z9, z10, z11, z12, z13, z14, z15, z16, z17, z18, z19, z20, z21, z22, z23, z24, z25, z26, z27, z28, z29, z30, z31], _ => rfl
theorem nw_up {zs : List Int} (h : zs.length = 32) (c x j : Int) (hj : 0 ≤ j ∧ j < 16) : nw (upz zs c x) j = if c = j then x else nw zs j := by
  match zs, h with
  | [z0, z1, z2, z3, z4, z5, z6, z7, z8, z9, z10, z11, z12, z13, z14, z15, z16, z17, z18, z19, z20, z21, z22, z23, z24, z25, z26, z27, z28, z29, z30, z31], _ => exact nw_upz _ _ _ _ _ _ _ _ _ _ _ _ _ _ _ _ _ _ _ _ _ _ _ _ _ _ _ _ _ _ _ _ c x j hj
theorem Ag.up {bs : List Bool} {zs ws : List Int} (h1 : zs.length = 32) (h2 : ws.length = 32) (h : Ag bs zs ws) (c x : Int) : Ag bs (upz zs c x) (upz ws c x) := fun j hj hk => by
  rw [nw_up h1 c x j hj, nw_up h2 c x j hj, h j hj hk]
theorem Un.up {bs : List Bool} {zs ws : List Int} (h2 : ws.length = 32) (h : Un bs zs ws) (c x : Int) (hc : kn bs c = true) : Un bs zs (upz ws c x) := fun j hj hk => by
  rw [nw_up h2 c x j hj, if_neg (fun e => by subst e; simp [hc] at hk), h j hj hk]
theorem bfG_ag {bs : List Bool} {zs ws : List Int} (h : Ag bs zs ws) (key lv : Int) (hl : 0 ≤ lv ∧ lv < 2) : ∀ (n : Nat) (fr : Int), -1 ≤ fr → fr < 5 → bfG bs ws key lv n fr = bfG bs zs key lv n fr
  | 0, fr, _, _ => rfl
  | n + 1, fr, h1, h2 => by
    by_cases hk : kn bs (lk fr lv) = true
    · have e := h _ (lk_in h1 h2 hl.1 hl.2) hk
      show (if kn bs (lk fr lv) = true then (if nxV fr (nw ws (lk fr lv)) ≠ -1 ∧ nxV fr (nw ws (lk fr lv)) < key then bfG bs ws key lv n (nxV fr (nw ws (lk fr lv))) else (-1, fr)) else (lk fr lv, fr)) = (if kn bs (lk fr lv) = true then (if nxV fr (nw zs (lk fr lv)) ≠ -1 ∧ nxV fr (nw zs (lk fr lv)) < key then bfG bs zs key lv n (nxV fr (nw zs (lk fr lv))) else (-1, fr)) else (lk fr lv, fr))
      rw [e, if_pos hk, if_pos hk]
      have hx := nxV_ok fr (nw zs (lk fr lv))
      rw [bfG_ag h key lv hl n _ (by omega) (by omega)]
    · show (if kn bs (lk fr lv) = true then (if nxV fr (nw ws (lk fr lv)) ≠ -1 ∧ nxV fr (nw ws (lk fr lv)) < key then bfG bs ws key lv n (nxV fr (nw ws (lk fr lv))) else (-1, fr)) else (lk fr lv, fr)) = (if kn bs (lk fr lv) = true then (if nxV fr (nw zs (lk fr lv)) ≠ -1 ∧ nxV fr (nw zs (lk fr lv)) < key then bfG bs zs key lv n (nxV fr (nw zs (lk fr lv))) else (-1, fr)) else (lk fr lv, fr))
      rw [if_neg hk, if_neg hk]
theorem btG_ag {bs : List Bool} {zs ws : List Int} (h : Ag bs zs ws) (B : Int) : ∀ (n : Nat) (x out : Int), -1 ≤ x → x < 5 → btG bs ws B n x out = btG bs zs B n x out
  | 0, x, out, _, _ => rfl
  | n + 1, x, out, h1, h2 => by
    unfold btG
    split
    · by_cases hk : kn bs (lk x 0) = true
      · rw [if_pos hk, if_pos hk, h _ (lk_in h1 h2 (by omega) (by omega)) hk]
        have hx := nxV_ok x (nw zs (lk x 0))
        exact btG_ag h B n _ _ (by omega) (by omega)
      · rw [if_neg hk, if_neg hk]
    · rfl
theorem hi_ag {bs : List Bool} {zs ws : List Int} (h : Ag bs zs ws) (A : Int) : skHi bs ws A = skHi bs zs A := bfG_ag h A 1 (by omega) 6 (-1) (by omega) (by omega)
theorem lo_ag {bs : List Bool} {zs ws : List Int} (h : Ag bs zs ws) (A : Int) : skLo bs ws A = skLo bs zs A := by
  unfold skLo; rw [hi_ag h]; exact bfG_ag h A 0 (by omega) 6 _ (skHi_ok bs zs A).1 (skHi_ok bs zs A).2.1
theorem at_ag {bs : List Bool} {zs ws : List Int} (h : Ag bs zs ws) (A : Int) (hl : (skLo bs zs A).1 = -1) : skAt bs ws A = skAt bs zs A := by
  have g := skLo_ok bs zs A
  unfold skAt; rw [lo_ag h, h _ (lk_in g.1 g.2.1 (by omega) (by omega)) (g.2.2.2.1 hl).1]
theorem f_ag {bs : List Bool} {zs ws : List Int} (h : Ag bs zs ws) (A : Int) : skF bs ws A = skF bs zs A := by unfold skF; rw [hi_ag h, lo_ag h]
theorem skF_1 {bs : List Bool} {zs : List Int} {A : Int} (h : skF bs zs A = -1) : (skHi bs zs A).1 = -1 ∧ (skLo bs zs A).1 = -1 := by
  unfold skF at h; split at h
  · next h1 => exact ⟨h1, h⟩
  · next h1 => exact absurd h h1
theorem nw_del {zs : List Int} (h : zs.length = 32) (A b hi : Int) (hA : 0 ≤ A ∧ A < 5) (hb : -1 ≤ b ∧ b < 5) (hh : -1 ≤ hi ∧ hi < 5) : nw (delZ zs A b 0) (lk hi 1) = nw zs (lk hi 1) := by
  unfold delZ
  rw [nw_up (upz_len h _ _) _ _ _ (lk_in hh.1 hh.2 (by omega) (by omega)), if_neg (by unfold lk; omega), nw_up h _ _ _ (lk_in hh.1 hh.2 (by omega) (by omega)), if_neg (by unfold lk; omega)]
theorem ins_ag {bs : List Bool} {zs ws vs : List Int} (h1 : zs.length = 32) (h2 : ws.length = 32) (h : Ag bs zs ws) (hu : Un bs vs zs) (A b lv : Int) (hb : -1 ≤ b ∧ b < 5) (hl : 0 ≤ lv ∧ lv < 2) (k1 : kn bs (lk b lv) = true) (k2 : kn bs (lk A lv) = true) :
    (insZ zs A b lv).length = 32 ∧ (insZ ws A b lv).length = 32 ∧ Ag bs (insZ zs A b lv) (insZ ws A b lv) ∧ Un bs vs (insZ zs A b lv) := by
  unfold insZ
  have e := h _ (lk_in hb.1 hb.2 hl.1 hl.2) k1
  rw [e]
  exact ⟨upz_len (upz_len h1 _ _) _ _, upz_len (upz_len h2 _ _) _ _, Ag.up (upz_len h1 _ _) (upz_len h2 _ _) (Ag.up h1 h2 h _ _) _ _, Un.up (upz_len h1 _ _) (Un.up h1 hu _ _ k2) _ _ k1⟩
theorem del_ag {bs : List Bool} {zs ws vs : List Int} (h1 : zs.length = 32) (h2 : ws.length = 32) (h : Ag bs zs ws) (hu : Un bs vs zs) (A b lv : Int) (hA : 0 ≤ A ∧ A < 5) (hl : 0 ≤ lv ∧ lv < 2) (k1 : kn bs (lk b lv) = true) (k2 : kn bs (lk A lv) = true) :
    (delZ zs A b lv).length = 32 ∧ (delZ ws A b lv).length = 32 ∧ Ag bs (delZ zs A b lv) (delZ ws A b lv) ∧ Un bs vs (delZ zs A b lv) := by
  unfold delZ
  have e := h _ (lk_in (by omega) hA.2 hl.1 hl.2) k2
  rw [e]
  exact ⟨upz_len (upz_len h1 _ _) _ _, upz_len (upz_len h2 _ _) _ _, Ag.up (upz_len h1 _ _) (upz_len h2 _ _) (Ag.up h1 h2 h _ _) _ _, Un.up (upz_len h1 _ _) (Un.up h1 hu _ _ k1) _ _ k2⟩
theorem up_ag {bs : List Bool} {zs ws : List Int} (h1 : zs.length = 32) (h2 : ws.length = 32) (h : Ag bs zs ws) (A : Int) (hA : 0 ≤ A ∧ A < 5) (hf : skF bs zs A = -1) : skUp bs ws A ↔ skUp bs zs A := by
  obtain ⟨f1, f2⟩ := skF_1 hf
  have g1 := skHi_ok bs zs A; have g2 := skLo_ok bs zs A
  unfold skUp
  rw [hi_ag h, lo_ag h, nw_del h1 A _ _ hA ⟨g2.1, g2.2.1⟩ ⟨g1.1, g1.2.1⟩, nw_del h2 A _ _ hA ⟨g2.1, g2.2.1⟩ ⟨g1.1, g1.2.1⟩, h _ (lk_in g1.1 g1.2.1 (by omega) (by omega)) (g1.2.2.2.1 f1).1]
/-- What needs nothing hangs on what is known alone. -/
theorem skN_ag {bs : List Bool} {zs ws : List Int} {k A B x : Int} (h1 : zs.length = 32) (h2 : ws.length = 32) (hA : 0 ≤ A ∧ A < 5) (h : Ag bs zs ws) (hn : skN bs zs k A B x = -1) :
    skN bs ws k A B x = -1 ∧ skCode bs ws k A = skCode bs zs k A ∧ skNum bs ws k A B = skNum bs zs k A B := by
  by_cases h9 : k = 9
  · subst h9
    have hk : kn bs (lk (-1) 0) = true := by
      unfold skN at hn; rw [if_pos rfl] at hn
      split at hn
      · next h => exact h
      · exact absurd hn (by decide)
    have e := h _ (lk_in (key := -1) (lv := 0) (by omega) (by omega) (by omega) (by omega)) hk
    refine ⟨?_, ?_, ?_⟩
    · unfold skN; rw [if_pos rfl, if_pos hk]
    · unfold skCode; rw [if_pos rfl, if_pos rfl, e]
    · unfold skNum; rw [if_pos rfl, if_pos rfl, e]
  · have hf : skF bs zs A = -1 := by
      unfold skN at hn; rw [if_neg h9] at hn
      split at hn
      · next h => exact h
      · exact hn
    obtain ⟨f1, f2⟩ := skF_1 hf
    have ea := at_ag h A f2
    have eb := btG_ag h B 6 (skAt bs zs A) 0 (skAt_in bs zs A).1 (skAt_in bs zs A).2
    have eu := up_ag h1 h2 h A hA hf
    refine ⟨?_, ?_, ?_⟩
    · rw [← hn]; unfold skN; rw [f_ag h, ea, eb]; simp only [eu]
    · unfold skCode; rw [if_neg h9, if_neg h9, ea]
    · unfold skNum; rw [if_neg h9, if_neg h9, ea, eb]
theorem skZ_ag {bs : List Bool} {zs ws : List Int} {k A B x : Int} (h1 : zs.length = 32) (h2 : ws.length = 32) (hA : 0 ≤ A ∧ A < 5) (h : Ag bs zs ws) (hn : skN bs zs k A B x = -1) :
    Ag bs (skZ bs zs k A x) (skZ bs ws k A x) ∧ Un bs zs (skZ bs zs k A x) := by
  have hu : Un bs zs zs := fun _ _ _ => rfl
  by_cases h6 : k = 6
  · subst h6
    obtain ⟨f1, f2, f3⟩ := skN6 hA.1 hn
    have hf : skF bs zs A = -1 := by unfold skF; rw [if_pos f1]; exact f2
    have ea := at_ag h A f2
    have g1 := skHi_ok bs zs A; have g2 := skLo_ok bs zs A
    unfold skZ
    rw [ea, lo_ag h, hi_ag h]
    by_cases hc : (6 : Int) = 6 ∧ skAt bs zs A ≠ A
    · rw [if_pos hc, if_pos hc]
      obtain ⟨m1, m2⟩ := f3.resolve_left hc.2
      obtain ⟨a1, a2, a3, a4⟩ := ins_ag h1 h2 h hu A _ 0 ⟨g2.1, g2.2.1⟩ (by omega) (g2.2.2.2.1 f2).1 m1
      by_cases hx : x = 1
      · rw [if_pos hx, if_pos hx]
        obtain ⟨b1, b2, b3, b4⟩ := ins_ag a1 a2 a3 a4 A _ 1 ⟨g1.1, g1.2.1⟩ (by omega) (g1.2.2.2.1 f1).1 (m2 hx)
        exact ⟨b3, b4⟩
      · rw [if_neg hx, if_neg hx]; exact ⟨a3, a4⟩
    · have n7 : ¬ ((6 : Int) = 7 ∧ skAt bs zs A = A) := by omega
      rw [if_neg hc, if_neg hc, if_neg n7, if_neg n7]; exact ⟨h, hu⟩
  · by_cases h7 : k = 7
    · subst h7
      obtain ⟨f1, f2, f3⟩ := skN7 hA.1 hn
      have hf : skF bs zs A = -1 := by unfold skF; rw [if_pos f1]; exact f2
      have ea := at_ag h A f2
      have eu := up_ag h1 h2 h A hA hf
      have g1 := skHi_ok bs zs A; have g2 := skLo_ok bs zs A
      unfold skZ
      have n6 : ¬ ((7 : Int) = 6 ∧ skAt bs zs A ≠ A) := by omega
      rw [ea, lo_ag h, hi_ag h, if_neg n6, if_neg n6]
      by_cases hc : (7 : Int) = 7 ∧ skAt bs zs A = A
      · rw [if_pos hc, if_pos hc]
        obtain ⟨m1, m2⟩ := f3.resolve_left (fun e => e hc.2)
        obtain ⟨a1, a2, a3, a4⟩ := del_ag h1 h2 h hu A _ 0 hA (by omega) (g2.2.2.2.1 f2).1 m1
        by_cases hx : skUp bs zs A
        · rw [if_pos hx, if_pos (eu.mpr hx)]
          obtain ⟨b1, b2, b3, b4⟩ := del_ag a1 a2 a3 a4 A _ 1 hA (by omega) (g1.2.2.2.1 f1).1 (m2 hx)
          exact ⟨b3, b4⟩
        · rw [if_neg hx, if_neg (fun e => hx (eu.mp e))]; exact ⟨a3, a4⟩
      · rw [if_neg hc, if_neg hc]; exact ⟨h, hu⟩
    · unfold skZ
      simp only [h6, h7, false_and, if_false]
      exact ⟨h, hu⟩
end Go.Ideal.K6
