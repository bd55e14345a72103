/- Put together of: K11p K11c Y6 K12 K12b Zc. Own text; nothing here is trusted. -/
import Derived.Test.YtpmgdkldhimofaaKH
import Derived.Test.YtpmgdkldhimofaaQ6
import Derived.Test.YtpmgdkldhimofaaPP
import Derived.Test.YtpmgdkldhimofaaZD
namespace Go.Ideal.K6
section
open Go.Proofs Go.Ideal Go.Ideal.L1
set_option linter.unusedVariables false
set_option maxRecDepth 100000
set_option maxHeartbeats 8000000

/-- A cell that a walk asks for. -/
def askC (bs : List Bool) (c:Int) : Prop := (0 ≤ c ∧ c < 16) ∧ kn bs c = false
theorem askC_lk {bs : List Bool} {key lv : Int} (h1 : -1 ≤ key) (h2 : key < 5) (h3 : 0 ≤ lv) (h4 : lv < 2) (hk : ¬ kn bs (lk key lv) = true) : askC bs (lk key lv) := ⟨by unfold lk; omega, by simpa using hk⟩
theorem lk_in {key lv : Int} (h1 : -1 ≤ key) (h2 : key < 5) (h3 : 0 ≤ lv) (h4 : lv < 2) : 0 ≤ lk key lv ∧ lk key lv < 16 := by unfold lk; omega
theorem btG_ask (bs : List Bool) (zs : List Int) (B:Int) : ∀ (n:Nat) (x out:Int), -1 ≤ x → x < 5 → (btG bs zs B n x out).1 = -1 ∨ askC bs (btG bs zs B n x out).1
  | 0, x, out, _, _ => Or.inl rfl
  | n + 1, x, out, h1, h2 => by
    unfold btG
    split
    · split
      · have h := nxV_ok x (nw zs (lk x 0))
        exact btG_ask bs zs B n _ _ (by omega) (by omega)
      · next hk => exact Or.inr (askC_lk h1 h2 (by omega) (by omega) hk)
    · exact Or.inl rfl
def okB (bs : List Bool) (lv:Int) (p : Int × Int) : Prop := -1 ≤ p.2 ∧ p.2 < 5 ∧ True ∧ (p.1 = -1 → kn bs (lk p.2 lv) = true ∧ True) ∧ (p.1 ≠ -1 → ∃ k, -1 ≤ k ∧ k < 5 ∧ p.1 = lk k lv ∧ kn bs (lk k lv) = false)
theorem okB_of (bs : List Bool) (zs : List Int) (key lv:Int) (hlv : 0 ≤ lv) (fr:Int) (h1 : -1 ≤ fr) (h2 : fr < 5) : okB bs lv (bfG bs zs key lv 6 fr) := by
  obtain ⟨g1, g2, _, g4, g5⟩ := bfG_ok bs zs key lv hlv 6 fr h1 h2 (by omega)
  exact ⟨g1, g2, trivial, fun h => ⟨(g4 h).1, trivial⟩, g5⟩
theorem skHi_ok (bs : List Bool) (zs : List Int) (A:Int) : okB bs 1 (skHi bs zs A) := okB_of bs zs A 1 (by omega) (-1) (by omega) (by omega)
theorem skLo_ok (bs : List Bool) (zs : List Int) (A:Int) : okB bs 0 (skLo bs zs A) := okB_of bs zs A 0 (by omega) (skHi bs zs A).2 (skHi_ok bs zs A).1 (skHi_ok bs zs A).2.1
theorem skAt_in (bs : List Bool) (zs : List Int) (A:Int) : -1 ≤ skAt bs zs A ∧ skAt bs zs A < 5 := by
  have h := nxV_ok (skLo bs zs A).2 (nw zs (lk (skLo bs zs A).2 0))
  have h1 := (skLo_ok bs zs A).1
  have h2 := (skLo_ok bs zs A).2.1
  unfold skAt; omega
/-- What is asked for was not known. -/
theorem skN_ask {bs : List Bool} {zs : List Int} {k A B x : Int} (hA : 0 ≤ A ∧ A < 5) (h : skN bs zs k A B x ≠ -1) : askC bs (skN bs zs k A B x) := by
  revert h
  unfold skN
  split
  · split
    · intro h; exact absurd rfl h
    · next hk => intro _; exact askC_lk (by omega) (by omega) (by omega) (by omega) hk
  · split
    · split
      · intro h; exact (btG_ask bs zs B 6 _ 0 (skAt_in bs zs A).1 (skAt_in bs zs A).2).resolve_left h
      · split
        · split
          · intro h; exact absurd rfl h
          · split
            · split
              · split
                · intro h; exact absurd rfl h
                · next hk => intro _; exact askC_lk (by omega) (by omega) (by omega) (by omega) hk
              · intro h; exact absurd rfl h
            · next hk => intro _; exact askC_lk (by omega) (by omega) (by omega) (by omega) hk
        · split
          · split
            · split
              · split
                · split
                  · intro h; exact absurd rfl h
                  · next hk => intro _; exact askC_lk (by omega) (by omega) (by omega) (by omega) hk
                · intro h; exact absurd rfl h
              · next hk => intro _; exact askC_lk (by omega) (by omega) (by omega) (by omega) hk
            · intro h; exact absurd rfl h
          · intro h; exact absurd rfl h
    · next hf =>
      intro _
      unfold skF at hf ⊢
      split
      · next h1 =>
        rw [if_pos h1] at hf
        obtain ⟨c, c1, c2, c3, c4⟩ := (skLo_ok bs zs A).2.2.2.2 hf
        rw [c3]; exact askC_lk c1 c2 (by omega) (by omega) (by simp [c4])
      · next h1 =>
        rw [if_neg h1] at hf
        obtain ⟨c, c1, c2, c3, c4⟩ := (skHi_ok bs zs A).2.2.2.2 hf
        rw [c3]; exact askC_lk c1 c2 (by omega) (by omega) (by simp [c4])

theorem may_a {zs : List Int} {k a o x : Int} (h : skMay zs k a o x = true) : 0 ≤ a ∧ a < 5 := by
  simp only [skMay, Bool.and_eq_true] at h
  have h := h.1.2
  simp [B1.opMay] at h
  obtain ⟨⟨⟨⟨_, _⟩, h1, h2⟩, _⟩, _⟩ := h
  refine ⟨h1, ?_⟩
  split at h2
  · omega
  · split at h2 <;> omega
theorem skN_no {bs : List Bool} {zs : List Int} {k a b x : Int} (hA : (!skMay zs k a b x) = false) (hB : (!(skN bs zs k a b x == -1)) = true) (hC : decide (skN bs zs k a b x ≥ 0) = false) : False := by
  have hm : skMay zs k a b x = true := by simpa using hA
  have hn : ¬ skN bs zs k a b x = -1 := by simpa using hB
  have hc : ¬ skN bs zs k a b x ≥ 0 := of_decide_eq_false hC
  exact hc (skN_ask (may_a hm) hn).1.1
end
end Go.Ideal.K6

namespace Go.Ideal.K6
section
open Go.Proofs Go.Ideal Go.Ideal.L1
set_option linter.unusedVariables false
set_option maxRecDepth 100000
set_option maxHeartbeats 8000000

/-- Two views are alike on what is known. -/
def Ag (bs : List Bool) (zs ws : List Int) : Prop := ∀ c, 0 ≤ c ∧ c < 16 → kn bs c = true → nw ws c = nw zs c
def Un (bs : List Bool) (zs ws : List Int) : Prop := ∀ c, 0 ≤ c ∧ c < 16 → kn bs c = false → nw ws c = nw zs c
theorem upz_len {zs : List Int} (h : zs.length = 32) (c x : Int) : (upz zs c x).length = 32 := by
  match zs, h with
  | [z0, z1, z2, z3, z4, z5, z6, z7, z8, z9, z10, z11, z12, z13, z14, z15, z16, z17, z18, z19, z20, z21, z22, z23, z24, z25, z26, z27, z28, z29, z30, z31], _ => rfl
theorem nw_up {zs : List Int} (h : zs.length = 32) (c x j : Int) (hj : 0 ≤ j ∧ j < 16) : nw (upz zs c x) j = if c = j then x else nw zs j := by
  match zs, h with
  | [z0, z1, z2, z3, z4, z5, z6, z7, z8, z9, z10, z11, z12, z13, z14, z15, z16, z17, z18, z19, z20, z21, z22, z23, z24, z25, z26, z27, z28, z29, z30, z31], _ => exact nw_upz _ _ _ _ _ _ _ _ _ _ _ _ _ _ _ _ _ _ _ _ _ _ _ _ _ _ _ _ _ _ _ _ c x j hj
theorem Ag.up {bs : List Bool} {zs ws : List Int} (h1 : zs.length = 32) (h2 : ws.length = 32) (h : Ag bs zs ws) (c x : Int) : Ag bs (upz zs c x) (upz ws c x) := fun j hj hk => by
  rw [nw_up h1 c x j hj, nw_up h2 c x j hj, h j hj hk]
theorem Un.up {bs : List Bool} {zs ws : List Int} (h2 : ws.length = 32) (h : Un bs zs ws) (c x : Int) (hc : kn bs c = true) : Un bs zs (upz ws c x) := fun j hj hk => by
  rw [nw_up h2 c x j hj, if_neg (fun e => by subst e; simp [hc] at hk), h j hj hk]
theorem bfG_ag {bs : List Bool} {zs ws : List Int} (h : Ag bs zs ws) (key lv : Int) (hl : 0 ≤ lv ∧ lv < 2) : ∀ (n : Nat) (fr : Int), -1 ≤ fr → fr < 5 → bfG bs ws key lv n fr = bfG bs zs key lv n fr
  | 0, fr, _, _ => rfl
  | n + 1, fr, h1, h2 => by
    by_cases hk : kn bs (lk fr lv) = true
    · have e := h _ (lk_in h1 h2 hl.1 hl.2) hk
      show (if kn bs (lk fr lv) = true then (if nxV fr (nw ws (lk fr lv)) ≠ -1 ∧ nxV fr (nw ws (lk fr lv)) < key then bfG bs ws key lv n (nxV fr (nw ws (lk fr lv))) else (-1, fr)) else (lk fr lv, fr)) = (if kn bs (lk fr lv) = true then (if nxV fr (nw zs (lk fr lv)) ≠ -1 ∧ nxV fr (nw zs (lk fr lv)) < key then bfG bs zs key lv n (nxV fr (nw zs (lk fr lv))) else (-1, fr)) else (lk fr lv, fr))
      rw [e, if_pos hk, if_pos hk]
      have hx := nxV_ok fr (nw zs (lk fr lv))
      rw [bfG_ag h key lv hl n _ (by omega) (by omega)]
    · show (if kn bs (lk fr lv) = true then (if nxV fr (nw ws (lk fr lv)) ≠ -1 ∧ nxV fr (nw ws (lk fr lv)) < key then bfG bs ws key lv n (nxV fr (nw ws (lk fr lv))) else (-1, fr)) else (lk fr lv, fr)) = (if kn bs (lk fr lv) = true then (if nxV fr (nw zs (lk fr lv)) ≠ -1 ∧ nxV fr (nw zs (lk fr lv)) < key then bfG bs zs key lv n (nxV fr (nw zs (lk fr lv))) else (-1, fr)) else (lk fr lv, fr))
      rw [if_neg hk, if_neg hk]
theorem btG_ag {bs : List Bool} {zs ws : List Int} (h : Ag bs zs ws) (B : Int) : ∀ (n : Nat) (x out : Int), -1 ≤ x → x < 5 → btG bs ws B n x out = btG bs zs B n x out
  | 0, x, out, _, _ => rfl
  | n + 1, x, out, h1, h2 => by
    unfold btG
    split
    · by_cases hk : kn bs (lk x 0) = true
      · rw [if_pos hk, if_pos hk, h _ (lk_in h1 h2 (by omega) (by omega)) hk]
        have hx := nxV_ok x (nw zs (lk x 0))
        exact btG_ag h B n _ _ (by omega) (by omega)
      · rw [if_neg hk, if_neg hk]
    · rfl
theorem hi_ag {bs : List Bool} {zs ws : List Int} (h : Ag bs zs ws) (A : Int) : skHi bs ws A = skHi bs zs A := bfG_ag h A 1 (by omega) 6 (-1) (by omega) (by omega)
theorem lo_ag {bs : List Bool} {zs ws : List Int} (h : Ag bs zs ws) (A : Int) : skLo bs ws A = skLo bs zs A := by
  unfold skLo; rw [hi_ag h]; exact bfG_ag h A 0 (by omega) 6 _ (skHi_ok bs zs A).1 (skHi_ok bs zs A).2.1
theorem at_ag {bs : List Bool} {zs ws : List Int} (h : Ag bs zs ws) (A : Int) (hl : (skLo bs zs A).1 = -1) : skAt bs ws A = skAt bs zs A := by
  have g := skLo_ok bs zs A
  unfold skAt; rw [lo_ag h, h _ (lk_in g.1 g.2.1 (by omega) (by omega)) (g.2.2.2.1 hl).1]
theorem f_ag {bs : List Bool} {zs ws : List Int} (h : Ag bs zs ws) (A : Int) : skF bs ws A = skF bs zs A := by unfold skF; rw [hi_ag h, lo_ag h]
theorem skF_1 {bs : List Bool} {zs : List Int} {A : Int} (h : skF bs zs A = -1) : (skHi bs zs A).1 = -1 ∧ (skLo bs zs A).1 = -1 := by
  unfold skF at h; split at h
  · next h1 => exact ⟨h1, h⟩
  · next h1 => exact absurd h h1
theorem nw_del {zs : List Int} (h : zs.length = 32) (A b hi : Int) (hA : 0 ≤ A ∧ A < 5) (hb : -1 ≤ b ∧ b < 5) (hh : -1 ≤ hi ∧ hi < 5) : nw (delZ zs A b 0) (lk hi 1) = nw zs (lk hi 1) := by
  unfold delZ
  rw [nw_up (upz_len h _ _) _ _ _ (lk_in hh.1 hh.2 (by omega) (by omega)), if_neg (by unfold lk; omega), nw_up h _ _ _ (lk_in hh.1 hh.2 (by omega) (by omega)), if_neg (by unfold lk; omega)]
theorem ins_ag {bs : List Bool} {zs ws vs : List Int} (h1 : zs.length = 32) (h2 : ws.length = 32) (h : Ag bs zs ws) (hu : Un bs vs zs) (A b lv : Int) (hb : -1 ≤ b ∧ b < 5) (hl : 0 ≤ lv ∧ lv < 2) (k1 : kn bs (lk b lv) = true) (k2 : kn bs (lk A lv) = true) :
    (insZ zs A b lv).length = 32 ∧ (insZ ws A b lv).length = 32 ∧ Ag bs (insZ zs A b lv) (insZ ws A b lv) ∧ Un bs vs (insZ zs A b lv) := by
  unfold insZ
  have e := h _ (lk_in hb.1 hb.2 hl.1 hl.2) k1
  rw [e]
  exact ⟨upz_len (upz_len h1 _ _) _ _, upz_len (upz_len h2 _ _) _ _, Ag.up (upz_len h1 _ _) (upz_len h2 _ _) (Ag.up h1 h2 h _ _) _ _, Un.up (upz_len h1 _ _) (Un.up h1 hu _ _ k2) _ _ k1⟩
theorem del_ag {bs : List Bool} {zs ws vs : List Int} (h1 : zs.length = 32) (h2 : ws.length = 32) (h : Ag bs zs ws) (hu : Un bs vs zs) (A b lv : Int) (hA : 0 ≤ A ∧ A < 5) (hl : 0 ≤ lv ∧ lv < 2) (k1 : kn bs (lk b lv) = true) (k2 : kn bs (lk A lv) = true) :
    (delZ zs A b lv).length = 32 ∧ (delZ ws A b lv).length = 32 ∧ Ag bs (delZ zs A b lv) (delZ ws A b lv) ∧ Un bs vs (delZ zs A b lv) := by
  unfold delZ
  have e := h _ (lk_in (by omega) hA.2 hl.1 hl.2) k2
  rw [e]
  exact ⟨upz_len (upz_len h1 _ _) _ _, upz_len (upz_len h2 _ _) _ _, Ag.up (upz_len h1 _ _) (upz_len h2 _ _) (Ag.up h1 h2 h _ _) _ _, Un.up (upz_len h1 _ _) (Un.up h1 hu _ _ k1) _ _ k2⟩
theorem up_ag {bs : List Bool} {zs ws : List Int} (h1 : zs.length = 32) (h2 : ws.length = 32) (h : Ag bs zs ws) (A : Int) (hA : 0 ≤ A ∧ A < 5) (hf : skF bs zs A = -1) : skUp bs ws A ↔ skUp bs zs A := by
  obtain ⟨f1, f2⟩ := skF_1 hf
  have g1 := skHi_ok bs zs A; have g2 := skLo_ok bs zs A
  unfold skUp
  rw [hi_ag h, lo_ag h, nw_del h1 A _ _ hA ⟨g2.1, g2.2.1⟩ ⟨g1.1, g1.2.1⟩, nw_del h2 A _ _ hA ⟨g2.1, g2.2.1⟩ ⟨g1.1, g1.2.1⟩, h _ (lk_in g1.1 g1.2.1 (by omega) (by omega)) (g1.2.2.2.1 f1).1]
/-- What needs nothing hangs on what is known alone. -/
theorem skN_ag {bs : List Bool} {zs ws : List Int} {k A B x : Int} (h1 : zs.length = 32) (h2 : ws.length = 32) (hA : 0 ≤ A ∧ A < 5) (h : Ag bs zs ws) (hn : skN bs zs k A B x = -1) :
    skN bs ws k A B x = -1 ∧ skCode bs ws k A = skCode bs zs k A ∧ skNum bs ws k A B = skNum bs zs k A B := by
  by_cases h9 : k = 9
  · subst h9
    have hk : kn bs (lk (-1) 0) = true := by
      unfold skN at hn; rw [if_pos rfl] at hn
      split at hn
      · next h => exact h
      · exact absurd hn (by decide)
    have e := h _ (lk_in (key := -1) (lv := 0) (by omega) (by omega) (by omega) (by omega)) hk
    refine ⟨?_, ?_, ?_⟩
    · unfold skN; rw [if_pos rfl, if_pos hk]
    · unfold skCode; rw [if_pos rfl, if_pos rfl, e]
    · unfold skNum; rw [if_pos rfl, if_pos rfl, e]
  · have hf : skF bs zs A = -1 := by
      unfold skN at hn; rw [if_neg h9] at hn
      split at hn
      · next h => exact h
      · exact hn
    obtain ⟨f1, f2⟩ := skF_1 hf
    have ea := at_ag h A f2
    have eb := btG_ag h B 6 (skAt bs zs A) 0 (skAt_in bs zs A).1 (skAt_in bs zs A).2
    have eu := up_ag h1 h2 h A hA hf
    refine ⟨?_, ?_, ?_⟩
    · rw [← hn]; unfold skN; rw [f_ag h, ea, eb]; simp only [eu]
    · unfold skCode; rw [if_neg h9, if_neg h9, ea]
    · unfold skNum; rw [if_neg h9, if_neg h9, ea, eb]
theorem skZ_ag {bs : List Bool} {zs ws : List Int} {k A B x : Int} (h1 : zs.length = 32) (h2 : ws.length = 32) (hA : 0 ≤ A ∧ A < 5) (h : Ag bs zs ws) (hn : skN bs zs k A B x = -1) :
    Ag bs (skZ bs zs k A x) (skZ bs ws k A x) ∧ Un bs zs (skZ bs zs k A x) := by
  have hu : Un bs zs zs := fun _ _ _ => rfl
  by_cases h6 : k = 6
  · subst h6
    obtain ⟨f1, f2, f3⟩ := skN6 hA.1 hn
    have hf : skF bs zs A = -1 := by unfold skF; rw [if_pos f1]; exact f2
    have ea := at_ag h A f2
    have g1 := skHi_ok bs zs A; have g2 := skLo_ok bs zs A
    unfold skZ
    rw [ea, lo_ag h, hi_ag h]
    by_cases hc : (6 : Int) = 6 ∧ skAt bs zs A ≠ A
    · rw [if_pos hc, if_pos hc]
      obtain ⟨m1, m2⟩ := f3.resolve_left hc.2
      obtain ⟨a1, a2, a3, a4⟩ := ins_ag h1 h2 h hu A _ 0 ⟨g2.1, g2.2.1⟩ (by omega) (g2.2.2.2.1 f2).1 m1
      by_cases hx : x = 1
      · rw [if_pos hx, if_pos hx]
        obtain ⟨b1, b2, b3, b4⟩ := ins_ag a1 a2 a3 a4 A _ 1 ⟨g1.1, g1.2.1⟩ (by omega) (g1.2.2.2.1 f1).1 (m2 hx)
        exact ⟨b3, b4⟩
      · rw [if_neg hx, if_neg hx]; exact ⟨a3, a4⟩
    · have n7 : ¬ ((6 : Int) = 7 ∧ skAt bs zs A = A) := by omega
      rw [if_neg hc, if_neg hc, if_neg n7, if_neg n7]; exact ⟨h, hu⟩
  · by_cases h7 : k = 7
    · subst h7
      obtain ⟨f1, f2, f3⟩ := skN7 hA.1 hn
      have hf : skF bs zs A = -1 := by unfold skF; rw [if_pos f1]; exact f2
      have ea := at_ag h A f2
      have eu := up_ag h1 h2 h A hA hf
      have g1 := skHi_ok bs zs A; have g2 := skLo_ok bs zs A
      unfold skZ
      have n6 : ¬ ((7 : Int) = 6 ∧ skAt bs zs A ≠ A) := by omega
      rw [ea, lo_ag h, hi_ag h, if_neg n6, if_neg n6]
      by_cases hc : (7 : Int) = 7 ∧ skAt bs zs A = A
      · rw [if_pos hc, if_pos hc]
        obtain ⟨m1, m2⟩ := f3.resolve_left (fun e => e hc.2)
        obtain ⟨a1, a2, a3, a4⟩ := del_ag h1 h2 h hu A _ 0 hA (by omega) (g2.2.2.2.1 f2).1 m1
        by_cases hx : skUp bs zs A
        · rw [if_pos hx, if_pos (eu.mpr hx)]
          obtain ⟨b1, b2, b3, b4⟩ := del_ag a1 a2 a3 a4 A _ 1 hA (by omega) (g1.2.2.2.1 f1).1 (m2 hx)
          exact ⟨b3, b4⟩
        · rw [if_neg hx, if_neg (fun e => hx (eu.mp e))]; exact ⟨a3, a4⟩
      · rw [if_neg hc, if_neg hc]; exact ⟨h, hu⟩
    · unfold skZ
      simp only [h6, h7, false_and, if_false]
      exact ⟨h, hu⟩
end
end Go.Ideal.K6

namespace Go.Ideal.Y1
section
open Go.Proofs Go.Ideal Go.Ideal.L1 Go.Ideal.B1 Go.Ideal.K6
set_option linter.unusedSimpArgs false
set_option linter.unusedVariables false
set_option maxRecDepth 100000
set_option maxHeartbeats 8000000

theorem all16 {P : Nat → Prop} (h0 : P 0) (h1 : P 1) (h2 : P 2) (h3 : P 3) (h4 : P 4) (h5 : P 5) (h6 : P 6) (h7 : P 7) (h8 : P 8) (h9 : P 9) (h10 : P 10) (h11 : P 11) (h12 : P 12) (h13 : P 13) (h14 : P 14) (h15 : P 15) (j : Nat) (hj : j < 16) : P j :=
  match j, hj with
  | 0, _ => h0
  | 1, _ => h1
  | 2, _ => h2
  | 3, _ => h3
  | 4, _ => h4
  | 5, _ => h5
  | 6, _ => h6
  | 7, _ => h7
  | 8, _ => h8
  | 9, _ => h9
  | 10, _ => h10
  | 11, _ => h11
  | 12, _ => h12
  | 13, _ => h13
  | 14, _ => h14
  | 15, _ => h15
  | j + 16, h => absurd h (by omega)
def pqL (p q : Nat → Int) : List Int := [p 0, p 1, p 2, p 3, p 4, p 5, p 6, p 7, p 8, p 9, p 10, p 11, p 12, p 13, p 14, p 15, q 0, q 1, q 2, q 3, q 4, q 5, q 6, q 7, q 8, q 9, q 10, q 11, q 12, q 13, q 14, q 15]
def trL : List Bool := [true, true, true, true, true, true, true, true, true, true, true, true, true, true, true, true]
theorem pq_may (p q : Nat → Int) : allMay (pqL p q) = true ↔ ∀ j, j < 16 → valMay (p j) = true ∧ valMay (q j) = true := by
  unfold pqL
  constructor
  · intro h j hj
    simp only [allMay, Bool.and_eq_true] at h
    obtain ⟨p0, p1, p2, p3, p4, p5, p6, p7, p8, p9, p10, p11, p12, p13, p14, p15, q0, q1, q2, q3, q4, q5, q6, q7, q8, q9, q10, q11, q12, q13, q14, q15, _⟩ := h
    exact all16 (P := fun j => valMay (p j) = true ∧ valMay (q j) = true) ⟨p0, q0⟩ ⟨p1, q1⟩ ⟨p2, q2⟩ ⟨p3, q3⟩ ⟨p4, q4⟩ ⟨p5, q5⟩ ⟨p6, q6⟩ ⟨p7, q7⟩ ⟨p8, q8⟩ ⟨p9, q9⟩ ⟨p10, q10⟩ ⟨p11, q11⟩ ⟨p12, q12⟩ ⟨p13, q13⟩ ⟨p14, q14⟩ ⟨p15, q15⟩ j hj
  · intro h
    have a := fun j hj => (h j hj).1
    have b := fun j hj => (h j hj).2
    simp only [allMay, Bool.and_eq_true]
    exact ⟨a 0 (by decide), a 1 (by decide), a 2 (by decide), a 3 (by decide), a 4 (by decide), a 5 (by decide), a 6 (by decide), a 7 (by decide), a 8 (by decide), a 9 (by decide), a 10 (by decide), a 11 (by decide), a 12 (by decide), a 13 (by decide), a 14 (by decide), a 15 (by decide), b 0 (by decide), b 1 (by decide), b 2 (by decide), b 3 (by decide), b 4 (by decide), b 5 (by decide), b 6 (by decide), b 7 (by decide), b 8 (by decide), b 9 (by decide), b 10 (by decide), b 11 (by decide), b 12 (by decide), b 13 (by decide), b 14 (by decide), b 15 (by decide), trivial⟩
theorem kn_tr (j : Nat) (hj : j < 16) : kn trL (j : Int) = true := all16 (P := fun j => kn trL (j : Int) = true) rfl rfl rfl rfl rfl rfl rfl rfl rfl rfl rfl rfl rfl rfl rfl rfl j hj
theorem skN_full {zs : List Int} {k A B x : Int} (hA : 0 ≤ A ∧ A < 5) : skN trL zs k A B x = -1 := by
  refine Classical.byContradiction fun h => ?_
  obtain ⟨h1, h2⟩ := skN_ask hA h
  obtain ⟨j, ej⟩ : ∃ j : Nat, skN trL zs k A B x = (j : Int) := ⟨(skN trL zs k A B x).toNat, by omega⟩
  rw [ej] at h1 h2
  rw [kn_tr j (by omega)] at h2
  cases h2
theorem bkD_full (k a b : Int) : bkD trL k a b = -1 := by simp [bkD, trL, bkNeed, sel]
/-- Behind an operation of keys. -/
def okZ (zs : List Int) : Prop := zs.length = 32 ∧ ∀ c, 0 ≤ c ∧ c < 16 → valMay (nw zs c) = true
theorem okZ_up {zs : List Int} (h : okZ zs) (c x : Int) (hx : valMay x = true) : okZ (upz zs c x) := by
  obtain ⟨hl, h⟩ := h
  match zs, hl with
  | [z0, z1, z2, z3, z4, z5, z6, z7, z8, z9, z10, z11, z12, z13, z14, z15, z16, z17, z18, z19, z20, z21, z22, z23, z24, z25, z26, z27, z28, z29, z30, z31], _ =>
    refine ⟨rfl, fun j hj => ?_⟩
    rw [nw_upz _ _ _ _ _ _ _ _ _ _ _ _ _ _ _ _ _ _ _ _ _ _ _ _ _ _ _ _ _ _ _ _ c x j hj]
    split
    · exact hx
    · exact h j hj
theorem lk_16 {key lv : Int} (h1 : -1 ≤ key) (h2 : key < 5) (h3 : 0 ≤ lv) (h4 : lv < 2) : 0 ≤ lk key lv ∧ lk key lv < 16 := by unfold lk; omega
theorem okZ_ins {zs : List Int} (h : okZ zs) {A b lv : Int} (hA : 0 ≤ A ∧ A < 5) (hb : -1 ≤ b ∧ b < 5) (hl : 0 ≤ lv ∧ lv < 2) : okZ (insZ zs A b lv) :=
  okZ_up (okZ_up h _ _ (h.2 _ (lk_16 hb.1 hb.2 hl.1 hl.2))) _ _ (by simp [valMay]; omega)
theorem okZ_del {zs : List Int} (h : okZ zs) {A b lv : Int} (hA : 0 ≤ A ∧ A < 5) (hl : 0 ≤ lv ∧ lv < 2) : okZ (delZ zs A b lv) :=
  okZ_up (okZ_up h _ _ (h.2 _ (lk_16 (by omega) hA.2 hl.1 hl.2))) _ _ (by simp [valMay])
theorem okZ_sk {bs : List Bool} {zs : List Int} (h : okZ zs) (k A x : Int) (hA : 0 ≤ A ∧ A < 5) : okZ (skZ bs zs k A x) := by
  have g1 := skHi_ok bs zs A; have g2 := skLo_ok bs zs A
  unfold skZ
  split
  · split
    · exact okZ_ins (okZ_ins h hA ⟨g2.1, g2.2.1⟩ (by omega)) hA ⟨g1.1, g1.2.1⟩ (by omega)
    · exact okZ_ins h hA ⟨g2.1, g2.2.1⟩ (by omega)
  · split
    · split
      · exact okZ_del (okZ_del h hA (by omega)) hA (by omega)
      · exact okZ_del h hA (by omega)
    · exact h
theorem okZ_pq {p q : Nat → Int} (h : allMay (pqL p q) = true) : okZ (pqL p q) := by
  have h' := (pq_may p q).mp h
  refine ⟨rfl, fun c hc => ?_⟩
  obtain ⟨j, rfl⟩ : ∃ j : Nat, c = (j : Int) := ⟨c.toNat, by omega⟩
  have e : nw (pqL p q) (j : Int) = q j := all16 (P := fun j => nw (pqL p q) (j : Int) = q j) rfl rfl rfl rfl rfl rfl rfl rfl rfl rfl rfl rfl rfl rfl rfl rfl j (by omega)
  rw [e]; exact (h' j (by omega)).2
theorem sk_may {p q : Nat → Int} (h : allMay (pqL p q) = true) (k A x : Int) (hA : 0 ≤ A ∧ A < 5) : allMay (pqL p (fun j => skC trL (pqL p q) k A x j)) = true := by
  have h' := (pq_may p q).mp h
  refine (pq_may _ _).mpr fun j hj => ⟨(h' j hj).1, ?_⟩
  exact (okZ_sk (okZ_pq h) k A x hA).2 j ⟨by omega, by omega⟩
/-- Behind an operation of accounts. -/
theorem sel_b {m0 m1 m2 m3 : Int} (h0 : 0 ≤ m0 ∧ m0 < 1099511627776) (h1 : 0 ≤ m1 ∧ m1 < 1099511627776) (h2 : 0 ≤ m2 ∧ m2 < 1099511627776) (h3 : 0 ≤ m3 ∧ m3 < 1099511627776) (i : Int) : 0 ≤ sel m0 m1 m2 m3 i ∧ sel m0 m1 m2 m3 i < 1099511627776 := by
  unfold sel; (repeat' split) <;> omega
theorem code_0 {m0 m1 m2 m3 k a b x : Int} (h : bkCode m0 m1 m2 m3 k a b x = 0) : (k = 2 → sel m0 m1 m2 m3 a - 1 + x ≤ 1048575) ∧ (k = 3 → x ≤ sel m0 m1 m2 m3 a - 1) ∧ (k = 4 → x ≤ sel m0 m1 m2 m3 a - 1 ∧ (a = b ∨ sel m0 m1 m2 m3 b - 1 + x ≤ 1048575)) := by
  unfold bkCode at h
  generalize sel m0 m1 m2 m3 a = X at *
  generalize sel m0 m1 m2 m3 b = Y at *
  dsimp only at h
  refine ⟨fun e => ?_, fun e => ?_, fun e => ?_⟩ <;> subst e <;> simp at h
  · (repeat' split at h) <;> omega
  · (repeat' split at h) <;> omega
  · (repeat' split at h) <;> omega
theorem now_may {m0 m1 m2 m3 k a b x : Int} (h0 : 0 ≤ m0 ∧ m0 < 1099511627776) (h1 : 0 ≤ m1 ∧ m1 < 1099511627776) (h2 : 0 ≤ m2 ∧ m2 < 1099511627776) (h3 : 0 ≤ m3 ∧ m3 < 1099511627776) (hx : 0 ≤ x ∧ x < 1048576) (i : Int) : valMay (bkNow m0 m1 m2 m3 k a b x i) = true := by
  have sa := sel_b h0 h1 h2 h3 a
  have sb := sel_b h0 h1 h2 h3 b
  have si := sel_b h0 h1 h2 h3 i
  have ea : i = a → sel m0 m1 m2 m3 i = sel m0 m1 m2 m3 a := fun e => by rw [e]
  have eb : i = b → sel m0 m1 m2 m3 i = sel m0 m1 m2 m3 b := fun e => by rw [e]
  have hc := fun h => code_0 (m0 := m0) (m1 := m1) (m2 := m2) (m3 := m3) (k := k) (a := a) (b := b) (x := x) h
  simp only [valMay, Bool.and_eq_true, decide_eq_true_eq]
  unfold bkNow
  generalize bkCode m0 m1 m2 m3 k a b x = C at *
  generalize sel m0 m1 m2 m3 a = X at *
  generalize sel m0 m1 m2 m3 b = Y at *
  generalize sel m0 m1 m2 m3 i = W at *
  dsimp only
  by_cases h : C = 0
  · have hc := hc h
    rw [if_pos h]
    (repeat' split) <;> omega
  · rw [if_neg h]; exact si
def bkQ (q : Nat → Int) (k a b x : Int) (j : Nat) : Int := if j < 4 then bkNow (q 0) (q 1) (q 2) (q 3) k a b x j else q j
theorem bk_may {p q : Nat → Int} (h : allMay (pqL p q) = true) (k a b x : Int) (hx : 0 ≤ x ∧ x < 1048576) : allMay (pqL p (bkQ q k a b x)) = true := by
  have h' := (pq_may p q).mp h
  have v := fun j hj => by have := (h' j hj).2; simp only [valMay, Bool.and_eq_true, decide_eq_true_eq] at this; exact this
  refine (pq_may _ _).mpr fun j hj => ⟨(h' j hj).1, ?_⟩
  unfold bkQ
  split
  · exact now_may (v 0 (by decide)) (v 1 (by decide)) (v 2 (by decide)) (v 3 (by decide)) hx _
  · exact (h' j hj).2
theorem ops_of {g : Nat → Int} {m : Nat} (h : opsB g m = true) : (m = 1 ∧ opMay (g 0) (g 1) (g 2) (g 3) = true) ∨ (m = 2 ∧ opMay (g 0) (g 1) (g 2) (g 3) = true ∧ opMay (g 4) (g 5) (g 6) (g 7) = true) := by
  unfold opsB at h
  split at h
  · next e => exact Or.inl ⟨e, h⟩
  · split at h
    · next e => simp only [Bool.and_eq_true] at h; exact Or.inr ⟨e, h.1, h.2⟩
    · cases h
theorem may_k {k a b x : Int} (h : opMay k a b x = true) : 0 ≤ k ∧ (6 ≤ k → 0 ≤ a ∧ a < 5) := by
  simp [opMay] at h
  obtain ⟨⟨⟨⟨g1, _⟩, g3, g4⟩, _⟩, _⟩ := h
  refine ⟨g1, fun hk => ⟨g3, ?_⟩⟩
  split at g4
  · omega
  · split at g4 <;> omega
end
end Go.Ideal.Y1

namespace Go.Ideal.K6
section
open Go.Proofs Go.Ideal Go.Ideal.L1
set_option linter.unusedVariables false
set_option maxRecDepth 100000
set_option maxHeartbeats 8000000

/-- All is known. -/
def Fl (cs : List Bool) : Prop := ∀ c, 0 ≤ c ∧ c < 16 → kn cs c = true
theorem bfG_mn {bs cs : List Bool} (hf : Fl cs) (zs : List Int) (key lv : Int) (hl : 0 ≤ lv ∧ lv < 2) : ∀ (n : Nat) (fr : Int), -1 ≤ fr → fr < 5 → (bfG bs zs key lv n fr).1 = -1 → bfG cs zs key lv n fr = bfG bs zs key lv n fr
  | 0, fr, _, _, _ => rfl
  | n + 1, fr, h1, h2, h => by
    have hc := hf _ (lk_in h1 h2 hl.1 hl.2)
    by_cases hk : kn bs (lk fr lv) = true
    · unfold bfG at h ⊢
      rw [if_pos hk] at h
      rw [if_pos hk, if_pos hc]
      by_cases hx : nxV fr (nw zs (lk fr lv)) ≠ -1 ∧ nxV fr (nw zs (lk fr lv)) < key
      · rw [if_pos hx] at h
        rw [if_pos hx, if_pos hx]
        have g := nxV_ok fr (nw zs (lk fr lv))
        exact bfG_mn hf zs key lv hl n _ (by omega) (by omega) h
      · rw [if_neg hx, if_neg hx]
    · unfold bfG at h
      rw [if_neg hk] at h
      have : lk fr lv = -1 := h
      have := lk_in h1 h2 hl.1 hl.2
      omega
theorem btG_mn {bs cs : List Bool} (hf : Fl cs) (zs : List Int) (B : Int) : ∀ (n : Nat) (x out : Int), -1 ≤ x → x < 5 → (btG bs zs B n x out).1 = -1 → btG cs zs B n x out = btG bs zs B n x out
  | 0, x, out, _, _, _ => rfl
  | n + 1, x, out, h1, h2, h => by
    have hc := hf _ (lk_in (key := x) (lv := 0) h1 h2 (by omega) (by omega))
    unfold btG at h ⊢
    by_cases hx : x ≠ -1 ∧ x ≤ B
    · rw [if_pos hx] at h
      rw [if_pos hx, if_pos hx, if_pos hc]
      by_cases hk : kn bs (lk x 0) = true
      · rw [if_pos hk] at h
        rw [if_pos hk]
        have g := nxV_ok x (nw zs (lk x 0))
        exact btG_mn hf zs B n _ _ (by omega) (by omega) h
      · rw [if_neg hk] at h
        have : lk x 0 = -1 := h
        have := lk_in (key := x) (lv := 0) h1 h2 (by omega) (by omega)
        omega
    · rw [if_neg hx, if_neg hx]
theorem hi_mn {bs cs : List Bool} (hf : Fl cs) {zs : List Int} {A : Int} (h : (skHi bs zs A).1 = -1) : skHi cs zs A = skHi bs zs A := bfG_mn hf zs A 1 (by omega) 6 (-1) (by omega) (by omega) h
theorem lo_mn {bs cs : List Bool} (hf : Fl cs) {zs : List Int} {A : Int} (h : (skHi bs zs A).1 = -1) (h' : (skLo bs zs A).1 = -1) : skLo cs zs A = skLo bs zs A := by
  unfold skLo at h' ⊢; rw [hi_mn hf h]; exact bfG_mn hf zs A 0 (by omega) 6 _ (skHi_ok bs zs A).1 (skHi_ok bs zs A).2.1 h'
/-- What needs nothing. -/
theorem sk_mn {bs cs : List Bool} (hf : Fl cs) {zs : List Int} {k A B x : Int} (hA : 0 ≤ A ∧ A < 5) (hn : skN bs zs k A B x = -1) :
    skCode cs zs k A = skCode bs zs k A ∧ skNum cs zs k A B = skNum bs zs k A B ∧ skZ cs zs k A x = skZ bs zs k A x := by
  by_cases h9 : k = 9
  · subst h9
    refine ⟨?_, ?_, ?_⟩
    · unfold skCode; rw [if_pos rfl, if_pos rfl]
    · unfold skNum; rw [if_pos rfl, if_pos rfl]
    · unfold skZ; simp only [show ¬ ((9 : Int) = 6) by omega, show ¬ ((9 : Int) = 7) by omega, false_and, if_false]
  · have h0 : skF bs zs A = -1 := by
      unfold skN at hn; rw [if_neg h9] at hn
      split at hn
      · next h => exact h
      · exact hn
    obtain ⟨f1, f2⟩ := skF_1 h0
    have eh := hi_mn hf f1
    have el := lo_mn hf f1 f2
    have ea : skAt cs zs A = skAt bs zs A := by unfold skAt; rw [el]
    have eu : skUp cs zs A ↔ skUp bs zs A := by unfold skUp; rw [el, eh]
    refine ⟨?_, ?_, ?_⟩
    · unfold skCode; rw [ea]
    · unfold skNum; rw [ea]
      by_cases h10 : k = 10
      · subst h10
        have hb : (btG bs zs B 6 (skAt bs zs A) 0).1 = -1 := by
          unfold skN at hn; rw [if_neg h9, if_pos h0, if_pos rfl] at hn; exact hn
        rw [btG_mn hf zs B 6 _ 0 (skAt_in bs zs A).1 (skAt_in bs zs A).2 hb]
      · simp only [if_neg h10]
    · unfold skZ; simp only [ea, eh, el, eu]
end
end Go.Ideal.K6

namespace Go.Ideal.B1
section
open Go.Proofs Go.Ideal Go.Ideal.L1 Go.Ideal.K6
set_option linter.unusedVariables false
set_option maxRecDepth 100000
set_option maxHeartbeats 8000000

theorem bkD_ask {b0 b1 b2 b3 b4 b5 b6 b7 b8 b9 b10 b11 b12 b13 b14 b15 : Bool} {k a b x : Int} (ho : opMay k a b x = true) (hk : k ≤ 5) (hn : bkD [b0, b1, b2, b3, b4, b5, b6, b7, b8, b9, b10, b11, b12, b13, b14, b15] k a b ≠ -1) :
    (0 ≤ bkD [b0, b1, b2, b3, b4, b5, b6, b7, b8, b9, b10, b11, b12, b13, b14, b15] k a b ∧ bkD [b0, b1, b2, b3, b4, b5, b6, b7, b8, b9, b10, b11, b12, b13, b14, b15] k a b < 4) ∧ sel b0 b1 b2 b3 (bkD [b0, b1, b2, b3, b4, b5, b6, b7, b8, b9, b10, b11, b12, b13, b14, b15] k a b) = false := by
  have h : 0 ≤ k ∧ (0 ≤ a ∧ a < 4) ∧ (0 ≤ b ∧ b < 4) := by
    simp [opMay] at ho
    rcases (by omega : k = 0 ∨ k = 1 ∨ k = 2 ∨ k = 3 ∨ k = 4 ∨ k = 5) with rfl | rfl | rfl | rfl | rfl | rfl <;> simp at ho <;> omega
  revert hn
  show bkNeed b0 b1 b2 b3 k a b ≠ -1 → (0 ≤ bkNeed b0 b1 b2 b3 k a b ∧ bkNeed b0 b1 b2 b3 k a b < 4) ∧ sel b0 b1 b2 b3 (bkNeed b0 b1 b2 b3 k a b) = false
  unfold bkNeed
  by_cases h5 : k = 5
  · rw [if_pos h5]
    cases b0 <;> cases b1 <;> cases b2 <;> cases b3 <;> simp [sel]
  · rw [if_neg h5]
    by_cases ha : sel b0 b1 b2 b3 a = true
    · rw [if_pos ha]
      by_cases h4 : k = 4
      · rw [if_pos h4]
        by_cases hb : sel b0 b1 b2 b3 b = true
        · rw [if_pos hb]; intro h; exact absurd rfl h
        · rw [if_neg hb]; intro _; exact ⟨h.2.2, by simpa using hb⟩
      · rw [if_neg h4]; intro h; exact absurd rfl h
    · rw [if_neg ha]; intro _; exact ⟨h.2.1, by simpa using ha⟩
/-- A cell that isn't known stays. -/
theorem bkNow_un {b0 b1 b2 b3 b4 b5 b6 b7 b8 b9 b10 b11 b12 b13 b14 b15 : Bool} {m0 m1 m2 m3 k a b x i : Int} (hn : bkD [b0, b1, b2, b3, b4, b5, b6, b7, b8, b9, b10, b11, b12, b13, b14, b15] k a b = -1) (h0 : 0 ≤ a ∧ 0 ≤ b) (hi : sel b0 b1 b2 b3 i = false) : bkNow m0 m1 m2 m3 k a b x i = sel m0 m1 m2 m3 i := by
  have hn : bkNeed b0 b1 b2 b3 k a b = -1 := hn
  have hd : k = 5 ∨ (sel b0 b1 b2 b3 a = true ∧ (k = 4 → sel b0 b1 b2 b3 b = true)) := by
    unfold bkNeed at hn
    by_cases h5 : k = 5
    · exact .inl h5
    · rw [if_neg h5] at hn
      by_cases ha : sel b0 b1 b2 b3 a = true
      · refine .inr ⟨ha, fun h4 => ?_⟩
        rw [if_pos ha, if_pos h4] at hn
        by_cases hb : sel b0 b1 b2 b3 b = true
        · exact hb
        · rw [if_neg hb] at hn; omega
      · rw [if_neg ha] at hn; omega
  unfold bkNow
  dsimp only
  split
  · rcases hd with rfl | ⟨ha, hb⟩
    · simp
    · have na : i ≠ a := fun e => by subst e; rw [hi] at ha; cases ha
      by_cases h4 : k = 4
      · have nb : i ≠ b := fun e => by subst e; rw [hi] at hb; cases hb h4
        simp [h4, na, nb]
      · simp [h4, na]
  · rfl
end
end Go.Ideal.B1

namespace Go.Ideal.Bd
section
open Go.Proofs Go.Ideal Go.Ideal.L1 Go.Ideal.K6
set_option linter.unusedSimpArgs false
set_option linter.unusedVariables false
set_option maxRecDepth 100000
set_option maxHeartbeats 8000000

def fL (bs : List Bool) (j : Nat) : Bool := bs.getD j false
def zL (zs : List Int) (j : Nat) : Int := zs.getD j 0
theorem bl_fL {bs : List Bool} (h : bs.length = 16) : bl (fL bs) = bs := match bs, h with
  | [b0, b1, b2, b3, b4, b5, b6, b7, b8, b9, b10, b11, b12, b13, b14, b15], _ => rfl
theorem zl_zL {zs : List Int} (h : zs.length = 32) : zl (zL zs) = zs := match zs, h with
  | [z0, z1, z2, z3, z4, z5, z6, z7, z8, z9, z10, z11, z12, z13, z14, z15, z16, z17, z18, z19, z20, z21, z22, z23, z24, z25, z26, z27, z28, z29, z30, z31], _ => rfl
/-- The first operation: the cell that must be known, the code, the number, the cells behind it. -/
def n1 (b : Nat → Bool) (z g : Nat → Int) : Int := if g 0 ≤ 5 then B1.bkD (bl b) (g 0) (g 1) (g 2) else skN (bl b) (zl z) (g 0) (g 1) (g 2) (g 3)
def c1 (b : Nat → Bool) (z g : Nat → Int) : Int := if g 0 ≤ 5 then B1.bkCode (z 16) (z 17) (z 18) (z 19) (g 0) (g 1) (g 2) (g 3) else skCode (bl b) (zl z) (g 0) (g 1)
def m1 (b : Nat → Bool) (z g : Nat → Int) : Int := if g 0 ≤ 5 then B1.bkNum (z 16) (z 17) (z 18) (z 19) (g 0) (g 1) (g 2) (g 3) else skNum (bl b) (zl z) (g 0) (g 1) (g 2)
def z1 (b : Nat → Bool) (z g : Nat → Int) (j : Nat) : Int := if g 0 ≤ 5 then zb z (g 0) (g 1) (g 2) (g 3) j else zk b z (g 0) (g 1) (g 3) j
/-- The second one. -/
def sh4 (g : Nat → Int) (j : Nat) : Int := g (j + 4)
def n2 (b : Nat → Bool) (z g : Nat → Int) : Int := n1 b (z1 b z g) (sh4 g)
def c2 (b : Nat → Bool) (z g : Nat → Int) : Int := c1 b (z1 b z g) (sh4 g)
def m2 (b : Nat → Bool) (z g : Nat → Int) : Int := m1 b (z1 b z g) (sh4 g)
def z2 (b : Nat → Bool) (z g : Nat → Int) : Nat → Int := z1 b (z1 b z g) (sh4 g)

theorem bkMay_mk {zs : List Int} {k a b x : Int} (hv : B1.allMay zs = true) (ho : B1.opMay k a b x = true) (hk : k ≤ 5) : B1.bkMay zs k a b x = true := by
  simp only [B1.bkMay, hv, ho, Bool.true_and, decide_eq_true_eq]; omega
theorem skMay_mk {zs : List Int} {k a b x : Int} (hv : B1.allMay zs = true) (ho : B1.opMay k a b x = true) (hk : ¬ k ≤ 5) : skMay zs k a b x = true := by
  simp only [skMay, hv, ho, Bool.true_and, decide_eq_true_eq]; omega
theorem may_k {k a b x : Int} (h : B1.opMay k a b x = true) : 0 ≤ k ∧ (¬ k ≤ 5 → 0 ≤ a ∧ a < 5) := by
  obtain ⟨h1, h2⟩ := Y1.may_k h
  exact ⟨h1, fun h => h2 (by omega)⟩
theorem z1_may {b : Nat → Bool} {z g : Nat → Int} (hv : B1.allMay (zl z) = true) (ho : B1.opMay (g 0) (g 1) (g 2) (g 3) = true) : B1.allMay (zl (z1 b z g)) = true := by
  have hv' : B1.allMay (Y1.pqL z (fun j => z (j + 16))) = true := hv
  by_cases hk : g 0 ≤ 5
  · have e : z1 b z g = zb z (g 0) (g 1) (g 2) (g 3) := by funext j; exact if_pos hk
    rw [e]
    exact Y1.bk_may hv' (g 0) (g 1) (g 2) (g 3) (B1.hx_of ho)
  · have e : z1 b z g = zk b z (g 0) (g 1) (g 3) := by funext j; exact if_neg hk
    rw [e]
    have hA := (may_k ho).2 hk
    have hz := (Y1.pq_may _ _).mp hv'
    exact (Y1.pq_may z (fun j => skC (bl b) (zl z) (g 0) (g 1) (g 3) j)).mpr fun j hj => ⟨(hz j hj).1, (Y1.okZ_sk (Y1.okZ_pq hv') (g 0) (g 1) (g 3) hA).2 j ⟨by omega, by omega⟩⟩
theorem n1_ask {b : Nat → Bool} {z g : Nat → Int} (ho : B1.opMay (g 0) (g 1) (g 2) (g 3) = true) (h : n1 b z g ≠ -1) : 0 ≤ n1 b z g := by
  unfold n1 at h ⊢
  by_cases hk : g 0 ≤ 5
  · rw [if_pos hk] at h ⊢
    exact (B1.bkD_ask ho hk h).1.1
  · rw [if_neg hk] at h ⊢
    exact (skN_ask ((may_k ho).2 hk) h).1.1
def Run (g : Nat → Int) (N m c : Nat) (b : Nat → Bool) (z : Nat → Int) (v : V) (bs : List (Option Blk)) (n2 : Nat) : Prop :=
  ∃ hh, vcOf (runCall Try.prog dosB noL 6000 22 [.agg (viewOf (bl b) (zl z)), .slice 0 (.c 0) (.s m) 4 (.s c)] (Hm [some (.ext g (.s N))] 1) hh) (fun v' H1 => retP 1 (0 :: lastBlk v') v' H1 v bs n2)
theorem run_n1 (g : Nat → Int) (N m c : Nat) (b : Nat → Bool) (z : Nat → Int) (hm9 : m < 9223372036854775808) (hN : m * 4 ≤ N) (hm : m = 1 ∨ m = 2) (ho : B1.opsB g m = true) (hv : B1.allMay (zl z) = true) (o0 : B1.opMay (g 0) (g 1) (g 2) (g 3) = true) (hd : n1 b z g ≠ -1) : Run g N m c b z (askN (n1 b z g) b z) [none] 1 := by
  have k0 := (may_k o0).1
  by_cases hk : g 0 ≤ 5
  · have e1 : n1 b z g = B1.bkD (bl b) (g 0) (g 1) (g 2) := if_pos hk
    have e2 : c1 b z g = B1.bkCode (z 16) (z 17) (z 18) (z 19) (g 0) (g 1) (g 2) (g 3) := if_pos hk
    have e3 : m1 b z g = B1.bkNum (z 16) (z 17) (z 18) (z 19) (g 0) (g 1) (g 2) (g 3) := if_pos hk
    have e4 : z1 b z g = zb z (g 0) (g 1) (g 2) (g 3) := by funext j; exact if_pos hk
    have h9 := n1_ask o0 hd
    rw [e1] at hd h9 ⊢
    exact bd1bn g N m c b z hm9 hN hm ho hv o0 o0 ⟨k0, hk⟩ (bkMay_mk hv o0 hk) hd h9
  · have e1 : n1 b z g = skN (bl b) (zl z) (g 0) (g 1) (g 2) (g 3) := if_neg hk
    have e2 : c1 b z g = skCode (bl b) (zl z) (g 0) (g 1) := if_neg hk
    have e3 : m1 b z g = skNum (bl b) (zl z) (g 0) (g 1) (g 2) := if_neg hk
    have e4 : z1 b z g = zk b z (g 0) (g 1) (g 3) := by funext j; exact if_neg hk
    have h9 := n1_ask o0 hd
    rw [e1] at hd h9 ⊢
    exact bd1sn g N m c b z hm9 hN hm ho hv o0 o0 (by omega) (skMay_mk hv o0 hk) hd h9
theorem run_r1 (g : Nat → Int) (N m c : Nat) (b : Nat → Bool) (z : Nat → Int) (hm9 : m < 9223372036854775808) (hN : m * 4 ≤ N) (hm : m = 1 ∨ m = 2) (ho : B1.opsB g m = true) (hv : B1.allMay (zl z) = true) (o0 : B1.opMay (g 0) (g 1) (g 2) (g 3) = true) (hd : n1 b z g = -1) (hc : c1 b z g ≠ 0) : Run g N m c b z (askD 1 b z) (ans1 (c1 b z g) (m1 b z g)) 2 := by
  have k0 := (may_k o0).1
  by_cases hk : g 0 ≤ 5
  · have e1 : n1 b z g = B1.bkD (bl b) (g 0) (g 1) (g 2) := if_pos hk
    have e2 : c1 b z g = B1.bkCode (z 16) (z 17) (z 18) (z 19) (g 0) (g 1) (g 2) (g 3) := if_pos hk
    have e3 : m1 b z g = B1.bkNum (z 16) (z 17) (z 18) (z 19) (g 0) (g 1) (g 2) (g 3) := if_pos hk
    have e4 : z1 b z g = zb z (g 0) (g 1) (g 2) (g 3) := by funext j; exact if_pos hk
    rw [e1] at hd
    rw [e2] at hc
    rw [e2, e3]
    exact bd1br g N m c b z hm9 hN hm ho hv o0 o0 ⟨k0, hk⟩ (bkMay_mk hv o0 hk) hd hc
  · have e1 : n1 b z g = skN (bl b) (zl z) (g 0) (g 1) (g 2) (g 3) := if_neg hk
    have e2 : c1 b z g = skCode (bl b) (zl z) (g 0) (g 1) := if_neg hk
    have e3 : m1 b z g = skNum (bl b) (zl z) (g 0) (g 1) (g 2) := if_neg hk
    have e4 : z1 b z g = zk b z (g 0) (g 1) (g 3) := by funext j; exact if_neg hk
    rw [e1] at hd
    rw [e2] at hc
    rw [e2, e3]
    exact bd1sr g N m c b z hm9 hN hm ho hv o0 o0 (by omega) (skMay_mk hv o0 hk) hd hc
theorem run_d1 (g : Nat → Int) (N m c : Nat) (b : Nat → Bool) (z : Nat → Int) (hm9 : m < 9223372036854775808) (hN : m * 4 ≤ N) (hm : m = 1) (ho : B1.opsB g m = true) (hv : B1.allMay (zl z) = true) (o0 : B1.opMay (g 0) (g 1) (g 2) (g 3) = true) (hd : n1 b z g = -1) (hc : c1 b z g = 0) : Run g N m c b z (askD 1 b (z1 b z g)) (ans1 (c1 b z g) (m1 b z g)) 2 := by
  have k0 := (may_k o0).1
  by_cases hk : g 0 ≤ 5
  · have e1 : n1 b z g = B1.bkD (bl b) (g 0) (g 1) (g 2) := if_pos hk
    have e2 : c1 b z g = B1.bkCode (z 16) (z 17) (z 18) (z 19) (g 0) (g 1) (g 2) (g 3) := if_pos hk
    have e3 : m1 b z g = B1.bkNum (z 16) (z 17) (z 18) (z 19) (g 0) (g 1) (g 2) (g 3) := if_pos hk
    have e4 : z1 b z g = zb z (g 0) (g 1) (g 2) (g 3) := by funext j; exact if_pos hk
    rw [e1] at hd
    rw [e2] at hc
    rw [e2, e3, e4]
    exact bd1bd g N m c b z hm9 hN hm ho hv o0 o0 ⟨k0, hk⟩ (bkMay_mk hv o0 hk) hd hc
  · have e1 : n1 b z g = skN (bl b) (zl z) (g 0) (g 1) (g 2) (g 3) := if_neg hk
    have e2 : c1 b z g = skCode (bl b) (zl z) (g 0) (g 1) := if_neg hk
    have e3 : m1 b z g = skNum (bl b) (zl z) (g 0) (g 1) (g 2) := if_neg hk
    have e4 : z1 b z g = zk b z (g 0) (g 1) (g 3) := by funext j; exact if_neg hk
    rw [e1] at hd
    rw [e2] at hc
    rw [e2, e3, e4]
    exact bd1sd g N m c b z hm9 hN hm ho hv o0 o0 (by omega) (skMay_mk hv o0 hk) hd hc
theorem run_n2 (g : Nat → Int) (N m c : Nat) (b : Nat → Bool) (z : Nat → Int) (hm9 : m < 9223372036854775808) (hN : m * 4 ≤ N) (hm : m = 2) (ho : B1.opsB g m = true) (hv : B1.allMay (zl z) = true) (o0 : B1.opMay (g 0) (g 1) (g 2) (g 3) = true) (o1 : B1.opMay (g 4) (g 5) (g 6) (g 7) = true) (hd : n1 b z g = -1) (hc : c1 b z g = 0) (hd2 : n2 b z g ≠ -1) : Run g N m c b z (askN (n2 b z g) b z) [none] 1 := by
  have k0 := (may_k o0).1
  have l0 := (may_k o1).1
  have hv1 := z1_may (b := b) hv o0
  have h9 : 0 ≤ n2 b z g := n1_ask (g := sh4 g) o1 hd2
  unfold n2 at *
  by_cases hk : g 0 ≤ 5
  · have e1 : n1 b z g = B1.bkD (bl b) (g 0) (g 1) (g 2) := if_pos hk
    have e2 : c1 b z g = B1.bkCode (z 16) (z 17) (z 18) (z 19) (g 0) (g 1) (g 2) (g 3) := if_pos hk
    have e3 : m1 b z g = B1.bkNum (z 16) (z 17) (z 18) (z 19) (g 0) (g 1) (g 2) (g 3) := if_pos hk
    have e4 : z1 b z g = (zb z (g 0) (g 1) (g 2) (g 3)) := by funext j; exact if_pos hk
    rw [e1] at hd
    rw [e2] at hc
    rw [e4] at hv1 hd2 h9
    rw [e4]
    by_cases hl : g 4 ≤ 5
    · have d1 : n1 b (zb z (g 0) (g 1) (g 2) (g 3)) (sh4 g) = B1.bkD (bl b) (g 4) (g 5) (g 6) := if_pos hl
      have d2 : c1 b (zb z (g 0) (g 1) (g 2) (g 3)) (sh4 g) = B1.bkCode ((zb z (g 0) (g 1) (g 2) (g 3)) 16) ((zb z (g 0) (g 1) (g 2) (g 3)) 17) ((zb z (g 0) (g 1) (g 2) (g 3)) 18) ((zb z (g 0) (g 1) (g 2) (g 3)) 19) (g 4) (g 5) (g 6) (g 7) := if_pos hl
      have d3 : m1 b (zb z (g 0) (g 1) (g 2) (g 3)) (sh4 g) = B1.bkNum ((zb z (g 0) (g 1) (g 2) (g 3)) 16) ((zb z (g 0) (g 1) (g 2) (g 3)) 17) ((zb z (g 0) (g 1) (g 2) (g 3)) 18) ((zb z (g 0) (g 1) (g 2) (g 3)) 19) (g 4) (g 5) (g 6) (g 7) := if_pos hl
      have d4 : z1 b (zb z (g 0) (g 1) (g 2) (g 3)) (sh4 g) = zb (zb z (g 0) (g 1) (g 2) (g 3)) (g 4) (g 5) (g 6) (g 7) := by funext j; exact if_pos hl
      rw [d1] at hd2 h9 ⊢
      exact bd2bbn g N m c b z hm9 hN hm ho hv o0 o0 ⟨k0, hk⟩ (bkMay_mk hv o0 hk) hd hc hv1 o1 o1 ⟨l0, hl⟩ (bkMay_mk hv1 o1 hl) hd2 h9
    · have d1 : n1 b (zb z (g 0) (g 1) (g 2) (g 3)) (sh4 g) = skN (bl b) (zl (zb z (g 0) (g 1) (g 2) (g 3))) (g 4) (g 5) (g 6) (g 7) := if_neg hl
      have d2 : c1 b (zb z (g 0) (g 1) (g 2) (g 3)) (sh4 g) = skCode (bl b) (zl (zb z (g 0) (g 1) (g 2) (g 3))) (g 4) (g 5) := if_neg hl
      have d3 : m1 b (zb z (g 0) (g 1) (g 2) (g 3)) (sh4 g) = skNum (bl b) (zl (zb z (g 0) (g 1) (g 2) (g 3))) (g 4) (g 5) (g 6) := if_neg hl
      have d4 : z1 b (zb z (g 0) (g 1) (g 2) (g 3)) (sh4 g) = zk b (zb z (g 0) (g 1) (g 2) (g 3)) (g 4) (g 5) (g 7) := by funext j; exact if_neg hl
      rw [d1] at hd2 h9 ⊢
      exact bd2bsn g N m c b z hm9 hN hm ho hv o0 o0 ⟨k0, hk⟩ (bkMay_mk hv o0 hk) hd hc hv1 o1 o1 (by omega) (skMay_mk hv1 o1 hl) hd2 h9
  · have e1 : n1 b z g = skN (bl b) (zl z) (g 0) (g 1) (g 2) (g 3) := if_neg hk
    have e2 : c1 b z g = skCode (bl b) (zl z) (g 0) (g 1) := if_neg hk
    have e3 : m1 b z g = skNum (bl b) (zl z) (g 0) (g 1) (g 2) := if_neg hk
    have e4 : z1 b z g = (zk b z (g 0) (g 1) (g 3)) := by funext j; exact if_neg hk
    rw [e1] at hd
    rw [e2] at hc
    rw [e4] at hv1 hd2 h9
    rw [e4]
    by_cases hl : g 4 ≤ 5
    · have d1 : n1 b (zk b z (g 0) (g 1) (g 3)) (sh4 g) = B1.bkD (bl b) (g 4) (g 5) (g 6) := if_pos hl
      have d2 : c1 b (zk b z (g 0) (g 1) (g 3)) (sh4 g) = B1.bkCode ((zk b z (g 0) (g 1) (g 3)) 16) ((zk b z (g 0) (g 1) (g 3)) 17) ((zk b z (g 0) (g 1) (g 3)) 18) ((zk b z (g 0) (g 1) (g 3)) 19) (g 4) (g 5) (g 6) (g 7) := if_pos hl
      have d3 : m1 b (zk b z (g 0) (g 1) (g 3)) (sh4 g) = B1.bkNum ((zk b z (g 0) (g 1) (g 3)) 16) ((zk b z (g 0) (g 1) (g 3)) 17) ((zk b z (g 0) (g 1) (g 3)) 18) ((zk b z (g 0) (g 1) (g 3)) 19) (g 4) (g 5) (g 6) (g 7) := if_pos hl
      have d4 : z1 b (zk b z (g 0) (g 1) (g 3)) (sh4 g) = zb (zk b z (g 0) (g 1) (g 3)) (g 4) (g 5) (g 6) (g 7) := by funext j; exact if_pos hl
      rw [d1] at hd2 h9 ⊢
      exact bd2sbn g N m c b z hm9 hN hm ho hv o0 o0 (by omega) (skMay_mk hv o0 hk) hd hc hv1 o1 o1 ⟨l0, hl⟩ (bkMay_mk hv1 o1 hl) hd2 h9
    · have d1 : n1 b (zk b z (g 0) (g 1) (g 3)) (sh4 g) = skN (bl b) (zl (zk b z (g 0) (g 1) (g 3))) (g 4) (g 5) (g 6) (g 7) := if_neg hl
      have d2 : c1 b (zk b z (g 0) (g 1) (g 3)) (sh4 g) = skCode (bl b) (zl (zk b z (g 0) (g 1) (g 3))) (g 4) (g 5) := if_neg hl
      have d3 : m1 b (zk b z (g 0) (g 1) (g 3)) (sh4 g) = skNum (bl b) (zl (zk b z (g 0) (g 1) (g 3))) (g 4) (g 5) (g 6) := if_neg hl
      have d4 : z1 b (zk b z (g 0) (g 1) (g 3)) (sh4 g) = zk b (zk b z (g 0) (g 1) (g 3)) (g 4) (g 5) (g 7) := by funext j; exact if_neg hl
      rw [d1] at hd2 h9 ⊢
      exact bd2ssn g N m c b z hm9 hN hm ho hv o0 o0 (by omega) (skMay_mk hv o0 hk) hd hc hv1 o1 o1 (by omega) (skMay_mk hv1 o1 hl) hd2 h9
theorem run_r2 (g : Nat → Int) (N m c : Nat) (b : Nat → Bool) (z : Nat → Int) (hm9 : m < 9223372036854775808) (hN : m * 4 ≤ N) (hm : m = 2) (ho : B1.opsB g m = true) (hv : B1.allMay (zl z) = true) (o0 : B1.opMay (g 0) (g 1) (g 2) (g 3) = true) (o1 : B1.opMay (g 4) (g 5) (g 6) (g 7) = true) (hd : n1 b z g = -1) (hc : c1 b z g = 0) (hd2 : n2 b z g = -1) (hc2 : c2 b z g ≠ 0) : Run g N m c b z (askD 2 b z) (ans2 (c1 b z g) (m1 b z g) (c2 b z g) (m2 b z g)) 2 := by
  have k0 := (may_k o0).1
  have l0 := (may_k o1).1
  have hv1 := z1_may (b := b) hv o0
  unfold c2 m2 at *; unfold n2 at hd2
  by_cases hk : g 0 ≤ 5
  · have e1 : n1 b z g = B1.bkD (bl b) (g 0) (g 1) (g 2) := if_pos hk
    have e2 : c1 b z g = B1.bkCode (z 16) (z 17) (z 18) (z 19) (g 0) (g 1) (g 2) (g 3) := if_pos hk
    have e3 : m1 b z g = B1.bkNum (z 16) (z 17) (z 18) (z 19) (g 0) (g 1) (g 2) (g 3) := if_pos hk
    have e4 : z1 b z g = (zb z (g 0) (g 1) (g 2) (g 3)) := by funext j; exact if_pos hk
    rw [e1] at hd
    rw [e2] at hc
    rw [e4] at hv1 hd2 hc2
    rw [e2, e3, e4]
    by_cases hl : g 4 ≤ 5
    · have d1 : n1 b (zb z (g 0) (g 1) (g 2) (g 3)) (sh4 g) = B1.bkD (bl b) (g 4) (g 5) (g 6) := if_pos hl
      have d2 : c1 b (zb z (g 0) (g 1) (g 2) (g 3)) (sh4 g) = B1.bkCode ((zb z (g 0) (g 1) (g 2) (g 3)) 16) ((zb z (g 0) (g 1) (g 2) (g 3)) 17) ((zb z (g 0) (g 1) (g 2) (g 3)) 18) ((zb z (g 0) (g 1) (g 2) (g 3)) 19) (g 4) (g 5) (g 6) (g 7) := if_pos hl
      have d3 : m1 b (zb z (g 0) (g 1) (g 2) (g 3)) (sh4 g) = B1.bkNum ((zb z (g 0) (g 1) (g 2) (g 3)) 16) ((zb z (g 0) (g 1) (g 2) (g 3)) 17) ((zb z (g 0) (g 1) (g 2) (g 3)) 18) ((zb z (g 0) (g 1) (g 2) (g 3)) 19) (g 4) (g 5) (g 6) (g 7) := if_pos hl
      have d4 : z1 b (zb z (g 0) (g 1) (g 2) (g 3)) (sh4 g) = zb (zb z (g 0) (g 1) (g 2) (g 3)) (g 4) (g 5) (g 6) (g 7) := by funext j; exact if_pos hl
      rw [d1] at hd2
      rw [d2] at hc2
      rw [d2, d3]
      exact bd2bbr g N m c b z hm9 hN hm ho hv o0 o0 ⟨k0, hk⟩ (bkMay_mk hv o0 hk) hd hc hv1 o1 o1 ⟨l0, hl⟩ (bkMay_mk hv1 o1 hl) hd2 hc2
    · have d1 : n1 b (zb z (g 0) (g 1) (g 2) (g 3)) (sh4 g) = skN (bl b) (zl (zb z (g 0) (g 1) (g 2) (g 3))) (g 4) (g 5) (g 6) (g 7) := if_neg hl
      have d2 : c1 b (zb z (g 0) (g 1) (g 2) (g 3)) (sh4 g) = skCode (bl b) (zl (zb z (g 0) (g 1) (g 2) (g 3))) (g 4) (g 5) := if_neg hl
      have d3 : m1 b (zb z (g 0) (g 1) (g 2) (g 3)) (sh4 g) = skNum (bl b) (zl (zb z (g 0) (g 1) (g 2) (g 3))) (g 4) (g 5) (g 6) := if_neg hl
      have d4 : z1 b (zb z (g 0) (g 1) (g 2) (g 3)) (sh4 g) = zk b (zb z (g 0) (g 1) (g 2) (g 3)) (g 4) (g 5) (g 7) := by funext j; exact if_neg hl
      rw [d1] at hd2
      rw [d2] at hc2
      rw [d2, d3]
      exact bd2bsr g N m c b z hm9 hN hm ho hv o0 o0 ⟨k0, hk⟩ (bkMay_mk hv o0 hk) hd hc hv1 o1 o1 (by omega) (skMay_mk hv1 o1 hl) hd2 hc2
  · have e1 : n1 b z g = skN (bl b) (zl z) (g 0) (g 1) (g 2) (g 3) := if_neg hk
    have e2 : c1 b z g = skCode (bl b) (zl z) (g 0) (g 1) := if_neg hk
    have e3 : m1 b z g = skNum (bl b) (zl z) (g 0) (g 1) (g 2) := if_neg hk
    have e4 : z1 b z g = (zk b z (g 0) (g 1) (g 3)) := by funext j; exact if_neg hk
    rw [e1] at hd
    rw [e2] at hc
    rw [e4] at hv1 hd2 hc2
    rw [e2, e3, e4]
    by_cases hl : g 4 ≤ 5
    · have d1 : n1 b (zk b z (g 0) (g 1) (g 3)) (sh4 g) = B1.bkD (bl b) (g 4) (g 5) (g 6) := if_pos hl
      have d2 : c1 b (zk b z (g 0) (g 1) (g 3)) (sh4 g) = B1.bkCode ((zk b z (g 0) (g 1) (g 3)) 16) ((zk b z (g 0) (g 1) (g 3)) 17) ((zk b z (g 0) (g 1) (g 3)) 18) ((zk b z (g 0) (g 1) (g 3)) 19) (g 4) (g 5) (g 6) (g 7) := if_pos hl
      have d3 : m1 b (zk b z (g 0) (g 1) (g 3)) (sh4 g) = B1.bkNum ((zk b z (g 0) (g 1) (g 3)) 16) ((zk b z (g 0) (g 1) (g 3)) 17) ((zk b z (g 0) (g 1) (g 3)) 18) ((zk b z (g 0) (g 1) (g 3)) 19) (g 4) (g 5) (g 6) (g 7) := if_pos hl
      have d4 : z1 b (zk b z (g 0) (g 1) (g 3)) (sh4 g) = zb (zk b z (g 0) (g 1) (g 3)) (g 4) (g 5) (g 6) (g 7) := by funext j; exact if_pos hl
      rw [d1] at hd2
      rw [d2] at hc2
      rw [d2, d3]
      exact bd2sbr g N m c b z hm9 hN hm ho hv o0 o0 (by omega) (skMay_mk hv o0 hk) hd hc hv1 o1 o1 ⟨l0, hl⟩ (bkMay_mk hv1 o1 hl) hd2 hc2
    · have d1 : n1 b (zk b z (g 0) (g 1) (g 3)) (sh4 g) = skN (bl b) (zl (zk b z (g 0) (g 1) (g 3))) (g 4) (g 5) (g 6) (g 7) := if_neg hl
      have d2 : c1 b (zk b z (g 0) (g 1) (g 3)) (sh4 g) = skCode (bl b) (zl (zk b z (g 0) (g 1) (g 3))) (g 4) (g 5) := if_neg hl
      have d3 : m1 b (zk b z (g 0) (g 1) (g 3)) (sh4 g) = skNum (bl b) (zl (zk b z (g 0) (g 1) (g 3))) (g 4) (g 5) (g 6) := if_neg hl
      have d4 : z1 b (zk b z (g 0) (g 1) (g 3)) (sh4 g) = zk b (zk b z (g 0) (g 1) (g 3)) (g 4) (g 5) (g 7) := by funext j; exact if_neg hl
      rw [d1] at hd2
      rw [d2] at hc2
      rw [d2, d3]
      exact bd2ssr g N m c b z hm9 hN hm ho hv o0 o0 (by omega) (skMay_mk hv o0 hk) hd hc hv1 o1 o1 (by omega) (skMay_mk hv1 o1 hl) hd2 hc2
theorem run_d2 (g : Nat → Int) (N m c : Nat) (b : Nat → Bool) (z : Nat → Int) (hm9 : m < 9223372036854775808) (hN : m * 4 ≤ N) (hm : m = 2) (ho : B1.opsB g m = true) (hv : B1.allMay (zl z) = true) (o0 : B1.opMay (g 0) (g 1) (g 2) (g 3) = true) (o1 : B1.opMay (g 4) (g 5) (g 6) (g 7) = true) (hd : n1 b z g = -1) (hc : c1 b z g = 0) (hd2 : n2 b z g = -1) (hc2 : c2 b z g = 0) : Run g N m c b z (askD 2 b (z2 b z g)) (ans2 (c1 b z g) (m1 b z g) (c2 b z g) (m2 b z g)) 2 := by
  have k0 := (may_k o0).1
  have l0 := (may_k o1).1
  have hv1 := z1_may (b := b) hv o0
  unfold c2 m2 at *; unfold n2 at hd2; unfold z2
  by_cases hk : g 0 ≤ 5
  · have e1 : n1 b z g = B1.bkD (bl b) (g 0) (g 1) (g 2) := if_pos hk
    have e2 : c1 b z g = B1.bkCode (z 16) (z 17) (z 18) (z 19) (g 0) (g 1) (g 2) (g 3) := if_pos hk
    have e3 : m1 b z g = B1.bkNum (z 16) (z 17) (z 18) (z 19) (g 0) (g 1) (g 2) (g 3) := if_pos hk
    have e4 : z1 b z g = (zb z (g 0) (g 1) (g 2) (g 3)) := by funext j; exact if_pos hk
    rw [e1] at hd
    rw [e2] at hc
    rw [e4] at hv1 hd2 hc2
    rw [e2, e3, e4]
    by_cases hl : g 4 ≤ 5
    · have d1 : n1 b (zb z (g 0) (g 1) (g 2) (g 3)) (sh4 g) = B1.bkD (bl b) (g 4) (g 5) (g 6) := if_pos hl
      have d2 : c1 b (zb z (g 0) (g 1) (g 2) (g 3)) (sh4 g) = B1.bkCode ((zb z (g 0) (g 1) (g 2) (g 3)) 16) ((zb z (g 0) (g 1) (g 2) (g 3)) 17) ((zb z (g 0) (g 1) (g 2) (g 3)) 18) ((zb z (g 0) (g 1) (g 2) (g 3)) 19) (g 4) (g 5) (g 6) (g 7) := if_pos hl
      have d3 : m1 b (zb z (g 0) (g 1) (g 2) (g 3)) (sh4 g) = B1.bkNum ((zb z (g 0) (g 1) (g 2) (g 3)) 16) ((zb z (g 0) (g 1) (g 2) (g 3)) 17) ((zb z (g 0) (g 1) (g 2) (g 3)) 18) ((zb z (g 0) (g 1) (g 2) (g 3)) 19) (g 4) (g 5) (g 6) (g 7) := if_pos hl
      have d4 : z1 b (zb z (g 0) (g 1) (g 2) (g 3)) (sh4 g) = zb (zb z (g 0) (g 1) (g 2) (g 3)) (g 4) (g 5) (g 6) (g 7) := by funext j; exact if_pos hl
      rw [d1] at hd2
      rw [d2] at hc2
      rw [d2, d3, d4]
      exact bd2bbd g N m c b z hm9 hN hm ho hv o0 o0 ⟨k0, hk⟩ (bkMay_mk hv o0 hk) hd hc hv1 o1 o1 ⟨l0, hl⟩ (bkMay_mk hv1 o1 hl) hd2 hc2
    · have d1 : n1 b (zb z (g 0) (g 1) (g 2) (g 3)) (sh4 g) = skN (bl b) (zl (zb z (g 0) (g 1) (g 2) (g 3))) (g 4) (g 5) (g 6) (g 7) := if_neg hl
      have d2 : c1 b (zb z (g 0) (g 1) (g 2) (g 3)) (sh4 g) = skCode (bl b) (zl (zb z (g 0) (g 1) (g 2) (g 3))) (g 4) (g 5) := if_neg hl
      have d3 : m1 b (zb z (g 0) (g 1) (g 2) (g 3)) (sh4 g) = skNum (bl b) (zl (zb z (g 0) (g 1) (g 2) (g 3))) (g 4) (g 5) (g 6) := if_neg hl
      have d4 : z1 b (zb z (g 0) (g 1) (g 2) (g 3)) (sh4 g) = zk b (zb z (g 0) (g 1) (g 2) (g 3)) (g 4) (g 5) (g 7) := by funext j; exact if_neg hl
      rw [d1] at hd2
      rw [d2] at hc2
      rw [d2, d3, d4]
      exact bd2bsd g N m c b z hm9 hN hm ho hv o0 o0 ⟨k0, hk⟩ (bkMay_mk hv o0 hk) hd hc hv1 o1 o1 (by omega) (skMay_mk hv1 o1 hl) hd2 hc2
  · have e1 : n1 b z g = skN (bl b) (zl z) (g 0) (g 1) (g 2) (g 3) := if_neg hk
    have e2 : c1 b z g = skCode (bl b) (zl z) (g 0) (g 1) := if_neg hk
    have e3 : m1 b z g = skNum (bl b) (zl z) (g 0) (g 1) (g 2) := if_neg hk
    have e4 : z1 b z g = (zk b z (g 0) (g 1) (g 3)) := by funext j; exact if_neg hk
    rw [e1] at hd
    rw [e2] at hc
    rw [e4] at hv1 hd2 hc2
    rw [e2, e3, e4]
    by_cases hl : g 4 ≤ 5
    · have d1 : n1 b (zk b z (g 0) (g 1) (g 3)) (sh4 g) = B1.bkD (bl b) (g 4) (g 5) (g 6) := if_pos hl
      have d2 : c1 b (zk b z (g 0) (g 1) (g 3)) (sh4 g) = B1.bkCode ((zk b z (g 0) (g 1) (g 3)) 16) ((zk b z (g 0) (g 1) (g 3)) 17) ((zk b z (g 0) (g 1) (g 3)) 18) ((zk b z (g 0) (g 1) (g 3)) 19) (g 4) (g 5) (g 6) (g 7) := if_pos hl
      have d3 : m1 b (zk b z (g 0) (g 1) (g 3)) (sh4 g) = B1.bkNum ((zk b z (g 0) (g 1) (g 3)) 16) ((zk b z (g 0) (g 1) (g 3)) 17) ((zk b z (g 0) (g 1) (g 3)) 18) ((zk b z (g 0) (g 1) (g 3)) 19) (g 4) (g 5) (g 6) (g 7) := if_pos hl
      have d4 : z1 b (zk b z (g 0) (g 1) (g 3)) (sh4 g) = zb (zk b z (g 0) (g 1) (g 3)) (g 4) (g 5) (g 6) (g 7) := by funext j; exact if_pos hl
      rw [d1] at hd2
      rw [d2] at hc2
      rw [d2, d3, d4]
      exact bd2sbd g N m c b z hm9 hN hm ho hv o0 o0 (by omega) (skMay_mk hv o0 hk) hd hc hv1 o1 o1 ⟨l0, hl⟩ (bkMay_mk hv1 o1 hl) hd2 hc2
    · have d1 : n1 b (zk b z (g 0) (g 1) (g 3)) (sh4 g) = skN (bl b) (zl (zk b z (g 0) (g 1) (g 3))) (g 4) (g 5) (g 6) (g 7) := if_neg hl
      have d2 : c1 b (zk b z (g 0) (g 1) (g 3)) (sh4 g) = skCode (bl b) (zl (zk b z (g 0) (g 1) (g 3))) (g 4) (g 5) := if_neg hl
      have d3 : m1 b (zk b z (g 0) (g 1) (g 3)) (sh4 g) = skNum (bl b) (zl (zk b z (g 0) (g 1) (g 3))) (g 4) (g 5) (g 6) := if_neg hl
      have d4 : z1 b (zk b z (g 0) (g 1) (g 3)) (sh4 g) = zk b (zk b z (g 0) (g 1) (g 3)) (g 4) (g 5) (g 7) := by funext j; exact if_neg hl
      rw [d1] at hd2
      rw [d2] at hc2
      rw [d2, d3, d4]
      exact bd2ssd g N m c b z hm9 hN hm ho hv o0 o0 (by omega) (skMay_mk hv o0 hk) hd hc hv1 o1 o1 (by omega) (skMay_mk hv1 o1 hl) hd2 hc2

def bdCt (w l n : Nat) (v : V) (bs : List (Option Blk)) (n2 : Nat) : Ct := ⟨[w], [], v, bs, n2, [l * 4 ≤ n ∧ l < 9223372036854775808]⟩
def askN' (n : Int) (bs : List Bool) (zs : List Int) : V := .tuple [.agg (.int .i64 (.s n) :: viewOf bs zs ++ [.nils]), .int .i64 (.c 0)]
def askD' (n : Nat) (bs : List Bool) (zs : List Int) : V := .tuple [.agg (.int .i64 (.c (-1)) :: viewOf bs zs ++ [.slice 1 (.c 0) (.c n) 2 (.c n)]), .int .i64 (.c 0)]
def bdMk (w : Nat) (bs : List Bool) (zs : List Int) (b : Nat → Bool) (z g : Nat → Int) (l n : Nat) : List (Bool × Ct) × Ct :=
  ([(!(B1.allMay zs && B1.opsB g l), bdCt w l n (badAsk 700) [none] 1), (!(n1 b z g == -1), bdCt w l n (askN' (n1 b z g) bs zs) [none] 1), (!(c1 b z g == 0), bdCt w l n (askD' 1 bs zs) (ans1 (c1 b z g) (m1 b z g)) 2),
    (decide (l = 1), bdCt w l n (askD' 1 bs (zl (z1 b z g))) (ans1 (c1 b z g) (m1 b z g)) 2), (!(n2 b z g == -1), bdCt w l n (askN' (n2 b z g) bs zs) [none] 1), (!(c2 b z g == 0), bdCt w l n (askD' 2 bs zs) (ans2 (c1 b z g) (m1 b z g) (c2 b z g) (m2 b z g)) 2)],
   bdCt w l n (askD' 2 bs (zl (z2 b z g))) (ans2 (c1 b z g) (m1 b z g) (c2 b z g) (m2 b z g)) 2)
def bdG : List V → Hp → Option (List (Bool × Ct) × Ct)
  | [.agg vs, .slice w (.c 0) (.s l) 4 c], H => if Nat.beq vs.length 48 then (match H.tr.get w with
    | some B => (match B.row with
      | some (f, n) => B1.boolsK (vs.take 16) fun bs => intsK (vs.drop 16) fun zs => if Nat.beq bs.length 16 && Nat.beq zs.length 32 then some (bdMk w bs zs (fL bs) (zL zs) f l n.val) else none
      | none => none)
    | none => none) else none
  | _, _ => none
def bodyS : Spec := spN 22 bdG
theorem wr_none (j : Nat) (b : Blk) (hj : ([none] : List (Option Blk))[j]? = some (some b)) : b.writable = true := by
  match j with
  | 0 => simp at hj
  | j + 1 => simp at hj
theorem wr_1 (x y : Int) (j : Nat) (b : Blk) (hj : (ans1 x y)[j]? = some (some b)) : b.writable = true := by
  match j with
  | 0 => simp [ans1] at hj
  | 1 => simp only [ans1, List.getElem?_cons_succ, List.getElem?_cons_zero, Option.some.injEq] at hj; subst hj; rfl
  | j + 2 => simp [ans1] at hj
theorem wr_2 (x y u v : Int) (j : Nat) (b : Blk) (hj : (ans2 x y u v)[j]? = some (some b)) : b.writable = true := by
  match j with
  | 0 => simp [ans2] at hj
  | 1 => simp only [ans2, List.getElem?_cons_succ, List.getElem?_cons_zero, Option.some.injEq] at hj; subst hj; rfl
  | j + 2 => simp [ans2] at hj
theorem bodyS_ok : SpecOk Try.prog bodyS := spN_ok fun xs H cl zz hc hb => by
  unfold bdG at hc
  split at hc
  · rename_i vs w l mc
    split at hc
    · rename_i hlen
      have hlen := Nat.eq_of_beq_eq_true hlen
      split at hc
      · rename_i B hB
        split at hc
        · rename_i g N hr
          simp only [intsK_eq, B1.boolsK_eq] at hc
          split at hc
          · rename_i hn
            simp only [Bool.and_eq_true] at hn
            have hn1 := Nat.eq_of_beq_eq_true hn.1
            have hn2 := Nat.eq_of_beq_eq_true hn.2
            have hvs : V.lePs (viewOf (B1.boolsOf (vs.take 16)) (intsOf (vs.drop 16))) vs := by
              have := lePs_append _ _ _ _ (B1.boolsOf_lePs (vs.take 16) (by rw [hn1, List.length_take]; omega)) (intsOf_lePs (vs.drop 16) (by rw [hn2, List.length_drop]; omega))
              rwa [List.take_append_drop] at this
            have eb := bl_fL hn1
            have ez := zl_zL hn2
            generalize fL (B1.boolsOf (vs.take 16)) = b at eb hc
            generalize zL (intsOf (vs.drop 16)) = z at ez hc
            rw [← eb, ← ez] at hvs hc
            simp only [Option.some.injEq] at hc
            have key : ∀ (v : V) (bs : List (Option Blk)) (n2 : Nat), 1 ≤ n2 → bs.length ≤ n2 → (∀ (j : Nat) (b : Blk), bs[j]? = some (some b) → b.writable = true) → (l < 9223372036854775808 → l * 4 ≤ N.val → Run g N.val l mc.val b z v bs n2) → GOk Try.prog 22 [.agg vs, .slice w (.c 0) (.s l) 4 mc] H (bdCt w l N.val v bs n2) := by
              intro v bs n2 h1 h2 h3 h4 hq
              obtain ⟨q1, q2⟩ := hq _ (List.mem_singleton.2 rfl)
              obtain ⟨hh, hv⟩ := h4 q2 q1
              refine ⟨[.agg (viewOf (bl b) (zl z)), .slice 0 (.c 0) (.s l) 4 (.s mc.val)], [some (.ext g (.s N.val))], ⟨by simp [bdCt, nodupB], by simp [bdCt]; exact hb _ _ hB, rfl, by simpa [bdCt] using Nat.ble_eq_true_of_le h1, by simpa [bdCt] using Nat.ble_eq_true_of_le h2, ?_, ?_, ?_, ?_, CallQ.keep (CallQ.run dosB_ok noL_ok mixed ⟨hh, vcOf_mono hv fun v H hv => ⟨_, hv⟩⟩)⟩⟩
              · intro j b hj
                match j with
                | 0 => simp only [List.getElem?_cons_zero, Option.some.injEq] at hj; subst hj; exact ⟨by simp [bdCt], B, hB, Blk.row_s hr⟩
                | j + 1 => simp at hj
              · intro j b _ hj
                match j with
                | 0 => simp only [List.getElem?_cons_zero, Option.some.injEq] at hj; subst hj; rfl
                | j + 1 => simp at hj
              · intro j b _ hj
                exact h3 j b hj
              · intro r ys hy
                have hpl0 : place [w] H.n 0 = w := rfl
                simp only [bdCt, V.renL, V.ren, hpl0]
                simp only [VRs, VR, Go.Ideal.N.val] at hy ⊢
                obtain ⟨y, zs, e, ⟨z', e1, g1⟩, g3⟩ := hy
                exact ⟨y, zs, e, ⟨z', e1, V.lePs_ok _ _ _ hvs g1⟩, g3⟩
            clear hvs
            obtain ⟨rfl, rfl⟩ : cl = _ ∧ zz = _ := by simpa [bdMk, Prod.ext_iff, eq_comm] using hc
            have ops : B1.opsB g l = true → B1.opMay (g 0) (g 1) (g 2) (g 3) = true ∧ (l = 1 ∨ l = 2) ∧ (l ≠ 1 → l = 2 ∧ B1.opMay (g 4) (g 5) (g 6) (g 7) = true) := fun h => by
              rcases Y1.ops_of h with ⟨h1, h2⟩ | ⟨h1, h2, h3⟩
              · exact ⟨h2, .inl h1, fun h => absurd h1 h⟩
              · exact ⟨h2, .inr h1, fun _ => ⟨h1, h3⟩⟩
            refine ⟨fun i1 => key _ _ _ (Nat.le_refl _) (Nat.le_refl _) wr_none fun q2 q1 => ?_, fun i1 => ?_⟩
            · obtain ⟨hh, hv⟩ := bdx g N.val l mc.val b z q2 q1 (by cases h9 : B1.allMay (zl z) <;> simp_all)
              exact ⟨hh, hv⟩
            · have hvo : B1.allMay (zl z) = true ∧ B1.opsB g l = true := by simpa using i1
              obtain ⟨hv, ho⟩ := hvo
              obtain ⟨o0, hl, h2⟩ := ops ho
              refine ⟨fun i2 => key _ _ _ (Nat.le_refl _) (Nat.le_refl _) wr_none fun q2 q1 => run_n1 g N.val l mc.val b z q2 q1 hl ho hv o0 (by simpa using i2), fun i2 => ?_⟩
              have hd : n1 b z g = -1 := by simpa using i2
              refine ⟨fun i3 => key _ _ _ (by decide) (Nat.le_refl _) (wr_1 _ _) fun q2 q1 => run_r1 g N.val l mc.val b z q2 q1 hl ho hv o0 hd (by simpa using i3), fun i3 => ?_⟩
              have hc : c1 b z g = 0 := by simpa using i3
              refine ⟨fun i4 => key _ _ _ (by decide) (Nat.le_refl _) (wr_1 _ _) fun q2 q1 => run_d1 g N.val l mc.val b z q2 q1 (of_decide_eq_true i4) ho hv o0 hd hc, fun i4 => ?_⟩
              obtain ⟨hm, o1⟩ := h2 (of_decide_eq_false i4)
              refine ⟨fun i5 => key _ _ _ (Nat.le_refl _) (Nat.le_refl _) wr_none fun q2 q1 => run_n2 g N.val l mc.val b z q2 q1 hm ho hv o0 o1 hd hc (by simpa using i5), fun i5 => ?_⟩
              have hd2 : n2 b z g = -1 := by simpa using i5
              exact ⟨fun i6 => key _ _ _ (by decide) (Nat.le_refl _) (wr_2 _ _ _ _) fun q2 q1 => run_r2 g N.val l mc.val b z q2 q1 hm ho hv o0 o1 hd hc hd2 (by simpa using i6),
                fun i6 => key _ _ _ (by decide) (Nat.le_refl _) (wr_2 _ _ _ _) fun q2 q1 => run_d2 g N.val l mc.val b z q2 q1 hm ho hv o0 o1 hd hc hd2 (by simpa using i6)⟩
          · simp at hc
        · simp at hc
      · simp at hc
    · simp at hc
  · simp at hc
end
end Go.Ideal.Bd
