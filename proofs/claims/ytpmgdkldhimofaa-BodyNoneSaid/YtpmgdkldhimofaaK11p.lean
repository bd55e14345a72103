/- Chapters 6, 7: what a walk asks for is a cell. Own text. -/
import Derived.Test.YtpmgdkldhimofaaKH
namespace Go.Ideal.K6
open Go.Proofs Go.Ideal Go.Ideal.L1
set_option linter.unusedVariables false
set_option maxRecDepth 100000
set_option maxHeartbeats 8000000

/-- A cell that a walk asks for. -/
def askC (bs : List Bool) (c : Int) : Prop := (0 ≤ c ∧ c < 16) ∧ kn bs c = false
theorem askC_lk {bs : List Bool} {key lv : Int} (h1 : -1 ≤ key) (h2 : key < 5) (h3 : 0 ≤ lv) (h4 : lv < 2) (hk : ¬ kn bs (lk key lv) = true) : askC bs (lk key lv) := ⟨by unfold lk; omega, by simpa using hk⟩
theorem lk_in {key lv : Int} (h1 : -1 ≤ key) (h2 : key < 5) (h3 : 0 ≤ lv) (h4 : lv < 2) : 0 ≤ lk key lv ∧ lk key lv < 16 := by unfold lk; omega
theorem btG_ask (bs : List Bool) (zs : List Int) (B : Int) : ∀ (n : Nat) (x out : Int), -1 ≤ x → x < 5 → (btG bs zs B n x out).1 = -1 ∨ askC bs (btG bs zs B n x out).1
  | 0, x, out, _, _ => Or.inl rfl
  | n + 1, x, out, h1, h2 => by
    unfold btG
    split
    · split
      · have h := nxV_ok x (nw zs (lk x 0))
        exact btG_ask bs zs B n _ _ (by omega) (by omega)
      · next hk => exact Or.inr (askC_lk h1 h2 (by omega) (by omega) hk)
    · exact Or.inl rfl
def okB (bs : List Bool) (lv : Int) (p : Int × Int) : Prop := -1 ≤ p.2 ∧ p.2 < 5 ∧ True ∧ (p.1 = -1 → kn bs (lk p.2 lv) = true ∧ True) ∧ (p.1 ≠ -1 → ∃ k, -1 ≤ k ∧ k < 5 ∧ p.1 = lk k lv ∧ kn bs (lk k lv) = false)
theorem okB_of (bs : List Bool) (zs : List Int) (key lv : Int) (hlv : 0 ≤ lv) (fr : Int) (h1 : -1 ≤ fr) (h2 : fr < 5) : okB bs lv (bfG bs zs key lv 6 fr) := by
  obtain ⟨g1, g2, _, g4, g5⟩ := bfG_ok bs zs key lv hlv 6 fr h1 h2 (by omega)
  exact ⟨g1, g2, trivial, fun h => ⟨(g4 h).1, trivial⟩, g5⟩
theorem skHi_ok (bs : List Bool) (zs : List Int) (A : Int) : okB bs 1 (skHi bs zs A) := okB_of bs zs A 1 (by omega) (-1) (by omega) (by omega)
theorem skLo_ok (bs : List Bool) (zs : List Int) (A : Int) : okB bs 0 (skLo bs zs A) := okB_of bs zs A 0 (by omega) (skHi bs zs A).2 (skHi_ok bs zs A).1 (skHi_ok bs zs A).2.1
theorem skAt_in (bs : List Bool) (zs : List Int) (A : Int) : -1 ≤ skAt bs zs A ∧ skAt bs zs A < 5 := by
  have h := nxV_ok (skLo bs zs A).2 (nw zs (lk (skLo bs zs A).2 0))
  have h1 := (skLo_ok bs zs A).1
  have h2 := (skLo_ok bs zs A).2.1
  unfold skAt; omega
/-- What is asked for was not known. -/
theorem skN_ask {bs : List Bool} {zs : List Int} {k A B x : Int} (hA : 0 ≤ A ∧ A < 5) (h : skN bs zs k A B x ≠ -1) : askC bs (skN bs zs k A B x) := by
  revert h
  unfold skN
  split
  · split
    · intro h; exact absurd rfl h
    · next hk => intro _; exact askC_lk (by omega) (by omega) (by omega) (by omega) hk
  · split
    · split
      · intro h; exact (btG_ask bs zs B 6 _ 0 (skAt_in bs zs A).1 (skAt_in bs zs A).2).resolve_left h
      · split
        · split
          · intro h; exact absurd rfl h
          · split
            · split
              · split
                · intro h; exact absurd rfl h
                · next hk => intro _; exact askC_lk (by omega) (by omega) (by omega) (by omega) hk
              · intro h; exact absurd rfl h
            · next hk => intro _; exact askC_lk (by omega) (by omega) (by omega) (by omega) hk
        · split
          · split
            · split
              · split
                · split
                  · intro h; exact absurd rfl h
                  · next hk => intro _; exact askC_lk (by omega) (by omega) (by omega) (by omega) hk
                · intro h; exact absurd rfl h
              · next hk => intro _; exact askC_lk (by omega) (by omega) (by omega) (by omega) hk
            · intro h; exact absurd rfl h
          · intro h; exact absurd rfl h
    · next hf =>
      intro _
      unfold skF at hf ⊢
      split
      · next h1 =>
        rw [if_pos h1] at hf
        obtain ⟨c, c1, c2, c3, c4⟩ := (skLo_ok bs zs A).2.2.2.2 hf
        rw [c3]; exact askC_lk c1 c2 (by omega) (by omega) (by simp [c4])
      · next h1 =>
        rw [if_neg h1] at hf
        obtain ⟨c, c1, c2, c3, c4⟩ := (skHi_ok bs zs A).2.2.2.2 hf
        rw [c3]; exact askC_lk c1 c2 (by omega) (by omega) (by simp [c4])

theorem may_a {zs : List Int} {k a o x : Int} (h : skMay zs k a o x = true) : 0 ≤ a ∧ a < 5 := by
  simp only [skMay, Bool.and_eq_true] at h
  have h := h.1.2
  simp [B1.opMay] at h
  obtain ⟨⟨⟨⟨_, _⟩, h1, h2⟩, _⟩, _⟩ := h
  refine ⟨h1, ?_⟩
  split at h2
  · omega
  · split at h2 <;> omega
theorem skN_no {bs : List Bool} {zs : List Int} {k a b x : Int} (hA : (!skMay zs k a b x) = false) (hB : (!(skN bs zs k a b x == -1)) = true) (hC : decide (skN bs zs k a b x ≥ 0) = false) : False := by
  have hm : skMay zs k a b x = true := by simpa using hA
  have hn : ¬ skN bs zs k a b x = -1 := by simpa using hB
  have hc : ¬ skN bs zs k a b x ≥ 0 := of_decide_eq_false hC
  exact hc (skN_ask (may_a hm) hn).1.1
end Go.Ideal.K6
