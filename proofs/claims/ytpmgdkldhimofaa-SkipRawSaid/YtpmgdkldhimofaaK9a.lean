/- Chapter 6: what is told over any links. Own text. -/
import Derived.Test.YtpmgdkldhimofaaKI
namespace Go.Ideal.K6
open Go.Proofs Go.Ideal Go.Ideal.L1
set_option linter.unusedSimpArgs false
set_option linter.unusedVariables false
set_option maxRecDepth 100000
set_option maxHeartbeats 8000000

theorem orB5 : ∀ (o : Fin 32) (x : Fin 5), 0 ≤ bits .or .i64 (o.val : Int) (shl .i64 1 (x.val : Int)) ∧ bits .or .i64 (o.val : Int) (shl .i64 1 (x.val : Int)) < 32 := by decide +kernel
theorem orB (o x : Int) (ho : 0 ≤ o ∧ o < 32) (hx : 0 ≤ x ∧ x < 5) : 0 ≤ bits .or .i64 o (shl .i64 1 x) ∧ bits .or .i64 o (shl .i64 1 x) < 32 := by
  have := orB5 ⟨o.toNat, by omega⟩ ⟨x.toNat, by omega⟩
  have e1 : ((o.toNat : Nat) : Int) = o := by omega
  have e2 : ((x.toNat : Nat) : Int) = x := by omega
  simp only [e1, e2] at this
  exact this
theorem btG_b (zs : List Int) (B : Int) : ∀ (n : Nat) (x out : Int), -1 ≤ x → x < 5 → 0 ≤ out → out < 32 → 0 ≤ (btG tT zs B n x out).2 ∧ (btG tT zs B n x out).2 < 32
  | 0, x, out, _, _, h3, h4 => ⟨h3, h4⟩
  | n + 1, x, out, h1, h2, h3, h4 => by
    show 0 ≤ (if x ≠ -1 ∧ x ≤ B then (if kn tT (lk x 0) = true then btG tT zs B n (nxV x (nw zs (lk x 0))) (bits .or .i64 out (shl .i64 1 x)) else (lk x 0, bits .or .i64 out (shl .i64 1 x))) else (-1, out)).2 ∧ (if x ≠ -1 ∧ x ≤ B then (if kn tT (lk x 0) = true then btG tT zs B n (nxV x (nw zs (lk x 0))) (bits .or .i64 out (shl .i64 1 x)) else (lk x 0, bits .or .i64 out (shl .i64 1 x))) else (-1, out)).2 < 32
    by_cases hc : x ≠ -1 ∧ x ≤ B
    · rw [if_pos hc, if_pos (kn_tT _ (by unfold lk; omega))]
      have hx := nxV_ok x (nw zs (lk x 0))
      have ho := orB out x ⟨h3, h4⟩ (by omega)
      exact btG_b zs B n _ _ (by omega) (by omega) ho.1 ho.2
    · rw [if_neg hc]; exact ⟨h3, h4⟩
theorem skAt_b (bs : List Bool) (zs : List Int) (A : Int) : -1 ≤ skAt bs zs A ∧ skAt bs zs A < 5 := by
  obtain ⟨p1, p2, _⟩ := bfG_ok bs zs A 1 (by omega) 6 (-1) (by omega) (by omega) (by omega)
  obtain ⟨q1, q2, _⟩ := bfG_ok bs zs A 0 (by omega) 6 (skHi bs zs A).2 p1 p2 (by have : -1 ≤ (skHi bs zs A).2 := p1; show 5 - (skHi bs zs A).2 ≤ ((6 : Nat) : Int); omega)
  have h := nxV_ok (skLo bs zs A).2 (nw zs (lk (skLo bs zs A).2 0))
  have : -1 ≤ (skLo bs zs A).2 := q1
  unfold skAt; omega
theorem skNum_b (zs : List Int) (k A B : Int) (hA : 0 ≤ A ∧ A < 5) : 0 ≤ skNum tT zs k A B ∧ skNum tT zs k A B < 32 := by
  have h1 := nxV_ok (-1) (nw zs (lk (-1) 0))
  have h2 := skAt_b tT zs A
  have h3 := btG_b zs B 6 (skAt tT zs A) 0 h2.1 h2.2 (by omega) (by omega)
  unfold skNum
  (repeat' split) <;> omega
theorem len_upz (zs : List Int) (c x : Int) (h : zs.length = 32) : (upz zs c x).length = 32 := by
  match zs, h with
  | [z0, z1, z2, z3, z4, z5, z6, z7, z8, z9, z10, z11, z12, z13, z14, z15, z16, z17, z18, z19, z20, z21, z22, z23, z24, z25, z26, z27, z28, z29, z30, z31], _ => rfl
theorem nw_upz' (zs : List Int) (c x j : Int) (h : zs.length = 32) (hj : 0 ≤ j ∧ j < 16) : nw (upz zs c x) j = if c = j then x else nw zs j := by
  match zs, h with
  | [z0, z1, z2, z3, z4, z5, z6, z7, z8, z9, z10, z11, z12, z13, z14, z15, z16, z17, z18, z19, z20, z21, z22, z23, z24, z25, z26, z27, z28, z29, z30, z31], _ => exact nw_upz _ _ _ _ _ _ _ _ _ _ _ _ _ _ _ _ _ _ _ _ _ _ _ _ _ _ _ _ _ _ _ _ c x j hj
theorem skC_low (bs : List Bool) (zs : List Int) (k A x j : Int) (h : zs.length = 32) (hA : 0 ≤ A) (hj : 0 ≤ j ∧ j < 4) : skC bs zs k A x j = nw zs j := by
  obtain ⟨p1, p2, _⟩ := bfG_ok bs zs A 1 (by omega) 6 (-1) (by omega) (by omega) (by omega)
  obtain ⟨q1, q2, _⟩ := bfG_ok bs zs A 0 (by omega) 6 (skHi bs zs A).2 p1 p2 (by have : -1 ≤ (skHi bs zs A).2 := p1; show 5 - (skHi bs zs A).2 ≤ ((6 : Nat) : Int); omega)
  have hl : -1 ≤ (skLo bs zs A).2 := q1
  have hh : -1 ≤ (skHi bs zs A).2 := p1
  have key : ∀ (ws : List Int) (c d v w : Int), ws.length = 32 → 4 ≤ c → 4 ≤ d → (upz (upz ws c v) d w).length = 32 ∧ nw (upz (upz ws c v) d w) j = nw ws j := fun ws c d v w hw hc hd => by
    have l1 := len_upz ws c v hw
    refine ⟨len_upz _ _ _ l1, ?_⟩
    rw [nw_upz' _ _ _ _ l1 (by omega), if_neg (by omega), nw_upz' _ _ _ _ hw (by omega), if_neg (by omega)]
  have i1 := fun (ws : List Int) (hw : ws.length = 32) (b lv : Int) (hb : -1 ≤ b) (hv : 0 ≤ lv) => key ws (lk A lv) (lk b lv) (nw ws (lk b lv)) (A + 1) hw (by unfold lk; omega) (by unfold lk; omega)
  have d1 := fun (ws : List Int) (hw : ws.length = 32) (b lv : Int) (hb : -1 ≤ b) (hv : 0 ≤ lv) => key ws (lk b lv) (lk A lv) (nw ws (lk A lv)) 0 hw (by unfold lk; omega) (by unfold lk; omega)
  unfold skC skZ
  split
  · split
    · have a := i1 zs h _ 0 hl (by omega)
      have b := i1 _ a.1 _ 1 hh (by omega)
      exact b.2.trans a.2
    · exact (i1 zs h _ 0 hl (by omega)).2
  · split
    · split
      · have a := d1 zs h _ 0 hl (by omega)
        have b := d1 _ a.1 _ 1 hh (by omega)
        exact b.2.trans a.2
      · exact (d1 zs h _ 0 hl (by omega)).2
    · rfl
theorem skC_same (bs : List Bool) (zs : List Int) (k A x j : Int) (h : ¬ skCode bs zs k A = 0) : skC bs zs k A x j = nw zs j := by
  unfold skC
  have : skZ bs zs k A x = zs := by
    unfold skZ
    unfold skCode at h
    by_cases h6 : k = 6
    · subst h6
      simp only [show (6 : Int) ≠ 9 by decide, if_false, if_true, true_and] at h ⊢
      by_cases ha : skAt bs zs A = A
      · simp [ha]
      · simp [ha] at h
    · by_cases h7 : k = 7
      · subst h7
        simp only [show (7 : Int) ≠ 9 by decide, show (7 : Int) ≠ 6 by decide, if_false, if_true, true_and, false_and] at h ⊢
        by_cases ha : skAt bs zs A = A
        · simp [ha] at h
        · simp [ha]
      · simp [h6, h7]
  rw [this]
end Go.Ideal.K6
