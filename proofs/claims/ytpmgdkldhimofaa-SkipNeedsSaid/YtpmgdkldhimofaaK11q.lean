/- Chapter 6: SkipNeeds, put together. Own text. -/
import Derived.Test.YtpmgdkldhimofaaK11b
namespace Go.Ideal.K6
open Go.Proofs Go.Ideal Go.Ideal.L1
set_option linter.unusedSimpArgs false
set_option linter.unusedVariables false
set_option maxRecDepth 100000
set_option maxHeartbeats 8000000

theorem roundK_up {n2 : Nat} {l : List Nat} {ts : List (Nat × V)} {bs : List (Option Blk)} {tx : List (Nat × V)} {bx : List (Option Blk)} {c fin : Prop} {id : Nat} {x : Out × Tr V} {H : Hp} (hc : c) (h : roundK n2 l ts bs True id [] [] False x H) : roundK n2 l ts bs c id tx bx fin x H := by
  obtain ⟨oo, T⟩ := x
  cases oo with
  | norm => exact ⟨h.1, hc⟩
  | exit k =>
    simp only [roundK] at h
    split at h
    · exact h.2.elim
    · exact h.elim
  | ret => exact h.elim
theorem roundK_upx {n2 : Nat} {l : List Nat} {ts : List (Nat × V)} {bs : List (Option Blk)} {tx : List (Nat × V)} {bx : List (Option Blk)} {c fin : Prop} {id : Nat} {x : Out × Tr V} {H : Hp} (hc : fin) (h : roundK n2 l [] [] False id tx bx True x H) : roundK n2 l ts bs c id tx bx fin x H := by
  obtain ⟨oo, T⟩ := x
  cases oo with
  | norm => exact h.2.elim
  | exit k =>
    simp only [roundK] at h ⊢
    split at h
    · next e => rw [if_pos e]; exact ⟨h.1, hc⟩
    · exact h.elim
  | ret => exact h.elim
theorem lt16 {P : Nat → Prop} (h0 : P 0) (h1 : P 1) (h2 : P 2) (h3 : P 3) (h4 : P 4) (h5 : P 5) (h6 : P 6) (h7 : P 7) (h8 : P 8) (h9 : P 9) (h10 : P 10) (h11 : P 11) (h12 : P 12) (h13 : P 13) (h14 : P 14) (h15 : P 15) (j : Nat) (hj : j < 16) : P j :=
  match j, hj with
  | 0, _ => h0
  | 1, _ => h1
  | 2, _ => h2
  | 3, _ => h3
  | 4, _ => h4
  | 5, _ => h5
  | 6, _ => h6
  | 7, _ => h7
  | 8, _ => h8
  | 9, _ => h9
  | 10, _ => h10
  | 11, _ => h11
  | 12, _ => h12
  | 13, _ => h13
  | 14, _ => h14
  | 15, _ => h15
  | j + 16, h => absurd h (by omega)
/-- How many cells are known. -/
def cnt (b : Nat → Bool) : Nat := (b 0).toNat + (b 1).toNat + (b 2).toNat + (b 3).toNat + (b 4).toNat + (b 5).toNat + (b 6).toNat + (b 7).toNat + (b 8).toNat + (b 9).toNat + (b 10).toNat + (b 11).toNat + (b 12).toNat + (b 13).toNat + (b 14).toNat + (b 15).toNat
theorem tn (b : Bool) : b.toNat ≤ 1 := by cases b <;> decide
theorem cnt_le (b : Nat → Bool) : cnt b ≤ 16 := by
  have := tn (b 0)
  have := tn (b 1)
  have := tn (b 2)
  have := tn (b 3)
  have := tn (b 4)
  have := tn (b 5)
  have := tn (b 6)
  have := tn (b 7)
  have := tn (b 8)
  have := tn (b 9)
  have := tn (b 10)
  have := tn (b 11)
  have := tn (b 12)
  have := tn (b 13)
  have := tn (b 14)
  have := tn (b 15)
  unfold cnt; omega
theorem cnt_up (b : Nat → Bool) (j : Nat) (hj : j < 16) (hb : b j = false) : cnt (fun i => b i || decide ((j : Int) = (i : Int))) = cnt b + 1 := by
  revert hb
  refine lt16 (P := fun j => b j = false → cnt (fun i => b i || decide ((j : Int) = (i : Int))) = cnt b + 1) ?_ ?_ ?_ ?_ ?_ ?_ ?_ ?_ ?_ ?_ ?_ ?_ ?_ ?_ ?_ ?_ j hj <;> (intro hb; simp [cnt, hb] <;> omega)
theorem all_l (p q : Nat → Int) : B1.allMay [p 0, p 1, p 2, p 3, p 4, p 5, p 6, p 7, p 8, p 9, p 10, p 11, p 12, p 13, p 14, p 15, q 0, q 1, q 2, q 3, q 4, q 5, q 6, q 7, q 8, q 9, q 10, q 11, q 12, q 13, q 14, q 15] = true ↔ ∀ j, j < 16 → B1.valMay (p j) = true ∧ B1.valMay (q j) = true := by
  constructor
  · intro h j hj
    simp only [B1.allMay, Bool.and_eq_true] at h
    obtain ⟨p0, p1, p2, p3, p4, p5, p6, p7, p8, p9, p10, p11, p12, p13, p14, p15, q0, q1, q2, q3, q4, q5, q6, q7, q8, q9, q10, q11, q12, q13, q14, q15, _⟩ := h
    exact lt16 (P := fun j => B1.valMay (p j) = true ∧ B1.valMay (q j) = true) ⟨p0, q0⟩ ⟨p1, q1⟩ ⟨p2, q2⟩ ⟨p3, q3⟩ ⟨p4, q4⟩ ⟨p5, q5⟩ ⟨p6, q6⟩ ⟨p7, q7⟩ ⟨p8, q8⟩ ⟨p9, q9⟩ ⟨p10, q10⟩ ⟨p11, q11⟩ ⟨p12, q12⟩ ⟨p13, q13⟩ ⟨p14, q14⟩ ⟨p15, q15⟩ j hj
  · intro h
    simp only [B1.allMay, Bool.and_eq_true]
    exact ⟨(h 0 (by decide)).1, (h 1 (by decide)).1, (h 2 (by decide)).1, (h 3 (by decide)).1, (h 4 (by decide)).1, (h 5 (by decide)).1, (h 6 (by decide)).1, (h 7 (by decide)).1, (h 8 (by decide)).1, (h 9 (by decide)).1, (h 10 (by decide)).1, (h 11 (by decide)).1, (h 12 (by decide)).1, (h 13 (by decide)).1, (h 14 (by decide)).1, (h 15 (by decide)).1, (h 0 (by decide)).2, (h 1 (by decide)).2, (h 2 (by decide)).2, (h 3 (by decide)).2, (h 4 (by decide)).2, (h 5 (by decide)).2, (h 6 (by decide)).2, (h 7 (by decide)).2, (h 8 (by decide)).2, (h 9 (by decide)).2, (h 10 (by decide)).2, (h 11 (by decide)).2, (h 12 (by decide)).2, (h 13 (by decide)).2, (h 14 (by decide)).2, (h 15 (by decide)).2, trivial⟩
structure Nd where
  i : Nat
  b : Nat → Bool
theorem kn_b (b : Nat → Bool) (j : Nat) (hj : j < 16) : kn [b 0, b 1, b 2, b 3, b 4, b 5, b 6, b 7, b 8, b 9, b 10, b 11, b 12, b 13, b 14, b 15] (j : Int) = b j := lt16 (P := fun j => kn [b 0, b 1, b 2, b 3, b 4, b 5, b 6, b 7, b 8, b 9, b 10, b 11, b 12, b 13, b 14, b 15] (j : Int) = b j) rfl rfl rfl rfl rfl rfl rfl rfl rfl rfl rfl rfl rfl rfl rfl rfl j hj
theorem nw_l (p q : Nat → Int) (j : Nat) (hj : j < 16) : nw [p 0, p 1, p 2, p 3, p 4, p 5, p 6, p 7, p 8, p 9, p 10, p 11, p 12, p 13, p 14, p 15, q 0, q 1, q 2, q 3, q 4, q 5, q 6, q 7, q 8, q 9, q 10, q 11, q 12, q 13, q 14, q 15] (j : Int) = q j := lt16 (P := fun j => nw [p 0, p 1, p 2, p 3, p 4, p 5, p 6, p 7, p 8, p 9, p 10, p 11, p 12, p 13, p 14, p 15, q 0, q 1, q 2, q 3, q 4, q 5, q 6, q 7, q 8, q 9, q 10, q 11, q 12, q 13, q 14, q 15] (j : Int) = q j) rfl rfl rfl rfl rfl rfl rfl rfl rfl rfl rfl rfl rfl rfl rfl rfl j hj
theorem may_a {zs : List Int} {k a o x : Int} (h : skMay zs k a o x = true) : 0 ≤ a ∧ a < 5 := by
  simp only [skMay, Bool.and_eq_true] at h
  have h := h.1.2
  simp [B1.opMay] at h
  obtain ⟨⟨⟨⟨_, _⟩, h1, h2⟩, _⟩, _⟩ := h
  refine ⟨h1, ?_⟩
  split at h2
  · omega
  · split at h2 <;> omega
theorem nd_ask {b : Nat → Bool} {p q : Nat → Int} {k a o x : Int} (hm : skMay [p 0, p 1, p 2, p 3, p 4, p 5, p 6, p 7, p 8, p 9, p 10, p 11, p 12, p 13, p 14, p 15, q 0, q 1, q 2, q 3, q 4, q 5, q 6, q 7, q 8, q 9, q 10, q 11, q 12, q 13, q 14, q 15] k a o x = true) (hN : ¬ skN [b 0, b 1, b 2, b 3, b 4, b 5, b 6, b 7, b 8, b 9, b 10, b 11, b 12, b 13, b 14, b 15] [p 0, p 1, p 2, p 3, p 4, p 5, p 6, p 7, p 8, p 9, p 10, p 11, p 12, p 13, p 14, p 15, q 0, q 1, q 2, q 3, q 4, q 5, q 6, q 7, q 8, q 9, q 10, q 11, q 12, q 13, q 14, q 15] k a o x = -1) : (0 ≤ skN [b 0, b 1, b 2, b 3, b 4, b 5, b 6, b 7, b 8, b 9, b 10, b 11, b 12, b 13, b 14, b 15] [p 0, p 1, p 2, p 3, p 4, p 5, p 6, p 7, p 8, p 9, p 10, p 11, p 12, p 13, p 14, p 15, q 0, q 1, q 2, q 3, q 4, q 5, q 6, q 7, q 8, q 9, q 10, q 11, q 12, q 13, q 14, q 15] k a o x ∧ skN [b 0, b 1, b 2, b 3, b 4, b 5, b 6, b 7, b 8, b 9, b 10, b 11, b 12, b 13, b 14, b 15] [p 0, p 1, p 2, p 3, p 4, p 5, p 6, p 7, p 8, p 9, p 10, p 11, p 12, p 13, p 14, p 15, q 0, q 1, q 2, q 3, q 4, q 5, q 6, q 7, q 8, q 9, q 10, q 11, q 12, q 13, q 14, q 15] k a o x < 16) ∧ ∀ j : Nat, j < 16 → skN [b 0, b 1, b 2, b 3, b 4, b 5, b 6, b 7, b 8, b 9, b 10, b 11, b 12, b 13, b 14, b 15] [p 0, p 1, p 2, p 3, p 4, p 5, p 6, p 7, p 8, p 9, p 10, p 11, p 12, p 13, p 14, p 15, q 0, q 1, q 2, q 3, q 4, q 5, q 6, q 7, q 8, q 9, q 10, q 11, q 12, q 13, q 14, q 15] k a o x = (j : Int) → b j = false := by
  obtain ⟨h1, h2⟩ := skN_ask (may_a hm) hN
  exact ⟨h1, fun j hj e => by rw [e, kn_b b j hj] at h2; exact h2⟩
/-- From what is known alone. -/
theorem nd_same {b : Nat → Bool} {p q r s : Nat → Int} {k a o x y : Int} (hy : 0 ≤ y ∧ y < 1024) (hm : skMay [p 0, p 1, p 2, p 3, p 4, p 5, p 6, p 7, p 8, p 9, p 10, p 11, p 12, p 13, p 14, p 15, q 0, q 1, q 2, q 3, q 4, q 5, q 6, q 7, q 8, q 9, q 10, q 11, q 12, q 13, q 14, q 15] k a o x = true) (hN : skN [b 0, b 1, b 2, b 3, b 4, b 5, b 6, b 7, b 8, b 9, b 10, b 11, b 12, b 13, b 14, b 15] [p 0, p 1, p 2, p 3, p 4, p 5, p 6, p 7, p 8, p 9, p 10, p 11, p 12, p 13, p 14, p 15, q 0, q 1, q 2, q 3, q 4, q 5, q 6, q 7, q 8, q 9, q 10, q 11, q 12, q 13, q 14, q 15] k a o x = -1)
    (hr : ∀ j, j < 16 → r j = (if b j = false then y else p j)) (hs : ∀ j, j < 16 → s j = (if b j = false then y else q j)) :
    skMay [r 0, r 1, r 2, r 3, r 4, r 5, r 6, r 7, r 8, r 9, r 10, r 11, r 12, r 13, r 14, r 15, s 0, s 1, s 2, s 3, s 4, s 5, s 6, s 7, s 8, s 9, s 10, s 11, s 12, s 13, s 14, s 15] k a o x = true ∧ (skN [b 0, b 1, b 2, b 3, b 4, b 5, b 6, b 7, b 8, b 9, b 10, b 11, b 12, b 13, b 14, b 15] [r 0, r 1, r 2, r 3, r 4, r 5, r 6, r 7, r 8, r 9, r 10, r 11, r 12, r 13, r 14, r 15, s 0, s 1, s 2, s 3, s 4, s 5, s 6, s 7, s 8, s 9, s 10, s 11, s 12, s 13, s 14, s 15] k a o x = -1 ∧ skCode [b 0, b 1, b 2, b 3, b 4, b 5, b 6, b 7, b 8, b 9, b 10, b 11, b 12, b 13, b 14, b 15] [r 0, r 1, r 2, r 3, r 4, r 5, r 6, r 7, r 8, r 9, r 10, r 11, r 12, r 13, r 14, r 15, s 0, s 1, s 2, s 3, s 4, s 5, s 6, s 7, s 8, s 9, s 10, s 11, s 12, s 13, s 14, s 15] k a = skCode [b 0, b 1, b 2, b 3, b 4, b 5, b 6, b 7, b 8, b 9, b 10, b 11, b 12, b 13, b 14, b 15] [p 0, p 1, p 2, p 3, p 4, p 5, p 6, p 7, p 8, p 9, p 10, p 11, p 12, p 13, p 14, p 15, q 0, q 1, q 2, q 3, q 4, q 5, q 6, q 7, q 8, q 9, q 10, q 11, q 12, q 13, q 14, q 15] k a ∧ skNum [b 0, b 1, b 2, b 3, b 4, b 5, b 6, b 7, b 8, b 9, b 10, b 11, b 12, b 13, b 14, b 15] [r 0, r 1, r 2, r 3, r 4, r 5, r 6, r 7, r 8, r 9, r 10, r 11, r 12, r 13, r 14, r 15, s 0, s 1, s 2, s 3, s 4, s 5, s 6, s 7, s 8, s 9, s 10, s 11, s 12, s 13, s 14, s 15] k a o = skNum [b 0, b 1, b 2, b 3, b 4, b 5, b 6, b 7, b 8, b 9, b 10, b 11, b 12, b 13, b 14, b 15] [p 0, p 1, p 2, p 3, p 4, p 5, p 6, p 7, p 8, p 9, p 10, p 11, p 12, p 13, p 14, p 15, q 0, q 1, q 2, q 3, q 4, q 5, q 6, q 7, q 8, q 9, q 10, q 11, q 12, q 13, q 14, q 15] k a o) ∧
    ∀ j, j < 16 → (b j = true → ndW b r s k a o x j = ndW b p q k a o x j) ∧ (b j = false → ndW b p q k a o x j = q j) := by
  have ag : Ag [b 0, b 1, b 2, b 3, b 4, b 5, b 6, b 7, b 8, b 9, b 10, b 11, b 12, b 13, b 14, b 15] [p 0, p 1, p 2, p 3, p 4, p 5, p 6, p 7, p 8, p 9, p 10, p 11, p 12, p 13, p 14, p 15, q 0, q 1, q 2, q 3, q 4, q 5, q 6, q 7, q 8, q 9, q 10, q 11, q 12, q 13, q 14, q 15] [r 0, r 1, r 2, r 3, r 4, r 5, r 6, r 7, r 8, r 9, r 10, r 11, r 12, r 13, r 14, r 15, s 0, s 1, s 2, s 3, s 4, s 5, s 6, s 7, s 8, s 9, s 10, s 11, s 12, s 13, s 14, s 15] := fun c hc hk => by
    obtain ⟨j, rfl⟩ : ∃ j : Nat, c = (j : Int) := ⟨c.toNat, by omega⟩
    rw [kn_b b j (by omega)] at hk
    rw [nw_l r s j (by omega), nw_l p q j (by omega), hs j (by omega), if_neg (by simp [hk])]
  have hA := may_a hm
  have h1 := skN_ag rfl rfl hA ag hN
  obtain ⟨h2, h3⟩ := skZ_ag rfl rfl hA ag hN
  refine ⟨?_, h1, fun j hj => ⟨fun hb => ?_, fun hb => ?_⟩⟩
  · simp only [skMay, Bool.and_eq_true] at hm ⊢
    refine ⟨⟨(all_l r s).mpr fun j hj => ?_, hm.1.2⟩, hm.2⟩
    have hz := (all_l p q).mp hm.1.1 j hj
    have vy : B1.valMay y = true := by simp [B1.valMay]; omega
    rw [hr j hj, hs j hj]
    split
    · exact ⟨vy, vy⟩
    · exact hz
  · exact h2 j ⟨by omega, by omega⟩ (by rw [kn_b b j hj]; exact hb)
  · have := h3 j ⟨by omega, by omega⟩ (by rw [kn_b b j hj]; exact hb)
    rw [nw_l p q j hj] at this
    exact this
theorem nd_round (b : Nat → Bool) (p q : Nat → Int) (k a o x y : Int) (i : Nat) (hy : 0 ≤ y ∧ y < 1024) (hi : i ≤ cnt b) :
    AtQ Try.prog 4 ([1, 1, 1, 0, 1, 0] ++ [0]) (Tr.ofPairs (nT y i)) (Hm (nB b p q k a o x) 2)
      (roundR (fun s : Nd => nT y s.i) (fun s => nB s.b p q k a o x) 2 [0, 1] (fun s => 16 - s.i) (fun s => s.i ≤ cnt s.b) (fun _ => False) 0 [(6, .bool (.c true))] [] ⟨i, b⟩) := by
  have hc := cnt_le b
  by_cases hm : skMay [p 0, p 1, p 2, p 3, p 4, p 5, p 6, p 7, p 8, p 9, p 10, p 11, p 12, p 13, p 14, p 15, q 0, q 1, q 2, q 3, q 4, q 5, q 6, q 7, q 8, q 9, q 10, q 11, q 12, q 13, q 14, q 15] k a o x = true
  · by_cases hN : skN [b 0, b 1, b 2, b 3, b 4, b 5, b 6, b 7, b 8, b 9, b 10, b 11, b 12, b 13, b 14, b 15] [p 0, p 1, p 2, p 3, p 4, p 5, p 6, p 7, p 8, p 9, p 10, p 11, p 12, p 13, p 14, p 15, q 0, q 1, q 2, q 3, q 4, q 5, q 6, q 7, q 8, q 9, q 10, q 11, q 12, q 13, q 14, q 15] k a o x = -1
    · refine AtQ.loop2 (n := 6000) (α := Nat × (Nat → Int) × (Nat → Int)) (β := Nat × (Nat → Int)) (base := [1, 1, 1, 0, 1, 0, 0]) (ds := [1, 0, 0, 1, 1, 0, 1, 0, 1, 0, 1, 0]) (es := [1, 0, 0, 1, 1, 0, 1, 0, 1, 1, 1, 1, 0, 1, 0]) specs_ok mixed
        (fun c => nT1 y i (.c (c.1 : Int))) (fun c => nB1 b q k a o x (skCode [b 0, b 1, b 2, b 3, b 4, b 5, b 6, b 7, b 8, b 9, b 10, b 11, b 12, b 13, b 14, b 15] [p 0, p 1, p 2, p 3, p 4, p 5, p 6, p 7, p 8, p 9, p 10, p 11, p 12, p 13, p 14, p 15, q 0, q 1, q 2, q 3, q 4, q 5, q 6, q 7, q 8, q 9, q 10, q 11, q 12, q 13, q 14, q 15] k a) (skNum [b 0, b 1, b 2, b 3, b 4, b 5, b 6, b 7, b 8, b 9, b 10, b 11, b 12, b 13, b 14, b 15] [p 0, p 1, p 2, p 3, p 4, p 5, p 6, p 7, p 8, p 9, p 10, p 11, p 12, p 13, p 14, p 15, q 0, q 1, q 2, q 3, q 4, q 5, q 6, q 7, q 8, q 9, q 10, q 11, q 12, q 13, q 14, q 15] k a o) (ndW b p q k a o x) c.2.1 c.2.2) 5 [0, 1, 2, 3, 4] (fun c => 16 - c.1)
        (fun c => c.1 ≤ 16 ∧ ∀ j, j < 16 → c.2.1 j = (if j < c.1 ∧ b j = false then y else p j) ∧ c.2.2 j = (if j < c.1 ∧ b j = false then y else q j))
        (fun c => (c.1 + 1, upd c.2.1 c.1 (if b c.1 then c.2.1 c.1 else y), upd c.2.2 c.1 (if b c.1 then c.2.2 c.1 else y))) (fun c => c.1 < 16) 2
        (fun c => nT1 y i (.c (c.1 : Int))) (fun c => nB1 b q k a o x (skCode [b 0, b 1, b 2, b 3, b 4, b 5, b 6, b 7, b 8, b 9, b 10, b 11, b 12, b 13, b 14, b 15] [p 0, p 1, p 2, p 3, p 4, p 5, p 6, p 7, p 8, p 9, p 10, p 11, p 12, p 13, p 14, p 15, q 0, q 1, q 2, q 3, q 4, q 5, q 6, q 7, q 8, q 9, q 10, q 11, q 12, q 13, q 14, q 15] k a) (skNum [b 0, b 1, b 2, b 3, b 4, b 5, b 6, b 7, b 8, b 9, b 10, b 11, b 12, b 13, b 14, b 15] [p 0, p 1, p 2, p 3, p 4, p 5, p 6, p 7, p 8, p 9, p 10, p 11, p 12, p 13, p 14, p 15, q 0, q 1, q 2, q 3, q 4, q 5, q 6, q 7, q 8, q 9, q 10, q 11, q 12, q 13, q 14, q 15] k a o) (ndW b p q k a o x) c.2.1 c.2.2) (fun c => c.1 = 16)
        (fun c => nT2 y i (.c (c.1 : Int))) (fun c => nB2 b q (ndW b p q k a o x) c.2) 7 [0, 1, 2, 3, 4, 5, 6] (fun c => 16 - c.1)
        (fun c => c.1 ≤ 16 ∧ ∀ j, j < 16 → (b j = true → c.2 j = ndW b p q k a o x j) ∧ (b j = false → ndW b p q k a o x j = q j))
        (fun c => (c.1 + 1, c.2)) (fun c => c.1 < 16) 4
        (fun c => nT2 y i (.c (c.1 : Int))) (fun c => nB2 b q (ndW b p q k a o x) c.2) (fun c => c.1 = 16)
        (by kernel_rfl) (by kernel_rfl) (by kernel_rfl) (0, p, q) ⟨Nat.zero_le _, fun j hj => ⟨by simp, by simp⟩⟩ (nd_in b p q k a o x y i (by omega) hm hN) ?_ ?_ ?_ ?_ ?_ ?_
      · rintro ⟨c, r, s⟩ ⟨h1, h2⟩
        match c, h1 with
        | 0, _ => obtain ⟨hh, hb⟩ := nd_u0 b q k a o x y _ _ i _ r s; exact ⟨hh, vcOf_mono hb fun x H hx => roundK_up (show 0 < 16 by decide) hx⟩
        | 1, _ => obtain ⟨hh, hb⟩ := nd_u1 b q k a o x y _ _ i _ r s; exact ⟨hh, vcOf_mono hb fun x H hx => roundK_up (show 1 < 16 by decide) hx⟩
        | 2, _ => obtain ⟨hh, hb⟩ := nd_u2 b q k a o x y _ _ i _ r s; exact ⟨hh, vcOf_mono hb fun x H hx => roundK_up (show 2 < 16 by decide) hx⟩
        | 3, _ => obtain ⟨hh, hb⟩ := nd_u3 b q k a o x y _ _ i _ r s; exact ⟨hh, vcOf_mono hb fun x H hx => roundK_up (show 3 < 16 by decide) hx⟩
        | 4, _ => obtain ⟨hh, hb⟩ := nd_u4 b q k a o x y _ _ i _ r s; exact ⟨hh, vcOf_mono hb fun x H hx => roundK_up (show 4 < 16 by decide) hx⟩
        | 5, _ => obtain ⟨hh, hb⟩ := nd_u5 b q k a o x y _ _ i _ r s; exact ⟨hh, vcOf_mono hb fun x H hx => roundK_up (show 5 < 16 by decide) hx⟩
        | 6, _ => obtain ⟨hh, hb⟩ := nd_u6 b q k a o x y _ _ i _ r s; exact ⟨hh, vcOf_mono hb fun x H hx => roundK_up (show 6 < 16 by decide) hx⟩
        | 7, _ => obtain ⟨hh, hb⟩ := nd_u7 b q k a o x y _ _ i _ r s; exact ⟨hh, vcOf_mono hb fun x H hx => roundK_up (show 7 < 16 by decide) hx⟩
        | 8, _ => obtain ⟨hh, hb⟩ := nd_u8 b q k a o x y _ _ i _ r s; exact ⟨hh, vcOf_mono hb fun x H hx => roundK_up (show 8 < 16 by decide) hx⟩
        | 9, _ => obtain ⟨hh, hb⟩ := nd_u9 b q k a o x y _ _ i _ r s; exact ⟨hh, vcOf_mono hb fun x H hx => roundK_up (show 9 < 16 by decide) hx⟩
        | 10, _ => obtain ⟨hh, hb⟩ := nd_u10 b q k a o x y _ _ i _ r s; exact ⟨hh, vcOf_mono hb fun x H hx => roundK_up (show 10 < 16 by decide) hx⟩
        | 11, _ => obtain ⟨hh, hb⟩ := nd_u11 b q k a o x y _ _ i _ r s; exact ⟨hh, vcOf_mono hb fun x H hx => roundK_up (show 11 < 16 by decide) hx⟩
        | 12, _ => obtain ⟨hh, hb⟩ := nd_u12 b q k a o x y _ _ i _ r s; exact ⟨hh, vcOf_mono hb fun x H hx => roundK_up (show 12 < 16 by decide) hx⟩
        | 13, _ => obtain ⟨hh, hb⟩ := nd_u13 b q k a o x y _ _ i _ r s; exact ⟨hh, vcOf_mono hb fun x H hx => roundK_up (show 13 < 16 by decide) hx⟩
        | 14, _ => obtain ⟨hh, hb⟩ := nd_u14 b q k a o x y _ _ i _ r s; exact ⟨hh, vcOf_mono hb fun x H hx => roundK_up (show 14 < 16 by decide) hx⟩
        | 15, _ => obtain ⟨hh, hb⟩ := nd_u15 b q k a o x y _ _ i _ r s; exact ⟨hh, vcOf_mono hb fun x H hx => roundK_up (show 15 < 16 by decide) hx⟩
        | 16, _ => obtain ⟨hh, hb⟩ := nd_ux b q k a o x y _ _ i _ r s; exact ⟨hh, vcOf_mono hb fun x H hx => roundK_upx rfl hx⟩
        | c + 17, h => exact absurd h (by show ¬ c + 17 ≤ 16; omega)
      · rintro ⟨c, r, s⟩ ⟨h1, h2⟩ h3
        have h3 : c < 16 := h3
        simp only at h2 ⊢
        refine ⟨⟨h3, fun j hj => ?_⟩, by omega⟩
        obtain ⟨e1, e2⟩ := h2 j hj
        by_cases e : j = c
        · subst e
          rw [if_neg (by omega)] at e1 e2
          simp only [upd, if_true]
          rw [e1, e2]
          cases hb : b j <;> simp
        · simp only [upd, if_neg e, e1, e2]
          have : (j < c + 1 ∧ b j = false) ↔ (j < c ∧ b j = false) := by
            constructor
            · rintro ⟨a1, a2⟩; exact ⟨by omega, a2⟩
            · rintro ⟨a1, a2⟩; exact ⟨by omega, a2⟩
          simp only [this, and_self]
      · rintro ⟨c, r, s⟩ ⟨h1, h2⟩ h3
        have h3 : c = 16 := h3
        subst h3
        have e1 : ∀ j, j < 16 → r j = (if b j = false then y else p j) := fun j hj => by have := (h2 j hj).1; simp only [hj, true_and] at this; exact this
        have e2 : ∀ j, j < 16 → s j = (if b j = false then y else q j) := fun j hj => by have := (h2 j hj).2; simp only [hj, true_and] at this; exact this
        obtain ⟨g1, ⟨g2, g3, g4⟩, g5⟩ := nd_same hy hm hN e1 e2
        exact ⟨(0, ndW b r s k a o x), ⟨Nat.zero_le _, g5⟩, nd_mid b q k a o x y _ _ i _ r s g1 g2 g3 g4⟩
      · rintro ⟨c, u⟩ ⟨h1, h2⟩
        match c, h1 with
        | 0, _ => obtain ⟨hh, hb⟩ := nd_c0 b q _ u y i (h2 0 (by decide)).1 (h2 0 (by decide)).2; exact ⟨hh, vcOf_mono hb fun x H hx => roundK_up (show 0 < 16 by decide) hx⟩
        | 1, _ => obtain ⟨hh, hb⟩ := nd_c1 b q _ u y i (h2 1 (by decide)).1 (h2 1 (by decide)).2; exact ⟨hh, vcOf_mono hb fun x H hx => roundK_up (show 1 < 16 by decide) hx⟩
        | 2, _ => obtain ⟨hh, hb⟩ := nd_c2 b q _ u y i (h2 2 (by decide)).1 (h2 2 (by decide)).2; exact ⟨hh, vcOf_mono hb fun x H hx => roundK_up (show 2 < 16 by decide) hx⟩
        | 3, _ => obtain ⟨hh, hb⟩ := nd_c3 b q _ u y i (h2 3 (by decide)).1 (h2 3 (by decide)).2; exact ⟨hh, vcOf_mono hb fun x H hx => roundK_up (show 3 < 16 by decide) hx⟩
        | 4, _ => obtain ⟨hh, hb⟩ := nd_c4 b q _ u y i (h2 4 (by decide)).1 (h2 4 (by decide)).2; exact ⟨hh, vcOf_mono hb fun x H hx => roundK_up (show 4 < 16 by decide) hx⟩
        | 5, _ => obtain ⟨hh, hb⟩ := nd_c5 b q _ u y i (h2 5 (by decide)).1 (h2 5 (by decide)).2; exact ⟨hh, vcOf_mono hb fun x H hx => roundK_up (show 5 < 16 by decide) hx⟩
        | 6, _ => obtain ⟨hh, hb⟩ := nd_c6 b q _ u y i (h2 6 (by decide)).1 (h2 6 (by decide)).2; exact ⟨hh, vcOf_mono hb fun x H hx => roundK_up (show 6 < 16 by decide) hx⟩
        | 7, _ => obtain ⟨hh, hb⟩ := nd_c7 b q _ u y i (h2 7 (by decide)).1 (h2 7 (by decide)).2; exact ⟨hh, vcOf_mono hb fun x H hx => roundK_up (show 7 < 16 by decide) hx⟩
        | 8, _ => obtain ⟨hh, hb⟩ := nd_c8 b q _ u y i (h2 8 (by decide)).1 (h2 8 (by decide)).2; exact ⟨hh, vcOf_mono hb fun x H hx => roundK_up (show 8 < 16 by decide) hx⟩
        | 9, _ => obtain ⟨hh, hb⟩ := nd_c9 b q _ u y i (h2 9 (by decide)).1 (h2 9 (by decide)).2; exact ⟨hh, vcOf_mono hb fun x H hx => roundK_up (show 9 < 16 by decide) hx⟩
        | 10, _ => obtain ⟨hh, hb⟩ := nd_c10 b q _ u y i (h2 10 (by decide)).1 (h2 10 (by decide)).2; exact ⟨hh, vcOf_mono hb fun x H hx => roundK_up (show 10 < 16 by decide) hx⟩
        | 11, _ => obtain ⟨hh, hb⟩ := nd_c11 b q _ u y i (h2 11 (by decide)).1 (h2 11 (by decide)).2; exact ⟨hh, vcOf_mono hb fun x H hx => roundK_up (show 11 < 16 by decide) hx⟩
        | 12, _ => obtain ⟨hh, hb⟩ := nd_c12 b q _ u y i (h2 12 (by decide)).1 (h2 12 (by decide)).2; exact ⟨hh, vcOf_mono hb fun x H hx => roundK_up (show 12 < 16 by decide) hx⟩
        | 13, _ => obtain ⟨hh, hb⟩ := nd_c13 b q _ u y i (h2 13 (by decide)).1 (h2 13 (by decide)).2; exact ⟨hh, vcOf_mono hb fun x H hx => roundK_up (show 13 < 16 by decide) hx⟩
        | 14, _ => obtain ⟨hh, hb⟩ := nd_c14 b q _ u y i (h2 14 (by decide)).1 (h2 14 (by decide)).2; exact ⟨hh, vcOf_mono hb fun x H hx => roundK_up (show 14 < 16 by decide) hx⟩
        | 15, _ => obtain ⟨hh, hb⟩ := nd_c15 b q _ u y i (h2 15 (by decide)).1 (h2 15 (by decide)).2; exact ⟨hh, vcOf_mono hb fun x H hx => roundK_up (show 15 < 16 by decide) hx⟩
        | 16, _ => obtain ⟨hh, hb⟩ := nd_cx b q _ u y i; exact ⟨hh, vcOf_mono hb fun x H hx => roundK_upx rfl hx⟩
        | c + 17, h => exact absurd h (by show ¬ c + 17 ≤ 16; omega)
      · rintro ⟨c, u⟩ ⟨h1, h2⟩ h3
        have h3 : c < 16 := h3
        exact ⟨⟨h3, h2⟩, by show 16 - (c + 1) < 16 - c; omega⟩
      · rintro ⟨c, u⟩ ⟨h1, h2⟩ h3
        have h3 : c = 16 := h3
        subst h3
        obtain ⟨hh, hb⟩ := nd_aft b q (ndW b p q k a o x) u y i
        refine ⟨hh, vcOf_mono hb fun z H hz => ?_⟩
        obtain ⟨oo, T⟩ := z
        cases oo with
        | norm => exact hz.elim
        | exit k => exact hz.elim
        | ret => exact hz
    · obtain ⟨h1, h2⟩ := nd_ask hm hN
      obtain ⟨hh, hb⟩ := nd_need b p q k a o x y i (by omega) hm h1 h2
      refine AtQ.run specs_ok noL_ok mixed (by kernel_rfl) ⟨hh, vcOf_mono hb fun z H hz => ?_⟩
      obtain ⟨oo, T⟩ := z
      cases oo with
      | norm =>
        obtain ⟨j, ej⟩ : ∃ j : Nat, skN [b 0, b 1, b 2, b 3, b 4, b 5, b 6, b 7, b 8, b 9, b 10, b 11, b 12, b 13, b 14, b 15] [p 0, p 1, p 2, p 3, p 4, p 5, p 6, p 7, p 8, p 9, p 10, p 11, p 12, p 13, p 14, p 15, q 0, q 1, q 2, q 3, q 4, q 5, q 6, q 7, q 8, q 9, q 10, q 11, q 12, q 13, q 14, q 15] k a o x = (j : Int) := ⟨(skN [b 0, b 1, b 2, b 3, b 4, b 5, b 6, b 7, b 8, b 9, b 10, b 11, b 12, b 13, b 14, b 15] [p 0, p 1, p 2, p 3, p 4, p 5, p 6, p 7, p 8, p 9, p 10, p 11, p 12, p 13, p 14, p 15, q 0, q 1, q 2, q 3, q 4, q 5, q 6, q 7, q 8, q 9, q 10, q 11, q 12, q 13, q 14, q 15] k a o x).toNat, by omega⟩
        have h2 := h2 j (by omega) ej
        rw [ej] at h1 hz
        have hu := cnt_up b j (by omega) h2
        have hl := cnt_le (fun i => b i || decide ((j : Int) = (i : Int)))
        exact ⟨⟨i + 1, fun i => b i || decide ((j : Int) = (i : Int))⟩, by show i + 1 ≤ cnt (fun i => b i || decide ((j : Int) = (i : Int))); omega, by show 16 - (i + 1) < 16 - i; omega, hz⟩
      | exit k => exact hz.elim
      | ret => exact hz.elim
  · obtain ⟨hh, hb⟩ := nd_err b p q k a o x y i (by omega) (by simpa using hm)
    refine AtQ.run specs_ok noL_ok mixed (by kernel_rfl) ⟨hh, vcOf_mono hb fun z H hz => ?_⟩
    obtain ⟨oo, T⟩ := z
    cases oo with
    | norm => exact hz.elim
    | exit k => exact hz.elim
    | ret => exact hz
theorem skipNeeds_q (fi : Nat → Int) (fb : Nat → Bool) (fs : Nat → ByteArray) (_ : ∀ i, (List.replicate 16 Lf.b ++ List.replicate 32 .i)[i]? = some .i → -9223372036854775808 ≤ fi i ∧ fi i ≤ 9223372036854775807)
    (gi : Nat → Int) (gb : Nat → Bool) (gs : Nat → ByteArray) (_ : ∀ i, (List.replicate 4 Lf.i)[i]? = some .i → -9223372036854775808 ≤ gi i ∧ gi i ≤ 9223372036854775807) (x : Int) (_ : -9223372036854775808 ≤ x ∧ x ≤ 9223372036854775807) :
    CallQ Try.prog 4 [.agg (lfV fi fb fs 0 (List.replicate 16 Lf.b ++ List.replicate 32 .i)), .agg (lfV gi gb gs 0 (List.replicate 4 .i)), .int .i64 (.s x)] (Hx []) (fun v _ => isT v) := by
  have go := nd_go fb (fun j => fi (16 + j)) (fun j => fi (32 + j)) (gi 0) (gi 1) (gi 2) (gi 3) x
  exact CallQ.loopR (n := 6000) (ds := [1, 1, 1, 0, 1, 0]) specs_ok mixed (fun s : Nd => nT (x % 1024) s.i) (fun s => nB s.b (fun j => fi (16 + j)) (fun j => fi (32 + j)) (gi 0) (gi 1) (gi 2) (gi 3)) 2 [0, 1] (fun s => 16 - s.i) (fun s => s.i ≤ cnt s.b) (fun _ => False) 0 [(6, .bool (.c true))] []
    (by kernel_rfl) (by kernel_rfl) ⟨0, fb⟩ (Nat.zero_le _) go
    (fun s hs => nd_round s.b _ _ (gi 0) (gi 1) (gi 2) (gi 3) (x % 1024) s.i (by omega) hs) (fun _ h => h.elim) nd_ret
end Go.Ideal.K6
