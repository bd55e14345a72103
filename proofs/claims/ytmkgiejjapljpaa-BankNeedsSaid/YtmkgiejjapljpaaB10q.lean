/- Chapter 5: BankNeeds, put together. Own text. -/
import Derived.Test.YtmkgiejjapljpaaB10b
namespace Go.Ideal.B1
open Go.Proofs Go.Ideal Go.Ideal.L1
set_option linter.unusedSimpArgs false
set_option linter.unusedVariables false
set_option maxRecDepth 100000
set_option maxHeartbeats 8000000

theorem roundK_up {n2 : Nat} {l : List Nat} {ts : List (Nat × V)} {bs : List (Option Blk)} {tx : List (Nat × V)} {bx : List (Option Blk)} {c fin : Prop} {id : Nat} {x : Out × Tr V} {H : Hp} (hc : c) (h : roundK n2 l ts bs True id [] [] False x H) : roundK n2 l ts bs c id tx bx fin x H := by
  obtain ⟨oo, T⟩ := x
  cases oo with
  | norm => exact ⟨h.1, hc⟩
  | exit k =>
    simp only [roundK] at h
    split at h
    · exact h.2.elim
    · exact h.elim
  | ret => exact h.elim
theorem roundK_upx {n2 : Nat} {l : List Nat} {ts : List (Nat × V)} {bs : List (Option Blk)} {tx : List (Nat × V)} {bx : List (Option Blk)} {c fin : Prop} {id : Nat} {x : Out × Tr V} {H : Hp} (hc : fin) (h : roundK n2 l [] [] False id tx bx True x H) : roundK n2 l ts bs c id tx bx fin x H := by
  obtain ⟨oo, T⟩ := x
  cases oo with
  | norm => exact h.2.elim
  | exit k =>
    simp only [roundK] at h ⊢
    split at h
    · next e => rw [if_pos e]; exact ⟨h.1, hc⟩
    · exact h.elim
  | ret => exact h.elim
theorem lt16 {P : Nat → Prop} (h0 : P 0) (h1 : P 1) (h2 : P 2) (h3 : P 3) (h4 : P 4) (h5 : P 5) (h6 : P 6) (h7 : P 7) (h8 : P 8) (h9 : P 9) (h10 : P 10) (h11 : P 11) (h12 : P 12) (h13 : P 13) (h14 : P 14) (h15 : P 15) (j : Nat) (hj : j < 16) : P j :=
  match j, hj with
  | 0, _ => h0
  | 1, _ => h1
  | 2, _ => h2
  | 3, _ => h3
  | 4, _ => h4
  | 5, _ => h5
  | 6, _ => h6
  | 7, _ => h7
  | 8, _ => h8
  | 9, _ => h9
  | 10, _ => h10
  | 11, _ => h11
  | 12, _ => h12
  | 13, _ => h13
  | 14, _ => h14
  | 15, _ => h15
  | j + 16, h => absurd h (by omega)
/-- How many cells are known. -/
def cnt (b : Nat → Bool) : Nat := (b 0).toNat + (b 1).toNat + (b 2).toNat + (b 3).toNat + (b 4).toNat + (b 5).toNat + (b 6).toNat + (b 7).toNat + (b 8).toNat + (b 9).toNat + (b 10).toNat + (b 11).toNat + (b 12).toNat + (b 13).toNat + (b 14).toNat + (b 15).toNat
theorem tn (b : Bool) : b.toNat ≤ 1 := by cases b <;> decide
theorem cnt_le (b : Nat → Bool) : cnt b ≤ 16 := by
  have := tn (b 0)
  have := tn (b 1)
  have := tn (b 2)
  have := tn (b 3)
  have := tn (b 4)
  have := tn (b 5)
  have := tn (b 6)
  have := tn (b 7)
  have := tn (b 8)
  have := tn (b 9)
  have := tn (b 10)
  have := tn (b 11)
  have := tn (b 12)
  have := tn (b 13)
  have := tn (b 14)
  have := tn (b 15)
  unfold cnt; omega
theorem cnt_up (b : Nat → Bool) (j : Nat) (hj : j < 16) (hb : b j = false) : cnt (fun i => b i || decide ((j : Int) = (i : Int))) = cnt b + 1 := by
  revert hb
  refine lt16 (P := fun j => b j = false → cnt (fun i => b i || decide ((j : Int) = (i : Int))) = cnt b + 1) ?_ ?_ ?_ ?_ ?_ ?_ ?_ ?_ ?_ ?_ ?_ ?_ ?_ ?_ ?_ ?_ j hj <;> (intro hb; simp [cnt, hb] <;> omega)
theorem all_l (p q : Nat → Int) : allMay [p 0, p 1, p 2, p 3, p 4, p 5, p 6, p 7, p 8, p 9, p 10, p 11, p 12, p 13, p 14, p 15, q 0, q 1, q 2, q 3, q 4, q 5, q 6, q 7, q 8, q 9, q 10, q 11, q 12, q 13, q 14, q 15] = true ↔ ∀ j, j < 16 → valMay (p j) = true ∧ valMay (q j) = true := by
  constructor
  · intro h j hj
    simp only [allMay, Bool.and_eq_true] at h
    obtain ⟨p0, p1, p2, p3, p4, p5, p6, p7, p8, p9, p10, p11, p12, p13, p14, p15, q0, q1, q2, q3, q4, q5, q6, q7, q8, q9, q10, q11, q12, q13, q14, q15, _⟩ := h
    exact lt16 (P := fun j => valMay (p j) = true ∧ valMay (q j) = true) ⟨p0, q0⟩ ⟨p1, q1⟩ ⟨p2, q2⟩ ⟨p3, q3⟩ ⟨p4, q4⟩ ⟨p5, q5⟩ ⟨p6, q6⟩ ⟨p7, q7⟩ ⟨p8, q8⟩ ⟨p9, q9⟩ ⟨p10, q10⟩ ⟨p11, q11⟩ ⟨p12, q12⟩ ⟨p13, q13⟩ ⟨p14, q14⟩ ⟨p15, q15⟩ j hj
  · intro h
    simp only [allMay, Bool.and_eq_true]
    exact ⟨(h 0 (by decide)).1, (h 1 (by decide)).1, (h 2 (by decide)).1, (h 3 (by decide)).1, (h 4 (by decide)).1, (h 5 (by decide)).1, (h 6 (by decide)).1, (h 7 (by decide)).1, (h 8 (by decide)).1, (h 9 (by decide)).1, (h 10 (by decide)).1, (h 11 (by decide)).1, (h 12 (by decide)).1, (h 13 (by decide)).1, (h 14 (by decide)).1, (h 15 (by decide)).1, (h 0 (by decide)).2, (h 1 (by decide)).2, (h 2 (by decide)).2, (h 3 (by decide)).2, (h 4 (by decide)).2, (h 5 (by decide)).2, (h 6 (by decide)).2, (h 7 (by decide)).2, (h 8 (by decide)).2, (h 9 (by decide)).2, (h 10 (by decide)).2, (h 11 (by decide)).2, (h 12 (by decide)).2, (h 13 (by decide)).2, (h 14 (by decide)).2, (h 15 (by decide)).2, trivial⟩
structure Nd where
  i : Nat
  b : Nat → Bool
/-- From what is known alone. -/
theorem sel_eq {b0 b1 b2 b3 : Bool} {m0 m1 m2 m3 n0 n1 n2 n3 a : Int} (h0 : b0 = true → m0 = n0) (h1 : b1 = true → m1 = n1) (h2 : b2 = true → m2 = n2) (h3 : b3 = true → m3 = n3) (h : sel b0 b1 b2 b3 a = true) : sel m0 m1 m2 m3 a = sel n0 n1 n2 n3 a := by
  unfold sel at *
  split
  · next e => rw [if_pos e] at h; exact h0 h
  · next e =>
    rw [if_neg e] at h
    split
    · next e => rw [if_pos e] at h; exact h1 h
    · next e =>
      rw [if_neg e] at h
      split
      · next e => rw [if_pos e] at h; exact h2 h
      · next e => rw [if_neg e] at h; exact h3 h
theorem bk_may {zs : List Int} {k a o x : Int} (h : bkMay zs k a o x = true) : (0 ≤ k ∧ k < 6) ∧ (0 ≤ a ∧ a < 4) ∧ (0 ≤ o ∧ o < 4) := by
  simp only [bkMay, Bool.and_eq_true, decide_eq_true_eq] at h
  obtain ⟨⟨_, h⟩, hk⟩ := h
  simp [opMay] at h
  obtain ⟨⟨⟨⟨g1, g2⟩, g3, g4⟩, g5, g6⟩, _⟩ := h
  refine ⟨⟨g1, hk⟩, ⟨g3, ?_⟩, ⟨g5, ?_⟩⟩
  · split at g4
    · exact g4
    · split at g4 <;> omega
  · split at g6
    · exact g6
    · split at g6 <;> omega
theorem sel_nat {b : Nat → Bool} {a : Int} {j : Nat} (h : sel (b 0) (b 1) (b 2) (b 3) a = false) (ha : 0 ≤ a ∧ a < 4) (e : a = (j : Int)) : b j = false := by
  rcases (by omega : j = 0 ∨ j = 1 ∨ j = 2 ∨ j = 3) with rfl | rfl | rfl | rfl <;> (subst e; exact h)
theorem nd_ask0 {b : Nat → Bool} {p q : Nat → Int} {k a o x : Int} (hm : bkMay [p 0, p 1, p 2, p 3, p 4, p 5, p 6, p 7, p 8, p 9, p 10, p 11, p 12, p 13, p 14, p 15, q 0, q 1, q 2, q 3, q 4, q 5, q 6, q 7, q 8, q 9, q 10, q 11, q 12, q 13, q 14, q 15] k a o x = true) (hN : ¬ bkNeed (b 0) (b 1) (b 2) (b 3) k a o = -1) : (0 ≤ bkNeed (b 0) (b 1) (b 2) (b 3) k a o ∧ bkNeed (b 0) (b 1) (b 2) (b 3) k a o < 16) ∧ ∀ j : Nat, j < 16 → bkNeed (b 0) (b 1) (b 2) (b 3) k a o = (j : Int) → b j = false := by
  obtain ⟨hk, ha, ho⟩ := bk_may hm
  revert hN
  unfold bkNeed
  split
  · cases h0 : b 0
    · intro _; exact ⟨by simp, fun j _ e => by have : j = 0 := by simp at e; omega
                                               subst this; exact h0⟩
    · cases h1 : b 1
      · intro _; exact ⟨by simp, fun j _ e => by have : j = 1 := by simp at e; omega
                                                 subst this; exact h1⟩
      · cases h2 : b 2
        · intro _; exact ⟨by simp, fun j _ e => by have : j = 2 := by simp at e; omega
                                                   subst this; exact h2⟩
        · cases h3 : b 3
          · intro _; exact ⟨by simp, fun j _ e => by have : j = 3 := by simp at e; omega
                                                     subst this; exact h3⟩
          · intro h; exact absurd rfl h
  · cases hs : sel (b 0) (b 1) (b 2) (b 3) a
    · intro _; exact ⟨by simp; omega, fun j _ e => sel_nat hs ha (by simpa using e)⟩
    · simp only [if_true]
      split
      · cases ht : sel (b 0) (b 1) (b 2) (b 3) o
        · intro _; exact ⟨by simp; omega, fun j _ e => sel_nat ht ho (by simpa using e)⟩
        · intro h; exact absurd rfl h
      · intro h; exact absurd rfl h
theorem nd_ask {b : Nat → Bool} {p q : Nat → Int} {k a o x : Int} (hm : bkMay [p 0, p 1, p 2, p 3, p 4, p 5, p 6, p 7, p 8, p 9, p 10, p 11, p 12, p 13, p 14, p 15, q 0, q 1, q 2, q 3, q 4, q 5, q 6, q 7, q 8, q 9, q 10, q 11, q 12, q 13, q 14, q 15] k a o x = true) (hN : ¬ bkD [b 0, b 1, b 2, b 3, b 4, b 5, b 6, b 7, b 8, b 9, b 10, b 11, b 12, b 13, b 14, b 15] k a o = -1) : (0 ≤ bkD [b 0, b 1, b 2, b 3, b 4, b 5, b 6, b 7, b 8, b 9, b 10, b 11, b 12, b 13, b 14, b 15] k a o ∧ bkD [b 0, b 1, b 2, b 3, b 4, b 5, b 6, b 7, b 8, b 9, b 10, b 11, b 12, b 13, b 14, b 15] k a o < 16) ∧ ∀ j : Nat, j < 16 → bkD [b 0, b 1, b 2, b 3, b 4, b 5, b 6, b 7, b 8, b 9, b 10, b 11, b 12, b 13, b 14, b 15] k a o = (j : Int) → b j = false := nd_ask0 hm hN
/-- What an operation needs is known. -/
theorem need_known {b0 b1 b2 b3 : Bool} {k a o : Int} (ha : 0 ≤ a ∧ a < 4) (ho : 0 ≤ o ∧ o < 4) (h : bkNeed b0 b1 b2 b3 k a o = -1) : (k = 5 ∧ b0 = true ∧ b1 = true ∧ b2 = true ∧ b3 = true) ∨ (k ≠ 5 ∧ sel b0 b1 b2 b3 a = true ∧ (k = 4 → sel b0 b1 b2 b3 o = true)) := by
  unfold bkNeed at h
  split at h
  · next e =>
    left
    revert h
    cases b0 <;> cases b1 <;> cases b2 <;> cases b3 <;> simp [e]
  · next e =>
    right
    refine ⟨e, ?_⟩
    split at h
    · next e2 =>
      refine ⟨e2, fun h4 => ?_⟩
      rw [if_pos h4] at h
      split at h
      · next e3 => exact e3
      · omega
    · omega
theorem nd_bank {b : Nat → Bool} {q s : Nat → Int} {k a o x : Int} (hk6 : 0 ≤ k ∧ k < 6) (ha : 0 ≤ a ∧ a < 4) (ho : 0 ≤ o ∧ o < 4) (hN : bkNeed (b 0) (b 1) (b 2) (b 3) k a o = -1) (hs : ∀ j, j < 4 → b j = true → s j = q j) :
    bkCode (s 0) (s 1) (s 2) (s 3) k a o x = bkCode (q 0) (q 1) (q 2) (q 3) k a o x ∧ bkNum (s 0) (s 1) (s 2) (s 3) k a o x = bkNum (q 0) (q 1) (q 2) (q 3) k a o x ∧
    ∀ i : Int, 0 ≤ i → i < 4 → (sel (b 0) (b 1) (b 2) (b 3) i = true → bkNow (s 0) (s 1) (s 2) (s 3) k a o x i = bkNow (q 0) (q 1) (q 2) (q 3) k a o x i) ∧ (sel (b 0) (b 1) (b 2) (b 3) i = false → bkNow (q 0) (q 1) (q 2) (q 3) k a o x i = sel (q 0) (q 1) (q 2) (q 3) i) := by
  have sl : ∀ i, sel (b 0) (b 1) (b 2) (b 3) i = true → sel (s 0) (s 1) (s 2) (s 3) i = sel (q 0) (q 1) (q 2) (q 3) i := fun i h => sel_eq (hs 0 (by decide)) (hs 1 (by decide)) (hs 2 (by decide)) (hs 3 (by decide)) h
  rcases need_known ha ho hN with ⟨h5, k0, k1, k2, k3⟩ | ⟨h5, ka, ko⟩
  · rw [hs 0 (by decide) k0, hs 1 (by decide) k1, hs 2 (by decide) k2, hs 3 (by decide) k3]
    refine ⟨rfl, rfl, fun i _ _ => ⟨fun _ => rfl, fun h => ?_⟩⟩
    rw [k0, k1, k2, k3] at h
    unfold sel at h; (repeat' split at h) <;> simp at h
  · have ea := sl a ka
    have ec : bkCode (s 0) (s 1) (s 2) (s 3) k a o x = bkCode (q 0) (q 1) (q 2) (q 3) k a o x := by
      by_cases h4 : k = 4
      · have eo := sl o (ko h4)
        simp only [bkCode, ea, eo]
      · simp only [bkCode, ea, if_neg h4]
    refine ⟨ec, ?_, fun i i0 i1 => ⟨fun hi => ?_, fun hi => ?_⟩⟩
    · by_cases h4 : k = 4
      · simp only [bkNum, ec, ea, if_pos h4]
      · have : k = 0 ∨ k = 1 ∨ k = 2 ∨ k = 3 ∨ (k ≠ 0 ∧ k ≠ 1 ∧ k ≠ 2 ∧ k ≠ 3) := by omega
        simp only [bkNum, ec, ea, if_neg h4]
        by_cases hc : bkCode (q 0) (q 1) (q 2) (q 3) k a o x = 0
        · simp only [if_pos hc]
          rcases this with h | h | h | h | h
          · simp [h]
          · simp [h]
          · simp [h]
          · simp [h]
          · exact absurd hk6 (by omega)
        · simp only [if_neg hc]
    · have ei := sl i hi
      simp only [bkNow, ec, ei]
    · have n1 : i ≠ a := fun e => by subst e; rw [ka] at hi; cases hi
      have n2 : k = 4 → i ≠ o := fun h4 e => by subst e; rw [ko h4] at hi; cases hi
      simp only [bkNow, if_neg n1]
      by_cases h4 : k = 4
      · simp only [if_neg (n2 h4), ite_self]
      · simp only [if_neg h4, ite_self]
theorem nd_same {b : Nat → Bool} {p q r s : Nat → Int} {k a o x y : Int} (hy : 0 ≤ y ∧ y < 1024) (hm : bkMay [p 0, p 1, p 2, p 3, p 4, p 5, p 6, p 7, p 8, p 9, p 10, p 11, p 12, p 13, p 14, p 15, q 0, q 1, q 2, q 3, q 4, q 5, q 6, q 7, q 8, q 9, q 10, q 11, q 12, q 13, q 14, q 15] k a o x = true) (hN : bkNeed (b 0) (b 1) (b 2) (b 3) k a o = -1)
    (hr : ∀ j, j < 16 → r j = (if b j = false then y else p j)) (hs : ∀ j, j < 16 → s j = (if b j = false then y else q j)) :
    bkMay [r 0, r 1, r 2, r 3, r 4, r 5, r 6, r 7, r 8, r 9, r 10, r 11, r 12, r 13, r 14, r 15, s 0, s 1, s 2, s 3, s 4, s 5, s 6, s 7, s 8, s 9, s 10, s 11, s 12, s 13, s 14, s 15] k a o x = true ∧ (bkNeed (b 0) (b 1) (b 2) (b 3) k a o = -1 ∧ bkCode (s 0) (s 1) (s 2) (s 3) k a o x = bkCode (q 0) (q 1) (q 2) (q 3) k a o x ∧ bkNum (s 0) (s 1) (s 2) (s 3) k a o x = bkNum (q 0) (q 1) (q 2) (q 3) k a o x) ∧
    ∀ j, j < 16 → (b j = true → ndW b r s k a o x j = ndW b p q k a o x j) ∧ (b j = false → ndW b p q k a o x j = q j) := by
  obtain ⟨hk, ha, ho⟩ := bk_may hm
  have hs4 : ∀ j, j < 16 → b j = true → s j = q j := fun j hj hb => by rw [hs j hj, if_neg (by simp [hb])]
  obtain ⟨h1, h2, h3⟩ := nd_bank (x := x) hk ha ho hN (fun j hj => hs4 j (by omega))
  refine ⟨?_, ⟨hN, h1, h2⟩, fun j hj => ?_⟩
  · simp only [bkMay, Bool.and_eq_true] at hm ⊢
    refine ⟨⟨(all_l r s).mpr fun j hj => ?_, hm.1.2⟩, hm.2⟩
    have hz := (all_l p q).mp hm.1.1 j hj
    have vy : valMay y = true := by simp [valMay]; omega
    rw [hr j hj, hs j hj]
    split
    · exact ⟨vy, vy⟩
    · exact hz
  · unfold ndW
    by_cases h4 : j < 4
    · rw [if_pos h4, if_pos h4]
      obtain ⟨g1, g2⟩ := h3 j (by omega) (by omega)
      rcases (by omega : j = 0 ∨ j = 1 ∨ j = 2 ∨ j = 3) with rfl | rfl | rfl | rfl <;> exact ⟨g1, g2⟩
    · rw [if_neg h4, if_neg h4]
      exact ⟨hs4 j hj, fun _ => rfl⟩
theorem nd_round (b : Nat → Bool) (p q : Nat → Int) (k a o x y : Int) (i : Nat) (hy : 0 ≤ y ∧ y < 1024) (hi : i ≤ cnt b) :
    AtQ Try.prog 9 ([1, 1, 1, 0, 1, 0] ++ [0]) (Tr.ofPairs (nT y i)) (Hm (nB b p q k a o x) 2)
      (roundR (fun s : Nd => nT y s.i) (fun s => nB s.b p q k a o x) 2 [0, 1] (fun s => 16 - s.i) (fun s => s.i ≤ cnt s.b) (fun _ => False) 0 [(6, .bool (.c true))] [] ⟨i, b⟩) := by
  have hc := cnt_le b
  by_cases hm : bkMay [p 0, p 1, p 2, p 3, p 4, p 5, p 6, p 7, p 8, p 9, p 10, p 11, p 12, p 13, p 14, p 15, q 0, q 1, q 2, q 3, q 4, q 5, q 6, q 7, q 8, q 9, q 10, q 11, q 12, q 13, q 14, q 15] k a o x = true
  · by_cases hN : bkD [b 0, b 1, b 2, b 3, b 4, b 5, b 6, b 7, b 8, b 9, b 10, b 11, b 12, b 13, b 14, b 15] k a o = -1
    · refine AtQ.loop2 (n := 6000) (α := Nat × (Nat → Int) × (Nat → Int)) (β := Nat × (Nat → Int)) (base := [1, 1, 1, 0, 1, 0, 0]) (ds := [1, 0, 0, 1, 1, 0, 1, 0, 1, 0, 1, 0]) (es := [1, 0, 0, 1, 1, 0, 1, 0, 1, 1, 1, 1, 0, 1, 0]) specD_ok mixed
        (fun c => nT1 y i (.c (c.1 : Int))) (fun c => nB1 b q k a o x (bkCode (q 0) (q 1) (q 2) (q 3) k a o x) (bkNum (q 0) (q 1) (q 2) (q 3) k a o x) (ndW b p q k a o x) c.2.1 c.2.2) 5 [0, 1, 2, 3, 4] (fun c => 16 - c.1)
        (fun c => c.1 ≤ 16 ∧ ∀ j, j < 16 → c.2.1 j = (if j < c.1 ∧ b j = false then y else p j) ∧ c.2.2 j = (if j < c.1 ∧ b j = false then y else q j))
        (fun c => (c.1 + 1, upd c.2.1 c.1 (if b c.1 then c.2.1 c.1 else y), upd c.2.2 c.1 (if b c.1 then c.2.2 c.1 else y))) (fun c => c.1 < 16) 2
        (fun c => nT1 y i (.c (c.1 : Int))) (fun c => nB1 b q k a o x (bkCode (q 0) (q 1) (q 2) (q 3) k a o x) (bkNum (q 0) (q 1) (q 2) (q 3) k a o x) (ndW b p q k a o x) c.2.1 c.2.2) (fun c => c.1 = 16)
        (fun c => nT2 y i (.c (c.1 : Int))) (fun c => nB2 b q (ndW b p q k a o x) c.2) 7 [0, 1, 2, 3, 4, 5, 6] (fun c => 16 - c.1)
        (fun c => c.1 ≤ 16 ∧ ∀ j, j < 16 → (b j = true → c.2 j = ndW b p q k a o x j) ∧ (b j = false → ndW b p q k a o x j = q j))
        (fun c => (c.1 + 1, c.2)) (fun c => c.1 < 16) 4
        (fun c => nT2 y i (.c (c.1 : Int))) (fun c => nB2 b q (ndW b p q k a o x) c.2) (fun c => c.1 = 16)
        (by kernel_rfl) (by kernel_rfl) (by kernel_rfl) (0, p, q) ⟨Nat.zero_le _, fun j hj => ⟨by simp, by simp⟩⟩ (nd_in b p q k a o x y i (by omega) hm hN) ?_ ?_ ?_ ?_ ?_ ?_
      · rintro ⟨c, r, s⟩ ⟨h1, h2⟩
        match c, h1 with
        | 0, _ => obtain ⟨hh, hb⟩ := nd_u0 b q k a o x y _ _ i _ r s; exact ⟨hh, vcOf_mono hb fun x H hx => roundK_up (show 0 < 16 by decide) hx⟩
        | 1, _ => obtain ⟨hh, hb⟩ := nd_u1 b q k a o x y _ _ i _ r s; exact ⟨hh, vcOf_mono hb fun x H hx => roundK_up (show 1 < 16 by decide) hx⟩
        | 2, _ => obtain ⟨hh, hb⟩ := nd_u2 b q k a o x y _ _ i _ r s; exact ⟨hh, vcOf_mono hb fun x H hx => roundK_up (show 2 < 16 by decide) hx⟩
        | 3, _ => obtain ⟨hh, hb⟩ := nd_u3 b q k a o x y _ _ i _ r s; exact ⟨hh, vcOf_mono hb fun x H hx => roundK_up (show 3 < 16 by decide) hx⟩
        | 4, _ => obtain ⟨hh, hb⟩ := nd_u4 b q k a o x y _ _ i _ r s; exact ⟨hh, vcOf_mono hb fun x H hx => roundK_up (show 4 < 16 by decide) hx⟩
        | 5, _ => obtain ⟨hh, hb⟩ := nd_u5 b q k a o x y _ _ i _ r s; exact ⟨hh, vcOf_mono hb fun x H hx => roundK_up (show 5 < 16 by decide) hx⟩
        | 6, _ => obtain ⟨hh, hb⟩ := nd_u6 b q k a o x y _ _ i _ r s; exact ⟨hh, vcOf_mono hb fun x H hx => roundK_up (show 6 < 16 by decide) hx⟩
        | 7, _ => obtain ⟨hh, hb⟩ := nd_u7 b q k a o x y _ _ i _ r s; exact ⟨hh, vcOf_mono hb fun x H hx => roundK_up (show 7 < 16 by decide) hx⟩
        | 8, _ => obtain ⟨hh, hb⟩ := nd_u8 b q k a o x y _ _ i _ r s; exact ⟨hh, vcOf_mono hb fun x H hx => roundK_up (show 8 < 16 by decide) hx⟩
        | 9, _ => obtain ⟨hh, hb⟩ := nd_u9 b q k a o x y _ _ i _ r s; exact ⟨hh, vcOf_mono hb fun x H hx => roundK_up (show 9 < 16 by decide) hx⟩
        | 10, _ => obtain ⟨hh, hb⟩ := nd_u10 b q k a o x y _ _ i _ r s; exact ⟨hh, vcOf_mono hb fun x H hx => roundK_up (show 10 < 16 by decide) hx⟩
        | 11, _ => obtain ⟨hh, hb⟩ := nd_u11 b q k a o x y _ _ i _ r s; exact ⟨hh, vcOf_mono hb fun x H hx => roundK_up (show 11 < 16 by decide) hx⟩
        | 12, _ => obtain ⟨hh, hb⟩ := nd_u12 b q k a o x y _ _ i _ r s; exact ⟨hh, vcOf_mono hb fun x H hx => roundK_up (show 12 < 16 by decide) hx⟩
        | 13, _ => obtain ⟨hh, hb⟩ := nd_u13 b q k a o x y _ _ i _ r s; exact ⟨hh, vcOf_mono hb fun x H hx => roundK_up (show 13 < 16 by decide) hx⟩
        | 14, _ => obtain ⟨hh, hb⟩ := nd_u14 b q k a o x y _ _ i _ r s; exact ⟨hh, vcOf_mono hb fun x H hx => roundK_up (show 14 < 16 by decide) hx⟩
        | 15, _ => obtain ⟨hh, hb⟩ := nd_u15 b q k a o x y _ _ i _ r s; exact ⟨hh, vcOf_mono hb fun x H hx => roundK_up (show 15 < 16 by decide) hx⟩
        | 16, _ => obtain ⟨hh, hb⟩ := nd_ux b q k a o x y _ _ i _ r s; exact ⟨hh, vcOf_mono hb fun x H hx => roundK_upx rfl hx⟩
        | c + 17, h => exact absurd h (by show ¬ c + 17 ≤ 16; omega)
      · rintro ⟨c, r, s⟩ ⟨h1, h2⟩ h3
        have h3 : c < 16 := h3
        simp only at h2 ⊢
        refine ⟨⟨h3, fun j hj => ?_⟩, by omega⟩
        obtain ⟨e1, e2⟩ := h2 j hj
        by_cases e : j = c
        · subst e
          rw [if_neg (by omega)] at e1 e2
          simp only [upd, if_true]
          rw [e1, e2]
          cases hb : b j <;> simp
        · simp only [upd, if_neg e, e1, e2]
          have : (j < c + 1 ∧ b j = false) ↔ (j < c ∧ b j = false) := by
            constructor
            · rintro ⟨a1, a2⟩; exact ⟨by omega, a2⟩
            · rintro ⟨a1, a2⟩; exact ⟨by omega, a2⟩
          simp only [this, and_self]
      · rintro ⟨c, r, s⟩ ⟨h1, h2⟩ h3
        have h3 : c = 16 := h3
        subst h3
        have e1 : ∀ j, j < 16 → r j = (if b j = false then y else p j) := fun j hj => by have := (h2 j hj).1; simp only [hj, true_and] at this; exact this
        have e2 : ∀ j, j < 16 → s j = (if b j = false then y else q j) := fun j hj => by have := (h2 j hj).2; simp only [hj, true_and] at this; exact this
        obtain ⟨g1, ⟨g2, g3, g4⟩, g5⟩ := nd_same hy hm hN e1 e2
        exact ⟨(0, ndW b r s k a o x), ⟨Nat.zero_le _, g5⟩, nd_mid b q k a o x y _ _ i _ r s g1 g2 g3 g4⟩
      · rintro ⟨c, u⟩ ⟨h1, h2⟩
        match c, h1 with
        | 0, _ => obtain ⟨hh, hb⟩ := nd_c0 b q _ u y i (h2 0 (by decide)).1 (h2 0 (by decide)).2; exact ⟨hh, vcOf_mono hb fun x H hx => roundK_up (show 0 < 16 by decide) hx⟩
        | 1, _ => obtain ⟨hh, hb⟩ := nd_c1 b q _ u y i (h2 1 (by decide)).1 (h2 1 (by decide)).2; exact ⟨hh, vcOf_mono hb fun x H hx => roundK_up (show 1 < 16 by decide) hx⟩
        | 2, _ => obtain ⟨hh, hb⟩ := nd_c2 b q _ u y i (h2 2 (by decide)).1 (h2 2 (by decide)).2; exact ⟨hh, vcOf_mono hb fun x H hx => roundK_up (show 2 < 16 by decide) hx⟩
        | 3, _ => obtain ⟨hh, hb⟩ := nd_c3 b q _ u y i (h2 3 (by decide)).1 (h2 3 (by decide)).2; exact ⟨hh, vcOf_mono hb fun x H hx => roundK_up (show 3 < 16 by decide) hx⟩
        | 4, _ => obtain ⟨hh, hb⟩ := nd_c4 b q _ u y i (h2 4 (by decide)).1 (h2 4 (by decide)).2; exact ⟨hh, vcOf_mono hb fun x H hx => roundK_up (show 4 < 16 by decide) hx⟩
        | 5, _ => obtain ⟨hh, hb⟩ := nd_c5 b q _ u y i (h2 5 (by decide)).1 (h2 5 (by decide)).2; exact ⟨hh, vcOf_mono hb fun x H hx => roundK_up (show 5 < 16 by decide) hx⟩
        | 6, _ => obtain ⟨hh, hb⟩ := nd_c6 b q _ u y i (h2 6 (by decide)).1 (h2 6 (by decide)).2; exact ⟨hh, vcOf_mono hb fun x H hx => roundK_up (show 6 < 16 by decide) hx⟩
        | 7, _ => obtain ⟨hh, hb⟩ := nd_c7 b q _ u y i (h2 7 (by decide)).1 (h2 7 (by decide)).2; exact ⟨hh, vcOf_mono hb fun x H hx => roundK_up (show 7 < 16 by decide) hx⟩
        | 8, _ => obtain ⟨hh, hb⟩ := nd_c8 b q _ u y i (h2 8 (by decide)).1 (h2 8 (by decide)).2; exact ⟨hh, vcOf_mono hb fun x H hx => roundK_up (show 8 < 16 by decide) hx⟩
        | 9, _ => obtain ⟨hh, hb⟩ := nd_c9 b q _ u y i (h2 9 (by decide)).1 (h2 9 (by decide)).2; exact ⟨hh, vcOf_mono hb fun x H hx => roundK_up (show 9 < 16 by decide) hx⟩
        | 10, _ => obtain ⟨hh, hb⟩ := nd_c10 b q _ u y i (h2 10 (by decide)).1 (h2 10 (by decide)).2; exact ⟨hh, vcOf_mono hb fun x H hx => roundK_up (show 10 < 16 by decide) hx⟩
        | 11, _ => obtain ⟨hh, hb⟩ := nd_c11 b q _ u y i (h2 11 (by decide)).1 (h2 11 (by decide)).2; exact ⟨hh, vcOf_mono hb fun x H hx => roundK_up (show 11 < 16 by decide) hx⟩
        | 12, _ => obtain ⟨hh, hb⟩ := nd_c12 b q _ u y i (h2 12 (by decide)).1 (h2 12 (by decide)).2; exact ⟨hh, vcOf_mono hb fun x H hx => roundK_up (show 12 < 16 by decide) hx⟩
        | 13, _ => obtain ⟨hh, hb⟩ := nd_c13 b q _ u y i (h2 13 (by decide)).1 (h2 13 (by decide)).2; exact ⟨hh, vcOf_mono hb fun x H hx => roundK_up (show 13 < 16 by decide) hx⟩
        | 14, _ => obtain ⟨hh, hb⟩ := nd_c14 b q _ u y i (h2 14 (by decide)).1 (h2 14 (by decide)).2; exact ⟨hh, vcOf_mono hb fun x H hx => roundK_up (show 14 < 16 by decide) hx⟩
        | 15, _ => obtain ⟨hh, hb⟩ := nd_c15 b q _ u y i (h2 15 (by decide)).1 (h2 15 (by decide)).2; exact ⟨hh, vcOf_mono hb fun x H hx => roundK_up (show 15 < 16 by decide) hx⟩
        | 16, _ => obtain ⟨hh, hb⟩ := nd_cx b q _ u y i; exact ⟨hh, vcOf_mono hb fun x H hx => roundK_upx rfl hx⟩
        | c + 17, h => exact absurd h (by show ¬ c + 17 ≤ 16; omega)
      · rintro ⟨c, u⟩ ⟨h1, h2⟩ h3
        have h3 : c < 16 := h3
        exact ⟨⟨h3, h2⟩, by show 16 - (c + 1) < 16 - c; omega⟩
      · rintro ⟨c, u⟩ ⟨h1, h2⟩ h3
        have h3 : c = 16 := h3
        subst h3
        obtain ⟨hh, hb⟩ := nd_aft b q (ndW b p q k a o x) u y i
        refine ⟨hh, vcOf_mono hb fun z H hz => ?_⟩
        obtain ⟨oo, T⟩ := z
        cases oo with
        | norm => exact hz.elim
        | exit k => exact hz.elim
        | ret => exact hz
    · obtain ⟨h1, h2⟩ := nd_ask hm hN
      obtain ⟨hh, hb⟩ := nd_need b p q k a o x y i (by omega) hm h1 h2
      refine AtQ.run specD_ok noL_ok mixed (by kernel_rfl) ⟨hh, vcOf_mono hb fun z H hz => ?_⟩
      obtain ⟨oo, T⟩ := z
      cases oo with
      | norm =>
        obtain ⟨j, ej⟩ : ∃ j : Nat, bkD [b 0, b 1, b 2, b 3, b 4, b 5, b 6, b 7, b 8, b 9, b 10, b 11, b 12, b 13, b 14, b 15] k a o = (j : Int) := ⟨(bkD [b 0, b 1, b 2, b 3, b 4, b 5, b 6, b 7, b 8, b 9, b 10, b 11, b 12, b 13, b 14, b 15] k a o).toNat, by omega⟩
        have h2 := h2 j (by omega) ej
        rw [ej] at h1 hz
        have hu := cnt_up b j (by omega) h2
        have hl := cnt_le (fun i => b i || decide ((j : Int) = (i : Int)))
        exact ⟨⟨i + 1, fun i => b i || decide ((j : Int) = (i : Int))⟩, by show i + 1 ≤ cnt (fun i => b i || decide ((j : Int) = (i : Int))); omega, by show 16 - (i + 1) < 16 - i; omega, hz⟩
      | exit k => exact hz.elim
      | ret => exact hz.elim
  · obtain ⟨hh, hb⟩ := nd_err b p q k a o x y i (by omega) (by simpa using hm)
    refine AtQ.run specD_ok noL_ok mixed (by kernel_rfl) ⟨hh, vcOf_mono hb fun z H hz => ?_⟩
    obtain ⟨oo, T⟩ := z
    cases oo with
    | norm => exact hz.elim
    | exit k => exact hz.elim
    | ret => exact hz
theorem bankNeeds_q (fi : Nat → Int) (fb : Nat → Bool) (fs : Nat → ByteArray) (_ : ∀ i, (List.replicate 16 Lf.b ++ List.replicate 32 .i)[i]? = some .i → -9223372036854775808 ≤ fi i ∧ fi i ≤ 9223372036854775807)
    (gi : Nat → Int) (gb : Nat → Bool) (gs : Nat → ByteArray) (_ : ∀ i, (List.replicate 4 Lf.i)[i]? = some .i → -9223372036854775808 ≤ gi i ∧ gi i ≤ 9223372036854775807) (x : Int) (_ : -9223372036854775808 ≤ x ∧ x ≤ 9223372036854775807) :
    CallQ Try.prog 9 [.agg (lfV fi fb fs 0 (List.replicate 16 Lf.b ++ List.replicate 32 .i)), .agg (lfV gi gb gs 0 (List.replicate 4 .i)), .int .i64 (.s x)] (Hx []) (fun v _ => isT v) := by
  have go := nd_go fb (fun j => fi (16 + j)) (fun j => fi (32 + j)) (gi 0) (gi 1) (gi 2) (gi 3) x
  exact CallQ.loopR (n := 6000) (ds := [1, 1, 1, 0, 1, 0]) specD_ok mixed (fun s : Nd => nT (x % 1024) s.i) (fun s => nB s.b (fun j => fi (16 + j)) (fun j => fi (32 + j)) (gi 0) (gi 1) (gi 2) (gi 3)) 2 [0, 1] (fun s => 16 - s.i) (fun s => s.i ≤ cnt s.b) (fun _ => False) 0 [(6, .bool (.c true))] []
    (by kernel_rfl) (by kernel_rfl) ⟨0, fb⟩ (Nat.zero_le _) go
    (fun s hs => nd_round s.b _ _ (gi 0) (gi 1) (gi 2) (gi 3) (x % 1024) s.i (by omega) hs) (fun _ h => h.elim) nd_ret
end Go.Ideal.B1
