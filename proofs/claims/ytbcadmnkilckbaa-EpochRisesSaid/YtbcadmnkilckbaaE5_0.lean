/- Chapter 11: EpochRises, the rounds of thread 0. Written by gen/rises.py. Own text. -/
import Derived.Test.YtbcadmnkilckbaaE5a
namespace Go.Ideal.E5
open Go.Proofs Go.Ideal Go.Ideal.L1 Go.Ideal.E1
set_option linter.unusedSimpArgs false
set_option linter.unusedVariables false
set_option maxRecDepth 100000
set_option maxHeartbeats 80000000

theorem er_000_0A (f : Nat → Int) (n : Nat) (W : Nat → Int) (e : Int) (i : Nat)  (hn : n ≤ 9223372036854775807) (hi : i < n) (hi9 : i < 90) (he : 0 ≤ e ∧ e ≤ 90) (hW : W 29 = 4 * e) (ht : f i % 1024 % 3 = 0) : ∃ hh, vcOf (runAt Try.prog specs noL 6000 12 [1, 1, 1, 1, 1, 1, 0, 1, 0, 0] (Tr.ofPairs (rT n e i)) (Hm (rB f n W [.nilp, .nilp, .nilp] []) 6) hh)
    (nrm 6 [0, 1, 2, 3, 4, 5, 6] (rT n e (i + 1)) (rB f n W [.ptr 6 (.c 0), .nilp, .nilp] [adv 0 e]) 7) := by
  have w1 : IntKind.i64.wrap ((i : Int) + 1) = i + 1 := wrapk _ (by omega)
  have w2 : IntKind.i64.wrap (4 * e) = 4 * e := wrapk _ (by omega)
  have w3 : IntKind.i64.wrap (e + 1) = e + 1 := wrapk _ (by omega)
  have g1 := Wd.isVal_mk (x := 4 * e) (by omega) (by omega) (by omega)
  have g2 : Wd.plV (4 * e) = e := by rw [g1.2]; omega
  have g3 : e < 1048576 := by omega
  have g4 : IntKind.i64.wrap (e * 4) = 4 * e := by rw [wrapk _ (by omega)]; omega
  have g5 : IntKind.i64.wrap ((e + 1) * 4) = 4 * (e + 1) := by rw [wrapk _ (by omega)]; omega
  have g6 : IntKind.i64.wrap (4 * (e + 1)) = 4 * (e + 1) := wrapk _ (by omega)
  have ht2 : (f i % 1024).tmod 3 = 0 := by rw [Int.tmod_eq_emod_of_nonneg (by omega)]; exact ht
  have w9 : IntKind.i64.wrap 0 = 0 := by decide

  rcases Bool.eq_false_or_eq_true (decide ((↑i : Int) < (↑n : Int))) with h0 | h0
  ·
   rcases Bool.eq_false_or_eq_true (decide ((↑i : Int) < (90 : Int))) with h1 | h1
   ·
    rcases Bool.eq_false_or_eq_true (decide ((f i % (1024 : Int)).tmod (3 : Int) = (0 : Int))) with h2 | h2
    ·
     rcases Bool.eq_false_or_eq_true (Wd.isVal (W (29 : Nat))) with h3 | h3
     ·
      rcases Bool.eq_false_or_eq_true (!decide (Wd.plV (W (29 : Nat)) < (1073741823 : Int))) with h4 | h4
      · exact ff (by (simp [w1, w2, w3, g1.1, g2, g4, g5, g6, hW, ht, ht2, w9] at *; omega))
      ·
       rcases Bool.eq_false_or_eq_true (W (29 : Nat) != IntKind.i64.wrap ((4 : Int) * e)) with h5 | h5
       · exact ff (by (simp [w1, w2, w3, g1.1, g2, g4, g5, g6, hW, ht, ht2, w9] at *; done))
       ·
        refine vcIntro [true, true, true, true, true, true, false, false] (an (an h5 (an h4 (an h3 (an h2 (an h2 (an h2 (an (show i.succ ≤ n * (1 : Nat) by omega) (an (an (show (0 : Int) ≤ (↑i : Int) by (simp; done)) (show (↑i : Int) + (1 : Int) ≤ (↑n : Int) by omega)) (an h1 (an h0 tt)))))))))) (an (an (an tt (an (@Eq.refl (Nat) n) (show n ≤ n by (simp; done)))) (an tt (an tt (an (ri e) (an (show (↑(i + (1 : Nat)) : Int) = IntKind.i64.wrap ((↑i : Int) + (1 : Int)) by omega) tt))))) (an (an (show n * (1 : Nat) ≤ n * (1 : Nat) by (simp; done)) (show ∀ (k : Nat), k < n * (1 : Nat) → f k = f k from fun _ _ => rfl)) (an (an (@Eq.refl (Nat) ((634 : Nat))) (an (show ∀ (k : Nat), k < (634 : Nat) → W k = if k = (29 : Nat) then W (29 : Nat) else if k = (29 : Nat) then W (29 : Nat) else W k by (intro j hj; (repeat' split) <;> (first | rfl | (congr 1; omega) | (simp_all; done)))) (an tt (an tt (an tt (an tt (an tt (an tt (an tt (an tt tt)))))))))) (an (an (@Eq.refl (Nat) ((0 : Nat))) (an (show ∀ (k : Nat), k < (0 : Nat) → (0 : Int) = (0 : Int) from fun _ _ => rfl) (an tt (an tt tt)))) (an (an (@Eq.refl (Nat) ((0 : Nat))) (an (show ∀ (k : Nat), k < (0 : Nat) → (0 : Int) = (0 : Int) from fun _ _ => rfl) (an tt (an (ri ((0 : Int))) (an (show e = Wd.plV (W (29 : Nat)) by (simp [w1, w2, w3, g1.1, g2, g4, g5, g6, hW, ht, ht2, w9]; done)) (an tt tt)))))) tt)))))) ?_
        kernel_rfl
     · exact ff (by (simp [w1, w2, w3, g1.1, g2, g4, g5, g6, hW, ht, ht2, w9] at *; done))
    · exact ff (by (simp [w1, w2, w3, g1.1, g2, g4, g5, g6, hW, ht, ht2, w9] at *; done))
   · exact ff (by (simp at *; omega))
  · exact ff (by (simp at *; omega))
theorem er_001_0A (f : Nat → Int) (n : Nat) (W : Nat → Int) (e : Int) (i : Nat) (q2 E2 : Int) (hn : n ≤ 9223372036854775807) (hi : i < n) (hi9 : i < 90) (he : 0 ≤ e ∧ e ≤ 90) (hW : W 29 = 4 * e) (ht : f i % 1024 % 3 = 0) : ∃ hh, vcOf (runAt Try.prog specs noL 6000 12 [1, 1, 1, 1, 1, 1, 0, 1, 0, 0] (Tr.ofPairs (rT n e i)) (Hm (rB f n W [.nilp, .nilp, .ptr 6 (.c 0)] [adv q2 E2]) 7) hh)
    (nrm 6 [0, 1, 2, 3, 4, 5, 7, 6] (rT n e (i + 1)) (rB f n W [.ptr 6 (.c 0), .nilp, .ptr 7 (.c 0)] [adv 0 e, adv q2 E2]) 8) := by
  have w1 : IntKind.i64.wrap ((i : Int) + 1) = i + 1 := wrapk _ (by omega)
  have w2 : IntKind.i64.wrap (4 * e) = 4 * e := wrapk _ (by omega)
  have w3 : IntKind.i64.wrap (e + 1) = e + 1 := wrapk _ (by omega)
  have g1 := Wd.isVal_mk (x := 4 * e) (by omega) (by omega) (by omega)
  have g2 : Wd.plV (4 * e) = e := by rw [g1.2]; omega
  have g3 : e < 1048576 := by omega
  have g4 : IntKind.i64.wrap (e * 4) = 4 * e := by rw [wrapk _ (by omega)]; omega
  have g5 : IntKind.i64.wrap ((e + 1) * 4) = 4 * (e + 1) := by rw [wrapk _ (by omega)]; omega
  have g6 : IntKind.i64.wrap (4 * (e + 1)) = 4 * (e + 1) := wrapk _ (by omega)
  have ht2 : (f i % 1024).tmod 3 = 0 := by rw [Int.tmod_eq_emod_of_nonneg (by omega)]; exact ht
  have w9 : IntKind.i64.wrap 0 = 0 := by decide

  rcases Bool.eq_false_or_eq_true (decide ((↑i : Int) < (↑n : Int))) with h0 | h0
  ·
   rcases Bool.eq_false_or_eq_true (decide ((↑i : Int) < (90 : Int))) with h1 | h1
   ·
    rcases Bool.eq_false_or_eq_true (decide ((f i % (1024 : Int)).tmod (3 : Int) = (0 : Int))) with h2 | h2
    ·
     rcases Bool.eq_false_or_eq_true (Wd.isVal (W (29 : Nat))) with h3 | h3
     ·
      rcases Bool.eq_false_or_eq_true (!decide (Wd.plV (W (29 : Nat)) < (1073741823 : Int))) with h4 | h4
      · exact ff (by (simp [w1, w2, w3, g1.1, g2, g4, g5, g6, hW, ht, ht2, w9] at *; omega))
      ·
       rcases Bool.eq_false_or_eq_true (W (29 : Nat) != IntKind.i64.wrap ((4 : Int) * e)) with h5 | h5
       · exact ff (by (simp [w1, w2, w3, g1.1, g2, g4, g5, g6, hW, ht, ht2, w9] at *; done))
       ·
        refine vcIntro [true, true, true, true, true, true, false, false] (an (an h5 (an h4 (an h3 (an h2 (an h2 (an h2 (an (show i.succ ≤ n * (1 : Nat) by omega) (an (an (show (0 : Int) ≤ (↑i : Int) by (simp; done)) (show (↑i : Int) + (1 : Int) ≤ (↑n : Int) by omega)) (an h1 (an h0 tt)))))))))) (an (an (an tt (an (@Eq.refl (Nat) n) (show n ≤ n by (simp; done)))) (an tt (an tt (an (ri e) (an (show (↑(i + (1 : Nat)) : Int) = IntKind.i64.wrap ((↑i : Int) + (1 : Int)) by omega) tt))))) (an (an (show n * (1 : Nat) ≤ n * (1 : Nat) by (simp; done)) (show ∀ (k : Nat), k < n * (1 : Nat) → f k = f k from fun _ _ => rfl)) (an (an (@Eq.refl (Nat) ((634 : Nat))) (an (show ∀ (k : Nat), k < (634 : Nat) → W k = if k = (29 : Nat) then W (29 : Nat) else if k = (29 : Nat) then W (29 : Nat) else W k by (intro j hj; (repeat' split) <;> (first | rfl | (congr 1; omega) | (simp_all; done)))) (an tt (an tt (an tt (an tt (an tt (an tt (an tt (an tt tt)))))))))) (an (an (@Eq.refl (Nat) ((0 : Nat))) (an (show ∀ (k : Nat), k < (0 : Nat) → (0 : Int) = (0 : Int) from fun _ _ => rfl) (an tt (an tt tt)))) (an (an (@Eq.refl (Nat) ((0 : Nat))) (an (show ∀ (k : Nat), k < (0 : Nat) → (0 : Int) = (0 : Int) from fun _ _ => rfl) (an tt (an (ri ((0 : Int))) (an (show e = Wd.plV (W (29 : Nat)) by (simp [w1, w2, w3, g1.1, g2, g4, g5, g6, hW, ht, ht2, w9]; done)) (an tt tt)))))) (an (an (@Eq.refl (Nat) ((0 : Nat))) (an (show ∀ (k : Nat), k < (0 : Nat) → (0 : Int) = (0 : Int) from fun _ _ => rfl) (an tt (an (ri q2) (an (ri E2) (an tt tt)))))) tt))))))) ?_
        kernel_rfl
     · exact ff (by (simp [w1, w2, w3, g1.1, g2, g4, g5, g6, hW, ht, ht2, w9] at *; done))
    · exact ff (by (simp [w1, w2, w3, g1.1, g2, g4, g5, g6, hW, ht, ht2, w9] at *; done))
   · exact ff (by (simp at *; omega))
  · exact ff (by (simp at *; omega))
theorem er_010_0A (f : Nat → Int) (n : Nat) (W : Nat → Int) (e : Int) (i : Nat) (q1 E1 : Int) (hn : n ≤ 9223372036854775807) (hi : i < n) (hi9 : i < 90) (he : 0 ≤ e ∧ e ≤ 90) (hW : W 29 = 4 * e) (ht : f i % 1024 % 3 = 0) : ∃ hh, vcOf (runAt Try.prog specs noL 6000 12 [1, 1, 1, 1, 1, 1, 0, 1, 0, 0] (Tr.ofPairs (rT n e i)) (Hm (rB f n W [.nilp, .ptr 6 (.c 0), .nilp] [adv q1 E1]) 7) hh)
    (nrm 6 [0, 1, 2, 3, 4, 5, 7, 6] (rT n e (i + 1)) (rB f n W [.ptr 6 (.c 0), .ptr 7 (.c 0), .nilp] [adv 0 e, adv q1 E1]) 8) := by
  have w1 : IntKind.i64.wrap ((i : Int) + 1) = i + 1 := wrapk _ (by omega)
  have w2 : IntKind.i64.wrap (4 * e) = 4 * e := wrapk _ (by omega)
  have w3 : IntKind.i64.wrap (e + 1) = e + 1 := wrapk _ (by omega)
  have g1 := Wd.isVal_mk (x := 4 * e) (by omega) (by omega) (by omega)
  have g2 : Wd.plV (4 * e) = e := by rw [g1.2]; omega
  have g3 : e < 1048576 := by omega
  have g4 : IntKind.i64.wrap (e * 4) = 4 * e := by rw [wrapk _ (by omega)]; omega
  have g5 : IntKind.i64.wrap ((e + 1) * 4) = 4 * (e + 1) := by rw [wrapk _ (by omega)]; omega
  have g6 : IntKind.i64.wrap (4 * (e + 1)) = 4 * (e + 1) := wrapk _ (by omega)
  have ht2 : (f i % 1024).tmod 3 = 0 := by rw [Int.tmod_eq_emod_of_nonneg (by omega)]; exact ht
  have w9 : IntKind.i64.wrap 0 = 0 := by decide

  rcases Bool.eq_false_or_eq_true (decide ((↑i : Int) < (↑n : Int))) with h0 | h0
  ·
   rcases Bool.eq_false_or_eq_true (decide ((↑i : Int) < (90 : Int))) with h1 | h1
   ·
    rcases Bool.eq_false_or_eq_true (decide ((f i % (1024 : Int)).tmod (3 : Int) = (0 : Int))) with h2 | h2
    ·
     rcases Bool.eq_false_or_eq_true (Wd.isVal (W (29 : Nat))) with h3 | h3
     ·
      rcases Bool.eq_false_or_eq_true (!decide (Wd.plV (W (29 : Nat)) < (1073741823 : Int))) with h4 | h4
      · exact ff (by (simp [w1, w2, w3, g1.1, g2, g4, g5, g6, hW, ht, ht2, w9] at *; omega))
      ·
       rcases Bool.eq_false_or_eq_true (W (29 : Nat) != IntKind.i64.wrap ((4 : Int) * e)) with h5 | h5
       · exact ff (by (simp [w1, w2, w3, g1.1, g2, g4, g5, g6, hW, ht, ht2, w9] at *; done))
       ·
        refine vcIntro [true, true, true, true, true, true, false, false] (an (an h5 (an h4 (an h3 (an h2 (an h2 (an h2 (an (show i.succ ≤ n * (1 : Nat) by omega) (an (an (show (0 : Int) ≤ (↑i : Int) by (simp; done)) (show (↑i : Int) + (1 : Int) ≤ (↑n : Int) by omega)) (an h1 (an h0 tt)))))))))) (an (an (an tt (an (@Eq.refl (Nat) n) (show n ≤ n by (simp; done)))) (an tt (an tt (an (ri e) (an (show (↑(i + (1 : Nat)) : Int) = IntKind.i64.wrap ((↑i : Int) + (1 : Int)) by omega) tt))))) (an (an (show n * (1 : Nat) ≤ n * (1 : Nat) by (simp; done)) (show ∀ (k : Nat), k < n * (1 : Nat) → f k = f k from fun _ _ => rfl)) (an (an (@Eq.refl (Nat) ((634 : Nat))) (an (show ∀ (k : Nat), k < (634 : Nat) → W k = if k = (29 : Nat) then W (29 : Nat) else if k = (29 : Nat) then W (29 : Nat) else W k by (intro j hj; (repeat' split) <;> (first | rfl | (congr 1; omega) | (simp_all; done)))) (an tt (an tt (an tt (an tt (an tt (an tt (an tt (an tt tt)))))))))) (an (an (@Eq.refl (Nat) ((0 : Nat))) (an (show ∀ (k : Nat), k < (0 : Nat) → (0 : Int) = (0 : Int) from fun _ _ => rfl) (an tt (an tt tt)))) (an (an (@Eq.refl (Nat) ((0 : Nat))) (an (show ∀ (k : Nat), k < (0 : Nat) → (0 : Int) = (0 : Int) from fun _ _ => rfl) (an tt (an (ri ((0 : Int))) (an (show e = Wd.plV (W (29 : Nat)) by (simp [w1, w2, w3, g1.1, g2, g4, g5, g6, hW, ht, ht2, w9]; done)) (an tt tt)))))) (an (an (@Eq.refl (Nat) ((0 : Nat))) (an (show ∀ (k : Nat), k < (0 : Nat) → (0 : Int) = (0 : Int) from fun _ _ => rfl) (an tt (an (ri q1) (an (ri E1) (an tt tt)))))) tt))))))) ?_
        kernel_rfl
     · exact ff (by (simp [w1, w2, w3, g1.1, g2, g4, g5, g6, hW, ht, ht2, w9] at *; done))
    · exact ff (by (simp [w1, w2, w3, g1.1, g2, g4, g5, g6, hW, ht, ht2, w9] at *; done))
   · exact ff (by (simp at *; omega))
  · exact ff (by (simp at *; omega))
theorem er_011_0A (f : Nat → Int) (n : Nat) (W : Nat → Int) (e : Int) (i : Nat) (q1 E1 : Int) (q2 E2 : Int) (hn : n ≤ 9223372036854775807) (hi : i < n) (hi9 : i < 90) (he : 0 ≤ e ∧ e ≤ 90) (hW : W 29 = 4 * e) (ht : f i % 1024 % 3 = 0) : ∃ hh, vcOf (runAt Try.prog specs noL 6000 12 [1, 1, 1, 1, 1, 1, 0, 1, 0, 0] (Tr.ofPairs (rT n e i)) (Hm (rB f n W [.nilp, .ptr 6 (.c 0), .ptr 7 (.c 0)] [adv q1 E1, adv q2 E2]) 8) hh)
    (nrm 6 [0, 1, 2, 3, 4, 5, 8, 6, 7] (rT n e (i + 1)) (rB f n W [.ptr 6 (.c 0), .ptr 7 (.c 0), .ptr 8 (.c 0)] [adv 0 e, adv q1 E1, adv q2 E2]) 9) := by
  have w1 : IntKind.i64.wrap ((i : Int) + 1) = i + 1 := wrapk _ (by omega)
  have w2 : IntKind.i64.wrap (4 * e) = 4 * e := wrapk _ (by omega)
  have w3 : IntKind.i64.wrap (e + 1) = e + 1 := wrapk _ (by omega)
  have g1 := Wd.isVal_mk (x := 4 * e) (by omega) (by omega) (by omega)
  have g2 : Wd.plV (4 * e) = e := by rw [g1.2]; omega
  have g3 : e < 1048576 := by omega
  have g4 : IntKind.i64.wrap (e * 4) = 4 * e := by rw [wrapk _ (by omega)]; omega
  have g5 : IntKind.i64.wrap ((e + 1) * 4) = 4 * (e + 1) := by rw [wrapk _ (by omega)]; omega
  have g6 : IntKind.i64.wrap (4 * (e + 1)) = 4 * (e + 1) := wrapk _ (by omega)
  have ht2 : (f i % 1024).tmod 3 = 0 := by rw [Int.tmod_eq_emod_of_nonneg (by omega)]; exact ht
  have w9 : IntKind.i64.wrap 0 = 0 := by decide

  rcases Bool.eq_false_or_eq_true (decide ((↑i : Int) < (↑n : Int))) with h0 | h0
  ·
   rcases Bool.eq_false_or_eq_true (decide ((↑i : Int) < (90 : Int))) with h1 | h1
   ·
    rcases Bool.eq_false_or_eq_true (decide ((f i % (1024 : Int)).tmod (3 : Int) = (0 : Int))) with h2 | h2
    ·
     rcases Bool.eq_false_or_eq_true (Wd.isVal (W (29 : Nat))) with h3 | h3
     ·
      rcases Bool.eq_false_or_eq_true (!decide (Wd.plV (W (29 : Nat)) < (1073741823 : Int))) with h4 | h4
      · exact ff (by (simp [w1, w2, w3, g1.1, g2, g4, g5, g6, hW, ht, ht2, w9] at *; omega))
      ·
       rcases Bool.eq_false_or_eq_true (W (29 : Nat) != IntKind.i64.wrap ((4 : Int) * e)) with h5 | h5
       · exact ff (by (simp [w1, w2, w3, g1.1, g2, g4, g5, g6, hW, ht, ht2, w9] at *; done))
       ·
        refine vcIntro [true, true, true, true, true, true, false, false] (an (an h5 (an h4 (an h3 (an h2 (an h2 (an h2 (an (show i.succ ≤ n * (1 : Nat) by omega) (an (an (show (0 : Int) ≤ (↑i : Int) by (simp; done)) (show (↑i : Int) + (1 : Int) ≤ (↑n : Int) by omega)) (an h1 (an h0 tt)))))))))) (an (an (an tt (an (@Eq.refl (Nat) n) (show n ≤ n by (simp; done)))) (an tt (an tt (an (ri e) (an (show (↑(i + (1 : Nat)) : Int) = IntKind.i64.wrap ((↑i : Int) + (1 : Int)) by omega) tt))))) (an (an (show n * (1 : Nat) ≤ n * (1 : Nat) by (simp; done)) (show ∀ (k : Nat), k < n * (1 : Nat) → f k = f k from fun _ _ => rfl)) (an (an (@Eq.refl (Nat) ((634 : Nat))) (an (show ∀ (k : Nat), k < (634 : Nat) → W k = if k = (29 : Nat) then W (29 : Nat) else if k = (29 : Nat) then W (29 : Nat) else W k by (intro j hj; (repeat' split) <;> (first | rfl | (congr 1; omega) | (simp_all; done)))) (an tt (an tt (an tt (an tt (an tt (an tt (an tt (an tt tt)))))))))) (an (an (@Eq.refl (Nat) ((0 : Nat))) (an (show ∀ (k : Nat), k < (0 : Nat) → (0 : Int) = (0 : Int) from fun _ _ => rfl) (an tt (an tt tt)))) (an (an (@Eq.refl (Nat) ((0 : Nat))) (an (show ∀ (k : Nat), k < (0 : Nat) → (0 : Int) = (0 : Int) from fun _ _ => rfl) (an tt (an (ri ((0 : Int))) (an (show e = Wd.plV (W (29 : Nat)) by (simp [w1, w2, w3, g1.1, g2, g4, g5, g6, hW, ht, ht2, w9]; done)) (an tt tt)))))) (an (an (@Eq.refl (Nat) ((0 : Nat))) (an (show ∀ (k : Nat), k < (0 : Nat) → (0 : Int) = (0 : Int) from fun _ _ => rfl) (an tt (an (ri q1) (an (ri E1) (an tt tt)))))) (an (an (@Eq.refl (Nat) ((0 : Nat))) (an (show ∀ (k : Nat), k < (0 : Nat) → (0 : Int) = (0 : Int) from fun _ _ => rfl) (an tt (an (ri q2) (an (ri E2) (an tt tt)))))) tt)))))))) ?_
        kernel_rfl
     · exact ff (by (simp [w1, w2, w3, g1.1, g2, g4, g5, g6, hW, ht, ht2, w9] at *; done))
    · exact ff (by (simp [w1, w2, w3, g1.1, g2, g4, g5, g6, hW, ht, ht2, w9] at *; done))
   · exact ff (by (simp at *; omega))
  · exact ff (by (simp at *; omega))
theorem er_100_0B (f : Nat → Int) (n : Nat) (W : Nat → Int) (e : Int) (i : Nat) (q0 E0 : Int) (hn : n ≤ 9223372036854775807) (hi : i < n) (hi9 : i < 90) (he : 0 ≤ e ∧ e ≤ 90) (hW : W 29 = 4 * e) (ht : f i % 1024 % 3 = 0) (hq : 0 ≤ q0 ∧ q0 < 2) (hS : W (30 + q0).toNat = 0) : ∃ hh, vcOf (runAt Try.prog specs noL 6000 12 [1, 1, 1, 1, 1, 1, 0, 1, 0, 0] (Tr.ofPairs (rT n e i)) (Hm (rB f n W [.ptr 6 (.c 0), .nilp, .nilp] [adv q0 E0]) 7) hh)
    (nrm 6 [0, 1, 2, 3, 4, 5, 6] (rT n e (i + 1)) (rB f n W [.ptr 6 (.c 0), .nilp, .nilp] [adv (q0 + 1) E0]) 7) := by
  have w1 : IntKind.i64.wrap ((i : Int) + 1) = i + 1 := wrapk _ (by omega)
  have w2 : IntKind.i64.wrap (4 * e) = 4 * e := wrapk _ (by omega)
  have w3 : IntKind.i64.wrap (e + 1) = e + 1 := wrapk _ (by omega)
  have g1 := Wd.isVal_mk (x := 4 * e) (by omega) (by omega) (by omega)
  have g2 : Wd.plV (4 * e) = e := by rw [g1.2]; omega
  have g3 : e < 1048576 := by omega
  have g4 : IntKind.i64.wrap (e * 4) = 4 * e := by rw [wrapk _ (by omega)]; omega
  have g5 : IntKind.i64.wrap ((e + 1) * 4) = 4 * (e + 1) := by rw [wrapk _ (by omega)]; omega
  have g6 : IntKind.i64.wrap (4 * (e + 1)) = 4 * (e + 1) := wrapk _ (by omega)
  have ht2 : (f i % 1024).tmod 3 = 0 := by rw [Int.tmod_eq_emod_of_nonneg (by omega)]; exact ht
  have w9 : IntKind.i64.wrap 0 = 0 := by decide
  have w4 : IntKind.i64.wrap (q0 + 1) = q0 + 1 := wrapk _ (by omega)
  have w5 : IntKind.i64.wrap (30 + q0) = 30 + q0 := wrapk _ (by omega)
  have v0 : Wd.isVal 0 = true := by decide
  have v1 : Wd.plV 0 = 0 := by decide

  rcases Bool.eq_false_or_eq_true (decide ((↑i : Int) < (↑n : Int))) with h0 | h0
  ·
   rcases Bool.eq_false_or_eq_true (decide ((↑i : Int) < (90 : Int))) with h1 | h1
   ·
    rcases Bool.eq_false_or_eq_true (decide ((f i % (1024 : Int)).tmod (3 : Int) = (0 : Int))) with h2 | h2
    ·
     rcases Bool.eq_false_or_eq_true (decide (q0 < (0 : Int))) with h3 | h3
     · exact ff (by (simp at *; omega))
     ·
      rcases Bool.eq_false_or_eq_true (decide (q0 < (2 : Int))) with h4 | h4
      ·
       rcases Bool.eq_false_or_eq_true (Wd.plV (W (IntKind.i64.wrap ((30 : Int) + q0)).toNat) != (0 : Int)) with h5 | h5
       · exact ff (by (simp [w1, w2, w3, g1.1, g2, g4, g5, g6, hW, ht, ht2, w9, w4, w5, v0, v1, hS] at *; done))
       ·
        rcases Bool.eq_false_or_eq_true (!Wd.isVal (W (IntKind.i64.wrap ((30 : Int) + q0)).toNat)) with h6 | h6
        · exact ff (by (simp [w1, w2, w3, g1.1, g2, g4, g5, g6, hW, ht, ht2, w9, w4, w5, v0, v1, hS] at *; done))
        ·
         rcases Bool.eq_false_or_eq_true ((if (29 : Nat) = (IntKind.i64.wrap ((30 : Int) + q0)).toNat then W (IntKind.i64.wrap ((30 : Int) + q0)).toNat else W (29 : Nat)) != IntKind.i64.wrap ((4 : Int) * e)) with h7 | h7
         · exact ff (by (simp at *; omega))
         ·
          refine vcIntro [true, true, true, true, false, true, false, false, false] (an (an h7 (an h6 (an h5 (an (an (show (0 : Int) ≤ IntKind.i64.wrap ((30 : Int) + q0) by omega) (show IntKind.i64.wrap ((30 : Int) + q0) + (1 : Int) ≤ (634 : Int) by omega)) (an h4 (an h3 (an h2 (an h2 (an (show i.succ ≤ n * (1 : Nat) by omega) (an (an (show (0 : Int) ≤ (↑i : Int) by (simp; done)) (show (↑i : Int) + (1 : Int) ≤ (↑n : Int) by omega)) (an h1 (an h0 tt)))))))))))) (an (an (an tt (an (@Eq.refl (Nat) n) (show n ≤ n by (simp; done)))) (an tt (an tt (an (ri e) (an (show (↑(i + (1 : Nat)) : Int) = IntKind.i64.wrap ((↑i : Int) + (1 : Int)) by omega) tt))))) (an (an (show n * (1 : Nat) ≤ n * (1 : Nat) by (simp; done)) (show ∀ (k : Nat), k < n * (1 : Nat) → f k = f k from fun _ _ => rfl)) (an (an (@Eq.refl (Nat) ((634 : Nat))) (an (show ∀ (k : Nat), k < (634 : Nat) → W k = if k = (29 : Nat) then if (29 : Nat) = (IntKind.i64.wrap ((30 : Int) + q0)).toNat then W (IntKind.i64.wrap ((30 : Int) + q0)).toNat else W (29 : Nat) else if k = (IntKind.i64.wrap ((30 : Int) + q0)).toNat then W (IntKind.i64.wrap ((30 : Int) + q0)).toNat else W k by (intro j hj; (repeat' split) <;> (first | rfl | (congr 1; omega) | (simp_all; done)))) (an tt (an tt (an tt (an tt (an tt (an tt (an tt (an tt tt)))))))))) (an (an (@Eq.refl (Nat) ((0 : Nat))) (an (show ∀ (k : Nat), k < (0 : Nat) → (0 : Int) = (0 : Int) from fun _ _ => rfl) (an tt (an tt tt)))) (an (an (@Eq.refl (Nat) ((0 : Nat))) (an (show ∀ (k : Nat), k < (0 : Nat) → (0 : Int) = (0 : Int) from fun _ _ => rfl) (an tt (an (show q0 + (1 : Int) = IntKind.i64.wrap (q0 + (1 : Int)) by omega) (an (ri E0) (an tt tt)))))) tt)))))) ?_
          kernel_rfl
      · exact ff (by (simp at *; omega))
    · exact ff (by (simp [w1, w2, w3, g1.1, g2, g4, g5, g6, hW, ht, ht2, w9, w4, w5, v0, v1, hS] at *; done))
   · exact ff (by (simp at *; omega))
  · exact ff (by (simp at *; omega))
theorem er_100_0C (f : Nat → Int) (n : Nat) (W : Nat → Int) (e : Int) (i : Nat) (q0 E0 : Int) (hn : n ≤ 9223372036854775807) (hi : i < n) (hi9 : i < 90) (he : 0 ≤ e ∧ e ≤ 90) (hW : W 29 = 4 * e) (ht : f i % 1024 % 3 = 0) (hq : q0 = 2) (hE : 0 ≤ E0 ∧ E0 ≤ 90) (hEe : E0 = e) : ∃ hh, vcOf (runAt Try.prog specs noL 6000 12 [1, 1, 1, 1, 1, 1, 0, 1, 0, 0] (Tr.ofPairs (rT n e i)) (Hm (rB f n W [.ptr 6 (.c 0), .nilp, .nilp] [adv q0 E0]) 7) hh)
    (nrm 6 [0, 1, 2, 3, 4, 5] (rT n (e + 1) (i + 1)) (rB f n (A2.upd W 29 (4 * (e + 1))) [.nilp, .nilp, .nilp] []) 6) := by
  subst hq
  have w1 : IntKind.i64.wrap ((i : Int) + 1) = i + 1 := wrapk _ (by omega)
  have w2 : IntKind.i64.wrap (4 * e) = 4 * e := wrapk _ (by omega)
  have w3 : IntKind.i64.wrap (e + 1) = e + 1 := wrapk _ (by omega)
  have g1 := Wd.isVal_mk (x := 4 * e) (by omega) (by omega) (by omega)
  have g2 : Wd.plV (4 * e) = e := by rw [g1.2]; omega
  have g3 : e < 1048576 := by omega
  have g4 : IntKind.i64.wrap (e * 4) = 4 * e := by rw [wrapk _ (by omega)]; omega
  have g5 : IntKind.i64.wrap ((e + 1) * 4) = 4 * (e + 1) := by rw [wrapk _ (by omega)]; omega
  have g6 : IntKind.i64.wrap (4 * (e + 1)) = 4 * (e + 1) := wrapk _ (by omega)
  have ht2 : (f i % 1024).tmod 3 = 0 := by rw [Int.tmod_eq_emod_of_nonneg (by omega)]; exact ht
  have w9 : IntKind.i64.wrap 0 = 0 := by decide
  have w6 : IntKind.i64.wrap (E0 * 4) = 4 * E0 := by rw [wrapk _ (by omega)]; omega
  have w7 : IntKind.i64.wrap (4 * E0) = 4 * E0 := wrapk _ (by omega)
  have w8 : IntKind.i64.wrap (E0 + 1) = E0 + 1 := wrapk _ (by omega)
  have w10 : IntKind.i64.wrap ((E0 + 1) * 4) = 4 * (E0 + 1) := by rw [wrapk _ (by omega)]; omega
  have w11 : IntKind.i64.wrap (4 * (E0 + 1)) = 4 * (E0 + 1) := wrapk _ (by omega)

  rcases Bool.eq_false_or_eq_true (decide ((↑i : Int) < (↑n : Int))) with h0 | h0
  ·
   rcases Bool.eq_false_or_eq_true (decide ((↑i : Int) < (90 : Int))) with h1 | h1
   ·
    rcases Bool.eq_false_or_eq_true (decide ((f i % (1024 : Int)).tmod (3 : Int) = (0 : Int))) with h2 | h2
    ·
     have h3 : (decide ((2 : Int) < (0 : Int))) = false := by decide +kernel
     have h4 : (decide ((2 : Int) < (2 : Int))) = false := by decide +kernel
     rcases Bool.eq_false_or_eq_true (W (29 : Nat) == IntKind.i64.wrap (IntKind.i64.wrap (E0 * (4 : Int)) + (0 : Int))) with h5 | h5
     ·
      rcases Bool.eq_false_or_eq_true ((if W (29 : Nat) = IntKind.i64.wrap (IntKind.i64.wrap (E0 * (4 : Int)) + (0 : Int)) then IntKind.i64.wrap (IntKind.i64.wrap (IntKind.i64.wrap (E0 + (1 : Int)) * (4 : Int)) + (0 : Int)) else W (29 : Nat)) != IntKind.i64.wrap ((4 : Int) * IntKind.i64.wrap (e + (1 : Int)))) with h6 | h6
      · exact ff (by (simp [w1, w2, w3, g1.1, g2, g4, g5, g6, hW, ht, ht2, w9, w6, w7, w8, w10, w11, hEe] at *; done))
      ·
       refine vcIntro [true, true, true, true, false, false, true, true, true, false] (an (an h6 (an h2 (an h5 (an h2 (an h4 (an h3 (an h2 (an h2 (an (show i.succ ≤ n * (1 : Nat) by omega) (an (an (show (0 : Int) ≤ (↑i : Int) by (simp; done)) (show (↑i : Int) + (1 : Int) ≤ (↑n : Int) by omega)) (an h1 (an h0 tt)))))))))))) (an (an (an tt (an (@Eq.refl (Nat) n) (show n ≤ n by (simp; done)))) (an tt (an tt (an (show e + (1 : Int) = IntKind.i64.wrap (e + (1 : Int)) by omega) (an (show (↑(i + (1 : Nat)) : Int) = IntKind.i64.wrap ((↑i : Int) + (1 : Int)) by omega) tt))))) (an (an (show n * (1 : Nat) ≤ n * (1 : Nat) by (simp; done)) (show ∀ (k : Nat), k < n * (1 : Nat) → f k = f k from fun _ _ => rfl)) (an (an (@Eq.refl (Nat) ((634 : Nat))) (an (show ∀ (k : Nat), k < (634 : Nat) → (if k = (29 : Nat) then (4 : Int) * (e + (1 : Int)) else W k) = if k = (29 : Nat) then if W (29 : Nat) = IntKind.i64.wrap (IntKind.i64.wrap (E0 * (4 : Int)) + (0 : Int)) then IntKind.i64.wrap (IntKind.i64.wrap (IntKind.i64.wrap (E0 + (1 : Int)) * (4 : Int)) + (0 : Int)) else W (29 : Nat) else if k = (29 : Nat) then if W (29 : Nat) = IntKind.i64.wrap (IntKind.i64.wrap (E0 * (4 : Int)) + (0 : Int)) then IntKind.i64.wrap (IntKind.i64.wrap (IntKind.i64.wrap (E0 + (1 : Int)) * (4 : Int)) + (0 : Int)) else W (29 : Nat) else W k by (simp [w1, w2, w3, g1.1, g2, g4, g5, g6, hW, ht, ht2, w9, w6, w7, w8, w10, w11, hEe] at *; omega)) (an tt (an tt (an tt (an tt (an tt (an tt (an tt (an tt tt)))))))))) (an (an (@Eq.refl (Nat) ((0 : Nat))) (an (show ∀ (k : Nat), k < (0 : Nat) → (0 : Int) = (0 : Int) from fun _ _ => rfl) (an tt (an tt tt)))) tt))))) ?_
       kernel_rfl
     · exact ff (by (simp [w1, w2, w3, g1.1, g2, g4, g5, g6, hW, ht, ht2, w9, w6, w7, w8, w10, w11, hEe] at *; done))
    · exact ff (by (simp [w1, w2, w3, g1.1, g2, g4, g5, g6, hW, ht, ht2, w9, w6, w7, w8, w10, w11, hEe] at *; done))
   · exact ff (by (simp at *; omega))
  · exact ff (by (simp at *; omega))
theorem er_100_0D (f : Nat → Int) (n : Nat) (W : Nat → Int) (e : Int) (i : Nat) (q0 E0 : Int) (hn : n ≤ 9223372036854775807) (hi : i < n) (hi9 : i < 90) (he : 0 ≤ e ∧ e ≤ 90) (hW : W 29 = 4 * e) (ht : f i % 1024 % 3 = 0) (hq : q0 = 2) (hE : 0 ≤ E0 ∧ E0 ≤ 90) (hEe : ¬ E0 = e) : ∃ hh, vcOf (runAt Try.prog specs noL 6000 12 [1, 1, 1, 1, 1, 1, 0, 1, 0, 0] (Tr.ofPairs (rT n e i)) (Hm (rB f n W [.ptr 6 (.c 0), .nilp, .nilp] [adv q0 E0]) 7) hh)
    (nrm 6 [0, 1, 2, 3, 4, 5] (rT n e (i + 1)) (rB f n W [.nilp, .nilp, .nilp] []) 6) := by
  subst hq
  have w1 : IntKind.i64.wrap ((i : Int) + 1) = i + 1 := wrapk _ (by omega)
  have w2 : IntKind.i64.wrap (4 * e) = 4 * e := wrapk _ (by omega)
  have w3 : IntKind.i64.wrap (e + 1) = e + 1 := wrapk _ (by omega)
  have g1 := Wd.isVal_mk (x := 4 * e) (by omega) (by omega) (by omega)
  have g2 : Wd.plV (4 * e) = e := by rw [g1.2]; omega
  have g3 : e < 1048576 := by omega
  have g4 : IntKind.i64.wrap (e * 4) = 4 * e := by rw [wrapk _ (by omega)]; omega
  have g5 : IntKind.i64.wrap ((e + 1) * 4) = 4 * (e + 1) := by rw [wrapk _ (by omega)]; omega
  have g6 : IntKind.i64.wrap (4 * (e + 1)) = 4 * (e + 1) := wrapk _ (by omega)
  have ht2 : (f i % 1024).tmod 3 = 0 := by rw [Int.tmod_eq_emod_of_nonneg (by omega)]; exact ht
  have w9 : IntKind.i64.wrap 0 = 0 := by decide
  have w6 : IntKind.i64.wrap (E0 * 4) = 4 * E0 := by rw [wrapk _ (by omega)]; omega
  have w7 : IntKind.i64.wrap (4 * E0) = 4 * E0 := wrapk _ (by omega)
  have w8 : IntKind.i64.wrap (E0 + 1) = E0 + 1 := wrapk _ (by omega)
  have w10 : IntKind.i64.wrap ((E0 + 1) * 4) = 4 * (E0 + 1) := by rw [wrapk _ (by omega)]; omega
  have w11 : IntKind.i64.wrap (4 * (E0 + 1)) = 4 * (E0 + 1) := wrapk _ (by omega)

  rcases Bool.eq_false_or_eq_true (decide ((↑i : Int) < (↑n : Int))) with h0 | h0
  ·
   rcases Bool.eq_false_or_eq_true (decide ((↑i : Int) < (90 : Int))) with h1 | h1
   ·
    rcases Bool.eq_false_or_eq_true (decide ((f i % (1024 : Int)).tmod (3 : Int) = (0 : Int))) with h2 | h2
    ·
     have h3 : (decide ((2 : Int) < (0 : Int))) = false := by decide +kernel
     have h4 : (decide ((2 : Int) < (2 : Int))) = false := by decide +kernel
     rcases Bool.eq_false_or_eq_true (W (29 : Nat) == IntKind.i64.wrap (IntKind.i64.wrap (E0 * (4 : Int)) + (0 : Int))) with h5 | h5
     · exact ff (by (simp [w1, w2, w3, g1.1, g2, g4, g5, g6, hW, ht, ht2, w9, w6, w7, w8, w10, w11] at *; omega))
     ·
      rcases Bool.eq_false_or_eq_true ((if W (29 : Nat) = IntKind.i64.wrap (IntKind.i64.wrap (E0 * (4 : Int)) + (0 : Int)) then IntKind.i64.wrap (IntKind.i64.wrap (IntKind.i64.wrap (E0 + (1 : Int)) * (4 : Int)) + (0 : Int)) else W (29 : Nat)) != IntKind.i64.wrap ((4 : Int) * e)) with h6 | h6
      · exact ff (by (simp at *; omega))
      ·
       refine vcIntro [true, true, true, true, false, false, true, false, true, false] (an (an h6 (an h2 (an h5 (an h2 (an h4 (an h3 (an h2 (an h2 (an (show i.succ ≤ n * (1 : Nat) by omega) (an (an (show (0 : Int) ≤ (↑i : Int) by (simp; done)) (show (↑i : Int) + (1 : Int) ≤ (↑n : Int) by omega)) (an h1 (an h0 tt)))))))))))) (an (an (an tt (an (@Eq.refl (Nat) n) (show n ≤ n by (simp; done)))) (an tt (an tt (an (ri e) (an (show (↑(i + (1 : Nat)) : Int) = IntKind.i64.wrap ((↑i : Int) + (1 : Int)) by omega) tt))))) (an (an (show n * (1 : Nat) ≤ n * (1 : Nat) by (simp; done)) (show ∀ (k : Nat), k < n * (1 : Nat) → f k = f k from fun _ _ => rfl)) (an (an (@Eq.refl (Nat) ((634 : Nat))) (an (show ∀ (k : Nat), k < (634 : Nat) → W k = if k = (29 : Nat) then if W (29 : Nat) = IntKind.i64.wrap (IntKind.i64.wrap (E0 * (4 : Int)) + (0 : Int)) then IntKind.i64.wrap (IntKind.i64.wrap (IntKind.i64.wrap (E0 + (1 : Int)) * (4 : Int)) + (0 : Int)) else W (29 : Nat) else if k = (29 : Nat) then if W (29 : Nat) = IntKind.i64.wrap (IntKind.i64.wrap (E0 * (4 : Int)) + (0 : Int)) then IntKind.i64.wrap (IntKind.i64.wrap (IntKind.i64.wrap (E0 + (1 : Int)) * (4 : Int)) + (0 : Int)) else W (29 : Nat) else W k by (intro j hj; (repeat' split) <;> (first | rfl | (congr 1; omega) | (simp_all; done)))) (an tt (an tt (an tt (an tt (an tt (an tt (an tt (an tt tt)))))))))) (an (an (@Eq.refl (Nat) ((0 : Nat))) (an (show ∀ (k : Nat), k < (0 : Nat) → (0 : Int) = (0 : Int) from fun _ _ => rfl) (an tt (an tt tt)))) tt))))) ?_
       kernel_rfl
    · exact ff (by (simp [w1, w2, w3, g1.1, g2, g4, g5, g6, hW, ht, ht2, w9, w6, w7, w8, w10, w11] at *; done))
   · exact ff (by (simp at *; omega))
  · exact ff (by (simp at *; omega))
theorem er_101_0B (f : Nat → Int) (n : Nat) (W : Nat → Int) (e : Int) (i : Nat) (q0 E0 : Int) (q2 E2 : Int) (hn : n ≤ 9223372036854775807) (hi : i < n) (hi9 : i < 90) (he : 0 ≤ e ∧ e ≤ 90) (hW : W 29 = 4 * e) (ht : f i % 1024 % 3 = 0) (hq : 0 ≤ q0 ∧ q0 < 2) (hS : W (30 + q0).toNat = 0) : ∃ hh, vcOf (runAt Try.prog specs noL 6000 12 [1, 1, 1, 1, 1, 1, 0, 1, 0, 0] (Tr.ofPairs (rT n e i)) (Hm (rB f n W [.ptr 6 (.c 0), .nilp, .ptr 7 (.c 0)] [adv q0 E0, adv q2 E2]) 8) hh)
    (nrm 6 [0, 1, 2, 3, 4, 5, 6, 7] (rT n e (i + 1)) (rB f n W [.ptr 6 (.c 0), .nilp, .ptr 7 (.c 0)] [adv (q0 + 1) E0, adv q2 E2]) 8) := by
  have w1 : IntKind.i64.wrap ((i : Int) + 1) = i + 1 := wrapk _ (by omega)
  have w2 : IntKind.i64.wrap (4 * e) = 4 * e := wrapk _ (by omega)
  have w3 : IntKind.i64.wrap (e + 1) = e + 1 := wrapk _ (by omega)
  have g1 := Wd.isVal_mk (x := 4 * e) (by omega) (by omega) (by omega)
  have g2 : Wd.plV (4 * e) = e := by rw [g1.2]; omega
  have g3 : e < 1048576 := by omega
  have g4 : IntKind.i64.wrap (e * 4) = 4 * e := by rw [wrapk _ (by omega)]; omega
  have g5 : IntKind.i64.wrap ((e + 1) * 4) = 4 * (e + 1) := by rw [wrapk _ (by omega)]; omega
  have g6 : IntKind.i64.wrap (4 * (e + 1)) = 4 * (e + 1) := wrapk _ (by omega)
  have ht2 : (f i % 1024).tmod 3 = 0 := by rw [Int.tmod_eq_emod_of_nonneg (by omega)]; exact ht
  have w9 : IntKind.i64.wrap 0 = 0 := by decide
  have w4 : IntKind.i64.wrap (q0 + 1) = q0 + 1 := wrapk _ (by omega)
  have w5 : IntKind.i64.wrap (30 + q0) = 30 + q0 := wrapk _ (by omega)
  have v0 : Wd.isVal 0 = true := by decide
  have v1 : Wd.plV 0 = 0 := by decide

  rcases Bool.eq_false_or_eq_true (decide ((↑i : Int) < (↑n : Int))) with h0 | h0
  ·
   rcases Bool.eq_false_or_eq_true (decide ((↑i : Int) < (90 : Int))) with h1 | h1
   ·
    rcases Bool.eq_false_or_eq_true (decide ((f i % (1024 : Int)).tmod (3 : Int) = (0 : Int))) with h2 | h2
    ·
     rcases Bool.eq_false_or_eq_true (decide (q0 < (0 : Int))) with h3 | h3
     · exact ff (by (simp at *; omega))
     ·
      rcases Bool.eq_false_or_eq_true (decide (q0 < (2 : Int))) with h4 | h4
      ·
       rcases Bool.eq_false_or_eq_true (Wd.plV (W (IntKind.i64.wrap ((30 : Int) + q0)).toNat) != (0 : Int)) with h5 | h5
       · exact ff (by (simp [w1, w2, w3, g1.1, g2, g4, g5, g6, hW, ht, ht2, w9, w4, w5, v0, v1, hS] at *; done))
       ·
        rcases Bool.eq_false_or_eq_true (!Wd.isVal (W (IntKind.i64.wrap ((30 : Int) + q0)).toNat)) with h6 | h6
        · exact ff (by (simp [w1, w2, w3, g1.1, g2, g4, g5, g6, hW, ht, ht2, w9, w4, w5, v0, v1, hS] at *; done))
        ·
         rcases Bool.eq_false_or_eq_true ((if (29 : Nat) = (IntKind.i64.wrap ((30 : Int) + q0)).toNat then W (IntKind.i64.wrap ((30 : Int) + q0)).toNat else W (29 : Nat)) != IntKind.i64.wrap ((4 : Int) * e)) with h7 | h7
         · exact ff (by (simp at *; omega))
         ·
          refine vcIntro [true, true, true, true, false, true, false, false, false] (an (an h7 (an h6 (an h5 (an (an (show (0 : Int) ≤ IntKind.i64.wrap ((30 : Int) + q0) by omega) (show IntKind.i64.wrap ((30 : Int) + q0) + (1 : Int) ≤ (634 : Int) by omega)) (an h4 (an h3 (an h2 (an h2 (an (show i.succ ≤ n * (1 : Nat) by omega) (an (an (show (0 : Int) ≤ (↑i : Int) by (simp; done)) (show (↑i : Int) + (1 : Int) ≤ (↑n : Int) by omega)) (an h1 (an h0 tt)))))))))))) (an (an (an tt (an (@Eq.refl (Nat) n) (show n ≤ n by (simp; done)))) (an tt (an tt (an (ri e) (an (show (↑(i + (1 : Nat)) : Int) = IntKind.i64.wrap ((↑i : Int) + (1 : Int)) by omega) tt))))) (an (an (show n * (1 : Nat) ≤ n * (1 : Nat) by (simp; done)) (show ∀ (k : Nat), k < n * (1 : Nat) → f k = f k from fun _ _ => rfl)) (an (an (@Eq.refl (Nat) ((634 : Nat))) (an (show ∀ (k : Nat), k < (634 : Nat) → W k = if k = (29 : Nat) then if (29 : Nat) = (IntKind.i64.wrap ((30 : Int) + q0)).toNat then W (IntKind.i64.wrap ((30 : Int) + q0)).toNat else W (29 : Nat) else if k = (IntKind.i64.wrap ((30 : Int) + q0)).toNat then W (IntKind.i64.wrap ((30 : Int) + q0)).toNat else W k by (intro j hj; (repeat' split) <;> (first | rfl | (congr 1; omega) | (simp_all; done)))) (an tt (an tt (an tt (an tt (an tt (an tt (an tt (an tt tt)))))))))) (an (an (@Eq.refl (Nat) ((0 : Nat))) (an (show ∀ (k : Nat), k < (0 : Nat) → (0 : Int) = (0 : Int) from fun _ _ => rfl) (an tt (an tt tt)))) (an (an (@Eq.refl (Nat) ((0 : Nat))) (an (show ∀ (k : Nat), k < (0 : Nat) → (0 : Int) = (0 : Int) from fun _ _ => rfl) (an tt (an (show q0 + (1 : Int) = IntKind.i64.wrap (q0 + (1 : Int)) by omega) (an (ri E0) (an tt tt)))))) (an (an (@Eq.refl (Nat) ((0 : Nat))) (an (show ∀ (k : Nat), k < (0 : Nat) → (0 : Int) = (0 : Int) from fun _ _ => rfl) (an tt (an (ri q2) (an (ri E2) (an tt tt)))))) tt))))))) ?_
          kernel_rfl
      · exact ff (by (simp at *; omega))
    · exact ff (by (simp [w1, w2, w3, g1.1, g2, g4, g5, g6, hW, ht, ht2, w9, w4, w5, v0, v1, hS] at *; done))
   · exact ff (by (simp at *; omega))
  · exact ff (by (simp at *; omega))
theorem er_101_0C (f : Nat → Int) (n : Nat) (W : Nat → Int) (e : Int) (i : Nat) (q0 E0 : Int) (q2 E2 : Int) (hn : n ≤ 9223372036854775807) (hi : i < n) (hi9 : i < 90) (he : 0 ≤ e ∧ e ≤ 90) (hW : W 29 = 4 * e) (ht : f i % 1024 % 3 = 0) (hq : q0 = 2) (hE : 0 ≤ E0 ∧ E0 ≤ 90) (hEe : E0 = e) : ∃ hh, vcOf (runAt Try.prog specs noL 6000 12 [1, 1, 1, 1, 1, 1, 0, 1, 0, 0] (Tr.ofPairs (rT n e i)) (Hm (rB f n W [.ptr 6 (.c 0), .nilp, .ptr 7 (.c 0)] [adv q0 E0, adv q2 E2]) 8) hh)
    (nrm 6 [0, 1, 2, 3, 4, 5, 7] (rT n (e + 1) (i + 1)) (rB f n (A2.upd W 29 (4 * (e + 1))) [.nilp, .nilp, .ptr 6 (.c 0)] [adv q2 E2]) 7) := by
  subst hq
  have w1 : IntKind.i64.wrap ((i : Int) + 1) = i + 1 := wrapk _ (by omega)
  have w2 : IntKind.i64.wrap (4 * e) = 4 * e := wrapk _ (by omega)
  have w3 : IntKind.i64.wrap (e + 1) = e + 1 := wrapk _ (by omega)
  have g1 := Wd.isVal_mk (x := 4 * e) (by omega) (by omega) (by omega)
  have g2 : Wd.plV (4 * e) = e := by rw [g1.2]; omega
  have g3 : e < 1048576 := by omega
  have g4 : IntKind.i64.wrap (e * 4) = 4 * e := by rw [wrapk _ (by omega)]; omega
  have g5 : IntKind.i64.wrap ((e + 1) * 4) = 4 * (e + 1) := by rw [wrapk _ (by omega)]; omega
  have g6 : IntKind.i64.wrap (4 * (e + 1)) = 4 * (e + 1) := wrapk _ (by omega)
  have ht2 : (f i % 1024).tmod 3 = 0 := by rw [Int.tmod_eq_emod_of_nonneg (by omega)]; exact ht
  have w9 : IntKind.i64.wrap 0 = 0 := by decide
  have w6 : IntKind.i64.wrap (E0 * 4) = 4 * E0 := by rw [wrapk _ (by omega)]; omega
  have w7 : IntKind.i64.wrap (4 * E0) = 4 * E0 := wrapk _ (by omega)
  have w8 : IntKind.i64.wrap (E0 + 1) = E0 + 1 := wrapk _ (by omega)
  have w10 : IntKind.i64.wrap ((E0 + 1) * 4) = 4 * (E0 + 1) := by rw [wrapk _ (by omega)]; omega
  have w11 : IntKind.i64.wrap (4 * (E0 + 1)) = 4 * (E0 + 1) := wrapk _ (by omega)

  rcases Bool.eq_false_or_eq_true (decide ((↑i : Int) < (↑n : Int))) with h0 | h0
  ·
   rcases Bool.eq_false_or_eq_true (decide ((↑i : Int) < (90 : Int))) with h1 | h1
   ·
    rcases Bool.eq_false_or_eq_true (decide ((f i % (1024 : Int)).tmod (3 : Int) = (0 : Int))) with h2 | h2
    ·
     have h3 : (decide ((2 : Int) < (0 : Int))) = false := by decide +kernel
     have h4 : (decide ((2 : Int) < (2 : Int))) = false := by decide +kernel
     rcases Bool.eq_false_or_eq_true (W (29 : Nat) == IntKind.i64.wrap (IntKind.i64.wrap (E0 * (4 : Int)) + (0 : Int))) with h5 | h5
     ·
      rcases Bool.eq_false_or_eq_true ((if W (29 : Nat) = IntKind.i64.wrap (IntKind.i64.wrap (E0 * (4 : Int)) + (0 : Int)) then IntKind.i64.wrap (IntKind.i64.wrap (IntKind.i64.wrap (E0 + (1 : Int)) * (4 : Int)) + (0 : Int)) else W (29 : Nat)) != IntKind.i64.wrap ((4 : Int) * IntKind.i64.wrap (e + (1 : Int)))) with h6 | h6
      · exact ff (by (simp [w1, w2, w3, g1.1, g2, g4, g5, g6, hW, ht, ht2, w9, w6, w7, w8, w10, w11, hEe] at *; done))
      ·
       refine vcIntro [true, true, true, true, false, false, true, true, true, false] (an (an h6 (an h2 (an h5 (an h2 (an h4 (an h3 (an h2 (an h2 (an (show i.succ ≤ n * (1 : Nat) by omega) (an (an (show (0 : Int) ≤ (↑i : Int) by (simp; done)) (show (↑i : Int) + (1 : Int) ≤ (↑n : Int) by omega)) (an h1 (an h0 tt)))))))))))) (an (an (an tt (an (@Eq.refl (Nat) n) (show n ≤ n by (simp; done)))) (an tt (an tt (an (show e + (1 : Int) = IntKind.i64.wrap (e + (1 : Int)) by omega) (an (show (↑(i + (1 : Nat)) : Int) = IntKind.i64.wrap ((↑i : Int) + (1 : Int)) by omega) tt))))) (an (an (show n * (1 : Nat) ≤ n * (1 : Nat) by (simp; done)) (show ∀ (k : Nat), k < n * (1 : Nat) → f k = f k from fun _ _ => rfl)) (an (an (@Eq.refl (Nat) ((634 : Nat))) (an (show ∀ (k : Nat), k < (634 : Nat) → (if k = (29 : Nat) then (4 : Int) * (e + (1 : Int)) else W k) = if k = (29 : Nat) then if W (29 : Nat) = IntKind.i64.wrap (IntKind.i64.wrap (E0 * (4 : Int)) + (0 : Int)) then IntKind.i64.wrap (IntKind.i64.wrap (IntKind.i64.wrap (E0 + (1 : Int)) * (4 : Int)) + (0 : Int)) else W (29 : Nat) else if k = (29 : Nat) then if W (29 : Nat) = IntKind.i64.wrap (IntKind.i64.wrap (E0 * (4 : Int)) + (0 : Int)) then IntKind.i64.wrap (IntKind.i64.wrap (IntKind.i64.wrap (E0 + (1 : Int)) * (4 : Int)) + (0 : Int)) else W (29 : Nat) else W k by (simp [w1, w2, w3, g1.1, g2, g4, g5, g6, hW, ht, ht2, w9, w6, w7, w8, w10, w11, hEe] at *; omega)) (an tt (an tt (an tt (an tt (an tt (an tt (an tt (an tt tt)))))))))) (an (an (@Eq.refl (Nat) ((0 : Nat))) (an (show ∀ (k : Nat), k < (0 : Nat) → (0 : Int) = (0 : Int) from fun _ _ => rfl) (an tt (an tt tt)))) (an (an (@Eq.refl (Nat) ((0 : Nat))) (an (show ∀ (k : Nat), k < (0 : Nat) → (0 : Int) = (0 : Int) from fun _ _ => rfl) (an tt (an (ri q2) (an (ri E2) (an tt tt)))))) tt)))))) ?_
       kernel_rfl
     · exact ff (by (simp [w1, w2, w3, g1.1, g2, g4, g5, g6, hW, ht, ht2, w9, w6, w7, w8, w10, w11, hEe] at *; done))
    · exact ff (by (simp [w1, w2, w3, g1.1, g2, g4, g5, g6, hW, ht, ht2, w9, w6, w7, w8, w10, w11, hEe] at *; done))
   · exact ff (by (simp at *; omega))
  · exact ff (by (simp at *; omega))
theorem er_101_0D (f : Nat → Int) (n : Nat) (W : Nat → Int) (e : Int) (i : Nat) (q0 E0 : Int) (q2 E2 : Int) (hn : n ≤ 9223372036854775807) (hi : i < n) (hi9 : i < 90) (he : 0 ≤ e ∧ e ≤ 90) (hW : W 29 = 4 * e) (ht : f i % 1024 % 3 = 0) (hq : q0 = 2) (hE : 0 ≤ E0 ∧ E0 ≤ 90) (hEe : ¬ E0 = e) : ∃ hh, vcOf (runAt Try.prog specs noL 6000 12 [1, 1, 1, 1, 1, 1, 0, 1, 0, 0] (Tr.ofPairs (rT n e i)) (Hm (rB f n W [.ptr 6 (.c 0), .nilp, .ptr 7 (.c 0)] [adv q0 E0, adv q2 E2]) 8) hh)
    (nrm 6 [0, 1, 2, 3, 4, 5, 7] (rT n e (i + 1)) (rB f n W [.nilp, .nilp, .ptr 6 (.c 0)] [adv q2 E2]) 7) := by
  subst hq
  have w1 : IntKind.i64.wrap ((i : Int) + 1) = i + 1 := wrapk _ (by omega)
  have w2 : IntKind.i64.wrap (4 * e) = 4 * e := wrapk _ (by omega)
  have w3 : IntKind.i64.wrap (e + 1) = e + 1 := wrapk _ (by omega)
  have g1 := Wd.isVal_mk (x := 4 * e) (by omega) (by omega) (by omega)
  have g2 : Wd.plV (4 * e) = e := by rw [g1.2]; omega
  have g3 : e < 1048576 := by omega
  have g4 : IntKind.i64.wrap (e * 4) = 4 * e := by rw [wrapk _ (by omega)]; omega
  have g5 : IntKind.i64.wrap ((e + 1) * 4) = 4 * (e + 1) := by rw [wrapk _ (by omega)]; omega
  have g6 : IntKind.i64.wrap (4 * (e + 1)) = 4 * (e + 1) := wrapk _ (by omega)
  have ht2 : (f i % 1024).tmod 3 = 0 := by rw [Int.tmod_eq_emod_of_nonneg (by omega)]; exact ht
  have w9 : IntKind.i64.wrap 0 = 0 := by decide
  have w6 : IntKind.i64.wrap (E0 * 4) = 4 * E0 := by rw [wrapk _ (by omega)]; omega
  have w7 : IntKind.i64.wrap (4 * E0) = 4 * E0 := wrapk _ (by omega)
  have w8 : IntKind.i64.wrap (E0 + 1) = E0 + 1 := wrapk _ (by omega)
  have w10 : IntKind.i64.wrap ((E0 + 1) * 4) = 4 * (E0 + 1) := by rw [wrapk _ (by omega)]; omega
  have w11 : IntKind.i64.wrap (4 * (E0 + 1)) = 4 * (E0 + 1) := wrapk _ (by omega)

  rcases Bool.eq_false_or_eq_true (decide ((↑i : Int) < (↑n : Int))) with h0 | h0
  ·
   rcases Bool.eq_false_or_eq_true (decide ((↑i : Int) < (90 : Int))) with h1 | h1
   ·
    rcases Bool.eq_false_or_eq_true (decide ((f i % (1024 : Int)).tmod (3 : Int) = (0 : Int))) with h2 | h2
    ·
     have h3 : (decide ((2 : Int) < (0 : Int))) = false := by decide +kernel
     have h4 : (decide ((2 : Int) < (2 : Int))) = false := by decide +kernel
     rcases Bool.eq_false_or_eq_true (W (29 : Nat) == IntKind.i64.wrap (IntKind.i64.wrap (E0 * (4 : Int)) + (0 : Int))) with h5 | h5
     · exact ff (by (simp [w1, w2, w3, g1.1, g2, g4, g5, g6, hW, ht, ht2, w9, w6, w7, w8, w10, w11] at *; omega))
     ·
      rcases Bool.eq_false_or_eq_true ((if W (29 : Nat) = IntKind.i64.wrap (IntKind.i64.wrap (E0 * (4 : Int)) + (0 : Int)) then IntKind.i64.wrap (IntKind.i64.wrap (IntKind.i64.wrap (E0 + (1 : Int)) * (4 : Int)) + (0 : Int)) else W (29 : Nat)) != IntKind.i64.wrap ((4 : Int) * e)) with h6 | h6
      · exact ff (by (simp at *; omega))
      ·
       refine vcIntro [true, true, true, true, false, false, true, false, true, false] (an (an h6 (an h2 (an h5 (an h2 (an h4 (an h3 (an h2 (an h2 (an (show i.succ ≤ n * (1 : Nat) by omega) (an (an (show (0 : Int) ≤ (↑i : Int) by (simp; done)) (show (↑i : Int) + (1 : Int) ≤ (↑n : Int) by omega)) (an h1 (an h0 tt)))))))))))) (an (an (an tt (an (@Eq.refl (Nat) n) (show n ≤ n by (simp; done)))) (an tt (an tt (an (ri e) (an (show (↑(i + (1 : Nat)) : Int) = IntKind.i64.wrap ((↑i : Int) + (1 : Int)) by omega) tt))))) (an (an (show n * (1 : Nat) ≤ n * (1 : Nat) by (simp; done)) (show ∀ (k : Nat), k < n * (1 : Nat) → f k = f k from fun _ _ => rfl)) (an (an (@Eq.refl (Nat) ((634 : Nat))) (an (show ∀ (k : Nat), k < (634 : Nat) → W k = if k = (29 : Nat) then if W (29 : Nat) = IntKind.i64.wrap (IntKind.i64.wrap (E0 * (4 : Int)) + (0 : Int)) then IntKind.i64.wrap (IntKind.i64.wrap (IntKind.i64.wrap (E0 + (1 : Int)) * (4 : Int)) + (0 : Int)) else W (29 : Nat) else if k = (29 : Nat) then if W (29 : Nat) = IntKind.i64.wrap (IntKind.i64.wrap (E0 * (4 : Int)) + (0 : Int)) then IntKind.i64.wrap (IntKind.i64.wrap (IntKind.i64.wrap (E0 + (1 : Int)) * (4 : Int)) + (0 : Int)) else W (29 : Nat) else W k by (intro j hj; (repeat' split) <;> (first | rfl | (congr 1; omega) | (simp_all; done)))) (an tt (an tt (an tt (an tt (an tt (an tt (an tt (an tt tt)))))))))) (an (an (@Eq.refl (Nat) ((0 : Nat))) (an (show ∀ (k : Nat), k < (0 : Nat) → (0 : Int) = (0 : Int) from fun _ _ => rfl) (an tt (an tt tt)))) (an (an (@Eq.refl (Nat) ((0 : Nat))) (an (show ∀ (k : Nat), k < (0 : Nat) → (0 : Int) = (0 : Int) from fun _ _ => rfl) (an tt (an (ri q2) (an (ri E2) (an tt tt)))))) tt)))))) ?_
       kernel_rfl
    · exact ff (by (simp [w1, w2, w3, g1.1, g2, g4, g5, g6, hW, ht, ht2, w9, w6, w7, w8, w10, w11] at *; done))
   · exact ff (by (simp at *; omega))
  · exact ff (by (simp at *; omega))
theorem er_110_0B (f : Nat → Int) (n : Nat) (W : Nat → Int) (e : Int) (i : Nat) (q0 E0 : Int) (q1 E1 : Int) (hn : n ≤ 9223372036854775807) (hi : i < n) (hi9 : i < 90) (he : 0 ≤ e ∧ e ≤ 90) (hW : W 29 = 4 * e) (ht : f i % 1024 % 3 = 0) (hq : 0 ≤ q0 ∧ q0 < 2) (hS : W (30 + q0).toNat = 0) : ∃ hh, vcOf (runAt Try.prog specs noL 6000 12 [1, 1, 1, 1, 1, 1, 0, 1, 0, 0] (Tr.ofPairs (rT n e i)) (Hm (rB f n W [.ptr 6 (.c 0), .ptr 7 (.c 0), .nilp] [adv q0 E0, adv q1 E1]) 8) hh)
    (nrm 6 [0, 1, 2, 3, 4, 5, 6, 7] (rT n e (i + 1)) (rB f n W [.ptr 6 (.c 0), .ptr 7 (.c 0), .nilp] [adv (q0 + 1) E0, adv q1 E1]) 8) := by
  have w1 : IntKind.i64.wrap ((i : Int) + 1) = i + 1 := wrapk _ (by omega)
  have w2 : IntKind.i64.wrap (4 * e) = 4 * e := wrapk _ (by omega)
  have w3 : IntKind.i64.wrap (e + 1) = e + 1 := wrapk _ (by omega)
  have g1 := Wd.isVal_mk (x := 4 * e) (by omega) (by omega) (by omega)
  have g2 : Wd.plV (4 * e) = e := by rw [g1.2]; omega
  have g3 : e < 1048576 := by omega
  have g4 : IntKind.i64.wrap (e * 4) = 4 * e := by rw [wrapk _ (by omega)]; omega
  have g5 : IntKind.i64.wrap ((e + 1) * 4) = 4 * (e + 1) := by rw [wrapk _ (by omega)]; omega
  have g6 : IntKind.i64.wrap (4 * (e + 1)) = 4 * (e + 1) := wrapk _ (by omega)
  have ht2 : (f i % 1024).tmod 3 = 0 := by rw [Int.tmod_eq_emod_of_nonneg (by omega)]; exact ht
  have w9 : IntKind.i64.wrap 0 = 0 := by decide
  have w4 : IntKind.i64.wrap (q0 + 1) = q0 + 1 := wrapk _ (by omega)
  have w5 : IntKind.i64.wrap (30 + q0) = 30 + q0 := wrapk _ (by omega)
  have v0 : Wd.isVal 0 = true := by decide
  have v1 : Wd.plV 0 = 0 := by decide

  rcases Bool.eq_false_or_eq_true (decide ((↑i : Int) < (↑n : Int))) with h0 | h0
  ·
   rcases Bool.eq_false_or_eq_true (decide ((↑i : Int) < (90 : Int))) with h1 | h1
   ·
    rcases Bool.eq_false_or_eq_true (decide ((f i % (1024 : Int)).tmod (3 : Int) = (0 : Int))) with h2 | h2
    ·
     rcases Bool.eq_false_or_eq_true (decide (q0 < (0 : Int))) with h3 | h3
     · exact ff (by (simp at *; omega))
     ·
      rcases Bool.eq_false_or_eq_true (decide (q0 < (2 : Int))) with h4 | h4
      ·
       rcases Bool.eq_false_or_eq_true (Wd.plV (W (IntKind.i64.wrap ((30 : Int) + q0)).toNat) != (0 : Int)) with h5 | h5
       · exact ff (by (simp [w1, w2, w3, g1.1, g2, g4, g5, g6, hW, ht, ht2, w9, w4, w5, v0, v1, hS] at *; done))
       ·
        rcases Bool.eq_false_or_eq_true (!Wd.isVal (W (IntKind.i64.wrap ((30 : Int) + q0)).toNat)) with h6 | h6
        · exact ff (by (simp [w1, w2, w3, g1.1, g2, g4, g5, g6, hW, ht, ht2, w9, w4, w5, v0, v1, hS] at *; done))
        ·
         rcases Bool.eq_false_or_eq_true ((if (29 : Nat) = (IntKind.i64.wrap ((30 : Int) + q0)).toNat then W (IntKind.i64.wrap ((30 : Int) + q0)).toNat else W (29 : Nat)) != IntKind.i64.wrap ((4 : Int) * e)) with h7 | h7
         · exact ff (by (simp at *; omega))
         ·
          refine vcIntro [true, true, true, true, false, true, false, false, false] (an (an h7 (an h6 (an h5 (an (an (show (0 : Int) ≤ IntKind.i64.wrap ((30 : Int) + q0) by omega) (show IntKind.i64.wrap ((30 : Int) + q0) + (1 : Int) ≤ (634 : Int) by omega)) (an h4 (an h3 (an h2 (an h2 (an (show i.succ ≤ n * (1 : Nat) by omega) (an (an (show (0 : Int) ≤ (↑i : Int) by (simp; done)) (show (↑i : Int) + (1 : Int) ≤ (↑n : Int) by omega)) (an h1 (an h0 tt)))))))))))) (an (an (an tt (an (@Eq.refl (Nat) n) (show n ≤ n by (simp; done)))) (an tt (an tt (an (ri e) (an (show (↑(i + (1 : Nat)) : Int) = IntKind.i64.wrap ((↑i : Int) + (1 : Int)) by omega) tt))))) (an (an (show n * (1 : Nat) ≤ n * (1 : Nat) by (simp; done)) (show ∀ (k : Nat), k < n * (1 : Nat) → f k = f k from fun _ _ => rfl)) (an (an (@Eq.refl (Nat) ((634 : Nat))) (an (show ∀ (k : Nat), k < (634 : Nat) → W k = if k = (29 : Nat) then if (29 : Nat) = (IntKind.i64.wrap ((30 : Int) + q0)).toNat then W (IntKind.i64.wrap ((30 : Int) + q0)).toNat else W (29 : Nat) else if k = (IntKind.i64.wrap ((30 : Int) + q0)).toNat then W (IntKind.i64.wrap ((30 : Int) + q0)).toNat else W k by (intro j hj; (repeat' split) <;> (first | rfl | (congr 1; omega) | (simp_all; done)))) (an tt (an tt (an tt (an tt (an tt (an tt (an tt (an tt tt)))))))))) (an (an (@Eq.refl (Nat) ((0 : Nat))) (an (show ∀ (k : Nat), k < (0 : Nat) → (0 : Int) = (0 : Int) from fun _ _ => rfl) (an tt (an tt tt)))) (an (an (@Eq.refl (Nat) ((0 : Nat))) (an (show ∀ (k : Nat), k < (0 : Nat) → (0 : Int) = (0 : Int) from fun _ _ => rfl) (an tt (an (show q0 + (1 : Int) = IntKind.i64.wrap (q0 + (1 : Int)) by omega) (an (ri E0) (an tt tt)))))) (an (an (@Eq.refl (Nat) ((0 : Nat))) (an (show ∀ (k : Nat), k < (0 : Nat) → (0 : Int) = (0 : Int) from fun _ _ => rfl) (an tt (an (ri q1) (an (ri E1) (an tt tt)))))) tt))))))) ?_
          kernel_rfl
      · exact ff (by (simp at *; omega))
    · exact ff (by (simp [w1, w2, w3, g1.1, g2, g4, g5, g6, hW, ht, ht2, w9, w4, w5, v0, v1, hS] at *; done))
   · exact ff (by (simp at *; omega))
  · exact ff (by (simp at *; omega))
theorem er_110_0C (f : Nat → Int) (n : Nat) (W : Nat → Int) (e : Int) (i : Nat) (q0 E0 : Int) (q1 E1 : Int) (hn : n ≤ 9223372036854775807) (hi : i < n) (hi9 : i < 90) (he : 0 ≤ e ∧ e ≤ 90) (hW : W 29 = 4 * e) (ht : f i % 1024 % 3 = 0) (hq : q0 = 2) (hE : 0 ≤ E0 ∧ E0 ≤ 90) (hEe : E0 = e) : ∃ hh, vcOf (runAt Try.prog specs noL 6000 12 [1, 1, 1, 1, 1, 1, 0, 1, 0, 0] (Tr.ofPairs (rT n e i)) (Hm (rB f n W [.ptr 6 (.c 0), .ptr 7 (.c 0), .nilp] [adv q0 E0, adv q1 E1]) 8) hh)
    (nrm 6 [0, 1, 2, 3, 4, 5, 7] (rT n (e + 1) (i + 1)) (rB f n (A2.upd W 29 (4 * (e + 1))) [.nilp, .ptr 6 (.c 0), .nilp] [adv q1 E1]) 7) := by
  subst hq
  have w1 : IntKind.i64.wrap ((i : Int) + 1) = i + 1 := wrapk _ (by omega)
  have w2 : IntKind.i64.wrap (4 * e) = 4 * e := wrapk _ (by omega)
  have w3 : IntKind.i64.wrap (e + 1) = e + 1 := wrapk _ (by omega)
  have g1 := Wd.isVal_mk (x := 4 * e) (by omega) (by omega) (by omega)
  have g2 : Wd.plV (4 * e) = e := by rw [g1.2]; omega
  have g3 : e < 1048576 := by omega
  have g4 : IntKind.i64.wrap (e * 4) = 4 * e := by rw [wrapk _ (by omega)]; omega
  have g5 : IntKind.i64.wrap ((e + 1) * 4) = 4 * (e + 1) := by rw [wrapk _ (by omega)]; omega
  have g6 : IntKind.i64.wrap (4 * (e + 1)) = 4 * (e + 1) := wrapk _ (by omega)
  have ht2 : (f i % 1024).tmod 3 = 0 := by rw [Int.tmod_eq_emod_of_nonneg (by omega)]; exact ht
  have w9 : IntKind.i64.wrap 0 = 0 := by decide
  have w6 : IntKind.i64.wrap (E0 * 4) = 4 * E0 := by rw [wrapk _ (by omega)]; omega
  have w7 : IntKind.i64.wrap (4 * E0) = 4 * E0 := wrapk _ (by omega)
  have w8 : IntKind.i64.wrap (E0 + 1) = E0 + 1 := wrapk _ (by omega)
  have w10 : IntKind.i64.wrap ((E0 + 1) * 4) = 4 * (E0 + 1) := by rw [wrapk _ (by omega)]; omega
  have w11 : IntKind.i64.wrap (4 * (E0 + 1)) = 4 * (E0 + 1) := wrapk _ (by omega)

  rcases Bool.eq_false_or_eq_true (decide ((↑i : Int) < (↑n : Int))) with h0 | h0
  ·
   rcases Bool.eq_false_or_eq_true (decide ((↑i : Int) < (90 : Int))) with h1 | h1
   ·
    rcases Bool.eq_false_or_eq_true (decide ((f i % (1024 : Int)).tmod (3 : Int) = (0 : Int))) with h2 | h2
    ·
     have h3 : (decide ((2 : Int) < (0 : Int))) = false := by decide +kernel
     have h4 : (decide ((2 : Int) < (2 : Int))) = false := by decide +kernel
     rcases Bool.eq_false_or_eq_true (W (29 : Nat) == IntKind.i64.wrap (IntKind.i64.wrap (E0 * (4 : Int)) + (0 : Int))) with h5 | h5
     ·
      rcases Bool.eq_false_or_eq_true ((if W (29 : Nat) = IntKind.i64.wrap (IntKind.i64.wrap (E0 * (4 : Int)) + (0 : Int)) then IntKind.i64.wrap (IntKind.i64.wrap (IntKind.i64.wrap (E0 + (1 : Int)) * (4 : Int)) + (0 : Int)) else W (29 : Nat)) != IntKind.i64.wrap ((4 : Int) * IntKind.i64.wrap (e + (1 : Int)))) with h6 | h6
      · exact ff (by (simp [w1, w2, w3, g1.1, g2, g4, g5, g6, hW, ht, ht2, w9, w6, w7, w8, w10, w11, hEe] at *; done))
      ·
       refine vcIntro [true, true, true, true, false, false, true, true, true, false] (an (an h6 (an h2 (an h5 (an h2 (an h4 (an h3 (an h2 (an h2 (an (show i.succ ≤ n * (1 : Nat) by omega) (an (an (show (0 : Int) ≤ (↑i : Int) by (simp; done)) (show (↑i : Int) + (1 : Int) ≤ (↑n : Int) by omega)) (an h1 (an h0 tt)))))))))))) (an (an (an tt (an (@Eq.refl (Nat) n) (show n ≤ n by (simp; done)))) (an tt (an tt (an (show e + (1 : Int) = IntKind.i64.wrap (e + (1 : Int)) by omega) (an (show (↑(i + (1 : Nat)) : Int) = IntKind.i64.wrap ((↑i : Int) + (1 : Int)) by omega) tt))))) (an (an (show n * (1 : Nat) ≤ n * (1 : Nat) by (simp; done)) (show ∀ (k : Nat), k < n * (1 : Nat) → f k = f k from fun _ _ => rfl)) (an (an (@Eq.refl (Nat) ((634 : Nat))) (an (show ∀ (k : Nat), k < (634 : Nat) → (if k = (29 : Nat) then (4 : Int) * (e + (1 : Int)) else W k) = if k = (29 : Nat) then if W (29 : Nat) = IntKind.i64.wrap (IntKind.i64.wrap (E0 * (4 : Int)) + (0 : Int)) then IntKind.i64.wrap (IntKind.i64.wrap (IntKind.i64.wrap (E0 + (1 : Int)) * (4 : Int)) + (0 : Int)) else W (29 : Nat) else if k = (29 : Nat) then if W (29 : Nat) = IntKind.i64.wrap (IntKind.i64.wrap (E0 * (4 : Int)) + (0 : Int)) then IntKind.i64.wrap (IntKind.i64.wrap (IntKind.i64.wrap (E0 + (1 : Int)) * (4 : Int)) + (0 : Int)) else W (29 : Nat) else W k by (simp [w1, w2, w3, g1.1, g2, g4, g5, g6, hW, ht, ht2, w9, w6, w7, w8, w10, w11, hEe] at *; omega)) (an tt (an tt (an tt (an tt (an tt (an tt (an tt (an tt tt)))))))))) (an (an (@Eq.refl (Nat) ((0 : Nat))) (an (show ∀ (k : Nat), k < (0 : Nat) → (0 : Int) = (0 : Int) from fun _ _ => rfl) (an tt (an tt tt)))) (an (an (@Eq.refl (Nat) ((0 : Nat))) (an (show ∀ (k : Nat), k < (0 : Nat) → (0 : Int) = (0 : Int) from fun _ _ => rfl) (an tt (an (ri q1) (an (ri E1) (an tt tt)))))) tt)))))) ?_
       kernel_rfl
     · exact ff (by (simp [w1, w2, w3, g1.1, g2, g4, g5, g6, hW, ht, ht2, w9, w6, w7, w8, w10, w11, hEe] at *; done))
    · exact ff (by (simp [w1, w2, w3, g1.1, g2, g4, g5, g6, hW, ht, ht2, w9, w6, w7, w8, w10, w11, hEe] at *; done))
   · exact ff (by (simp at *; omega))
  · exact ff (by (simp at *; omega))
theorem er_110_0D (f : Nat → Int) (n : Nat) (W : Nat → Int) (e : Int) (i : Nat) (q0 E0 : Int) (q1 E1 : Int) (hn : n ≤ 9223372036854775807) (hi : i < n) (hi9 : i < 90) (he : 0 ≤ e ∧ e ≤ 90) (hW : W 29 = 4 * e) (ht : f i % 1024 % 3 = 0) (hq : q0 = 2) (hE : 0 ≤ E0 ∧ E0 ≤ 90) (hEe : ¬ E0 = e) : ∃ hh, vcOf (runAt Try.prog specs noL 6000 12 [1, 1, 1, 1, 1, 1, 0, 1, 0, 0] (Tr.ofPairs (rT n e i)) (Hm (rB f n W [.ptr 6 (.c 0), .ptr 7 (.c 0), .nilp] [adv q0 E0, adv q1 E1]) 8) hh)
    (nrm 6 [0, 1, 2, 3, 4, 5, 7] (rT n e (i + 1)) (rB f n W [.nilp, .ptr 6 (.c 0), .nilp] [adv q1 E1]) 7) := by
  subst hq
  have w1 : IntKind.i64.wrap ((i : Int) + 1) = i + 1 := wrapk _ (by omega)
  have w2 : IntKind.i64.wrap (4 * e) = 4 * e := wrapk _ (by omega)
  have w3 : IntKind.i64.wrap (e + 1) = e + 1 := wrapk _ (by omega)
  have g1 := Wd.isVal_mk (x := 4 * e) (by omega) (by omega) (by omega)
  have g2 : Wd.plV (4 * e) = e := by rw [g1.2]; omega
  have g3 : e < 1048576 := by omega
  have g4 : IntKind.i64.wrap (e * 4) = 4 * e := by rw [wrapk _ (by omega)]; omega
  have g5 : IntKind.i64.wrap ((e + 1) * 4) = 4 * (e + 1) := by rw [wrapk _ (by omega)]; omega
  have g6 : IntKind.i64.wrap (4 * (e + 1)) = 4 * (e + 1) := wrapk _ (by omega)
  have ht2 : (f i % 1024).tmod 3 = 0 := by rw [Int.tmod_eq_emod_of_nonneg (by omega)]; exact ht
  have w9 : IntKind.i64.wrap 0 = 0 := by decide
  have w6 : IntKind.i64.wrap (E0 * 4) = 4 * E0 := by rw [wrapk _ (by omega)]; omega
  have w7 : IntKind.i64.wrap (4 * E0) = 4 * E0 := wrapk _ (by omega)
  have w8 : IntKind.i64.wrap (E0 + 1) = E0 + 1 := wrapk _ (by omega)
  have w10 : IntKind.i64.wrap ((E0 + 1) * 4) = 4 * (E0 + 1) := by rw [wrapk _ (by omega)]; omega
  have w11 : IntKind.i64.wrap (4 * (E0 + 1)) = 4 * (E0 + 1) := wrapk _ (by omega)

  rcases Bool.eq_false_or_eq_true (decide ((↑i : Int) < (↑n : Int))) with h0 | h0
  ·
   rcases Bool.eq_false_or_eq_true (decide ((↑i : Int) < (90 : Int))) with h1 | h1
   ·
    rcases Bool.eq_false_or_eq_true (decide ((f i % (1024 : Int)).tmod (3 : Int) = (0 : Int))) with h2 | h2
    ·
     have h3 : (decide ((2 : Int) < (0 : Int))) = false := by decide +kernel
     have h4 : (decide ((2 : Int) < (2 : Int))) = false := by decide +kernel
     rcases Bool.eq_false_or_eq_true (W (29 : Nat) == IntKind.i64.wrap (IntKind.i64.wrap (E0 * (4 : Int)) + (0 : Int))) with h5 | h5
     · exact ff (by (simp [w1, w2, w3, g1.1, g2, g4, g5, g6, hW, ht, ht2, w9, w6, w7, w8, w10, w11] at *; omega))
     ·
      rcases Bool.eq_false_or_eq_true ((if W (29 : Nat) = IntKind.i64.wrap (IntKind.i64.wrap (E0 * (4 : Int)) + (0 : Int)) then IntKind.i64.wrap (IntKind.i64.wrap (IntKind.i64.wrap (E0 + (1 : Int)) * (4 : Int)) + (0 : Int)) else W (29 : Nat)) != IntKind.i64.wrap ((4 : Int) * e)) with h6 | h6
      · exact ff (by (simp at *; omega))
      ·
       refine vcIntro [true, true, true, true, false, false, true, false, true, false] (an (an h6 (an h2 (an h5 (an h2 (an h4 (an h3 (an h2 (an h2 (an (show i.succ ≤ n * (1 : Nat) by omega) (an (an (show (0 : Int) ≤ (↑i : Int) by (simp; done)) (show (↑i : Int) + (1 : Int) ≤ (↑n : Int) by omega)) (an h1 (an h0 tt)))))))))))) (an (an (an tt (an (@Eq.refl (Nat) n) (show n ≤ n by (simp; done)))) (an tt (an tt (an (ri e) (an (show (↑(i + (1 : Nat)) : Int) = IntKind.i64.wrap ((↑i : Int) + (1 : Int)) by omega) tt))))) (an (an (show n * (1 : Nat) ≤ n * (1 : Nat) by (simp; done)) (show ∀ (k : Nat), k < n * (1 : Nat) → f k = f k from fun _ _ => rfl)) (an (an (@Eq.refl (Nat) ((634 : Nat))) (an (show ∀ (k : Nat), k < (634 : Nat) → W k = if k = (29 : Nat) then if W (29 : Nat) = IntKind.i64.wrap (IntKind.i64.wrap (E0 * (4 : Int)) + (0 : Int)) then IntKind.i64.wrap (IntKind.i64.wrap (IntKind.i64.wrap (E0 + (1 : Int)) * (4 : Int)) + (0 : Int)) else W (29 : Nat) else if k = (29 : Nat) then if W (29 : Nat) = IntKind.i64.wrap (IntKind.i64.wrap (E0 * (4 : Int)) + (0 : Int)) then IntKind.i64.wrap (IntKind.i64.wrap (IntKind.i64.wrap (E0 + (1 : Int)) * (4 : Int)) + (0 : Int)) else W (29 : Nat) else W k by (intro j hj; (repeat' split) <;> (first | rfl | (congr 1; omega) | (simp_all; done)))) (an tt (an tt (an tt (an tt (an tt (an tt (an tt (an tt tt)))))))))) (an (an (@Eq.refl (Nat) ((0 : Nat))) (an (show ∀ (k : Nat), k < (0 : Nat) → (0 : Int) = (0 : Int) from fun _ _ => rfl) (an tt (an tt tt)))) (an (an (@Eq.refl (Nat) ((0 : Nat))) (an (show ∀ (k : Nat), k < (0 : Nat) → (0 : Int) = (0 : Int) from fun _ _ => rfl) (an tt (an (ri q1) (an (ri E1) (an tt tt)))))) tt)))))) ?_
       kernel_rfl
    · exact ff (by (simp [w1, w2, w3, g1.1, g2, g4, g5, g6, hW, ht, ht2, w9, w6, w7, w8, w10, w11] at *; done))
   · exact ff (by (simp at *; omega))
  · exact ff (by (simp at *; omega))
theorem er_111_0B (f : Nat → Int) (n : Nat) (W : Nat → Int) (e : Int) (i : Nat) (q0 E0 : Int) (q1 E1 : Int) (q2 E2 : Int) (hn : n ≤ 9223372036854775807) (hi : i < n) (hi9 : i < 90) (he : 0 ≤ e ∧ e ≤ 90) (hW : W 29 = 4 * e) (ht : f i % 1024 % 3 = 0) (hq : 0 ≤ q0 ∧ q0 < 2) (hS : W (30 + q0).toNat = 0) : ∃ hh, vcOf (runAt Try.prog specs noL 6000 12 [1, 1, 1, 1, 1, 1, 0, 1, 0, 0] (Tr.ofPairs (rT n e i)) (Hm (rB f n W [.ptr 6 (.c 0), .ptr 7 (.c 0), .ptr 8 (.c 0)] [adv q0 E0, adv q1 E1, adv q2 E2]) 9) hh)
    (nrm 6 [0, 1, 2, 3, 4, 5, 6, 7, 8] (rT n e (i + 1)) (rB f n W [.ptr 6 (.c 0), .ptr 7 (.c 0), .ptr 8 (.c 0)] [adv (q0 + 1) E0, adv q1 E1, adv q2 E2]) 9) := by
  have w1 : IntKind.i64.wrap ((i : Int) + 1) = i + 1 := wrapk _ (by omega)
  have w2 : IntKind.i64.wrap (4 * e) = 4 * e := wrapk _ (by omega)
  have w3 : IntKind.i64.wrap (e + 1) = e + 1 := wrapk _ (by omega)
  have g1 := Wd.isVal_mk (x := 4 * e) (by omega) (by omega) (by omega)
  have g2 : Wd.plV (4 * e) = e := by rw [g1.2]; omega
  have g3 : e < 1048576 := by omega
  have g4 : IntKind.i64.wrap (e * 4) = 4 * e := by rw [wrapk _ (by omega)]; omega
  have g5 : IntKind.i64.wrap ((e + 1) * 4) = 4 * (e + 1) := by rw [wrapk _ (by omega)]; omega
  have g6 : IntKind.i64.wrap (4 * (e + 1)) = 4 * (e + 1) := wrapk _ (by omega)
  have ht2 : (f i % 1024).tmod 3 = 0 := by rw [Int.tmod_eq_emod_of_nonneg (by omega)]; exact ht
  have w9 : IntKind.i64.wrap 0 = 0 := by decide
  have w4 : IntKind.i64.wrap (q0 + 1) = q0 + 1 := wrapk _ (by omega)
  have w5 : IntKind.i64.wrap (30 + q0) = 30 + q0 := wrapk _ (by omega)
  have v0 : Wd.isVal 0 = true := by decide
  have v1 : Wd.plV 0 = 0 := by decide

  rcases Bool.eq_false_or_eq_true (decide ((↑i : Int) < (↑n : Int))) with h0 | h0
  ·
   rcases Bool.eq_false_or_eq_true (decide ((↑i : Int) < (90 : Int))) with h1 | h1
   ·
    rcases Bool.eq_false_or_eq_true (decide ((f i % (1024 : Int)).tmod (3 : Int) = (0 : Int))) with h2 | h2
    ·
     rcases Bool.eq_false_or_eq_true (decide (q0 < (0 : Int))) with h3 | h3
     · exact ff (by (simp at *; omega))
     ·
      rcases Bool.eq_false_or_eq_true (decide (q0 < (2 : Int))) with h4 | h4
      ·
       rcases Bool.eq_false_or_eq_true (Wd.plV (W (IntKind.i64.wrap ((30 : Int) + q0)).toNat) != (0 : Int)) with h5 | h5
       · exact ff (by (simp [w1, w2, w3, g1.1, g2, g4, g5, g6, hW, ht, ht2, w9, w4, w5, v0, v1, hS] at *; done))
       ·
        rcases Bool.eq_false_or_eq_true (!Wd.isVal (W (IntKind.i64.wrap ((30 : Int) + q0)).toNat)) with h6 | h6
        · exact ff (by (simp [w1, w2, w3, g1.1, g2, g4, g5, g6, hW, ht, ht2, w9, w4, w5, v0, v1, hS] at *; done))
        ·
         rcases Bool.eq_false_or_eq_true ((if (29 : Nat) = (IntKind.i64.wrap ((30 : Int) + q0)).toNat then W (IntKind.i64.wrap ((30 : Int) + q0)).toNat else W (29 : Nat)) != IntKind.i64.wrap ((4 : Int) * e)) with h7 | h7
         · exact ff (by (simp at *; omega))
         ·
          refine vcIntro [true, true, true, true, false, true, false, false, false] (an (an h7 (an h6 (an h5 (an (an (show (0 : Int) ≤ IntKind.i64.wrap ((30 : Int) + q0) by omega) (show IntKind.i64.wrap ((30 : Int) + q0) + (1 : Int) ≤ (634 : Int) by omega)) (an h4 (an h3 (an h2 (an h2 (an (show i.succ ≤ n * (1 : Nat) by omega) (an (an (show (0 : Int) ≤ (↑i : Int) by (simp; done)) (show (↑i : Int) + (1 : Int) ≤ (↑n : Int) by omega)) (an h1 (an h0 tt)))))))))))) (an (an (an tt (an (@Eq.refl (Nat) n) (show n ≤ n by (simp; done)))) (an tt (an tt (an (ri e) (an (show (↑(i + (1 : Nat)) : Int) = IntKind.i64.wrap ((↑i : Int) + (1 : Int)) by omega) tt))))) (an (an (show n * (1 : Nat) ≤ n * (1 : Nat) by (simp; done)) (show ∀ (k : Nat), k < n * (1 : Nat) → f k = f k from fun _ _ => rfl)) (an (an (@Eq.refl (Nat) ((634 : Nat))) (an (show ∀ (k : Nat), k < (634 : Nat) → W k = if k = (29 : Nat) then if (29 : Nat) = (IntKind.i64.wrap ((30 : Int) + q0)).toNat then W (IntKind.i64.wrap ((30 : Int) + q0)).toNat else W (29 : Nat) else if k = (IntKind.i64.wrap ((30 : Int) + q0)).toNat then W (IntKind.i64.wrap ((30 : Int) + q0)).toNat else W k by (intro j hj; (repeat' split) <;> (first | rfl | (congr 1; omega) | (simp_all; done)))) (an tt (an tt (an tt (an tt (an tt (an tt (an tt (an tt tt)))))))))) (an (an (@Eq.refl (Nat) ((0 : Nat))) (an (show ∀ (k : Nat), k < (0 : Nat) → (0 : Int) = (0 : Int) from fun _ _ => rfl) (an tt (an tt tt)))) (an (an (@Eq.refl (Nat) ((0 : Nat))) (an (show ∀ (k : Nat), k < (0 : Nat) → (0 : Int) = (0 : Int) from fun _ _ => rfl) (an tt (an (show q0 + (1 : Int) = IntKind.i64.wrap (q0 + (1 : Int)) by omega) (an (ri E0) (an tt tt)))))) (an (an (@Eq.refl (Nat) ((0 : Nat))) (an (show ∀ (k : Nat), k < (0 : Nat) → (0 : Int) = (0 : Int) from fun _ _ => rfl) (an tt (an (ri q1) (an (ri E1) (an tt tt)))))) (an (an (@Eq.refl (Nat) ((0 : Nat))) (an (show ∀ (k : Nat), k < (0 : Nat) → (0 : Int) = (0 : Int) from fun _ _ => rfl) (an tt (an (ri q2) (an (ri E2) (an tt tt)))))) tt)))))))) ?_
          kernel_rfl
      · exact ff (by (simp at *; omega))
    · exact ff (by (simp [w1, w2, w3, g1.1, g2, g4, g5, g6, hW, ht, ht2, w9, w4, w5, v0, v1, hS] at *; done))
   · exact ff (by (simp at *; omega))
  · exact ff (by (simp at *; omega))
theorem er_111_0C (f : Nat → Int) (n : Nat) (W : Nat → Int) (e : Int) (i : Nat) (q0 E0 : Int) (q1 E1 : Int) (q2 E2 : Int) (hn : n ≤ 9223372036854775807) (hi : i < n) (hi9 : i < 90) (he : 0 ≤ e ∧ e ≤ 90) (hW : W 29 = 4 * e) (ht : f i % 1024 % 3 = 0) (hq : q0 = 2) (hE : 0 ≤ E0 ∧ E0 ≤ 90) (hEe : E0 = e) : ∃ hh, vcOf (runAt Try.prog specs noL 6000 12 [1, 1, 1, 1, 1, 1, 0, 1, 0, 0] (Tr.ofPairs (rT n e i)) (Hm (rB f n W [.ptr 6 (.c 0), .ptr 7 (.c 0), .ptr 8 (.c 0)] [adv q0 E0, adv q1 E1, adv q2 E2]) 9) hh)
    (nrm 6 [0, 1, 2, 3, 4, 5, 7, 8] (rT n (e + 1) (i + 1)) (rB f n (A2.upd W 29 (4 * (e + 1))) [.nilp, .ptr 6 (.c 0), .ptr 7 (.c 0)] [adv q1 E1, adv q2 E2]) 8) := by
  subst hq
  have w1 : IntKind.i64.wrap ((i : Int) + 1) = i + 1 := wrapk _ (by omega)
  have w2 : IntKind.i64.wrap (4 * e) = 4 * e := wrapk _ (by omega)
  have w3 : IntKind.i64.wrap (e + 1) = e + 1 := wrapk _ (by omega)
  have g1 := Wd.isVal_mk (x := 4 * e) (by omega) (by omega) (by omega)
  have g2 : Wd.plV (4 * e) = e := by rw [g1.2]; omega
  have g3 : e < 1048576 := by omega
  have g4 : IntKind.i64.wrap (e * 4) = 4 * e := by rw [wrapk _ (by omega)]; omega
  have g5 : IntKind.i64.wrap ((e + 1) * 4) = 4 * (e + 1) := by rw [wrapk _ (by omega)]; omega
  have g6 : IntKind.i64.wrap (4 * (e + 1)) = 4 * (e + 1) := wrapk _ (by omega)
  have ht2 : (f i % 1024).tmod 3 = 0 := by rw [Int.tmod_eq_emod_of_nonneg (by omega)]; exact ht
  have w9 : IntKind.i64.wrap 0 = 0 := by decide
  have w6 : IntKind.i64.wrap (E0 * 4) = 4 * E0 := by rw [wrapk _ (by omega)]; omega
  have w7 : IntKind.i64.wrap (4 * E0) = 4 * E0 := wrapk _ (by omega)
  have w8 : IntKind.i64.wrap (E0 + 1) = E0 + 1 := wrapk _ (by omega)
  have w10 : IntKind.i64.wrap ((E0 + 1) * 4) = 4 * (E0 + 1) := by rw [wrapk _ (by omega)]; omega
  have w11 : IntKind.i64.wrap (4 * (E0 + 1)) = 4 * (E0 + 1) := wrapk _ (by omega)

  rcases Bool.eq_false_or_eq_true (decide ((↑i : Int) < (↑n : Int))) with h0 | h0
  ·
   rcases Bool.eq_false_or_eq_true (decide ((↑i : Int) < (90 : Int))) with h1 | h1
   ·
    rcases Bool.eq_false_or_eq_true (decide ((f i % (1024 : Int)).tmod (3 : Int) = (0 : Int))) with h2 | h2
    ·
     have h3 : (decide ((2 : Int) < (0 : Int))) = false := by decide +kernel
     have h4 : (decide ((2 : Int) < (2 : Int))) = false := by decide +kernel
     rcases Bool.eq_false_or_eq_true (W (29 : Nat) == IntKind.i64.wrap (IntKind.i64.wrap (E0 * (4 : Int)) + (0 : Int))) with h5 | h5
     ·
      rcases Bool.eq_false_or_eq_true ((if W (29 : Nat) = IntKind.i64.wrap (IntKind.i64.wrap (E0 * (4 : Int)) + (0 : Int)) then IntKind.i64.wrap (IntKind.i64.wrap (IntKind.i64.wrap (E0 + (1 : Int)) * (4 : Int)) + (0 : Int)) else W (29 : Nat)) != IntKind.i64.wrap ((4 : Int) * IntKind.i64.wrap (e + (1 : Int)))) with h6 | h6
      · exact ff (by (simp [w1, w2, w3, g1.1, g2, g4, g5, g6, hW, ht, ht2, w9, w6, w7, w8, w10, w11, hEe] at *; done))
      ·
       refine vcIntro [true, true, true, true, false, false, true, true, true, false] (an (an h6 (an h2 (an h5 (an h2 (an h4 (an h3 (an h2 (an h2 (an (show i.succ ≤ n * (1 : Nat) by omega) (an (an (show (0 : Int) ≤ (↑i : Int) by (simp; done)) (show (↑i : Int) + (1 : Int) ≤ (↑n : Int) by omega)) (an h1 (an h0 tt)))))))))))) (an (an (an tt (an (@Eq.refl (Nat) n) (show n ≤ n by (simp; done)))) (an tt (an tt (an (show e + (1 : Int) = IntKind.i64.wrap (e + (1 : Int)) by omega) (an (show (↑(i + (1 : Nat)) : Int) = IntKind.i64.wrap ((↑i : Int) + (1 : Int)) by omega) tt))))) (an (an (show n * (1 : Nat) ≤ n * (1 : Nat) by (simp; done)) (show ∀ (k : Nat), k < n * (1 : Nat) → f k = f k from fun _ _ => rfl)) (an (an (@Eq.refl (Nat) ((634 : Nat))) (an (show ∀ (k : Nat), k < (634 : Nat) → (if k = (29 : Nat) then (4 : Int) * (e + (1 : Int)) else W k) = if k = (29 : Nat) then if W (29 : Nat) = IntKind.i64.wrap (IntKind.i64.wrap (E0 * (4 : Int)) + (0 : Int)) then IntKind.i64.wrap (IntKind.i64.wrap (IntKind.i64.wrap (E0 + (1 : Int)) * (4 : Int)) + (0 : Int)) else W (29 : Nat) else if k = (29 : Nat) then if W (29 : Nat) = IntKind.i64.wrap (IntKind.i64.wrap (E0 * (4 : Int)) + (0 : Int)) then IntKind.i64.wrap (IntKind.i64.wrap (IntKind.i64.wrap (E0 + (1 : Int)) * (4 : Int)) + (0 : Int)) else W (29 : Nat) else W k by (simp [w1, w2, w3, g1.1, g2, g4, g5, g6, hW, ht, ht2, w9, w6, w7, w8, w10, w11, hEe] at *; omega)) (an tt (an tt (an tt (an tt (an tt (an tt (an tt (an tt tt)))))))))) (an (an (@Eq.refl (Nat) ((0 : Nat))) (an (show ∀ (k : Nat), k < (0 : Nat) → (0 : Int) = (0 : Int) from fun _ _ => rfl) (an tt (an tt tt)))) (an (an (@Eq.refl (Nat) ((0 : Nat))) (an (show ∀ (k : Nat), k < (0 : Nat) → (0 : Int) = (0 : Int) from fun _ _ => rfl) (an tt (an (ri q1) (an (ri E1) (an tt tt)))))) (an (an (@Eq.refl (Nat) ((0 : Nat))) (an (show ∀ (k : Nat), k < (0 : Nat) → (0 : Int) = (0 : Int) from fun _ _ => rfl) (an tt (an (ri q2) (an (ri E2) (an tt tt)))))) tt))))))) ?_
       kernel_rfl
     · exact ff (by (simp [w1, w2, w3, g1.1, g2, g4, g5, g6, hW, ht, ht2, w9, w6, w7, w8, w10, w11, hEe] at *; done))
    · exact ff (by (simp [w1, w2, w3, g1.1, g2, g4, g5, g6, hW, ht, ht2, w9, w6, w7, w8, w10, w11, hEe] at *; done))
   · exact ff (by (simp at *; omega))
  · exact ff (by (simp at *; omega))
theorem er_111_0D (f : Nat → Int) (n : Nat) (W : Nat → Int) (e : Int) (i : Nat) (q0 E0 : Int) (q1 E1 : Int) (q2 E2 : Int) (hn : n ≤ 9223372036854775807) (hi : i < n) (hi9 : i < 90) (he : 0 ≤ e ∧ e ≤ 90) (hW : W 29 = 4 * e) (ht : f i % 1024 % 3 = 0) (hq : q0 = 2) (hE : 0 ≤ E0 ∧ E0 ≤ 90) (hEe : ¬ E0 = e) : ∃ hh, vcOf (runAt Try.prog specs noL 6000 12 [1, 1, 1, 1, 1, 1, 0, 1, 0, 0] (Tr.ofPairs (rT n e i)) (Hm (rB f n W [.ptr 6 (.c 0), .ptr 7 (.c 0), .ptr 8 (.c 0)] [adv q0 E0, adv q1 E1, adv q2 E2]) 9) hh)
    (nrm 6 [0, 1, 2, 3, 4, 5, 7, 8] (rT n e (i + 1)) (rB f n W [.nilp, .ptr 6 (.c 0), .ptr 7 (.c 0)] [adv q1 E1, adv q2 E2]) 8) := by
  subst hq
  have w1 : IntKind.i64.wrap ((i : Int) + 1) = i + 1 := wrapk _ (by omega)
  have w2 : IntKind.i64.wrap (4 * e) = 4 * e := wrapk _ (by omega)
  have w3 : IntKind.i64.wrap (e + 1) = e + 1 := wrapk _ (by omega)
  have g1 := Wd.isVal_mk (x := 4 * e) (by omega) (by omega) (by omega)
  have g2 : Wd.plV (4 * e) = e := by rw [g1.2]; omega
  have g3 : e < 1048576 := by omega
  have g4 : IntKind.i64.wrap (e * 4) = 4 * e := by rw [wrapk _ (by omega)]; omega
  have g5 : IntKind.i64.wrap ((e + 1) * 4) = 4 * (e + 1) := by rw [wrapk _ (by omega)]; omega
  have g6 : IntKind.i64.wrap (4 * (e + 1)) = 4 * (e + 1) := wrapk _ (by omega)
  have ht2 : (f i % 1024).tmod 3 = 0 := by rw [Int.tmod_eq_emod_of_nonneg (by omega)]; exact ht
  have w9 : IntKind.i64.wrap 0 = 0 := by decide
  have w6 : IntKind.i64.wrap (E0 * 4) = 4 * E0 := by rw [wrapk _ (by omega)]; omega
  have w7 : IntKind.i64.wrap (4 * E0) = 4 * E0 := wrapk _ (by omega)
  have w8 : IntKind.i64.wrap (E0 + 1) = E0 + 1 := wrapk _ (by omega)
  have w10 : IntKind.i64.wrap ((E0 + 1) * 4) = 4 * (E0 + 1) := by rw [wrapk _ (by omega)]; omega
  have w11 : IntKind.i64.wrap (4 * (E0 + 1)) = 4 * (E0 + 1) := wrapk _ (by omega)

  rcases Bool.eq_false_or_eq_true (decide ((↑i : Int) < (↑n : Int))) with h0 | h0
  ·
   rcases Bool.eq_false_or_eq_true (decide ((↑i : Int) < (90 : Int))) with h1 | h1
   ·
    rcases Bool.eq_false_or_eq_true (decide ((f i % (1024 : Int)).tmod (3 : Int) = (0 : Int))) with h2 | h2
    ·
     have h3 : (decide ((2 : Int) < (0 : Int))) = false := by decide +kernel
     have h4 : (decide ((2 : Int) < (2 : Int))) = false := by decide +kernel
     rcases Bool.eq_false_or_eq_true (W (29 : Nat) == IntKind.i64.wrap (IntKind.i64.wrap (E0 * (4 : Int)) + (0 : Int))) with h5 | h5
     · exact ff (by (simp [w1, w2, w3, g1.1, g2, g4, g5, g6, hW, ht, ht2, w9, w6, w7, w8, w10, w11] at *; omega))
     ·
      rcases Bool.eq_false_or_eq_true ((if W (29 : Nat) = IntKind.i64.wrap (IntKind.i64.wrap (E0 * (4 : Int)) + (0 : Int)) then IntKind.i64.wrap (IntKind.i64.wrap (IntKind.i64.wrap (E0 + (1 : Int)) * (4 : Int)) + (0 : Int)) else W (29 : Nat)) != IntKind.i64.wrap ((4 : Int) * e)) with h6 | h6
      · exact ff (by (simp at *; omega))
      ·
       refine vcIntro [true, true, true, true, false, false, true, false, true, false] (an (an h6 (an h2 (an h5 (an h2 (an h4 (an h3 (an h2 (an h2 (an (show i.succ ≤ n * (1 : Nat) by omega) (an (an (show (0 : Int) ≤ (↑i : Int) by (simp; done)) (show (↑i : Int) + (1 : Int) ≤ (↑n : Int) by omega)) (an h1 (an h0 tt)))))))))))) (an (an (an tt (an (@Eq.refl (Nat) n) (show n ≤ n by (simp; done)))) (an tt (an tt (an (ri e) (an (show (↑(i + (1 : Nat)) : Int) = IntKind.i64.wrap ((↑i : Int) + (1 : Int)) by omega) tt))))) (an (an (show n * (1 : Nat) ≤ n * (1 : Nat) by (simp; done)) (show ∀ (k : Nat), k < n * (1 : Nat) → f k = f k from fun _ _ => rfl)) (an (an (@Eq.refl (Nat) ((634 : Nat))) (an (show ∀ (k : Nat), k < (634 : Nat) → W k = if k = (29 : Nat) then if W (29 : Nat) = IntKind.i64.wrap (IntKind.i64.wrap (E0 * (4 : Int)) + (0 : Int)) then IntKind.i64.wrap (IntKind.i64.wrap (IntKind.i64.wrap (E0 + (1 : Int)) * (4 : Int)) + (0 : Int)) else W (29 : Nat) else if k = (29 : Nat) then if W (29 : Nat) = IntKind.i64.wrap (IntKind.i64.wrap (E0 * (4 : Int)) + (0 : Int)) then IntKind.i64.wrap (IntKind.i64.wrap (IntKind.i64.wrap (E0 + (1 : Int)) * (4 : Int)) + (0 : Int)) else W (29 : Nat) else W k by (intro j hj; (repeat' split) <;> (first | rfl | (congr 1; omega) | (simp_all; done)))) (an tt (an tt (an tt (an tt (an tt (an tt (an tt (an tt tt)))))))))) (an (an (@Eq.refl (Nat) ((0 : Nat))) (an (show ∀ (k : Nat), k < (0 : Nat) → (0 : Int) = (0 : Int) from fun _ _ => rfl) (an tt (an tt tt)))) (an (an (@Eq.refl (Nat) ((0 : Nat))) (an (show ∀ (k : Nat), k < (0 : Nat) → (0 : Int) = (0 : Int) from fun _ _ => rfl) (an tt (an (ri q1) (an (ri E1) (an tt tt)))))) (an (an (@Eq.refl (Nat) ((0 : Nat))) (an (show ∀ (k : Nat), k < (0 : Nat) → (0 : Int) = (0 : Int) from fun _ _ => rfl) (an tt (an (ri q2) (an (ri E2) (an tt tt)))))) tt))))))) ?_
       kernel_rfl
    · exact ff (by (simp [w1, w2, w3, g1.1, g2, g4, g5, g6, hW, ht, ht2, w9, w6, w7, w8, w10, w11] at *; done))
   · exact ff (by (simp at *; omega))
  · exact ff (by (simp at *; omega))
end Go.Ideal.E5
