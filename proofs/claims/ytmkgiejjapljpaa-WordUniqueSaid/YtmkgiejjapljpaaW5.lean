/- Chapter 1: WordKinds, WordUnique, WordForms. Own text. -/
import Derived.Test.YtmkgiejjapljpaaW4
namespace Go.Ideal.W1
open Go.Proofs Go.Ideal Go.Ideal.L1
set_option linter.unusedSimpArgs false
set_option linter.unusedVariables false
set_option maxRecDepth 100000
set_option maxHeartbeats 8000000

/-- A slot out of a number. -/
def slotOf (s : Int) : Int := IntKind.i64.wrap ((IntKind.u64.wrap s).tmod 12)
theorem slotOf_lt (s : Int) : 0 ≤ slotOf s ∧ slotOf s < 12 := by
  have h : 0 ≤ IntKind.u64.wrap s := by simp [IntKind.wrap, IntKind.bits, IntKind.signed]; omega
  unfold slotOf
  rw [Int.tmod_eq_emod_of_nonneg h, wrapk _ (by omega)]
  omega

theorem injB (k v s g e t q k' v' s' g' e' t' q' : Int) (h : (putE k v s g e t q == 0) = true) (h' : (putE k' v' s' g' e' t' q' == 0) = true) :
    (putV k v s g e t q == putV k' v' s' g' e' t' q') = (k == k' && (v == v' && (s == s' && (g == g' && (e == e' && (t == t' && q == q')))))) := by
  have m : wMay k v s g e t q = true := by
    cases hm : wMay k v s g e t q
    · simp [putE, hm] at h
    · rfl
  have m' : wMay k' v' s' g' e' t' q' = true := by
    cases hm : wMay k' v' s' g' e' t' q'
    · simp [putE, hm] at h'
    · rfl
  rw [Bool.eq_iff_iff]
  simp only [beq_iff_eq, Bool.and_eq_true, putV, m, m', if_true]
  exact inj k v s g e t q k' v' s' g' e' t' q' m m'

theorem kinds1 (x y s g : Int) : ∃ hh, vcOf (runCall Try.prog specs noL 3000 6 [.int .i64 (.s x), .int .i64 (.s y), .int .i64 (.s s), .int .i64 (.s g)] H0 hh) (fun v _ => isT v) := by
  have hs : 0 ≤ IntKind.i64.wrap ((IntKind.u64.wrap s).tmod 12) ∧ IntKind.i64.wrap ((IntKind.u64.wrap s).tmod 12) < 12 := slotOf_lt s

  rcases Bool.eq_false_or_eq_true (Go.Ideal.W1.putE (0 : Int) (x % (1099511627776 : Int)) (0 : Int) (0 : Int) (0 : Int) (0 : Int) (0 : Int) == (0 : Int)) with h0 | h0
  ·
    rcases Bool.eq_false_or_eq_true (Go.Ideal.W1.putE (0 : Int) (y % (1099511627776 : Int)) (0 : Int) (0 : Int) (0 : Int) (0 : Int) (0 : Int) == (0 : Int)) with h1 | h1
    ·
      rcases Bool.eq_false_or_eq_true (Go.Ideal.W1.putE (2 : Int) (0 : Int) (Go.IntKind.i64.wrap ((Go.IntKind.u64.wrap s).tmod (12 : Int))) (g % (65536 : Int)) (0 : Int) (0 : Int) (0 : Int) == (0 : Int)) with h2 | h2
      ·
        rcases Bool.eq_false_or_eq_true (Go.Ideal.W1.putE (1 : Int) (0 : Int) (Go.IntKind.i64.wrap ((Go.IntKind.u64.wrap s).tmod (12 : Int))) (g % (65536 : Int)) (0 : Int) (0 : Int) (0 : Int) == (0 : Int)) with h3 | h3
        ·
          rcases Bool.eq_false_or_eq_true (Decidable.decide (Go.Ideal.W1.putV (0 : Int) (x % (1099511627776 : Int)) (0 : Int) (0 : Int) (0 : Int) (0 : Int) (0 : Int) < Go.Ideal.W1.putV (0 : Int) (y % (1099511627776 : Int)) (0 : Int) (0 : Int) (0 : Int) (0 : Int) (0 : Int)) == Decidable.decide (x % (1099511627776 : Int) < y % (1099511627776 : Int))) with h4 | h4
          ·
            rcases Bool.eq_false_or_eq_true (Go.Ideal.W1.putV (0 : Int) (x % (1099511627776 : Int)) (0 : Int) (0 : Int) (0 : Int) (0 : Int) (0 : Int) % (4 : Int) == (0 : Int)) with h5 | h5
            ·
              rcases Bool.eq_false_or_eq_true (Go.Ideal.W1.putV (2 : Int) (0 : Int) (Go.IntKind.i64.wrap ((Go.IntKind.u64.wrap s).tmod (12 : Int))) (g % (65536 : Int)) (0 : Int) (0 : Int) (0 : Int) % (4 : Int) == (2 : Int)) with h6 | h6
              ·
                rcases Bool.eq_false_or_eq_true (Go.Ideal.W1.putV (1 : Int) (0 : Int) (Go.IntKind.i64.wrap ((Go.IntKind.u64.wrap s).tmod (12 : Int))) (g % (65536 : Int)) (0 : Int) (0 : Int) (0 : Int) % (4 : Int) == (1 : Int)) with h7 | h7
                ·
                  rcases Bool.eq_false_or_eq_true (Go.Ideal.W1.putV (0 : Int) (x % (1099511627776 : Int)) (0 : Int) (0 : Int) (0 : Int) (0 : Int) (0 : Int) != Go.Ideal.W1.putV (2 : Int) (0 : Int) (Go.IntKind.i64.wrap ((Go.IntKind.u64.wrap s).tmod (12 : Int))) (g % (65536 : Int)) (0 : Int) (0 : Int) (0 : Int)) with h8 | h8
                  ·
                    rcases Bool.eq_false_or_eq_true (Go.Ideal.W1.putV (0 : Int) (x % (1099511627776 : Int)) (0 : Int) (0 : Int) (0 : Int) (0 : Int) (0 : Int) != Go.Ideal.W1.putV (1 : Int) (0 : Int) (Go.IntKind.i64.wrap ((Go.IntKind.u64.wrap s).tmod (12 : Int))) (g % (65536 : Int)) (0 : Int) (0 : Int) (0 : Int)) with h9 | h9
                    ·
                      have k10 : (Go.Ideal.W1.putV (2 : Int) (0 : Int) (Go.IntKind.i64.wrap ((Go.IntKind.u64.wrap s).tmod (12 : Int))) (g % (65536 : Int)) (0 : Int) (0 : Int) (0 : Int) != Go.Ideal.W1.putV (1 : Int) (0 : Int) (Go.IntKind.i64.wrap ((Go.IntKind.u64.wrap s).tmod (12 : Int))) (g % (65536 : Int)) (0 : Int) (0 : Int) (0 : Int)) = Bool.true := by (generalize IntKind.i64.wrap ((IntKind.u64.wrap s).tmod 12) = z at *; simp [putE, putV, wMay, wNum] at *; omega)
                      refine vcIntro [true, true, true, true, true, true, true, true, true, true] (And.intro (And.intro h9 (And.intro h8 (And.intro h7 (And.intro h6 (And.intro h5 (And.intro h4 (And.intro h3 (And.intro h2 (And.intro h1 (And.intro h0 True.intro)))))))))) k10) ?_
                      kernel_rfl
                    · exact False.elim (by (generalize IntKind.i64.wrap ((IntKind.u64.wrap s).tmod 12) = z at *; simp [putE, putV, wMay, wNum] at *; omega))
                  · exact False.elim (by (generalize IntKind.i64.wrap ((IntKind.u64.wrap s).tmod 12) = z at *; simp [putE, putV, wMay, wNum] at *; omega))
                · exact False.elim (by (generalize IntKind.i64.wrap ((IntKind.u64.wrap s).tmod 12) = z at *; simp [putE, putV, wMay, wNum] at *; omega))
              · exact False.elim (by (generalize IntKind.i64.wrap ((IntKind.u64.wrap s).tmod 12) = z at *; simp [putE, putV, wMay, wNum] at *; omega))
            · exact False.elim (by (generalize IntKind.i64.wrap ((IntKind.u64.wrap s).tmod 12) = z at *; simp [putE, putV, wMay, wNum] at *; omega))
          · exact False.elim (by (generalize IntKind.i64.wrap ((IntKind.u64.wrap s).tmod 12) = z at *; simp [putE, putV, wMay, wNum] at *; omega))
        · exact False.elim (by (generalize IntKind.i64.wrap ((IntKind.u64.wrap s).tmod 12) = z at *; simp [putE, putV, wMay, wNum] at *; omega))
      · exact False.elim (by (generalize IntKind.i64.wrap ((IntKind.u64.wrap s).tmod 12) = z at *; simp [putE, putV, wMay, wNum] at *; omega))
    · exact False.elim (by (generalize IntKind.i64.wrap ((IntKind.u64.wrap s).tmod 12) = z at *; simp [putE, putV, wMay, wNum] at *; omega))
  · exact False.elim (by (generalize IntKind.i64.wrap ((IntKind.u64.wrap s).tmod 12) = z at *; simp [putE, putV, wMay, wNum] at *; omega))
theorem unique1 (k v s g e t q w x : Int) : ∃ hh, vcOf (runCall Try.prog specs noL 3000 7 [wordV k v s g e t q, .int .i64 (.s w), .int .i64 (.s x)] H0 hh) (fun v _ => isT v) := by
  have hs : 0 ≤ IntKind.i64.wrap ((IntKind.u64.wrap s).tmod 12) ∧ IntKind.i64.wrap ((IntKind.u64.wrap s).tmod 12) < 12 := slotOf_lt s
  have hs' : 0 ≤ IntKind.i64.wrap ((IntKind.u64.wrap x).tmod 12) ∧ IntKind.i64.wrap ((IntKind.u64.wrap x).tmod 12) < 12 := slotOf_lt x

  rcases Bool.eq_false_or_eq_true ((Go.IntKind.u64.wrap w).tmod (5 : Int) == (0 : Int)) with h0 | h0
  ·
    rcases Bool.eq_false_or_eq_true (Go.Ideal.W1.putE (1 : Int) (0 : Int) (Go.IntKind.i64.wrap ((Go.IntKind.u64.wrap s).tmod (12 : Int))) (g % (65536 : Int)) (e % (16 : Int)) (t % (4 : Int)) (q % (1048576 : Int)) == (0 : Int)) with h1 | h1
    ·
      rcases Bool.eq_false_or_eq_true (Go.Ideal.W1.putE (1 : Int) (0 : Int) (Go.IntKind.i64.wrap ((Go.IntKind.u64.wrap x).tmod (12 : Int))) (g % (65536 : Int)) (e % (16 : Int)) (t % (4 : Int)) (q % (1048576 : Int)) == (0 : Int)) with h2 | h2
      ·
        have k3 : ((Go.Ideal.W1.putV (1 : Int) (0 : Int) (Go.IntKind.i64.wrap ((Go.IntKind.u64.wrap s).tmod (12 : Int))) (g % (65536 : Int)) (e % (16 : Int)) (t % (4 : Int)) (q % (1048576 : Int)) == Go.Ideal.W1.putV (1 : Int) (0 : Int) (Go.IntKind.i64.wrap ((Go.IntKind.u64.wrap x).tmod (12 : Int))) (g % (65536 : Int)) (e % (16 : Int)) (t % (4 : Int)) (q % (1048576 : Int))) == (Go.IntKind.i64.wrap ((Go.IntKind.u64.wrap s).tmod (12 : Int)) == Go.IntKind.i64.wrap ((Go.IntKind.u64.wrap x).tmod (12 : Int)) && (g % (65536 : Int) == g % (65536 : Int) && (e % (16 : Int) == e % (16 : Int) && (t % (4 : Int) == t % (4 : Int) && q % (1048576 : Int) == q % (1048576 : Int)))))) = Bool.true := by (rw [injB] <;> first | assumption | (simp; done))
        refine vcIntro [true, true, true] (And.intro (And.intro h2 (And.intro h1 (And.intro h0 True.intro))) k3) ?_
        kernel_rfl
      · exact False.elim (by (generalize IntKind.i64.wrap ((IntKind.u64.wrap s).tmod 12) = z at *; generalize IntKind.i64.wrap ((IntKind.u64.wrap x).tmod 12) = z' at *; simp [putE, putV, wMay, wNum] at *; omega))
    · exact False.elim (by (generalize IntKind.i64.wrap ((IntKind.u64.wrap s).tmod 12) = z at *; generalize IntKind.i64.wrap ((IntKind.u64.wrap x).tmod 12) = z' at *; simp [putE, putV, wMay, wNum] at *; omega))
  ·
    rcases Bool.eq_false_or_eq_true ((Go.IntKind.u64.wrap w).tmod (5 : Int) == (1 : Int)) with h4 | h4
    ·
      rcases Bool.eq_false_or_eq_true (Go.Ideal.W1.putE (1 : Int) (0 : Int) (Go.IntKind.i64.wrap ((Go.IntKind.u64.wrap s).tmod (12 : Int))) (g % (65536 : Int)) (e % (16 : Int)) (t % (4 : Int)) (q % (1048576 : Int)) == (0 : Int)) with h5 | h5
      ·
        rcases Bool.eq_false_or_eq_true (Go.Ideal.W1.putE (1 : Int) (0 : Int) (Go.IntKind.i64.wrap ((Go.IntKind.u64.wrap s).tmod (12 : Int))) (x % (65536 : Int)) (e % (16 : Int)) (t % (4 : Int)) (q % (1048576 : Int)) == (0 : Int)) with h6 | h6
        ·
          have k7 : ((Go.Ideal.W1.putV (1 : Int) (0 : Int) (Go.IntKind.i64.wrap ((Go.IntKind.u64.wrap s).tmod (12 : Int))) (g % (65536 : Int)) (e % (16 : Int)) (t % (4 : Int)) (q % (1048576 : Int)) == Go.Ideal.W1.putV (1 : Int) (0 : Int) (Go.IntKind.i64.wrap ((Go.IntKind.u64.wrap s).tmod (12 : Int))) (x % (65536 : Int)) (e % (16 : Int)) (t % (4 : Int)) (q % (1048576 : Int))) == (Go.IntKind.i64.wrap ((Go.IntKind.u64.wrap s).tmod (12 : Int)) == Go.IntKind.i64.wrap ((Go.IntKind.u64.wrap s).tmod (12 : Int)) && (g % (65536 : Int) == x % (65536 : Int) && (e % (16 : Int) == e % (16 : Int) && (t % (4 : Int) == t % (4 : Int) && q % (1048576 : Int) == q % (1048576 : Int)))))) = Bool.true := by (rw [injB] <;> first | assumption | (simp; done))
          refine vcIntro [false, true, true, true] (And.intro (And.intro h6 (And.intro h5 (And.intro h4 (And.intro h0 True.intro)))) k7) ?_
          kernel_rfl
        · exact False.elim (by (generalize IntKind.i64.wrap ((IntKind.u64.wrap s).tmod 12) = z at *; generalize IntKind.i64.wrap ((IntKind.u64.wrap x).tmod 12) = z' at *; simp [putE, putV, wMay, wNum] at *; omega))
      · exact False.elim (by (generalize IntKind.i64.wrap ((IntKind.u64.wrap s).tmod 12) = z at *; generalize IntKind.i64.wrap ((IntKind.u64.wrap x).tmod 12) = z' at *; simp [putE, putV, wMay, wNum] at *; omega))
    ·
      rcases Bool.eq_false_or_eq_true ((Go.IntKind.u64.wrap w).tmod (5 : Int) == (2 : Int)) with h8 | h8
      ·
        rcases Bool.eq_false_or_eq_true (Go.Ideal.W1.putE (1 : Int) (0 : Int) (Go.IntKind.i64.wrap ((Go.IntKind.u64.wrap s).tmod (12 : Int))) (g % (65536 : Int)) (e % (16 : Int)) (t % (4 : Int)) (q % (1048576 : Int)) == (0 : Int)) with h9 | h9
        ·
          rcases Bool.eq_false_or_eq_true (Go.Ideal.W1.putE (1 : Int) (0 : Int) (Go.IntKind.i64.wrap ((Go.IntKind.u64.wrap s).tmod (12 : Int))) (g % (65536 : Int)) (x % (16 : Int)) (t % (4 : Int)) (q % (1048576 : Int)) == (0 : Int)) with h10 | h10
          ·
            have k11 : ((Go.Ideal.W1.putV (1 : Int) (0 : Int) (Go.IntKind.i64.wrap ((Go.IntKind.u64.wrap s).tmod (12 : Int))) (g % (65536 : Int)) (e % (16 : Int)) (t % (4 : Int)) (q % (1048576 : Int)) == Go.Ideal.W1.putV (1 : Int) (0 : Int) (Go.IntKind.i64.wrap ((Go.IntKind.u64.wrap s).tmod (12 : Int))) (g % (65536 : Int)) (x % (16 : Int)) (t % (4 : Int)) (q % (1048576 : Int))) == (Go.IntKind.i64.wrap ((Go.IntKind.u64.wrap s).tmod (12 : Int)) == Go.IntKind.i64.wrap ((Go.IntKind.u64.wrap s).tmod (12 : Int)) && (g % (65536 : Int) == g % (65536 : Int) && (e % (16 : Int) == x % (16 : Int) && (t % (4 : Int) == t % (4 : Int) && q % (1048576 : Int) == q % (1048576 : Int)))))) = Bool.true := by (rw [injB] <;> first | assumption | (simp; done))
            refine vcIntro [false, false, true, true, true] (And.intro (And.intro h10 (And.intro h9 (And.intro h8 (And.intro h4 (And.intro h0 True.intro))))) k11) ?_
            kernel_rfl
          · exact False.elim (by (generalize IntKind.i64.wrap ((IntKind.u64.wrap s).tmod 12) = z at *; generalize IntKind.i64.wrap ((IntKind.u64.wrap x).tmod 12) = z' at *; simp [putE, putV, wMay, wNum] at *; omega))
        · exact False.elim (by (generalize IntKind.i64.wrap ((IntKind.u64.wrap s).tmod 12) = z at *; generalize IntKind.i64.wrap ((IntKind.u64.wrap x).tmod 12) = z' at *; simp [putE, putV, wMay, wNum] at *; omega))
      ·
        rcases Bool.eq_false_or_eq_true ((Go.IntKind.u64.wrap w).tmod (5 : Int) == (3 : Int)) with h12 | h12
        ·
          rcases Bool.eq_false_or_eq_true (Go.Ideal.W1.putE (1 : Int) (0 : Int) (Go.IntKind.i64.wrap ((Go.IntKind.u64.wrap s).tmod (12 : Int))) (g % (65536 : Int)) (e % (16 : Int)) (t % (4 : Int)) (q % (1048576 : Int)) == (0 : Int)) with h13 | h13
          ·
            rcases Bool.eq_false_or_eq_true (Go.Ideal.W1.putE (1 : Int) (0 : Int) (Go.IntKind.i64.wrap ((Go.IntKind.u64.wrap s).tmod (12 : Int))) (g % (65536 : Int)) (e % (16 : Int)) (x % (4 : Int)) (q % (1048576 : Int)) == (0 : Int)) with h14 | h14
            ·
              have k15 : ((Go.Ideal.W1.putV (1 : Int) (0 : Int) (Go.IntKind.i64.wrap ((Go.IntKind.u64.wrap s).tmod (12 : Int))) (g % (65536 : Int)) (e % (16 : Int)) (t % (4 : Int)) (q % (1048576 : Int)) == Go.Ideal.W1.putV (1 : Int) (0 : Int) (Go.IntKind.i64.wrap ((Go.IntKind.u64.wrap s).tmod (12 : Int))) (g % (65536 : Int)) (e % (16 : Int)) (x % (4 : Int)) (q % (1048576 : Int))) == (Go.IntKind.i64.wrap ((Go.IntKind.u64.wrap s).tmod (12 : Int)) == Go.IntKind.i64.wrap ((Go.IntKind.u64.wrap s).tmod (12 : Int)) && (g % (65536 : Int) == g % (65536 : Int) && (e % (16 : Int) == e % (16 : Int) && (t % (4 : Int) == x % (4 : Int) && q % (1048576 : Int) == q % (1048576 : Int)))))) = Bool.true := by (rw [injB] <;> first | assumption | (simp; done))
              refine vcIntro [false, false, false, true, true, true] (And.intro (And.intro h14 (And.intro h13 (And.intro h12 (And.intro h8 (And.intro h4 (And.intro h0 True.intro)))))) k15) ?_
              kernel_rfl
            · exact False.elim (by (generalize IntKind.i64.wrap ((IntKind.u64.wrap s).tmod 12) = z at *; generalize IntKind.i64.wrap ((IntKind.u64.wrap x).tmod 12) = z' at *; simp [putE, putV, wMay, wNum] at *; omega))
          · exact False.elim (by (generalize IntKind.i64.wrap ((IntKind.u64.wrap s).tmod 12) = z at *; generalize IntKind.i64.wrap ((IntKind.u64.wrap x).tmod 12) = z' at *; simp [putE, putV, wMay, wNum] at *; omega))
        ·
          rcases Bool.eq_false_or_eq_true (Go.Ideal.W1.putE (1 : Int) (0 : Int) (Go.IntKind.i64.wrap ((Go.IntKind.u64.wrap s).tmod (12 : Int))) (g % (65536 : Int)) (e % (16 : Int)) (t % (4 : Int)) (q % (1048576 : Int)) == (0 : Int)) with h16 | h16
          ·
            rcases Bool.eq_false_or_eq_true (Go.Ideal.W1.putE (1 : Int) (0 : Int) (Go.IntKind.i64.wrap ((Go.IntKind.u64.wrap s).tmod (12 : Int))) (g % (65536 : Int)) (e % (16 : Int)) (t % (4 : Int)) (x % (1048576 : Int)) == (0 : Int)) with h17 | h17
            ·
              have k18 : ((Go.Ideal.W1.putV (1 : Int) (0 : Int) (Go.IntKind.i64.wrap ((Go.IntKind.u64.wrap s).tmod (12 : Int))) (g % (65536 : Int)) (e % (16 : Int)) (t % (4 : Int)) (q % (1048576 : Int)) == Go.Ideal.W1.putV (1 : Int) (0 : Int) (Go.IntKind.i64.wrap ((Go.IntKind.u64.wrap s).tmod (12 : Int))) (g % (65536 : Int)) (e % (16 : Int)) (t % (4 : Int)) (x % (1048576 : Int))) == (Go.IntKind.i64.wrap ((Go.IntKind.u64.wrap s).tmod (12 : Int)) == Go.IntKind.i64.wrap ((Go.IntKind.u64.wrap s).tmod (12 : Int)) && (g % (65536 : Int) == g % (65536 : Int) && (e % (16 : Int) == e % (16 : Int) && (t % (4 : Int) == t % (4 : Int) && q % (1048576 : Int) == x % (1048576 : Int)))))) = Bool.true := by (rw [injB] <;> first | assumption | (simp; done))
              refine vcIntro [false, false, false, false, true, true] (And.intro (And.intro h17 (And.intro h16 (And.intro h12 (And.intro h8 (And.intro h4 (And.intro h0 True.intro)))))) k18) ?_
              kernel_rfl
            · exact False.elim (by (generalize IntKind.i64.wrap ((IntKind.u64.wrap s).tmod 12) = z at *; generalize IntKind.i64.wrap ((IntKind.u64.wrap x).tmod 12) = z' at *; simp [putE, putV, wMay, wNum] at *; omega))
          · exact False.elim (by (generalize IntKind.i64.wrap ((IntKind.u64.wrap s).tmod 12) = z at *; generalize IntKind.i64.wrap ((IntKind.u64.wrap x).tmod 12) = z' at *; simp [putE, putV, wMay, wNum] at *; omega))
theorem kinds_q (x : Int) (_ : -9223372036854775808 ≤ x ∧ x ≤ 9223372036854775807) (y : Int) (_ : -9223372036854775808 ≤ y ∧ y ≤ 9223372036854775807) (s : Int) (_ : -9223372036854775808 ≤ s ∧ s ≤ 9223372036854775807) (g : Int) (_ : -9223372036854775808 ≤ g ∧ g ≤ 9223372036854775807) :
    CallQ Try.prog 6 [.int .i64 (.s x), .int .i64 (.s y), .int .i64 (.s s), .int .i64 (.s g)] (Hx []) (fun v _ => isT v) := CallQ.run specs_ok noL_ok mixed (kinds1 x y s g)
theorem unique_q (fi : Nat → Int) (fb : Nat → Bool) (fs : Nat → ByteArray) (_ : ∀ i, (List.replicate 7 Lf.i)[i]? = some .i → -9223372036854775808 ≤ fi i ∧ fi i ≤ 9223372036854775807) (w : Int) (_ : -9223372036854775808 ≤ w ∧ w ≤ 9223372036854775807) (x : Int) (_ : -9223372036854775808 ≤ x ∧ x ≤ 9223372036854775807) :
    CallQ Try.prog 7 [.agg (lfV fi fb fs 0 (List.replicate 7 .i)), .int .i64 (.s w), .int .i64 (.s x)] (Hx []) (fun v _ => isT v) := CallQ.run specs_ok noL_ok mixed (unique1 (fi 0) (fi 1) (fi 2) (fi 3) (fi 4) (fi 5) (fi 6) w x)
end Go.Ideal.W1
