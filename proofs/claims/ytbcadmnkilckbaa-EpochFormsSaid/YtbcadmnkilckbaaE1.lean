/- Chapter 11: EpochForms, EpochAlone. Own text. -/
import Derived.Test.YtbcadmnkilckbaaE0
namespace Go.Ideal.E1
open Go.Proofs Go.Ideal Go.Ideal.L1
set_option linter.unusedSimpArgs false
set_option linter.unusedVariables false
set_option maxRecDepth 100000
set_option maxHeartbeats 4000000

theorem hW (w x : Int) (h : Wd.isVal ([2, 3, IntKind.i64.wrap (-4 * IntKind.i64.wrap (1 + x % 1024)), IntKind.i64.wrap (IntKind.i64.wrap (4 * IntKind.i64.wrap (1 + x % 1024)) + 1), IntKind.i64.wrap (4 * IntKind.i64.wrap (IntKind.i64.wrap (1073741823 + IntKind.i64.wrap (1 + x % 1024)) - 1))].getD (IntKind.i64.wrap ((IntKind.u64.wrap w).tmod 5)).toNat 0) = true) : decide (Wd.plV ([2, 3, IntKind.i64.wrap (-4 * IntKind.i64.wrap (1 + x % 1024)), IntKind.i64.wrap (IntKind.i64.wrap (4 * IntKind.i64.wrap (1 + x % 1024)) + 1), IntKind.i64.wrap (4 * IntKind.i64.wrap (IntKind.i64.wrap (1073741823 + IntKind.i64.wrap (1 + x % 1024)) - 1))].getD (IntKind.i64.wrap ((IntKind.u64.wrap w).tmod 5)).toNat 0) < 1073741823) = false := by
  have h5 := modU w 5 (by omega) (by omega)
  have hx : 0 ≤ x % 1024 ∧ x % 1024 < 1024 := by omega
  have e2 : IntKind.i64.wrap (-4 * IntKind.i64.wrap (1 + x % 1024)) = -4 * (1 + x % 1024) := by rw [w1, wrapk _ (by omega)]
  have e3 : IntKind.i64.wrap (IntKind.i64.wrap (4 * IntKind.i64.wrap (1 + x % 1024)) + 1) = 4 * (1 + x % 1024) + 1 := by rw [w1, wrapk (4 * _) (by omega), wrapk _ (by omega)]
  have e4 : IntKind.i64.wrap (4 * IntKind.i64.wrap (IntKind.i64.wrap (1073741823 + IntKind.i64.wrap (1 + x % 1024)) - 1)) = 4 * (1073741823 + (1 + x % 1024) - 1) := by rw [w1, wrapk (1073741823 + _) (by omega), wrapk (_ - 1) (by omega), wrapk _ (by omega)]
  simp only [e2, e3, e4] at h ⊢; clear e2 e3 e4
  generalize hm : IntKind.i64.wrap ((IntKind.u64.wrap w).tmod 5) = m at *
  have hb := Wd.isVal_of h
  rcases (by omega : m = 0 ∨ m = 1 ∨ m = 2 ∨ m = 3 ∨ m = 4) with rfl | rfl | rfl | rfl | rfl <;> simp at hb ⊢ <;> omega
theorem forms1 (w x : Int) : ∃ hh, vcOf (runCall Try.prog specs noL 6000 9 [.int .i64 (.s w), .int .i64 (.s x)] H0 hh) (fun v _ => isT v) := by
  have hm5 := modU w 5 (by omega) (by omega)
  have hx : 0 ≤ x % 1024 ∧ x % 1024 < 1024 := by omega
  have hw := hW w x

  rcases Bool.eq_false_or_eq_true (w % (2 : Int) == (1 : Int)) with h0 | h0
  ·
   rcases Bool.eq_false_or_eq_true (!(decide ((0 : Int) ≤ IntKind.i64.wrap ((0 : Int) - IntKind.i64.wrap ((1 : Int) + x % (1024 : Int)))) && decide (IntKind.i64.wrap ((0 : Int) - IntKind.i64.wrap ((1 : Int) + x % (1024 : Int))) < (4 : Int)))) with h1 | h1
   ·
    rcases Bool.eq_false_or_eq_true (decide (IntKind.i64.wrap ((4 : Int) + IntKind.i64.wrap ((1 : Int) + x % (1024 : Int))) < (1 : Int))) with h2 | h2
    · exact ff (by (simp (disch := omega) only [w1, wrapk] at *; simp at *; omega))
    ·
     rcases Bool.eq_false_or_eq_true (decide (IntKind.i64.wrap ((4 : Int) + IntKind.i64.wrap ((1 : Int) + x % (1024 : Int))) > (4 : Int))) with h3 | h3
     ·
      rcases Bool.eq_false_or_eq_true (decide (IntKind.i64.wrap ((1 : Int) - IntKind.i64.wrap ((1 : Int) + x % (1024 : Int))) < (1 : Int))) with h4 | h4
      ·
       rcases Bool.eq_false_or_eq_true (Wd.isVal ([(2 : Int), (3 : Int), IntKind.i64.wrap ((-4 : Int) * IntKind.i64.wrap ((1 : Int) + x % (1024 : Int))), IntKind.i64.wrap (IntKind.i64.wrap ((4 : Int) * IntKind.i64.wrap ((1 : Int) + x % (1024 : Int))) + (1 : Int)), IntKind.i64.wrap ((4 : Int) * IntKind.i64.wrap (IntKind.i64.wrap ((1073741823 : Int) + IntKind.i64.wrap ((1 : Int) + x % (1024 : Int))) - (1 : Int)))].getD (IntKind.i64.wrap ((IntKind.u64.wrap w).tmod (5 : Int))).toNat (0 : Int))) with h5 | h5
       ·
        rcases Bool.eq_false_or_eq_true (!decide (Wd.plV ([(2 : Int), (3 : Int), IntKind.i64.wrap ((-4 : Int) * IntKind.i64.wrap ((1 : Int) + x % (1024 : Int))), IntKind.i64.wrap (IntKind.i64.wrap ((4 : Int) * IntKind.i64.wrap ((1 : Int) + x % (1024 : Int))) + (1 : Int)), IntKind.i64.wrap ((4 : Int) * IntKind.i64.wrap (IntKind.i64.wrap ((1073741823 : Int) + IntKind.i64.wrap ((1 : Int) + x % (1024 : Int))) - (1 : Int)))].getD (IntKind.i64.wrap ((IntKind.u64.wrap w).tmod (5 : Int))).toNat (0 : Int)) < (1073741823 : Int))) with h6 | h6
        ·
         rcases Bool.eq_false_or_eq_true ([(2 : Int), (3 : Int), IntKind.i64.wrap ((-4 : Int) * IntKind.i64.wrap ((1 : Int) + x % (1024 : Int))), IntKind.i64.wrap (IntKind.i64.wrap ((4 : Int) * IntKind.i64.wrap ((1 : Int) + x % (1024 : Int))) + (1 : Int)), IntKind.i64.wrap ((4 : Int) * IntKind.i64.wrap (IntKind.i64.wrap ((1073741823 : Int) + IntKind.i64.wrap ((1 : Int) + x % (1024 : Int))) - (1 : Int)))].getD (IntKind.i64.wrap ((IntKind.u64.wrap w).tmod (5 : Int))).toNat (0 : Int) == [(2 : Int), (3 : Int), IntKind.i64.wrap ((-4 : Int) * IntKind.i64.wrap ((1 : Int) + x % (1024 : Int))), IntKind.i64.wrap (IntKind.i64.wrap ((4 : Int) * IntKind.i64.wrap ((1 : Int) + x % (1024 : Int))) + (1 : Int)), IntKind.i64.wrap ((4 : Int) * IntKind.i64.wrap (IntKind.i64.wrap ((1073741823 : Int) + IntKind.i64.wrap ((1 : Int) + x % (1024 : Int))) - (1 : Int)))].getD (IntKind.i64.wrap ((IntKind.u64.wrap w).tmod (5 : Int))).toNat (0 : Int)) with h7 | h7
         ·
          refine vcIntro [true, true, true, false, true, true, true, true, true, true, true] (an (an h7 (an h6 (an h5 (an h6 (an h5 (an (show (IntKind.i64.wrap ((IntKind.u64.wrap w).tmod (5 : Int))).toNat.succ ≤ (0 : Nat) + ([(3 : Int), IntKind.i64.wrap ((-4 : Int) * IntKind.i64.wrap ((1 : Int) + x % (1024 : Int))), IntKind.i64.wrap (IntKind.i64.wrap ((4 : Int) * IntKind.i64.wrap ((1 : Int) + x % (1024 : Int))) + (1 : Int)), IntKind.i64.wrap ((4 : Int) * IntKind.i64.wrap (IntKind.i64.wrap ((1073741823 : Int) + IntKind.i64.wrap ((1 : Int) + x % (1024 : Int))) - (1 : Int)))].length + (1 : Nat)) by (simp; omega)) (an (an (show (0 : Int) ≤ IntKind.i64.wrap ((IntKind.u64.wrap w).tmod (5 : Int)) by omega) (show IntKind.i64.wrap ((IntKind.u64.wrap w).tmod (5 : Int)) + (1 : Int) ≤ (5 : Int) by omega)) (an h4 (an h3 (an h2 (an h1 (an h1 (an h0 tt))))))))))))) tt) ?_
          kernel_rfl
         · exact ff (by (simp [w1] at *; done))
        · exact ff (by (have hh9 := hw (by assumption); clear hw; simp only [hh9, Bool.not_false, reduceCtorEq] at *))
       ·
        rcases Bool.eq_false_or_eq_true ([(2 : Int), (3 : Int), IntKind.i64.wrap ((-4 : Int) * IntKind.i64.wrap ((1 : Int) + x % (1024 : Int))), IntKind.i64.wrap (IntKind.i64.wrap ((4 : Int) * IntKind.i64.wrap ((1 : Int) + x % (1024 : Int))) + (1 : Int)), IntKind.i64.wrap ((4 : Int) * IntKind.i64.wrap (IntKind.i64.wrap ((1073741823 : Int) + IntKind.i64.wrap ((1 : Int) + x % (1024 : Int))) - (1 : Int)))].getD (IntKind.i64.wrap ((IntKind.u64.wrap w).tmod (5 : Int))).toNat (0 : Int) == [(2 : Int), (3 : Int), IntKind.i64.wrap ((-4 : Int) * IntKind.i64.wrap ((1 : Int) + x % (1024 : Int))), IntKind.i64.wrap (IntKind.i64.wrap ((4 : Int) * IntKind.i64.wrap ((1 : Int) + x % (1024 : Int))) + (1 : Int)), IntKind.i64.wrap ((4 : Int) * IntKind.i64.wrap (IntKind.i64.wrap ((1073741823 : Int) + IntKind.i64.wrap ((1 : Int) + x % (1024 : Int))) - (1 : Int)))].getD (IntKind.i64.wrap ((IntKind.u64.wrap w).tmod (5 : Int))).toNat (0 : Int)) with h8 | h8
        ·
         refine vcIntro [true, true, true, false, true, true, false, false, true] (an (an h8 (an h5 (an h5 (an (show (IntKind.i64.wrap ((IntKind.u64.wrap w).tmod (5 : Int))).toNat.succ ≤ (0 : Nat) + ([(3 : Int), IntKind.i64.wrap ((-4 : Int) * IntKind.i64.wrap ((1 : Int) + x % (1024 : Int))), IntKind.i64.wrap (IntKind.i64.wrap ((4 : Int) * IntKind.i64.wrap ((1 : Int) + x % (1024 : Int))) + (1 : Int)), IntKind.i64.wrap ((4 : Int) * IntKind.i64.wrap (IntKind.i64.wrap ((1073741823 : Int) + IntKind.i64.wrap ((1 : Int) + x % (1024 : Int))) - (1 : Int)))].length + (1 : Nat)) by (simp; omega)) (an (an (show (0 : Int) ≤ IntKind.i64.wrap ((IntKind.u64.wrap w).tmod (5 : Int)) by omega) (show IntKind.i64.wrap ((IntKind.u64.wrap w).tmod (5 : Int)) + (1 : Int) ≤ (5 : Int) by omega)) (an h4 (an h3 (an h2 (an h1 (an h1 (an h0 tt))))))))))) tt) ?_
         kernel_rfl
        · exact ff (by (simp [w1] at *; done))
      · exact ff (by (simp (disch := omega) only [w1, wrapk] at *; simp at *; omega))
     · exact ff (by (simp (disch := omega) only [w1, wrapk] at *; simp at *; omega))
   · exact ff (by (simp (disch := omega) only [w1, wrapk] at *; simp at *; omega))
  ·
   rcases Bool.eq_false_or_eq_true (!(decide ((0 : Int) ≤ IntKind.i64.wrap ((3 : Int) + IntKind.i64.wrap ((1 : Int) + x % (1024 : Int)))) && decide (IntKind.i64.wrap ((3 : Int) + IntKind.i64.wrap ((1 : Int) + x % (1024 : Int))) < (4 : Int)))) with h9 | h9
   ·
    rcases Bool.eq_false_or_eq_true (decide (IntKind.i64.wrap ((4 : Int) + IntKind.i64.wrap ((1 : Int) + x % (1024 : Int))) < (1 : Int))) with h10 | h10
    · exact ff (by (simp (disch := omega) only [w1, wrapk] at *; simp at *; omega))
    ·
     rcases Bool.eq_false_or_eq_true (decide (IntKind.i64.wrap ((4 : Int) + IntKind.i64.wrap ((1 : Int) + x % (1024 : Int))) > (4 : Int))) with h11 | h11
     ·
      rcases Bool.eq_false_or_eq_true (decide (IntKind.i64.wrap ((1 : Int) - IntKind.i64.wrap ((1 : Int) + x % (1024 : Int))) < (1 : Int))) with h12 | h12
      ·
       rcases Bool.eq_false_or_eq_true (Wd.isVal ([(2 : Int), (3 : Int), IntKind.i64.wrap ((-4 : Int) * IntKind.i64.wrap ((1 : Int) + x % (1024 : Int))), IntKind.i64.wrap (IntKind.i64.wrap ((4 : Int) * IntKind.i64.wrap ((1 : Int) + x % (1024 : Int))) + (1 : Int)), IntKind.i64.wrap ((4 : Int) * IntKind.i64.wrap (IntKind.i64.wrap ((1073741823 : Int) + IntKind.i64.wrap ((1 : Int) + x % (1024 : Int))) - (1 : Int)))].getD (IntKind.i64.wrap ((IntKind.u64.wrap w).tmod (5 : Int))).toNat (0 : Int))) with h13 | h13
       ·
        rcases Bool.eq_false_or_eq_true (!decide (Wd.plV ([(2 : Int), (3 : Int), IntKind.i64.wrap ((-4 : Int) * IntKind.i64.wrap ((1 : Int) + x % (1024 : Int))), IntKind.i64.wrap (IntKind.i64.wrap ((4 : Int) * IntKind.i64.wrap ((1 : Int) + x % (1024 : Int))) + (1 : Int)), IntKind.i64.wrap ((4 : Int) * IntKind.i64.wrap (IntKind.i64.wrap ((1073741823 : Int) + IntKind.i64.wrap ((1 : Int) + x % (1024 : Int))) - (1 : Int)))].getD (IntKind.i64.wrap ((IntKind.u64.wrap w).tmod (5 : Int))).toNat (0 : Int)) < (1073741823 : Int))) with h14 | h14
        ·
         rcases Bool.eq_false_or_eq_true ([(2 : Int), (3 : Int), IntKind.i64.wrap ((-4 : Int) * IntKind.i64.wrap ((1 : Int) + x % (1024 : Int))), IntKind.i64.wrap (IntKind.i64.wrap ((4 : Int) * IntKind.i64.wrap ((1 : Int) + x % (1024 : Int))) + (1 : Int)), IntKind.i64.wrap ((4 : Int) * IntKind.i64.wrap (IntKind.i64.wrap ((1073741823 : Int) + IntKind.i64.wrap ((1 : Int) + x % (1024 : Int))) - (1 : Int)))].getD (IntKind.i64.wrap ((IntKind.u64.wrap w).tmod (5 : Int))).toNat (0 : Int) == [(2 : Int), (3 : Int), IntKind.i64.wrap ((-4 : Int) * IntKind.i64.wrap ((1 : Int) + x % (1024 : Int))), IntKind.i64.wrap (IntKind.i64.wrap ((4 : Int) * IntKind.i64.wrap ((1 : Int) + x % (1024 : Int))) + (1 : Int)), IntKind.i64.wrap ((4 : Int) * IntKind.i64.wrap (IntKind.i64.wrap ((1073741823 : Int) + IntKind.i64.wrap ((1 : Int) + x % (1024 : Int))) - (1 : Int)))].getD (IntKind.i64.wrap ((IntKind.u64.wrap w).tmod (5 : Int))).toNat (0 : Int)) with h15 | h15
         ·
          refine vcIntro [false, true, true, false, true, true, true, true, true, true, true] (an (an h15 (an h14 (an h13 (an h14 (an h13 (an (show (IntKind.i64.wrap ((IntKind.u64.wrap w).tmod (5 : Int))).toNat.succ ≤ (0 : Nat) + ([(3 : Int), IntKind.i64.wrap ((-4 : Int) * IntKind.i64.wrap ((1 : Int) + x % (1024 : Int))), IntKind.i64.wrap (IntKind.i64.wrap ((4 : Int) * IntKind.i64.wrap ((1 : Int) + x % (1024 : Int))) + (1 : Int)), IntKind.i64.wrap ((4 : Int) * IntKind.i64.wrap (IntKind.i64.wrap ((1073741823 : Int) + IntKind.i64.wrap ((1 : Int) + x % (1024 : Int))) - (1 : Int)))].length + (1 : Nat)) by (simp; omega)) (an (an (show (0 : Int) ≤ IntKind.i64.wrap ((IntKind.u64.wrap w).tmod (5 : Int)) by omega) (show IntKind.i64.wrap ((IntKind.u64.wrap w).tmod (5 : Int)) + (1 : Int) ≤ (5 : Int) by omega)) (an h12 (an h11 (an h10 (an h9 (an h9 (an h0 tt))))))))))))) tt) ?_
          kernel_rfl
         · exact ff (by (simp [w1] at *; done))
        · exact ff (by (have hh9 := hw (by assumption); clear hw; simp only [hh9, Bool.not_false, reduceCtorEq] at *))
       ·
        rcases Bool.eq_false_or_eq_true ([(2 : Int), (3 : Int), IntKind.i64.wrap ((-4 : Int) * IntKind.i64.wrap ((1 : Int) + x % (1024 : Int))), IntKind.i64.wrap (IntKind.i64.wrap ((4 : Int) * IntKind.i64.wrap ((1 : Int) + x % (1024 : Int))) + (1 : Int)), IntKind.i64.wrap ((4 : Int) * IntKind.i64.wrap (IntKind.i64.wrap ((1073741823 : Int) + IntKind.i64.wrap ((1 : Int) + x % (1024 : Int))) - (1 : Int)))].getD (IntKind.i64.wrap ((IntKind.u64.wrap w).tmod (5 : Int))).toNat (0 : Int) == [(2 : Int), (3 : Int), IntKind.i64.wrap ((-4 : Int) * IntKind.i64.wrap ((1 : Int) + x % (1024 : Int))), IntKind.i64.wrap (IntKind.i64.wrap ((4 : Int) * IntKind.i64.wrap ((1 : Int) + x % (1024 : Int))) + (1 : Int)), IntKind.i64.wrap ((4 : Int) * IntKind.i64.wrap (IntKind.i64.wrap ((1073741823 : Int) + IntKind.i64.wrap ((1 : Int) + x % (1024 : Int))) - (1 : Int)))].getD (IntKind.i64.wrap ((IntKind.u64.wrap w).tmod (5 : Int))).toNat (0 : Int)) with h16 | h16
        ·
         refine vcIntro [false, true, true, false, true, true, false, false, true] (an (an h16 (an h13 (an h13 (an (show (IntKind.i64.wrap ((IntKind.u64.wrap w).tmod (5 : Int))).toNat.succ ≤ (0 : Nat) + ([(3 : Int), IntKind.i64.wrap ((-4 : Int) * IntKind.i64.wrap ((1 : Int) + x % (1024 : Int))), IntKind.i64.wrap (IntKind.i64.wrap ((4 : Int) * IntKind.i64.wrap ((1 : Int) + x % (1024 : Int))) + (1 : Int)), IntKind.i64.wrap ((4 : Int) * IntKind.i64.wrap (IntKind.i64.wrap ((1073741823 : Int) + IntKind.i64.wrap ((1 : Int) + x % (1024 : Int))) - (1 : Int)))].length + (1 : Nat)) by (simp; omega)) (an (an (show (0 : Int) ≤ IntKind.i64.wrap ((IntKind.u64.wrap w).tmod (5 : Int)) by omega) (show IntKind.i64.wrap ((IntKind.u64.wrap w).tmod (5 : Int)) + (1 : Int) ≤ (5 : Int) by omega)) (an h12 (an h11 (an h10 (an h9 (an h9 (an h0 tt))))))))))) tt) ?_
         kernel_rfl
        · exact ff (by (simp [w1] at *; done))
      · exact ff (by (simp (disch := omega) only [w1, wrapk] at *; simp at *; omega))
     · exact ff (by (simp (disch := omega) only [w1, wrapk] at *; simp at *; omega))
   · exact ff (by (simp (disch := omega) only [w1, wrapk] at *; simp at *; omega))
theorem epochForms_q (w : Int) (_ : -9223372036854775808 ≤ w ∧ w ≤ 9223372036854775807) (x : Int) (_ : -9223372036854775808 ≤ x ∧ x ≤ 9223372036854775807) :
    CallQ Try.prog 9 [.int .i64 (.s w), .int .i64 (.s x)] (Hx []) (fun v _ => isT v) := CallQ.run specs_ok noL_ok mixed (forms1 w x)
end Go.Ideal.E1
