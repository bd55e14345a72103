/- Chapter 9: ImageForms, one reason. Own text. -/
import Derived.Test.YtjnkpoehfjldnaaG1b
namespace Go.Ideal.G1
open Go.Proofs Go.Ideal Go.Ideal.L1
set_option linter.unusedSimpArgs false
set_option linter.unusedVariables false
set_option maxRecDepth 100000
set_option maxHeartbeats 80000000
theorem forms_c2 (w x : Int) (hq : IntKind.i64.wrap ((IntKind.u64.wrap w).tmod 13) = 2 ∧ (IntKind.u64.wrap w).tmod 13 = 2) : ∃ hh, vcOf (runCall Try.prog specs noL 6000 9 [.int .i64 (.s w), .int .i64 (.s x)] H0 hh) (fun v _ => isT v) := by
  have hx : 0 ≤ x % 1024 ∧ x % 1024 < 1024 := by omega

  rcases Bool.eq_false_or_eq_true ((IntKind.u64.wrap w).tmod (13 : Int) == (0 : Int)) with h0 | h0
  · exact ff (by (simp only [hq] at *; simp at *; done))
  ·
   rcases Bool.eq_false_or_eq_true ((IntKind.u64.wrap w).tmod (13 : Int) == (1 : Int)) with h1 | h1
   · exact ff (by (simp only [hq] at *; simp at *; done))
   ·
    rcases Bool.eq_false_or_eq_true ((IntKind.u64.wrap w).tmod (13 : Int) == (2 : Int)) with h2 | h2
    ·
     rcases Bool.eq_false_or_eq_true (IntKind.i64.wrap (IntKind.i64.wrap ((5 : Int) + IntKind.i64.wrap ((1 : Int) + x % (1024 : Int))) - (1 : Int)) == (-1 : Int)) with h3 | h3
     · exact ff (by (clear hq; simp (disch := omega) only [w1, wrapk] at *; simp at *; omega))
     ·
      rcases Bool.eq_false_or_eq_true (decide (IntKind.i64.wrap (IntKind.i64.wrap ((5 : Int) + IntKind.i64.wrap ((1 : Int) + x % (1024 : Int))) - (1 : Int)) ≤ (-1 : Int))) with h4 | h4
      · exact ff (by (clear hq; simp (disch := omega) only [w1, wrapk] at *; simp at *; omega))
      ·
       rcases Bool.eq_false_or_eq_true (decide (IntKind.i64.wrap (IntKind.i64.wrap ((5 : Int) + IntKind.i64.wrap ((1 : Int) + x % (1024 : Int))) - (1 : Int)) ≥ (5 : Int))) with h5 | h5
       ·
        rcases Bool.eq_false_or_eq_true (decide (x % (4 : Int) = (0 : Int))) with h6 | h6
        ·
         rcases Bool.eq_false_or_eq_true (decide (IntKind.i64.wrap ((-1 : Int) - IntKind.i64.wrap ((1 : Int) + x % (1024 : Int))) < (-1 : Int))) with h7 | h7
         ·
          rcases Bool.eq_false_or_eq_true (decide (IntKind.i64.wrap ((0 : Int) - IntKind.i64.wrap ((1 : Int) + x % (1024 : Int))) < (0 : Int))) with h8 | h8
          ·
           refine vcIntro [false, false, true, false, false, true, true, true, true] (an (an h8 (an h7 (an h6 (an h5 (an h4 (an h3 (an h2 (an h1 (an h0 tt))))))))) tt) ?_
           kernel_rfl
          · exact ff (by (clear hq; simp (disch := omega) only [w1, wrapk] at *; simp at *; omega))
         · exact ff (by (clear hq; simp (disch := omega) only [w1, wrapk] at *; simp at *; omega))
        ·
         rcases Bool.eq_false_or_eq_true (decide (x % (4 : Int) = (1 : Int))) with h9 | h9
         ·
          rcases Bool.eq_false_or_eq_true (decide (IntKind.i64.wrap ((-1 : Int) - IntKind.i64.wrap ((1 : Int) + x % (1024 : Int))) < (-1 : Int))) with h10 | h10
          ·
           rcases Bool.eq_false_or_eq_true (decide (IntKind.i64.wrap ((0 : Int) - IntKind.i64.wrap ((1 : Int) + x % (1024 : Int))) < (0 : Int))) with h11 | h11
           ·
            refine vcIntro [false, false, true, false, false, true, false, true, true, true] (an (an h11 (an h10 (an h9 (an h6 (an h5 (an h4 (an h3 (an h2 (an h1 (an h0 tt)))))))))) tt) ?_
            kernel_rfl
           · exact ff (by (clear hq; simp (disch := omega) only [w1, wrapk] at *; simp at *; omega))
          · exact ff (by (clear hq; simp (disch := omega) only [w1, wrapk] at *; simp at *; omega))
         ·
          rcases Bool.eq_false_or_eq_true (decide (x % (4 : Int) = (2 : Int))) with h12 | h12
          ·
           rcases Bool.eq_false_or_eq_true (decide (IntKind.i64.wrap ((-1 : Int) - IntKind.i64.wrap ((1 : Int) + x % (1024 : Int))) < (-1 : Int))) with h13 | h13
           ·
            rcases Bool.eq_false_or_eq_true (decide (IntKind.i64.wrap ((0 : Int) - IntKind.i64.wrap ((1 : Int) + x % (1024 : Int))) < (0 : Int))) with h14 | h14
            ·
             refine vcIntro [false, false, true, false, false, true, false, false, true, true, true] (an (an h14 (an h13 (an h12 (an h9 (an h6 (an h5 (an h4 (an h3 (an h2 (an h1 (an h0 tt))))))))))) tt) ?_
             kernel_rfl
            · exact ff (by (clear hq; simp (disch := omega) only [w1, wrapk] at *; simp at *; omega))
           · exact ff (by (clear hq; simp (disch := omega) only [w1, wrapk] at *; simp at *; omega))
          ·
           rcases Bool.eq_false_or_eq_true (decide (x % (4 : Int) = (3 : Int))) with h15 | h15
           ·
            rcases Bool.eq_false_or_eq_true (decide (IntKind.i64.wrap ((-1 : Int) - IntKind.i64.wrap ((1 : Int) + x % (1024 : Int))) < (-1 : Int))) with h16 | h16
            ·
             rcases Bool.eq_false_or_eq_true (decide (IntKind.i64.wrap ((0 : Int) - IntKind.i64.wrap ((1 : Int) + x % (1024 : Int))) < (0 : Int))) with h17 | h17
             ·
              refine vcIntro [false, false, true, false, false, true, false, false, false, true, true, true] (an (an h17 (an h16 (an h15 (an h12 (an h9 (an h6 (an h5 (an h4 (an h3 (an h2 (an h1 (an h0 tt)))))))))))) tt) ?_
              kernel_rfl
             · exact ff (by (clear hq; simp (disch := omega) only [w1, wrapk] at *; simp at *; omega))
            · exact ff (by (clear hq; simp (disch := omega) only [w1, wrapk] at *; simp at *; omega))
           · exact ff (by (clear hq; simp [w1] at *; omega))
       · exact ff (by (clear hq; simp (disch := omega) only [w1, wrapk] at *; simp at *; omega))
    · exact ff (by (simp only [hq] at *; simp at *; done))
end Go.Ideal.G1
