/- Chapter 8: ModelForms. Own text. -/
import Derived.Test.YtjnkpoehfjldnaaM0b
import Derived.Test.YtjnkpoehfjldnaaI26
namespace Go.Ideal.M1
open Go.Proofs Go.Ideal Go.Ideal.L1
set_option linter.unusedSimpArgs false
set_option linter.unusedVariables false
set_option maxRecDepth 100000
set_option maxHeartbeats 8000000

theorem awake1 : ∃ hh, vcOf (runCall Try.prog noSpec noL 6000 22 [] H0 hh) (fun v _ => V.leP (.bool (.c true)) v) := by

  refine vcIntro [] (an tt tt) ?_
  kernel_rfl
def awake : Spec := sp 22 fun xs => match xs with | [] => some (.bool (.c true)) | _ => none
theorem awake_ok : SpecOk Try.prog awake := closed_ok (CallQ.run noSpec_ok noL_ok mixed awake1) rfl
def specs : Spec := orS awake (orS newDo OM.opS)
theorem specs_ok : SpecOk Try.prog specs := orS_ok awake_ok (orS_ok newDo_ok OM.opS_ok)
theorem w1 (x : Int) : IntKind.i64.wrap (1 + x % 1024) = 1 + x % 1024 := by exact wrapk _ (by omega)

theorem forms1 (w y k a b x : Int) : ∃ hh, vcOf (runCall Try.prog specs noL 6000 6 [.int .i64 (.s w), .int .i64 (.s y), .agg [.int .i64 (.s k), .int .i64 (.s a), .int .i64 (.s b), .int .i64 (.s x)]] H0 hh) (fun v _ => isT v) := by
  have hy : 0 ≤ y % 1024 ∧ y % 1024 < 1024 := by omega
  have hw4 : 0 ≤ w % 4 ∧ w % 4 < 4 := by omega

  rcases Bool.eq_false_or_eq_true (decide (w % (4 : Int) = (0 : Int))) with h0 | h0
  ·
   rcases Bool.eq_false_or_eq_true (decide (IntKind.i64.wrap ((1048575 : Int) + IntKind.i64.wrap ((1 : Int) + y % (1024 : Int))) < (-1 : Int))) with h1 | h1
   · exact ff (by (simp (disch := omega) only [w1, wrapk] at *; simp at *; omega))
   ·
    rcases Bool.eq_false_or_eq_true (decide (IntKind.i64.wrap ((1048575 : Int) + IntKind.i64.wrap ((1 : Int) + y % (1024 : Int))) > (1048575 : Int))) with h2 | h2
    ·
     rcases Bool.eq_false_or_eq_true (decide (IntKind.i64.wrap ((-1 : Int) - IntKind.i64.wrap ((1 : Int) + y % (1024 : Int))) < (-1 : Int))) with h3 | h3
     ·
      rcases Bool.eq_false_or_eq_true (decide ((0 : Int) ≤ IntKind.i64.wrap ((1 : Int) + y % (1024 : Int))) && decide (IntKind.i64.wrap ((1 : Int) + y % (1024 : Int)) < (1 : Int))) with h4 | h4
      · exact ff (by (simp [w1] at *; omega))
      ·
       rcases Bool.eq_false_or_eq_true (OM.opMayL [k, a, b, x]) with h5 | h5
       ·
        refine vcIntro [true, true, false, true, true, false, true] (an (an h5 (an h4 (an h3 (an h2 (an h1 (an h0 (an h0 tt))))))) tt) ?_
        kernel_rfl
       ·
        refine vcIntro [true, true, false, true, true, false, false] (an (an h5 (an h4 (an h3 (an h2 (an h1 (an h0 (an h0 tt))))))) tt) ?_
        kernel_rfl
     · exact ff (by (simp (disch := omega) only [w1, wrapk] at *; simp at *; omega))
    · exact ff (by (simp (disch := omega) only [w1, wrapk] at *; simp at *; omega))
  ·
   rcases Bool.eq_false_or_eq_true (decide (w % (4 : Int) = (1 : Int))) with h6 | h6
   ·
    rcases Bool.eq_false_or_eq_true (decide (IntKind.i64.wrap ((1048575 : Int) + IntKind.i64.wrap ((1 : Int) + y % (1024 : Int))) < (-1 : Int))) with h7 | h7
    · exact ff (by (simp (disch := omega) only [w1, wrapk] at *; simp at *; omega))
    ·
     rcases Bool.eq_false_or_eq_true (decide (IntKind.i64.wrap ((1048575 : Int) + IntKind.i64.wrap ((1 : Int) + y % (1024 : Int))) > (1048575 : Int))) with h8 | h8
     ·
      rcases Bool.eq_false_or_eq_true (decide (IntKind.i64.wrap ((-1 : Int) - IntKind.i64.wrap ((1 : Int) + y % (1024 : Int))) < (-1 : Int))) with h9 | h9
      ·
       rcases Bool.eq_false_or_eq_true (decide ((0 : Int) ≤ IntKind.i64.wrap ((1 : Int) + y % (1024 : Int))) && decide (IntKind.i64.wrap ((1 : Int) + y % (1024 : Int)) < (1 : Int))) with h10 | h10
       · exact ff (by (simp [w1] at *; omega))
       ·
        rcases Bool.eq_false_or_eq_true (OM.opMayL [k, a, b, x]) with h11 | h11
        ·
         refine vcIntro [false, true, false, true, false, true, true, false, true] (an (an h11 (an h10 (an h9 (an h8 (an h7 (an h6 (an h0 (an h6 (an h0 tt))))))))) tt) ?_
         kernel_rfl
        ·
         refine vcIntro [false, true, false, true, false, true, true, false, false] (an (an h11 (an h10 (an h9 (an h8 (an h7 (an h6 (an h0 (an h6 (an h0 tt))))))))) tt) ?_
         kernel_rfl
      · exact ff (by (simp (disch := omega) only [w1, wrapk] at *; simp at *; omega))
     · exact ff (by (simp (disch := omega) only [w1, wrapk] at *; simp at *; omega))
   ·
    rcases Bool.eq_false_or_eq_true (decide (w % (4 : Int) = (2 : Int))) with h12 | h12
    ·
     rcases Bool.eq_false_or_eq_true (decide (IntKind.i64.wrap ((1048575 : Int) + IntKind.i64.wrap ((1 : Int) + y % (1024 : Int))) < (-1 : Int))) with h13 | h13
     · exact ff (by (simp (disch := omega) only [w1, wrapk] at *; simp at *; omega))
     ·
      rcases Bool.eq_false_or_eq_true (decide (IntKind.i64.wrap ((1048575 : Int) + IntKind.i64.wrap ((1 : Int) + y % (1024 : Int))) > (1048575 : Int))) with h14 | h14
      ·
       rcases Bool.eq_false_or_eq_true (decide (IntKind.i64.wrap ((-1 : Int) - IntKind.i64.wrap ((1 : Int) + y % (1024 : Int))) < (-1 : Int))) with h15 | h15
       ·
        rcases Bool.eq_false_or_eq_true (decide ((0 : Int) ≤ IntKind.i64.wrap ((1 : Int) + y % (1024 : Int))) && decide (IntKind.i64.wrap ((1 : Int) + y % (1024 : Int)) < (1 : Int))) with h16 | h16
        · exact ff (by (simp [w1] at *; omega))
        ·
         rcases Bool.eq_false_or_eq_true (OM.opMayL [k, a, b, x]) with h17 | h17
         ·
          refine vcIntro [false, false, true, false, false, true, false, true, true, false, true] (an (an h17 (an h16 (an h15 (an h14 (an h13 (an h12 (an h6 (an h0 (an h12 (an h6 (an h0 tt))))))))))) tt) ?_
          kernel_rfl
         ·
          refine vcIntro [false, false, true, false, false, true, false, true, true, false, false] (an (an h17 (an h16 (an h15 (an h14 (an h13 (an h12 (an h6 (an h0 (an h12 (an h6 (an h0 tt))))))))))) tt) ?_
          kernel_rfl
       · exact ff (by (simp (disch := omega) only [w1, wrapk] at *; simp at *; omega))
      · exact ff (by (simp (disch := omega) only [w1, wrapk] at *; simp at *; omega))
    ·
     rcases Bool.eq_false_or_eq_true (decide (w % (4 : Int) = (3 : Int))) with h18 | h18
     ·
      rcases Bool.eq_false_or_eq_true (decide (IntKind.i64.wrap ((1048575 : Int) + IntKind.i64.wrap ((1 : Int) + y % (1024 : Int))) < (-1 : Int))) with h19 | h19
      · exact ff (by (simp (disch := omega) only [w1, wrapk] at *; simp at *; omega))
      ·
       rcases Bool.eq_false_or_eq_true (decide (IntKind.i64.wrap ((1048575 : Int) + IntKind.i64.wrap ((1 : Int) + y % (1024 : Int))) > (1048575 : Int))) with h20 | h20
       ·
        rcases Bool.eq_false_or_eq_true (decide (IntKind.i64.wrap ((-1 : Int) - IntKind.i64.wrap ((1 : Int) + y % (1024 : Int))) < (-1 : Int))) with h21 | h21
        ·
         rcases Bool.eq_false_or_eq_true (decide ((0 : Int) ≤ IntKind.i64.wrap ((1 : Int) + y % (1024 : Int))) && decide (IntKind.i64.wrap ((1 : Int) + y % (1024 : Int)) < (1 : Int))) with h22 | h22
         · exact ff (by (simp [w1] at *; omega))
         ·
          rcases Bool.eq_false_or_eq_true (OM.opMayL [k, a, b, x]) with h23 | h23
          ·
           refine vcIntro [false, false, false, true, false, false, false, true, false, true, true, false, true] (an (an h23 (an h22 (an h21 (an h20 (an h19 (an h18 (an h12 (an h6 (an h0 (an h18 (an h12 (an h6 (an h0 tt))))))))))))) tt) ?_
           kernel_rfl
          ·
           refine vcIntro [false, false, false, true, false, false, false, true, false, true, true, false, false] (an (an h23 (an h22 (an h21 (an h20 (an h19 (an h18 (an h12 (an h6 (an h0 (an h18 (an h12 (an h6 (an h0 tt))))))))))))) tt) ?_
           kernel_rfl
        · exact ff (by (simp (disch := omega) only [w1, wrapk] at *; simp at *; omega))
       · exact ff (by (simp (disch := omega) only [w1, wrapk] at *; simp at *; omega))
     · exact ff (by (simp [w1] at *; omega))
theorem modelForms_q (w : Int) (_ : -9223372036854775808 ≤ w ∧ w ≤ 9223372036854775807) (y : Int) (_ : -9223372036854775808 ≤ y ∧ y ≤ 9223372036854775807)
    (gi : Nat → Int) (gb : Nat → Bool) (gs : Nat → ByteArray) (_ : ∀ i, (List.replicate 4 Lf.i)[i]? = some .i → -9223372036854775808 ≤ gi i ∧ gi i ≤ 9223372036854775807) :
    CallQ Try.prog 6 [.int .i64 (.s w), .int .i64 (.s y), .agg (lfV gi gb gs 0 (List.replicate 4 .i))] (Hx []) (fun v _ => isT v) := CallQ.run specs_ok noL_ok mixed (forms1 w y (gi 0) (gi 1) (gi 2) (gi 3))
end Go.Ideal.M1
