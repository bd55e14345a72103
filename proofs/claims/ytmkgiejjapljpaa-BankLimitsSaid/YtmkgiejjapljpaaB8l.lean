/- Chapter 5: BankLimits. Written by gen/bank3.py. Own text. -/
import Derived.Test.YtmkgiejjapljpaaB6
import Derived.Test.YtmkgiejjapljpaaI26
namespace Go.Ideal.B1
open Go.Proofs Go.Ideal Go.Ideal.L1
set_option linter.unusedSimpArgs false
set_option linter.unusedVariables false
set_option maxRecDepth 100000
set_option maxHeartbeats 8000000


theorem limits1 (x y : Int) : ∃ hh, vcOf (runCall Try.prog specD noL 6000 11 [.int .i64 (.s x), .int .i64 (.s y)] H0 hh) (fun v _ => isT v) := by
  have hp : 0 ≤ x % 1048576 ∧ x % 1048576 < 1048576 := by omega
  have hq : 0 ≤ y % 1048576 ∧ y % 1048576 < 1048576 := by omega
  have w1 : IntKind.i64.wrap (x % 1048576 + 1) = x % 1048576 + 1 := wrapk _ (by omega)
  have w2 : IntKind.i64.wrap (y % 1048576 + 1) = y % 1048576 + 1 := wrapk _ (by omega)
  have w3 : IntKind.i64.wrap (x % 1048576 + y % 1048576) = x % 1048576 + y % 1048576 := wrapk _ (by omega)
  have w4 : IntKind.i64.wrap (x % 1048576 + y % 1048576 + 1) = x % 1048576 + y % 1048576 + 1 := wrapk _ (by omega)
  have w5 : IntKind.i64.wrap (x % 1048576 - y % 1048576) = x % 1048576 - y % 1048576 := wrapk _ (by omega)
  have c2 : bkCode (IntKind.i64.wrap (x % 1048576 + 1)) (IntKind.i64.wrap (y % 1048576 + 1)) 0 0 2 0 0 (y % 1048576) = if x % 1048576 + y % 1048576 > 1048575 then 4 else 0 := by rw [w1, w2]; simp only [bkCode, bkNum, bkNow, sel, pos] <;> simp <;> (repeat' split) <;> omega
  have n2 : bkNum (IntKind.i64.wrap (x % 1048576 + 1)) (IntKind.i64.wrap (y % 1048576 + 1)) 0 0 2 0 0 (y % 1048576) = if x % 1048576 + y % 1048576 > 1048575 then 0 else x % 1048576 + y % 1048576 := by rw [w1, w2]; simp only [bkCode, bkNum, bkNow, sel, pos] <;> simp <;> (repeat' split) <;> omega
  have c3 : bkCode (IntKind.i64.wrap (x % 1048576 + 1)) (IntKind.i64.wrap (y % 1048576 + 1)) 0 0 3 0 0 (y % 1048576) = if x % 1048576 < y % 1048576 then 3 else 0 := by rw [w1, w2]; simp only [bkCode, bkNum, bkNow, sel, pos] <;> simp <;> (repeat' split) <;> omega
  have n3 : bkNum (IntKind.i64.wrap (x % 1048576 + 1)) (IntKind.i64.wrap (y % 1048576 + 1)) 0 0 3 0 0 (y % 1048576) = if x % 1048576 < y % 1048576 then 0 else x % 1048576 - y % 1048576 := by rw [w1, w2]; simp only [bkCode, bkNum, bkNow, sel, pos] <;> simp <;> (repeat' split) <;> omega
  have c4 : bkCode (IntKind.i64.wrap (x % 1048576 + 1)) (IntKind.i64.wrap (y % 1048576 + 1)) 0 0 4 0 1 (x % 1048576) = if x % 1048576 + y % 1048576 > 1048575 then 4 else 0 := by rw [w1, w2]; simp only [bkCode, bkNum, bkNow, sel, pos] <;> simp <;> (repeat' split) <;> omega
  have n4 : bkNum (IntKind.i64.wrap (x % 1048576 + 1)) (IntKind.i64.wrap (y % 1048576 + 1)) 0 0 4 0 1 (x % 1048576) = 0 := by rw [w1, w2]; simp only [bkCode, bkNum, bkNow, sel, pos] <;> simp <;> (repeat' split) <;> omega
  have a4 : bkNow (IntKind.i64.wrap (x % 1048576 + 1)) (IntKind.i64.wrap (y % 1048576 + 1)) 0 0 4 0 1 (x % 1048576) 0 = if x % 1048576 + y % 1048576 > 1048575 then x % 1048576 + 1 else 1 := by rw [w1, w2]; simp only [bkCode, bkNum, bkNow, sel, pos] <;> simp <;> (repeat' split) <;> omega
  have b4 : bkNow (IntKind.i64.wrap (x % 1048576 + 1)) (IntKind.i64.wrap (y % 1048576 + 1)) 0 0 4 0 1 (x % 1048576) 1 = if x % 1048576 + y % 1048576 > 1048575 then y % 1048576 + 1 else x % 1048576 + y % 1048576 + 1 := by rw [w1, w2]; simp only [bkCode, bkNum, bkNow, sel, pos] <;> simp <;> (repeat' split) <;> omega

  rcases Bool.eq_false_or_eq_true (!bkMay [IntKind.i64.wrap (x % (1048576 : Int) + (1 : Int)), IntKind.i64.wrap (y % (1048576 : Int) + (1 : Int)), (0 : Int), (0 : Int), (0 : Int), (0 : Int), (0 : Int), (0 : Int), (0 : Int), (0 : Int), (0 : Int), (0 : Int), (0 : Int), (0 : Int), (0 : Int), (0 : Int), IntKind.i64.wrap (x % (1048576 : Int) + (1 : Int)), IntKind.i64.wrap (y % (1048576 : Int) + (1 : Int)), (0 : Int), (0 : Int), (0 : Int), (0 : Int), (0 : Int), (0 : Int), (0 : Int), (0 : Int), (0 : Int), (0 : Int), (0 : Int), (0 : Int), (0 : Int), (0 : Int)] (2 : Int) (0 : Int) (0 : Int) (y % (1048576 : Int))) with h0 | h0
  · exact ff (by (simp [w1, w2, bkMay, allMay, valMay, opMay] at *; omega))
  ·
   have h1 : (decide ((0 : Int) ≤ (-1 : Int))) = false := by decide +kernel
   rcases Bool.eq_false_or_eq_true (!bkMay [IntKind.i64.wrap (x % (1048576 : Int) + (1 : Int)), IntKind.i64.wrap (y % (1048576 : Int) + (1 : Int)), (0 : Int), (0 : Int), (0 : Int), (0 : Int), (0 : Int), (0 : Int), (0 : Int), (0 : Int), (0 : Int), (0 : Int), (0 : Int), (0 : Int), (0 : Int), (0 : Int), IntKind.i64.wrap (x % (1048576 : Int) + (1 : Int)), IntKind.i64.wrap (y % (1048576 : Int) + (1 : Int)), (0 : Int), (0 : Int), (0 : Int), (0 : Int), (0 : Int), (0 : Int), (0 : Int), (0 : Int), (0 : Int), (0 : Int), (0 : Int), (0 : Int), (0 : Int), (0 : Int)] (3 : Int) (0 : Int) (0 : Int) (y % (1048576 : Int))) with h2 | h2
   · exact ff (by (simp [w1, w2, bkMay, allMay, valMay, opMay] at *; omega))
   ·
    rcases Bool.eq_false_or_eq_true (!bkMay [IntKind.i64.wrap (x % (1048576 : Int) + (1 : Int)), IntKind.i64.wrap (y % (1048576 : Int) + (1 : Int)), (0 : Int), (0 : Int), (0 : Int), (0 : Int), (0 : Int), (0 : Int), (0 : Int), (0 : Int), (0 : Int), (0 : Int), (0 : Int), (0 : Int), (0 : Int), (0 : Int), IntKind.i64.wrap (x % (1048576 : Int) + (1 : Int)), IntKind.i64.wrap (y % (1048576 : Int) + (1 : Int)), (0 : Int), (0 : Int), (0 : Int), (0 : Int), (0 : Int), (0 : Int), (0 : Int), (0 : Int), (0 : Int), (0 : Int), (0 : Int), (0 : Int), (0 : Int), (0 : Int)] (4 : Int) (0 : Int) (1 : Int) (x % (1048576 : Int))) with h3 | h3
    · exact ff (by (simp [w1, w2, bkMay, allMay, valMay, opMay] at *; omega))
    ·
     rcases Bool.eq_false_or_eq_true ((bkCode (IntKind.i64.wrap (x % (1048576 : Int) + (1 : Int))) (IntKind.i64.wrap (y % (1048576 : Int) + (1 : Int))) (0 : Int) (0 : Int) (2 : Int) (0 : Int) (0 : Int) (y % (1048576 : Int)) == (4 : Int)) == decide (IntKind.i64.wrap (x % (1048576 : Int) + y % (1048576 : Int)) > (1048575 : Int))) with h4 | h4
     ·
      rcases Bool.eq_false_or_eq_true (decide (IntKind.i64.wrap (x % (1048576 : Int) + y % (1048576 : Int)) > (1048575 : Int))) with h5 | h5
      ·
       rcases Bool.eq_false_or_eq_true ((bkCode (IntKind.i64.wrap (x % (1048576 : Int) + (1 : Int))) (IntKind.i64.wrap (y % (1048576 : Int) + (1 : Int))) (0 : Int) (0 : Int) (3 : Int) (0 : Int) (0 : Int) (y % (1048576 : Int)) == (3 : Int)) == decide (x % (1048576 : Int) < y % (1048576 : Int))) with h6 | h6
       ·
        rcases Bool.eq_false_or_eq_true (decide (x % (1048576 : Int) < y % (1048576 : Int))) with h7 | h7
        ·
         rcases Bool.eq_false_or_eq_true ((bkCode (IntKind.i64.wrap (x % (1048576 : Int) + (1 : Int))) (IntKind.i64.wrap (y % (1048576 : Int) + (1 : Int))) (0 : Int) (0 : Int) (4 : Int) (0 : Int) (1 : Int) (x % (1048576 : Int)) == (4 : Int)) == decide (IntKind.i64.wrap (x % (1048576 : Int) + y % (1048576 : Int)) > (1048575 : Int))) with h8 | h8
         ·
          refine vcIntro [false, false, false, false, false, false, true, true, true, true, true, true] (an (an h5 (an h8 (an h7 (an h6 (an h5 (an h4 (an h1 (an h3 (an h1 (an h2 (an h1 (an h0 tt)))))))))))) tt) ?_
          kernel_rfl
         · exact ff (by (by_cases o1 : x % 1048576 + y % 1048576 > 1048575 <;> by_cases o2 : x % 1048576 < y % 1048576 <;> simp [c2, n2, c3, n3, c4, n4, a4, b4, w3, w4, w5, o1, o2] at * <;> omega))
        ·
         rcases Bool.eq_false_or_eq_true (bkCode (IntKind.i64.wrap (x % (1048576 : Int) + (1 : Int))) (IntKind.i64.wrap (y % (1048576 : Int) + (1 : Int))) (0 : Int) (0 : Int) (3 : Int) (0 : Int) (0 : Int) (y % (1048576 : Int)) == (0 : Int) && bkNum (IntKind.i64.wrap (x % (1048576 : Int) + (1 : Int))) (IntKind.i64.wrap (y % (1048576 : Int) + (1 : Int))) (0 : Int) (0 : Int) (3 : Int) (0 : Int) (0 : Int) (y % (1048576 : Int)) == IntKind.i64.wrap (x % (1048576 : Int) - y % (1048576 : Int))) with h9 | h9
         ·
          rcases Bool.eq_false_or_eq_true ((bkCode (IntKind.i64.wrap (x % (1048576 : Int) + (1 : Int))) (IntKind.i64.wrap (y % (1048576 : Int) + (1 : Int))) (0 : Int) (0 : Int) (4 : Int) (0 : Int) (1 : Int) (x % (1048576 : Int)) == (4 : Int)) == decide (IntKind.i64.wrap (x % (1048576 : Int) + y % (1048576 : Int)) > (1048575 : Int))) with h10 | h10
          ·
           refine vcIntro [false, false, false, false, false, false, true, true, true, false, true, true, true] (an (an h5 (an h10 (an h9 (an h7 (an h6 (an h5 (an h4 (an h1 (an h3 (an h1 (an h2 (an h1 (an h0 tt))))))))))))) tt) ?_
           kernel_rfl
          · exact ff (by (by_cases o1 : x % 1048576 + y % 1048576 > 1048575 <;> by_cases o2 : x % 1048576 < y % 1048576 <;> simp [c2, n2, c3, n3, c4, n4, a4, b4, w3, w4, w5, o1, o2] at * <;> omega))
         · exact ff (by (simp [w1, w2, bkMay, allMay, valMay, opMay] at *; omega))
       · exact ff (by (by_cases o1 : x % 1048576 + y % 1048576 > 1048575 <;> by_cases o2 : x % 1048576 < y % 1048576 <;> simp [c2, n2, c3, n3, c4, n4, a4, b4, w3, w4, w5, o1, o2] at * <;> omega))
      ·
       rcases Bool.eq_false_or_eq_true (bkCode (IntKind.i64.wrap (x % (1048576 : Int) + (1 : Int))) (IntKind.i64.wrap (y % (1048576 : Int) + (1 : Int))) (0 : Int) (0 : Int) (2 : Int) (0 : Int) (0 : Int) (y % (1048576 : Int)) == (0 : Int) && bkNum (IntKind.i64.wrap (x % (1048576 : Int) + (1 : Int))) (IntKind.i64.wrap (y % (1048576 : Int) + (1 : Int))) (0 : Int) (0 : Int) (2 : Int) (0 : Int) (0 : Int) (y % (1048576 : Int)) == IntKind.i64.wrap (x % (1048576 : Int) + y % (1048576 : Int))) with h11 | h11
       ·
        rcases Bool.eq_false_or_eq_true ((bkCode (IntKind.i64.wrap (x % (1048576 : Int) + (1 : Int))) (IntKind.i64.wrap (y % (1048576 : Int) + (1 : Int))) (0 : Int) (0 : Int) (3 : Int) (0 : Int) (0 : Int) (y % (1048576 : Int)) == (3 : Int)) == decide (x % (1048576 : Int) < y % (1048576 : Int))) with h12 | h12
        ·
         rcases Bool.eq_false_or_eq_true (decide (x % (1048576 : Int) < y % (1048576 : Int))) with h13 | h13
         ·
          rcases Bool.eq_false_or_eq_true ((bkCode (IntKind.i64.wrap (x % (1048576 : Int) + (1 : Int))) (IntKind.i64.wrap (y % (1048576 : Int) + (1 : Int))) (0 : Int) (0 : Int) (4 : Int) (0 : Int) (1 : Int) (x % (1048576 : Int)) == (4 : Int)) == decide (IntKind.i64.wrap (x % (1048576 : Int) + y % (1048576 : Int)) > (1048575 : Int))) with h14 | h14
          ·
           rcases Bool.eq_false_or_eq_true (bkCode (IntKind.i64.wrap (x % (1048576 : Int) + (1 : Int))) (IntKind.i64.wrap (y % (1048576 : Int) + (1 : Int))) (0 : Int) (0 : Int) (4 : Int) (0 : Int) (1 : Int) (x % (1048576 : Int)) == (0 : Int) && bkNum (IntKind.i64.wrap (x % (1048576 : Int) + (1 : Int))) (IntKind.i64.wrap (y % (1048576 : Int) + (1 : Int))) (0 : Int) (0 : Int) (4 : Int) (0 : Int) (1 : Int) (x % (1048576 : Int)) == (0 : Int)) with h15 | h15
           ·
            rcases Bool.eq_false_or_eq_true (bkNow (IntKind.i64.wrap (x % (1048576 : Int) + (1 : Int))) (IntKind.i64.wrap (y % (1048576 : Int) + (1 : Int))) (0 : Int) (0 : Int) (4 : Int) (0 : Int) (1 : Int) (x % (1048576 : Int)) (0 : Int) == (1 : Int)) with h16 | h16
            ·
             refine vcIntro [false, false, false, false, false, false, true, false, true, true, true, true, false, true, true] (an (an h16 (an h15 (an h5 (an h14 (an h13 (an h12 (an h11 (an h5 (an h4 (an h1 (an h3 (an h1 (an h2 (an h1 (an h0 tt))))))))))))))) (show (bkNow (IntKind.i64.wrap (x % (1048576 : Int) + (1 : Int))) (IntKind.i64.wrap (y % (1048576 : Int) + (1 : Int))) (0 : Int) (0 : Int) (4 : Int) (0 : Int) (1 : Int) (x % (1048576 : Int)) (1 : Int) == IntKind.i64.wrap (IntKind.i64.wrap (x % (1048576 : Int) + y % (1048576 : Int)) + (1 : Int))) = true by (by_cases o1 : x % 1048576 + y % 1048576 > 1048575 <;> by_cases o2 : x % 1048576 < y % 1048576 <;> simp [c2, n2, c3, n3, c4, n4, a4, b4, w3, w4, w5, o1, o2] at * <;> omega))) ?_
             kernel_rfl
            · exact ff (by (simp [w1, w2, bkMay, allMay, valMay, opMay] at *; omega))
           · exact ff (by (simp [w1, w2, bkMay, allMay, valMay, opMay] at *; omega))
          · exact ff (by (by_cases o1 : x % 1048576 + y % 1048576 > 1048575 <;> by_cases o2 : x % 1048576 < y % 1048576 <;> simp [c2, n2, c3, n3, c4, n4, a4, b4, w3, w4, w5, o1, o2] at * <;> omega))
         ·
          rcases Bool.eq_false_or_eq_true (bkCode (IntKind.i64.wrap (x % (1048576 : Int) + (1 : Int))) (IntKind.i64.wrap (y % (1048576 : Int) + (1 : Int))) (0 : Int) (0 : Int) (3 : Int) (0 : Int) (0 : Int) (y % (1048576 : Int)) == (0 : Int) && bkNum (IntKind.i64.wrap (x % (1048576 : Int) + (1 : Int))) (IntKind.i64.wrap (y % (1048576 : Int) + (1 : Int))) (0 : Int) (0 : Int) (3 : Int) (0 : Int) (0 : Int) (y % (1048576 : Int)) == IntKind.i64.wrap (x % (1048576 : Int) - y % (1048576 : Int))) with h17 | h17
          ·
           rcases Bool.eq_false_or_eq_true ((bkCode (IntKind.i64.wrap (x % (1048576 : Int) + (1 : Int))) (IntKind.i64.wrap (y % (1048576 : Int) + (1 : Int))) (0 : Int) (0 : Int) (4 : Int) (0 : Int) (1 : Int) (x % (1048576 : Int)) == (4 : Int)) == decide (IntKind.i64.wrap (x % (1048576 : Int) + y % (1048576 : Int)) > (1048575 : Int))) with h18 | h18
           ·
            rcases Bool.eq_false_or_eq_true (bkCode (IntKind.i64.wrap (x % (1048576 : Int) + (1 : Int))) (IntKind.i64.wrap (y % (1048576 : Int) + (1 : Int))) (0 : Int) (0 : Int) (4 : Int) (0 : Int) (1 : Int) (x % (1048576 : Int)) == (0 : Int) && bkNum (IntKind.i64.wrap (x % (1048576 : Int) + (1 : Int))) (IntKind.i64.wrap (y % (1048576 : Int) + (1 : Int))) (0 : Int) (0 : Int) (4 : Int) (0 : Int) (1 : Int) (x % (1048576 : Int)) == (0 : Int)) with h19 | h19
            ·
             rcases Bool.eq_false_or_eq_true (bkNow (IntKind.i64.wrap (x % (1048576 : Int) + (1 : Int))) (IntKind.i64.wrap (y % (1048576 : Int) + (1 : Int))) (0 : Int) (0 : Int) (4 : Int) (0 : Int) (1 : Int) (x % (1048576 : Int)) (0 : Int) == (1 : Int)) with h20 | h20
             ·
              refine vcIntro [false, false, false, false, false, false, true, false, true, true, false, true, true, false, true, true] (an (an h20 (an h19 (an h5 (an h18 (an h17 (an h13 (an h12 (an h11 (an h5 (an h4 (an h1 (an h3 (an h1 (an h2 (an h1 (an h0 tt)))))))))))))))) (show (bkNow (IntKind.i64.wrap (x % (1048576 : Int) + (1 : Int))) (IntKind.i64.wrap (y % (1048576 : Int) + (1 : Int))) (0 : Int) (0 : Int) (4 : Int) (0 : Int) (1 : Int) (x % (1048576 : Int)) (1 : Int) == IntKind.i64.wrap (IntKind.i64.wrap (x % (1048576 : Int) + y % (1048576 : Int)) + (1 : Int))) = true by (by_cases o1 : x % 1048576 + y % 1048576 > 1048575 <;> by_cases o2 : x % 1048576 < y % 1048576 <;> simp [c2, n2, c3, n3, c4, n4, a4, b4, w3, w4, w5, o1, o2] at * <;> omega))) ?_
              kernel_rfl
             · exact ff (by (simp [w1, w2, bkMay, allMay, valMay, opMay] at *; omega))
            · exact ff (by (simp [w1, w2, bkMay, allMay, valMay, opMay] at *; omega))
           · exact ff (by (by_cases o1 : x % 1048576 + y % 1048576 > 1048575 <;> by_cases o2 : x % 1048576 < y % 1048576 <;> simp [c2, n2, c3, n3, c4, n4, a4, b4, w3, w4, w5, o1, o2] at * <;> omega))
          · exact ff (by (simp [w1, w2, bkMay, allMay, valMay, opMay] at *; omega))
        · exact ff (by (by_cases o1 : x % 1048576 + y % 1048576 > 1048575 <;> by_cases o2 : x % 1048576 < y % 1048576 <;> simp [c2, n2, c3, n3, c4, n4, a4, b4, w3, w4, w5, o1, o2] at * <;> omega))
       · exact ff (by (simp [w1, w2, bkMay, allMay, valMay, opMay] at *; omega))
     · exact ff (by (by_cases o1 : x % 1048576 + y % 1048576 > 1048575 <;> by_cases o2 : x % 1048576 < y % 1048576 <;> simp [c2, n2, c3, n3, c4, n4, a4, b4, w3, w4, w5, o1, o2] at * <;> omega))
theorem bankLimits_q (x : Int) (_ : -9223372036854775808 ≤ x ∧ x ≤ 9223372036854775807) (y : Int) (_ : -9223372036854775808 ≤ y ∧ y ≤ 9223372036854775807) :
    CallQ Try.prog 11 [.int .i64 (.s x), .int .i64 (.s y)] (Hx []) (fun v _ => isT v) := CallQ.run specD_ok noL_ok mixed (limits1 x y)
end Go.Ideal.B1
