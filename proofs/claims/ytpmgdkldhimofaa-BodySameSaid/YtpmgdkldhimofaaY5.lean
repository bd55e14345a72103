/- Chapter 7: cells.OpMay of the first of two operations. Own text. -/
import Derived.Test.YtpmgdkldhimofaaY0p
namespace Go.Ideal.Y1
open Go.Proofs Go.Ideal Go.Ideal.L1 Go.Ideal.B1
set_option linter.unusedSimpArgs false
set_option linter.unusedVariables false
set_option maxRecDepth 100000
set_option maxHeartbeats 80000000

theorem om8a (e : TypeId) (k a b x l c d y : Int) : ∃ hh, vcOf (runCall Try.prog below noL 3000 30 [.ptr 0 (.c 0)] (Hm [some (.own true e (fun _ => 0) 0 [.int .i64 (.s k), .int .i64 (.s a), .int .i64 (.s b), .int .i64 (.s x), .int .i64 (.s l), .int .i64 (.s c), .int .i64 (.s d), .int .i64 (.s y)])] 1) hh) (fun v H1 => retP 1 [0] v H1 (.bool (.s (opMay k a b x))) [none] 1) := by

  rcases Bool.eq_false_or_eq_true (!(decide ((0 : Int) ≤ k) && decide (k < (11 : Int)))) with h0 | h0
  ·
   refine vcIntro [true] (an (an h0 tt) (an (show opMay k a b x = false by (simp [opMay] at *; omega)) tt)) ?_
   kernel_rfl
  ·
   rcases Bool.eq_false_or_eq_true (decide ((0 : Int) ≤ a) && decide (a < [(4 : Int), (1 : Int), (1048576 : Int), (4 : Int), (1 : Int), (1 : Int), (4 : Int), (1 : Int), (1048576 : Int), (4 : Int), (1 : Int), (1048576 : Int), (4 : Int), (4 : Int), (1048576 : Int), (1 : Int), (1 : Int), (1 : Int), (5 : Int), (1 : Int), (2 : Int), (5 : Int), (1 : Int), (1 : Int), (5 : Int), (1 : Int), (1 : Int), (1 : Int), (1 : Int), (1 : Int), (5 : Int), (5 : Int), (1 : Int)].getD (k.toNat * (3 : Nat)) (0 : Int))) with h1 | h1
   ·
    rcases Bool.eq_false_or_eq_true (decide ((0 : Int) ≤ b) && decide (b < [(4 : Int), (1 : Int), (1048576 : Int), (4 : Int), (1 : Int), (1 : Int), (4 : Int), (1 : Int), (1048576 : Int), (4 : Int), (1 : Int), (1048576 : Int), (4 : Int), (4 : Int), (1048576 : Int), (1 : Int), (1 : Int), (1 : Int), (5 : Int), (1 : Int), (2 : Int), (5 : Int), (1 : Int), (1 : Int), (5 : Int), (1 : Int), (1 : Int), (1 : Int), (1 : Int), (1 : Int), (5 : Int), (5 : Int), (1 : Int)].getD (k.toNat * (3 : Nat) + (1 : Nat)) (0 : Int))) with h2 | h2
    ·
     refine vcIntro [false, true, true] (an (an h2 (an h1 (an (show (k.toNat * (3 : Nat)).succ ≤ (33 : Nat) by (simp [opMay] at *; omega)) (an (show (k.toNat * (3 : Nat) + (1 : Nat)).succ ≤ (33 : Nat) by (simp [opMay] at *; omega)) (an (show (k.toNat * (3 : Nat) + (1 : Nat) + (1 : Nat)).succ ≤ (33 : Nat) by (simp [opMay] at *; omega)) (an (an (show (0 : Int) ≤ k by (simp [opMay] at *; omega)) (show k + (1 : Int) ≤ (11 : Int) by (simp [opMay] at *; omega))) (an h0 tt))))))) (an (show opMay k a b x = (decide ((0 : Int) ≤ x) && decide (x < [(4 : Int), (1 : Int), (1048576 : Int), (4 : Int), (1 : Int), (1 : Int), (4 : Int), (1 : Int), (1048576 : Int), (4 : Int), (1 : Int), (1048576 : Int), (4 : Int), (4 : Int), (1048576 : Int), (1 : Int), (1 : Int), (1 : Int), (5 : Int), (1 : Int), (2 : Int), (5 : Int), (1 : Int), (1 : Int), (5 : Int), (1 : Int), (1 : Int), (1 : Int), (1 : Int), (1 : Int), (5 : Int), (5 : Int), (1 : Int)].getD (k.toNat * (3 : Nat) + (1 : Nat) + (1 : Nat)) (0 : Int))) by (rcases (by simp at h0; omega : k = 0 ∨ k = 1 ∨ k = 2 ∨ k = 3 ∨ k = 4 ∨ k = 5 ∨ k = 6 ∨ k = 7 ∨ k = 8 ∨ k = 9 ∨ k = 10) with h | h | h | h | h | h | h | h | h | h | h <;> subst h <;> simp [opMay] at * <;> omega)) tt)) ?_
     kernel_rfl
    ·
     refine vcIntro [false, true, false] (an (an h2 (an h1 (an (show (k.toNat * (3 : Nat)).succ ≤ (33 : Nat) by (simp [opMay] at *; omega)) (an (show (k.toNat * (3 : Nat) + (1 : Nat)).succ ≤ (33 : Nat) by (simp [opMay] at *; omega)) (an (show (k.toNat * (3 : Nat) + (1 : Nat) + (1 : Nat)).succ ≤ (33 : Nat) by (simp [opMay] at *; omega)) (an (an (show (0 : Int) ≤ k by (simp [opMay] at *; omega)) (show k + (1 : Int) ≤ (11 : Int) by (simp [opMay] at *; omega))) (an h0 tt))))))) (an (show opMay k a b x = false by (rcases (by simp at h0; omega : k = 0 ∨ k = 1 ∨ k = 2 ∨ k = 3 ∨ k = 4 ∨ k = 5 ∨ k = 6 ∨ k = 7 ∨ k = 8 ∨ k = 9 ∨ k = 10) with h | h | h | h | h | h | h | h | h | h | h <;> subst h <;> simp [opMay] at * <;> omega)) tt)) ?_
     kernel_rfl
   ·
    refine vcIntro [false, false] (an (an h1 (an (show (k.toNat * (3 : Nat)).succ ≤ (33 : Nat) by (simp [opMay] at *; omega)) (an (show (k.toNat * (3 : Nat) + (1 : Nat)).succ ≤ (33 : Nat) by (simp [opMay] at *; omega)) (an (show (k.toNat * (3 : Nat) + (1 : Nat) + (1 : Nat)).succ ≤ (33 : Nat) by (simp [opMay] at *; omega)) (an (an (show (0 : Int) ≤ k by (simp [opMay] at *; omega)) (show k + (1 : Int) ≤ (11 : Int) by (simp [opMay] at *; omega))) (an h0 tt)))))) (an (show opMay k a b x = false by (rcases (by simp at h0; omega : k = 0 ∨ k = 1 ∨ k = 2 ∨ k = 3 ∨ k = 4 ∨ k = 5 ∨ k = 6 ∨ k = 7 ∨ k = 8 ∨ k = 9 ∨ k = 10) with h | h | h | h | h | h | h | h | h | h | h <;> subst h <;> simp [opMay] at * <;> omega)) tt)) ?_
    kernel_rfl
theorem om8 (e : TypeId) (z : Nat → Int) : ∃ hh, vcOf (runCall Try.prog below noL 3000 30 [.ptr 0 (.c 0)] (Hm (readB e 0 8 z) 1) hh) (fun v H1 => retP 1 [0] v H1 (.bool (.s (opMayL (((List.range 8).map z).take 4)))) [none] 1) := om8a e (z 0) (z 1) (z 2) (z 3) (z 4) (z 5) (z 6) (z 7)
def op8 : Spec := readS 30 0 8 (fun zs => .bool (.s (opMayL (zs.take 4))))
theorem op8_ok : SpecOk Try.prog op8 := readS_ok fun e z => callKeep below_ok (om8 e z)
end Go.Ideal.Y1
