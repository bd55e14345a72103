/- Chapter 7: BodyForms. Own text. -/
import Derived.Test.YtpmgdkldhimofaaKB
import Derived.Test.YtpmgdkldhimofaaR6
namespace Go.Ideal.Y1
open Go.Proofs Go.Ideal Go.Ideal.L1 Go.Ideal.B1
set_option linter.unusedSimpArgs false
set_option linter.unusedVariables false
set_option maxRecDepth 100000
set_option maxHeartbeats 8000000

def opB4 (e : TypeId) (k a b x:Int) : List (Option Blk) := [some (.own true e (fun _ => 0) 0 [.any, .any, .any, .any, .int .i64 (.s k), .int .i64 (.s a), .int .i64 (.s b), .int .i64 (.s x)])]
theorem om4a (e : TypeId) (k a b x:Int) : ∃ hh, vcOf (runCall Try.prog below noL 3000 30 [.ptr 0 (.c 4)] (Hm (opB4 e k a b x) 1) hh) (fun v H1 => retP 1 [0] v H1 (.bool (.s (opMay k a b x))) [none] 1) := by

  rcases eb (!(decide ((0:Int) ≤ k) && decide (k < (11:Int)))) with h0 | h0
  ·
   refine vcIntro [true] (an (an h0 tt) (an (show opMay k a b x = false by simp [opMay] at *; omega) tt)) ?_
   kernel_rfl
  ·
   rcases eb (decide ((0:Int) ≤ a) && decide (a < [(4:Int), (1:Int), (1048576:Int), (4:Int), (1:Int), (1:Int), (4:Int), (1:Int), (1048576:Int), (4:Int), (1:Int), (1048576:Int), (4:Int), (4:Int), (1048576:Int), (1:Int), (1:Int), (1:Int), (5:Int), (1:Int), (2:Int), (5:Int), (1:Int), (1:Int), (5:Int), (1:Int), (1:Int), (1:Int), (1:Int), (1:Int), (5:Int), (5:Int), (1:Int)].getD (k.toNat * (3:Nat)) 0)) with h1 | h1
   ·
    rcases eb (decide ((0:Int) ≤ b) && decide (b < [(4:Int), (1:Int), (1048576:Int), (4:Int), (1:Int), (1:Int), (4:Int), (1:Int), (1048576:Int), (4:Int), (1:Int), (1048576:Int), (4:Int), (4:Int), (1048576:Int), (1:Int), (1:Int), (1:Int), (5:Int), (1:Int), (2:Int), (5:Int), (1:Int), (1:Int), (5:Int), (1:Int), (1:Int), (1:Int), (1:Int), (1:Int), (5:Int), (5:Int), (1:Int)].getD (k.toNat * (3:Nat) + (1:Nat)) 0)) with h2 | h2
    ·
     refine vcIntro (hx2 3 6) (an (an h2 (an h1 (an (show (k.toNat * (3:Nat)).succ ≤ (33:Nat) by simp [opMay] at *; omega) (an (show (k.toNat * (3:Nat) + (1:Nat)).succ ≤ (33:Nat) by simp [opMay] at *; omega) (an (show (k.toNat * (3:Nat) + (1:Nat) + (1:Nat)).succ ≤ (33:Nat) by simp [opMay] at *; omega) (an (an (show (0:Int) ≤ k by simp [opMay] at *; omega) (show k + (1:Int) ≤ (11:Int) by simp [opMay] at *; omega)) (an h0 tt))))))) (an (show opMay k a b x = (decide ((0:Int) ≤ x) && decide (x < [(4:Int), (1:Int), (1048576:Int), (4:Int), (1:Int), (1:Int), (4:Int), (1:Int), (1048576:Int), (4:Int), (1:Int), (1048576:Int), (4:Int), (4:Int), (1048576:Int), (1:Int), (1:Int), (1:Int), (5:Int), (1:Int), (2:Int), (5:Int), (1:Int), (1:Int), (5:Int), (1:Int), (1:Int), (1:Int), (1:Int), (1:Int), (5:Int), (5:Int), (1:Int)].getD (k.toNat * (3:Nat) + (1:Nat) + (1:Nat)) 0)) by (rcases (by simp at h0; omega : k = 0 ∨ k = 1 ∨ k = 2 ∨ k = 3 ∨ k = 4 ∨ k = 5 ∨ k = 6 ∨ k = 7 ∨ k = 8 ∨ k = 9 ∨ k = 10) with h | h | h | h | h | h | h | h | h | h | h <;> subst h <;> simp [opMay] at * <;> omega)) tt)) ?_
     kernel_rfl
    ·
     refine vcIntro (hx2 3 2) (an (an h2 (an h1 (an (show (k.toNat * (3:Nat)).succ ≤ (33:Nat) by simp [opMay] at *; omega) (an (show (k.toNat * (3:Nat) + (1:Nat)).succ ≤ (33:Nat) by simp [opMay] at *; omega) (an (show (k.toNat * (3:Nat) + (1:Nat) + (1:Nat)).succ ≤ (33:Nat) by simp [opMay] at *; omega) (an (an (show (0:Int) ≤ k by simp [opMay] at *; omega) (show k + (1:Int) ≤ (11:Int) by simp [opMay] at *; omega)) (an h0 tt))))))) (an (show opMay k a b x = false by (rcases (by simp at h0; omega : k = 0 ∨ k = 1 ∨ k = 2 ∨ k = 3 ∨ k = 4 ∨ k = 5 ∨ k = 6 ∨ k = 7 ∨ k = 8 ∨ k = 9 ∨ k = 10) with h | h | h | h | h | h | h | h | h | h | h <;> subst h <;> simp [opMay] at * <;> omega)) tt)) ?_
     kernel_rfl
   ·
    refine vcIntro (hx2 2 0) (an (an h1 (an (show (k.toNat * (3:Nat)).succ ≤ (33:Nat) by simp [opMay] at *; omega) (an (show (k.toNat * (3:Nat) + (1:Nat)).succ ≤ (33:Nat) by simp [opMay] at *; omega) (an (show (k.toNat * (3:Nat) + (1:Nat) + (1:Nat)).succ ≤ (33:Nat) by simp [opMay] at *; omega) (an (an (show (0:Int) ≤ k by simp [opMay] at *; omega) (show k + (1:Int) ≤ (11:Int) by simp [opMay] at *; omega)) (an h0 tt)))))) (an (show opMay k a b x = false by (rcases (by simp at h0; omega : k = 0 ∨ k = 1 ∨ k = 2 ∨ k = 3 ∨ k = 4 ∨ k = 5 ∨ k = 6 ∨ k = 7 ∨ k = 8 ∨ k = 9 ∨ k = 10) with h | h | h | h | h | h | h | h | h | h | h <;> subst h <;> simp [opMay] at * <;> omega)) tt)) ?_
    kernel_rfl
theorem om4 (e : TypeId) (z : Nat → Int) : ∃ hh, vcOf (runCall Try.prog below noL 3000 30 [.ptr 0 (.c 4)] (Hm (readB e 4 4 z) 1) hh) (fun v H1 => retP 1 [0] v H1 (.bool (.s (opMayL ((List.range 4).map z)))) [none] 1) := om4a e (z 0) (z 1) (z 2) (z 3)
def op4 : Spec := readSO 30 4 4 omAns
theorem op4_ok : SpecOk Try.prog op4 := readSO_ok fun e z => callKeep below_ok (om4 e z)
theorem awake1 : ∃ hh, vcOf (runCall Try.prog noSpec noL 6000 27 [] H0 hh) (fun v _ => V.leP (.bool (.c true)) v) := by

  refine vcIntro [] (an tt tt) ?_
  kernel_rfl
def awake : Spec := sp 27 fun xs => match xs with | [] => some (.bool (.c true)) | _ => none
theorem awake_ok : SpecOk Try.prog awake := closed_ok (CallQ.run noSpec_ok noL_ok mixed awake1) rfl
end Go.Ideal.Y1
