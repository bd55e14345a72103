/- Chapter 2: ArenaForms. Own text. -/
import Derived.Test.YtchgfecghackdaaA2
namespace Go.Ideal.A2
open Go.Proofs Go.Ideal Go.Ideal.L1
set_option linter.unusedSimpArgs false
set_option linter.unusedVariables false
set_option maxRecDepth 100000
set_option maxHeartbeats 4000000

theorem awake1 : ∃ hh, vcOf (runCall Try.prog L1.specs noL 3000 43 [] H0 hh) (fun v _ => V.leP (.bool (.c true)) v) := by

  refine vcIntro [] (And.intro True.intro True.intro) ?_
  kernel_rfl
def awake : Spec := sp 43 fun xs => match xs with | [] => some (.bool (.c true)) | _ => none
theorem awake_ok : SpecOk Try.prog awake := closed_ok (CallQ.run L1.specs_ok noL_ok mixed awake1) rfl
def specs2 : Spec := orS awake specs
theorem specs2_ok : SpecOk Try.prog specs2 := orS_ok awake_ok specs_ok

theorem w1 (x : Int) : IntKind.i64.wrap (1 + x % 1024) = 1 + x % 1024 := by exact wrapk _ (by omega)

theorem forms1 (w x : Int) : ∃ hh, vcOf (runCall Try.prog specs2 noL 3000 11 [.int .i64 (.s w), .int .i64 (.s x)] H0 hh) (fun v _ => isT v) := by

  rcases Bool.eq_false_or_eq_true (w % (2 : Int) == (1 : Int)) with h0 | h0
  ·
    rcases Bool.eq_false_or_eq_true (!(Decidable.decide ((0 : Int) ≤ Go.IntKind.i64.wrap ((0 : Int) - Go.IntKind.i64.wrap ((1 : Int) + x % (1024 : Int)))) && Decidable.decide (Go.IntKind.i64.wrap ((0 : Int) - Go.IntKind.i64.wrap ((1 : Int) + x % (1024 : Int))) < (634 : Int)))) with h1 | h1
    ·
      have h2 : ((0 : Int) == (0 : Int) && ((1 : Int) == (1 : Int) && ((7 : Int) == (7 : Int) && ((0 : Int) == (0 : Int) && ((12 : Int) == (12 : Int) && ((0 : Int) == (0 : Int) && ((0 : Int) == (0 : Int) && (0 : Int) == (0 : Int)))))))) = true := by decide +kernel
      have k3 : (Go.Ideal.L1.sameF (634 : Nat) (fun k ↦ if k = (641 : Nat) then (0 : Int) else if k = (640 : Nat) then (0 : Int) else if k = (639 : Nat) then (0 : Int) else if k = (638 : Nat) then (12 : Int) else if k = (637 : Nat) then (0 : Int) else if k = (636 : Nat) then (7 : Int) else if k = (635 : Nat) then (1 : Int) else if k = (634 : Nat) then (0 : Int) else if k = (7 : Nat) then (12 : Int) else Go.Ideal.A2.arena0 k) fun k ↦ if k = (641 : Nat) then (0 : Int) else if k = (640 : Nat) then (0 : Int) else if k = (639 : Nat) then (0 : Int) else if k = (638 : Nat) then (12 : Int) else if k = (637 : Nat) then (0 : Int) else if k = (636 : Nat) then (7 : Int) else if k = (635 : Nat) then (1 : Int) else if k = (634 : Nat) then (0 : Int) else if k = (7 : Nat) then (12 : Int) else Go.Ideal.A2.arena0 k) = Bool.true := by rfl
      refine vcIntro [true, true, true, true, true, true] (And.intro (And.intro h2 (And.intro h2 (And.intro h1 (And.intro h1 (And.intro h1 (And.intro h0 True.intro)))))) k3) ?_
      kernel_rfl
    · exact False.elim (by (simp [w1] at *; rw [wrapk _ (by omega)] at *; omega))
  ·
    rcases Bool.eq_false_or_eq_true (!(Decidable.decide ((0 : Int) ≤ Go.IntKind.i64.wrap ((633 : Int) + Go.IntKind.i64.wrap ((1 : Int) + x % (1024 : Int)))) && Decidable.decide (Go.IntKind.i64.wrap ((633 : Int) + Go.IntKind.i64.wrap ((1 : Int) + x % (1024 : Int))) < (634 : Int)))) with h4 | h4
    ·
      have h5 : ((0 : Int) == (0 : Int) && ((1 : Int) == (1 : Int) && ((7 : Int) == (7 : Int) && ((0 : Int) == (0 : Int) && ((12 : Int) == (12 : Int) && ((0 : Int) == (0 : Int) && ((0 : Int) == (0 : Int) && (0 : Int) == (0 : Int)))))))) = true := by decide +kernel
      have k6 : (Go.Ideal.L1.sameF (634 : Nat) (fun k ↦ if k = (641 : Nat) then (0 : Int) else if k = (640 : Nat) then (0 : Int) else if k = (639 : Nat) then (0 : Int) else if k = (638 : Nat) then (12 : Int) else if k = (637 : Nat) then (0 : Int) else if k = (636 : Nat) then (7 : Int) else if k = (635 : Nat) then (1 : Int) else if k = (634 : Nat) then (0 : Int) else if k = (7 : Nat) then (12 : Int) else Go.Ideal.A2.arena0 k) fun k ↦ if k = (641 : Nat) then (0 : Int) else if k = (640 : Nat) then (0 : Int) else if k = (639 : Nat) then (0 : Int) else if k = (638 : Nat) then (12 : Int) else if k = (637 : Nat) then (0 : Int) else if k = (636 : Nat) then (7 : Int) else if k = (635 : Nat) then (1 : Int) else if k = (634 : Nat) then (0 : Int) else if k = (7 : Nat) then (12 : Int) else Go.Ideal.A2.arena0 k) = Bool.true := by rfl
      refine vcIntro [false, true, true, true, true, true] (And.intro (And.intro h5 (And.intro h5 (And.intro h4 (And.intro h4 (And.intro h4 (And.intro h0 True.intro)))))) k6) ?_
      kernel_rfl
    · exact False.elim (by (simp [w1] at *; rw [wrapk _ (by omega)] at *; omega))
theorem forms_q (w : Int) (_ : -9223372036854775808 ≤ w ∧ w ≤ 9223372036854775807) (x : Int) (_ : -9223372036854775808 ≤ x ∧ x ≤ 9223372036854775807) :
    CallQ Try.prog 11 [.int .i64 (.s w), .int .i64 (.s x)] (Hx []) (fun v _ => isT v) := CallQ.run specs2_ok noL_ok mixed (forms1 w x)
end Go.Ideal.A2
