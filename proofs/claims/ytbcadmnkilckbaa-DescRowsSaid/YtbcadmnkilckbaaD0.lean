/- Chapter 13: awake. Own text. -/
import Derived.Test.YtbcadmnkilckbaaA5
import Derived.Test.YtbcadmnkilckbaaWd
namespace Go.Ideal.D1
open Go.Proofs Go.Ideal Go.Ideal.L1
set_option linter.unusedSimpArgs false
set_option linter.unusedVariables false
set_option maxRecDepth 100000
set_option maxHeartbeats 4000000

theorem awake1 : ∃ hh, vcOf (runCall Try.prog L1.specs0 noL 6000 14 [] H0 hh) (fun v _ => V.leP (.bool (.c true)) v) := by

  refine vcIntro [] (an tt tt) ?_
  kernel_rfl
def awake : Spec := sp 14 fun xs => match xs with | [] => some (.bool (.c true)) | _ => none
theorem awake_ok : SpecOk Try.prog awake := closed_ok (CallQ.run L1.specs0_ok noL_ok mixed awake1) rfl
def specs : Spec := orS awake (orS Wd.plainS (orS A2.accp (orS A2.accr A2.specsC)))
theorem specs_ok : SpecOk Try.prog specs := orS_ok awake_ok (orS_ok Wd.plainS_ok (orS_ok A2.accp_ok (orS_ok A2.accr_ok A2.specsC_ok)))
theorem w1 (x : Int) : IntKind.i64.wrap (1 + x % 1024) = 1 + x % 1024 := by exact wrapk _ (by omega)
theorem modU (w : Int) (n : Int) (hn : 0 < n) (hn' : n < 1000) : 0 ≤ IntKind.i64.wrap ((IntKind.u64.wrap w).tmod n) ∧ IntKind.i64.wrap ((IntKind.u64.wrap w).tmod n) < n := by
  have h : 0 ≤ IntKind.u64.wrap w := by simp [IntKind.wrap, IntKind.bits, IntKind.signed]; omega
  rw [Int.tmod_eq_emod_of_nonneg h]
  have h1 := Int.emod_nonneg (IntKind.u64.wrap w) (show n ≠ 0 by omega)
  have h2 := Int.emod_lt_of_pos (IntKind.u64.wrap w) hn
  rw [wrapk _ (by omega)]
  omega
end Go.Ideal.D1
