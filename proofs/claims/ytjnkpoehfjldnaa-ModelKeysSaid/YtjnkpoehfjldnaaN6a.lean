/- Chapter 8: what the laws of model use. Own text. -/
import Derived.Test.YtjnkpoehfjldnaaN5
namespace Go.Ideal.M2
open Go.Proofs Go.Ideal Go.Ideal.L1
set_option linter.unusedSimpArgs false
set_option linter.unusedVariables false
set_option maxRecDepth 100000
set_option maxHeartbeats 8000000

theorem awake1 : ∃ hh, vcOf (runCall Try.prog noSpec noL 6000 22 [] H0 hh) (fun v _ => V.leP (.bool (.c true)) v) := by
  refine vcIntro [] (an tt tt) ?_
  kernel_rfl
def awake : Spec := sp 22 fun xs => match xs with | [] => some (.bool (.c true)) | _ => none
theorem awake_ok : SpecOk Try.prog awake := closed_ok (CallQ.run noSpec_ok noL_ok mixed awake1) rfl
def specs : Spec := orS awake (orS doM below)
theorem specs_ok : SpecOk Try.prog specs := orS_ok awake_ok (orS_ok doM_ok below_ok)
end Go.Ideal.M2
