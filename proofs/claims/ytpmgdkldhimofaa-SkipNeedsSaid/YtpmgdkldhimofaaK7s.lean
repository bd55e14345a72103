/- Chapter 6: what the laws of skip use. Own text. -/
import Derived.Test.YtpmgdkldhimofaaKH
namespace Go.Ideal.K6
open Go.Proofs Go.Ideal Go.Ideal.L1
set_option linter.unusedSimpArgs false
set_option linter.unusedVariables false
set_option maxRecDepth 100000
set_option maxHeartbeats 8000000
theorem awake1 : ∃ hh, vcOf (runCall Try.prog noSpec noL 12000 18 [] H0 hh) (fun v _ => V.leP (.bool (.c true)) v) := by
  refine vcIntro [] (an tt tt) ?_
  kernel_rfl
def awake : Spec := sp 18 fun xs => match xs with | [] => some (.bool (.c true)) | _ => none
theorem awake_ok : SpecOk Try.prog awake := closed_ok (CallQ.run noSpec_ok noL_ok mixed awake1) rfl
def specs : Spec := orS awake (orS skipS B1.maysP)
theorem specs_ok : SpecOk Try.prog specs := orS_ok awake_ok (orS_ok skS_ok B1.maysP_ok)
end Go.Ideal.K6
