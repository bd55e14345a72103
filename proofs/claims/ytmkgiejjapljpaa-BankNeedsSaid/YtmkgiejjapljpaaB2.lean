/- Chapters 5 to 7: the contracts of ViewMay, OpMay. Own text. -/
import Derived.Test.YtmkgiejjapljpaaB1
namespace Go.Ideal.B1
open Go.Proofs Go.Ideal Go.Ideal.L1
set_option linter.unusedSimpArgs false
set_option linter.unusedVariables false
set_option maxRecDepth 100000
set_option maxHeartbeats 4000000

def vmAns (zs : List Int) : V := .bool (.s (allMay zs))
def omAns (zs : List Int) : V := .bool (.s (opMayL zs))
def mays : Spec := orS (readS 32 16 32 vmAns) (orS (aggS 42 16 32 vmAns) (orS (readS 33 0 4 omAns) (orS (aggS 43 0 4 omAns) below)))
theorem mays_ok : SpecOk Try.prog mays :=
  orS_ok (readS_ok fun e z => callKeep below_ok (vm1 e z)) (orS_ok (aggS_ok (fun _ => rfl) fun k z => (CallQ.run noSpec_ok noL_ok mixed (vm2 k z)).ok rfl)
    (orS_ok (readS_ok fun e z => callKeep below_ok (om1 e z)) (orS_ok (aggS_ok (fun _ => rfl) fun k z => (CallQ.run noSpec_ok noL_ok mixed (om2 k z)).ok rfl) below_ok)))
end Go.Ideal.B1
