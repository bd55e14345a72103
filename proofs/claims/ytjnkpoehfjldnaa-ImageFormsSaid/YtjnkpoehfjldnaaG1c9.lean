/- Chapter 9: ImageForms, one reason. Own text. -/
import Derived.Test.YtjnkpoehfjldnaaG1c9a
import Derived.Test.YtjnkpoehfjldnaaG1c9b
import Derived.Test.YtjnkpoehfjldnaaG1c9c
import Derived.Test.YtjnkpoehfjldnaaG1c9d
import Derived.Test.YtjnkpoehfjldnaaG1c9e
namespace Go.Ideal.G1
open Go.Proofs Go.Ideal Go.Ideal.L1
set_option linter.unusedSimpArgs false
set_option linter.unusedVariables false
set_option maxRecDepth 100000
set_option maxHeartbeats 80000000
theorem forms_c9 (w x : Int) (hq : IntKind.i64.wrap ((IntKind.u64.wrap w).tmod 13) = 9 ∧ (IntKind.u64.wrap w).tmod 13 = 9) : ∃ hh, vcOf (runCall Try.prog specs noL 6000 9 [.int .i64 (.s w), .int .i64 (.s x)] H0 hh) (fun v _ => isT v) := by
  rcases (by omega : x % 1024 = 0 ∨ x % 1024 = 1 ∨ x % 1024 = 2 ∨ x % 1024 = 3 ∨ (4 ≤ x % 1024 ∧ x % 1024 < 1024)) with h | h | h | h | h
  · exact forms_c9a w x hq h
  · exact forms_c9b w x hq h
  · exact forms_c9c w x hq h
  · exact forms_c9d w x hq h
  · exact forms_c9e w x hq h
end Go.Ideal.G1
