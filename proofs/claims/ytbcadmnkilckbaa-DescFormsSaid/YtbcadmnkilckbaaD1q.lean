/- Chapter 13: DescForms, put together. Own text. -/
import Derived.Test.YtbcadmnkilckbaaD1c0
import Derived.Test.YtbcadmnkilckbaaD1c1
import Derived.Test.YtbcadmnkilckbaaD1c2
import Derived.Test.YtbcadmnkilckbaaD1c3
import Derived.Test.YtbcadmnkilckbaaD1c4
import Derived.Test.YtbcadmnkilckbaaD1c5
import Derived.Test.YtbcadmnkilckbaaD1c6
import Derived.Test.YtbcadmnkilckbaaD1c7
import Derived.Test.YtbcadmnkilckbaaD1c8
import Derived.Test.YtbcadmnkilckbaaD1c9
import Derived.Test.YtbcadmnkilckbaaD1c10
import Derived.Test.YtbcadmnkilckbaaI26
namespace Go.Ideal.D1
open Go.Proofs Go.Ideal Go.Ideal.L1
set_option linter.unusedSimpArgs false
set_option linter.unusedVariables false
set_option maxRecDepth 100000
set_option maxHeartbeats 8000000

theorem forms1 (w x : Int) : CallQ Try.prog 3 [.int .i64 (.s w), .int .i64 (.s x)] H0 (fun v _ => isT v) := by
  have h0 : 0 ≤ IntKind.u64.wrap w := by simp [IntKind.wrap, IntKind.bits, IntKind.signed]; omega
  have e := Int.tmod_eq_emod_of_nonneg (b := 11) h0
  have h1 := Int.emod_nonneg (IntKind.u64.wrap w) (show (11 : Int) ≠ 0 by omega)
  have h2 := Int.emod_lt_of_pos (IntKind.u64.wrap w) (show (0 : Int) < 11 by omega)
  rw [← e] at h1 h2
  rcases (by omega : (IntKind.u64.wrap w).tmod 11 = 0 ∨ (IntKind.u64.wrap w).tmod 11 = 1 ∨ (IntKind.u64.wrap w).tmod 11 = 2 ∨ (IntKind.u64.wrap w).tmod 11 = 3 ∨ (IntKind.u64.wrap w).tmod 11 = 4 ∨ (IntKind.u64.wrap w).tmod 11 = 5 ∨ (IntKind.u64.wrap w).tmod 11 = 6 ∨ (IntKind.u64.wrap w).tmod 11 = 7 ∨ (IntKind.u64.wrap w).tmod 11 = 8 ∨ (IntKind.u64.wrap w).tmod 11 = 9 ∨ (IntKind.u64.wrap w).tmod 11 = 10) with h | h | h | h | h | h | h | h | h | h | h
  · exact CallQ.run specs_ok noL_ok mixed (forms_c0 w x ⟨by rw [h]; decide, h⟩)
  · exact CallQ.run specs_ok noL_ok mixed (forms_c1 w x ⟨by rw [h]; decide, h⟩)
  · exact CallQ.run specs_ok noL_ok mixed (forms_c2 w x ⟨by rw [h]; decide, h⟩)
  · exact CallQ.run specs_ok noL_ok mixed (forms_c3 w x ⟨by rw [h]; decide, h⟩)
  · exact CallQ.run specs_ok noL_ok mixed (forms_c4 w x ⟨by rw [h]; decide, h⟩)
  · exact CallQ.run specs_ok noL_ok mixed (forms_c5 w x ⟨by rw [h]; decide, h⟩)
  · exact CallQ.run specs_ok noL_ok mixed (forms_c6 w x ⟨by rw [h]; decide, h⟩)
  · exact CallQ.run specs_ok noL_ok mixed (forms_c7 w x ⟨by rw [h]; decide, h⟩)
  · exact CallQ.run specs_ok noL_ok mixed (forms_c8 w x ⟨by rw [h]; decide, h⟩)
  · exact CallQ.run specs_ok noL_ok mixed (forms_c9 w x ⟨by rw [h]; decide, h⟩)
  · exact CallQ.run specsZ_ok noL_ok mixed (forms_c10 w x ⟨by rw [h]; decide, h⟩)
theorem descForms_q (w : Int) (_ : -9223372036854775808 ≤ w ∧ w ≤ 9223372036854775807) (x : Int) (_ : -9223372036854775808 ≤ x ∧ x ≤ 9223372036854775807) :
    CallQ Try.prog 3 [.int .i64 (.s w), .int .i64 (.s x)] (Hx []) (fun v _ => isT v) := forms1 w x
end Go.Ideal.D1
