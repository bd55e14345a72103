/- Chapter 9: ImageForms, put together. Own text. -/
import Derived.Test.YtjnkpoehfjldnaaG1c0
import Derived.Test.YtjnkpoehfjldnaaG1c1
import Derived.Test.YtjnkpoehfjldnaaG1c2
import Derived.Test.YtjnkpoehfjldnaaG1c3
import Derived.Test.YtjnkpoehfjldnaaG1c4
import Derived.Test.YtjnkpoehfjldnaaG1c5
import Derived.Test.YtjnkpoehfjldnaaG1c6
import Derived.Test.YtjnkpoehfjldnaaG1c7
import Derived.Test.YtjnkpoehfjldnaaG1c8
import Derived.Test.YtjnkpoehfjldnaaG1c9
import Derived.Test.YtjnkpoehfjldnaaG1c10
import Derived.Test.YtjnkpoehfjldnaaG1c11
import Derived.Test.YtjnkpoehfjldnaaG1c12
import Derived.Test.YtjnkpoehfjldnaaI26
namespace Go.Ideal.G1
open Go.Proofs Go.Ideal Go.Ideal.L1
set_option linter.unusedSimpArgs false
set_option linter.unusedVariables false
set_option maxRecDepth 100000
set_option maxHeartbeats 8000000
theorem forms1 (w x : Int) : ∃ hh, vcOf (runCall Try.prog specs noL 6000 9 [.int .i64 (.s w), .int .i64 (.s x)] H0 hh) (fun v _ => isT v) := by
  have h0 : 0 ≤ IntKind.u64.wrap w := by simp [IntKind.wrap, IntKind.bits, IntKind.signed]; omega
  have e := Int.tmod_eq_emod_of_nonneg (b := 13) h0
  have h1 := Int.emod_nonneg (IntKind.u64.wrap w) (show (13 : Int) ≠ 0 by omega)
  have h2 := Int.emod_lt_of_pos (IntKind.u64.wrap w) (show (0 : Int) < 13 by omega)
  rw [← e] at h1 h2
  rcases (by omega : (IntKind.u64.wrap w).tmod 13 = 0 ∨ (IntKind.u64.wrap w).tmod 13 = 1 ∨ (IntKind.u64.wrap w).tmod 13 = 2 ∨ (IntKind.u64.wrap w).tmod 13 = 3 ∨ (IntKind.u64.wrap w).tmod 13 = 4 ∨ (IntKind.u64.wrap w).tmod 13 = 5 ∨ (IntKind.u64.wrap w).tmod 13 = 6 ∨ (IntKind.u64.wrap w).tmod 13 = 7 ∨ (IntKind.u64.wrap w).tmod 13 = 8 ∨ (IntKind.u64.wrap w).tmod 13 = 9 ∨ (IntKind.u64.wrap w).tmod 13 = 10 ∨ (IntKind.u64.wrap w).tmod 13 = 11 ∨ (IntKind.u64.wrap w).tmod 13 = 12) with h | h | h | h | h | h | h | h | h | h | h | h | h
  · exact forms_c0 w x ⟨by rw [h]; decide, h⟩
  · exact forms_c1 w x ⟨by rw [h]; decide, h⟩
  · exact forms_c2 w x ⟨by rw [h]; decide, h⟩
  · exact forms_c3 w x ⟨by rw [h]; decide, h⟩
  · exact forms_c4 w x ⟨by rw [h]; decide, h⟩
  · exact forms_c5 w x ⟨by rw [h]; decide, h⟩
  · exact forms_c6 w x ⟨by rw [h]; decide, h⟩
  · exact forms_c7 w x ⟨by rw [h]; decide, h⟩
  · exact forms_c8 w x ⟨by rw [h]; decide, h⟩
  · exact forms_c9 w x ⟨by rw [h]; decide, h⟩
  · exact forms_c10 w x ⟨by rw [h]; decide, h⟩
  · exact forms_c11 w x ⟨by rw [h]; decide, h⟩
  · exact forms_c12 w x ⟨by rw [h]; decide, h⟩
theorem imageForms_q (w : Int) (_ : -9223372036854775808 ≤ w ∧ w ≤ 9223372036854775807) (x : Int) (_ : -9223372036854775808 ≤ x ∧ x ≤ 9223372036854775807) :
    CallQ Try.prog 9 [.int .i64 (.s w), .int .i64 (.s x)] (Hx []) (fun v _ => isT v) := CallQ.run specs_ok noL_ok mixed (forms1 w x)
end Go.Ideal.G1
