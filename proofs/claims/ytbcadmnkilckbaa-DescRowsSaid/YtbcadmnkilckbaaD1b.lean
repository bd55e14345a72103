/- Chapter 13: DescForms. Own text. -/
import Derived.Test.YtbcadmnkilckbaaD0
namespace Go.Ideal.D1
open Go.Proofs Go.Ideal Go.Ideal.L1
set_option linter.unusedSimpArgs false
set_option linter.unusedVariables false
set_option maxRecDepth 100000
set_option maxHeartbeats 80000000

theorem hW (w x : Int) (h : Wd.isVal ([12, 1, IntKind.i64.wrap (4 * IntKind.i64.wrap (262143 + IntKind.i64.wrap (1 + x % 1024))), 2].getD (IntKind.i64.wrap ((IntKind.u64.wrap w).tmod 4)).toNat 0) = true) : 0 ≤ Wd.plV ([12, 1, IntKind.i64.wrap (4 * IntKind.i64.wrap (262143 + IntKind.i64.wrap (1 + x % 1024))), 2].getD (IntKind.i64.wrap ((IntKind.u64.wrap w).tmod 4)).toNat 0) ∧ Wd.plV ([12, 1, IntKind.i64.wrap (4 * IntKind.i64.wrap (262143 + IntKind.i64.wrap (1 + x % 1024))), 2].getD (IntKind.i64.wrap ((IntKind.u64.wrap w).tmod 4)).toNat 0) < 1099511627776 ∧ (Wd.plV ([12, 1, IntKind.i64.wrap (4 * IntKind.i64.wrap (262143 + IntKind.i64.wrap (1 + x % 1024))), 2].getD (IntKind.i64.wrap ((IntKind.u64.wrap w).tmod 4)).toNat 0) % 4 = 3 ∨ Wd.plV ([12, 1, IntKind.i64.wrap (4 * IntKind.i64.wrap (262143 + IntKind.i64.wrap (1 + x % 1024))), 2].getD (IntKind.i64.wrap ((IntKind.u64.wrap w).tmod 4)).toNat 0) / 4 > 65535) := by
  have hm4 := modU w 4 (by omega) (by omega)
  have hx : 0 ≤ x % 1024 ∧ x % 1024 < 1024 := by omega
  have e1 : IntKind.i64.wrap (4 * IntKind.i64.wrap (262143 + IntKind.i64.wrap (1 + x % 1024))) = 4 * (262143 + (1 + x % 1024)) := by rw [w1, wrapk (262143 + _) (by omega), wrapk _ (by omega)]
  simp only [e1] at h ⊢; clear e1
  generalize hm : IntKind.i64.wrap ((IntKind.u64.wrap w).tmod 4) = m at *
  have hb := Wd.isVal_of h
  rcases (by omega : m = 0 ∨ m = 1 ∨ m = 2 ∨ m = 3) with rfl | rfl | rfl | rfl <;> simp at hb ⊢ <;> omega
theorem hA (x : Int) : Wd.isVal (IntKind.i64.wrap (4 * IntKind.i64.wrap (16 + IntKind.i64.wrap (1 + x % 1024)))) = true ∧ Wd.plV (IntKind.i64.wrap (4 * IntKind.i64.wrap (16 + IntKind.i64.wrap (1 + x % 1024)))) = 17 + x % 1024 := by
  have hx : 0 ≤ x % 1024 ∧ x % 1024 < 1024 := by omega
  rw [w1, wrapk (16 + _) (by omega), wrapk _ (by omega)]
  have := Wd.isVal_mk (x := 4 * (16 + (1 + x % 1024))) (by omega) (by omega) (by omega)
  exact ⟨this.1, by rw [this.2]; omega⟩
theorem hB (x : Int) : Wd.isVal (IntKind.i64.wrap (4 * IntKind.i64.wrap (15 + IntKind.i64.wrap (1 + x % 1024)))) = true ∧ Wd.plV (IntKind.i64.wrap (4 * IntKind.i64.wrap (15 + IntKind.i64.wrap (1 + x % 1024)))) = 16 + x % 1024 := by
  have hx : 0 ≤ x % 1024 ∧ x % 1024 < 1024 := by omega
  rw [w1, wrapk (15 + _) (by omega), wrapk _ (by omega)]
  have := Wd.isVal_mk (x := 4 * (15 + (1 + x % 1024))) (by omega) (by omega) (by omega)
  exact ⟨this.1, by rw [this.2]; omega⟩
end Go.Ideal.D1
