/- Chapter 5: an operation by plain balances. Own text. -/
import Derived.Test.YtmkgiejjapljpaaB6
namespace Go.Ideal.B1
open Go.Proofs Go.Ideal Go.Ideal.L1
set_option linter.unusedSimpArgs false
set_option linter.unusedVariables false
variable (g : Nat → Int) (K A B X : Int) (i : Nat)
theorem selg (c : Int) (h1 : 0 ≤ c) (h2 : c < 4) : sel (g 0 + 1) (g 1 + 1) (g 2 + 1) (g 3 + 1) c = g c.toNat + 1 := by
  rcases (by omega : c = 0 ∨ c = 1 ∨ c = 2 ∨ c = 3) with rfl | rfl | rfl | rfl <;> simp [sel]
/-- what comes of an operation, by plain balances -/
def wCode (g : Nat → Int) (K A B X : Int) : Int :=
  if K = 0 then (if g A.toNat ≥ 0 then 1 else 0) else if K = 5 then 0 else if g A.toNat < 0 ∨ (K = 4 ∧ g B.toNat < 0) then 2
  else if K = 1 ∨ K = 2 then 0 else if g A.toNat < X then 3 else 0
def wNum (g : Nat → Int) (K A B X : Int) : Int :=
  if wCode g K A B X = 0 then (if K = 0 then X else if K = 5 then imax 0 (g 0) + imax 0 (g 1) + imax 0 (g 2) + imax 0 (g 3) else if K = 1 then g A.toNat else if K = 2 then g A.toNat + X
    else if K = 4 ∧ A = B then g A.toNat else g A.toNat - X) else 0
def wNow (g : Nat → Int) (K A B X : Int) (j : Nat) : Int :=
  if wCode g K A B X = 0 then (if K = 0 then (if j = A.toNat then X else g j) else if K = 5 then g j else if K = 1 then (if j = A.toNat then -1 else g j) else if K = 2 then (if j = A.toNat then g j + X else g j)
    else if K = 4 then (if A = B then g j else if j = A.toNat then g j - X else if j = B.toNat then g j + X else g j) else (if j = A.toNat then g j - X else g j)) else g j
theorem code_eq (hg : ∀ j, j < 4 → -1 ≤ g j ∧ g j ≤ 32 * (i : Int)) (hi : i ≤ 50) (hA : 0 ≤ A ∧ A < 4) (hB : 0 ≤ B ∧ B < 4) (hK : 0 ≤ K ∧ K < 6) (hX : 0 ≤ X ∧ X < 32) :
    bkCode (g 0 + 1) (g 1 + 1) (g 2 + 1) (g 3 + 1) K A B X = wCode g K A B X := by
  have gA := hg A.toNat (by omega)
  have gB := hg B.toNat (by omega)
  simp only [bkCode, wCode, selg g A hA.1 hA.2, selg g B hB.1 hB.2]
  (repeat' split) <;> omega
theorem num_eq (hg : ∀ j, j < 4 → -1 ≤ g j ∧ g j ≤ 32 * (i : Int)) (hi : i ≤ 50) (hA : 0 ≤ A ∧ A < 4) (hB : 0 ≤ B ∧ B < 4) (hK : 0 ≤ K ∧ K < 6) (hX : 0 ≤ X ∧ X < 32) :
    bkNum (g 0 + 1) (g 1 + 1) (g 2 + 1) (g 3 + 1) K A B X = wNum g K A B X := by
  have gA := hg A.toNat (by omega)
  have hp : ∀ y : Int, -1 ≤ y → imax 0 y = pos (y + 1) := by intro y hy; simp only [imax, pos]; (repeat' split) <;> omega
  simp only [bkNum, wNum, code_eq g K A B X i hg hi hA hB hK hX, selg g A hA.1 hA.2, hp _ (hg 0 (by omega)).1, hp _ (hg 1 (by omega)).1, hp _ (hg 2 (by omega)).1, hp _ (hg 3 (by omega)).1]
  (repeat' split) <;> omega
theorem now_eq (hg : ∀ j, j < 4 → -1 ≤ g j ∧ g j ≤ 32 * (i : Int)) (hi : i ≤ 50) (hA : 0 ≤ A ∧ A < 4) (hB : 0 ≤ B ∧ B < 4) (hK : 0 ≤ K ∧ K < 6) (hX : 0 ≤ X ∧ X < 32) (j : Nat) (hj : j < 4) :
    bkNow (g 0 + 1) (g 1 + 1) (g 2 + 1) (g 3 + 1) K A B X (j : Int) = wNow g K A B X j + 1 := by
  have e : ((j : Int)).toNat = j := by omega
  simp only [bkNow, wNow, code_eq g K A B X i hg hi hA hB hK hX, selg g j (by omega) (by omega), e]
  (repeat' split) <;> omega
end Go.Ideal.B1
