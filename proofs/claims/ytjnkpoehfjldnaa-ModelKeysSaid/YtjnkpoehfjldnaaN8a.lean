/- Chapter 8: ModelKeys, the plain part. Own text. -/
import Derived.Test.YtjnkpoehfjldnaaN6a
import Derived.Test.YtjnkpoehfjldnaaR9
namespace Go.Ideal.M2
open Go.Proofs Go.Ideal Go.Ideal.L1
set_option linter.unusedSimpArgs false
set_option linter.unusedVariables false
set_option maxRecDepth 100000
set_option maxHeartbeats 8000000

/-- which keys are in behind an act -/
def mkF (v : Int) (g : Nat → Bool) : Nat → Bool := fun j => if (v % 1024).tmod 5 = (j : Int) then decide (v / 2048 % 2 = 0) else g j
theorem tm5 (v : Int) : 0 ≤ (v % 1024).tmod 5 ∧ (v % 1024).tmod 5 < 5 := by
  rw [Int.tmod_eq_emod_of_nonneg (by omega)]; omega
theorem may6 (v : Int) : OM.opMay 6 ((v % 1024).tmod 5) 0 (v / 1024 % 2) = true := by have := tm5 v; simp [OM.opMay]; omega
theorem may7 (v : Int) : OM.opMay 7 ((v % 1024).tmod 5) 0 0 = true := by have := tm5 v; simp [OM.opMay]; omega
theorem stNo : stB (-1) (-1) (-1) (-1) = true := by simp [stB]
/-- the bits and the least one, from above -/
def dnBits (g : Nat → Bool) (a b : Int) : Nat → Int
  | 0 => 0
  | 1 => kyBits (g 4) a b 0 4 16
  | 2 => kyBits (g 3) a b (kyBits (g 4) a b 0 4 16) 3 8
  | 3 => kyBits (g 2) a b (kyBits (g 3) a b (kyBits (g 4) a b 0 4 16) 3 8) 2 4
  | 4 => kyBits (g 1) a b (kyBits (g 2) a b (kyBits (g 3) a b (kyBits (g 4) a b 0 4 16) 3 8) 2 4) 1 2
  | _ => kyBits (g 0) a b (kyBits (g 1) a b (kyBits (g 2) a b (kyBits (g 3) a b (kyBits (g 4) a b 0 4 16) 3 8) 2 4) 1 2) 0 1
def dnLeast (g : Nat → Bool) : Nat → Int
  | 0 => -1
  | 1 => if g 4 then 4 else -1
  | 2 => if g 3 then 3 else if g 4 then 4 else -1
  | 3 => if g 2 then 2 else if g 3 then 3 else if g 4 then 4 else -1
  | 4 => if g 1 then 1 else if g 2 then 2 else if g 3 then 3 else if g 4 then 4 else -1
  | _ => if g 0 then 0 else if g 1 then 1 else if g 2 then 2 else if g 3 then 3 else if g 4 then 4 else -1
theorem bits_eq (g : Nat → Bool) (a b : Int) : kBits (g 0) (g 1) (g 2) (g 3) (g 4) a b 5 = dnBits g a b 5 := by
  have key : ∀ p0 p1 p2 p3 p4 : Bool, (if p4 then bits .or .i64 (if p3 then bits .or .i64 (if p2 then bits .or .i64 (if p1 then bits .or .i64 (if p0 then bits .or .i64 0 1 else 0) 2 else (if p0 then bits .or .i64 0 1 else 0)) 4 else (if p1 then bits .or .i64 (if p0 then bits .or .i64 0 1 else 0) 2 else (if p0 then bits .or .i64 0 1 else 0))) 8 else (if p2 then bits .or .i64 (if p1 then bits .or .i64 (if p0 then bits .or .i64 0 1 else 0) 2 else (if p0 then bits .or .i64 0 1 else 0)) 4 else (if p1 then bits .or .i64 (if p0 then bits .or .i64 0 1 else 0) 2 else (if p0 then bits .or .i64 0 1 else 0)))) 16 else (if p3 then bits .or .i64 (if p2 then bits .or .i64 (if p1 then bits .or .i64 (if p0 then bits .or .i64 0 1 else 0) 2 else (if p0 then bits .or .i64 0 1 else 0)) 4 else (if p1 then bits .or .i64 (if p0 then bits .or .i64 0 1 else 0) 2 else (if p0 then bits .or .i64 0 1 else 0))) 8 else (if p2 then bits .or .i64 (if p1 then bits .or .i64 (if p0 then bits .or .i64 0 1 else 0) 2 else (if p0 then bits .or .i64 0 1 else 0)) 4 else (if p1 then bits .or .i64 (if p0 then bits .or .i64 0 1 else 0) 2 else (if p0 then bits .or .i64 0 1 else 0)))) : Int) =
      (if p0 then bits .or .i64 (if p1 then bits .or .i64 (if p2 then bits .or .i64 (if p3 then bits .or .i64 (if p4 then bits .or .i64 0 16 else 0) 8 else (if p4 then bits .or .i64 0 16 else 0)) 4 else (if p3 then bits .or .i64 (if p4 then bits .or .i64 0 16 else 0) 8 else (if p4 then bits .or .i64 0 16 else 0))) 2 else (if p2 then bits .or .i64 (if p3 then bits .or .i64 (if p4 then bits .or .i64 0 16 else 0) 8 else (if p4 then bits .or .i64 0 16 else 0)) 4 else (if p3 then bits .or .i64 (if p4 then bits .or .i64 0 16 else 0) 8 else (if p4 then bits .or .i64 0 16 else 0)))) 1 else (if p1 then bits .or .i64 (if p2 then bits .or .i64 (if p3 then bits .or .i64 (if p4 then bits .or .i64 0 16 else 0) 8 else (if p4 then bits .or .i64 0 16 else 0)) 4 else (if p3 then bits .or .i64 (if p4 then bits .or .i64 0 16 else 0) 8 else (if p4 then bits .or .i64 0 16 else 0))) 2 else (if p2 then bits .or .i64 (if p3 then bits .or .i64 (if p4 then bits .or .i64 0 16 else 0) 8 else (if p4 then bits .or .i64 0 16 else 0)) 4 else (if p3 then bits .or .i64 (if p4 then bits .or .i64 0 16 else 0) 8 else (if p4 then bits .or .i64 0 16 else 0)))) : Int) := by decide +kernel
  have := key (decide (g 0 = true ∧ a ≤ 0 ∧ 0 ≤ b)) (decide (g 1 = true ∧ a ≤ 1 ∧ 1 ≤ b)) (decide (g 2 = true ∧ a ≤ 2 ∧ 2 ≤ b)) (decide (g 3 = true ∧ a ≤ 3 ∧ 3 ≤ b)) (decide (g 4 = true ∧ a ≤ 4 ∧ 4 ≤ b))
  simp only [decide_eq_true_eq] at this
  simpa only [kBits, dnBits, kyBits] using this
theorem least_eq (g : Nat → Bool) : kLeast (g 0) (g 1) (g 2) (g 3) (g 4) 5 = dnLeast g 5 := by
  simp only [kLeast, dnLeast, kyLeast]
  generalize g 0 = p0; generalize g 1 = p1; generalize g 2 = p2; generalize g 3 = p3; generalize g 4 = p4
  cases p0 <;> cases p1 <;> cases p2 <;> cases p3 <;> cases p4 <;> simp
end Go.Ideal.M2
