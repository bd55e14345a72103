/- Chapter 8: what two operations do. Own text. -/
import Derived.Test.YtjnkpoehfjldnaaN2
namespace Go.Ideal.M2
open Go.Proofs Go.Ideal Go.Ideal.L1
set_option linter.unusedSimpArgs false
set_option linter.unusedVariables false
set_option maxRecDepth 100000
set_option maxHeartbeats 8000000

theorem mdNow_ok {m0 m1 m2 m3 k a b x : Int} (hs : stOk m0 m1 m2 m3) (ho : mdOk k a b x) (j : Int) : -1 ≤ mdNow m0 m1 m2 m3 k a b x j ∧ mdNow m0 m1 m2 m3 k a b x j < 1048576 := by
  have key : ∀ j, -1 ≤ sel m0 m1 m2 m3 j ∧ sel m0 m1 m2 m3 j < 1048576 := fun j => by unfold stOk at hs; unfold sel; (repeat' split) <;> omega
  have ka := key a
  have kb := key b
  have kj := key j
  have ja : j = a → sel m0 m1 m2 m3 j = sel m0 m1 m2 m3 a := fun h => by rw [h]
  have jb : j = b → sel m0 m1 m2 m3 j = sel m0 m1 m2 m3 b := fun h => by rw [h]
  unfold mdOk at ho
  unfold mdNow
  by_cases hc : mdCode m0 m1 m2 m3 k a b x = 0
  · rw [if_pos hc]
    unfold mdCode at hc
    generalize sel m0 m1 m2 m3 a = u at *
    generalize sel m0 m1 m2 m3 b = v at *
    generalize sel m0 m1 m2 m3 j = w at *
    (repeat' split at hc) <;> (repeat' split) <;> omega
  · rw [if_neg hc]; exact kj
theorem mdNow_st {m0 m1 m2 m3 k a b x : Int} (hs : stOk m0 m1 m2 m3) (ho : mdOk k a b x) : stOk (mdNow m0 m1 m2 m3 k a b x 0) (mdNow m0 m1 m2 m3 k a b x 1) (mdNow m0 m1 m2 m3 k a b x 2) (mdNow m0 m1 m2 m3 k a b x 3) := by
  have h0 := mdNow_ok hs ho 0
  have h1 := mdNow_ok hs ho 1
  have h2 := mdNow_ok hs ho 2
  have h3 := mdNow_ok hs ho 3
  unfold stOk; omega
theorem dM_st {m0 m1 m2 m3 : Int} {i0 i1 i2 i3 i4 : Bool} {k a b x : Int} (hs : stB m0 m1 m2 m3 = true) (ho : OM.opMay k a b x = true) :
    stB (dM m0 m1 m2 m3 i0 i1 i2 i3 i4 k a b x 0) (dM m0 m1 m2 m3 i0 i1 i2 i3 i4 k a b x 1) (dM m0 m1 m2 m3 i0 i1 i2 i3 i4 k a b x 2) (dM m0 m1 m2 m3 i0 i1 i2 i3 i4 k a b x 3) = true := by
  have hs' : stOk m0 m1 m2 m3 := by simpa [stB, stOk] using hs
  by_cases hk : k ≤ 5
  · have := mdNow_st hs' ((doOk ho).2.2.1 hk)
    simpa [dM, hk, stB, stOk] using this
  · simpa [dM, hk, sel] using hs

theorem sq0 {α : Type} (a b c d : α) : sel a b c d 0 = a := by simp [sel]
theorem sq1 {α : Type} (a b c d : α) : sel a b c d 1 = b := by simp [sel]
theorem sq2 {α : Type} (a b c d : α) : sel a b c d 2 = c := by simp [sel]
theorem sq3 {α : Type} (a b c d : α) : sel a b c d 3 = d := by simp [sel]
theorem bq0 (a b c d e : Bool) : selB a b c d e 0 = a := by simp [selB]
theorem bq1 (a b c d e : Bool) : selB a b c d e 1 = b := by simp [selB]
theorem bq2 (a b c d e : Bool) : selB a b c d e 2 = c := by simp [selB]
theorem bq3 (a b c d e : Bool) : selB a b c d e 3 = d := by simp [selB]
theorem bq4 (a b c d e : Bool) : selB a b c d e 4 = e := by simp [selB]
/-- The answers and the state of two. -/
def eCode (m0 m1 m2 m3 : Int) (i0 i1 i2 i3 i4 : Bool) (k a b x l c d y : Int) : Int :=
  dCode (dM m0 m1 m2 m3 i0 i1 i2 i3 i4 k a b x 0) (dM m0 m1 m2 m3 i0 i1 i2 i3 i4 k a b x 1) (dM m0 m1 m2 m3 i0 i1 i2 i3 i4 k a b x 2) (dM m0 m1 m2 m3 i0 i1 i2 i3 i4 k a b x 3)
    (dI m0 m1 m2 m3 i0 i1 i2 i3 i4 k a b x 0) (dI m0 m1 m2 m3 i0 i1 i2 i3 i4 k a b x 1) (dI m0 m1 m2 m3 i0 i1 i2 i3 i4 k a b x 2) (dI m0 m1 m2 m3 i0 i1 i2 i3 i4 k a b x 3) (dI m0 m1 m2 m3 i0 i1 i2 i3 i4 k a b x 4) l c d y
def eNum (m0 m1 m2 m3 : Int) (i0 i1 i2 i3 i4 : Bool) (k a b x l c d y : Int) : Int :=
  dNum (dM m0 m1 m2 m3 i0 i1 i2 i3 i4 k a b x 0) (dM m0 m1 m2 m3 i0 i1 i2 i3 i4 k a b x 1) (dM m0 m1 m2 m3 i0 i1 i2 i3 i4 k a b x 2) (dM m0 m1 m2 m3 i0 i1 i2 i3 i4 k a b x 3)
    (dI m0 m1 m2 m3 i0 i1 i2 i3 i4 k a b x 0) (dI m0 m1 m2 m3 i0 i1 i2 i3 i4 k a b x 1) (dI m0 m1 m2 m3 i0 i1 i2 i3 i4 k a b x 2) (dI m0 m1 m2 m3 i0 i1 i2 i3 i4 k a b x 3) (dI m0 m1 m2 m3 i0 i1 i2 i3 i4 k a b x 4) l c d y
def eM (m0 m1 m2 m3 : Int) (i0 i1 i2 i3 i4 : Bool) (k a b x l c d y : Int) (j : Int) : Int := if eCode m0 m1 m2 m3 i0 i1 i2 i3 i4 k a b x l c d y = 0 then
  dM (dM m0 m1 m2 m3 i0 i1 i2 i3 i4 k a b x 0) (dM m0 m1 m2 m3 i0 i1 i2 i3 i4 k a b x 1) (dM m0 m1 m2 m3 i0 i1 i2 i3 i4 k a b x 2) (dM m0 m1 m2 m3 i0 i1 i2 i3 i4 k a b x 3)
    (dI m0 m1 m2 m3 i0 i1 i2 i3 i4 k a b x 0) (dI m0 m1 m2 m3 i0 i1 i2 i3 i4 k a b x 1) (dI m0 m1 m2 m3 i0 i1 i2 i3 i4 k a b x 2) (dI m0 m1 m2 m3 i0 i1 i2 i3 i4 k a b x 3) (dI m0 m1 m2 m3 i0 i1 i2 i3 i4 k a b x 4) l c d y j
  else sel m0 m1 m2 m3 j
def eI (m0 m1 m2 m3 : Int) (i0 i1 i2 i3 i4 : Bool) (k a b x l c d y : Int) (j : Int) : Bool := if eCode m0 m1 m2 m3 i0 i1 i2 i3 i4 k a b x l c d y = 0 then
  dI (dM m0 m1 m2 m3 i0 i1 i2 i3 i4 k a b x 0) (dM m0 m1 m2 m3 i0 i1 i2 i3 i4 k a b x 1) (dM m0 m1 m2 m3 i0 i1 i2 i3 i4 k a b x 2) (dM m0 m1 m2 m3 i0 i1 i2 i3 i4 k a b x 3)
    (dI m0 m1 m2 m3 i0 i1 i2 i3 i4 k a b x 0) (dI m0 m1 m2 m3 i0 i1 i2 i3 i4 k a b x 1) (dI m0 m1 m2 m3 i0 i1 i2 i3 i4 k a b x 2) (dI m0 m1 m2 m3 i0 i1 i2 i3 i4 k a b x 3) (dI m0 m1 m2 m3 i0 i1 i2 i3 i4 k a b x 4) l c d y j
  else selB i0 i1 i2 i3 i4 j
def eL (m0 m1 m2 m3 : Int) (i0 i1 i2 i3 i4 : Bool) (k a b x l c d y : Int) : List V :=
  stL (eM m0 m1 m2 m3 i0 i1 i2 i3 i4 k a b x l c d y 0) (eM m0 m1 m2 m3 i0 i1 i2 i3 i4 k a b x l c d y 1) (eM m0 m1 m2 m3 i0 i1 i2 i3 i4 k a b x l c d y 2) (eM m0 m1 m2 m3 i0 i1 i2 i3 i4 k a b x l c d y 3)
    (eI m0 m1 m2 m3 i0 i1 i2 i3 i4 k a b x l c d y 0) (eI m0 m1 m2 m3 i0 i1 i2 i3 i4 k a b x l c d y 1) (eI m0 m1 m2 m3 i0 i1 i2 i3 i4 k a b x l c d y 2) (eI m0 m1 m2 m3 i0 i1 i2 i3 i4 k a b x l c d y 3) (eI m0 m1 m2 m3 i0 i1 i2 i3 i4 k a b x l c d y 4)
def as2B (c n d m : Int) : Blk := .own false 46 (fun _ => 0) 0 [.int .i64 (.s c), .int .i64 (.s n), .int .i64 (.s d), .int .i64 (.s m)]
end Go.Ideal.M2
