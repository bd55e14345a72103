/- Chapter 8: the contract of cells.OpMay of one in a row; specs for model.Do. Own text. -/
import Derived.Test.YtjnkpoehfjldnaaN1
import Derived.Test.YtjnkpoehfjldnaaM8
namespace Go.Ideal.M2
open Go.Proofs Go.Ideal Go.Ideal.L1
set_option linter.unusedSimpArgs false
set_option linter.unusedVariables false
set_option maxRecDepth 100000
set_option maxHeartbeats 8000000

def omCt : List V → Hp → Option Ct
  | [.ptr b o], H => match H.tr.get b with
    | some B => match B.row with
      | some (f, n) => some ⟨[b], [], .bool (.s (OM.opMay (f (o.val + 0)) (f (o.val + 1)) (f (o.val + 2)) (f (o.val + 3)))), [none], 1, [o.val + 4 ≤ n.val]⟩
      | none => none
    | none => none
  | _, _ => none
def omS : Spec := spG 51 omCt
theorem omS_ok : SpecOk Try.prog omS := spG_ok fun xs H c hc hq hb => by
  unfold omCt at hc
  split at hc
  · rename_i b o
    split at hc
    · rename_i B hB
      split at hc
      · rename_i f n hr
        simp only [Option.some.injEq] at hc
        subst hc
        have q1 : o.val + 4 ≤ n.val := hq _ (by simp)
        have hpl0 : place [b] H.n 0 = b := rfl
        refine ⟨[.ptr 0 (.s o.val)], rowBk f n.val, by simp [nodupB], by simp [blt_of (hb _ _ hB)], rfl, rfl, rfl, ?_, ?_, ?_, ?_, callKeep below_ok (om2 f n.val o.val _ _ _ _ rfl rfl rfl rfl q1)⟩
        · intro j b' hj
          match j with
          | 0 =>
            simp only [rowBk, List.getElem?_cons_zero, Option.some.injEq] at hj; subst hj
            exact ⟨by simp, B, hB, Blk.row_s hr⟩
          | j + 1 => simp [rowBk] at hj
        · intro j b' hj hj'
          match j with
          | 0 => simp only [rowBk, List.getElem?_cons_zero, Option.some.injEq] at hj'; subst hj'; rfl
          | j + 1 => simp [rowBk] at hj'
        · intro j b' _ hj
          match j with
          | 0 => simp at hj
          | j + 1 => simp at hj
        · intro r ys hy
          simp only [V.renL, V.ren, hpl0]
          simpa only [VRs, VR, N.val] using hy
      · simp at hc
    · simp at hc
  · simp at hc
def doS : Spec := orS mbS (orS skS (orS omS below))
theorem doS_ok : SpecOk Try.prog doS := orS_ok mbS_ok (orS_ok skS_ok (orS_ok omS_ok below_ok))

/-! ### What one operation does -/

def stB (m0 m1 m2 m3 : Int) : Bool := decide (-1 ≤ m0 ∧ m0 < 1048576 ∧ -1 ≤ m1 ∧ m1 < 1048576 ∧ -1 ≤ m2 ∧ m2 < 1048576 ∧ -1 ≤ m3 ∧ m3 < 1048576)
def dCode (m0 m1 m2 m3 : Int) (i0 i1 i2 i3 i4 : Bool) (k a b x : Int) : Int := if k ≤ 5 then mdCode m0 m1 m2 m3 k a b x else kyCode (selB i0 i1 i2 i3 i4 a) (kLeast i0 i1 i2 i3 i4 5) k
def dNum (m0 m1 m2 m3 : Int) (i0 i1 i2 i3 i4 : Bool) (k a b x : Int) : Int := if k ≤ 5 then mdNum m0 m1 m2 m3 k a b x else kyNum (selB i0 i1 i2 i3 i4 a) (kBits i0 i1 i2 i3 i4 a b 5) (kLeast i0 i1 i2 i3 i4 5) k a
def dM (m0 m1 m2 m3 : Int) (i0 i1 i2 i3 i4 : Bool) (k a b x : Int) (j : Int) : Int := if k ≤ 5 then mdNow m0 m1 m2 m3 k a b x j else sel m0 m1 m2 m3 j
def dI (m0 m1 m2 m3 : Int) (i0 i1 i2 i3 i4 : Bool) (k a b x : Int) (j : Int) : Bool := if k ≤ 5 then selB i0 i1 i2 i3 i4 j else kyIn (selB i0 i1 i2 i3 i4 a) (kLeast i0 i1 i2 i3 i4 5) k a j (selB i0 i1 i2 i3 i4 j)
def dL (m0 m1 m2 m3 : Int) (i0 i1 i2 i3 i4 : Bool) (k a b x : Int) : List V :=
  stL (dM m0 m1 m2 m3 i0 i1 i2 i3 i4 k a b x 0) (dM m0 m1 m2 m3 i0 i1 i2 i3 i4 k a b x 1) (dM m0 m1 m2 m3 i0 i1 i2 i3 i4 k a b x 2) (dM m0 m1 m2 m3 i0 i1 i2 i3 i4 k a b x 3)
    (dI m0 m1 m2 m3 i0 i1 i2 i3 i4 k a b x 0) (dI m0 m1 m2 m3 i0 i1 i2 i3 i4 k a b x 1) (dI m0 m1 m2 m3 i0 i1 i2 i3 i4 k a b x 2) (dI m0 m1 m2 m3 i0 i1 i2 i3 i4 k a b x 3) (dI m0 m1 m2 m3 i0 i1 i2 i3 i4 k a b x 4)
def noV : V := .tuple [.agg (List.replicate 4 (.int .i64 (.c 0)) ++ List.replicate 5 (.bool (.c false))), .nils, .int .i64 (.c 800)]
def asB (c n : Int) : Blk := .own false 46 (fun _ => 0) 0 [.int .i64 (.s c), .int .i64 (.s n)]
def lastOf : V → List Nat
  | .tuple [_, .slice b _ _ _ _, _] => [0, b]
  | _ => [0]
theorem doOk {k a b x : Int} (h : OM.opMay k a b x = true) : 0 ≤ k ∧ k < 11 ∧ (k ≤ 5 → mdOk k a b x) ∧ (5 < k → kyOk k a b) := by
  simp only [OM.opMay, Bool.and_eq_true, decide_eq_true_eq] at h
  unfold mdOk kyOk
  refine ⟨by omega, by omega, fun _ => ?_, fun _ => ?_⟩ <;> (repeat' split at h) <;> omega
theorem dSame {m0 m1 m2 m3 : Int} {i0 i1 i2 i3 i4 : Bool} {k a b x : Int} (h : dCode m0 m1 m2 m3 i0 i1 i2 i3 i4 k a b x ≠ 0) :
    (∀ j, dM m0 m1 m2 m3 i0 i1 i2 i3 i4 k a b x j = sel m0 m1 m2 m3 j) ∧ ∀ j, dI m0 m1 m2 m3 i0 i1 i2 i3 i4 k a b x j = selB i0 i1 i2 i3 i4 j := by
  unfold dCode at h
  unfold dM dI
  split at h
  · rename_i hk; simp only [if_pos hk]; exact ⟨fun j => by simp [mdNow, h], fun j => trivial⟩
  · rename_i hk; simp only [if_neg hk]; exact ⟨fun j => trivial, fun j => by simp [kyIn, h]⟩
theorem sel_0 {α : Type} (m0 m1 m2 m3 : α) : sel m0 m1 m2 m3 0 = m0 ∧ sel m0 m1 m2 m3 1 = m1 ∧ sel m0 m1 m2 m3 2 = m2 ∧ sel m0 m1 m2 m3 3 = m3 := by simp [sel]
theorem selB_0 (i0 i1 i2 i3 i4 : Bool) : selB i0 i1 i2 i3 i4 0 = i0 ∧ selB i0 i1 i2 i3 i4 1 = i1 ∧ selB i0 i1 i2 i3 i4 2 = i2 ∧ selB i0 i1 i2 i3 i4 3 = i3 ∧ selB i0 i1 i2 i3 i4 4 = i4 := by simp [selB]
end Go.Ideal.M2
