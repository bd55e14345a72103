/- Functions over a view and an operation: their arguments taken apart. Own text; nothing here is trusted. -/
import Derived.Test.YtmkgiejjapljpaaB3
namespace Go.Ideal.B1
open Go.Proofs Go.Ideal Go.Ideal.L1
set_option linter.unusedSimpArgs false
set_option linter.unusedVariables false

def boolsOf : List V → List Bool
  | .bool b :: vs => b.val :: boolsOf vs
  | _ => []
theorem boolsK_eq {α : Type} : ∀ (vs : List V) (k : List Bool → α), boolsK vs k = k (boolsOf vs)
  | [], k => rfl
  | v :: vs, k => by
    unfold boolsK boolsOf
    split
    · rename_i e us heq
      simp only [List.cons.injEq] at heq
      obtain ⟨rfl, rfl⟩ := heq
      simp only [B.force_eq]
      exact boolsK_eq vs _
    · rename_i hne
      split
      · rename_i e us heq
        simp only [List.cons.injEq] at heq
        obtain ⟨rfl, rfl⟩ := heq
        exact absurd rfl (hne e vs)
      · rfl
theorem boolsOf_lePs : ∀ (vs : List V), (boolsOf vs).length = vs.length → V.lePs ((boolsOf vs).map fun z => V.bool (.s z)) vs
  | [], _ => by simp [boolsOf, V.lePs]
  | .bool e :: vs, h => by
    simp only [boolsOf, List.length_cons, Nat.add_right_cancel_iff, List.map_cons] at h ⊢
    exact V.lePs_cons (by cases e <;> simp [V.leP, B.eqP, B.val]) (boolsOf_lePs vs h)
  | v :: vs, h => by
    unfold boolsOf at h ⊢
    split
    · rename_i e vs' heq
      simp only [List.cons.injEq] at heq
      obtain ⟨rfl, rfl⟩ := heq
      simp only [List.length_cons, Nat.add_right_cancel_iff, List.map_cons] at h ⊢
      exact V.lePs_cons (by cases e <;> simp [V.leP, B.eqP, B.val]) (boolsOf_lePs vs h)
    · rename_i hne
      simp [hne] at h

theorem viewG_some {g : List Bool → List Int → Int → Int → Int → Int → List (Bool × Sh) × Sh} {xs : List V} {cl : List (Bool × Sh)} {z : Sh} (h : viewG g xs = some (cl, z)) :
    ∃ vs os bs zs k a b x, xs = [.agg vs, .agg os] ∧ bs.length = 16 ∧ zs.length = 32 ∧ (∀ r ys, VRs r [.agg vs, .agg os] ys → VRs r [.agg (viewOf bs zs), .agg [.int .i64 (.s k), .int .i64 (.s a), .int .i64 (.s b), .int .i64 (.s x)]] ys) ∧ g bs zs k a b x = (cl, z) := by
  unfold viewG at h
  split at h
  · rename_i vs os
    split at h
    · rename_i hl
      simp only [Bool.and_eq_true] at hl
      have hl1 := Nat.eq_of_beq_eq_true hl.1
      have hl2 := Nat.eq_of_beq_eq_true hl.2
      rw [boolsK_eq] at h
      simp only [intsK_eq] at h
      split at h
      · rename_i hn
        simp only [Bool.and_eq_true] at hn
        have hn1 := Nat.eq_of_beq_eq_true hn.1
        have hn2 := Nat.eq_of_beq_eq_true hn.2
        split at h
        · rename_i k a b x hw
          simp only [Option.some.injEq] at h
          refine ⟨vs, os, boolsOf (vs.take 16), intsOf (vs.drop 16), k, a, b, x, rfl, hn1, hn2, fun r ys hy => ?_, h⟩
          have h1 : V.lePs (viewOf (boolsOf (vs.take 16)) (intsOf (vs.drop 16))) vs := by
            have := lePs_append _ _ _ _ (boolsOf_lePs (vs.take 16) (by rw [hn1, List.length_take]; omega)) (intsOf_lePs (vs.drop 16) (by rw [hn2, List.length_drop]; omega))
            rwa [List.take_append_drop] at this
          have h2 : V.lePs [V.int .i64 (.s k), .int .i64 (.s a), .int .i64 (.s b), .int .i64 (.s x)] os := by
            have := intsOf_lePs os (by rw [hw, hl2]; rfl)
            rwa [hw] at this
          simp only [VRs, VR] at hy ⊢
          obtain ⟨y, zs, e, ⟨z, e1, g1⟩, y2, zs2, e2, ⟨z2, e3, g2⟩, e4⟩ := hy
          exact ⟨y, zs, e, ⟨z, e1, V.lePs_ok _ _ _ h1 g1⟩, y2, zs2, e2, ⟨z2, e3, by have := V.lePs_ok _ _ _ h2 g2; simpa only [VRs, VR] using this⟩, e4⟩
        · simp at h
      · simp at h
    · simp at h
  · simp at h
end Go.Ideal.B1
