/- Bools of a row of values. Own text; nothing here is trusted. -/
import Derived.Test.YtbcadmnkilckbaaR1
namespace Go.Ideal
open Go.Proofs Go.Ideal.L1
set_option linter.unusedSimpArgs false
set_option linter.unusedVariables false

/-- Bools, worked out at once. -/
def boolsK {α : Type} : List V → (List Bool → α) → α
  | .bool b :: vs, k => b.force fun b => boolsK vs fun bs => k (b.val :: bs)
  | _, k => k []
def boolsOf : List V → List Bool
  | .bool b :: vs => b.val :: boolsOf vs
  | _ => []
theorem boolsK_eq {α : Type} : ∀ (vs : List V) (k : List Bool → α), boolsK vs k = k (boolsOf vs)
  | [], k => rfl
  | v :: vs, k => by
    unfold boolsK boolsOf
    split
    · rename_i e us heq
      simp only [List.cons.injEq] at heq
      obtain ⟨rfl, rfl⟩ := heq
      simp only [B.force_eq]
      exact boolsK_eq vs _
    · rename_i hne
      split
      · rename_i e us heq
        simp only [List.cons.injEq] at heq
        obtain ⟨rfl, rfl⟩ := heq
        exact absurd rfl (hne e vs)
      · rfl
theorem boolsOf_lePs : ∀ (vs : List V), (boolsOf vs).length = vs.length → V.lePs ((boolsOf vs).map fun z => V.bool (.s z)) vs
  | [], _ => by simp [boolsOf, V.lePs]
  | .bool e :: vs, h => by
    simp only [boolsOf, List.length_cons, Nat.add_right_cancel_iff, List.map_cons] at h ⊢
    exact V.lePs_cons (by cases e <;> simp [V.leP, B.eqP, B.val]) (boolsOf_lePs vs h)
  | v :: vs, h => by
    unfold boolsOf at h ⊢
    split
    · rename_i e vs' heq
      simp only [List.cons.injEq] at heq
      obtain ⟨rfl, rfl⟩ := heq
      simp only [List.length_cons, Nat.add_right_cancel_iff, List.map_cons] at h ⊢
      exact V.lePs_cons (by cases e <;> simp [V.leP, B.eqP, B.val]) (boolsOf_lePs vs h)
    · rename_i hne
      simp [hne] at h

end Go.Ideal
