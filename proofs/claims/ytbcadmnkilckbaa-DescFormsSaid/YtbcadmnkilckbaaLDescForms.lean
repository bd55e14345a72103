/- DescForms is proved: every call of the law answers true, and leaves the memory that was there. Conditions: none beyond the statement's. -/
import Derived.Test.YtbcadmnkilckbaaRows
import Derived.Test.YtbcadmnkilckbaaD1q
import Derived.Test.YtbcadmnkilckbaaI26
import Derived.WalkKit
import Derived.ProofKit
import Derived.OpenShut
import Derived.ShutString
import Derived.ChangeOld
import Derived.Below
import Derived.SizedLaws
namespace Go.Proofs.Ytbcadmnkilckbaa.descForms
open Go.ChangeShapes Go.WideShapes Go.ChangeAt Go.RowKit Go.Ideal
set_option linter.unusedVariables false
set_option maxHeartbeats 4000000
theorem own : ownKnob Try.prog.godebug = none := by kernel_rfl
set_option maxRecDepth 100000 in
theorem lifted (os : Os) (started : os.Started) (H : Type) (enc : TypeId × Value → H) :
    ReturnsInHanded {} Try.checked os 3 .any (Rows.descFormsSpec.pre6 enc Try.prog Try.f3 Rows.descFormsRow.domain false) (Rows.descFormsSpec.post enc Try.prog Try.f3 false true false false) := by
  refine returnsInHanded_of_change_sized (C := Try.checked) own started (by kernel_rfl) Try.func3
    (ChangeSpec.witness6 (enc := enc) (C := Try.checked) false ⟨#[], #[.int .i64 0, .int .i64 0], []⟩ 8 (by kernel_rfl) (by kernel_rfl) (by kernel_rfl) (by kernel_rfl)) ?_
  intro W base args ds gs before hval0 hW hcnd hsz0 _
  have hsz : (DataW.weightsEach Try.prog (Try.f3.params.toList ++ Rows.descFormsSpec.plain.varTypes Try.prog) (ds ++ gs)).all (· ≤ reachBytes) = true := hsz0
  have hval : ∀ (j : Nat) t v, Try.f3.params[j]? = some t → args[j]? = some v → Value.okWide Try.prog W .any 0 t v := fun j t v h1 h2 => hval0 j t v h1 h2
  have hW' := hW
  obtain ⟨p, q, hA0, hV, rfl, hfz, hnd⟩ := hW
  have hA : DataW.TrodAll enc Try.prog W 0 (fun _ => true) true Try.f3.params.toList args.toList ds p := hA0
  have hA1 := hA
  rw [Try.params3] at hA hval hsz
  obtain ⟨v0, vs0, d0, ds0, p0, q0, hargs, rfl, rfl, h0, r0⟩ := trodAll_cons hA
  obtain ⟨v1, vs1, d1, ds1, p1, q1, rfl, rfl, rfl, h1, r1⟩ := trodAll_cons r0
  obtain ⟨rfl, rfl, rfl⟩ := trodAll_nil r1
  obtain rfl : args = #[v0, v1] := by cases args; simp_all
  obtain ⟨rfl, rfl⟩ := trodVars_none hV
  obtain ⟨a0, b0, x0⟩ := open_i (by kernel_rfl) (hval 0 _ v0 rfl rfl) h0
  obtain ⟨a1, b1, x1⟩ := open_i (by kernel_rfl) (hval 1 _ v1 rfl rfl) h1
  refine ((D1.descForms_q a0 b0 a1 b1).law (W := W) (ys := #[v0, v1]) (pls := []) rfl (by simp [Blk.isOwn]) (fun i b hb => by
      match i with
      | i + 0 => simp at hb) (by
      simp only [VRs]
      exact ⟨_, _, rfl, x0 _, _, _, rfl, x1 _, rfl⟩)).mono fun e W' ⟨he, bel⟩ => ?_
  subst he
  exact ⟨_, rfl, _, _, _, [], _, [], hW', trodAll_mk1 (shut_bool (by kernel_rfl) _), Ideal.again (by kernel_rfl) (by kernel_rfl) (by kernel_rfl) (by kernel_rfl) hA1 bel, rfl, bel.frame _, fun h => by cases h⟩
theorem over : Rows.descFormsRow.holds Try.pinned (OpenSpec.ofChange Rows.descFormsSpec) :=
  OpenClaim.holds_of_wide 3 Try.f3 rfl rfl rfl rfl rfl rfl rfl ⟨rfl, rfl, rfl, rfl, rfl⟩ rfl rfl rfl rfl rfl (by kernel_rfl) Try.func3 (by kernel_rfl)
    (of_decide_eq_true (by kernel_rfl)) (by unfold Func.isWrapper; first | (rw [if_pos (by decide +kernel)]; kernel_rfl) | (rw [if_neg (by decide +kernel)]; exact ⟨rfl, rfl⟩))
    (fun os started H enc _ => lifted os started H enc)
theorem proved : Rows.DescFormsSaid := over
#print axioms proved
end Go.Proofs.Ytbcadmnkilckbaa.descForms
namespace Go.Proofs.Ytbcadmnkilckbaa
/-- The row, under a short name, for the claim. -/
theorem descForms_holds : Rows.DescFormsSaid := descForms.proved
end Go.Proofs.Ytbcadmnkilckbaa
