/- DescRows is proved: every call of the law answers true, and leaves the memory that was there. Conditions: none beyond the statement's. -/
import Derived.Test.YtbcadmnkilckbaaRows
import Derived.Test.YtbcadmnkilckbaaD2q
import Derived.Test.YtbcadmnkilckbaaI26
import Derived.WalkKit
import Derived.ProofKit
import Derived.OpenShut
import Derived.ShutString
import Derived.ChangeOld
import Derived.Below
import Derived.SizedLaws
namespace Go.Proofs.Ytbcadmnkilckbaa.descRows
open Go.ChangeShapes Go.WideShapes Go.ChangeAt Go.RowKit Go.Ideal
set_option linter.unusedVariables false
set_option maxHeartbeats 4000000
theorem own : ownKnob Try.prog.godebug = none := by kernel_rfl
set_option maxRecDepth 100000 in
theorem lifted (os : Os) (started : os.Started) (H : Type) (enc : TypeId × Value → H) :
    ReturnsInHanded {} Try.checked os 5 .any (Rows.descRowsSpec.pre6 enc Try.prog Try.f5 Rows.descRowsRow.domain false) (Rows.descRowsSpec.post enc Try.prog Try.f5 false true false false) := by
  refine returnsInHanded_of_change_sized (C := Try.checked) own started (by kernel_rfl) Try.func5
    (ChangeSpec.witness6 (enc := enc) (C := Try.checked) false ⟨#[], #[.agg ((List.replicate 16 Go.Ideal.Lf.b ++ List.replicate 32 Go.Ideal.Lf.i).map (fun l => match l with | .i => .int .i64 0 | .b => .bool false | .s => .string ByteArray.empty)).toArray], []⟩ 8 (by kernel_rfl) (by kernel_rfl) (by kernel_rfl) (by kernel_rfl)) ?_
  intro W base args ds gs before hval0 hW hcnd hsz0 _
  have hsz : (DataW.weightsEach Try.prog (Try.f5.params.toList ++ Rows.descRowsSpec.plain.varTypes Try.prog) (ds ++ gs)).all (· ≤ reachBytes) = true := hsz0
  have hval : ∀ (j : Nat) t v, Try.f5.params[j]? = some t → args[j]? = some v → Value.okWide Try.prog W .any 0 t v := fun j t v h1 h2 => hval0 j t v h1 h2
  have hW' := hW
  obtain ⟨p, q, hA0, hV, rfl, hfz, hnd⟩ := hW
  have hA : DataW.TrodAll enc Try.prog W 0 (fun _ => true) true Try.f5.params.toList args.toList ds p := hA0
  have hA1 := hA
  rw [Try.params5] at hA hval hsz
  obtain ⟨v0, vs0, d0, ds0, p0, q0, hargs, rfl, rfl, h0, r0⟩ := trodAll_cons hA
  obtain ⟨rfl, rfl, rfl⟩ := trodAll_nil r0
  obtain rfl : args = #[v0] := by cases args; simp_all
  obtain ⟨rfl, rfl⟩ := trodVars_none hV
  obtain ⟨fi0, fb0, fs0, b0, x0⟩ := open_flat (n := 9) (ls := List.replicate 16 .b ++ List.replicate 32 .i) (by kernel_rfl) (by kernel_rfl) (hval 0 _ v0 rfl rfl) h0
  refine ((D2.descRows_q fi0 fb0 fs0 b0).law (W := W) (ys := #[v0]) (pls := []) rfl (by simp [Blk.isOwn]) (fun i b hb => by
      match i with
      | i + 0 => simp at hb) (by
      simp only [VRs]
      exact ⟨_, _, rfl, x0 _, rfl⟩)).mono fun e W' ⟨he, bel⟩ => ?_
  subst he
  exact ⟨_, rfl, _, _, _, [], _, [], hW', trodAll_mk1 (shut_bool (by kernel_rfl) _), Ideal.again (by kernel_rfl) (by kernel_rfl) (by kernel_rfl) (by kernel_rfl) hA1 bel, rfl, bel.frame _, fun h => by cases h⟩
theorem over : Rows.descRowsRow.holds Try.pinned (OpenSpec.ofChange Rows.descRowsSpec) :=
  OpenClaim.holds_of_wide 5 Try.f5 rfl rfl rfl rfl rfl rfl rfl ⟨rfl, rfl, rfl, rfl, rfl⟩ rfl rfl rfl rfl rfl (by kernel_rfl) Try.func5 (by kernel_rfl)
    (of_decide_eq_true (by kernel_rfl)) (by unfold Func.isWrapper; first | (rw [if_pos (by decide +kernel)]; kernel_rfl) | (rw [if_neg (by decide +kernel)]; exact ⟨rfl, rfl⟩))
    (fun os started H enc _ => lifted os started H enc)
theorem proved : Rows.DescRowsSaid := over
#print axioms proved
end Go.Proofs.Ytbcadmnkilckbaa.descRows
namespace Go.Proofs.Ytbcadmnkilckbaa
/-- The row, under a short name, for the claim. -/
theorem descRows_holds : Rows.DescRowsSaid := descRows.proved
end Go.Proofs.Ytbcadmnkilckbaa
