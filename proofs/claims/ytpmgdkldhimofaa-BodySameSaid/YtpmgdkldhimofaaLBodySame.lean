/- BodySame is proved: every call of the law answers true, and leaves the memory that was there. Conditions: none beyond the statement's. -/
import Derived.Test.YtpmgdkldhimofaaRows
import Derived.Test.YtpmgdkldhimofaaY2q
import Derived.Test.YtpmgdkldhimofaaI26
import Derived.WalkKit
import Derived.ProofKit
import Derived.OpenShut
import Derived.ShutString
import Derived.ChangeOld
import Derived.Below
import Derived.SizedLaws
namespace Go.Proofs.Ytpmgdkldhimofaa.bodySame
open Go.ChangeShapes Go.WideShapes Go.ChangeAt Go.RowKit Go.Ideal
set_option linter.unusedVariables false
set_option maxHeartbeats 4000000
theorem own : ownKnob Try.prog.godebug = none := by kernel_rfl
set_option maxRecDepth 100000 in
theorem lifted (os : Os) (started : os.Started) (H : Type) (enc : TypeId × Value → H) :
    ReturnsInHanded {} Try.checked os 11 .any (Rows.bodySameSpec.pre6 enc Try.prog Try.f11 Rows.bodySameRow.domain false) (Rows.bodySameSpec.post enc Try.prog Try.f11 false true false false) := by
  refine returnsInHanded_of_change_sized (C := Try.checked) own started (by kernel_rfl) Try.func11
    (ChangeSpec.witness6 (enc := enc) (C := Try.checked) false ⟨#[], #[.agg ((List.replicate 16 Go.Ideal.Lf.b ++ List.replicate 32 Go.Ideal.Lf.i).map (fun l => match l with | .i => .int .i64 0 | .b => .bool false | .s => .string ByteArray.empty)).toArray, .agg ((List.replicate 4 Go.Ideal.Lf.i).map (fun l => match l with | .i => .int .i64 0 | .b => .bool false | .s => .string ByteArray.empty)).toArray, .agg ((List.replicate 4 Go.Ideal.Lf.i).map (fun l => match l with | .i => .int .i64 0 | .b => .bool false | .s => .string ByteArray.empty)).toArray], []⟩ 8 (by kernel_rfl) (by kernel_rfl) (by kernel_rfl) (by kernel_rfl)) ?_
  intro W base args ds gs before hval0 hW hcnd hsz0 _
  have hsz : (DataW.weightsEach Try.prog (Try.f11.params.toList ++ Rows.bodySameSpec.plain.varTypes Try.prog) (ds ++ gs)).all (· ≤ reachBytes) = true := hsz0
  have hval : ∀ (j : Nat) t v, Try.f11.params[j]? = some t → args[j]? = some v → Value.okWide Try.prog W .any 0 t v := fun j t v h1 h2 => hval0 j t v h1 h2
  have hW' := hW
  obtain ⟨p, q, hA0, hV, rfl, hfz, hnd⟩ := hW
  have hA : DataW.TrodAll enc Try.prog W 0 (fun _ => true) true Try.f11.params.toList args.toList ds p := hA0
  have hA1 := hA
  rw [Try.params11] at hA hval hsz
  obtain ⟨v0, vs0, d0, ds0, p0, q0, hargs, rfl, rfl, h0, r0⟩ := trodAll_cons hA
  obtain ⟨v1, vs1, d1, ds1, p1, q1, rfl, rfl, rfl, h1, r1⟩ := trodAll_cons r0
  obtain ⟨v2, vs2, d2, ds2, p2, q2, rfl, rfl, rfl, h2, r2⟩ := trodAll_cons r1
  obtain ⟨rfl, rfl, rfl⟩ := trodAll_nil r2
  obtain rfl : args = #[v0, v1, v2] := by cases args; simp_all
  obtain ⟨rfl, rfl⟩ := trodVars_none hV
  obtain ⟨fi0, fb0, fs0, b0, x0⟩ := open_flat (n := 9) (ls := List.replicate 16 .b ++ List.replicate 32 .i) (by kernel_rfl) (by kernel_rfl) (hval 0 _ v0 rfl rfl) h0
  obtain ⟨fi1, fb1, fs1, b1, x1⟩ := open_flat (n := 9) (ls := List.replicate 4 .i) (by kernel_rfl) (by kernel_rfl) (hval 1 _ v1 rfl rfl) h1
  obtain ⟨fi2, fb2, fs2, b2, x2⟩ := open_flat (n := 9) (ls := List.replicate 4 .i) (by kernel_rfl) (by kernel_rfl) (hval 2 _ v2 rfl rfl) h2
  refine ((Y1.bodySame_q fi0 fb0 fs0 b0 fi1 fb1 fs1 b1 fi2 fb2 fs2 b2).law (W := W) (ys := #[v0, v1, v2]) (pls := []) rfl (by simp [Blk.isOwn]) (fun i b hb => by
      match i with
      | i + 0 => simp at hb) (by
      simp only [VRs]
      exact ⟨_, _, rfl, x0 _, _, _, rfl, x1 _, _, _, rfl, x2 _, rfl⟩)).mono fun e W' ⟨he, bel⟩ => ?_
  subst he
  exact ⟨_, rfl, _, _, _, [], _, [], hW', trodAll_mk1 (shut_bool (by kernel_rfl) _), Ideal.again (by kernel_rfl) (by kernel_rfl) (by kernel_rfl) (by kernel_rfl) hA1 bel, rfl, bel.frame _, fun h => by cases h⟩
theorem over : Rows.bodySameRow.holds Try.pinned (OpenSpec.ofChange Rows.bodySameSpec) :=
  OpenClaim.holds_of_wide 11 Try.f11 rfl rfl rfl rfl rfl rfl rfl ⟨rfl, rfl, rfl, rfl, rfl⟩ rfl rfl rfl rfl rfl (by kernel_rfl) Try.func11 (by kernel_rfl)
    (of_decide_eq_true (by kernel_rfl)) (by unfold Func.isWrapper; first | (rw [if_pos (by decide +kernel)]; kernel_rfl) | (rw [if_neg (by decide +kernel)]; exact ⟨rfl, rfl⟩))
    (fun os started H enc _ => lifted os started H enc)
theorem proved : Rows.BodySameSaid := over
#print axioms proved
end Go.Proofs.Ytpmgdkldhimofaa.bodySame
namespace Go.Proofs.Ytpmgdkldhimofaa
/-- The row, under a short name, for the claim. -/
theorem bodySame_holds : Rows.BodySameSaid := bodySame.proved
end Go.Proofs.Ytpmgdkldhimofaa
