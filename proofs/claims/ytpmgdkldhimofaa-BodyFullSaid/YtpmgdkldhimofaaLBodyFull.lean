/- BodyFull is proved: every call of the law answers true, and leaves the memory that was there. Conditions: none beyond the statement's. -/
import Derived.Test.YtpmgdkldhimofaaRows
import Derived.Test.YtpmgdkldhimofaaZF
import Derived.Test.YtpmgdkldhimofaaI26
import Derived.WalkKit
import Derived.ProofKit
import Derived.OpenShut
import Derived.ShutString
import Derived.ChangeOld
import Derived.Below
import Derived.SizedLaws
namespace Go.Proofs.Ytpmgdkldhimofaa.bodyFull
open Go.ChangeShapes Go.WideShapes Go.ChangeAt Go.RowKit Go.Ideal
set_option linter.unusedVariables false
set_option maxHeartbeats 4000000
theorem own : ownKnob Try.prog.godebug = none := by kernel_rfl
set_option maxRecDepth 100000 in
theorem lifted (os : Os) (started : os.Started) (H : Type) (enc : TypeId × Value → H) :
    ReturnsInHanded {} Try.checked os 12 .any (Rows.bodyFullSpec.pre6 enc Try.prog Try.f12 Rows.bodyFullRow.domain false) (Rows.bodyFullSpec.post enc Try.prog Try.f12 false true false false) := by
  refine returnsInHanded_of_change_sized (C := Try.checked) own started (by kernel_rfl) Try.func12
    (ChangeSpec.witness6 (enc := enc) (C := Try.checked) false ⟨#[], #[.slice none 0 0, .slice none 0 0, .int .i64 0], []⟩ 8 (by kernel_rfl) (by kernel_rfl) (by kernel_rfl) (by kernel_rfl)) ?_
  intro W base args ds gs before hval0 hW hcnd hsz0 _
  have hsz : (DataW.weightsEach Try.prog (Try.f12.params.toList ++ Rows.bodyFullSpec.plain.varTypes Try.prog) (ds ++ gs)).all (· ≤ reachBytes) = true := hsz0
  have hval : ∀ (j : Nat) t v, Try.f12.params[j]? = some t → args[j]? = some v → Value.okWide Try.prog W .any 0 t v := fun j t v h1 h2 => hval0 j t v h1 h2
  have hW' := hW
  obtain ⟨p, q, hA0, hV, rfl, hfz, hnd⟩ := hW
  have hA : DataW.TrodAll enc Try.prog W 0 (fun _ => true) true Try.f12.params.toList args.toList ds p := hA0
  have hA1 := hA
  rw [Try.params12] at hA hval hsz
  obtain ⟨v0, vs0, d0, ds0, p0, q0, hargs, rfl, rfl, h0, r0⟩ := trodAll_cons hA
  obtain ⟨v1, vs1, d1, ds1, p1, q1, rfl, rfl, rfl, h1, r1⟩ := trodAll_cons r0
  obtain ⟨v2, vs2, d2, ds2, p2, q2, rfl, rfl, rfl, h2, r2⟩ := trodAll_cons r1
  obtain ⟨rfl, rfl, rfl⟩ := trodAll_nil r2
  obtain rfl : args = #[v0, v1, v2] := by cases args; simp_all
  obtain ⟨rfl, rfl⟩ := trodVars_none hV
  obtain ⟨f0, l0, pl0, b0, m0, br0, x0⟩ := open_rowsE (n := 9) 1 (by kernel_rfl) (by kernel_rfl) (by kernel_rfl) (by decide) (hval 0 _ v0 rfl rfl) h0
  obtain ⟨f1, l1, pl1, b1, m1, br1, x1⟩ := open_rowsE (n := 9) 4 (by kernel_rfl) (by kernel_rfl) (by kernel_rfl) (by decide) (hval 1 _ v1 rfl rfl) h1
  obtain ⟨a2, b2, x2⟩ := open_i (by kernel_rfl) (hval 2 _ v2 rfl rfl) h2
  refine ((Zf.bodyFull_q f0 l0 b0 m0 f1 l1 b1 m1 a2 b2).law (W := W) (ys := #[v0, v1, v2]) (pls := [pl0, pl1]) rfl (by simp [Blk.isOwn]) (fun i b hb => by
      match i with
      | 0 => simp only [List.getElem?_cons_succ, List.getElem?_cons_zero, Option.some.injEq] at hb; subst hb; exact br0 _
      | 1 => simp only [List.getElem?_cons_succ, List.getElem?_cons_zero, Option.some.injEq] at hb; subst hb; exact br1 _
      | i + 2 => simp at hb) (by
      simp only [VRs]
      exact ⟨_, _, rfl, x0 _ 0 (by simp [rx]) (by simp [rx]), _, _, rfl, x1 _ 1 (by simp [rx]) (by simp [rx]), _, _, rfl, x2 _, rfl⟩)).mono fun e W' ⟨he, bel⟩ => ?_
  subst he
  exact ⟨_, rfl, _, _, _, [], _, [], hW', trodAll_mk1 (shut_bool (by kernel_rfl) _), Ideal.again (by kernel_rfl) (by kernel_rfl) (by kernel_rfl) (by kernel_rfl) hA1 bel, rfl, bel.frame _, fun h => by cases h⟩
theorem over : Rows.bodyFullRow.holds Try.pinned (OpenSpec.ofChange Rows.bodyFullSpec) :=
  OpenClaim.holds_of_wide 12 Try.f12 rfl rfl rfl rfl rfl rfl rfl ⟨rfl, rfl, rfl, rfl, rfl⟩ rfl rfl rfl rfl rfl (by kernel_rfl) Try.func12 (by kernel_rfl)
    (of_decide_eq_true (by kernel_rfl)) (by unfold Func.isWrapper; first | (rw [if_pos (by decide +kernel)]; kernel_rfl) | (rw [if_neg (by decide +kernel)]; exact ⟨rfl, rfl⟩))
    (fun os started H enc _ => lifted os started H enc)
theorem proved : Rows.BodyFullSaid := over
#print axioms proved
end Go.Proofs.Ytpmgdkldhimofaa.bodyFull
namespace Go.Proofs.Ytpmgdkldhimofaa
/-- The row, under a short name, for the claim. -/
theorem bodyFull_holds : Rows.BodyFullSaid := bodyFull.proved
end Go.Proofs.Ytpmgdkldhimofaa
