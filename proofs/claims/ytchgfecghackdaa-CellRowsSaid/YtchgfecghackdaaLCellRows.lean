/- CellRows is proved: every call of the law answers true, and leaves the memory that was there. Conditions: none beyond the statement's. -/
import Derived.Test.YtchgfecghackdaaRows
import Derived.Test.YtchgfecghackdaaC4rows
import Derived.WalkKit
import Derived.ProofKit
import Derived.OpenShut
import Derived.ShutString
import Derived.ChangeOld
import Derived.Below
import Derived.SizedLaws
namespace Go.Ideal.C4
open Go.Proofs Go.Ideal

theorem done_of {P : Program} {v : V} {f : FuncId} {ys : Array Value} {W : World} (hv : v = .bool (.c true)) (h : Calls P f ys W fun e W' => ∃ y r', e = .returned y ∧ VR r' v y ∧ RowKit.Below W.heap.size W W') :
    Calls P f ys W fun e W' => e = .returned (.bool true) ∧ RowKit.Below W.heap.size W W' := h.mono fun e W' ⟨y, r', he, hy, hb⟩ => by
  subst hv
  simp only [VR, B.val] at hy
  exact ⟨by rw [he, hy], hb⟩

theorem cellRows (k key level : Int) (v : Value) (W : World) (hv : v = .slice none 0 0 ∨ ∃ (f : Nat → Int) (len : Nat) (pl : Pl), (∀ i, i < len → -9223372036854775808 ≤ f i ∧ f i ≤ 9223372036854775807) ∧ len ≤ maxLen ∧ BR ⟨fun _ => pl, fun _ => True, 0⟩ W pl (.ext f (.s len)) ∧
      ∀ (r : Rho) (i : Nat), r.ok i → r.pl i = pl → VR r (.slice i (.c 0) (.s len) 1 (.s len)) v) : Calls Try.prog 6 #[.int .i64 k, .int .i64 key, .int .i64 level, v] W fun e W' => e = .returned (.bool true) ∧ RowKit.Below W.heap.size W W' := by
  rcases hv with rfl | ⟨f, len, pl, _, _, hbr, hv⟩
  · obtain ⟨s', h⟩ := pathQ sp4b_ok noL_ok mixed (rows_nil k key level) (by simp [AllP])
    exact done_of rfl (h.callsX (pls := []) rfl (by simp) (by simp) (by simp [rowsArgs, VRs, VR, E.val]))
  · have hx := hv (rx [pl]) 0 (by simp [rx]) (by simp [rx])
    by_cases hl : len = 16
    · subst hl
      obtain ⟨s', h⟩ := rows_16 k key level f
      refine done_of rfl (h.callsX (pls := [pl]) rfl (by simp [Blk.isOwn]) (fun i b hb => ?_) ?_)
      · cases i with
        | zero =>
          simp only [List.getElem?_cons_zero, Option.some.injEq] at hb
          subst hb
          exact hbr
        | succ i => simp at hb
      · simp only [rowsArgs, rows16, VRs]
        refine ⟨_, _, rfl, by simp [VR, E.val], _, _, rfl, by simp [VR, E.val], _, _, rfl, by simp [VR, E.val], _, _, rfl, ?_, rfl⟩
        simp only [VR, N.val] at hx ⊢
        exact hx
    · obtain ⟨s', h⟩ := pathQ sp4b_ok noL_ok mixed (rows_len k key level f len) (by simp [AllP]; omega)
      refine done_of rfl (h.callsX (pls := [pl]) rfl (by simp [Blk.isOwn]) (fun i b hb => ?_) ?_)
      · cases i with
        | zero =>
          simp only [List.getElem?_cons_zero, Option.some.injEq] at hb
          subst hb
          exact hbr
        | succ i => simp at hb
      · simp only [rowsArgs, rowsN, VRs]
        exact ⟨_, _, rfl, by simp [VR, E.val], _, _, rfl, by simp [VR, E.val], _, _, rfl, by simp [VR, E.val], _, _, rfl, hx, rfl⟩
end Go.Ideal.C4
namespace Go.Proofs.Ytchgfecghackdaa.cellRows
open Go.ChangeShapes Go.WideShapes Go.ChangeAt Go.RowKit
open Go.ChangeMaps (open_string shut_string)
set_option linter.unusedVariables false
theorem own : ownKnob Try.prog.godebug = none := by kernel_rfl
set_option maxRecDepth 100000 in
theorem lifted (os : Os) (started : os.Started) (H : Type) (enc : TypeId × Value → H) :
    ReturnsInHanded {} Try.checked os 6 .any (Rows.cellRowsSpec.pre6 enc Try.prog Try.f6 Rows.cellRowsRow.domain false) (Rows.cellRowsSpec.post enc Try.prog Try.f6 false true false false) := by
  refine returnsInHanded_of_change_sized (C := Try.checked) own started (by kernel_rfl) Try.func6
    (ChangeSpec.witness6 (enc := enc) (C := Try.checked) false ⟨#[], #[.int .i64 0, .int .i64 0, .int .i64 0, .slice none 0 0], []⟩ 8 (by kernel_rfl) (by kernel_rfl) (by kernel_rfl) (by kernel_rfl)) ?_
  intro W base args ds gs before hval0 hW hcnd hsz0 _
  have hsz : (DataW.weightsEach Try.prog (Try.f6.params.toList ++ Rows.cellRowsSpec.plain.varTypes Try.prog) (ds ++ gs)).all (· ≤ reachBytes) = true := hsz0
  have hval : ∀ (j : Nat) t v, Try.f6.params[j]? = some t → args[j]? = some v → Value.okWide Try.prog W .any base t v := hval0
  have hW' := hW
  obtain ⟨p, q, hA0, hV, rfl, hfz, hnd⟩ := hW
  have hA : DataW.TrodAll enc Try.prog W 0 (fun _ => true) true Try.f6.params.toList args.toList ds p := hA0
  have hA1 := hA
  rw [Try.params6] at hA hval hsz
  obtain ⟨v0, vs0, d0, ds0, p0, q0, hargs, rfl, rfl, h0, r0⟩ := trodAll_cons hA
  obtain ⟨v1, vs1, d1, ds1, p1, q1, rfl, rfl, rfl, h1, r1⟩ := trodAll_cons r0
  obtain ⟨v2, vs2, d2, ds2, p2, q2, rfl, rfl, rfl, h2, r2⟩ := trodAll_cons r1
  obtain ⟨v3, vs3, d3, ds3, p3, q3, rfl, rfl, rfl, h3, r3⟩ := trodAll_cons r2
  obtain ⟨rfl, rfl, rfl⟩ := trodAll_nil r3
  obtain rfl : args = #[v0, v1, v2, v3] := by cases args; simp_all
  obtain ⟨rfl, rfl⟩ := trodVars_none hV
  obtain ⟨a0, rfl, _, _, w0⟩ := open_int Try.underlying3 (hval 0 3 v0 rfl rfl) h0
  obtain ⟨a1, rfl, _, _, w1⟩ := open_int Try.underlying3 (hval 1 3 v1 rfl rfl) h1
  obtain ⟨a2, rfl, _, _, w2⟩ := open_int Try.underlying3 (hval 2 3 v2 rfl rfl) h2
  have w3 := Ideal.open_row (t := 30) (e := 3) (by kernel_rfl) Try.underlying3 (by kernel_rfl) (hval 3 30 v3 rfl rfl) h3
  refine (Ideal.C4.cellRows a0 a1 a2 v3 W w3).mono fun e W' ⟨he, bel⟩ => ?_
  subst he
  exact ⟨_, rfl, _, _, _, [], _, [], hW', trodAll_mk1 (shut_bool Try.underlying4 _), Ideal.again (by kernel_rfl) (by kernel_rfl) (by kernel_rfl) (by kernel_rfl) hA1 bel, rfl, bel.frame _, fun h => by cases h⟩
theorem over : Rows.cellRowsRow.holds Try.pinned (OpenSpec.ofChange Rows.cellRowsSpec) :=
  OpenClaim.holds_of_wide 6 Try.f6 rfl rfl rfl rfl rfl rfl rfl ⟨rfl, rfl, rfl, rfl, rfl⟩ rfl rfl rfl rfl rfl (by kernel_rfl) Try.func6 (by kernel_rfl)
    (of_decide_eq_true (by kernel_rfl)) (by unfold Func.isWrapper; first | (rw [if_pos (by decide +kernel)]; kernel_rfl) | (rw [if_neg (by decide +kernel)]; exact ⟨rfl, rfl⟩))
    (fun os started H enc _ => lifted os started H enc)
theorem proved : Rows.CellRowsSaid := over
#print axioms proved
end Go.Proofs.Ytchgfecghackdaa.cellRows
namespace Go.Proofs.Ytchgfecghackdaa
/-- The row, under a short name, for the claim. -/
theorem cellRows_holds : Rows.CellRowsSaid := cellRows.proved
end Go.Proofs.Ytchgfecghackdaa
