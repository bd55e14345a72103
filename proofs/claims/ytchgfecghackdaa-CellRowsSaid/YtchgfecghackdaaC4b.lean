/- Chapter 4: contracts of the reference's cells. Own text. -/
import Derived.Test.YtchgfecghackdaaC4
namespace Go.Ideal.C4
open Go.Proofs Go.Ideal
set_option linter.unusedSimpArgs false
set_option linter.unusedVariables false
set_option maxRecDepth 100000

def refAccount : Spec := sp 24 fun xs => match xs with
  | [.int .i64 a] => some (.tuple [.int .i64 (E.op1 accountV a), .int .i64 (E.op1 accountE a)])
  | _ => none
theorem refAccount1 (a : Int) : call Try.prog noSpec noL 100 24 [.int .i64 (.s a)] ⟨H0, [true], []⟩ = some (.tuple [.int .i64 (.c 0), .int .i64 (.c 400)], ⟨H0, [], [decide (a < 0) = true]⟩) := by kernel_rfl
theorem refAccount2 (a : Int) : call Try.prog noSpec noL 100 24 [.int .i64 (.s a)] ⟨H0, [false, true], []⟩ = some (.tuple [.int .i64 (.c 0), .int .i64 (.c 400)], ⟨H0, [], [decide (a ≥ 4) = true, decide (a < 0) = false]⟩) := by kernel_rfl
theorem refAccount3 (a : Int) : call Try.prog noSpec noL 100 24 [.int .i64 (.s a)] ⟨H0, [false, false], []⟩ = some (.tuple [.int .i64 (.s a), .int .i64 (.c 0)], ⟨H0, [], [decide (a ≥ 4) = false, decide (a < 0) = false]⟩) := by kernel_rfl
theorem refAccount0 (a : Int) : CallOk Try.prog 24 [.int .i64 (.s a)] (St H0) (.tuple [.int .i64 (.s (accountV a)), .int .i64 (.s (accountE a))]) (St H0) := by
  by_cases h1 : a < 0
  · have h : ¬ (0 ≤ a ∧ a < 4) := by omega
    exact (path noSpec_ok noL_ok mixed (refAccount1 a) ⟨by simpa using h1, trivial⟩).to rfl rfl fun r y hy => by simpa [VR, VRs, E.val, accountV, accountE, h] using hy
  by_cases h2 : a ≥ 4
  · have h : ¬ (0 ≤ a ∧ a < 4) := by omega
    exact (path noSpec_ok noL_ok mixed (refAccount2 a) ⟨by simpa using h2, by simpa using h1, trivial⟩).to rfl rfl fun r y hy => by simpa [VR, VRs, E.val, accountV, accountE, h] using hy
  · have h : 0 ≤ a ∧ a < 4 := by omega
    exact (path noSpec_ok noL_ok mixed (refAccount3 a) ⟨by simpa using h2, by simpa using h1, trivial⟩).to rfl rfl fun r y hy => by simpa [VR, VRs, E.val, accountV, accountE, h] using hy
theorem refAccount_ok : SpecOk Try.prog refAccount := sp_ok fun xs v h H hs hs' cs cs' => by
  split at h
  · rename_i a
    simp only [Option.some.injEq] at h
    subst h
    exact (refAccount0 a.val).anyHp rfl rfl (fun r ys hy => by simpa only [VRs, VR, E.val] using hy) (fun r y hy => by simp only [VR, VRs, E.val] at hy; simp only [VR, VRs, E.op1_val]; exact hy) H hs hs' cs cs'
  · simp at h

def refLink : Spec := sp 26 fun xs => match xs with
  | [.int .i64 a, .int .i64 b] => some (.tuple [.int .i64 (E.op2 linkV a b), .int .i64 (E.op2 linkE a b)])
  | _ => none
theorem refLink1 (a b : Int) : call Try.prog noSpec noL 100 26 [.int .i64 (.s a), .int .i64 (.s b)] ⟨H0, [true], []⟩ = some (.tuple [.int .i64 (.c 0), .int .i64 (.c 400)], ⟨H0, [], [decide (a < -1) = true]⟩) := by kernel_rfl
theorem refLink2 (a b : Int) : call Try.prog noSpec noL 100 26 [.int .i64 (.s a), .int .i64 (.s b)] ⟨H0, [false, true], []⟩ = some (.tuple [.int .i64 (.c 0), .int .i64 (.c 400)], ⟨H0, [], [decide (a ≥ 5) = true, decide (a < -1) = false]⟩) := by kernel_rfl
theorem refLink3 (a b : Int) : call Try.prog noSpec noL 100 26 [.int .i64 (.s a), .int .i64 (.s b)] ⟨H0, [false, false, true], []⟩ = some (.tuple [.int .i64 (.c 0), .int .i64 (.c 400)], ⟨H0, [], [decide (b < 0) = true, decide (a ≥ 5) = false, decide (a < -1) = false]⟩) := by kernel_rfl
theorem refLink4 (a b : Int) : call Try.prog noSpec noL 100 26 [.int .i64 (.s a), .int .i64 (.s b)] ⟨H0, [false, false, false, true], []⟩ = some (.tuple [.int .i64 (.c 0), .int .i64 (.c 400)], ⟨H0, [], [decide (b > 1) = true, decide (b < 0) = false, decide (a ≥ 5) = false, decide (a < -1) = false]⟩) := by kernel_rfl
theorem refLink5 (a b : Int) : call Try.prog noSpec noL 100 26 [.int .i64 (.s a), .int .i64 (.s b)] ⟨H0, [false, false, false, false, true], []⟩ = some (.tuple [.int .i64 (.s (IntKind.i64.wrap (4 + b))), .int .i64 (.c 0)], ⟨H0, [], [decide (a < 0) = true, decide (b > 1) = false, decide (b < 0) = false, decide (a ≥ 5) = false, decide (a < -1) = false]⟩) := by kernel_rfl
theorem refLink6 (a b : Int) : call Try.prog noSpec noL 100 26 [.int .i64 (.s a), .int .i64 (.s b)] ⟨H0, [false, false, false, false, false], []⟩ = some (.tuple [.int .i64 (.s (IntKind.i64.wrap (IntKind.i64.wrap (6 + IntKind.i64.wrap (2 * a)) + b))), .int .i64 (.c 0)], ⟨H0, [], [decide (a < 0) = false, decide (b > 1) = false, decide (b < 0) = false, decide (a ≥ 5) = false, decide (a < -1) = false]⟩) := by kernel_rfl
theorem refLink0 (a b : Int) : CallOk Try.prog 26 [.int .i64 (.s a), .int .i64 (.s b)] (St H0) (.tuple [.int .i64 (.s (linkV a b)), .int .i64 (.s (linkE a b))]) (St H0) := by
  by_cases h1 : a < -1
  · have h : ¬ (-1 ≤ a ∧ a < 5 ∧ 0 ≤ b ∧ b < 2) := by omega
    exact (path noSpec_ok noL_ok mixed (refLink1 a b) ⟨by simpa using h1, trivial⟩).to rfl rfl fun r y hy => by simpa [VR, VRs, E.val, linkV, linkE, h] using hy
  by_cases h2 : a ≥ 5
  · have h : ¬ (-1 ≤ a ∧ a < 5 ∧ 0 ≤ b ∧ b < 2) := by omega
    exact (path noSpec_ok noL_ok mixed (refLink2 a b) ⟨by simpa using h2, by simpa using h1, trivial⟩).to rfl rfl fun r y hy => by simpa [VR, VRs, E.val, linkV, linkE, h] using hy
  by_cases h3 : b < 0
  · have h : ¬ (-1 ≤ a ∧ a < 5 ∧ 0 ≤ b ∧ b < 2) := by omega
    exact (path noSpec_ok noL_ok mixed (refLink3 a b) ⟨by simpa using h3, by simpa using h2, by simpa using h1, trivial⟩).to rfl rfl fun r y hy => by simpa [VR, VRs, E.val, linkV, linkE, h] using hy
  by_cases h4 : b > 1
  · have h : ¬ (-1 ≤ a ∧ a < 5 ∧ 0 ≤ b ∧ b < 2) := by omega
    exact (path noSpec_ok noL_ok mixed (refLink4 a b) ⟨by simpa using h4, by simpa using h3, by simpa using h2, by simpa using h1, trivial⟩).to rfl rfl fun r y hy => by simpa [VR, VRs, E.val, linkV, linkE, h] using hy
  have h : -1 ≤ a ∧ a < 5 ∧ 0 ≤ b ∧ b < 2 := by omega
  by_cases h5 : a < 0
  · refine (path noSpec_ok noL_ok mixed (refLink5 a b) ⟨by simpa using h5, by simpa using h4, by simpa using h3, by simpa using h2, by simpa using h1, trivial⟩).to rfl rfl fun r y hy => ?_
    have e : IntKind.i64.wrap (4 + b) = linkV a b := by
      rw [wrapk _ (by omega)]
      simp only [linkV, if_pos h]; omega
    rw [e] at hy
    simpa [VR, VRs, E.val, linkE, h] using hy
  · refine (path noSpec_ok noL_ok mixed (refLink6 a b) ⟨by simpa using h5, by simpa using h4, by simpa using h3, by simpa using h2, by simpa using h1, trivial⟩).to rfl rfl fun r y hy => ?_
    have e : IntKind.i64.wrap (IntKind.i64.wrap (6 + IntKind.i64.wrap (2 * a)) + b) = linkV a b := by
      rw [wrapk (2 * a) (by omega), wrapk (6 + 2 * a) (by omega), wrapk _ (by omega)]
      simp only [linkV, if_pos h]; omega
    rw [e] at hy
    simpa [VR, VRs, E.val, linkE, h] using hy
theorem refLink_ok : SpecOk Try.prog refLink := sp_ok fun xs v h H hs hs' cs cs' => by
  split at h
  · rename_i a b
    simp only [Option.some.injEq] at h
    subst h
    exact (refLink0 a.val b.val).anyHp rfl rfl (fun r ys hy => by simpa only [VRs, VR, E.val] using hy) (fun r y hy => by simp only [VR, VRs, E.val] at hy; simp only [VR, VRs, E.op2_val]; exact hy) H hs hs' cs cs'
  · simp at h

def sp4b : Spec := orS sp4 (orS refAccount refLink)
theorem sp4b_ok : SpecOk Try.prog sp4b := orS_ok sp4_ok (orS_ok refAccount_ok refLink_ok)

end Go.Ideal.C4
