/- Chapter 4: contracts of package cells, and CellApart. Own text. -/
import Derived.Test.YtchgfecghackdaaI18
import Derived.Test.YtchgfecghackdaaRows
import Derived.KernelRfl
namespace Go.Ideal.C4
open Go.Proofs Go.Ideal
set_option linter.unusedSimpArgs false
set_option linter.unusedVariables false
set_option maxRecDepth 100000

theorem mixed : Try.prog.follows .mixedOrders = true := by kernel_rfl

def below : Spec := sp 44 fun xs => match xs with
  | [.int .i64 a, .int .i64 b] => some (.bool (E.cmp (fun x y => decide (0 ≤ x) && decide (x < y)) a b))
  | _ => none

theorem below1 (a b : Int) : call Try.prog noSpec noL 100 44 [.int .i64 (.s a), .int .i64 (.s b)] ⟨H0, [true], []⟩ = some (.bool (.s (decide (a < b))), ⟨H0, [], [decide (a ≥ 0) = true]⟩) := by kernel_rfl
theorem below2 (a b : Int) : call Try.prog noSpec noL 100 44 [.int .i64 (.s a), .int .i64 (.s b)] ⟨H0, [false], []⟩ = some (.bool (.c false), ⟨H0, [], [decide (a ≥ 0) = false]⟩) := by kernel_rfl
theorem below0 (a b : Int) : CallOk Try.prog 44 [.int .i64 (.s a), .int .i64 (.s b)] (St H0) (.bool (.s (decide (0 ≤ a) && decide (a < b)))) (St H0) := by
  by_cases h : 0 ≤ a
  · exact (path noSpec_ok noL_ok mixed (below1 a b) ⟨by simpa using h, trivial⟩).to rfl rfl fun r y hy => by simpa [VR, B.val, h] using hy
  · exact (path noSpec_ok noL_ok mixed (below2 a b) ⟨by simpa using h, trivial⟩).to rfl rfl fun r y hy => by simpa [VR, B.val, h] using hy
theorem below_ok : SpecOk Try.prog below := sp_ok fun xs v h H hs hs' cs cs' => by
  split at h
  · rename_i a b
    simp only [Option.some.injEq] at h
    subst h
    exact (below0 a.val b.val).anyHp rfl rfl (fun r ys hy => by simpa only [VRs, VR, E.val] using hy) (fun r y hy => by simp only [VR, B.val] at hy; simp only [VR, E.cmp_val]; exact hy) H hs hs' cs cs'
  · simp at h

def accountV (k : Int) : Int := if 0 ≤ k ∧ k < 4 then k else 0
def accountE (k : Int) : Int := if 0 ≤ k ∧ k < 4 then 0 else 400
def account : Spec := sp 23 fun xs => match xs with
  | [.int .i64 a] => some (.tuple [.int .i64 (E.op1 accountV a), .int .i64 (E.op1 accountE a)])
  | _ => none
theorem account1 (a : Int) : call Try.prog below noL 100 23 [.int .i64 (.s a)] ⟨H0, [true], []⟩ = some (.tuple [.int .i64 (.c 0), .int .i64 (.c 400)], ⟨H0, [], [(!(decide (0 ≤ a) && decide (a < 4))) = true]⟩) := by kernel_rfl
theorem account2 (a : Int) : call Try.prog below noL 100 23 [.int .i64 (.s a)] ⟨H0, [false], []⟩ = some (.tuple [.int .i64 (.s a), .int .i64 (.c 0)], ⟨H0, [], [(!(decide (0 ≤ a) && decide (a < 4))) = false]⟩) := by kernel_rfl
theorem account0 (a : Int) : CallOk Try.prog 23 [.int .i64 (.s a)] (St H0) (.tuple [.int .i64 (.s (accountV a)), .int .i64 (.s (accountE a))]) (St H0) := by
  by_cases h : 0 ≤ a ∧ a < 4
  · exact (path below_ok noL_ok mixed (account2 a) ⟨by simp; omega, trivial⟩).to rfl rfl fun r y hy => by simpa [VR, VRs, E.val, accountV, accountE, h] using hy
  · exact (path below_ok noL_ok mixed (account1 a) ⟨by simp; omega, trivial⟩).to rfl rfl fun r y hy => by simpa [VR, VRs, E.val, accountV, accountE, h] using hy
theorem account_ok : SpecOk Try.prog account := sp_ok fun xs v h H hs hs' cs cs' => by
  split at h
  · rename_i a
    simp only [Option.some.injEq] at h
    subst h
    exact (account0 a.val).anyHp rfl rfl (fun r ys hy => by simpa only [VRs, VR, E.val] using hy) (fun r y hy => by simp only [VR, VRs, E.val] at hy; simp only [VR, VRs, E.op1_val]; exact hy) H hs hs' cs cs'
  · simp at h

def linkV (a b : Int) : Int := if -1 ≤ a ∧ a < 5 ∧ 0 ≤ b ∧ b < 2 then 4 + 2 * (a + 1) + b else 0
def linkE (a b : Int) : Int := if -1 ≤ a ∧ a < 5 ∧ 0 ≤ b ∧ b < 2 then 0 else 400
def link : Spec := sp 25 fun xs => match xs with
  | [.int .i64 a, .int .i64 b] => some (.tuple [.int .i64 (E.op2 linkV a b), .int .i64 (E.op2 linkE a b)])
  | _ => none
theorem link1 (a b : Int) : call Try.prog below noL 100 25 [.int .i64 (.s a), .int .i64 (.s b)] ⟨H0, [true], []⟩ = some (.tuple [.int .i64 (.c 0), .int .i64 (.c 400)], ⟨H0, [], [decide (a < -1) = true]⟩) := by kernel_rfl
theorem link2 (a b : Int) : call Try.prog below noL 100 25 [.int .i64 (.s a), .int .i64 (.s b)] ⟨H0, [false, true], []⟩ = some (.tuple [.int .i64 (.c 0), .int .i64 (.c 400)], ⟨H0, [], [decide (a ≥ 5) = true, decide (a < -1) = false]⟩) := by kernel_rfl
theorem link3 (a b : Int) : call Try.prog below noL 100 25 [.int .i64 (.s a), .int .i64 (.s b)] ⟨H0, [false, false, true], []⟩ = some (.tuple [.int .i64 (.c 0), .int .i64 (.c 400)], ⟨H0, [], [(!(decide (0 ≤ b) && decide (b < 2))) = true, decide (a ≥ 5) = false, decide (a < -1) = false]⟩) := by kernel_rfl
theorem link4 (a b : Int) : call Try.prog below noL 100 25 [.int .i64 (.s a), .int .i64 (.s b)] ⟨H0, [false, false, false], []⟩ = some (.tuple [.int .i64 (.s (IntKind.i64.wrap (IntKind.i64.wrap (4 + IntKind.i64.wrap (2 * IntKind.i64.wrap (a - -1))) + b))), .int .i64 (.c 0)], ⟨H0, [], [(!(decide (0 ≤ b) && decide (b < 2))) = false, decide (a ≥ 5) = false, decide (a < -1) = false]⟩) := by kernel_rfl
theorem link0 (a b : Int) : CallOk Try.prog 25 [.int .i64 (.s a), .int .i64 (.s b)] (St H0) (.tuple [.int .i64 (.s (linkV a b)), .int .i64 (.s (linkE a b))]) (St H0) := by
  by_cases h1 : a < -1
  · have h : ¬ (-1 ≤ a ∧ a < 5 ∧ 0 ≤ b ∧ b < 2) := by omega
    exact (path below_ok noL_ok mixed (link1 a b) ⟨by simpa using h1, trivial⟩).to rfl rfl fun r y hy => by simpa [VR, VRs, E.val, linkV, linkE, h] using hy
  by_cases h2 : a ≥ 5
  · have h : ¬ (-1 ≤ a ∧ a < 5 ∧ 0 ≤ b ∧ b < 2) := by omega
    exact (path below_ok noL_ok mixed (link2 a b) ⟨by simpa using h2, by simpa using h1, trivial⟩).to rfl rfl fun r y hy => by simpa [VR, VRs, E.val, linkV, linkE, h] using hy
  by_cases h3 : 0 ≤ b ∧ b < 2
  · have h : -1 ≤ a ∧ a < 5 ∧ 0 ≤ b ∧ b < 2 := by omega
    refine (path below_ok noL_ok mixed (link4 a b) ⟨by simpa using h3, by simpa using h2, by simpa using h1, trivial⟩).to rfl rfl fun r y hy => ?_
    have e : IntKind.i64.wrap (IntKind.i64.wrap (4 + IntKind.i64.wrap (2 * IntKind.i64.wrap (a - -1))) + b) = linkV a b := by
      rw [wrapk (a - -1) (by omega), wrapk (2 * (a - -1)) (by omega), wrapk (4 + 2 * (a - -1)) (by omega), wrapk _ (by omega)]
      simp only [linkV, if_pos h]; omega
    rw [e] at hy
    simpa [VR, VRs, E.val, linkE, h] using hy
  · have h : ¬ (-1 ≤ a ∧ a < 5 ∧ 0 ≤ b ∧ b < 2) := by omega
    exact (path below_ok noL_ok mixed (link3 a b) ⟨by simp; omega, by simpa using h2, by simpa using h1, trivial⟩).to rfl rfl fun r y hy => by simpa [VR, VRs, E.val, linkV, linkE, h] using hy
theorem link_ok : SpecOk Try.prog link := sp_ok fun xs v h H hs hs' cs cs' => by
  split at h
  · rename_i a b
    simp only [Option.some.injEq] at h
    subst h
    exact (link0 a.val b.val).anyHp rfl rfl (fun r ys hy => by simpa only [VRs, VR, E.val] using hy) (fun r y hy => by simp only [VR, VRs, E.val] at hy; simp only [VR, VRs, E.op2_val]; exact hy) H hs hs' cs cs'
  · simp at h

def awake : Spec := sp 29 fun xs => match xs with
  | [] => some (.bool (.c true))
  | _ => none
theorem awake1 : (call Try.prog (orS below (orS account link)) noL 3000 29 [] ⟨H0, [], []⟩).map (fun p => (p.1, p.2.cs)) = some (.bool (.c true), []) := by kernel_rfl
theorem awake_ok : SpecOk Try.prog awake := sp_ok fun xs v h H hs hs' cs cs' => by
  split at h
  · simp only [Option.some.injEq] at h
    subst h
    obtain ⟨s', h⟩ := pathQ (orS_ok below_ok (orS_ok account_ok link_ok)) noL_ok mixed awake1 trivial
    exact (h.forget rfl).anyHp rfl rfl (fun r ys hy => hy) (fun r y hy => hy) H hs hs' cs cs'
  · simp at h

def sp4 : Spec := orS below (orS account (orS link awake))
theorem sp4_ok : SpecOk Try.prog sp4 := orS_ok below_ok (orS_ok account_ok (orS_ok link_ok awake_ok))

/-! ### CellApart -/

theorem and1023 (a : Int) : bits .and .i64 a 1023 = a % 1024 := and_mask a 10 (by decide)

theorem apart1 (a : Int) : (call Try.prog sp4 noL 3000 7 [.int .i64 (.s a)] ⟨H0, [true, true, true, true], []⟩).map (fun p => (p.1, p.2.cs)) =
    some (.bool (.s (linkE 0 (IntKind.i64.wrap (0 - IntKind.i64.wrap (1 + bits .and .i64 a 1023))) == 400)),
      [(linkE 0 (IntKind.i64.wrap (1 + IntKind.i64.wrap (1 + bits .and .i64 a 1023))) == 400) = true,
       (linkE (IntKind.i64.wrap (-1 - IntKind.i64.wrap (1 + bits .and .i64 a 1023))) 0 == 400) = true,
       (accountE (IntKind.i64.wrap (0 - IntKind.i64.wrap (1 + bits .and .i64 a 1023))) == 400) = true,
       (accountE (IntKind.i64.wrap (3 + IntKind.i64.wrap (1 + bits .and .i64 a 1023))) == 400) = true]) := by kernel_rfl

theorem cellApart (a : Int) (W : World) : Calls Try.prog 7 #[.int .i64 a] W fun e W' => e = .returned (.bool true) ∧ RowKit.Below W.heap.size W W' := by
  have h0 : 0 ≤ a % 1024 := Int.emod_nonneg _ (by decide)
  have h1 : a % 1024 < 1024 := Int.emod_lt_of_pos _ (by decide)
  have e1 : IntKind.i64.wrap (1 + a % 1024) = 1 + a % 1024 := wrapk _ (by omega)
  have h := apart1 a
  rw [and1023, e1, wrapk (0 - (1 + a % 1024)) (by omega), wrapk (1 + (1 + a % 1024)) (by omega), wrapk (-1 - (1 + a % 1024)) (by omega), wrapk (3 + (1 + a % 1024)) (by omega)] at h
  have l1 : linkE 0 (0 - (1 + a % 1024)) = 400 := if_neg (by omega)
  have l2 : linkE 0 (1 + (1 + a % 1024)) = 400 := if_neg (by omega)
  have l3 : linkE (-1 - (1 + a % 1024)) 0 = 400 := if_neg (by omega)
  have l4 : accountE (0 - (1 + a % 1024)) = 400 := if_neg (by omega)
  have l5 : accountE (3 + (1 + a % 1024)) = 400 := if_neg (by omega)
  rw [l1, l2, l3, l4, l5] at h
  obtain ⟨s', hc⟩ := pathQ sp4_ok noL_ok mixed h ⟨rfl, rfl, rfl, rfl, trivial⟩
  refine (hc.calls (W := W) (ys := #[.int .i64 a]) fun r => by simp [VRs, VR, E.val]).mono ?_
  rintro e W' ⟨y, r', rfl, hv, hb⟩
  simp only [VR, B.val] at hv
  subst hv
  exact ⟨rfl, hb⟩

end Go.Ideal.C4
