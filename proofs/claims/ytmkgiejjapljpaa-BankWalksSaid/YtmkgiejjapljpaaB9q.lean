/- Chapter 5: BankWalks, put together. Own text. -/
import Derived.Test.YtmkgiejjapljpaaB9
import Derived.Test.YtmkgiejjapljpaaI26
namespace Go.Ideal.B1
open Go.Proofs Go.Ideal Go.Ideal.L1
set_option linter.unusedSimpArgs false
set_option linter.unusedVariables false
set_option maxRecDepth 100000
set_option maxHeartbeats 8000000

theorem bwF_ok (v : Int) (g : Nat → Int) (i : Nat) (hg : ∀ j, j < 4 → -1 ≤ g j ∧ g j ≤ 32 * (i : Int)) : ∀ j, j < 4 → -1 ≤ bwF v g j ∧ bwF v g j ≤ 32 * ((i + 1 : Nat) : Int) := by
  intro j hj
  have hA : 0 ≤ v % 4 ∧ v % 4 < 4 := by omega
  have hB : 0 ≤ v / 4 % 4 ∧ v / 4 % 4 < 4 := by omega
  have hX : 0 ≤ v / 16 % 32 ∧ v / 16 % 32 < 32 := by omega
  unfold bwF
  generalize (v / 512 % 1024).tmod 6 = K
  generalize v % 4 = A at *
  generalize v / 4 % 4 = B at *
  generalize v / 16 % 32 = X at *
  have gj := hg j hj
  by_cases h1 : j = A.toNat
  · subst h1
    simp only [wNow, wCode, if_true, eq_self_iff_true]
    (repeat' split) <;> omega
  · simp only [wNow, wCode, if_neg h1]
    (repeat' split) <;> omega
theorem bankWalks_q (f : Nat → Int) (n : Nat) (_ : ∀ i, i < n * 1 → -9223372036854775808 ≤ f i ∧ f i ≤ 9223372036854775807) (hn : n ≤ maxLen) :
    CallQ Try.prog 10 [.slice 0 (.c 0) (.s n) 1 (.s n)] (Hx [.ext f (.s (n * 1))]) (fun v _ => isT v) := by
  have hn' : n ≤ 9223372036854775807 := hn
  exact CallQ.loop1 (n := 6000) specD_ok mixed (fun b : Nat × (Nat → Int) => bwT n b.1) (fun b => bwB f n b.2) 2 [0, 1] (fun b => 50 - b.1) (fun b => b.1 ≤ 50 ∧ ∀ j, j < 4 → -1 ≤ b.2 j ∧ b.2 j ≤ 32 * (b.1 : Int))
    (fun b => (b.1 + 1, bwF (f b.1) b.2)) (fun b => b.1 < n ∧ b.1 < 50) 0 (fun b => bwT n b.1) (fun b => bwB f n b.2) (fun _ => True) (by kernel_rfl) (by kernel_rfl)
    (0, fun _ => -1) ⟨by simp, fun j _ => by simp⟩ (bw_go f n) (fun b hb => bw_body f n b.1 b.2 hn' hb.1 hb.2)
    (fun b hb hc => ⟨⟨by have h : b.1 < n ∧ b.1 < 50 := hc; show b.1 + 1 ≤ 50; omega, bwF_ok (f b.1) b.2 b.1 hb.2⟩, by have h : b.1 < n ∧ b.1 < 50 := hc; show 50 - (b.1 + 1) < 50 - b.1; omega⟩) (fun b _ _ => bw_end f n b.1 b.2)
end Go.Ideal.B1
