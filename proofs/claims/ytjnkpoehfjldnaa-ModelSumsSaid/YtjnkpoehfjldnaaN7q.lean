/- Chapter 8: ModelSums, put together. Own text. -/
import Derived.Test.YtjnkpoehfjldnaaN7
import Derived.Test.YtjnkpoehfjldnaaI26
namespace Go.Ideal.M2
open Go.Proofs Go.Ideal Go.Ideal.L1
set_option linter.unusedSimpArgs false
set_option linter.unusedVariables false
set_option maxRecDepth 100000
set_option maxHeartbeats 8000000

theorem ms_body (f : Nat → Int) (n i : Nat) (g : Nat → Int) (hn : n ≤ 9223372036854775807) (hi : i ≤ 40) (hg : gOk g) :
    ∃ hh, vcOf (runAt Try.prog specs noL 6000 4 [1,1,1,1,0,1,0,0] (Tr.ofPairs (msT n i (ssum g))) (Hm (msB f n g) 4) hh)
    (roundK 4 [0, 1, 2, 3] (msT n (i + 1) (ssum (msF (f i) g))) (msB f n (msF (f i) g)) (i < n ∧ i < 40) 0 (msT n i (ssum g)) (msB f n g) True) := by
  rcases (by omega : f i / 1024 % 4 = 0 ∨ f i / 1024 % 4 = 1 ∨ f i / 1024 % 4 = 2 ∨ f i / 1024 % 4 = 3) with h | h | h | h
  · exact ms_b0 f n i g hn hi hg h
  · exact ms_b1 f n i g hn hi hg h
  · exact ms_b2 f n i g hn hi hg h
  · exact ms_b3 f n i g hn hi hg h
theorem modelSums_q (f : Nat → Int) (n : Nat) (_ : ∀ i, i < n * 1 → -9223372036854775808 ≤ f i ∧ f i ≤ 9223372036854775807) (hn : n ≤ maxLen) :
    CallQ Try.prog 4 [.slice 0 (.c 0) (.s n) 1 (.s n)] (Hx [.ext f (.s (n * 1))]) (fun v _ => isT v) := by
  have hn' : n ≤ 9223372036854775807 := hn
  exact CallQ.loop1 (n := 6000) specs_ok mixed (fun b : Nat × (Nat → Int) => msT n b.1 (ssum b.2)) (fun b => msB f n b.2) 4 [0, 1, 2, 3] (fun b => 40 - b.1) (fun b => b.1 ≤ 40 ∧ gOk b.2)
    (fun b => (b.1 + 1, msF (f b.1) b.2)) (fun b => b.1 < n ∧ b.1 < 40) 0 (fun b => msT n b.1 (ssum b.2)) (fun b => msB f n b.2) (fun _ => True) (by kernel_rfl) (by kernel_rfl)
    (0, fun _ => -1) ⟨by simp, by simp [gOk, stB]⟩ (ms_go f n) (fun b hb => ms_body f n b.1 b.2 hn' hb.1 hb.2)
    (fun b hb hc => ⟨⟨by have h : b.1 < n ∧ b.1 < 40 := hc; show b.1 + 1 ≤ 40; omega, gOk_next hb.2 (f b.1)⟩, by have h : b.1 < n ∧ b.1 < 40 := hc; show 40 - (b.1 + 1) < 40 - b.1; omega⟩) (fun b _ _ => ms_end f n b.1 b.2)
end Go.Ideal.M2
