/- Chapter 6: SkipRaw, put together. Own text. -/
import Derived.Test.YtpmgdkldhimofaaK9
import Derived.Test.YtpmgdkldhimofaaI26
namespace Go.Ideal.K6
open Go.Proofs Go.Ideal Go.Ideal.L1
set_option linter.unusedSimpArgs false
set_option linter.unusedVariables false
set_option maxRecDepth 100000
set_option maxHeartbeats 8000000

theorem srMay_A {zs : List Int} {k a b x : Int} (h : skMay zs k a b x = true) : 0 ≤ a ∧ a < 5 := by
  obtain ⟨_, ho, hA, hk⟩ := skMay_of h
  refine ⟨hA, ?_⟩
  rcases hk with rfl | rfl | rfl | rfl | rfl <;> simp [B1.opMay] at ho <;> omega
theorem nw_zsR (g : Nat → Int) (j : Nat) (hj : j < 16) : nw (zsR g) (j : Int) = g j := by
  rcases (by omega : j = 0 ∨ j = 1 ∨ j = 2 ∨ j = 3 ∨ j = 4 ∨ j = 5 ∨ j = 6 ∨ j = 7 ∨ j = 8 ∨ j = 9 ∨ j = 10 ∨ j = 11 ∨ j = 12 ∨ j = 13 ∨ j = 14 ∨ j = 15) with rfl | rfl | rfl | rfl | rfl | rfl | rfl | rfl | rfl | rfl | rfl | rfl | rfl | rfl | rfl | rfl <;> rfl
theorem skipRaw_q (f : Nat → Int) (n : Nat) (_ : ∀ i, i < n * 1 → -9223372036854775808 ≤ f i ∧ f i ≤ 9223372036854775807) (hn : n ≤ maxLen) (gi : Nat → Int) (gb : Nat → Bool) (gs : Nat → ByteArray) (_ : ∀ i, (List.replicate 4 Lf.i)[i]? = some .i → -9223372036854775808 ≤ gi i ∧ gi i ≤ 9223372036854775807) :
    CallQ Try.prog 6 [.slice 0 (.c 0) (.s n) 1 (.s n), .agg (lfV gi gb gs 0 (List.replicate 4 .i))] (Hx [.ext f (.s (n * 1))]) (fun v _ => isT v) := by
  have hn' : n ≤ 9223372036854775807 := hn
  exact CallQ.loop1 (n := 6000) specs_ok mixed (fun c : Nat × (Nat → Int) => srT n c.1) (fun c => srB f n (gi 0) (gi 1) (gi 2) (gi 3) c.2) 5 [0, 1, 2, 3, 4] (fun c => 16 - c.1) (fun c => c.1 ≤ 16)
    (fun c => (c.1 + 1, srF (f c.1) c.1 c.2)) (fun c => c.1 < n ∧ c.1 < 16) 0 (fun c => srT n c.1) (fun c => srB f n (gi 0) (gi 1) (gi 2) (gi 3) c.2) (fun _ => True) (by kernel_rfl) (by kernel_rfl)
    (0, fun _ => 0) (Nat.zero_le _) (sr_go f n (gi 0) (gi 1) (gi 2) (gi 3)) (fun c hc => sr_body f n c.1 (gi 0) (gi 1) (gi 2) (gi 3) c.2 hn' hc)
    (fun c hc h => ⟨by have h : c.1 < n ∧ c.1 < 16 := h; show c.1 + 1 ≤ 16; omega, by have h : c.1 < n ∧ c.1 < 16 := h; show 16 - (c.1 + 1) < 16 - c.1; omega⟩)
    (fun c _ _ => sr_end f n c.1 (gi 0) (gi 1) (gi 2) (gi 3) c.2 (fun h => skN_all _ _ _ _ _ (srMay_A h)) (fun h => skNum_b _ _ _ _ (srMay_A h))
      (fun h j hj => by rw [skC_low _ _ _ _ _ _ rfl (srMay_A h).1 (by omega)]; exact nw_zsR _ j (by omega)) (fun h hc j hj => by rw [skC_same _ _ _ _ _ _ hc]; exact nw_zsR _ j hj))
end Go.Ideal.K6
