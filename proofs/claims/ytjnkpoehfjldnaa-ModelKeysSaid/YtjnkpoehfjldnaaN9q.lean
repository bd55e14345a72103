/- Chapter 8: ModelKeys, put together. Own text. -/
import Derived.Test.YtjnkpoehfjldnaaN9
import Derived.Test.YtjnkpoehfjldnaaI26
namespace Go.Ideal.M2
open Go.Proofs Go.Ideal Go.Ideal.L1
set_option linter.unusedSimpArgs false
set_option linter.unusedVariables false
set_option maxRecDepth 100000
set_option maxHeartbeats 8000000

theorem modU5 (w : Int) : 0 ≤ IntKind.i64.wrap ((IntKind.u64.wrap w).tmod 5) ∧ IntKind.i64.wrap ((IntKind.u64.wrap w).tmod 5) < 5 := by
  have h : 0 ≤ IntKind.u64.wrap w := by simp [IntKind.wrap, IntKind.bits, IntKind.signed]; omega
  rw [Int.tmod_eq_emod_of_nonneg h]
  have h1 := Int.emod_nonneg (IntKind.u64.wrap w) (show (5 : Int) ≠ 0 by omega)
  have h2 := Int.emod_lt_of_pos (IntKind.u64.wrap w) (show (0 : Int) < 5 by omega)
  rw [wrapk _ (by omega)]
  omega
theorem dnLeast_ok (g : Nat → Bool) : dnLeast g 5 = -1 ∨ 0 ≤ dnLeast g 5 := by
  simp only [dnLeast]
  (repeat' split) <;> simp
def kD : Nat → E
  | 0 => .c 4
  | 1 => .c 3
  | 2 => .c 2
  | 3 => .c 1
  | 4 => .c 0
  | _ => .c (-1)
theorem modelKeys_q (f : Nat → Int) (n : Nat) (_ : ∀ i, i < n * 1 → -9223372036854775808 ≤ f i ∧ f i ≤ 9223372036854775807) (hn : n ≤ maxLen) (u : Int) (_ : -9223372036854775808 ≤ u ∧ u ≤ 9223372036854775807) (v : Int) (_ : -9223372036854775808 ≤ v ∧ v ≤ 9223372036854775807) :
    CallQ Try.prog 5 [.slice 0 (.c 0) (.s n) 1 (.s n), .int .i64 (.s u), .int .i64 (.s v)] (Hx [.ext f (.s (n * 1))]) (fun v _ => isT v) := by
  have hn' : n ≤ 9223372036854775807 := hn
  have hA := modU5 u
  have hB := modU5 v
  generalize eA : IntKind.i64.wrap ((IntKind.u64.wrap u).tmod 5) = A at hA
  generalize eB : IntKind.i64.wrap ((IntKind.u64.wrap v).tmod 5) = B at hB
  refine CallQ.loop2 (n := 6000) (ds := [1,1,1,1,0,1,0]) (es := [1, 1, 1, 1, 1, 1, 1, 0, 1, 0]) specs_ok mixed
    (fun b : Nat × (Nat → Bool) => mkT n b.1 u v) (fun b => mkB f n b.2) 5 [0, 1, 2, 3, 4] (fun b => 40 - b.1) (fun b => b.1 ≤ 40) (fun b => (b.1 + 1, mkF (f b.1) b.2)) (fun b => b.1 < n ∧ b.1 < 40) 0 (fun b => mkT n b.1 u v) (fun b => mkB f n b.2) (fun _ => True)
    (fun c : Nat × (Nat → Bool) => nkT A B (dnBits c.2 A B c.1) (dnLeast c.2 c.1) (kD c.1)) (fun c => mkB f n c.2) 5 [0, 1, 2, 3, 4] (fun c => 5 - c.1) (fun c => c.1 ≤ 5) (fun c => (c.1 + 1, c.2)) (fun c => c.1 < 5) 2 (fun c => nkT A B (dnBits c.2 A B 5) (dnLeast c.2 5) (.c (-1))) (fun c => mkB f n c.2) (fun _ => True)
    (by kernel_rfl) (by kernel_rfl) (by kernel_rfl) (0, fun _ => false) (Nat.zero_le _) (mk_go f n u v) (fun b hb => mk_body f n b.1 u v b.2 hn' hb)
    (fun b hb hc => ⟨by have h : b.1 < n ∧ b.1 < 40 := hc; show b.1 + 1 ≤ 40; omega, by have h : b.1 < n ∧ b.1 < 40 := hc; show 40 - (b.1 + 1) < 40 - b.1; omega⟩)
    (fun b _ _ => ⟨(0, b.2), Nat.zero_le _, by have := mk_mid f n b.1 u v b.2; rw [eA, eB] at this; exact this⟩)
    (fun c hc => ?_) (fun c _ hc => ⟨hc, by have h : c.1 < 5 := hc; show 5 - (c.1 + 1) < 5 - c.1; omega⟩)
    (fun c _ _ => nk_end f n c.2 A B _ _ hA hB (bits_eq c.2 A B) (least_eq c.2) (dnLeast_ok c.2))
  obtain ⟨j, g⟩ := c
  have up : ∀ {ts : List (Nat × V)} {bs : List (Option Blk)} {tx : List (Nat × V)} {bx : List (Option Blk)} {c : Prop} {x : Out × Tr V} {H : Hp}, c → roundK 5 [0, 1, 2, 3, 4] ts bs True 2 [] [] False x H → roundK 5 [0, 1, 2, 3, 4] ts bs c 2 tx bx True x H := by
    intro ts bs tx bx c x H hc h
    have h := roundK_norm (tx := tx) (bx := bx) (fin := True) h
    obtain ⟨oo, T⟩ := x
    cases oo with
    | norm => exact ⟨h.1, hc⟩
    | exit k => exact h
    | ret => exact h
  match j, hc with
  | 0, _ => obtain ⟨hh, hb⟩ := nk_4 f n g A B 0 (-1); exact ⟨hh, vcOf_mono hb fun x H hx => up (show 0 < 5 by decide) hx⟩
  | 1, _ => obtain ⟨hh, hb⟩ := nk_3 f n g A B (dnBits g A B 1) (dnLeast g 1); exact ⟨hh, vcOf_mono hb fun x H hx => up (show 1 < 5 by decide) hx⟩
  | 2, _ => obtain ⟨hh, hb⟩ := nk_2 f n g A B (dnBits g A B 2) (dnLeast g 2); exact ⟨hh, vcOf_mono hb fun x H hx => up (show 2 < 5 by decide) hx⟩
  | 3, _ => obtain ⟨hh, hb⟩ := nk_1 f n g A B (dnBits g A B 3) (dnLeast g 3); exact ⟨hh, vcOf_mono hb fun x H hx => up (show 3 < 5 by decide) hx⟩
  | 4, _ => obtain ⟨hh, hb⟩ := nk_0 f n g A B (dnBits g A B 4) (dnLeast g 4); exact ⟨hh, vcOf_mono hb fun x H hx => up (show 4 < 5 by decide) hx⟩
  | 5, _ => obtain ⟨hh, hb⟩ := nk_x f n g A B (dnBits g A B 5) (dnLeast g 5); exact ⟨hh, vcOf_mono hb fun x H hx => roundK_exit hx⟩
  | j + 6, hj => exact absurd hj (by show ¬ j + 6 ≤ 5; omega)
end Go.Ideal.M2
