/- Chapter 4: CellFull. Own text. -/
import Derived.Test.YtchgfecghackdaaC5
namespace Go.Ideal.C5
open Go.Proofs Go.Ideal Go.Ideal.L1
set_option linter.unusedSimpArgs false
set_option linter.unusedVariables false
set_option maxRecDepth 100000
set_option maxHeartbeats 8000000

def cfT (n : Nat) (a x : Int) (i : Nat) : List (Nat × V) := [(0, .slice 0 (.c 0) (.s n) 1 (.s n)), (1, .int .i64 (.s a)), (2, .int .i64 (.s x)), (7, .slice 1 (.c 0) (.c 16) 1 (.c 16)), (8, .int .i64 (.s i))]
def cfB (f : Nat → Int) (n : Nat) (g : Nat → Int) : List (Option Blk) := [some (.ext f (.s (n * 1))), some (.own false 3 g 16 [])]

theorem cf_go (f : Nat → Int) (n : Nat) (a x : Int) : ∃ hh, vcOf (runGo Try.prog specs noL 3000 8 [] [1,1,1,0,1,0] (Tr.ofList [.slice 0 (.c 0) (.s n) 1 (.s n), .int .i64 (.s a), .int .i64 (.s x)]) (Hx [.ext f (.s (n * 1))]) hh)
    (reached fun T1 H1 => weakP T1 H1 (cfT n a x 0) (cfB f n (fun _ => 0)) 2) := by

  have k0 : n ≤ n := by (simp; done)
  have k1 : n * (1 : Nat) ≤ n * (1 : Nat) := by clear k0; (simp; done)
  have k2 : ∀ (k : Nat), k < n * (1 : Nat) → f k = f k := fun _ _ => rfl
  have k3 : ∀ (k : Nat), k < (16 : Nat) → (0 : Int) = [(0 : Int), (0 : Int), (0 : Int), (0 : Int), (0 : Int), (0 : Int), (0 : Int), (0 : Int), (0 : Int), (0 : Int), (0 : Int), (0 : Int), (0 : Int), (0 : Int), (0 : Int), (0 : Int)].getD k (0 : Int) := by clear k2 k1 k0; (decide +kernel)
  refine vcIntro [] (And.intro True.intro (And.intro (And.intro (And.intro True.intro (And.intro (@Eq.refl (Nat) (n)) k0)) (And.intro (@Eq.refl (Int) (a)) (And.intro (@Eq.refl (Int) (x)) (And.intro (And.intro True.intro (And.intro True.intro True.intro)) (And.intro (@Eq.refl (Int) ((0 : Int))) True.intro))))) (And.intro (And.intro k1 k2) (And.intro (And.intro (@Eq.refl (Nat) ((16 : Nat))) (And.intro k3 True.intro)) True.intro)))) ?_
  kernel_rfl
theorem cf_body (f : Nat → Int) (n : Nat) (a x : Int) (i : Nat) (g : Nat → Int) (hn : n ≤ 9223372036854775807) :
    ∃ hh, vcOf (runAt Try.prog specs noL 3000 8 [1,1,1,0,1,0,0] (Tr.ofPairs (cfT n a x i)) (Hm (cfB f n g) 2) hh)
    (roundK 2 [0, 1] (cfT n a x (i + 1)) (cfB f n (fun k => if k = i then f i % 1099511627776 else g k)) (i < n ∧ i < 16) 0 (cfT n a x i) (cfB f n g) True) := by

  rcases Bool.eq_false_or_eq_true (Decidable.decide ((↑i : Int) < (↑n : Int))) with h0 | h0
  ·
    rcases Bool.eq_false_or_eq_true (Decidable.decide ((↑i : Int) < (16 : Int))) with h1 | h1
    ·
      have k2 : (0 : Int) ≤ (↑i : Int) := by omega
      have k3 : (↑i : Int) + (1 : Int) ≤ (↑n : Int) := by clear k2; (simp at *; omega)
      have k4 : i.succ ≤ n * (1 : Nat) := by clear k3 k2; (simp at *; omega)
      have k5 : (↑i : Int) + (1 : Int) ≤ (16 : Int) := by clear k4 k3 k2; (simp at *; omega)
      have k6 : i.succ ≤ (16 : Nat) := by clear k5 k4 k3 k2; (simp at *; omega)
      have k7 : n ≤ n := by clear k6 k5 k4 k3 k2; omega
      have k8 : (↑(i + (1 : Nat)) : Int) = Go.IntKind.i64.wrap ((↑i : Int) + (1 : Int)) := by clear k7 k6 k5 k4 k3 k2; (rw [wrapk _ (by simp at *; omega)]; simp; done)
      have k9 : n * (1 : Nat) ≤ n * (1 : Nat) := by clear k8 k7 k6 k5 k4 k3 k2; omega
      have k10 : ∀ (k : Nat), k < n * (1 : Nat) → f k = f k := fun _ _ => rfl
      have k11 : ∀ (k : Nat), k < (16 : Nat) → (if k = i then f i % (1099511627776 : Int) else g k) = if k = i then f i % (1099511627776 : Int) else g k := fun _ _ => rfl
      have k12 : i.succ ≤ n := by clear k11 k10 k9 k8 k7 k6 k5 k4 k3 k2; (simp at *; omega)
      refine vcIntro [true, true] (And.intro (And.intro k6 (And.intro (And.intro k2 k5) (And.intro k4 (And.intro (And.intro k2 k3) (And.intro h1 (And.intro h0 True.intro)))))) (And.intro (And.intro (And.intro (And.intro True.intro (And.intro (@Eq.refl (Nat) (n)) k7)) (And.intro (@Eq.refl (Int) (a)) (And.intro (@Eq.refl (Int) (x)) (And.intro (And.intro True.intro (And.intro True.intro True.intro)) (And.intro k8 True.intro))))) (And.intro (And.intro k9 k10) (And.intro (And.intro (@Eq.refl (Nat) ((16 : Nat))) (And.intro k11 True.intro)) True.intro))) (And.intro k12 k6))) ?_
      kernel_rfl
    ·
      have k13 : n ≤ n := by omega
      have k14 : n * (1 : Nat) ≤ n * (1 : Nat) := by clear k13; omega
      have k15 : ∀ (k : Nat), k < n * (1 : Nat) → f k = f k := fun _ _ => rfl
      have k16 : ∀ (k : Nat), k < (16 : Nat) → g k = g k := fun _ _ => rfl
      refine vcIntro [true, false] (And.intro (And.intro h1 (And.intro h0 True.intro)) (And.intro (And.intro (And.intro (And.intro True.intro (And.intro (@Eq.refl (Nat) (n)) k13)) (And.intro (@Eq.refl (Int) (a)) (And.intro (@Eq.refl (Int) (x)) (And.intro (And.intro True.intro (And.intro True.intro True.intro)) (And.intro (@Eq.refl (Int) ((↑i : Int))) True.intro))))) (And.intro (And.intro k14 k15) (And.intro (And.intro (@Eq.refl (Nat) ((16 : Nat))) (And.intro k16 True.intro)) True.intro))) True.intro)) ?_
      kernel_rfl
  ·
    have k17 : n ≤ n := by omega
    have k18 : n * (1 : Nat) ≤ n * (1 : Nat) := by clear k17; omega
    have k19 : ∀ (k : Nat), k < n * (1 : Nat) → f k = f k := fun _ _ => rfl
    have k20 : ∀ (k : Nat), k < (16 : Nat) → g k = g k := fun _ _ => rfl
    refine vcIntro [false] (And.intro (And.intro h0 True.intro) (And.intro (And.intro (And.intro (And.intro True.intro (And.intro (@Eq.refl (Nat) (n)) k17)) (And.intro (@Eq.refl (Int) (a)) (And.intro (@Eq.refl (Int) (x)) (And.intro (And.intro True.intro (And.intro True.intro True.intro)) (And.intro (@Eq.refl (Int) ((↑i : Int))) True.intro))))) (And.intro (And.intro k18 k19) (And.intro (And.intro (@Eq.refl (Nat) ((16 : Nat))) (And.intro k20 True.intro)) True.intro))) True.intro)) ?_
    kernel_rfl
theorem allMay_not {x : Nat → Int} (k : Nat) (hk : k < 16) (h : valueMay (x k) = false) : allMay x = false := by
  cases hx : allMay x with
  | false => rfl
  | true =>
    simp only [allMay, List.all_eq_true, List.mem_range] at hx
    rw [hx k hk] at h; simp at h
theorem allMay_of {x : Nat → Int} (h : ∀ k, k < 16 → 0 ≤ x k ∧ x k < 1099511627776) : allMay x = true := by
  simp only [allMay, List.all_eq_true, List.mem_range]
  intro k hk
  simp [valueMay, h k hk]
theorem cf_end (f : Nat → Int) (n : Nat) (a x : Int) (i : Nat) (g : Nat → Int) (hg : allMay g = true) : ∃ hh, vcOf (runRet Try.prog specs noL 3000 8 [1,1,1,0,1,0] (.exit 0) (Tr.ofPairs (cfT n a x i)) (Hm (cfB f n g) 2) hh) (fun v _ => isT v) := by
  have e1 : IntKind.i64.wrap (1 + x % 1024) = 1 + x % 1024 := wrapk _ (by omega)
  have f1 : (allMay fun k => if k = (a % 16).toNat then IntKind.i64.wrap (0 - IntKind.i64.wrap (1 + x % 1024)) else g k) = false :=
    allMay_not (a % 16).toNat (by omega) (by rw [if_pos rfl, e1, wrapk _ (by omega)]; simp [valueMay]; omega)
  have f2 : (allMay fun k => if k = (a % 16).toNat then IntKind.i64.wrap (1099511627775 + IntKind.i64.wrap (1 + x % 1024)) else if k = (a % 16).toNat then IntKind.i64.wrap (0 - IntKind.i64.wrap (1 + x % 1024)) else g k) = false :=
    allMay_not (a % 16).toNat (by omega) (by rw [if_pos rfl, e1, wrapk _ (by omega)]; simp [valueMay]; omega)
  clear e1

  rcases Bool.eq_false_or_eq_true (Go.Ideal.C5.allMay g) with h0 | h0
  ·
    rcases Bool.eq_false_or_eq_true (g (nat_lit 0) != g (0 : Nat)) with h1 | h1
    · exact False.elim (by (simp_all; done))
    ·
      rcases Bool.eq_false_or_eq_true (g (nat_lit 1) != g (1 : Nat)) with h2 | h2
      · exact False.elim (by (simp_all; done))
      ·
        rcases Bool.eq_false_or_eq_true (g (nat_lit 2) != g (2 : Nat)) with h3 | h3
        · exact False.elim (by (simp_all; done))
        ·
          rcases Bool.eq_false_or_eq_true (g (nat_lit 3) != g (3 : Nat)) with h4 | h4
          · exact False.elim (by (simp_all; done))
          ·
            rcases Bool.eq_false_or_eq_true (g (nat_lit 4) != g (4 : Nat)) with h5 | h5
            · exact False.elim (by (simp_all; done))
            ·
              rcases Bool.eq_false_or_eq_true (g (nat_lit 5) != g (5 : Nat)) with h6 | h6
              · exact False.elim (by (simp_all; done))
              ·
                rcases Bool.eq_false_or_eq_true (g (nat_lit 6) != g (6 : Nat)) with h7 | h7
                · exact False.elim (by (simp_all; done))
                ·
                  rcases Bool.eq_false_or_eq_true (g (nat_lit 7) != g (7 : Nat)) with h8 | h8
                  · exact False.elim (by (simp_all; done))
                  ·
                    rcases Bool.eq_false_or_eq_true (g (nat_lit 8) != g (8 : Nat)) with h9 | h9
                    · exact False.elim (by (simp_all; done))
                    ·
                      rcases Bool.eq_false_or_eq_true (g (nat_lit 9) != g (9 : Nat)) with h10 | h10
                      · exact False.elim (by (simp_all; done))
                      ·
                        rcases Bool.eq_false_or_eq_true (g (nat_lit 10) != g (10 : Nat)) with h11 | h11
                        · exact False.elim (by (simp_all; done))
                        ·
                          rcases Bool.eq_false_or_eq_true (g (nat_lit 11) != g (11 : Nat)) with h12 | h12
                          · exact False.elim (by (simp_all; done))
                          ·
                            rcases Bool.eq_false_or_eq_true (g (nat_lit 12) != g (12 : Nat)) with h13 | h13
                            · exact False.elim (by (simp_all; done))
                            ·
                              rcases Bool.eq_false_or_eq_true (g (nat_lit 13) != g (13 : Nat)) with h14 | h14
                              · exact False.elim (by (simp_all; done))
                              ·
                                rcases Bool.eq_false_or_eq_true (g (nat_lit 14) != g (14 : Nat)) with h15 | h15
                                · exact False.elim (by (simp_all; done))
                                ·
                                  rcases Bool.eq_false_or_eq_true (g (nat_lit 15) != g (15 : Nat)) with h16 | h16
                                  · exact False.elim (by (simp_all; done))
                                  ·
                                    rcases Bool.eq_false_or_eq_true (Go.Ideal.C5.allMay fun k ↦ if k = (a % (16 : Int)).toNat then Go.IntKind.i64.wrap ((0 : Int) - Go.IntKind.i64.wrap ((1 : Int) + x % (1024 : Int))) else g k) with h17 | h17
                                    · exact False.elim (by (simp_all; done))
                                    ·
                                      rcases Bool.eq_false_or_eq_true (Go.Ideal.C5.allMay fun k ↦ if k = (a % (16 : Int)).toNat then Go.IntKind.i64.wrap ((1099511627775 : Int) + Go.IntKind.i64.wrap ((1 : Int) + x % (1024 : Int))) else if k = (a % (16 : Int)).toNat then Go.IntKind.i64.wrap ((0 : Int) - Go.IntKind.i64.wrap ((1 : Int) + x % (1024 : Int))) else g k) with h18 | h18
                                      · exact False.elim (by (simp_all; done))
                                      ·
                                        have k19 : (0 : Int) ≤ a % (16 : Int) := by omega
                                        have k20 : a % (16 : Int) + (1 : Int) ≤ (16 : Int) := by clear k19; omega
                                        have k21 : (a % (16 : Int)).toNat.succ ≤ (16 : Nat) := by clear k20 k19; omega
                                        refine vcIntro [true, false, false, false, false, false, false, false, false, false, false, false, false, false, false, false, false, false, false, false, false, false, false, false, false, false, false, false, false, false, false, false, false, false, false] (And.intro (And.intro h18 (And.intro k21 (And.intro (And.intro k19 k20) (And.intro h17 (And.intro k21 (And.intro (And.intro k19 k20) (And.intro h16 (And.intro h16 (And.intro h15 (And.intro h15 (And.intro h14 (And.intro h14 (And.intro h13 (And.intro h13 (And.intro h12 (And.intro h12 (And.intro h11 (And.intro h11 (And.intro h10 (And.intro h10 (And.intro h9 (And.intro h9 (And.intro h8 (And.intro h8 (And.intro h7 (And.intro h7 (And.intro h6 (And.intro h6 (And.intro h5 (And.intro h5 (And.intro h4 (And.intro h4 (And.intro h3 (And.intro h3 (And.intro h2 (And.intro h2 (And.intro h1 (And.intro h1 (And.intro h0 True.intro))))))))))))))))))))))))))))))))))))))) True.intro) ?_
                                        kernel_rfl
  · exact False.elim (by (simp_all; done))
theorem cf_q (f : Nat → Int) (n : Nat) (_ : ∀ i, i < n * 1 → -9223372036854775808 ≤ f i ∧ f i ≤ 9223372036854775807) (hn : n ≤ maxLen) (a : Int) (_ : -9223372036854775808 ≤ a ∧ a ≤ 9223372036854775807) (x : Int) (_ : -9223372036854775808 ≤ x ∧ x ≤ 9223372036854775807) :
    CallQ Try.prog 8 [.slice 0 (.c 0) (.s n) 1 (.s n), .int .i64 (.s a), .int .i64 (.s x)] (Hx [.ext f (.s (n * 1))]) (fun v _ => isT v) :=
  CallQ.loop1 (n := 3000) specs_ok mixed (fun b : Nat × (Nat → Int) => cfT n a x b.1) (fun b => cfB f n b.2) 2 [0, 1] (fun b => n - b.1) (fun b => ∀ k, k < 16 → 0 ≤ b.2 k ∧ b.2 k < 1099511627776)
    (fun b => (b.1 + 1, fun k => if k = b.1 then f b.1 % 1099511627776 else b.2 k)) (fun b => b.1 < n ∧ b.1 < 16) 0 (fun b => cfT n a x b.1) (fun b => cfB f n b.2) (fun _ => True) (by kernel_rfl) (by kernel_rfl)
    (0, fun _ => 0) (fun k _ => by simp only; omega) (cf_go f n a x) (fun b _ => cf_body f n a x b.1 b.2 hn)
    (fun b hb hc => ⟨fun k hk => by
      show 0 ≤ (if k = b.1 then f b.1 % 1099511627776 else b.2 k) ∧ (if k = b.1 then f b.1 % 1099511627776 else b.2 k) < 1099511627776
      split
      · omega
      · exact hb k hk, by have h : b.1 < n ∧ b.1 < 16 := hc; show n - (b.1 + 1) < n - b.1; omega⟩) (fun b hb _ => cf_end f n a x b.1 b.2 (allMay_of hb))
end Go.Ideal.C5
