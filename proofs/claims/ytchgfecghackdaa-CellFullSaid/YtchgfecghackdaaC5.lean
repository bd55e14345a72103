/- Chapter 4: the contract of cells.Full over sixteen numbers. Own text. -/
import Derived.Test.YtchgfecghackdaaL0
namespace Go.Ideal.C5
open Go.Proofs Go.Ideal Go.Ideal.L1
set_option linter.unusedSimpArgs false
set_option linter.unusedVariables false
set_option maxRecDepth 100000
set_option maxHeartbeats 8000000

def valueMay (x : Int) : Bool := decide (0 ≤ x) && decide (x < 1099511627776)
/-- May all sixteen be? -/
def allMay (x : Nat → Int) : Bool := (List.range 16).all fun i => valueMay (x i)
def badV : V := .tuple [.agg (List.replicate 16 (.bool (.c false)) ++ List.replicate 32 (.int .i64 (.c 0))), .int .i64 (.c 400)]
def goodV (x : Nat → Int) : V := .tuple [.agg (List.replicate 16 (.bool (.c true)) ++ (List.range 16).map (fun i => .int .i64 (.s (x i))) ++ (List.range 16).map (fun i => .int .i64 (.s (x i)))), .int .i64 (.c 0)]
def rowB (f : Nat → Int) (n : Nat) : List (Option Blk) := [some (.ext f (.s n))]

theorem full_good (o m N : Nat) (f : Nat → Int) (hN : o + 16 ≤ N) (h : allMay (fun k => f (o + k)) = true) :
    ∃ hh, vcOf (runCall Try.prog below noL 3000 27 [.slice 0 (.s o) (.c 16) 1 (.s m)] (Hm (rowB f N) 1) hh) (fun v H1 => retP 1 [0] v H1 (goodV (fun k => f (o + k))) [none] 1) := by
  simp [allMay, valueMay, List.range_succ] at h

  rcases Bool.eq_false_or_eq_true (!(Decidable.decide ((0 : Int) ≤ f (o + (0 : Nat))) && Decidable.decide (f (o + (0 : Nat)) < (1099511627776 : Int)))) with h0 | h0
  · exact False.elim (by (simp at *; omega))
  ·
    rcases Bool.eq_false_or_eq_true (!(Decidable.decide ((0 : Int) ≤ f (o + (1 : Nat))) && Decidable.decide (f (o + (1 : Nat)) < (1099511627776 : Int)))) with h1 | h1
    · exact False.elim (by (simp at *; omega))
    ·
      rcases Bool.eq_false_or_eq_true (!(Decidable.decide ((0 : Int) ≤ f (o + (2 : Nat))) && Decidable.decide (f (o + (2 : Nat)) < (1099511627776 : Int)))) with h2 | h2
      · exact False.elim (by (simp at *; omega))
      ·
        rcases Bool.eq_false_or_eq_true (!(Decidable.decide ((0 : Int) ≤ f (o + (3 : Nat))) && Decidable.decide (f (o + (3 : Nat)) < (1099511627776 : Int)))) with h3 | h3
        · exact False.elim (by (simp at *; omega))
        ·
          rcases Bool.eq_false_or_eq_true (!(Decidable.decide ((0 : Int) ≤ f (o + (4 : Nat))) && Decidable.decide (f (o + (4 : Nat)) < (1099511627776 : Int)))) with h4 | h4
          · exact False.elim (by (simp at *; omega))
          ·
            rcases Bool.eq_false_or_eq_true (!(Decidable.decide ((0 : Int) ≤ f (o + (5 : Nat))) && Decidable.decide (f (o + (5 : Nat)) < (1099511627776 : Int)))) with h5 | h5
            · exact False.elim (by (simp at *; omega))
            ·
              rcases Bool.eq_false_or_eq_true (!(Decidable.decide ((0 : Int) ≤ f (o + (6 : Nat))) && Decidable.decide (f (o + (6 : Nat)) < (1099511627776 : Int)))) with h6 | h6
              · exact False.elim (by (simp at *; omega))
              ·
                rcases Bool.eq_false_or_eq_true (!(Decidable.decide ((0 : Int) ≤ f (o + (7 : Nat))) && Decidable.decide (f (o + (7 : Nat)) < (1099511627776 : Int)))) with h7 | h7
                · exact False.elim (by (simp at *; omega))
                ·
                  rcases Bool.eq_false_or_eq_true (!(Decidable.decide ((0 : Int) ≤ f (o + (8 : Nat))) && Decidable.decide (f (o + (8 : Nat)) < (1099511627776 : Int)))) with h8 | h8
                  · exact False.elim (by (simp at *; omega))
                  ·
                    rcases Bool.eq_false_or_eq_true (!(Decidable.decide ((0 : Int) ≤ f (o + (9 : Nat))) && Decidable.decide (f (o + (9 : Nat)) < (1099511627776 : Int)))) with h9 | h9
                    · exact False.elim (by (simp at *; omega))
                    ·
                      rcases Bool.eq_false_or_eq_true (!(Decidable.decide ((0 : Int) ≤ f (o + (10 : Nat))) && Decidable.decide (f (o + (10 : Nat)) < (1099511627776 : Int)))) with h10 | h10
                      · exact False.elim (by (simp at *; omega))
                      ·
                        rcases Bool.eq_false_or_eq_true (!(Decidable.decide ((0 : Int) ≤ f (o + (11 : Nat))) && Decidable.decide (f (o + (11 : Nat)) < (1099511627776 : Int)))) with h11 | h11
                        · exact False.elim (by (simp at *; omega))
                        ·
                          rcases Bool.eq_false_or_eq_true (!(Decidable.decide ((0 : Int) ≤ f (o + (12 : Nat))) && Decidable.decide (f (o + (12 : Nat)) < (1099511627776 : Int)))) with h12 | h12
                          · exact False.elim (by (simp at *; omega))
                          ·
                            rcases Bool.eq_false_or_eq_true (!(Decidable.decide ((0 : Int) ≤ f (o + (13 : Nat))) && Decidable.decide (f (o + (13 : Nat)) < (1099511627776 : Int)))) with h13 | h13
                            · exact False.elim (by (simp at *; omega))
                            ·
                              rcases Bool.eq_false_or_eq_true (!(Decidable.decide ((0 : Int) ≤ f (o + (14 : Nat))) && Decidable.decide (f (o + (14 : Nat)) < (1099511627776 : Int)))) with h14 | h14
                              · exact False.elim (by (simp at *; omega))
                              ·
                                rcases Bool.eq_false_or_eq_true (!(Decidable.decide ((0 : Int) ≤ f (o + (15 : Nat))) && Decidable.decide (f (o + (15 : Nat)) < (1099511627776 : Int)))) with h15 | h15
                                · exact False.elim (by (simp at *; omega))
                                ·
                                  have k16 : (o + (0 : Nat)).succ ≤ N := by omega
                                  have k17 : (o + (1 : Nat)).succ ≤ N := by clear k16; omega
                                  have k18 : (o + (2 : Nat)).succ ≤ N := by clear k17 k16; omega
                                  have k19 : (o + (3 : Nat)).succ ≤ N := by clear k18 k17 k16; omega
                                  have k20 : (o + (4 : Nat)).succ ≤ N := by clear k19 k18 k17 k16; omega
                                  have k21 : (o + (5 : Nat)).succ ≤ N := by clear k20 k19 k18 k17 k16; omega
                                  have k22 : (o + (6 : Nat)).succ ≤ N := by clear k21 k20 k19 k18 k17 k16; omega
                                  have k23 : (o + (7 : Nat)).succ ≤ N := by clear k22 k21 k20 k19 k18 k17 k16; omega
                                  have k24 : (o + (8 : Nat)).succ ≤ N := by clear k23 k22 k21 k20 k19 k18 k17 k16; omega
                                  have k25 : (o + (9 : Nat)).succ ≤ N := by clear k24 k23 k22 k21 k20 k19 k18 k17 k16; omega
                                  have k26 : (o + (10 : Nat)).succ ≤ N := by clear k25 k24 k23 k22 k21 k20 k19 k18 k17 k16; omega
                                  have k27 : (o + (11 : Nat)).succ ≤ N := by clear k26 k25 k24 k23 k22 k21 k20 k19 k18 k17 k16; omega
                                  have k28 : (o + (12 : Nat)).succ ≤ N := by clear k27 k26 k25 k24 k23 k22 k21 k20 k19 k18 k17 k16; omega
                                  have k29 : (o + (13 : Nat)).succ ≤ N := by clear k28 k27 k26 k25 k24 k23 k22 k21 k20 k19 k18 k17 k16; omega
                                  have k30 : (o + (14 : Nat)).succ ≤ N := by clear k29 k28 k27 k26 k25 k24 k23 k22 k21 k20 k19 k18 k17 k16; omega
                                  have k31 : (o + (15 : Nat)).succ ≤ N := by clear k30 k29 k28 k27 k26 k25 k24 k23 k22 k21 k20 k19 k18 k17 k16; omega
                                  refine vcIntro [false, false, false, false, false, false, false, false, false, false, false, false, false, false, false, false] (And.intro (And.intro h15 (And.intro k31 (And.intro h14 (And.intro k30 (And.intro h13 (And.intro k29 (And.intro h12 (And.intro k28 (And.intro h11 (And.intro k27 (And.intro h10 (And.intro k26 (And.intro h9 (And.intro k25 (And.intro h8 (And.intro k24 (And.intro h7 (And.intro k23 (And.intro h6 (And.intro k22 (And.intro h5 (And.intro k21 (And.intro h4 (And.intro k20 (And.intro h3 (And.intro k19 (And.intro h2 (And.intro k18 (And.intro h1 (And.intro k17 (And.intro h0 (And.intro k16 True.intro)))))))))))))))))))))))))))))))) (And.intro (And.intro (And.intro True.intro (And.intro True.intro (And.intro True.intro (And.intro True.intro (And.intro True.intro (And.intro True.intro (And.intro True.intro (And.intro True.intro (And.intro True.intro (And.intro True.intro (And.intro True.intro (And.intro True.intro (And.intro True.intro (And.intro True.intro (And.intro True.intro (And.intro True.intro (And.intro (@Eq.refl (Int) (f (o + nat_lit 0))) (And.intro (@Eq.refl (Int) (f (o + nat_lit 1))) (And.intro (@Eq.refl (Int) (f (o + nat_lit 2))) (And.intro (@Eq.refl (Int) (f (o + nat_lit 3))) (And.intro (@Eq.refl (Int) (f (o + nat_lit 4))) (And.intro (@Eq.refl (Int) (f (o + nat_lit 5))) (And.intro (@Eq.refl (Int) (f (o + nat_lit 6))) (And.intro (@Eq.refl (Int) (f (o + nat_lit 7))) (And.intro (@Eq.refl (Int) (f (o + nat_lit 8))) (And.intro (@Eq.refl (Int) (f (o + nat_lit 9))) (And.intro (@Eq.refl (Int) (f (o + nat_lit 10))) (And.intro (@Eq.refl (Int) (f (o + nat_lit 11))) (And.intro (@Eq.refl (Int) (f (o + nat_lit 12))) (And.intro (@Eq.refl (Int) (f (o + nat_lit 13))) (And.intro (@Eq.refl (Int) (f (o + nat_lit 14))) (And.intro (@Eq.refl (Int) (f (o + nat_lit 15))) (And.intro (@Eq.refl (Int) (f (o + nat_lit 0))) (And.intro (@Eq.refl (Int) (f (o + nat_lit 1))) (And.intro (@Eq.refl (Int) (f (o + nat_lit 2))) (And.intro (@Eq.refl (Int) (f (o + nat_lit 3))) (And.intro (@Eq.refl (Int) (f (o + nat_lit 4))) (And.intro (@Eq.refl (Int) (f (o + nat_lit 5))) (And.intro (@Eq.refl (Int) (f (o + nat_lit 6))) (And.intro (@Eq.refl (Int) (f (o + nat_lit 7))) (And.intro (@Eq.refl (Int) (f (o + nat_lit 8))) (And.intro (@Eq.refl (Int) (f (o + nat_lit 9))) (And.intro (@Eq.refl (Int) (f (o + nat_lit 10))) (And.intro (@Eq.refl (Int) (f (o + nat_lit 11))) (And.intro (@Eq.refl (Int) (f (o + nat_lit 12))) (And.intro (@Eq.refl (Int) (f (o + nat_lit 13))) (And.intro (@Eq.refl (Int) (f (o + nat_lit 14))) (@Eq.refl (Int) (f (o + nat_lit 15)))))))))))))))))))))))))))))))))))))))))))))))))) True.intro) True.intro)) ?_
                                  kernel_rfl
theorem full_bad (o m N : Nat) (f : Nat → Int) (hN : o + 16 ≤ N) (h : allMay (fun k => f (o + k)) = false) :
    ∃ hh, vcOf (runCall Try.prog below noL 3000 27 [.slice 0 (.s o) (.c 16) 1 (.s m)] (Hm (rowB f N) 1) hh) (fun v H1 => retP 1 [0] v H1 badV [none] 1) := by

  rcases Bool.eq_false_or_eq_true (!(Decidable.decide ((0 : Int) ≤ f (o + (0 : Nat))) && Decidable.decide (f (o + (0 : Nat)) < (1099511627776 : Int)))) with h0 | h0
  ·
    have k1 : (o + (0 : Nat)).succ ≤ N := by omega
    refine vcIntro [true] (And.intro (And.intro h0 (And.intro k1 True.intro)) (And.intro (And.intro (And.intro True.intro (And.intro True.intro (And.intro True.intro (And.intro True.intro (And.intro True.intro (And.intro True.intro (And.intro True.intro (And.intro True.intro (And.intro True.intro (And.intro True.intro (And.intro True.intro (And.intro True.intro (And.intro True.intro (And.intro True.intro (And.intro True.intro (And.intro True.intro (And.intro True.intro (And.intro True.intro (And.intro True.intro (And.intro True.intro (And.intro True.intro (And.intro True.intro (And.intro True.intro (And.intro True.intro (And.intro True.intro (And.intro True.intro (And.intro True.intro (And.intro True.intro (And.intro True.intro (And.intro True.intro (And.intro True.intro (And.intro True.intro (And.intro True.intro (And.intro True.intro (And.intro True.intro (And.intro True.intro (And.intro True.intro (And.intro True.intro (And.intro True.intro (And.intro True.intro (And.intro True.intro (And.intro True.intro (And.intro True.intro (And.intro True.intro (And.intro True.intro (And.intro True.intro (And.intro True.intro True.intro))))))))))))))))))))))))))))))))))))))))))))))) True.intro) True.intro)) ?_
    kernel_rfl
  ·
    rcases Bool.eq_false_or_eq_true (!(Decidable.decide ((0 : Int) ≤ f (o + (1 : Nat))) && Decidable.decide (f (o + (1 : Nat)) < (1099511627776 : Int)))) with h2 | h2
    ·
      have k3 : (o + (0 : Nat)).succ ≤ N := by omega
      have k4 : (o + (1 : Nat)).succ ≤ N := by clear k3; omega
      refine vcIntro [false, true] (And.intro (And.intro h2 (And.intro k4 (And.intro h0 (And.intro k3 True.intro)))) (And.intro (And.intro (And.intro True.intro (And.intro True.intro (And.intro True.intro (And.intro True.intro (And.intro True.intro (And.intro True.intro (And.intro True.intro (And.intro True.intro (And.intro True.intro (And.intro True.intro (And.intro True.intro (And.intro True.intro (And.intro True.intro (And.intro True.intro (And.intro True.intro (And.intro True.intro (And.intro True.intro (And.intro True.intro (And.intro True.intro (And.intro True.intro (And.intro True.intro (And.intro True.intro (And.intro True.intro (And.intro True.intro (And.intro True.intro (And.intro True.intro (And.intro True.intro (And.intro True.intro (And.intro True.intro (And.intro True.intro (And.intro True.intro (And.intro True.intro (And.intro True.intro (And.intro True.intro (And.intro True.intro (And.intro True.intro (And.intro True.intro (And.intro True.intro (And.intro True.intro (And.intro True.intro (And.intro True.intro (And.intro True.intro (And.intro True.intro (And.intro True.intro (And.intro True.intro (And.intro True.intro (And.intro True.intro True.intro))))))))))))))))))))))))))))))))))))))))))))))) True.intro) True.intro)) ?_
      kernel_rfl
    ·
      rcases Bool.eq_false_or_eq_true (!(Decidable.decide ((0 : Int) ≤ f (o + (2 : Nat))) && Decidable.decide (f (o + (2 : Nat)) < (1099511627776 : Int)))) with h5 | h5
      ·
        have k6 : (o + (0 : Nat)).succ ≤ N := by omega
        have k7 : (o + (1 : Nat)).succ ≤ N := by clear k6; omega
        have k8 : (o + (2 : Nat)).succ ≤ N := by clear k7 k6; omega
        refine vcIntro [false, false, true] (And.intro (And.intro h5 (And.intro k8 (And.intro h2 (And.intro k7 (And.intro h0 (And.intro k6 True.intro)))))) (And.intro (And.intro (And.intro True.intro (And.intro True.intro (And.intro True.intro (And.intro True.intro (And.intro True.intro (And.intro True.intro (And.intro True.intro (And.intro True.intro (And.intro True.intro (And.intro True.intro (And.intro True.intro (And.intro True.intro (And.intro True.intro (And.intro True.intro (And.intro True.intro (And.intro True.intro (And.intro True.intro (And.intro True.intro (And.intro True.intro (And.intro True.intro (And.intro True.intro (And.intro True.intro (And.intro True.intro (And.intro True.intro (And.intro True.intro (And.intro True.intro (And.intro True.intro (And.intro True.intro (And.intro True.intro (And.intro True.intro (And.intro True.intro (And.intro True.intro (And.intro True.intro (And.intro True.intro (And.intro True.intro (And.intro True.intro (And.intro True.intro (And.intro True.intro (And.intro True.intro (And.intro True.intro (And.intro True.intro (And.intro True.intro (And.intro True.intro (And.intro True.intro (And.intro True.intro (And.intro True.intro (And.intro True.intro True.intro))))))))))))))))))))))))))))))))))))))))))))))) True.intro) True.intro)) ?_
        kernel_rfl
      ·
        rcases Bool.eq_false_or_eq_true (!(Decidable.decide ((0 : Int) ≤ f (o + (3 : Nat))) && Decidable.decide (f (o + (3 : Nat)) < (1099511627776 : Int)))) with h9 | h9
        ·
          have k10 : (o + (0 : Nat)).succ ≤ N := by omega
          have k11 : (o + (1 : Nat)).succ ≤ N := by clear k10; omega
          have k12 : (o + (2 : Nat)).succ ≤ N := by clear k11 k10; omega
          have k13 : (o + (3 : Nat)).succ ≤ N := by clear k12 k11 k10; omega
          refine vcIntro [false, false, false, true] (And.intro (And.intro h9 (And.intro k13 (And.intro h5 (And.intro k12 (And.intro h2 (And.intro k11 (And.intro h0 (And.intro k10 True.intro)))))))) (And.intro (And.intro (And.intro True.intro (And.intro True.intro (And.intro True.intro (And.intro True.intro (And.intro True.intro (And.intro True.intro (And.intro True.intro (And.intro True.intro (And.intro True.intro (And.intro True.intro (And.intro True.intro (And.intro True.intro (And.intro True.intro (And.intro True.intro (And.intro True.intro (And.intro True.intro (And.intro True.intro (And.intro True.intro (And.intro True.intro (And.intro True.intro (And.intro True.intro (And.intro True.intro (And.intro True.intro (And.intro True.intro (And.intro True.intro (And.intro True.intro (And.intro True.intro (And.intro True.intro (And.intro True.intro (And.intro True.intro (And.intro True.intro (And.intro True.intro (And.intro True.intro (And.intro True.intro (And.intro True.intro (And.intro True.intro (And.intro True.intro (And.intro True.intro (And.intro True.intro (And.intro True.intro (And.intro True.intro (And.intro True.intro (And.intro True.intro (And.intro True.intro (And.intro True.intro (And.intro True.intro (And.intro True.intro True.intro))))))))))))))))))))))))))))))))))))))))))))))) True.intro) True.intro)) ?_
          kernel_rfl
        ·
          rcases Bool.eq_false_or_eq_true (!(Decidable.decide ((0 : Int) ≤ f (o + (4 : Nat))) && Decidable.decide (f (o + (4 : Nat)) < (1099511627776 : Int)))) with h14 | h14
          ·
            have k15 : (o + (0 : Nat)).succ ≤ N := by omega
            have k16 : (o + (1 : Nat)).succ ≤ N := by clear k15; omega
            have k17 : (o + (2 : Nat)).succ ≤ N := by clear k16 k15; omega
            have k18 : (o + (3 : Nat)).succ ≤ N := by clear k17 k16 k15; omega
            have k19 : (o + (4 : Nat)).succ ≤ N := by clear k18 k17 k16 k15; omega
            refine vcIntro [false, false, false, false, true] (And.intro (And.intro h14 (And.intro k19 (And.intro h9 (And.intro k18 (And.intro h5 (And.intro k17 (And.intro h2 (And.intro k16 (And.intro h0 (And.intro k15 True.intro)))))))))) (And.intro (And.intro (And.intro True.intro (And.intro True.intro (And.intro True.intro (And.intro True.intro (And.intro True.intro (And.intro True.intro (And.intro True.intro (And.intro True.intro (And.intro True.intro (And.intro True.intro (And.intro True.intro (And.intro True.intro (And.intro True.intro (And.intro True.intro (And.intro True.intro (And.intro True.intro (And.intro True.intro (And.intro True.intro (And.intro True.intro (And.intro True.intro (And.intro True.intro (And.intro True.intro (And.intro True.intro (And.intro True.intro (And.intro True.intro (And.intro True.intro (And.intro True.intro (And.intro True.intro (And.intro True.intro (And.intro True.intro (And.intro True.intro (And.intro True.intro (And.intro True.intro (And.intro True.intro (And.intro True.intro (And.intro True.intro (And.intro True.intro (And.intro True.intro (And.intro True.intro (And.intro True.intro (And.intro True.intro (And.intro True.intro (And.intro True.intro (And.intro True.intro (And.intro True.intro (And.intro True.intro (And.intro True.intro True.intro))))))))))))))))))))))))))))))))))))))))))))))) True.intro) True.intro)) ?_
            kernel_rfl
          ·
            rcases Bool.eq_false_or_eq_true (!(Decidable.decide ((0 : Int) ≤ f (o + (5 : Nat))) && Decidable.decide (f (o + (5 : Nat)) < (1099511627776 : Int)))) with h20 | h20
            ·
              have k21 : (o + (0 : Nat)).succ ≤ N := by omega
              have k22 : (o + (1 : Nat)).succ ≤ N := by clear k21; omega
              have k23 : (o + (2 : Nat)).succ ≤ N := by clear k22 k21; omega
              have k24 : (o + (3 : Nat)).succ ≤ N := by clear k23 k22 k21; omega
              have k25 : (o + (4 : Nat)).succ ≤ N := by clear k24 k23 k22 k21; omega
              have k26 : (o + (5 : Nat)).succ ≤ N := by clear k25 k24 k23 k22 k21; omega
              refine vcIntro [false, false, false, false, false, true] (And.intro (And.intro h20 (And.intro k26 (And.intro h14 (And.intro k25 (And.intro h9 (And.intro k24 (And.intro h5 (And.intro k23 (And.intro h2 (And.intro k22 (And.intro h0 (And.intro k21 True.intro)))))))))))) (And.intro (And.intro (And.intro True.intro (And.intro True.intro (And.intro True.intro (And.intro True.intro (And.intro True.intro (And.intro True.intro (And.intro True.intro (And.intro True.intro (And.intro True.intro (And.intro True.intro (And.intro True.intro (And.intro True.intro (And.intro True.intro (And.intro True.intro (And.intro True.intro (And.intro True.intro (And.intro True.intro (And.intro True.intro (And.intro True.intro (And.intro True.intro (And.intro True.intro (And.intro True.intro (And.intro True.intro (And.intro True.intro (And.intro True.intro (And.intro True.intro (And.intro True.intro (And.intro True.intro (And.intro True.intro (And.intro True.intro (And.intro True.intro (And.intro True.intro (And.intro True.intro (And.intro True.intro (And.intro True.intro (And.intro True.intro (And.intro True.intro (And.intro True.intro (And.intro True.intro (And.intro True.intro (And.intro True.intro (And.intro True.intro (And.intro True.intro (And.intro True.intro (And.intro True.intro (And.intro True.intro (And.intro True.intro True.intro))))))))))))))))))))))))))))))))))))))))))))))) True.intro) True.intro)) ?_
              kernel_rfl
            ·
              rcases Bool.eq_false_or_eq_true (!(Decidable.decide ((0 : Int) ≤ f (o + (6 : Nat))) && Decidable.decide (f (o + (6 : Nat)) < (1099511627776 : Int)))) with h27 | h27
              ·
                have k28 : (o + (0 : Nat)).succ ≤ N := by omega
                have k29 : (o + (1 : Nat)).succ ≤ N := by clear k28; omega
                have k30 : (o + (2 : Nat)).succ ≤ N := by clear k29 k28; omega
                have k31 : (o + (3 : Nat)).succ ≤ N := by clear k30 k29 k28; omega
                have k32 : (o + (4 : Nat)).succ ≤ N := by clear k31 k30 k29 k28; omega
                have k33 : (o + (5 : Nat)).succ ≤ N := by clear k32 k31 k30 k29 k28; omega
                have k34 : (o + (6 : Nat)).succ ≤ N := by clear k33 k32 k31 k30 k29 k28; omega
                refine vcIntro [false, false, false, false, false, false, true] (And.intro (And.intro h27 (And.intro k34 (And.intro h20 (And.intro k33 (And.intro h14 (And.intro k32 (And.intro h9 (And.intro k31 (And.intro h5 (And.intro k30 (And.intro h2 (And.intro k29 (And.intro h0 (And.intro k28 True.intro)))))))))))))) (And.intro (And.intro (And.intro True.intro (And.intro True.intro (And.intro True.intro (And.intro True.intro (And.intro True.intro (And.intro True.intro (And.intro True.intro (And.intro True.intro (And.intro True.intro (And.intro True.intro (And.intro True.intro (And.intro True.intro (And.intro True.intro (And.intro True.intro (And.intro True.intro (And.intro True.intro (And.intro True.intro (And.intro True.intro (And.intro True.intro (And.intro True.intro (And.intro True.intro (And.intro True.intro (And.intro True.intro (And.intro True.intro (And.intro True.intro (And.intro True.intro (And.intro True.intro (And.intro True.intro (And.intro True.intro (And.intro True.intro (And.intro True.intro (And.intro True.intro (And.intro True.intro (And.intro True.intro (And.intro True.intro (And.intro True.intro (And.intro True.intro (And.intro True.intro (And.intro True.intro (And.intro True.intro (And.intro True.intro (And.intro True.intro (And.intro True.intro (And.intro True.intro (And.intro True.intro (And.intro True.intro (And.intro True.intro True.intro))))))))))))))))))))))))))))))))))))))))))))))) True.intro) True.intro)) ?_
                kernel_rfl
              ·
                rcases Bool.eq_false_or_eq_true (!(Decidable.decide ((0 : Int) ≤ f (o + (7 : Nat))) && Decidable.decide (f (o + (7 : Nat)) < (1099511627776 : Int)))) with h35 | h35
                ·
                  have k36 : (o + (0 : Nat)).succ ≤ N := by omega
                  have k37 : (o + (1 : Nat)).succ ≤ N := by clear k36; omega
                  have k38 : (o + (2 : Nat)).succ ≤ N := by clear k37 k36; omega
                  have k39 : (o + (3 : Nat)).succ ≤ N := by clear k38 k37 k36; omega
                  have k40 : (o + (4 : Nat)).succ ≤ N := by clear k39 k38 k37 k36; omega
                  have k41 : (o + (5 : Nat)).succ ≤ N := by clear k40 k39 k38 k37 k36; omega
                  have k42 : (o + (6 : Nat)).succ ≤ N := by clear k41 k40 k39 k38 k37 k36; omega
                  have k43 : (o + (7 : Nat)).succ ≤ N := by clear k42 k41 k40 k39 k38 k37 k36; omega
                  refine vcIntro [false, false, false, false, false, false, false, true] (And.intro (And.intro h35 (And.intro k43 (And.intro h27 (And.intro k42 (And.intro h20 (And.intro k41 (And.intro h14 (And.intro k40 (And.intro h9 (And.intro k39 (And.intro h5 (And.intro k38 (And.intro h2 (And.intro k37 (And.intro h0 (And.intro k36 True.intro)))))))))))))))) (And.intro (And.intro (And.intro True.intro (And.intro True.intro (And.intro True.intro (And.intro True.intro (And.intro True.intro (And.intro True.intro (And.intro True.intro (And.intro True.intro (And.intro True.intro (And.intro True.intro (And.intro True.intro (And.intro True.intro (And.intro True.intro (And.intro True.intro (And.intro True.intro (And.intro True.intro (And.intro True.intro (And.intro True.intro (And.intro True.intro (And.intro True.intro (And.intro True.intro (And.intro True.intro (And.intro True.intro (And.intro True.intro (And.intro True.intro (And.intro True.intro (And.intro True.intro (And.intro True.intro (And.intro True.intro (And.intro True.intro (And.intro True.intro (And.intro True.intro (And.intro True.intro (And.intro True.intro (And.intro True.intro (And.intro True.intro (And.intro True.intro (And.intro True.intro (And.intro True.intro (And.intro True.intro (And.intro True.intro (And.intro True.intro (And.intro True.intro (And.intro True.intro (And.intro True.intro (And.intro True.intro (And.intro True.intro True.intro))))))))))))))))))))))))))))))))))))))))))))))) True.intro) True.intro)) ?_
                  kernel_rfl
                ·
                  rcases Bool.eq_false_or_eq_true (!(Decidable.decide ((0 : Int) ≤ f (o + (8 : Nat))) && Decidable.decide (f (o + (8 : Nat)) < (1099511627776 : Int)))) with h44 | h44
                  ·
                    have k45 : (o + (0 : Nat)).succ ≤ N := by omega
                    have k46 : (o + (1 : Nat)).succ ≤ N := by clear k45; omega
                    have k47 : (o + (2 : Nat)).succ ≤ N := by clear k46 k45; omega
                    have k48 : (o + (3 : Nat)).succ ≤ N := by clear k47 k46 k45; omega
                    have k49 : (o + (4 : Nat)).succ ≤ N := by clear k48 k47 k46 k45; omega
                    have k50 : (o + (5 : Nat)).succ ≤ N := by clear k49 k48 k47 k46 k45; omega
                    have k51 : (o + (6 : Nat)).succ ≤ N := by clear k50 k49 k48 k47 k46 k45; omega
                    have k52 : (o + (7 : Nat)).succ ≤ N := by clear k51 k50 k49 k48 k47 k46 k45; omega
                    have k53 : (o + (8 : Nat)).succ ≤ N := by clear k52 k51 k50 k49 k48 k47 k46 k45; omega
                    refine vcIntro [false, false, false, false, false, false, false, false, true] (And.intro (And.intro h44 (And.intro k53 (And.intro h35 (And.intro k52 (And.intro h27 (And.intro k51 (And.intro h20 (And.intro k50 (And.intro h14 (And.intro k49 (And.intro h9 (And.intro k48 (And.intro h5 (And.intro k47 (And.intro h2 (And.intro k46 (And.intro h0 (And.intro k45 True.intro)))))))))))))))))) (And.intro (And.intro (And.intro True.intro (And.intro True.intro (And.intro True.intro (And.intro True.intro (And.intro True.intro (And.intro True.intro (And.intro True.intro (And.intro True.intro (And.intro True.intro (And.intro True.intro (And.intro True.intro (And.intro True.intro (And.intro True.intro (And.intro True.intro (And.intro True.intro (And.intro True.intro (And.intro True.intro (And.intro True.intro (And.intro True.intro (And.intro True.intro (And.intro True.intro (And.intro True.intro (And.intro True.intro (And.intro True.intro (And.intro True.intro (And.intro True.intro (And.intro True.intro (And.intro True.intro (And.intro True.intro (And.intro True.intro (And.intro True.intro (And.intro True.intro (And.intro True.intro (And.intro True.intro (And.intro True.intro (And.intro True.intro (And.intro True.intro (And.intro True.intro (And.intro True.intro (And.intro True.intro (And.intro True.intro (And.intro True.intro (And.intro True.intro (And.intro True.intro (And.intro True.intro (And.intro True.intro (And.intro True.intro True.intro))))))))))))))))))))))))))))))))))))))))))))))) True.intro) True.intro)) ?_
                    kernel_rfl
                  ·
                    rcases Bool.eq_false_or_eq_true (!(Decidable.decide ((0 : Int) ≤ f (o + (9 : Nat))) && Decidable.decide (f (o + (9 : Nat)) < (1099511627776 : Int)))) with h54 | h54
                    ·
                      have k55 : (o + (0 : Nat)).succ ≤ N := by omega
                      have k56 : (o + (1 : Nat)).succ ≤ N := by clear k55; omega
                      have k57 : (o + (2 : Nat)).succ ≤ N := by clear k56 k55; omega
                      have k58 : (o + (3 : Nat)).succ ≤ N := by clear k57 k56 k55; omega
                      have k59 : (o + (4 : Nat)).succ ≤ N := by clear k58 k57 k56 k55; omega
                      have k60 : (o + (5 : Nat)).succ ≤ N := by clear k59 k58 k57 k56 k55; omega
                      have k61 : (o + (6 : Nat)).succ ≤ N := by clear k60 k59 k58 k57 k56 k55; omega
                      have k62 : (o + (7 : Nat)).succ ≤ N := by clear k61 k60 k59 k58 k57 k56 k55; omega
                      have k63 : (o + (8 : Nat)).succ ≤ N := by clear k62 k61 k60 k59 k58 k57 k56 k55; omega
                      have k64 : (o + (9 : Nat)).succ ≤ N := by clear k63 k62 k61 k60 k59 k58 k57 k56 k55; omega
                      refine vcIntro [false, false, false, false, false, false, false, false, false, true] (And.intro (And.intro h54 (And.intro k64 (And.intro h44 (And.intro k63 (And.intro h35 (And.intro k62 (And.intro h27 (And.intro k61 (And.intro h20 (And.intro k60 (And.intro h14 (And.intro k59 (And.intro h9 (And.intro k58 (And.intro h5 (And.intro k57 (And.intro h2 (And.intro k56 (And.intro h0 (And.intro k55 True.intro)))))))))))))))))))) (And.intro (And.intro (And.intro True.intro (And.intro True.intro (And.intro True.intro (And.intro True.intro (And.intro True.intro (And.intro True.intro (And.intro True.intro (And.intro True.intro (And.intro True.intro (And.intro True.intro (And.intro True.intro (And.intro True.intro (And.intro True.intro (And.intro True.intro (And.intro True.intro (And.intro True.intro (And.intro True.intro (And.intro True.intro (And.intro True.intro (And.intro True.intro (And.intro True.intro (And.intro True.intro (And.intro True.intro (And.intro True.intro (And.intro True.intro (And.intro True.intro (And.intro True.intro (And.intro True.intro (And.intro True.intro (And.intro True.intro (And.intro True.intro (And.intro True.intro (And.intro True.intro (And.intro True.intro (And.intro True.intro (And.intro True.intro (And.intro True.intro (And.intro True.intro (And.intro True.intro (And.intro True.intro (And.intro True.intro (And.intro True.intro (And.intro True.intro (And.intro True.intro (And.intro True.intro (And.intro True.intro (And.intro True.intro True.intro))))))))))))))))))))))))))))))))))))))))))))))) True.intro) True.intro)) ?_
                      kernel_rfl
                    ·
                      rcases Bool.eq_false_or_eq_true (!(Decidable.decide ((0 : Int) ≤ f (o + (10 : Nat))) && Decidable.decide (f (o + (10 : Nat)) < (1099511627776 : Int)))) with h65 | h65
                      ·
                        have k66 : (o + (0 : Nat)).succ ≤ N := by omega
                        have k67 : (o + (1 : Nat)).succ ≤ N := by clear k66; omega
                        have k68 : (o + (2 : Nat)).succ ≤ N := by clear k67 k66; omega
                        have k69 : (o + (3 : Nat)).succ ≤ N := by clear k68 k67 k66; omega
                        have k70 : (o + (4 : Nat)).succ ≤ N := by clear k69 k68 k67 k66; omega
                        have k71 : (o + (5 : Nat)).succ ≤ N := by clear k70 k69 k68 k67 k66; omega
                        have k72 : (o + (6 : Nat)).succ ≤ N := by clear k71 k70 k69 k68 k67 k66; omega
                        have k73 : (o + (7 : Nat)).succ ≤ N := by clear k72 k71 k70 k69 k68 k67 k66; omega
                        have k74 : (o + (8 : Nat)).succ ≤ N := by clear k73 k72 k71 k70 k69 k68 k67 k66; omega
                        have k75 : (o + (9 : Nat)).succ ≤ N := by clear k74 k73 k72 k71 k70 k69 k68 k67 k66; omega
                        have k76 : (o + (10 : Nat)).succ ≤ N := by clear k75 k74 k73 k72 k71 k70 k69 k68 k67 k66; omega
                        refine vcIntro [false, false, false, false, false, false, false, false, false, false, true] (And.intro (And.intro h65 (And.intro k76 (And.intro h54 (And.intro k75 (And.intro h44 (And.intro k74 (And.intro h35 (And.intro k73 (And.intro h27 (And.intro k72 (And.intro h20 (And.intro k71 (And.intro h14 (And.intro k70 (And.intro h9 (And.intro k69 (And.intro h5 (And.intro k68 (And.intro h2 (And.intro k67 (And.intro h0 (And.intro k66 True.intro)))))))))))))))))))))) (And.intro (And.intro (And.intro True.intro (And.intro True.intro (And.intro True.intro (And.intro True.intro (And.intro True.intro (And.intro True.intro (And.intro True.intro (And.intro True.intro (And.intro True.intro (And.intro True.intro (And.intro True.intro (And.intro True.intro (And.intro True.intro (And.intro True.intro (And.intro True.intro (And.intro True.intro (And.intro True.intro (And.intro True.intro (And.intro True.intro (And.intro True.intro (And.intro True.intro (And.intro True.intro (And.intro True.intro (And.intro True.intro (And.intro True.intro (And.intro True.intro (And.intro True.intro (And.intro True.intro (And.intro True.intro (And.intro True.intro (And.intro True.intro (And.intro True.intro (And.intro True.intro (And.intro True.intro (And.intro True.intro (And.intro True.intro (And.intro True.intro (And.intro True.intro (And.intro True.intro (And.intro True.intro (And.intro True.intro (And.intro True.intro (And.intro True.intro (And.intro True.intro (And.intro True.intro (And.intro True.intro (And.intro True.intro True.intro))))))))))))))))))))))))))))))))))))))))))))))) True.intro) True.intro)) ?_
                        kernel_rfl
                      ·
                        rcases Bool.eq_false_or_eq_true (!(Decidable.decide ((0 : Int) ≤ f (o + (11 : Nat))) && Decidable.decide (f (o + (11 : Nat)) < (1099511627776 : Int)))) with h77 | h77
                        ·
                          have k78 : (o + (0 : Nat)).succ ≤ N := by omega
                          have k79 : (o + (1 : Nat)).succ ≤ N := by clear k78; omega
                          have k80 : (o + (2 : Nat)).succ ≤ N := by clear k79 k78; omega
                          have k81 : (o + (3 : Nat)).succ ≤ N := by clear k80 k79 k78; omega
                          have k82 : (o + (4 : Nat)).succ ≤ N := by clear k81 k80 k79 k78; omega
                          have k83 : (o + (5 : Nat)).succ ≤ N := by clear k82 k81 k80 k79 k78; omega
                          have k84 : (o + (6 : Nat)).succ ≤ N := by clear k83 k82 k81 k80 k79 k78; omega
                          have k85 : (o + (7 : Nat)).succ ≤ N := by clear k84 k83 k82 k81 k80 k79 k78; omega
                          have k86 : (o + (8 : Nat)).succ ≤ N := by clear k85 k84 k83 k82 k81 k80 k79 k78; omega
                          have k87 : (o + (9 : Nat)).succ ≤ N := by clear k86 k85 k84 k83 k82 k81 k80 k79 k78; omega
                          have k88 : (o + (10 : Nat)).succ ≤ N := by clear k87 k86 k85 k84 k83 k82 k81 k80 k79 k78; omega
                          have k89 : (o + (11 : Nat)).succ ≤ N := by clear k88 k87 k86 k85 k84 k83 k82 k81 k80 k79 k78; omega
                          refine vcIntro [false, false, false, false, false, false, false, false, false, false, false, true] (And.intro (And.intro h77 (And.intro k89 (And.intro h65 (And.intro k88 (And.intro h54 (And.intro k87 (And.intro h44 (And.intro k86 (And.intro h35 (And.intro k85 (And.intro h27 (And.intro k84 (And.intro h20 (And.intro k83 (And.intro h14 (And.intro k82 (And.intro h9 (And.intro k81 (And.intro h5 (And.intro k80 (And.intro h2 (And.intro k79 (And.intro h0 (And.intro k78 True.intro)))))))))))))))))))))))) (And.intro (And.intro (And.intro True.intro (And.intro True.intro (And.intro True.intro (And.intro True.intro (And.intro True.intro (And.intro True.intro (And.intro True.intro (And.intro True.intro (And.intro True.intro (And.intro True.intro (And.intro True.intro (And.intro True.intro (And.intro True.intro (And.intro True.intro (And.intro True.intro (And.intro True.intro (And.intro True.intro (And.intro True.intro (And.intro True.intro (And.intro True.intro (And.intro True.intro (And.intro True.intro (And.intro True.intro (And.intro True.intro (And.intro True.intro (And.intro True.intro (And.intro True.intro (And.intro True.intro (And.intro True.intro (And.intro True.intro (And.intro True.intro (And.intro True.intro (And.intro True.intro (And.intro True.intro (And.intro True.intro (And.intro True.intro (And.intro True.intro (And.intro True.intro (And.intro True.intro (And.intro True.intro (And.intro True.intro (And.intro True.intro (And.intro True.intro (And.intro True.intro (And.intro True.intro (And.intro True.intro (And.intro True.intro True.intro))))))))))))))))))))))))))))))))))))))))))))))) True.intro) True.intro)) ?_
                          kernel_rfl
                        ·
                          rcases Bool.eq_false_or_eq_true (!(Decidable.decide ((0 : Int) ≤ f (o + (12 : Nat))) && Decidable.decide (f (o + (12 : Nat)) < (1099511627776 : Int)))) with h90 | h90
                          ·
                            have k91 : (o + (0 : Nat)).succ ≤ N := by omega
                            have k92 : (o + (1 : Nat)).succ ≤ N := by clear k91; omega
                            have k93 : (o + (2 : Nat)).succ ≤ N := by clear k92 k91; omega
                            have k94 : (o + (3 : Nat)).succ ≤ N := by clear k93 k92 k91; omega
                            have k95 : (o + (4 : Nat)).succ ≤ N := by clear k94 k93 k92 k91; omega
                            have k96 : (o + (5 : Nat)).succ ≤ N := by clear k95 k94 k93 k92 k91; omega
                            have k97 : (o + (6 : Nat)).succ ≤ N := by clear k96 k95 k94 k93 k92 k91; omega
                            have k98 : (o + (7 : Nat)).succ ≤ N := by clear k97 k96 k95 k94 k93 k92 k91; omega
                            have k99 : (o + (8 : Nat)).succ ≤ N := by clear k98 k97 k96 k95 k94 k93 k92 k91; omega
                            have k100 : (o + (9 : Nat)).succ ≤ N := by clear k99 k98 k97 k96 k95 k94 k93 k92 k91; omega
                            have k101 : (o + (10 : Nat)).succ ≤ N := by clear k100 k99 k98 k97 k96 k95 k94 k93 k92 k91; omega
                            have k102 : (o + (11 : Nat)).succ ≤ N := by clear k101 k100 k99 k98 k97 k96 k95 k94 k93 k92 k91; omega
                            have k103 : (o + (12 : Nat)).succ ≤ N := by clear k102 k101 k100 k99 k98 k97 k96 k95 k94 k93 k92 k91; omega
                            refine vcIntro [false, false, false, false, false, false, false, false, false, false, false, false, true] (And.intro (And.intro h90 (And.intro k103 (And.intro h77 (And.intro k102 (And.intro h65 (And.intro k101 (And.intro h54 (And.intro k100 (And.intro h44 (And.intro k99 (And.intro h35 (And.intro k98 (And.intro h27 (And.intro k97 (And.intro h20 (And.intro k96 (And.intro h14 (And.intro k95 (And.intro h9 (And.intro k94 (And.intro h5 (And.intro k93 (And.intro h2 (And.intro k92 (And.intro h0 (And.intro k91 True.intro)))))))))))))))))))))))))) (And.intro (And.intro (And.intro True.intro (And.intro True.intro (And.intro True.intro (And.intro True.intro (And.intro True.intro (And.intro True.intro (And.intro True.intro (And.intro True.intro (And.intro True.intro (And.intro True.intro (And.intro True.intro (And.intro True.intro (And.intro True.intro (And.intro True.intro (And.intro True.intro (And.intro True.intro (And.intro True.intro (And.intro True.intro (And.intro True.intro (And.intro True.intro (And.intro True.intro (And.intro True.intro (And.intro True.intro (And.intro True.intro (And.intro True.intro (And.intro True.intro (And.intro True.intro (And.intro True.intro (And.intro True.intro (And.intro True.intro (And.intro True.intro (And.intro True.intro (And.intro True.intro (And.intro True.intro (And.intro True.intro (And.intro True.intro (And.intro True.intro (And.intro True.intro (And.intro True.intro (And.intro True.intro (And.intro True.intro (And.intro True.intro (And.intro True.intro (And.intro True.intro (And.intro True.intro (And.intro True.intro (And.intro True.intro True.intro))))))))))))))))))))))))))))))))))))))))))))))) True.intro) True.intro)) ?_
                            kernel_rfl
                          ·
                            rcases Bool.eq_false_or_eq_true (!(Decidable.decide ((0 : Int) ≤ f (o + (13 : Nat))) && Decidable.decide (f (o + (13 : Nat)) < (1099511627776 : Int)))) with h104 | h104
                            ·
                              have k105 : (o + (0 : Nat)).succ ≤ N := by omega
                              have k106 : (o + (1 : Nat)).succ ≤ N := by clear k105; omega
                              have k107 : (o + (2 : Nat)).succ ≤ N := by clear k106 k105; omega
                              have k108 : (o + (3 : Nat)).succ ≤ N := by clear k107 k106 k105; omega
                              have k109 : (o + (4 : Nat)).succ ≤ N := by clear k108 k107 k106 k105; omega
                              have k110 : (o + (5 : Nat)).succ ≤ N := by clear k109 k108 k107 k106 k105; omega
                              have k111 : (o + (6 : Nat)).succ ≤ N := by clear k110 k109 k108 k107 k106 k105; omega
                              have k112 : (o + (7 : Nat)).succ ≤ N := by clear k111 k110 k109 k108 k107 k106 k105; omega
                              have k113 : (o + (8 : Nat)).succ ≤ N := by clear k112 k111 k110 k109 k108 k107 k106 k105; omega
                              have k114 : (o + (9 : Nat)).succ ≤ N := by clear k113 k112 k111 k110 k109 k108 k107 k106 k105; omega
                              have k115 : (o + (10 : Nat)).succ ≤ N := by clear k114 k113 k112 k111 k110 k109 k108 k107 k106 k105; omega
                              have k116 : (o + (11 : Nat)).succ ≤ N := by clear k115 k114 k113 k112 k111 k110 k109 k108 k107 k106 k105; omega
                              have k117 : (o + (12 : Nat)).succ ≤ N := by clear k116 k115 k114 k113 k112 k111 k110 k109 k108 k107 k106 k105; omega
                              have k118 : (o + (13 : Nat)).succ ≤ N := by clear k117 k116 k115 k114 k113 k112 k111 k110 k109 k108 k107 k106 k105; omega
                              refine vcIntro [false, false, false, false, false, false, false, false, false, false, false, false, false, true] (And.intro (And.intro h104 (And.intro k118 (And.intro h90 (And.intro k117 (And.intro h77 (And.intro k116 (And.intro h65 (And.intro k115 (And.intro h54 (And.intro k114 (And.intro h44 (And.intro k113 (And.intro h35 (And.intro k112 (And.intro h27 (And.intro k111 (And.intro h20 (And.intro k110 (And.intro h14 (And.intro k109 (And.intro h9 (And.intro k108 (And.intro h5 (And.intro k107 (And.intro h2 (And.intro k106 (And.intro h0 (And.intro k105 True.intro)))))))))))))))))))))))))))) (And.intro (And.intro (And.intro True.intro (And.intro True.intro (And.intro True.intro (And.intro True.intro (And.intro True.intro (And.intro True.intro (And.intro True.intro (And.intro True.intro (And.intro True.intro (And.intro True.intro (And.intro True.intro (And.intro True.intro (And.intro True.intro (And.intro True.intro (And.intro True.intro (And.intro True.intro (And.intro True.intro (And.intro True.intro (And.intro True.intro (And.intro True.intro (And.intro True.intro (And.intro True.intro (And.intro True.intro (And.intro True.intro (And.intro True.intro (And.intro True.intro (And.intro True.intro (And.intro True.intro (And.intro True.intro (And.intro True.intro (And.intro True.intro (And.intro True.intro (And.intro True.intro (And.intro True.intro (And.intro True.intro (And.intro True.intro (And.intro True.intro (And.intro True.intro (And.intro True.intro (And.intro True.intro (And.intro True.intro (And.intro True.intro (And.intro True.intro (And.intro True.intro (And.intro True.intro (And.intro True.intro (And.intro True.intro True.intro))))))))))))))))))))))))))))))))))))))))))))))) True.intro) True.intro)) ?_
                              kernel_rfl
                            ·
                              rcases Bool.eq_false_or_eq_true (!(Decidable.decide ((0 : Int) ≤ f (o + (14 : Nat))) && Decidable.decide (f (o + (14 : Nat)) < (1099511627776 : Int)))) with h119 | h119
                              ·
                                have k120 : (o + (0 : Nat)).succ ≤ N := by omega
                                have k121 : (o + (1 : Nat)).succ ≤ N := by clear k120; omega
                                have k122 : (o + (2 : Nat)).succ ≤ N := by clear k121 k120; omega
                                have k123 : (o + (3 : Nat)).succ ≤ N := by clear k122 k121 k120; omega
                                have k124 : (o + (4 : Nat)).succ ≤ N := by clear k123 k122 k121 k120; omega
                                have k125 : (o + (5 : Nat)).succ ≤ N := by clear k124 k123 k122 k121 k120; omega
                                have k126 : (o + (6 : Nat)).succ ≤ N := by clear k125 k124 k123 k122 k121 k120; omega
                                have k127 : (o + (7 : Nat)).succ ≤ N := by clear k126 k125 k124 k123 k122 k121 k120; omega
                                have k128 : (o + (8 : Nat)).succ ≤ N := by clear k127 k126 k125 k124 k123 k122 k121 k120; omega
                                have k129 : (o + (9 : Nat)).succ ≤ N := by clear k128 k127 k126 k125 k124 k123 k122 k121 k120; omega
                                have k130 : (o + (10 : Nat)).succ ≤ N := by clear k129 k128 k127 k126 k125 k124 k123 k122 k121 k120; omega
                                have k131 : (o + (11 : Nat)).succ ≤ N := by clear k130 k129 k128 k127 k126 k125 k124 k123 k122 k121 k120; omega
                                have k132 : (o + (12 : Nat)).succ ≤ N := by clear k131 k130 k129 k128 k127 k126 k125 k124 k123 k122 k121 k120; omega
                                have k133 : (o + (13 : Nat)).succ ≤ N := by clear k132 k131 k130 k129 k128 k127 k126 k125 k124 k123 k122 k121 k120; omega
                                have k134 : (o + (14 : Nat)).succ ≤ N := by clear k133 k132 k131 k130 k129 k128 k127 k126 k125 k124 k123 k122 k121 k120; omega
                                refine vcIntro [false, false, false, false, false, false, false, false, false, false, false, false, false, false, true] (And.intro (And.intro h119 (And.intro k134 (And.intro h104 (And.intro k133 (And.intro h90 (And.intro k132 (And.intro h77 (And.intro k131 (And.intro h65 (And.intro k130 (And.intro h54 (And.intro k129 (And.intro h44 (And.intro k128 (And.intro h35 (And.intro k127 (And.intro h27 (And.intro k126 (And.intro h20 (And.intro k125 (And.intro h14 (And.intro k124 (And.intro h9 (And.intro k123 (And.intro h5 (And.intro k122 (And.intro h2 (And.intro k121 (And.intro h0 (And.intro k120 True.intro)))))))))))))))))))))))))))))) (And.intro (And.intro (And.intro True.intro (And.intro True.intro (And.intro True.intro (And.intro True.intro (And.intro True.intro (And.intro True.intro (And.intro True.intro (And.intro True.intro (And.intro True.intro (And.intro True.intro (And.intro True.intro (And.intro True.intro (And.intro True.intro (And.intro True.intro (And.intro True.intro (And.intro True.intro (And.intro True.intro (And.intro True.intro (And.intro True.intro (And.intro True.intro (And.intro True.intro (And.intro True.intro (And.intro True.intro (And.intro True.intro (And.intro True.intro (And.intro True.intro (And.intro True.intro (And.intro True.intro (And.intro True.intro (And.intro True.intro (And.intro True.intro (And.intro True.intro (And.intro True.intro (And.intro True.intro (And.intro True.intro (And.intro True.intro (And.intro True.intro (And.intro True.intro (And.intro True.intro (And.intro True.intro (And.intro True.intro (And.intro True.intro (And.intro True.intro (And.intro True.intro (And.intro True.intro (And.intro True.intro (And.intro True.intro True.intro))))))))))))))))))))))))))))))))))))))))))))))) True.intro) True.intro)) ?_
                                kernel_rfl
                              ·
                                rcases Bool.eq_false_or_eq_true (!(Decidable.decide ((0 : Int) ≤ f (o + (15 : Nat))) && Decidable.decide (f (o + (15 : Nat)) < (1099511627776 : Int)))) with h135 | h135
                                ·
                                  have k136 : (o + (0 : Nat)).succ ≤ N := by omega
                                  have k137 : (o + (1 : Nat)).succ ≤ N := by clear k136; omega
                                  have k138 : (o + (2 : Nat)).succ ≤ N := by clear k137 k136; omega
                                  have k139 : (o + (3 : Nat)).succ ≤ N := by clear k138 k137 k136; omega
                                  have k140 : (o + (4 : Nat)).succ ≤ N := by clear k139 k138 k137 k136; omega
                                  have k141 : (o + (5 : Nat)).succ ≤ N := by clear k140 k139 k138 k137 k136; omega
                                  have k142 : (o + (6 : Nat)).succ ≤ N := by clear k141 k140 k139 k138 k137 k136; omega
                                  have k143 : (o + (7 : Nat)).succ ≤ N := by clear k142 k141 k140 k139 k138 k137 k136; omega
                                  have k144 : (o + (8 : Nat)).succ ≤ N := by clear k143 k142 k141 k140 k139 k138 k137 k136; omega
                                  have k145 : (o + (9 : Nat)).succ ≤ N := by clear k144 k143 k142 k141 k140 k139 k138 k137 k136; omega
                                  have k146 : (o + (10 : Nat)).succ ≤ N := by clear k145 k144 k143 k142 k141 k140 k139 k138 k137 k136; omega
                                  have k147 : (o + (11 : Nat)).succ ≤ N := by clear k146 k145 k144 k143 k142 k141 k140 k139 k138 k137 k136; omega
                                  have k148 : (o + (12 : Nat)).succ ≤ N := by clear k147 k146 k145 k144 k143 k142 k141 k140 k139 k138 k137 k136; omega
                                  have k149 : (o + (13 : Nat)).succ ≤ N := by clear k148 k147 k146 k145 k144 k143 k142 k141 k140 k139 k138 k137 k136; omega
                                  have k150 : (o + (14 : Nat)).succ ≤ N := by clear k149 k148 k147 k146 k145 k144 k143 k142 k141 k140 k139 k138 k137 k136; omega
                                  have k151 : (o + (15 : Nat)).succ ≤ N := by clear k150 k149 k148 k147 k146 k145 k144 k143 k142 k141 k140 k139 k138 k137 k136; omega
                                  refine vcIntro [false, false, false, false, false, false, false, false, false, false, false, false, false, false, false, true] (And.intro (And.intro h135 (And.intro k151 (And.intro h119 (And.intro k150 (And.intro h104 (And.intro k149 (And.intro h90 (And.intro k148 (And.intro h77 (And.intro k147 (And.intro h65 (And.intro k146 (And.intro h54 (And.intro k145 (And.intro h44 (And.intro k144 (And.intro h35 (And.intro k143 (And.intro h27 (And.intro k142 (And.intro h20 (And.intro k141 (And.intro h14 (And.intro k140 (And.intro h9 (And.intro k139 (And.intro h5 (And.intro k138 (And.intro h2 (And.intro k137 (And.intro h0 (And.intro k136 True.intro)))))))))))))))))))))))))))))))) (And.intro (And.intro (And.intro True.intro (And.intro True.intro (And.intro True.intro (And.intro True.intro (And.intro True.intro (And.intro True.intro (And.intro True.intro (And.intro True.intro (And.intro True.intro (And.intro True.intro (And.intro True.intro (And.intro True.intro (And.intro True.intro (And.intro True.intro (And.intro True.intro (And.intro True.intro (And.intro True.intro (And.intro True.intro (And.intro True.intro (And.intro True.intro (And.intro True.intro (And.intro True.intro (And.intro True.intro (And.intro True.intro (And.intro True.intro (And.intro True.intro (And.intro True.intro (And.intro True.intro (And.intro True.intro (And.intro True.intro (And.intro True.intro (And.intro True.intro (And.intro True.intro (And.intro True.intro (And.intro True.intro (And.intro True.intro (And.intro True.intro (And.intro True.intro (And.intro True.intro (And.intro True.intro (And.intro True.intro (And.intro True.intro (And.intro True.intro (And.intro True.intro (And.intro True.intro (And.intro True.intro (And.intro True.intro True.intro))))))))))))))))))))))))))))))))))))))))))))))) True.intro) True.intro)) ?_
                                  kernel_rfl
                                · exact False.elim (by (simp [allMay, valueMay, List.range_succ] at *; omega))

def fullCt : List V → Hp → Option (Bool × Ct × Ct)
  | [.slice b o (.c 16) sz _], H => if Nat.beq sz 1 then match H.tr.get b with
    | some B => match B.row with
      | some (f, n) => some (allMay (shiftF o f), ⟨[b], [], goodV (shiftF o f), [none], 1, needLe o 16 n⟩, ⟨[b], [], badV, [none], 1, needLe o 16 n⟩)
      | none => none
    | none => none
    else none
  | _, _ => none
def full : Spec := spA 27 fullCt
theorem full_ok : SpecOk Try.prog full := spA_ok fun xs H b c1 c2 hc hb => by
  unfold fullCt at hc
  split at hc
  · rename_i b0 o sz m
    split at hc
    · rename_i hsz
      have hsz := Nat.eq_of_beq_eq_true hsz
      subst hsz
      split at hc
      · rename_i B hB
        split at hc
        · rename_i f n hr
          simp only [Option.some.injEq, Prod.mk.injEq] at hc
          obtain ⟨rfl, rfl, rfl⟩ := hc
          have hpl0 : place [b0] H.n 0 = b0 := rfl
          have e : shiftF o f = fun k => f (o.val + k) := funext fun k => shiftF_eq o f k
          have key : ∀ (v : V) (cs : List Prop), CallOk Try.prog 27 [.slice 0 (.s o.val) (.c 16) 1 (.s m.val)] (St (Hm (rowB f n.val) 1)) v (St (Hm [none] 1)) → ∃ xs0 bs0, CtOk Try.prog 27 [.slice b0 o (.c 16) 1 m] H ⟨[b0], [], v, [none], 1, cs⟩ xs0 bs0 := fun v cs hcall => by
            refine ⟨[.slice 0 (.s o.val) (.c 16) 1 (.s m.val)], rowB f n.val, by simp [nodupB], by simp [blt_of (hb _ _ hB)], rfl, rfl, rfl, ?_, ?_, ?_, ?_, hcall⟩
            · intro j b hj
              match j with
              | 0 => simp only [rowB, List.getElem?_cons_zero, Option.some.injEq] at hj; subst hj; exact ⟨by simp, B, hB, Blk.row_s hr⟩
              | j + 1 => simp [rowB] at hj
            · intro j b _ hj
              match j with
              | 0 => simp only [rowB, List.getElem?_cons_zero, Option.some.injEq] at hj; subst hj; rfl
              | j + 1 => simp [rowB] at hj
            · intro j b _ hj
              match j with
              | 0 => simp at hj
              | j + 1 => simp at hj
            · intro r ys hy
              simpa only [V.renL, V.ren, hpl0, VRs, VR, N.val] using hy
          refine ⟨fun hm hq => ?_, fun hm hq => ?_⟩
          · rw [e] at hm ⊢
            exact key _ _ (callKeep below_ok (full_good o.val m.val n.val f (needLe_ok hq) hm))
          · rw [e] at hm
            exact key _ _ (callKeep below_ok (full_bad o.val m.val n.val f (needLe_ok hq) hm))
        · simp at hc
      · simp at hc
    · simp at hc
  · simp at hc

theorem awake1 : ∃ hh, vcOf (runCall Try.prog noSpec noL 3000 29 [] H0 hh) (fun v _ => V.leP (.bool (.c true)) v) := by

  refine vcIntro [] (And.intro True.intro True.intro) ?_
  kernel_rfl
def awake : Spec := sp 29 fun xs => match xs with | [] => some (.bool (.c true)) | _ => none
theorem awake_ok : SpecOk Try.prog awake := closed_ok (CallQ.run noSpec_ok noL_ok mixed awake1) rfl
def specs : Spec := orS awake (orS below full)
theorem specs_ok : SpecOk Try.prog specs := orS_ok awake_ok (orS_ok below_ok full_ok)
end Go.Ideal.C5
