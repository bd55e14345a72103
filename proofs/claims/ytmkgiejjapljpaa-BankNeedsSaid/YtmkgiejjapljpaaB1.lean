/- Chapters 5 to 7: which views, which operations may be. Own text. -/
import Derived.Test.YtmkgiejjapljpaaR1
namespace Go.Ideal.B1
open Go.Proofs Go.Ideal Go.Ideal.L1
set_option linter.unusedSimpArgs false
set_option linter.unusedVariables false
set_option maxRecDepth 100000
set_option maxHeartbeats 8000000

def valMay (x : Int) : Bool := decide (0 ≤ x) && decide (x < 1099511627776)
def allMay : List Int → Bool
 | [] => true
 | x :: xs => valMay x && allMay xs

def zqB11_ (z : Nat → Int) := [z (nat_lit 0), z (nat_lit 1), z (nat_lit 2), z (nat_lit 3), z (nat_lit 4), z (nat_lit 5), z (nat_lit 6), z (nat_lit 7), z (nat_lit 8), z (nat_lit 9), z (nat_lit 10), z (nat_lit 11), z (nat_lit 12), z (nat_lit 13), z (nat_lit 14), z (nat_lit 15), z (nat_lit 16), z (nat_lit 17), z (nat_lit 18), z (nat_lit 19), z (nat_lit 20), z (nat_lit 21), z (nat_lit 22), z (nat_lit 23), z (nat_lit 24), z (nat_lit 25), z (nat_lit 26), z (nat_lit 27), z (nat_lit 28), z (nat_lit 29), z (nat_lit 30), z (nat_lit 31)]
def zqB12_  := [(4 : Int), (1 : Int), (1048576 : Int), (4 : Int), (1 : Int), (1 : Int), (4 : Int), (1 : Int), (1048576 : Int), (4 : Int), (1 : Int), (1048576 : Int), (4 : Int), (4 : Int), (1048576 : Int), (1 : Int), (1 : Int), (1 : Int), (5 : Int), (1 : Int), (2 : Int), (5 : Int), (1 : Int), (1 : Int), (5 : Int), (1 : Int), (1 : Int), (1 : Int), (1 : Int), (1 : Int), (5 : Int), (5 : Int), (1 : Int)]
theorem vm1 (e : TypeId) (z : Nat → Int) : ∃ hh, vcOf (runCall Try.prog below noL 3000 32 [.ptr 0 (.c 0)] (Hm (readB e 16 32 z) 1) hh) (fun v H1 => retP 1 [0] v H1 (.bool (.s (allMay ((List.range 32).map z)))) [none] 1) := by

 rcases Bool.eq_false_or_eq_true (!(decide ((0 : Int) ≤ z (nat_lit 0)) && decide (z (nat_lit 0) < (1099511627776 : Int)))) with h0 | h0
 ·
  refine vcIntro [true] (an (an h0 tt) (an (show allMay (zqB11_ z) = false by ((try dsimp only [zqB11_, zqB12_] at *); simp at *; simp [allMay, valMay, List.range_succ] at *; omega)) tt)) ?_
  kernel_rfl
 ·
  rcases Bool.eq_false_or_eq_true (!(decide ((0 : Int) ≤ z (nat_lit 16)) && decide (z (nat_lit 16) < (1099511627776 : Int)))) with h1 | h1
  ·
   refine vcIntro [false, true] (an (an h1 (an h0 tt)) (an (show allMay (zqB11_ z) = false by ((try dsimp only [zqB11_, zqB12_] at *); simp at *; simp [allMay, valMay, List.range_succ] at *; omega)) tt)) ?_
   kernel_rfl
  ·
   rcases Bool.eq_false_or_eq_true (!(decide ((0 : Int) ≤ z (nat_lit 1)) && decide (z (nat_lit 1) < (1099511627776 : Int)))) with h2 | h2
   ·
    refine vcIntro [false, false, true] (an (an h2 (an h1 (an h0 tt))) (an (show allMay (zqB11_ z) = false by ((try dsimp only [zqB11_, zqB12_] at *); simp at *; simp [allMay, valMay, List.range_succ] at *; omega)) tt)) ?_
    kernel_rfl
   ·
    rcases Bool.eq_false_or_eq_true (!(decide ((0 : Int) ≤ z (nat_lit 17)) && decide (z (nat_lit 17) < (1099511627776 : Int)))) with h3 | h3
    ·
     refine vcIntro [false, false, false, true] (an (an h3 (an h2 (an h1 (an h0 tt)))) (an (show allMay (zqB11_ z) = false by ((try dsimp only [zqB11_, zqB12_] at *); simp at *; simp [allMay, valMay, List.range_succ] at *; omega)) tt)) ?_
     kernel_rfl
    ·
     rcases Bool.eq_false_or_eq_true (!(decide ((0 : Int) ≤ z (nat_lit 2)) && decide (z (nat_lit 2) < (1099511627776 : Int)))) with h4 | h4
     ·
      refine vcIntro [false, false, false, false, true] (an (an h4 (an h3 (an h2 (an h1 (an h0 tt))))) (an (show allMay (zqB11_ z) = false by ((try dsimp only [zqB11_, zqB12_] at *); simp at *; simp [allMay, valMay, List.range_succ] at *; omega)) tt)) ?_
      kernel_rfl
     ·
      rcases Bool.eq_false_or_eq_true (!(decide ((0 : Int) ≤ z (nat_lit 18)) && decide (z (nat_lit 18) < (1099511627776 : Int)))) with h5 | h5
      ·
       refine vcIntro [false, false, false, false, false, true] (an (an h5 (an h4 (an h3 (an h2 (an h1 (an h0 tt)))))) (an (show allMay (zqB11_ z) = false by ((try dsimp only [zqB11_, zqB12_] at *); simp at *; simp [allMay, valMay, List.range_succ] at *; omega)) tt)) ?_
       kernel_rfl
      ·
       rcases Bool.eq_false_or_eq_true (!(decide ((0 : Int) ≤ z (nat_lit 3)) && decide (z (nat_lit 3) < (1099511627776 : Int)))) with h6 | h6
       ·
        refine vcIntro [false, false, false, false, false, false, true] (an (an h6 (an h5 (an h4 (an h3 (an h2 (an h1 (an h0 tt))))))) (an (show allMay (zqB11_ z) = false by ((try dsimp only [zqB11_, zqB12_] at *); simp at *; simp [allMay, valMay, List.range_succ] at *; omega)) tt)) ?_
        kernel_rfl
       ·
        rcases Bool.eq_false_or_eq_true (!(decide ((0 : Int) ≤ z (nat_lit 19)) && decide (z (nat_lit 19) < (1099511627776 : Int)))) with h7 | h7
        ·
         refine vcIntro [false, false, false, false, false, false, false, true] (an (an h7 (an h6 (an h5 (an h4 (an h3 (an h2 (an h1 (an h0 tt)))))))) (an (show allMay (zqB11_ z) = false by ((try dsimp only [zqB11_, zqB12_] at *); simp at *; simp [allMay, valMay, List.range_succ] at *; omega)) tt)) ?_
         kernel_rfl
        ·
         rcases Bool.eq_false_or_eq_true (!(decide ((0 : Int) ≤ z (nat_lit 4)) && decide (z (nat_lit 4) < (1099511627776 : Int)))) with h8 | h8
         ·
          refine vcIntro [false, false, false, false, false, false, false, false, true] (an (an h8 (an h7 (an h6 (an h5 (an h4 (an h3 (an h2 (an h1 (an h0 tt))))))))) (an (show allMay (zqB11_ z) = false by ((try dsimp only [zqB11_, zqB12_] at *); simp at *; simp [allMay, valMay, List.range_succ] at *; omega)) tt)) ?_
          kernel_rfl
         ·
          rcases Bool.eq_false_or_eq_true (!(decide ((0 : Int) ≤ z (nat_lit 20)) && decide (z (nat_lit 20) < (1099511627776 : Int)))) with h9 | h9
          ·
           refine vcIntro [false, false, false, false, false, false, false, false, false, true] (an (an h9 (an h8 (an h7 (an h6 (an h5 (an h4 (an h3 (an h2 (an h1 (an h0 tt)))))))))) (an (show allMay (zqB11_ z) = false by ((try dsimp only [zqB11_, zqB12_] at *); simp at *; simp [allMay, valMay, List.range_succ] at *; omega)) tt)) ?_
           kernel_rfl
          ·
           rcases Bool.eq_false_or_eq_true (!(decide ((0 : Int) ≤ z (nat_lit 5)) && decide (z (nat_lit 5) < (1099511627776 : Int)))) with h10 | h10
           ·
            refine vcIntro [false, false, false, false, false, false, false, false, false, false, true] (an (an h10 (an h9 (an h8 (an h7 (an h6 (an h5 (an h4 (an h3 (an h2 (an h1 (an h0 tt))))))))))) (an (show allMay (zqB11_ z) = false by ((try dsimp only [zqB11_, zqB12_] at *); simp at *; simp [allMay, valMay, List.range_succ] at *; omega)) tt)) ?_
            kernel_rfl
           ·
            rcases Bool.eq_false_or_eq_true (!(decide ((0 : Int) ≤ z (nat_lit 21)) && decide (z (nat_lit 21) < (1099511627776 : Int)))) with h11 | h11
            ·
             refine vcIntro [false, false, false, false, false, false, false, false, false, false, false, true] (an (an h11 (an h10 (an h9 (an h8 (an h7 (an h6 (an h5 (an h4 (an h3 (an h2 (an h1 (an h0 tt)))))))))))) (an (show allMay (zqB11_ z) = false by ((try dsimp only [zqB11_, zqB12_] at *); simp at *; simp [allMay, valMay, List.range_succ] at *; omega)) tt)) ?_
             kernel_rfl
            ·
             rcases Bool.eq_false_or_eq_true (!(decide ((0 : Int) ≤ z (nat_lit 6)) && decide (z (nat_lit 6) < (1099511627776 : Int)))) with h12 | h12
             ·
              refine vcIntro [false, false, false, false, false, false, false, false, false, false, false, false, true] (an (an h12 (an h11 (an h10 (an h9 (an h8 (an h7 (an h6 (an h5 (an h4 (an h3 (an h2 (an h1 (an h0 tt))))))))))))) (an (show allMay (zqB11_ z) = false by ((try dsimp only [zqB11_, zqB12_] at *); simp at *; simp [allMay, valMay, List.range_succ] at *; omega)) tt)) ?_
              kernel_rfl
             ·
              rcases Bool.eq_false_or_eq_true (!(decide ((0 : Int) ≤ z (nat_lit 22)) && decide (z (nat_lit 22) < (1099511627776 : Int)))) with h13 | h13
              ·
               refine vcIntro [false, false, false, false, false, false, false, false, false, false, false, false, false, true] (an (an h13 (an h12 (an h11 (an h10 (an h9 (an h8 (an h7 (an h6 (an h5 (an h4 (an h3 (an h2 (an h1 (an h0 tt)))))))))))))) (an (show allMay (zqB11_ z) = false by ((try dsimp only [zqB11_, zqB12_] at *); simp at *; simp [allMay, valMay, List.range_succ] at *; omega)) tt)) ?_
               kernel_rfl
              ·
               rcases Bool.eq_false_or_eq_true (!(decide ((0 : Int) ≤ z (nat_lit 7)) && decide (z (nat_lit 7) < (1099511627776 : Int)))) with h14 | h14
               ·
                refine vcIntro [false, false, false, false, false, false, false, false, false, false, false, false, false, false, true] (an (an h14 (an h13 (an h12 (an h11 (an h10 (an h9 (an h8 (an h7 (an h6 (an h5 (an h4 (an h3 (an h2 (an h1 (an h0 tt))))))))))))))) (an (show allMay (zqB11_ z) = false by ((try dsimp only [zqB11_, zqB12_] at *); simp at *; simp [allMay, valMay, List.range_succ] at *; omega)) tt)) ?_
                kernel_rfl
               ·
                rcases Bool.eq_false_or_eq_true (!(decide ((0 : Int) ≤ z (nat_lit 23)) && decide (z (nat_lit 23) < (1099511627776 : Int)))) with h15 | h15
                ·
                 refine vcIntro [false, false, false, false, false, false, false, false, false, false, false, false, false, false, false, true] (an (an h15 (an h14 (an h13 (an h12 (an h11 (an h10 (an h9 (an h8 (an h7 (an h6 (an h5 (an h4 (an h3 (an h2 (an h1 (an h0 tt)))))))))))))))) (an (show allMay (zqB11_ z) = false by ((try dsimp only [zqB11_, zqB12_] at *); simp at *; simp [allMay, valMay, List.range_succ] at *; omega)) tt)) ?_
                 kernel_rfl
                ·
                 rcases Bool.eq_false_or_eq_true (!(decide ((0 : Int) ≤ z (nat_lit 8)) && decide (z (nat_lit 8) < (1099511627776 : Int)))) with h16 | h16
                 ·
                  refine vcIntro [false, false, false, false, false, false, false, false, false, false, false, false, false, false, false, false, true] (an (an h16 (an h15 (an h14 (an h13 (an h12 (an h11 (an h10 (an h9 (an h8 (an h7 (an h6 (an h5 (an h4 (an h3 (an h2 (an h1 (an h0 tt))))))))))))))))) (an (show allMay (zqB11_ z) = false by ((try dsimp only [zqB11_, zqB12_] at *); simp at *; simp [allMay, valMay, List.range_succ] at *; omega)) tt)) ?_
                  kernel_rfl
                 ·
                  rcases Bool.eq_false_or_eq_true (!(decide ((0 : Int) ≤ z (nat_lit 24)) && decide (z (nat_lit 24) < (1099511627776 : Int)))) with h17 | h17
                  ·
                   refine vcIntro [false, false, false, false, false, false, false, false, false, false, false, false, false, false, false, false, false, true] (an (an h17 (an h16 (an h15 (an h14 (an h13 (an h12 (an h11 (an h10 (an h9 (an h8 (an h7 (an h6 (an h5 (an h4 (an h3 (an h2 (an h1 (an h0 tt)))))))))))))))))) (an (show allMay (zqB11_ z) = false by ((try dsimp only [zqB11_, zqB12_] at *); simp at *; simp [allMay, valMay, List.range_succ] at *; omega)) tt)) ?_
                   kernel_rfl
                  ·
                   rcases Bool.eq_false_or_eq_true (!(decide ((0 : Int) ≤ z (nat_lit 9)) && decide (z (nat_lit 9) < (1099511627776 : Int)))) with h18 | h18
                   ·
                    refine vcIntro [false, false, false, false, false, false, false, false, false, false, false, false, false, false, false, false, false, false, true] (an (an h18 (an h17 (an h16 (an h15 (an h14 (an h13 (an h12 (an h11 (an h10 (an h9 (an h8 (an h7 (an h6 (an h5 (an h4 (an h3 (an h2 (an h1 (an h0 tt))))))))))))))))))) (an (show allMay (zqB11_ z) = false by ((try dsimp only [zqB11_, zqB12_] at *); simp at *; simp [allMay, valMay, List.range_succ] at *; omega)) tt)) ?_
                    kernel_rfl
                   ·
                    rcases Bool.eq_false_or_eq_true (!(decide ((0 : Int) ≤ z (nat_lit 25)) && decide (z (nat_lit 25) < (1099511627776 : Int)))) with h19 | h19
                    ·
                     refine vcIntro [false, false, false, false, false, false, false, false, false, false, false, false, false, false, false, false, false, false, false, true] (an (an h19 (an h18 (an h17 (an h16 (an h15 (an h14 (an h13 (an h12 (an h11 (an h10 (an h9 (an h8 (an h7 (an h6 (an h5 (an h4 (an h3 (an h2 (an h1 (an h0 tt)))))))))))))))))))) (an (show allMay (zqB11_ z) = false by ((try dsimp only [zqB11_, zqB12_] at *); simp at *; simp [allMay, valMay, List.range_succ] at *; omega)) tt)) ?_
                     kernel_rfl
                    ·
                     rcases Bool.eq_false_or_eq_true (!(decide ((0 : Int) ≤ z (nat_lit 10)) && decide (z (nat_lit 10) < (1099511627776 : Int)))) with h20 | h20
                     ·
                      refine vcIntro [false, false, false, false, false, false, false, false, false, false, false, false, false, false, false, false, false, false, false, false, true] (an (an h20 (an h19 (an h18 (an h17 (an h16 (an h15 (an h14 (an h13 (an h12 (an h11 (an h10 (an h9 (an h8 (an h7 (an h6 (an h5 (an h4 (an h3 (an h2 (an h1 (an h0 tt))))))))))))))))))))) (an (show allMay (zqB11_ z) = false by ((try dsimp only [zqB11_, zqB12_] at *); simp at *; simp [allMay, valMay, List.range_succ] at *; omega)) tt)) ?_
                      kernel_rfl
                     ·
                      rcases Bool.eq_false_or_eq_true (!(decide ((0 : Int) ≤ z (nat_lit 26)) && decide (z (nat_lit 26) < (1099511627776 : Int)))) with h21 | h21
                      ·
                       refine vcIntro [false, false, false, false, false, false, false, false, false, false, false, false, false, false, false, false, false, false, false, false, false, true] (an (an h21 (an h20 (an h19 (an h18 (an h17 (an h16 (an h15 (an h14 (an h13 (an h12 (an h11 (an h10 (an h9 (an h8 (an h7 (an h6 (an h5 (an h4 (an h3 (an h2 (an h1 (an h0 tt)))))))))))))))))))))) (an (show allMay (zqB11_ z) = false by ((try dsimp only [zqB11_, zqB12_] at *); simp at *; simp [allMay, valMay, List.range_succ] at *; omega)) tt)) ?_
                       kernel_rfl
                      ·
                       rcases Bool.eq_false_or_eq_true (!(decide ((0 : Int) ≤ z (nat_lit 11)) && decide (z (nat_lit 11) < (1099511627776 : Int)))) with h22 | h22
                       ·
                        refine vcIntro [false, false, false, false, false, false, false, false, false, false, false, false, false, false, false, false, false, false, false, false, false, false, true] (an (an h22 (an h21 (an h20 (an h19 (an h18 (an h17 (an h16 (an h15 (an h14 (an h13 (an h12 (an h11 (an h10 (an h9 (an h8 (an h7 (an h6 (an h5 (an h4 (an h3 (an h2 (an h1 (an h0 tt))))))))))))))))))))))) (an (show allMay (zqB11_ z) = false by ((try dsimp only [zqB11_, zqB12_] at *); simp at *; simp [allMay, valMay, List.range_succ] at *; omega)) tt)) ?_
                        kernel_rfl
                       ·
                        rcases Bool.eq_false_or_eq_true (!(decide ((0 : Int) ≤ z (nat_lit 27)) && decide (z (nat_lit 27) < (1099511627776 : Int)))) with h23 | h23
                        ·
                         refine vcIntro [false, false, false, false, false, false, false, false, false, false, false, false, false, false, false, false, false, false, false, false, false, false, false, true] (an (an h23 (an h22 (an h21 (an h20 (an h19 (an h18 (an h17 (an h16 (an h15 (an h14 (an h13 (an h12 (an h11 (an h10 (an h9 (an h8 (an h7 (an h6 (an h5 (an h4 (an h3 (an h2 (an h1 (an h0 tt)))))))))))))))))))))))) (an (show allMay (zqB11_ z) = false by ((try dsimp only [zqB11_, zqB12_] at *); simp at *; simp [allMay, valMay, List.range_succ] at *; omega)) tt)) ?_
                         kernel_rfl
                        ·
                         rcases Bool.eq_false_or_eq_true (!(decide ((0 : Int) ≤ z (nat_lit 12)) && decide (z (nat_lit 12) < (1099511627776 : Int)))) with h24 | h24
                         ·
                          refine vcIntro [false, false, false, false, false, false, false, false, false, false, false, false, false, false, false, false, false, false, false, false, false, false, false, false, true] (an (an h24 (an h23 (an h22 (an h21 (an h20 (an h19 (an h18 (an h17 (an h16 (an h15 (an h14 (an h13 (an h12 (an h11 (an h10 (an h9 (an h8 (an h7 (an h6 (an h5 (an h4 (an h3 (an h2 (an h1 (an h0 tt))))))))))))))))))))))))) (an (show allMay (zqB11_ z) = false by ((try dsimp only [zqB11_, zqB12_] at *); simp at *; simp [allMay, valMay, List.range_succ] at *; omega)) tt)) ?_
                          kernel_rfl
                         ·
                          rcases Bool.eq_false_or_eq_true (!(decide ((0 : Int) ≤ z (nat_lit 28)) && decide (z (nat_lit 28) < (1099511627776 : Int)))) with h25 | h25
                          ·
                           refine vcIntro [false, false, false, false, false, false, false, false, false, false, false, false, false, false, false, false, false, false, false, false, false, false, false, false, false, true] (an (an h25 (an h24 (an h23 (an h22 (an h21 (an h20 (an h19 (an h18 (an h17 (an h16 (an h15 (an h14 (an h13 (an h12 (an h11 (an h10 (an h9 (an h8 (an h7 (an h6 (an h5 (an h4 (an h3 (an h2 (an h1 (an h0 tt)))))))))))))))))))))))))) (an (show allMay (zqB11_ z) = false by ((try dsimp only [zqB11_, zqB12_] at *); simp at *; simp [allMay, valMay, List.range_succ] at *; omega)) tt)) ?_
                           kernel_rfl
                          ·
                           rcases Bool.eq_false_or_eq_true (!(decide ((0 : Int) ≤ z (nat_lit 13)) && decide (z (nat_lit 13) < (1099511627776 : Int)))) with h26 | h26
                           ·
                            refine vcIntro [false, false, false, false, false, false, false, false, false, false, false, false, false, false, false, false, false, false, false, false, false, false, false, false, false, false, true] (an (an h26 (an h25 (an h24 (an h23 (an h22 (an h21 (an h20 (an h19 (an h18 (an h17 (an h16 (an h15 (an h14 (an h13 (an h12 (an h11 (an h10 (an h9 (an h8 (an h7 (an h6 (an h5 (an h4 (an h3 (an h2 (an h1 (an h0 tt))))))))))))))))))))))))))) (an (show allMay (zqB11_ z) = false by ((try dsimp only [zqB11_, zqB12_] at *); simp at *; simp [allMay, valMay, List.range_succ] at *; omega)) tt)) ?_
                            kernel_rfl
                           ·
                            rcases Bool.eq_false_or_eq_true (!(decide ((0 : Int) ≤ z (nat_lit 29)) && decide (z (nat_lit 29) < (1099511627776 : Int)))) with h27 | h27
                            ·
                             refine vcIntro [false, false, false, false, false, false, false, false, false, false, false, false, false, false, false, false, false, false, false, false, false, false, false, false, false, false, false, true] (an (an h27 (an h26 (an h25 (an h24 (an h23 (an h22 (an h21 (an h20 (an h19 (an h18 (an h17 (an h16 (an h15 (an h14 (an h13 (an h12 (an h11 (an h10 (an h9 (an h8 (an h7 (an h6 (an h5 (an h4 (an h3 (an h2 (an h1 (an h0 tt)))))))))))))))))))))))))))) (an (show allMay (zqB11_ z) = false by ((try dsimp only [zqB11_, zqB12_] at *); simp at *; simp [allMay, valMay, List.range_succ] at *; omega)) tt)) ?_
                             kernel_rfl
                            ·
                             rcases Bool.eq_false_or_eq_true (!(decide ((0 : Int) ≤ z (nat_lit 14)) && decide (z (nat_lit 14) < (1099511627776 : Int)))) with h28 | h28
                             ·
                              refine vcIntro [false, false, false, false, false, false, false, false, false, false, false, false, false, false, false, false, false, false, false, false, false, false, false, false, false, false, false, false, true] (an (an h28 (an h27 (an h26 (an h25 (an h24 (an h23 (an h22 (an h21 (an h20 (an h19 (an h18 (an h17 (an h16 (an h15 (an h14 (an h13 (an h12 (an h11 (an h10 (an h9 (an h8 (an h7 (an h6 (an h5 (an h4 (an h3 (an h2 (an h1 (an h0 tt))))))))))))))))))))))))))))) (an (show allMay (zqB11_ z) = false by ((try dsimp only [zqB11_, zqB12_] at *); simp at *; simp [allMay, valMay, List.range_succ] at *; omega)) tt)) ?_
                              kernel_rfl
                             ·
                              rcases Bool.eq_false_or_eq_true (!(decide ((0 : Int) ≤ z (nat_lit 30)) && decide (z (nat_lit 30) < (1099511627776 : Int)))) with h29 | h29
                              ·
                               refine vcIntro [false, false, false, false, false, false, false, false, false, false, false, false, false, false, false, false, false, false, false, false, false, false, false, false, false, false, false, false, false, true] (an (an h29 (an h28 (an h27 (an h26 (an h25 (an h24 (an h23 (an h22 (an h21 (an h20 (an h19 (an h18 (an h17 (an h16 (an h15 (an h14 (an h13 (an h12 (an h11 (an h10 (an h9 (an h8 (an h7 (an h6 (an h5 (an h4 (an h3 (an h2 (an h1 (an h0 tt)))))))))))))))))))))))))))))) (an (show allMay (zqB11_ z) = false by ((try dsimp only [zqB11_, zqB12_] at *); simp at *; simp [allMay, valMay, List.range_succ] at *; omega)) tt)) ?_
                               kernel_rfl
                              ·
                               rcases Bool.eq_false_or_eq_true (!(decide ((0 : Int) ≤ z (nat_lit 15)) && decide (z (nat_lit 15) < (1099511627776 : Int)))) with h30 | h30
                               ·
                                refine vcIntro [false, false, false, false, false, false, false, false, false, false, false, false, false, false, false, false, false, false, false, false, false, false, false, false, false, false, false, false, false, false, true] (an (an h30 (an h29 (an h28 (an h27 (an h26 (an h25 (an h24 (an h23 (an h22 (an h21 (an h20 (an h19 (an h18 (an h17 (an h16 (an h15 (an h14 (an h13 (an h12 (an h11 (an h10 (an h9 (an h8 (an h7 (an h6 (an h5 (an h4 (an h3 (an h2 (an h1 (an h0 tt))))))))))))))))))))))))))))))) (an (show allMay (zqB11_ z) = false by ((try dsimp only [zqB11_, zqB12_] at *); simp at *; simp [allMay, valMay, List.range_succ] at *; omega)) tt)) ?_
                                kernel_rfl
                               ·
                                rcases Bool.eq_false_or_eq_true (!(decide ((0 : Int) ≤ z (nat_lit 31)) && decide (z (nat_lit 31) < (1099511627776 : Int)))) with h31 | h31
                                ·
                                 refine vcIntro [false, false, false, false, false, false, false, false, false, false, false, false, false, false, false, false, false, false, false, false, false, false, false, false, false, false, false, false, false, false, false, true] (an (an h31 (an h30 (an h29 (an h28 (an h27 (an h26 (an h25 (an h24 (an h23 (an h22 (an h21 (an h20 (an h19 (an h18 (an h17 (an h16 (an h15 (an h14 (an h13 (an h12 (an h11 (an h10 (an h9 (an h8 (an h7 (an h6 (an h5 (an h4 (an h3 (an h2 (an h1 (an h0 tt)))))))))))))))))))))))))))))))) (an (show allMay (zqB11_ z) = false by ((try dsimp only [zqB11_, zqB12_] at *); simp at *; simp [allMay, valMay, List.range_succ] at *; omega)) tt)) ?_
                                 kernel_rfl
                                ·
                                 refine vcIntro [false, false, false, false, false, false, false, false, false, false, false, false, false, false, false, false, false, false, false, false, false, false, false, false, false, false, false, false, false, false, false, false] (an (an h31 (an h30 (an h29 (an h28 (an h27 (an h26 (an h25 (an h24 (an h23 (an h22 (an h21 (an h20 (an h19 (an h18 (an h17 (an h16 (an h15 (an h14 (an h13 (an h12 (an h11 (an h10 (an h9 (an h8 (an h7 (an h6 (an h5 (an h4 (an h3 (an h2 (an h1 (an h0 tt)))))))))))))))))))))))))))))))) (an (show allMay (zqB11_ z) = true by ((try dsimp only [zqB11_, zqB12_] at *); simp at *; simp [allMay, valMay, List.range_succ] at *; omega)) tt)) ?_
                                 kernel_rfl
theorem vm2 (k : Nat → Bool) (z : Nat → Int) : ∃ hh, vcOf (runCall Try.prog noSpec noL 3000 42 [.agg (cellsK 16 k 32 z)] H0 hh) (fun v _ => V.leP (.bool (.s (allMay ((List.range 32).map z)))) v) := by

 rcases Bool.eq_false_or_eq_true (decide (z (nat_lit 0) < (0 : Int))) with h0 | h0
 ·
  refine vcIntro [true] (an (an h0 tt) (show allMay (zqB11_ z) = false by ((try dsimp only [zqB11_, zqB12_] at *); simp [allMay, valMay, List.range_succ] at *; omega))) ?_
  kernel_rfl
 ·
  rcases Bool.eq_false_or_eq_true (decide (z (nat_lit 0) > (1099511627775 : Int))) with h1 | h1
  ·
   refine vcIntro [false, true] (an (an h1 (an h0 tt)) (show allMay (zqB11_ z) = false by ((try dsimp only [zqB11_, zqB12_] at *); simp [allMay, valMay, List.range_succ] at *; omega))) ?_
   kernel_rfl
  ·
   rcases Bool.eq_false_or_eq_true (decide (z (nat_lit 16) < (0 : Int))) with h2 | h2
   ·
    refine vcIntro [false, false, true] (an (an h2 (an h1 (an h0 tt))) (show allMay (zqB11_ z) = false by ((try dsimp only [zqB11_, zqB12_] at *); simp [allMay, valMay, List.range_succ] at *; omega))) ?_
    kernel_rfl
   ·
    rcases Bool.eq_false_or_eq_true (decide (z (nat_lit 16) > (1099511627775 : Int))) with h3 | h3
    ·
     refine vcIntro [false, false, false, true] (an (an h3 (an h2 (an h1 (an h0 tt)))) (show allMay (zqB11_ z) = false by ((try dsimp only [zqB11_, zqB12_] at *); simp [allMay, valMay, List.range_succ] at *; omega))) ?_
     kernel_rfl
    ·
     rcases Bool.eq_false_or_eq_true (decide (z (nat_lit 1) < (0 : Int))) with h4 | h4
     ·
      refine vcIntro [false, false, false, false, true] (an (an h4 (an h3 (an h2 (an h1 (an h0 tt))))) (show allMay (zqB11_ z) = false by ((try dsimp only [zqB11_, zqB12_] at *); simp [allMay, valMay, List.range_succ] at *; omega))) ?_
      kernel_rfl
     ·
      rcases Bool.eq_false_or_eq_true (decide (z (nat_lit 1) > (1099511627775 : Int))) with h5 | h5
      ·
       refine vcIntro [false, false, false, false, false, true] (an (an h5 (an h4 (an h3 (an h2 (an h1 (an h0 tt)))))) (show allMay (zqB11_ z) = false by ((try dsimp only [zqB11_, zqB12_] at *); simp [allMay, valMay, List.range_succ] at *; omega))) ?_
       kernel_rfl
      ·
       rcases Bool.eq_false_or_eq_true (decide (z (nat_lit 17) < (0 : Int))) with h6 | h6
       ·
        refine vcIntro [false, false, false, false, false, false, true] (an (an h6 (an h5 (an h4 (an h3 (an h2 (an h1 (an h0 tt))))))) (show allMay (zqB11_ z) = false by ((try dsimp only [zqB11_, zqB12_] at *); simp [allMay, valMay, List.range_succ] at *; omega))) ?_
        kernel_rfl
       ·
        rcases Bool.eq_false_or_eq_true (decide (z (nat_lit 17) > (1099511627775 : Int))) with h7 | h7
        ·
         refine vcIntro [false, false, false, false, false, false, false, true] (an (an h7 (an h6 (an h5 (an h4 (an h3 (an h2 (an h1 (an h0 tt)))))))) (show allMay (zqB11_ z) = false by ((try dsimp only [zqB11_, zqB12_] at *); simp [allMay, valMay, List.range_succ] at *; omega))) ?_
         kernel_rfl
        ·
         rcases Bool.eq_false_or_eq_true (decide (z (nat_lit 2) < (0 : Int))) with h8 | h8
         ·
          refine vcIntro [false, false, false, false, false, false, false, false, true] (an (an h8 (an h7 (an h6 (an h5 (an h4 (an h3 (an h2 (an h1 (an h0 tt))))))))) (show allMay (zqB11_ z) = false by ((try dsimp only [zqB11_, zqB12_] at *); simp [allMay, valMay, List.range_succ] at *; omega))) ?_
          kernel_rfl
         ·
          rcases Bool.eq_false_or_eq_true (decide (z (nat_lit 2) > (1099511627775 : Int))) with h9 | h9
          ·
           refine vcIntro [false, false, false, false, false, false, false, false, false, true] (an (an h9 (an h8 (an h7 (an h6 (an h5 (an h4 (an h3 (an h2 (an h1 (an h0 tt)))))))))) (show allMay (zqB11_ z) = false by ((try dsimp only [zqB11_, zqB12_] at *); simp [allMay, valMay, List.range_succ] at *; omega))) ?_
           kernel_rfl
          ·
           rcases Bool.eq_false_or_eq_true (decide (z (nat_lit 18) < (0 : Int))) with h10 | h10
           ·
            refine vcIntro [false, false, false, false, false, false, false, false, false, false, true] (an (an h10 (an h9 (an h8 (an h7 (an h6 (an h5 (an h4 (an h3 (an h2 (an h1 (an h0 tt))))))))))) (show allMay (zqB11_ z) = false by ((try dsimp only [zqB11_, zqB12_] at *); simp [allMay, valMay, List.range_succ] at *; omega))) ?_
            kernel_rfl
           ·
            rcases Bool.eq_false_or_eq_true (decide (z (nat_lit 18) > (1099511627775 : Int))) with h11 | h11
            ·
             refine vcIntro [false, false, false, false, false, false, false, false, false, false, false, true] (an (an h11 (an h10 (an h9 (an h8 (an h7 (an h6 (an h5 (an h4 (an h3 (an h2 (an h1 (an h0 tt)))))))))))) (show allMay (zqB11_ z) = false by ((try dsimp only [zqB11_, zqB12_] at *); simp [allMay, valMay, List.range_succ] at *; omega))) ?_
             kernel_rfl
            ·
             rcases Bool.eq_false_or_eq_true (decide (z (nat_lit 3) < (0 : Int))) with h12 | h12
             ·
              refine vcIntro [false, false, false, false, false, false, false, false, false, false, false, false, true] (an (an h12 (an h11 (an h10 (an h9 (an h8 (an h7 (an h6 (an h5 (an h4 (an h3 (an h2 (an h1 (an h0 tt))))))))))))) (show allMay (zqB11_ z) = false by ((try dsimp only [zqB11_, zqB12_] at *); simp [allMay, valMay, List.range_succ] at *; omega))) ?_
              kernel_rfl
             ·
              rcases Bool.eq_false_or_eq_true (decide (z (nat_lit 3) > (1099511627775 : Int))) with h13 | h13
              ·
               refine vcIntro [false, false, false, false, false, false, false, false, false, false, false, false, false, true] (an (an h13 (an h12 (an h11 (an h10 (an h9 (an h8 (an h7 (an h6 (an h5 (an h4 (an h3 (an h2 (an h1 (an h0 tt)))))))))))))) (show allMay (zqB11_ z) = false by ((try dsimp only [zqB11_, zqB12_] at *); simp [allMay, valMay, List.range_succ] at *; omega))) ?_
               kernel_rfl
              ·
               rcases Bool.eq_false_or_eq_true (decide (z (nat_lit 19) < (0 : Int))) with h14 | h14
               ·
                refine vcIntro [false, false, false, false, false, false, false, false, false, false, false, false, false, false, true] (an (an h14 (an h13 (an h12 (an h11 (an h10 (an h9 (an h8 (an h7 (an h6 (an h5 (an h4 (an h3 (an h2 (an h1 (an h0 tt))))))))))))))) (show allMay (zqB11_ z) = false by ((try dsimp only [zqB11_, zqB12_] at *); simp [allMay, valMay, List.range_succ] at *; omega))) ?_
                kernel_rfl
               ·
                rcases Bool.eq_false_or_eq_true (decide (z (nat_lit 19) > (1099511627775 : Int))) with h15 | h15
                ·
                 refine vcIntro [false, false, false, false, false, false, false, false, false, false, false, false, false, false, false, true] (an (an h15 (an h14 (an h13 (an h12 (an h11 (an h10 (an h9 (an h8 (an h7 (an h6 (an h5 (an h4 (an h3 (an h2 (an h1 (an h0 tt)))))))))))))))) (show allMay (zqB11_ z) = false by ((try dsimp only [zqB11_, zqB12_] at *); simp [allMay, valMay, List.range_succ] at *; omega))) ?_
                 kernel_rfl
                ·
                 rcases Bool.eq_false_or_eq_true (decide (z (nat_lit 4) < (0 : Int))) with h16 | h16
                 ·
                  refine vcIntro [false, false, false, false, false, false, false, false, false, false, false, false, false, false, false, false, true] (an (an h16 (an h15 (an h14 (an h13 (an h12 (an h11 (an h10 (an h9 (an h8 (an h7 (an h6 (an h5 (an h4 (an h3 (an h2 (an h1 (an h0 tt))))))))))))))))) (show allMay (zqB11_ z) = false by ((try dsimp only [zqB11_, zqB12_] at *); simp [allMay, valMay, List.range_succ] at *; omega))) ?_
                  kernel_rfl
                 ·
                  rcases Bool.eq_false_or_eq_true (decide (z (nat_lit 4) > (1099511627775 : Int))) with h17 | h17
                  ·
                   refine vcIntro [false, false, false, false, false, false, false, false, false, false, false, false, false, false, false, false, false, true] (an (an h17 (an h16 (an h15 (an h14 (an h13 (an h12 (an h11 (an h10 (an h9 (an h8 (an h7 (an h6 (an h5 (an h4 (an h3 (an h2 (an h1 (an h0 tt)))))))))))))))))) (show allMay (zqB11_ z) = false by ((try dsimp only [zqB11_, zqB12_] at *); simp [allMay, valMay, List.range_succ] at *; omega))) ?_
                   kernel_rfl
                  ·
                   rcases Bool.eq_false_or_eq_true (decide (z (nat_lit 20) < (0 : Int))) with h18 | h18
                   ·
                    refine vcIntro [false, false, false, false, false, false, false, false, false, false, false, false, false, false, false, false, false, false, true] (an (an h18 (an h17 (an h16 (an h15 (an h14 (an h13 (an h12 (an h11 (an h10 (an h9 (an h8 (an h7 (an h6 (an h5 (an h4 (an h3 (an h2 (an h1 (an h0 tt))))))))))))))))))) (show allMay (zqB11_ z) = false by ((try dsimp only [zqB11_, zqB12_] at *); simp [allMay, valMay, List.range_succ] at *; omega))) ?_
                    kernel_rfl
                   ·
                    rcases Bool.eq_false_or_eq_true (decide (z (nat_lit 20) > (1099511627775 : Int))) with h19 | h19
                    ·
                     refine vcIntro [false, false, false, false, false, false, false, false, false, false, false, false, false, false, false, false, false, false, false, true] (an (an h19 (an h18 (an h17 (an h16 (an h15 (an h14 (an h13 (an h12 (an h11 (an h10 (an h9 (an h8 (an h7 (an h6 (an h5 (an h4 (an h3 (an h2 (an h1 (an h0 tt)))))))))))))))))))) (show allMay (zqB11_ z) = false by ((try dsimp only [zqB11_, zqB12_] at *); simp [allMay, valMay, List.range_succ] at *; omega))) ?_
                     kernel_rfl
                    ·
                     rcases Bool.eq_false_or_eq_true (decide (z (nat_lit 5) < (0 : Int))) with h20 | h20
                     ·
                      refine vcIntro [false, false, false, false, false, false, false, false, false, false, false, false, false, false, false, false, false, false, false, false, true] (an (an h20 (an h19 (an h18 (an h17 (an h16 (an h15 (an h14 (an h13 (an h12 (an h11 (an h10 (an h9 (an h8 (an h7 (an h6 (an h5 (an h4 (an h3 (an h2 (an h1 (an h0 tt))))))))))))))))))))) (show allMay (zqB11_ z) = false by ((try dsimp only [zqB11_, zqB12_] at *); simp [allMay, valMay, List.range_succ] at *; omega))) ?_
                      kernel_rfl
                     ·
                      rcases Bool.eq_false_or_eq_true (decide (z (nat_lit 5) > (1099511627775 : Int))) with h21 | h21
                      ·
                       refine vcIntro [false, false, false, false, false, false, false, false, false, false, false, false, false, false, false, false, false, false, false, false, false, true] (an (an h21 (an h20 (an h19 (an h18 (an h17 (an h16 (an h15 (an h14 (an h13 (an h12 (an h11 (an h10 (an h9 (an h8 (an h7 (an h6 (an h5 (an h4 (an h3 (an h2 (an h1 (an h0 tt)))))))))))))))))))))) (show allMay (zqB11_ z) = false by ((try dsimp only [zqB11_, zqB12_] at *); simp [allMay, valMay, List.range_succ] at *; omega))) ?_
                       kernel_rfl
                      ·
                       rcases Bool.eq_false_or_eq_true (decide (z (nat_lit 21) < (0 : Int))) with h22 | h22
                       ·
                        refine vcIntro [false, false, false, false, false, false, false, false, false, false, false, false, false, false, false, false, false, false, false, false, false, false, true] (an (an h22 (an h21 (an h20 (an h19 (an h18 (an h17 (an h16 (an h15 (an h14 (an h13 (an h12 (an h11 (an h10 (an h9 (an h8 (an h7 (an h6 (an h5 (an h4 (an h3 (an h2 (an h1 (an h0 tt))))))))))))))))))))))) (show allMay (zqB11_ z) = false by ((try dsimp only [zqB11_, zqB12_] at *); simp [allMay, valMay, List.range_succ] at *; omega))) ?_
                        kernel_rfl
                       ·
                        rcases Bool.eq_false_or_eq_true (decide (z (nat_lit 21) > (1099511627775 : Int))) with h23 | h23
                        ·
                         refine vcIntro [false, false, false, false, false, false, false, false, false, false, false, false, false, false, false, false, false, false, false, false, false, false, false, true] (an (an h23 (an h22 (an h21 (an h20 (an h19 (an h18 (an h17 (an h16 (an h15 (an h14 (an h13 (an h12 (an h11 (an h10 (an h9 (an h8 (an h7 (an h6 (an h5 (an h4 (an h3 (an h2 (an h1 (an h0 tt)))))))))))))))))))))))) (show allMay (zqB11_ z) = false by ((try dsimp only [zqB11_, zqB12_] at *); simp [allMay, valMay, List.range_succ] at *; omega))) ?_
                         kernel_rfl
                        ·
                         rcases Bool.eq_false_or_eq_true (decide (z (nat_lit 6) < (0 : Int))) with h24 | h24
                         ·
                          refine vcIntro [false, false, false, false, false, false, false, false, false, false, false, false, false, false, false, false, false, false, false, false, false, false, false, false, true] (an (an h24 (an h23 (an h22 (an h21 (an h20 (an h19 (an h18 (an h17 (an h16 (an h15 (an h14 (an h13 (an h12 (an h11 (an h10 (an h9 (an h8 (an h7 (an h6 (an h5 (an h4 (an h3 (an h2 (an h1 (an h0 tt))))))))))))))))))))))))) (show allMay (zqB11_ z) = false by ((try dsimp only [zqB11_, zqB12_] at *); simp [allMay, valMay, List.range_succ] at *; omega))) ?_
                          kernel_rfl
                         ·
                          rcases Bool.eq_false_or_eq_true (decide (z (nat_lit 6) > (1099511627775 : Int))) with h25 | h25
                          ·
                           refine vcIntro [false, false, false, false, false, false, false, false, false, false, false, false, false, false, false, false, false, false, false, false, false, false, false, false, false, true] (an (an h25 (an h24 (an h23 (an h22 (an h21 (an h20 (an h19 (an h18 (an h17 (an h16 (an h15 (an h14 (an h13 (an h12 (an h11 (an h10 (an h9 (an h8 (an h7 (an h6 (an h5 (an h4 (an h3 (an h2 (an h1 (an h0 tt)))))))))))))))))))))))))) (show allMay (zqB11_ z) = false by ((try dsimp only [zqB11_, zqB12_] at *); simp [allMay, valMay, List.range_succ] at *; omega))) ?_
                           kernel_rfl
                          ·
                           rcases Bool.eq_false_or_eq_true (decide (z (nat_lit 22) < (0 : Int))) with h26 | h26
                           ·
                            refine vcIntro [false, false, false, false, false, false, false, false, false, false, false, false, false, false, false, false, false, false, false, false, false, false, false, false, false, false, true] (an (an h26 (an h25 (an h24 (an h23 (an h22 (an h21 (an h20 (an h19 (an h18 (an h17 (an h16 (an h15 (an h14 (an h13 (an h12 (an h11 (an h10 (an h9 (an h8 (an h7 (an h6 (an h5 (an h4 (an h3 (an h2 (an h1 (an h0 tt))))))))))))))))))))))))))) (show allMay (zqB11_ z) = false by ((try dsimp only [zqB11_, zqB12_] at *); simp [allMay, valMay, List.range_succ] at *; omega))) ?_
                            kernel_rfl
                           ·
                            rcases Bool.eq_false_or_eq_true (decide (z (nat_lit 22) > (1099511627775 : Int))) with h27 | h27
                            ·
                             refine vcIntro [false, false, false, false, false, false, false, false, false, false, false, false, false, false, false, false, false, false, false, false, false, false, false, false, false, false, false, true] (an (an h27 (an h26 (an h25 (an h24 (an h23 (an h22 (an h21 (an h20 (an h19 (an h18 (an h17 (an h16 (an h15 (an h14 (an h13 (an h12 (an h11 (an h10 (an h9 (an h8 (an h7 (an h6 (an h5 (an h4 (an h3 (an h2 (an h1 (an h0 tt)))))))))))))))))))))))))))) (show allMay (zqB11_ z) = false by ((try dsimp only [zqB11_, zqB12_] at *); simp [allMay, valMay, List.range_succ] at *; omega))) ?_
                             kernel_rfl
                            ·
                             rcases Bool.eq_false_or_eq_true (decide (z (nat_lit 7) < (0 : Int))) with h28 | h28
                             ·
                              refine vcIntro [false, false, false, false, false, false, false, false, false, false, false, false, false, false, false, false, false, false, false, false, false, false, false, false, false, false, false, false, true] (an (an h28 (an h27 (an h26 (an h25 (an h24 (an h23 (an h22 (an h21 (an h20 (an h19 (an h18 (an h17 (an h16 (an h15 (an h14 (an h13 (an h12 (an h11 (an h10 (an h9 (an h8 (an h7 (an h6 (an h5 (an h4 (an h3 (an h2 (an h1 (an h0 tt))))))))))))))))))))))))))))) (show allMay (zqB11_ z) = false by ((try dsimp only [zqB11_, zqB12_] at *); simp [allMay, valMay, List.range_succ] at *; omega))) ?_
                              kernel_rfl
                             ·
                              rcases Bool.eq_false_or_eq_true (decide (z (nat_lit 7) > (1099511627775 : Int))) with h29 | h29
                              ·
                               refine vcIntro [false, false, false, false, false, false, false, false, false, false, false, false, false, false, false, false, false, false, false, false, false, false, false, false, false, false, false, false, false, true] (an (an h29 (an h28 (an h27 (an h26 (an h25 (an h24 (an h23 (an h22 (an h21 (an h20 (an h19 (an h18 (an h17 (an h16 (an h15 (an h14 (an h13 (an h12 (an h11 (an h10 (an h9 (an h8 (an h7 (an h6 (an h5 (an h4 (an h3 (an h2 (an h1 (an h0 tt)))))))))))))))))))))))))))))) (show allMay (zqB11_ z) = false by ((try dsimp only [zqB11_, zqB12_] at *); simp [allMay, valMay, List.range_succ] at *; omega))) ?_
                               kernel_rfl
                              ·
                               rcases Bool.eq_false_or_eq_true (decide (z (nat_lit 23) < (0 : Int))) with h30 | h30
                               ·
                                refine vcIntro [false, false, false, false, false, false, false, false, false, false, false, false, false, false, false, false, false, false, false, false, false, false, false, false, false, false, false, false, false, false, true] (an (an h30 (an h29 (an h28 (an h27 (an h26 (an h25 (an h24 (an h23 (an h22 (an h21 (an h20 (an h19 (an h18 (an h17 (an h16 (an h15 (an h14 (an h13 (an h12 (an h11 (an h10 (an h9 (an h8 (an h7 (an h6 (an h5 (an h4 (an h3 (an h2 (an h1 (an h0 tt))))))))))))))))))))))))))))))) (show allMay (zqB11_ z) = false by ((try dsimp only [zqB11_, zqB12_] at *); simp [allMay, valMay, List.range_succ] at *; omega))) ?_
                                kernel_rfl
                               ·
                                rcases Bool.eq_false_or_eq_true (decide (z (nat_lit 23) > (1099511627775 : Int))) with h31 | h31
                                ·
                                 refine vcIntro [false, false, false, false, false, false, false, false, false, false, false, false, false, false, false, false, false, false, false, false, false, false, false, false, false, false, false, false, false, false, false, true] (an (an h31 (an h30 (an h29 (an h28 (an h27 (an h26 (an h25 (an h24 (an h23 (an h22 (an h21 (an h20 (an h19 (an h18 (an h17 (an h16 (an h15 (an h14 (an h13 (an h12 (an h11 (an h10 (an h9 (an h8 (an h7 (an h6 (an h5 (an h4 (an h3 (an h2 (an h1 (an h0 tt)))))))))))))))))))))))))))))))) (show allMay (zqB11_ z) = false by ((try dsimp only [zqB11_, zqB12_] at *); simp [allMay, valMay, List.range_succ] at *; omega))) ?_
                                 kernel_rfl
                                ·
                                 rcases Bool.eq_false_or_eq_true (decide (z (nat_lit 8) < (0 : Int))) with h32 | h32
                                 ·
                                  refine vcIntro [false, false, false, false, false, false, false, false, false, false, false, false, false, false, false, false, false, false, false, false, false, false, false, false, false, false, false, false, false, false, false, false, true] (an (an h32 (an h31 (an h30 (an h29 (an h28 (an h27 (an h26 (an h25 (an h24 (an h23 (an h22 (an h21 (an h20 (an h19 (an h18 (an h17 (an h16 (an h15 (an h14 (an h13 (an h12 (an h11 (an h10 (an h9 (an h8 (an h7 (an h6 (an h5 (an h4 (an h3 (an h2 (an h1 (an h0 tt))))))))))))))))))))))))))))))))) (show allMay (zqB11_ z) = false by ((try dsimp only [zqB11_, zqB12_] at *); simp [allMay, valMay, List.range_succ] at *; omega))) ?_
                                  kernel_rfl
                                 ·
                                  rcases Bool.eq_false_or_eq_true (decide (z (nat_lit 8) > (1099511627775 : Int))) with h33 | h33
                                  ·
                                   refine vcIntro [false, false, false, false, false, false, false, false, false, false, false, false, false, false, false, false, false, false, false, false, false, false, false, false, false, false, false, false, false, false, false, false, false, true] (an (an h33 (an h32 (an h31 (an h30 (an h29 (an h28 (an h27 (an h26 (an h25 (an h24 (an h23 (an h22 (an h21 (an h20 (an h19 (an h18 (an h17 (an h16 (an h15 (an h14 (an h13 (an h12 (an h11 (an h10 (an h9 (an h8 (an h7 (an h6 (an h5 (an h4 (an h3 (an h2 (an h1 (an h0 tt)))))))))))))))))))))))))))))))))) (show allMay (zqB11_ z) = false by ((try dsimp only [zqB11_, zqB12_] at *); simp [allMay, valMay, List.range_succ] at *; omega))) ?_
                                   kernel_rfl
                                  ·
                                   rcases Bool.eq_false_or_eq_true (decide (z (nat_lit 24) < (0 : Int))) with h34 | h34
                                   ·
                                    refine vcIntro [false, false, false, false, false, false, false, false, false, false, false, false, false, false, false, false, false, false, false, false, false, false, false, false, false, false, false, false, false, false, false, false, false, false, true] (an (an h34 (an h33 (an h32 (an h31 (an h30 (an h29 (an h28 (an h27 (an h26 (an h25 (an h24 (an h23 (an h22 (an h21 (an h20 (an h19 (an h18 (an h17 (an h16 (an h15 (an h14 (an h13 (an h12 (an h11 (an h10 (an h9 (an h8 (an h7 (an h6 (an h5 (an h4 (an h3 (an h2 (an h1 (an h0 tt))))))))))))))))))))))))))))))))))) (show allMay (zqB11_ z) = false by ((try dsimp only [zqB11_, zqB12_] at *); simp [allMay, valMay, List.range_succ] at *; omega))) ?_
                                    kernel_rfl
                                   ·
                                    rcases Bool.eq_false_or_eq_true (decide (z (nat_lit 24) > (1099511627775 : Int))) with h35 | h35
                                    ·
                                     refine vcIntro [false, false, false, false, false, false, false, false, false, false, false, false, false, false, false, false, false, false, false, false, false, false, false, false, false, false, false, false, false, false, false, false, false, false, false, true] (an (an h35 (an h34 (an h33 (an h32 (an h31 (an h30 (an h29 (an h28 (an h27 (an h26 (an h25 (an h24 (an h23 (an h22 (an h21 (an h20 (an h19 (an h18 (an h17 (an h16 (an h15 (an h14 (an h13 (an h12 (an h11 (an h10 (an h9 (an h8 (an h7 (an h6 (an h5 (an h4 (an h3 (an h2 (an h1 (an h0 tt)))))))))))))))))))))))))))))))))))) (show allMay (zqB11_ z) = false by ((try dsimp only [zqB11_, zqB12_] at *); simp [allMay, valMay, List.range_succ] at *; omega))) ?_
                                     kernel_rfl
                                    ·
                                     rcases Bool.eq_false_or_eq_true (decide (z (nat_lit 9) < (0 : Int))) with h36 | h36
                                     ·
                                      refine vcIntro [false, false, false, false, false, false, false, false, false, false, false, false, false, false, false, false, false, false, false, false, false, false, false, false, false, false, false, false, false, false, false, false, false, false, false, false, true] (an (an h36 (an h35 (an h34 (an h33 (an h32 (an h31 (an h30 (an h29 (an h28 (an h27 (an h26 (an h25 (an h24 (an h23 (an h22 (an h21 (an h20 (an h19 (an h18 (an h17 (an h16 (an h15 (an h14 (an h13 (an h12 (an h11 (an h10 (an h9 (an h8 (an h7 (an h6 (an h5 (an h4 (an h3 (an h2 (an h1 (an h0 tt))))))))))))))))))))))))))))))))))))) (show allMay (zqB11_ z) = false by ((try dsimp only [zqB11_, zqB12_] at *); simp [allMay, valMay, List.range_succ] at *; omega))) ?_
                                      kernel_rfl
                                     ·
                                      rcases Bool.eq_false_or_eq_true (decide (z (nat_lit 9) > (1099511627775 : Int))) with h37 | h37
                                      ·
                                       refine vcIntro [false, false, false, false, false, false, false, false, false, false, false, false, false, false, false, false, false, false, false, false, false, false, false, false, false, false, false, false, false, false, false, false, false, false, false, false, false, true] (an (an h37 (an h36 (an h35 (an h34 (an h33 (an h32 (an h31 (an h30 (an h29 (an h28 (an h27 (an h26 (an h25 (an h24 (an h23 (an h22 (an h21 (an h20 (an h19 (an h18 (an h17 (an h16 (an h15 (an h14 (an h13 (an h12 (an h11 (an h10 (an h9 (an h8 (an h7 (an h6 (an h5 (an h4 (an h3 (an h2 (an h1 (an h0 tt)))))))))))))))))))))))))))))))))))))) (show allMay (zqB11_ z) = false by ((try dsimp only [zqB11_, zqB12_] at *); simp [allMay, valMay, List.range_succ] at *; omega))) ?_
                                       kernel_rfl
                                      ·
                                       rcases Bool.eq_false_or_eq_true (decide (z (nat_lit 25) < (0 : Int))) with h38 | h38
                                       ·
                                        refine vcIntro [false, false, false, false, false, false, false, false, false, false, false, false, false, false, false, false, false, false, false, false, false, false, false, false, false, false, false, false, false, false, false, false, false, false, false, false, false, false, true] (an (an h38 (an h37 (an h36 (an h35 (an h34 (an h33 (an h32 (an h31 (an h30 (an h29 (an h28 (an h27 (an h26 (an h25 (an h24 (an h23 (an h22 (an h21 (an h20 (an h19 (an h18 (an h17 (an h16 (an h15 (an h14 (an h13 (an h12 (an h11 (an h10 (an h9 (an h8 (an h7 (an h6 (an h5 (an h4 (an h3 (an h2 (an h1 (an h0 tt))))))))))))))))))))))))))))))))))))))) (show allMay (zqB11_ z) = false by ((try dsimp only [zqB11_, zqB12_] at *); simp [allMay, valMay, List.range_succ] at *; omega))) ?_
                                        kernel_rfl
                                       ·
                                        rcases Bool.eq_false_or_eq_true (decide (z (nat_lit 25) > (1099511627775 : Int))) with h39 | h39
                                        ·
                                         refine vcIntro [false, false, false, false, false, false, false, false, false, false, false, false, false, false, false, false, false, false, false, false, false, false, false, false, false, false, false, false, false, false, false, false, false, false, false, false, false, false, false, true] (an (an h39 (an h38 (an h37 (an h36 (an h35 (an h34 (an h33 (an h32 (an h31 (an h30 (an h29 (an h28 (an h27 (an h26 (an h25 (an h24 (an h23 (an h22 (an h21 (an h20 (an h19 (an h18 (an h17 (an h16 (an h15 (an h14 (an h13 (an h12 (an h11 (an h10 (an h9 (an h8 (an h7 (an h6 (an h5 (an h4 (an h3 (an h2 (an h1 (an h0 tt)))))))))))))))))))))))))))))))))))))))) (show allMay (zqB11_ z) = false by ((try dsimp only [zqB11_, zqB12_] at *); simp [allMay, valMay, List.range_succ] at *; omega))) ?_
                                         kernel_rfl
                                        ·
                                         rcases Bool.eq_false_or_eq_true (decide (z (nat_lit 10) < (0 : Int))) with h40 | h40
                                         ·
                                          refine vcIntro [false, false, false, false, false, false, false, false, false, false, false, false, false, false, false, false, false, false, false, false, false, false, false, false, false, false, false, false, false, false, false, false, false, false, false, false, false, false, false, false, true] (an (an h40 (an h39 (an h38 (an h37 (an h36 (an h35 (an h34 (an h33 (an h32 (an h31 (an h30 (an h29 (an h28 (an h27 (an h26 (an h25 (an h24 (an h23 (an h22 (an h21 (an h20 (an h19 (an h18 (an h17 (an h16 (an h15 (an h14 (an h13 (an h12 (an h11 (an h10 (an h9 (an h8 (an h7 (an h6 (an h5 (an h4 (an h3 (an h2 (an h1 (an h0 tt))))))))))))))))))))))))))))))))))))))))) (show allMay (zqB11_ z) = false by ((try dsimp only [zqB11_, zqB12_] at *); simp [allMay, valMay, List.range_succ] at *; omega))) ?_
                                          kernel_rfl
                                         ·
                                          rcases Bool.eq_false_or_eq_true (decide (z (nat_lit 10) > (1099511627775 : Int))) with h41 | h41
                                          ·
                                           refine vcIntro [false, false, false, false, false, false, false, false, false, false, false, false, false, false, false, false, false, false, false, false, false, false, false, false, false, false, false, false, false, false, false, false, false, false, false, false, false, false, false, false, false, true] (an (an h41 (an h40 (an h39 (an h38 (an h37 (an h36 (an h35 (an h34 (an h33 (an h32 (an h31 (an h30 (an h29 (an h28 (an h27 (an h26 (an h25 (an h24 (an h23 (an h22 (an h21 (an h20 (an h19 (an h18 (an h17 (an h16 (an h15 (an h14 (an h13 (an h12 (an h11 (an h10 (an h9 (an h8 (an h7 (an h6 (an h5 (an h4 (an h3 (an h2 (an h1 (an h0 tt)))))))))))))))))))))))))))))))))))))))))) (show allMay (zqB11_ z) = false by ((try dsimp only [zqB11_, zqB12_] at *); simp [allMay, valMay, List.range_succ] at *; omega))) ?_
                                           kernel_rfl
                                          ·
                                           rcases Bool.eq_false_or_eq_true (decide (z (nat_lit 26) < (0 : Int))) with h42 | h42
                                           ·
                                            refine vcIntro [false, false, false, false, false, false, false, false, false, false, false, false, false, false, false, false, false, false, false, false, false, false, false, false, false, false, false, false, false, false, false, false, false, false, false, false, false, false, false, false, false, false, true] (an (an h42 (an h41 (an h40 (an h39 (an h38 (an h37 (an h36 (an h35 (an h34 (an h33 (an h32 (an h31 (an h30 (an h29 (an h28 (an h27 (an h26 (an h25 (an h24 (an h23 (an h22 (an h21 (an h20 (an h19 (an h18 (an h17 (an h16 (an h15 (an h14 (an h13 (an h12 (an h11 (an h10 (an h9 (an h8 (an h7 (an h6 (an h5 (an h4 (an h3 (an h2 (an h1 (an h0 tt))))))))))))))))))))))))))))))))))))))))))) (show allMay (zqB11_ z) = false by ((try dsimp only [zqB11_, zqB12_] at *); simp [allMay, valMay, List.range_succ] at *; omega))) ?_
                                            kernel_rfl
                                           ·
                                            rcases Bool.eq_false_or_eq_true (decide (z (nat_lit 26) > (1099511627775 : Int))) with h43 | h43
                                            ·
                                             refine vcIntro [false, false, false, false, false, false, false, false, false, false, false, false, false, false, false, false, false, false, false, false, false, false, false, false, false, false, false, false, false, false, false, false, false, false, false, false, false, false, false, false, false, false, false, true] (an (an h43 (an h42 (an h41 (an h40 (an h39 (an h38 (an h37 (an h36 (an h35 (an h34 (an h33 (an h32 (an h31 (an h30 (an h29 (an h28 (an h27 (an h26 (an h25 (an h24 (an h23 (an h22 (an h21 (an h20 (an h19 (an h18 (an h17 (an h16 (an h15 (an h14 (an h13 (an h12 (an h11 (an h10 (an h9 (an h8 (an h7 (an h6 (an h5 (an h4 (an h3 (an h2 (an h1 (an h0 tt)))))))))))))))))))))))))))))))))))))))))))) (show allMay (zqB11_ z) = false by ((try dsimp only [zqB11_, zqB12_] at *); simp [allMay, valMay, List.range_succ] at *; omega))) ?_
                                             kernel_rfl
                                            ·
                                             rcases Bool.eq_false_or_eq_true (decide (z (nat_lit 11) < (0 : Int))) with h44 | h44
                                             ·
                                              refine vcIntro [false, false, false, false, false, false, false, false, false, false, false, false, false, false, false, false, false, false, false, false, false, false, false, false, false, false, false, false, false, false, false, false, false, false, false, false, false, false, false, false, false, false, false, false, true] (an (an h44 (an h43 (an h42 (an h41 (an h40 (an h39 (an h38 (an h37 (an h36 (an h35 (an h34 (an h33 (an h32 (an h31 (an h30 (an h29 (an h28 (an h27 (an h26 (an h25 (an h24 (an h23 (an h22 (an h21 (an h20 (an h19 (an h18 (an h17 (an h16 (an h15 (an h14 (an h13 (an h12 (an h11 (an h10 (an h9 (an h8 (an h7 (an h6 (an h5 (an h4 (an h3 (an h2 (an h1 (an h0 tt))))))))))))))))))))))))))))))))))))))))))))) (show allMay (zqB11_ z) = false by ((try dsimp only [zqB11_, zqB12_] at *); simp [allMay, valMay, List.range_succ] at *; omega))) ?_
                                              kernel_rfl
                                             ·
                                              rcases Bool.eq_false_or_eq_true (decide (z (nat_lit 11) > (1099511627775 : Int))) with h45 | h45
                                              ·
                                               refine vcIntro [false, false, false, false, false, false, false, false, false, false, false, false, false, false, false, false, false, false, false, false, false, false, false, false, false, false, false, false, false, false, false, false, false, false, false, false, false, false, false, false, false, false, false, false, false, true] (an (an h45 (an h44 (an h43 (an h42 (an h41 (an h40 (an h39 (an h38 (an h37 (an h36 (an h35 (an h34 (an h33 (an h32 (an h31 (an h30 (an h29 (an h28 (an h27 (an h26 (an h25 (an h24 (an h23 (an h22 (an h21 (an h20 (an h19 (an h18 (an h17 (an h16 (an h15 (an h14 (an h13 (an h12 (an h11 (an h10 (an h9 (an h8 (an h7 (an h6 (an h5 (an h4 (an h3 (an h2 (an h1 (an h0 tt)))))))))))))))))))))))))))))))))))))))))))))) (show allMay (zqB11_ z) = false by ((try dsimp only [zqB11_, zqB12_] at *); simp [allMay, valMay, List.range_succ] at *; omega))) ?_
                                               kernel_rfl
                                              ·
                                               rcases Bool.eq_false_or_eq_true (decide (z (nat_lit 27) < (0 : Int))) with h46 | h46
                                               ·
                                                refine vcIntro [false, false, false, false, false, false, false, false, false, false, false, false, false, false, false, false, false, false, false, false, false, false, false, false, false, false, false, false, false, false, false, false, false, false, false, false, false, false, false, false, false, false, false, false, false, false, true] (an (an h46 (an h45 (an h44 (an h43 (an h42 (an h41 (an h40 (an h39 (an h38 (an h37 (an h36 (an h35 (an h34 (an h33 (an h32 (an h31 (an h30 (an h29 (an h28 (an h27 (an h26 (an h25 (an h24 (an h23 (an h22 (an h21 (an h20 (an h19 (an h18 (an h17 (an h16 (an h15 (an h14 (an h13 (an h12 (an h11 (an h10 (an h9 (an h8 (an h7 (an h6 (an h5 (an h4 (an h3 (an h2 (an h1 (an h0 tt))))))))))))))))))))))))))))))))))))))))))))))) (show allMay (zqB11_ z) = false by ((try dsimp only [zqB11_, zqB12_] at *); simp [allMay, valMay, List.range_succ] at *; omega))) ?_
                                                kernel_rfl
                                               ·
                                                rcases Bool.eq_false_or_eq_true (decide (z (nat_lit 27) > (1099511627775 : Int))) with h47 | h47
                                                ·
                                                 refine vcIntro [false, false, false, false, false, false, false, false, false, false, false, false, false, false, false, false, false, false, false, false, false, false, false, false, false, false, false, false, false, false, false, false, false, false, false, false, false, false, false, false, false, false, false, false, false, false, false, true] (an (an h47 (an h46 (an h45 (an h44 (an h43 (an h42 (an h41 (an h40 (an h39 (an h38 (an h37 (an h36 (an h35 (an h34 (an h33 (an h32 (an h31 (an h30 (an h29 (an h28 (an h27 (an h26 (an h25 (an h24 (an h23 (an h22 (an h21 (an h20 (an h19 (an h18 (an h17 (an h16 (an h15 (an h14 (an h13 (an h12 (an h11 (an h10 (an h9 (an h8 (an h7 (an h6 (an h5 (an h4 (an h3 (an h2 (an h1 (an h0 tt)))))))))))))))))))))))))))))))))))))))))))))))) (show allMay (zqB11_ z) = false by ((try dsimp only [zqB11_, zqB12_] at *); simp [allMay, valMay, List.range_succ] at *; omega))) ?_
                                                 kernel_rfl
                                                ·
                                                 rcases Bool.eq_false_or_eq_true (decide (z (nat_lit 12) < (0 : Int))) with h48 | h48
                                                 ·
                                                  refine vcIntro [false, false, false, false, false, false, false, false, false, false, false, false, false, false, false, false, false, false, false, false, false, false, false, false, false, false, false, false, false, false, false, false, false, false, false, false, false, false, false, false, false, false, false, false, false, false, false, false, true] (an (an h48 (an h47 (an h46 (an h45 (an h44 (an h43 (an h42 (an h41 (an h40 (an h39 (an h38 (an h37 (an h36 (an h35 (an h34 (an h33 (an h32 (an h31 (an h30 (an h29 (an h28 (an h27 (an h26 (an h25 (an h24 (an h23 (an h22 (an h21 (an h20 (an h19 (an h18 (an h17 (an h16 (an h15 (an h14 (an h13 (an h12 (an h11 (an h10 (an h9 (an h8 (an h7 (an h6 (an h5 (an h4 (an h3 (an h2 (an h1 (an h0 tt))))))))))))))))))))))))))))))))))))))))))))))))) (show allMay (zqB11_ z) = false by ((try dsimp only [zqB11_, zqB12_] at *); simp [allMay, valMay, List.range_succ] at *; omega))) ?_
                                                  kernel_rfl
                                                 ·
                                                  rcases Bool.eq_false_or_eq_true (decide (z (nat_lit 12) > (1099511627775 : Int))) with h49 | h49
                                                  ·
                                                   refine vcIntro [false, false, false, false, false, false, false, false, false, false, false, false, false, false, false, false, false, false, false, false, false, false, false, false, false, false, false, false, false, false, false, false, false, false, false, false, false, false, false, false, false, false, false, false, false, false, false, false, false, true] (an (an h49 (an h48 (an h47 (an h46 (an h45 (an h44 (an h43 (an h42 (an h41 (an h40 (an h39 (an h38 (an h37 (an h36 (an h35 (an h34 (an h33 (an h32 (an h31 (an h30 (an h29 (an h28 (an h27 (an h26 (an h25 (an h24 (an h23 (an h22 (an h21 (an h20 (an h19 (an h18 (an h17 (an h16 (an h15 (an h14 (an h13 (an h12 (an h11 (an h10 (an h9 (an h8 (an h7 (an h6 (an h5 (an h4 (an h3 (an h2 (an h1 (an h0 tt)))))))))))))))))))))))))))))))))))))))))))))))))) (show allMay (zqB11_ z) = false by ((try dsimp only [zqB11_, zqB12_] at *); simp [allMay, valMay, List.range_succ] at *; omega))) ?_
                                                   kernel_rfl
                                                  ·
                                                   rcases Bool.eq_false_or_eq_true (decide (z (nat_lit 28) < (0 : Int))) with h50 | h50
                                                   ·
                                                    refine vcIntro [false, false, false, false, false, false, false, false, false, false, false, false, false, false, false, false, false, false, false, false, false, false, false, false, false, false, false, false, false, false, false, false, false, false, false, false, false, false, false, false, false, false, false, false, false, false, false, false, false, false, true] (an (an h50 (an h49 (an h48 (an h47 (an h46 (an h45 (an h44 (an h43 (an h42 (an h41 (an h40 (an h39 (an h38 (an h37 (an h36 (an h35 (an h34 (an h33 (an h32 (an h31 (an h30 (an h29 (an h28 (an h27 (an h26 (an h25 (an h24 (an h23 (an h22 (an h21 (an h20 (an h19 (an h18 (an h17 (an h16 (an h15 (an h14 (an h13 (an h12 (an h11 (an h10 (an h9 (an h8 (an h7 (an h6 (an h5 (an h4 (an h3 (an h2 (an h1 (an h0 tt))))))))))))))))))))))))))))))))))))))))))))))))))) (show allMay (zqB11_ z) = false by ((try dsimp only [zqB11_, zqB12_] at *); simp [allMay, valMay, List.range_succ] at *; omega))) ?_
                                                    kernel_rfl
                                                   ·
                                                    rcases Bool.eq_false_or_eq_true (decide (z (nat_lit 28) > (1099511627775 : Int))) with h51 | h51
                                                    ·
                                                     refine vcIntro [false, false, false, false, false, false, false, false, false, false, false, false, false, false, false, false, false, false, false, false, false, false, false, false, false, false, false, false, false, false, false, false, false, false, false, false, false, false, false, false, false, false, false, false, false, false, false, false, false, false, false, true] (an (an h51 (an h50 (an h49 (an h48 (an h47 (an h46 (an h45 (an h44 (an h43 (an h42 (an h41 (an h40 (an h39 (an h38 (an h37 (an h36 (an h35 (an h34 (an h33 (an h32 (an h31 (an h30 (an h29 (an h28 (an h27 (an h26 (an h25 (an h24 (an h23 (an h22 (an h21 (an h20 (an h19 (an h18 (an h17 (an h16 (an h15 (an h14 (an h13 (an h12 (an h11 (an h10 (an h9 (an h8 (an h7 (an h6 (an h5 (an h4 (an h3 (an h2 (an h1 (an h0 tt)))))))))))))))))))))))))))))))))))))))))))))))))))) (show allMay (zqB11_ z) = false by ((try dsimp only [zqB11_, zqB12_] at *); simp [allMay, valMay, List.range_succ] at *; omega))) ?_
                                                     kernel_rfl
                                                    ·
                                                     rcases Bool.eq_false_or_eq_true (decide (z (nat_lit 13) < (0 : Int))) with h52 | h52
                                                     ·
                                                      refine vcIntro [false, false, false, false, false, false, false, false, false, false, false, false, false, false, false, false, false, false, false, false, false, false, false, false, false, false, false, false, false, false, false, false, false, false, false, false, false, false, false, false, false, false, false, false, false, false, false, false, false, false, false, false, true] (an (an h52 (an h51 (an h50 (an h49 (an h48 (an h47 (an h46 (an h45 (an h44 (an h43 (an h42 (an h41 (an h40 (an h39 (an h38 (an h37 (an h36 (an h35 (an h34 (an h33 (an h32 (an h31 (an h30 (an h29 (an h28 (an h27 (an h26 (an h25 (an h24 (an h23 (an h22 (an h21 (an h20 (an h19 (an h18 (an h17 (an h16 (an h15 (an h14 (an h13 (an h12 (an h11 (an h10 (an h9 (an h8 (an h7 (an h6 (an h5 (an h4 (an h3 (an h2 (an h1 (an h0 tt))))))))))))))))))))))))))))))))))))))))))))))))))))) (show allMay (zqB11_ z) = false by ((try dsimp only [zqB11_, zqB12_] at *); simp [allMay, valMay, List.range_succ] at *; omega))) ?_
                                                      kernel_rfl
                                                     ·
                                                      rcases Bool.eq_false_or_eq_true (decide (z (nat_lit 13) > (1099511627775 : Int))) with h53 | h53
                                                      ·
                                                       refine vcIntro [false, false, false, false, false, false, false, false, false, false, false, false, false, false, false, false, false, false, false, false, false, false, false, false, false, false, false, false, false, false, false, false, false, false, false, false, false, false, false, false, false, false, false, false, false, false, false, false, false, false, false, false, false, true] (an (an h53 (an h52 (an h51 (an h50 (an h49 (an h48 (an h47 (an h46 (an h45 (an h44 (an h43 (an h42 (an h41 (an h40 (an h39 (an h38 (an h37 (an h36 (an h35 (an h34 (an h33 (an h32 (an h31 (an h30 (an h29 (an h28 (an h27 (an h26 (an h25 (an h24 (an h23 (an h22 (an h21 (an h20 (an h19 (an h18 (an h17 (an h16 (an h15 (an h14 (an h13 (an h12 (an h11 (an h10 (an h9 (an h8 (an h7 (an h6 (an h5 (an h4 (an h3 (an h2 (an h1 (an h0 tt)))))))))))))))))))))))))))))))))))))))))))))))))))))) (show allMay (zqB11_ z) = false by ((try dsimp only [zqB11_, zqB12_] at *); simp [allMay, valMay, List.range_succ] at *; omega))) ?_
                                                       kernel_rfl
                                                      ·
                                                       rcases Bool.eq_false_or_eq_true (decide (z (nat_lit 29) < (0 : Int))) with h54 | h54
                                                       ·
                                                        refine vcIntro [false, false, false, false, false, false, false, false, false, false, false, false, false, false, false, false, false, false, false, false, false, false, false, false, false, false, false, false, false, false, false, false, false, false, false, false, false, false, false, false, false, false, false, false, false, false, false, false, false, false, false, false, false, false, true] (an (an h54 (an h53 (an h52 (an h51 (an h50 (an h49 (an h48 (an h47 (an h46 (an h45 (an h44 (an h43 (an h42 (an h41 (an h40 (an h39 (an h38 (an h37 (an h36 (an h35 (an h34 (an h33 (an h32 (an h31 (an h30 (an h29 (an h28 (an h27 (an h26 (an h25 (an h24 (an h23 (an h22 (an h21 (an h20 (an h19 (an h18 (an h17 (an h16 (an h15 (an h14 (an h13 (an h12 (an h11 (an h10 (an h9 (an h8 (an h7 (an h6 (an h5 (an h4 (an h3 (an h2 (an h1 (an h0 tt))))))))))))))))))))))))))))))))))))))))))))))))))))))) (show allMay (zqB11_ z) = false by ((try dsimp only [zqB11_, zqB12_] at *); simp [allMay, valMay, List.range_succ] at *; omega))) ?_
                                                        kernel_rfl
                                                       ·
                                                        rcases Bool.eq_false_or_eq_true (decide (z (nat_lit 29) > (1099511627775 : Int))) with h55 | h55
                                                        ·
                                                         refine vcIntro [false, false, false, false, false, false, false, false, false, false, false, false, false, false, false, false, false, false, false, false, false, false, false, false, false, false, false, false, false, false, false, false, false, false, false, false, false, false, false, false, false, false, false, false, false, false, false, false, false, false, false, false, false, false, false, true] (an (an h55 (an h54 (an h53 (an h52 (an h51 (an h50 (an h49 (an h48 (an h47 (an h46 (an h45 (an h44 (an h43 (an h42 (an h41 (an h40 (an h39 (an h38 (an h37 (an h36 (an h35 (an h34 (an h33 (an h32 (an h31 (an h30 (an h29 (an h28 (an h27 (an h26 (an h25 (an h24 (an h23 (an h22 (an h21 (an h20 (an h19 (an h18 (an h17 (an h16 (an h15 (an h14 (an h13 (an h12 (an h11 (an h10 (an h9 (an h8 (an h7 (an h6 (an h5 (an h4 (an h3 (an h2 (an h1 (an h0 tt)))))))))))))))))))))))))))))))))))))))))))))))))))))))) (show allMay (zqB11_ z) = false by ((try dsimp only [zqB11_, zqB12_] at *); simp [allMay, valMay, List.range_succ] at *; omega))) ?_
                                                         kernel_rfl
                                                        ·
                                                         rcases Bool.eq_false_or_eq_true (decide (z (nat_lit 14) < (0 : Int))) with h56 | h56
                                                         ·
                                                          refine vcIntro [false, false, false, false, false, false, false, false, false, false, false, false, false, false, false, false, false, false, false, false, false, false, false, false, false, false, false, false, false, false, false, false, false, false, false, false, false, false, false, false, false, false, false, false, false, false, false, false, false, false, false, false, false, false, false, false, true] (an (an h56 (an h55 (an h54 (an h53 (an h52 (an h51 (an h50 (an h49 (an h48 (an h47 (an h46 (an h45 (an h44 (an h43 (an h42 (an h41 (an h40 (an h39 (an h38 (an h37 (an h36 (an h35 (an h34 (an h33 (an h32 (an h31 (an h30 (an h29 (an h28 (an h27 (an h26 (an h25 (an h24 (an h23 (an h22 (an h21 (an h20 (an h19 (an h18 (an h17 (an h16 (an h15 (an h14 (an h13 (an h12 (an h11 (an h10 (an h9 (an h8 (an h7 (an h6 (an h5 (an h4 (an h3 (an h2 (an h1 (an h0 tt))))))))))))))))))))))))))))))))))))))))))))))))))))))))) (show allMay (zqB11_ z) = false by ((try dsimp only [zqB11_, zqB12_] at *); simp [allMay, valMay, List.range_succ] at *; omega))) ?_
                                                          kernel_rfl
                                                         ·
                                                          rcases Bool.eq_false_or_eq_true (decide (z (nat_lit 14) > (1099511627775 : Int))) with h57 | h57
                                                          ·
                                                           refine vcIntro [false, false, false, false, false, false, false, false, false, false, false, false, false, false, false, false, false, false, false, false, false, false, false, false, false, false, false, false, false, false, false, false, false, false, false, false, false, false, false, false, false, false, false, false, false, false, false, false, false, false, false, false, false, false, false, false, false, true] (an (an h57 (an h56 (an h55 (an h54 (an h53 (an h52 (an h51 (an h50 (an h49 (an h48 (an h47 (an h46 (an h45 (an h44 (an h43 (an h42 (an h41 (an h40 (an h39 (an h38 (an h37 (an h36 (an h35 (an h34 (an h33 (an h32 (an h31 (an h30 (an h29 (an h28 (an h27 (an h26 (an h25 (an h24 (an h23 (an h22 (an h21 (an h20 (an h19 (an h18 (an h17 (an h16 (an h15 (an h14 (an h13 (an h12 (an h11 (an h10 (an h9 (an h8 (an h7 (an h6 (an h5 (an h4 (an h3 (an h2 (an h1 (an h0 tt)))))))))))))))))))))))))))))))))))))))))))))))))))))))))) (show allMay (zqB11_ z) = false by ((try dsimp only [zqB11_, zqB12_] at *); simp [allMay, valMay, List.range_succ] at *; omega))) ?_
                                                           kernel_rfl
                                                          ·
                                                           rcases Bool.eq_false_or_eq_true (decide (z (nat_lit 30) < (0 : Int))) with h58 | h58
                                                           ·
                                                            refine vcIntro [false, false, false, false, false, false, false, false, false, false, false, false, false, false, false, false, false, false, false, false, false, false, false, false, false, false, false, false, false, false, false, false, false, false, false, false, false, false, false, false, false, false, false, false, false, false, false, false, false, false, false, false, false, false, false, false, false, false, true] (an (an h58 (an h57 (an h56 (an h55 (an h54 (an h53 (an h52 (an h51 (an h50 (an h49 (an h48 (an h47 (an h46 (an h45 (an h44 (an h43 (an h42 (an h41 (an h40 (an h39 (an h38 (an h37 (an h36 (an h35 (an h34 (an h33 (an h32 (an h31 (an h30 (an h29 (an h28 (an h27 (an h26 (an h25 (an h24 (an h23 (an h22 (an h21 (an h20 (an h19 (an h18 (an h17 (an h16 (an h15 (an h14 (an h13 (an h12 (an h11 (an h10 (an h9 (an h8 (an h7 (an h6 (an h5 (an h4 (an h3 (an h2 (an h1 (an h0 tt))))))))))))))))))))))))))))))))))))))))))))))))))))))))))) (show allMay (zqB11_ z) = false by ((try dsimp only [zqB11_, zqB12_] at *); simp [allMay, valMay, List.range_succ] at *; omega))) ?_
                                                            kernel_rfl
                                                           ·
                                                            rcases Bool.eq_false_or_eq_true (decide (z (nat_lit 30) > (1099511627775 : Int))) with h59 | h59
                                                            ·
                                                             refine vcIntro [false, false, false, false, false, false, false, false, false, false, false, false, false, false, false, false, false, false, false, false, false, false, false, false, false, false, false, false, false, false, false, false, false, false, false, false, false, false, false, false, false, false, false, false, false, false, false, false, false, false, false, false, false, false, false, false, false, false, false, true] (an (an h59 (an h58 (an h57 (an h56 (an h55 (an h54 (an h53 (an h52 (an h51 (an h50 (an h49 (an h48 (an h47 (an h46 (an h45 (an h44 (an h43 (an h42 (an h41 (an h40 (an h39 (an h38 (an h37 (an h36 (an h35 (an h34 (an h33 (an h32 (an h31 (an h30 (an h29 (an h28 (an h27 (an h26 (an h25 (an h24 (an h23 (an h22 (an h21 (an h20 (an h19 (an h18 (an h17 (an h16 (an h15 (an h14 (an h13 (an h12 (an h11 (an h10 (an h9 (an h8 (an h7 (an h6 (an h5 (an h4 (an h3 (an h2 (an h1 (an h0 tt)))))))))))))))))))))))))))))))))))))))))))))))))))))))))))) (show allMay (zqB11_ z) = false by ((try dsimp only [zqB11_, zqB12_] at *); simp [allMay, valMay, List.range_succ] at *; omega))) ?_
                                                             kernel_rfl
                                                            ·
                                                             rcases Bool.eq_false_or_eq_true (decide (z (nat_lit 15) < (0 : Int))) with h60 | h60
                                                             ·
                                                              refine vcIntro [false, false, false, false, false, false, false, false, false, false, false, false, false, false, false, false, false, false, false, false, false, false, false, false, false, false, false, false, false, false, false, false, false, false, false, false, false, false, false, false, false, false, false, false, false, false, false, false, false, false, false, false, false, false, false, false, false, false, false, false, true] (an (an h60 (an h59 (an h58 (an h57 (an h56 (an h55 (an h54 (an h53 (an h52 (an h51 (an h50 (an h49 (an h48 (an h47 (an h46 (an h45 (an h44 (an h43 (an h42 (an h41 (an h40 (an h39 (an h38 (an h37 (an h36 (an h35 (an h34 (an h33 (an h32 (an h31 (an h30 (an h29 (an h28 (an h27 (an h26 (an h25 (an h24 (an h23 (an h22 (an h21 (an h20 (an h19 (an h18 (an h17 (an h16 (an h15 (an h14 (an h13 (an h12 (an h11 (an h10 (an h9 (an h8 (an h7 (an h6 (an h5 (an h4 (an h3 (an h2 (an h1 (an h0 tt))))))))))))))))))))))))))))))))))))))))))))))))))))))))))))) (show allMay (zqB11_ z) = false by ((try dsimp only [zqB11_, zqB12_] at *); simp [allMay, valMay, List.range_succ] at *; omega))) ?_
                                                              kernel_rfl
                                                             ·
                                                              rcases Bool.eq_false_or_eq_true (decide (z (nat_lit 15) > (1099511627775 : Int))) with h61 | h61
                                                              ·
                                                               refine vcIntro [false, false, false, false, false, false, false, false, false, false, false, false, false, false, false, false, false, false, false, false, false, false, false, false, false, false, false, false, false, false, false, false, false, false, false, false, false, false, false, false, false, false, false, false, false, false, false, false, false, false, false, false, false, false, false, false, false, false, false, false, false, true] (an (an h61 (an h60 (an h59 (an h58 (an h57 (an h56 (an h55 (an h54 (an h53 (an h52 (an h51 (an h50 (an h49 (an h48 (an h47 (an h46 (an h45 (an h44 (an h43 (an h42 (an h41 (an h40 (an h39 (an h38 (an h37 (an h36 (an h35 (an h34 (an h33 (an h32 (an h31 (an h30 (an h29 (an h28 (an h27 (an h26 (an h25 (an h24 (an h23 (an h22 (an h21 (an h20 (an h19 (an h18 (an h17 (an h16 (an h15 (an h14 (an h13 (an h12 (an h11 (an h10 (an h9 (an h8 (an h7 (an h6 (an h5 (an h4 (an h3 (an h2 (an h1 (an h0 tt)))))))))))))))))))))))))))))))))))))))))))))))))))))))))))))) (show allMay (zqB11_ z) = false by ((try dsimp only [zqB11_, zqB12_] at *); simp [allMay, valMay, List.range_succ] at *; omega))) ?_
                                                               kernel_rfl
                                                              ·
                                                               rcases Bool.eq_false_or_eq_true (decide (z (nat_lit 31) < (0 : Int))) with h62 | h62
                                                               ·
                                                                refine vcIntro [false, false, false, false, false, false, false, false, false, false, false, false, false, false, false, false, false, false, false, false, false, false, false, false, false, false, false, false, false, false, false, false, false, false, false, false, false, false, false, false, false, false, false, false, false, false, false, false, false, false, false, false, false, false, false, false, false, false, false, false, false, false, true] (an (an h62 (an h61 (an h60 (an h59 (an h58 (an h57 (an h56 (an h55 (an h54 (an h53 (an h52 (an h51 (an h50 (an h49 (an h48 (an h47 (an h46 (an h45 (an h44 (an h43 (an h42 (an h41 (an h40 (an h39 (an h38 (an h37 (an h36 (an h35 (an h34 (an h33 (an h32 (an h31 (an h30 (an h29 (an h28 (an h27 (an h26 (an h25 (an h24 (an h23 (an h22 (an h21 (an h20 (an h19 (an h18 (an h17 (an h16 (an h15 (an h14 (an h13 (an h12 (an h11 (an h10 (an h9 (an h8 (an h7 (an h6 (an h5 (an h4 (an h3 (an h2 (an h1 (an h0 tt))))))))))))))))))))))))))))))))))))))))))))))))))))))))))))))) (show allMay (zqB11_ z) = false by ((try dsimp only [zqB11_, zqB12_] at *); simp [allMay, valMay, List.range_succ] at *; omega))) ?_
                                                                kernel_rfl
                                                               ·
                                                                rcases Bool.eq_false_or_eq_true (decide (z (nat_lit 31) > (1099511627775 : Int))) with h63 | h63
                                                                ·
                                                                 refine vcIntro [false, false, false, false, false, false, false, false, false, false, false, false, false, false, false, false, false, false, false, false, false, false, false, false, false, false, false, false, false, false, false, false, false, false, false, false, false, false, false, false, false, false, false, false, false, false, false, false, false, false, false, false, false, false, false, false, false, false, false, false, false, false, false, true] (an (an h63 (an h62 (an h61 (an h60 (an h59 (an h58 (an h57 (an h56 (an h55 (an h54 (an h53 (an h52 (an h51 (an h50 (an h49 (an h48 (an h47 (an h46 (an h45 (an h44 (an h43 (an h42 (an h41 (an h40 (an h39 (an h38 (an h37 (an h36 (an h35 (an h34 (an h33 (an h32 (an h31 (an h30 (an h29 (an h28 (an h27 (an h26 (an h25 (an h24 (an h23 (an h22 (an h21 (an h20 (an h19 (an h18 (an h17 (an h16 (an h15 (an h14 (an h13 (an h12 (an h11 (an h10 (an h9 (an h8 (an h7 (an h6 (an h5 (an h4 (an h3 (an h2 (an h1 (an h0 tt)))))))))))))))))))))))))))))))))))))))))))))))))))))))))))))))) (show allMay (zqB11_ z) = false by ((try dsimp only [zqB11_, zqB12_] at *); simp [allMay, valMay, List.range_succ] at *; omega))) ?_
                                                                 kernel_rfl
                                                                ·
                                                                 refine vcIntro [false, false, false, false, false, false, false, false, false, false, false, false, false, false, false, false, false, false, false, false, false, false, false, false, false, false, false, false, false, false, false, false, false, false, false, false, false, false, false, false, false, false, false, false, false, false, false, false, false, false, false, false, false, false, false, false, false, false, false, false, false, false, false, false] (an (an h63 (an h62 (an h61 (an h60 (an h59 (an h58 (an h57 (an h56 (an h55 (an h54 (an h53 (an h52 (an h51 (an h50 (an h49 (an h48 (an h47 (an h46 (an h45 (an h44 (an h43 (an h42 (an h41 (an h40 (an h39 (an h38 (an h37 (an h36 (an h35 (an h34 (an h33 (an h32 (an h31 (an h30 (an h29 (an h28 (an h27 (an h26 (an h25 (an h24 (an h23 (an h22 (an h21 (an h20 (an h19 (an h18 (an h17 (an h16 (an h15 (an h14 (an h13 (an h12 (an h11 (an h10 (an h9 (an h8 (an h7 (an h6 (an h5 (an h4 (an h3 (an h2 (an h1 (an h0 tt)))))))))))))))))))))))))))))))))))))))))))))))))))))))))))))))) (show allMay (zqB11_ z) = true by ((try dsimp only [zqB11_, zqB12_] at *); simp [allMay, valMay, List.range_succ] at *; omega))) ?_
                                                                 kernel_rfl

def opMay (k a b x : Int) : Bool := decide (0 ≤ k) && decide (k < 11) && (decide (0 ≤ a) && decide (a < (if k < 5 then 4 else if k = 5 ∨ k = 9 then 1 else 5))) && (decide (0 ≤ b) && decide (b < (if k = 4 then 4 else if k = 10 then 5 else 1)))
 && (decide (0 ≤ x) && decide (x < (if k = 0 ∨ k = 2 ∨ k = 3 ∨ k = 4 then 1048576 else if k = 6 then 2 else 1)))
def opMayL : List Int → Bool
 | [k, a, b, x] => opMay k a b x
 | _ => false
def opB (e : TypeId) (k a b x : Int) : List (Option Blk) := [some (.own true e (fun _ => 0) 0 [.int .i64 (.s k), .int .i64 (.s a), .int .i64 (.s b), .int .i64 (.s x)])]
theorem om1a (e : TypeId) (k a b x : Int) : ∃ hh, vcOf (runCall Try.prog below noL 3000 33 [.ptr 0 (.c 0)] (Hm (opB e k a b x) 1) hh) (fun v H1 => retP 1 [0] v H1 (.bool (.s (opMay k a b x))) [none] 1) := by

 rcases Bool.eq_false_or_eq_true (!(decide ((0 : Int) ≤ k) && decide (k < (11 : Int)))) with h0 | h0
 ·
  refine vcIntro [true] (an (an h0 tt) (an (show opMay k a b x = false by ((try dsimp only [zqB11_, zqB12_] at *); simp [opMay] at *; omega)) tt)) ?_
  kernel_rfl
 ·
  rcases Bool.eq_false_or_eq_true (decide ((0 : Int) ≤ a) && decide (a < (zqB12_ ).getD (k.toNat * (3 : Nat)) (0 : Int))) with h1 | h1
  ·
   rcases Bool.eq_false_or_eq_true (decide ((0 : Int) ≤ b) && decide (b < (zqB12_ ).getD (k.toNat * (3 : Nat) + (1 : Nat)) (0 : Int))) with h2 | h2
   ·
    refine vcIntro [false, true, true] (an (an h2 (an h1 (an (show (k.toNat * (3 : Nat)).succ ≤ (33 : Nat) by ((try dsimp only [zqB11_, zqB12_] at *); simp [opMay] at *; omega)) (an (show (k.toNat * (3 : Nat) + (1 : Nat)).succ ≤ (33 : Nat) by ((try dsimp only [zqB11_, zqB12_] at *); simp [opMay] at *; omega)) (an (show (k.toNat * (3 : Nat) + (1 : Nat) + (1 : Nat)).succ ≤ (33 : Nat) by ((try dsimp only [zqB11_, zqB12_] at *); simp [opMay] at *; omega)) (an (an (show (0 : Int) ≤ k by ((try dsimp only [zqB11_, zqB12_] at *); simp [opMay] at *; omega)) (show k + (1 : Int) ≤ (11 : Int) by ((try dsimp only [zqB11_, zqB12_] at *); simp [opMay] at *; omega))) (an h0 tt))))))) (an (show opMay k a b x = (decide ((0 : Int) ≤ x) && decide (x < (zqB12_ ).getD (k.toNat * (3 : Nat) + (1 : Nat) + (1 : Nat)) (0 : Int))) by ((try dsimp only [zqB11_, zqB12_] at *); rcases (by simp at h0; omega : k = 0 ∨ k = 1 ∨ k = 2 ∨ k = 3 ∨ k = 4 ∨ k = 5 ∨ k = 6 ∨ k = 7 ∨ k = 8 ∨ k = 9 ∨ k = 10) with h | h | h | h | h | h | h | h | h | h | h <;> subst h <;> simp [opMay] at * <;> omega)) tt)) ?_
    kernel_rfl
   ·
    refine vcIntro [false, true, false] (an (an h2 (an h1 (an (show (k.toNat * (3 : Nat)).succ ≤ (33 : Nat) by ((try dsimp only [zqB11_, zqB12_] at *); simp [opMay] at *; omega)) (an (show (k.toNat * (3 : Nat) + (1 : Nat)).succ ≤ (33 : Nat) by ((try dsimp only [zqB11_, zqB12_] at *); simp [opMay] at *; omega)) (an (show (k.toNat * (3 : Nat) + (1 : Nat) + (1 : Nat)).succ ≤ (33 : Nat) by ((try dsimp only [zqB11_, zqB12_] at *); simp [opMay] at *; omega)) (an (an (show (0 : Int) ≤ k by ((try dsimp only [zqB11_, zqB12_] at *); simp [opMay] at *; omega)) (show k + (1 : Int) ≤ (11 : Int) by ((try dsimp only [zqB11_, zqB12_] at *); simp [opMay] at *; omega))) (an h0 tt))))))) (an (show opMay k a b x = false by ((try dsimp only [zqB11_, zqB12_] at *); rcases (by simp at h0; omega : k = 0 ∨ k = 1 ∨ k = 2 ∨ k = 3 ∨ k = 4 ∨ k = 5 ∨ k = 6 ∨ k = 7 ∨ k = 8 ∨ k = 9 ∨ k = 10) with h | h | h | h | h | h | h | h | h | h | h <;> subst h <;> simp [opMay] at * <;> omega)) tt)) ?_
    kernel_rfl
  ·
   refine vcIntro [false, false] (an (an h1 (an (show (k.toNat * (3 : Nat)).succ ≤ (33 : Nat) by ((try dsimp only [zqB11_, zqB12_] at *); simp [opMay] at *; omega)) (an (show (k.toNat * (3 : Nat) + (1 : Nat)).succ ≤ (33 : Nat) by ((try dsimp only [zqB11_, zqB12_] at *); simp [opMay] at *; omega)) (an (show (k.toNat * (3 : Nat) + (1 : Nat) + (1 : Nat)).succ ≤ (33 : Nat) by ((try dsimp only [zqB11_, zqB12_] at *); simp [opMay] at *; omega)) (an (an (show (0 : Int) ≤ k by ((try dsimp only [zqB11_, zqB12_] at *); simp [opMay] at *; omega)) (show k + (1 : Int) ≤ (11 : Int) by ((try dsimp only [zqB11_, zqB12_] at *); simp [opMay] at *; omega))) (an h0 tt)))))) (an (show opMay k a b x = false by ((try dsimp only [zqB11_, zqB12_] at *); rcases (by simp at h0; omega : k = 0 ∨ k = 1 ∨ k = 2 ∨ k = 3 ∨ k = 4 ∨ k = 5 ∨ k = 6 ∨ k = 7 ∨ k = 8 ∨ k = 9 ∨ k = 10) with h | h | h | h | h | h | h | h | h | h | h <;> subst h <;> simp [opMay] at * <;> omega)) tt)) ?_
   kernel_rfl
theorem om1 (e : TypeId) (z : Nat → Int) : ∃ hh, vcOf (runCall Try.prog below noL 3000 33 [.ptr 0 (.c 0)] (Hm (readB e 0 4 z) 1) hh) (fun v H1 => retP 1 [0] v H1 (.bool (.s (opMayL ((List.range 4).map z)))) [none] 1) := om1a e (z 0) (z 1) (z 2) (z 3)
theorem om2a (k a b x : Int) : ∃ hh, vcOf (runCall Try.prog noSpec noL 3000 43 [.agg [.int .i64 (.s k), .int .i64 (.s a), .int .i64 (.s b), .int .i64 (.s x)]] H0 hh) (fun v _ => V.leP (.bool (.s (opMay k a b x))) v) := by

 rcases Bool.eq_false_or_eq_true (decide (a ≥ (0 : Int))) with h0 | h0
 ·
  rcases Bool.eq_false_or_eq_true (k == (0 : Int)) with h1 | h1
  ·
   rcases Bool.eq_false_or_eq_true (decide (a < (4 : Int))) with h2 | h2
   ·
    rcases Bool.eq_false_or_eq_true (decide (x ≥ (0 : Int))) with h3 | h3
    ·
     rcases Bool.eq_false_or_eq_true (decide (x ≤ (1048575 : Int))) with h4 | h4
     ·
      refine vcIntro [true, true, true, true, true, true] (an (an h4 (an h3 (an h2 (an h1 (an h0 (an h0 tt)))))) (show opMay k a b x = (k == k && (a == a && ((0 : Int) == b && x == x))) by ((try dsimp only [zqB11_, zqB12_] at *); rw [Bool.eq_iff_iff]; simp at *; subst_vars; simp [opMay]; omega))) ?_
      kernel_rfl
     ·
      refine vcIntro [true, true, true, true, true, false] (an (an h4 (an h3 (an h2 (an h1 (an h0 (an h0 tt)))))) (show opMay k a b x = false by ((try dsimp only [zqB11_, zqB12_] at *); simp [opMay] at *; omega))) ?_
      kernel_rfl
    ·
     refine vcIntro [true, true, true, true, false] (an (an h3 (an h2 (an h1 (an h0 (an h0 tt))))) (show opMay k a b x = false by ((try dsimp only [zqB11_, zqB12_] at *); simp [opMay] at *; omega))) ?_
     kernel_rfl
   ·
    refine vcIntro [true, true, true, false] (an (an h2 (an h1 (an h0 (an h0 tt)))) (show opMay k a b x = false by ((try dsimp only [zqB11_, zqB12_] at *); simp [opMay] at *; omega))) ?_
    kernel_rfl
  ·
   rcases Bool.eq_false_or_eq_true (k == (2 : Int)) with h5 | h5
   ·
    rcases Bool.eq_false_or_eq_true (decide (a < (4 : Int))) with h6 | h6
    ·
     rcases Bool.eq_false_or_eq_true (decide (x ≥ (0 : Int))) with h7 | h7
     ·
      rcases Bool.eq_false_or_eq_true (decide (x ≤ (1048575 : Int))) with h8 | h8
      ·
       refine vcIntro [true, true, false, true, true, true, true] (an (an h8 (an h7 (an h6 (an h5 (an h1 (an h0 (an h0 tt))))))) (show opMay k a b x = (k == k && (a == a && ((0 : Int) == b && x == x))) by ((try dsimp only [zqB11_, zqB12_] at *); rw [Bool.eq_iff_iff]; simp at *; subst_vars; simp [opMay]; omega))) ?_
       kernel_rfl
      ·
       refine vcIntro [true, true, false, true, true, true, false] (an (an h8 (an h7 (an h6 (an h5 (an h1 (an h0 (an h0 tt))))))) (show opMay k a b x = false by ((try dsimp only [zqB11_, zqB12_] at *); simp [opMay] at *; omega))) ?_
       kernel_rfl
     ·
      refine vcIntro [true, true, false, true, true, false] (an (an h7 (an h6 (an h5 (an h1 (an h0 (an h0 tt)))))) (show opMay k a b x = false by ((try dsimp only [zqB11_, zqB12_] at *); simp [opMay] at *; omega))) ?_
      kernel_rfl
    ·
     refine vcIntro [true, true, false, true, false] (an (an h6 (an h5 (an h1 (an h0 (an h0 tt))))) (show opMay k a b x = false by ((try dsimp only [zqB11_, zqB12_] at *); simp [opMay] at *; omega))) ?_
     kernel_rfl
   ·
    rcases Bool.eq_false_or_eq_true (k == (3 : Int)) with h9 | h9
    ·
     rcases Bool.eq_false_or_eq_true (decide (a < (4 : Int))) with h10 | h10
     ·
      rcases Bool.eq_false_or_eq_true (decide (x ≥ (0 : Int))) with h11 | h11
      ·
       rcases Bool.eq_false_or_eq_true (decide (x ≤ (1048575 : Int))) with h12 | h12
       ·
        refine vcIntro [true, true, false, false, true, true, true, true] (an (an h12 (an h11 (an h10 (an h9 (an h5 (an h1 (an h0 (an h0 tt)))))))) (show opMay k a b x = (k == k && (a == a && ((0 : Int) == b && x == x))) by ((try dsimp only [zqB11_, zqB12_] at *); rw [Bool.eq_iff_iff]; simp at *; subst_vars; simp [opMay]; omega))) ?_
        kernel_rfl
       ·
        refine vcIntro [true, true, false, false, true, true, true, false] (an (an h12 (an h11 (an h10 (an h9 (an h5 (an h1 (an h0 (an h0 tt)))))))) (show opMay k a b x = false by ((try dsimp only [zqB11_, zqB12_] at *); simp [opMay] at *; omega))) ?_
        kernel_rfl
      ·
       refine vcIntro [true, true, false, false, true, true, false] (an (an h11 (an h10 (an h9 (an h5 (an h1 (an h0 (an h0 tt))))))) (show opMay k a b x = false by ((try dsimp only [zqB11_, zqB12_] at *); simp [opMay] at *; omega))) ?_
       kernel_rfl
     ·
      refine vcIntro [true, true, false, false, true, false] (an (an h10 (an h9 (an h5 (an h1 (an h0 (an h0 tt)))))) (show opMay k a b x = false by ((try dsimp only [zqB11_, zqB12_] at *); simp [opMay] at *; omega))) ?_
      kernel_rfl
    ·
     rcases Bool.eq_false_or_eq_true (k == (1 : Int)) with h13 | h13
     ·
      rcases Bool.eq_false_or_eq_true (decide (a < (4 : Int))) with h14 | h14
      ·
       refine vcIntro [true, true, false, false, false, true, true] (an (an h14 (an h13 (an h9 (an h5 (an h1 (an h0 (an h0 tt))))))) (show opMay k a b x = (k == k && (a == a && ((0 : Int) == b && (0 : Int) == x))) by ((try dsimp only [zqB11_, zqB12_] at *); rw [Bool.eq_iff_iff]; simp at *; subst_vars; simp [opMay]; omega))) ?_
       kernel_rfl
      ·
       refine vcIntro [true, true, false, false, false, true, false] (an (an h14 (an h13 (an h9 (an h5 (an h1 (an h0 (an h0 tt))))))) (show opMay k a b x = false by ((try dsimp only [zqB11_, zqB12_] at *); simp [opMay] at *; omega))) ?_
       kernel_rfl
     ·
      rcases Bool.eq_false_or_eq_true (k == (4 : Int)) with h15 | h15
      ·
       rcases Bool.eq_false_or_eq_true (decide (a < (4 : Int))) with h16 | h16
       ·
        rcases Bool.eq_false_or_eq_true (decide (b ≥ (0 : Int))) with h17 | h17
        ·
         rcases Bool.eq_false_or_eq_true (decide (b < (4 : Int))) with h18 | h18
         ·
          rcases Bool.eq_false_or_eq_true (decide (x ≥ (0 : Int))) with h19 | h19
          ·
           rcases Bool.eq_false_or_eq_true (decide (x ≤ (1048575 : Int))) with h20 | h20
           ·
            refine vcIntro [true, true, false, false, false, false, true, true, true, true, true, true] (an (an h20 (an h19 (an h18 (an h17 (an h16 (an h15 (an h13 (an h9 (an h5 (an h1 (an h0 (an h0 tt)))))))))))) (show opMay k a b x = (k == k && (a == a && (b == b && x == x))) by ((try dsimp only [zqB11_, zqB12_] at *); simp [opMay] at *; omega))) ?_
            kernel_rfl
           ·
            refine vcIntro [true, true, false, false, false, false, true, true, true, true, true, false] (an (an h20 (an h19 (an h18 (an h17 (an h16 (an h15 (an h13 (an h9 (an h5 (an h1 (an h0 (an h0 tt)))))))))))) (show opMay k a b x = false by ((try dsimp only [zqB11_, zqB12_] at *); simp [opMay] at *; omega))) ?_
            kernel_rfl
          ·
           refine vcIntro [true, true, false, false, false, false, true, true, true, true, false] (an (an h19 (an h18 (an h17 (an h16 (an h15 (an h13 (an h9 (an h5 (an h1 (an h0 (an h0 tt))))))))))) (show opMay k a b x = false by ((try dsimp only [zqB11_, zqB12_] at *); simp [opMay] at *; omega))) ?_
           kernel_rfl
         ·
          refine vcIntro [true, true, false, false, false, false, true, true, true, false] (an (an h18 (an h17 (an h16 (an h15 (an h13 (an h9 (an h5 (an h1 (an h0 (an h0 tt)))))))))) (show opMay k a b x = false by ((try dsimp only [zqB11_, zqB12_] at *); simp [opMay] at *; omega))) ?_
          kernel_rfl
        ·
         refine vcIntro [true, true, false, false, false, false, true, true, false] (an (an h17 (an h16 (an h15 (an h13 (an h9 (an h5 (an h1 (an h0 (an h0 tt))))))))) (show opMay k a b x = false by ((try dsimp only [zqB11_, zqB12_] at *); simp [opMay] at *; omega))) ?_
         kernel_rfl
       ·
        refine vcIntro [true, true, false, false, false, false, true, false] (an (an h16 (an h15 (an h13 (an h9 (an h5 (an h1 (an h0 (an h0 tt)))))))) (show opMay k a b x = false by ((try dsimp only [zqB11_, zqB12_] at *); simp [opMay] at *; omega))) ?_
        kernel_rfl
      ·
       rcases Bool.eq_false_or_eq_true (k == (5 : Int)) with h21 | h21
       ·
        rcases Bool.eq_false_or_eq_true (a == (0 : Int)) with h22 | h22
        ·
         refine vcIntro [true, true, false, false, false, false, false, true, true] (an (an h22 (an h21 (an h15 (an h13 (an h9 (an h5 (an h1 (an h0 (an h0 tt))))))))) (show opMay k a b x = (k == k && (a == a && ((0 : Int) == b && (0 : Int) == x))) by ((try dsimp only [zqB11_, zqB12_] at *); rw [Bool.eq_iff_iff]; simp at *; subst_vars; simp [opMay]; omega))) ?_
         kernel_rfl
        ·
         refine vcIntro [true, true, false, false, false, false, false, true, false] (an (an h22 (an h21 (an h15 (an h13 (an h9 (an h5 (an h1 (an h0 (an h0 tt))))))))) (show opMay k a b x = false by ((try dsimp only [zqB11_, zqB12_] at *); simp [opMay] at *; omega))) ?_
         kernel_rfl
       ·
        rcases Bool.eq_false_or_eq_true (k == (9 : Int)) with h23 | h23
        ·
         rcases Bool.eq_false_or_eq_true (a == (0 : Int)) with h24 | h24
         ·
          refine vcIntro [true, true, false, false, false, false, false, false, true, true] (an (an h24 (an h23 (an h21 (an h15 (an h13 (an h9 (an h5 (an h1 (an h0 (an h0 tt)))))))))) (show opMay k a b x = (k == k && (a == a && ((0 : Int) == b && (0 : Int) == x))) by ((try dsimp only [zqB11_, zqB12_] at *); rw [Bool.eq_iff_iff]; simp at *; subst_vars; simp [opMay]; omega))) ?_
          kernel_rfl
         ·
          refine vcIntro [true, true, false, false, false, false, false, false, true, false] (an (an h24 (an h23 (an h21 (an h15 (an h13 (an h9 (an h5 (an h1 (an h0 (an h0 tt)))))))))) (show opMay k a b x = false by ((try dsimp only [zqB11_, zqB12_] at *); simp [opMay] at *; omega))) ?_
          kernel_rfl
        ·
         rcases Bool.eq_false_or_eq_true (k == (6 : Int)) with h25 | h25
         ·
          rcases Bool.eq_false_or_eq_true (decide (a < (5 : Int))) with h26 | h26
          ·
           rcases Bool.eq_false_or_eq_true (x == (0 : Int)) with h27 | h27
           ·
            refine vcIntro [true, true, false, false, false, false, false, false, false, true, true, true] (an (an h27 (an h26 (an h25 (an h23 (an h21 (an h15 (an h13 (an h9 (an h5 (an h1 (an h0 (an h0 tt)))))))))))) (show opMay k a b x = (k == k && (a == a && ((0 : Int) == b && x == x))) by ((try dsimp only [zqB11_, zqB12_] at *); rw [Bool.eq_iff_iff]; simp at *; subst_vars; simp [opMay]; omega))) ?_
            kernel_rfl
           ·
            rcases Bool.eq_false_or_eq_true (x == (1 : Int)) with h28 | h28
            ·
             refine vcIntro [true, true, false, false, false, false, false, false, false, true, true, false, true] (an (an h28 (an h27 (an h26 (an h25 (an h23 (an h21 (an h15 (an h13 (an h9 (an h5 (an h1 (an h0 (an h0 tt))))))))))))) (show opMay k a b x = (k == k && (a == a && ((0 : Int) == b && x == x))) by ((try dsimp only [zqB11_, zqB12_] at *); rw [Bool.eq_iff_iff]; simp at *; subst_vars; simp [opMay]; omega))) ?_
             kernel_rfl
            ·
             refine vcIntro [true, true, false, false, false, false, false, false, false, true, true, false, false] (an (an h28 (an h27 (an h26 (an h25 (an h23 (an h21 (an h15 (an h13 (an h9 (an h5 (an h1 (an h0 (an h0 tt))))))))))))) (show opMay k a b x = false by ((try dsimp only [zqB11_, zqB12_] at *); simp [opMay] at *; omega))) ?_
             kernel_rfl
          ·
           refine vcIntro [true, true, false, false, false, false, false, false, false, true, false] (an (an h26 (an h25 (an h23 (an h21 (an h15 (an h13 (an h9 (an h5 (an h1 (an h0 (an h0 tt))))))))))) (show opMay k a b x = false by ((try dsimp only [zqB11_, zqB12_] at *); simp [opMay] at *; omega))) ?_
           kernel_rfl
         ·
          rcases Bool.eq_false_or_eq_true (k == (7 : Int)) with h29 | h29
          ·
           rcases Bool.eq_false_or_eq_true (decide (a < (5 : Int))) with h30 | h30
           ·
            refine vcIntro [true, true, false, false, false, false, false, false, false, false, true, true] (an (an h30 (an h29 (an h25 (an h23 (an h21 (an h15 (an h13 (an h9 (an h5 (an h1 (an h0 (an h0 tt)))))))))))) (show opMay k a b x = (k == k && (a == a && ((0 : Int) == b && (0 : Int) == x))) by ((try dsimp only [zqB11_, zqB12_] at *); rw [Bool.eq_iff_iff]; simp at *; subst_vars; simp [opMay]; omega))) ?_
            kernel_rfl
           ·
            refine vcIntro [true, true, false, false, false, false, false, false, false, false, true, false] (an (an h30 (an h29 (an h25 (an h23 (an h21 (an h15 (an h13 (an h9 (an h5 (an h1 (an h0 (an h0 tt)))))))))))) (show opMay k a b x = false by ((try dsimp only [zqB11_, zqB12_] at *); simp [opMay] at *; omega))) ?_
            kernel_rfl
          ·
           rcases Bool.eq_false_or_eq_true (k == (8 : Int)) with h31 | h31
           ·
            rcases Bool.eq_false_or_eq_true (decide (a < (5 : Int))) with h32 | h32
            ·
             refine vcIntro [true, true, false, false, false, false, false, false, false, false, false, true, true] (an (an h32 (an h31 (an h29 (an h25 (an h23 (an h21 (an h15 (an h13 (an h9 (an h5 (an h1 (an h0 (an h0 tt))))))))))))) (show opMay k a b x = (k == k && (a == a && ((0 : Int) == b && (0 : Int) == x))) by ((try dsimp only [zqB11_, zqB12_] at *); rw [Bool.eq_iff_iff]; simp at *; subst_vars; simp [opMay]; omega))) ?_
             kernel_rfl
            ·
             refine vcIntro [true, true, false, false, false, false, false, false, false, false, false, true, false] (an (an h32 (an h31 (an h29 (an h25 (an h23 (an h21 (an h15 (an h13 (an h9 (an h5 (an h1 (an h0 (an h0 tt))))))))))))) (show opMay k a b x = false by ((try dsimp only [zqB11_, zqB12_] at *); simp [opMay] at *; omega))) ?_
             kernel_rfl
           ·
            rcases Bool.eq_false_or_eq_true (k == (10 : Int)) with h33 | h33
            ·
             rcases Bool.eq_false_or_eq_true (decide (a < (5 : Int))) with h34 | h34
             ·
              rcases Bool.eq_false_or_eq_true (decide (b ≥ (0 : Int))) with h35 | h35
              ·
               rcases Bool.eq_false_or_eq_true (decide (b < (5 : Int))) with h36 | h36
               ·
                refine vcIntro [true, true, false, false, false, false, false, false, false, false, false, false, true, true, true, true] (an (an h36 (an h35 (an h34 (an h33 (an h31 (an h29 (an h25 (an h23 (an h21 (an h15 (an h13 (an h9 (an h5 (an h1 (an h0 (an h0 tt)))))))))))))))) (show opMay k a b x = (k == k && (a == a && (b == b && (0 : Int) == x))) by ((try dsimp only [zqB11_, zqB12_] at *); rw [Bool.eq_iff_iff]; simp at *; subst_vars; simp [opMay]; omega))) ?_
                kernel_rfl
               ·
                refine vcIntro [true, true, false, false, false, false, false, false, false, false, false, false, true, true, true, false] (an (an h36 (an h35 (an h34 (an h33 (an h31 (an h29 (an h25 (an h23 (an h21 (an h15 (an h13 (an h9 (an h5 (an h1 (an h0 (an h0 tt)))))))))))))))) (show opMay k a b x = false by ((try dsimp only [zqB11_, zqB12_] at *); simp [opMay] at *; omega))) ?_
                kernel_rfl
              ·
               refine vcIntro [true, true, false, false, false, false, false, false, false, false, false, false, true, true, false] (an (an h35 (an h34 (an h33 (an h31 (an h29 (an h25 (an h23 (an h21 (an h15 (an h13 (an h9 (an h5 (an h1 (an h0 (an h0 tt))))))))))))))) (show opMay k a b x = false by ((try dsimp only [zqB11_, zqB12_] at *); simp [opMay] at *; omega))) ?_
               kernel_rfl
             ·
              refine vcIntro [true, true, false, false, false, false, false, false, false, false, false, false, true, false] (an (an h34 (an h33 (an h31 (an h29 (an h25 (an h23 (an h21 (an h15 (an h13 (an h9 (an h5 (an h1 (an h0 (an h0 tt)))))))))))))) (show opMay k a b x = false by ((try dsimp only [zqB11_, zqB12_] at *); simp [opMay] at *; omega))) ?_
              kernel_rfl
            ·
             refine vcIntro [true, true, false, false, false, false, false, false, false, false, false, false, false] (an (an h33 (an h31 (an h29 (an h25 (an h23 (an h21 (an h15 (an h13 (an h9 (an h5 (an h1 (an h0 (an h0 tt))))))))))))) (show opMay k a b x = false by ((try dsimp only [zqB11_, zqB12_] at *); simp [opMay] at *; omega))) ?_
             kernel_rfl
 ·
  rcases Bool.eq_false_or_eq_true (k == (0 : Int)) with h37 | h37
  ·
   refine vcIntro [false, false, true] (an (an h37 (an h0 (an h0 tt))) (show opMay k a b x = false by ((try dsimp only [zqB11_, zqB12_] at *); simp [opMay] at *; omega))) ?_
   kernel_rfl
  ·
   rcases Bool.eq_false_or_eq_true (k == (2 : Int)) with h38 | h38
   ·
    refine vcIntro [false, false, false, true] (an (an h38 (an h37 (an h0 (an h0 tt)))) (show opMay k a b x = false by ((try dsimp only [zqB11_, zqB12_] at *); simp [opMay] at *; omega))) ?_
    kernel_rfl
   ·
    rcases Bool.eq_false_or_eq_true (k == (3 : Int)) with h39 | h39
    ·
     refine vcIntro [false, false, false, false, true] (an (an h39 (an h38 (an h37 (an h0 (an h0 tt))))) (show opMay k a b x = false by ((try dsimp only [zqB11_, zqB12_] at *); simp [opMay] at *; omega))) ?_
     kernel_rfl
    ·
     rcases Bool.eq_false_or_eq_true (k == (1 : Int)) with h40 | h40
     ·
      refine vcIntro [false, false, false, false, false, true] (an (an h40 (an h39 (an h38 (an h37 (an h0 (an h0 tt)))))) (show opMay k a b x = false by ((try dsimp only [zqB11_, zqB12_] at *); simp [opMay] at *; omega))) ?_
      kernel_rfl
     ·
      rcases Bool.eq_false_or_eq_true (k == (4 : Int)) with h41 | h41
      ·
       refine vcIntro [false, false, false, false, false, false, true] (an (an h41 (an h40 (an h39 (an h38 (an h37 (an h0 (an h0 tt))))))) (show opMay k a b x = false by ((try dsimp only [zqB11_, zqB12_] at *); simp [opMay] at *; omega))) ?_
       kernel_rfl
      ·
       rcases Bool.eq_false_or_eq_true (k == (5 : Int)) with h42 | h42
       ·
        rcases Bool.eq_false_or_eq_true (a == (0 : Int)) with h43 | h43
        · exact ff (by ((try dsimp only [zqB11_, zqB12_] at *); first | (simp at *; omega) | (simp_all; done)))
        ·
         refine vcIntro [false, false, false, false, false, false, false, true, false] (an (an h43 (an h42 (an h41 (an h40 (an h39 (an h38 (an h37 (an h0 (an h0 tt))))))))) (show opMay k a b x = false by ((try dsimp only [zqB11_, zqB12_] at *); simp [opMay] at *; omega))) ?_
         kernel_rfl
       ·
        rcases Bool.eq_false_or_eq_true (k == (9 : Int)) with h44 | h44
        ·
         rcases Bool.eq_false_or_eq_true (a == (0 : Int)) with h45 | h45
         · exact ff (by ((try dsimp only [zqB11_, zqB12_] at *); first | (simp at *; omega) | (simp_all; done)))
         ·
          refine vcIntro [false, false, false, false, false, false, false, false, true, false] (an (an h45 (an h44 (an h42 (an h41 (an h40 (an h39 (an h38 (an h37 (an h0 (an h0 tt)))))))))) (show opMay k a b x = false by ((try dsimp only [zqB11_, zqB12_] at *); simp [opMay] at *; omega))) ?_
          kernel_rfl
        ·
         rcases Bool.eq_false_or_eq_true (k == (6 : Int)) with h46 | h46
         ·
          refine vcIntro [false, false, false, false, false, false, false, false, false, true] (an (an h46 (an h44 (an h42 (an h41 (an h40 (an h39 (an h38 (an h37 (an h0 (an h0 tt)))))))))) (show opMay k a b x = false by ((try dsimp only [zqB11_, zqB12_] at *); simp [opMay] at *; omega))) ?_
          kernel_rfl
         ·
          rcases Bool.eq_false_or_eq_true (k == (7 : Int)) with h47 | h47
          ·
           refine vcIntro [false, false, false, false, false, false, false, false, false, false, true] (an (an h47 (an h46 (an h44 (an h42 (an h41 (an h40 (an h39 (an h38 (an h37 (an h0 (an h0 tt))))))))))) (show opMay k a b x = false by ((try dsimp only [zqB11_, zqB12_] at *); simp [opMay] at *; omega))) ?_
           kernel_rfl
          ·
           rcases Bool.eq_false_or_eq_true (k == (8 : Int)) with h48 | h48
           ·
            refine vcIntro [false, false, false, false, false, false, false, false, false, false, false, true] (an (an h48 (an h47 (an h46 (an h44 (an h42 (an h41 (an h40 (an h39 (an h38 (an h37 (an h0 (an h0 tt)))))))))))) (show opMay k a b x = false by ((try dsimp only [zqB11_, zqB12_] at *); simp [opMay] at *; omega))) ?_
            kernel_rfl
           ·
            rcases Bool.eq_false_or_eq_true (k == (10 : Int)) with h49 | h49
            ·
             refine vcIntro [false, false, false, false, false, false, false, false, false, false, false, false, true] (an (an h49 (an h48 (an h47 (an h46 (an h44 (an h42 (an h41 (an h40 (an h39 (an h38 (an h37 (an h0 (an h0 tt))))))))))))) (show opMay k a b x = false by ((try dsimp only [zqB11_, zqB12_] at *); simp [opMay] at *; omega))) ?_
             kernel_rfl
            ·
             refine vcIntro [false, false, false, false, false, false, false, false, false, false, false, false, false] (an (an h49 (an h48 (an h47 (an h46 (an h44 (an h42 (an h41 (an h40 (an h39 (an h38 (an h37 (an h0 (an h0 tt))))))))))))) (show opMay k a b x = false by ((try dsimp only [zqB11_, zqB12_] at *); simp [opMay] at *; omega))) ?_
             kernel_rfl
theorem om2 (k : Nat → Bool) (z : Nat → Int) : ∃ hh, vcOf (runCall Try.prog noSpec noL 3000 43 [.agg (cellsK 0 k 4 z)] H0 hh) (fun v _ => V.leP (.bool (.s (opMayL ((List.range 4).map z)))) v) := om2a (z 0) (z 1) (z 2) (z 3)
end Go.Ideal.B1
