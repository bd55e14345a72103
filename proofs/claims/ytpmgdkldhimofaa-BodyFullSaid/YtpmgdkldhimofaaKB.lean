/- Put together of: B1p B2p B3p R3p. Own text; nothing here is trusted. -/
import Derived.Test.YtpmgdkldhimofaaR1
import Derived.Test.YtpmgdkldhimofaaR2
namespace Go.Ideal.B1
section
open Go.Proofs Go.Ideal Go.Ideal.L1
set_option linter.unusedSimpArgs false
set_option linter.unusedVariables false
set_option maxRecDepth 100000
set_option maxHeartbeats 8000000

def valMay (x:Int) : Bool := decide (0 ≤ x) && decide (x < 1099511627776)
def allMay : List Int → Bool
 | [] => true
 | x :: xs => valMay x && allMay xs

def zqB11_ (z : Nat → Int) := [z (nat_lit 0), z (nat_lit 1), z (nat_lit 2), z (nat_lit 3), z (nat_lit 4), z (nat_lit 5), z (nat_lit 6), z (nat_lit 7), z (nat_lit 8), z (nat_lit 9), z (nat_lit 10), z (nat_lit 11), z (nat_lit 12), z (nat_lit 13), z (nat_lit 14), z (nat_lit 15), z (nat_lit 16), z (nat_lit 17), z (nat_lit 18), z (nat_lit 19), z (nat_lit 20), z (nat_lit 21), z (nat_lit 22), z (nat_lit 23), z (nat_lit 24), z (nat_lit 25), z (nat_lit 26), z (nat_lit 27), z (nat_lit 28), z (nat_lit 29), z (nat_lit 30), z (nat_lit 31)]
def zqB12_  := [(4:Int), (1:Int), (1048576:Int), (4:Int), (1:Int), (1:Int), (4:Int), (1:Int), (1048576:Int), (4:Int), (1:Int), (1048576:Int), (4:Int), (4:Int), (1048576:Int), (1:Int), (1:Int), (1:Int), (5:Int), (1:Int), (2:Int), (5:Int), (1:Int), (1:Int), (5:Int), (1:Int), (1:Int), (1:Int), (1:Int), (1:Int), (5:Int), (5:Int), (1:Int)]
theorem vm1 (e : TypeId) (z : Nat → Int) : ∃ hh, vcOf (runCall Try.prog below noL 3000 29 [.ptr 0 (.c 0)] (Hm (readB e 16 32 z) 1) hh) (fun v H1 => retP 1 [0] v H1 (.bool (.s (allMay ((List.range 32).map z)))) [none] 1) := by

 rcases eb (!(decide ((0:Int) ≤ z (nat_lit 0)) && decide (z (nat_lit 0) < (1099511627776:Int)))) with h0 | h0
 ·
  refine vcIntro [true] (an (an h0 tt) (an (show allMay (zqB11_ z) = false by (try dsimp only [zqB11_, zqB12_] at *); simp at *; simp [allMay, valMay, List.range_succ] at *; omega) tt)) ?_
  kernel_rfl
 ·
  rcases eb (!(decide ((0:Int) ≤ z (nat_lit 16)) && decide (z (nat_lit 16) < (1099511627776:Int)))) with h1 | h1
  ·
   refine vcIntro (hx2 2 2) (an (u2 h1 h0) (an (show allMay (zqB11_ z) = false by (try dsimp only [zqB11_, zqB12_] at *); simp at *; simp [allMay, valMay, List.range_succ] at *; omega) tt)) ?_
   kernel_rfl
  ·
   rcases eb (!(decide ((0:Int) ≤ z (nat_lit 1)) && decide (z (nat_lit 1) < (1099511627776:Int)))) with h2 | h2
   ·
    refine vcIntro (hx2 3 4) (an (u3 h2 h1 h0) (an (show allMay (zqB11_ z) = false by (try dsimp only [zqB11_, zqB12_] at *); simp at *; simp [allMay, valMay, List.range_succ] at *; omega) tt)) ?_
    kernel_rfl
   ·
    rcases eb (!(decide ((0:Int) ≤ z (nat_lit 17)) && decide (z (nat_lit 17) < (1099511627776:Int)))) with h3 | h3
    ·
     refine vcIntro (hx2 4 8) (an (u4 h3 h2 h1 h0) (an (show allMay (zqB11_ z) = false by (try dsimp only [zqB11_, zqB12_] at *); simp at *; simp [allMay, valMay, List.range_succ] at *; omega) tt)) ?_
     kernel_rfl
    ·
     rcases eb (!(decide ((0:Int) ≤ z (nat_lit 2)) && decide (z (nat_lit 2) < (1099511627776:Int)))) with h4 | h4
     ·
      refine vcIntro (hx2 5 16) (an (u5 h4 h3 h2 h1 h0) (an (show allMay (zqB11_ z) = false by (try dsimp only [zqB11_, zqB12_] at *); simp at *; simp [allMay, valMay, List.range_succ] at *; omega) tt)) ?_
      kernel_rfl
     ·
      rcases eb (!(decide ((0:Int) ≤ z (nat_lit 18)) && decide (z (nat_lit 18) < (1099511627776:Int)))) with h5 | h5
      ·
       refine vcIntro (hx2 6 32) (an (u6 h5 h4 h3 h2 h1 h0) (an (show allMay (zqB11_ z) = false by (try dsimp only [zqB11_, zqB12_] at *); simp at *; simp [allMay, valMay, List.range_succ] at *; omega) tt)) ?_
       kernel_rfl
      ·
       rcases eb (!(decide ((0:Int) ≤ z (nat_lit 3)) && decide (z (nat_lit 3) < (1099511627776:Int)))) with h6 | h6
       ·
        refine vcIntro (hx2 7 64) (an (u7 h6 h5 h4 h3 h2 h1 h0) (an (show allMay (zqB11_ z) = false by (try dsimp only [zqB11_, zqB12_] at *); simp at *; simp [allMay, valMay, List.range_succ] at *; omega) tt)) ?_
        kernel_rfl
       ·
        rcases eb (!(decide ((0:Int) ≤ z (nat_lit 19)) && decide (z (nat_lit 19) < (1099511627776:Int)))) with h7 | h7
        ·
         refine vcIntro (hx2 8 128) (an (u8 h7 h6 h5 h4 h3 h2 h1 h0) (an (show allMay (zqB11_ z) = false by (try dsimp only [zqB11_, zqB12_] at *); simp at *; simp [allMay, valMay, List.range_succ] at *; omega) tt)) ?_
         kernel_rfl
        ·
         rcases eb (!(decide ((0:Int) ≤ z (nat_lit 4)) && decide (z (nat_lit 4) < (1099511627776:Int)))) with h8 | h8
         ·
          refine vcIntro (hx2 9 256) (an (u9 h8 h7 h6 h5 h4 h3 h2 h1 h0) (an (show allMay (zqB11_ z) = false by (try dsimp only [zqB11_, zqB12_] at *); simp at *; simp [allMay, valMay, List.range_succ] at *; omega) tt)) ?_
          kernel_rfl
         ·
          rcases eb (!(decide ((0:Int) ≤ z (nat_lit 20)) && decide (z (nat_lit 20) < (1099511627776:Int)))) with h9 | h9
          ·
           refine vcIntro (hx2 10 512) (an (u10 h9 h8 h7 h6 h5 h4 h3 h2 h1 h0) (an (show allMay (zqB11_ z) = false by (try dsimp only [zqB11_, zqB12_] at *); simp at *; simp [allMay, valMay, List.range_succ] at *; omega) tt)) ?_
           kernel_rfl
          ·
           rcases eb (!(decide ((0:Int) ≤ z (nat_lit 5)) && decide (z (nat_lit 5) < (1099511627776:Int)))) with h10 | h10
           ·
            refine vcIntro (hx2 11 1024) (an (u11 h10 h9 h8 h7 h6 h5 h4 h3 h2 h1 h0) (an (show allMay (zqB11_ z) = false by (try dsimp only [zqB11_, zqB12_] at *); simp at *; simp [allMay, valMay, List.range_succ] at *; omega) tt)) ?_
            kernel_rfl
           ·
            rcases eb (!(decide ((0:Int) ≤ z (nat_lit 21)) && decide (z (nat_lit 21) < (1099511627776:Int)))) with h11 | h11
            ·
             refine vcIntro (hx2 12 2048) (an (u12 h11 h10 h9 h8 h7 h6 h5 h4 h3 h2 h1 h0) (an (show allMay (zqB11_ z) = false by (try dsimp only [zqB11_, zqB12_] at *); simp at *; simp [allMay, valMay, List.range_succ] at *; omega) tt)) ?_
             kernel_rfl
            ·
             rcases eb (!(decide ((0:Int) ≤ z (nat_lit 6)) && decide (z (nat_lit 6) < (1099511627776:Int)))) with h12 | h12
             ·
              refine vcIntro (hx2 13 4096) (an (u13 h12 h11 h10 h9 h8 h7 h6 h5 h4 h3 h2 h1 h0) (an (show allMay (zqB11_ z) = false by (try dsimp only [zqB11_, zqB12_] at *); simp at *; simp [allMay, valMay, List.range_succ] at *; omega) tt)) ?_
              kernel_rfl
             ·
              rcases eb (!(decide ((0:Int) ≤ z (nat_lit 22)) && decide (z (nat_lit 22) < (1099511627776:Int)))) with h13 | h13
              ·
               refine vcIntro (hx2 14 8192) (an (u14 h13 h12 h11 h10 h9 h8 h7 h6 h5 h4 h3 h2 h1 h0) (an (show allMay (zqB11_ z) = false by (try dsimp only [zqB11_, zqB12_] at *); simp at *; simp [allMay, valMay, List.range_succ] at *; omega) tt)) ?_
               kernel_rfl
              ·
               rcases eb (!(decide ((0:Int) ≤ z (nat_lit 7)) && decide (z (nat_lit 7) < (1099511627776:Int)))) with h14 | h14
               ·
                refine vcIntro (hx2 15 16384) (an (u15 h14 h13 h12 h11 h10 h9 h8 h7 h6 h5 h4 h3 h2 h1 h0) (an (show allMay (zqB11_ z) = false by (try dsimp only [zqB11_, zqB12_] at *); simp at *; simp [allMay, valMay, List.range_succ] at *; omega) tt)) ?_
                kernel_rfl
               ·
                rcases eb (!(decide ((0:Int) ≤ z (nat_lit 23)) && decide (z (nat_lit 23) < (1099511627776:Int)))) with h15 | h15
                ·
                 refine vcIntro (hx2 16 32768) (an (u16 h15 h14 h13 h12 h11 h10 h9 h8 h7 h6 h5 h4 h3 h2 h1 h0) (an (show allMay (zqB11_ z) = false by (try dsimp only [zqB11_, zqB12_] at *); simp at *; simp [allMay, valMay, List.range_succ] at *; omega) tt)) ?_
                 kernel_rfl
                ·
                 rcases eb (!(decide ((0:Int) ≤ z (nat_lit 8)) && decide (z (nat_lit 8) < (1099511627776:Int)))) with h16 | h16
                 ·
                  refine vcIntro (hx2 17 65536) (an (u17 h16 h15 h14 h13 h12 h11 h10 h9 h8 h7 h6 h5 h4 h3 h2 h1 h0) (an (show allMay (zqB11_ z) = false by (try dsimp only [zqB11_, zqB12_] at *); simp at *; simp [allMay, valMay, List.range_succ] at *; omega) tt)) ?_
                  kernel_rfl
                 ·
                  rcases eb (!(decide ((0:Int) ≤ z (nat_lit 24)) && decide (z (nat_lit 24) < (1099511627776:Int)))) with h17 | h17
                  ·
                   refine vcIntro (hx2 18 131072) (an (u18 h17 h16 h15 h14 h13 h12 h11 h10 h9 h8 h7 h6 h5 h4 h3 h2 h1 h0) (an (show allMay (zqB11_ z) = false by (try dsimp only [zqB11_, zqB12_] at *); simp at *; simp [allMay, valMay, List.range_succ] at *; omega) tt)) ?_
                   kernel_rfl
                  ·
                   rcases eb (!(decide ((0:Int) ≤ z (nat_lit 9)) && decide (z (nat_lit 9) < (1099511627776:Int)))) with h18 | h18
                   ·
                    refine vcIntro (hx2 19 262144) (an (u19 h18 h17 h16 h15 h14 h13 h12 h11 h10 h9 h8 h7 h6 h5 h4 h3 h2 h1 h0) (an (show allMay (zqB11_ z) = false by (try dsimp only [zqB11_, zqB12_] at *); simp at *; simp [allMay, valMay, List.range_succ] at *; omega) tt)) ?_
                    kernel_rfl
                   ·
                    rcases eb (!(decide ((0:Int) ≤ z (nat_lit 25)) && decide (z (nat_lit 25) < (1099511627776:Int)))) with h19 | h19
                    ·
                     refine vcIntro (hx2 20 524288) (an (u20 h19 h18 h17 h16 h15 h14 h13 h12 h11 h10 h9 h8 h7 h6 h5 h4 h3 h2 h1 h0) (an (show allMay (zqB11_ z) = false by (try dsimp only [zqB11_, zqB12_] at *); simp at *; simp [allMay, valMay, List.range_succ] at *; omega) tt)) ?_
                     kernel_rfl
                    ·
                     rcases eb (!(decide ((0:Int) ≤ z (nat_lit 10)) && decide (z (nat_lit 10) < (1099511627776:Int)))) with h20 | h20
                     ·
                      refine vcIntro (hx2 21 1048576) (an (u21 h20 h19 h18 h17 h16 h15 h14 h13 h12 h11 h10 h9 h8 h7 h6 h5 h4 h3 h2 h1 h0) (an (show allMay (zqB11_ z) = false by (try dsimp only [zqB11_, zqB12_] at *); simp at *; simp [allMay, valMay, List.range_succ] at *; omega) tt)) ?_
                      kernel_rfl
                     ·
                      rcases eb (!(decide ((0:Int) ≤ z (nat_lit 26)) && decide (z (nat_lit 26) < (1099511627776:Int)))) with h21 | h21
                      ·
                       refine vcIntro (hx2 22 2097152) (an (u22 h21 h20 h19 h18 h17 h16 h15 h14 h13 h12 h11 h10 h9 h8 h7 h6 h5 h4 h3 h2 h1 h0) (an (show allMay (zqB11_ z) = false by (try dsimp only [zqB11_, zqB12_] at *); simp at *; simp [allMay, valMay, List.range_succ] at *; omega) tt)) ?_
                       kernel_rfl
                      ·
                       rcases eb (!(decide ((0:Int) ≤ z (nat_lit 11)) && decide (z (nat_lit 11) < (1099511627776:Int)))) with h22 | h22
                       ·
                        refine vcIntro (hx2 23 4194304) (an (u23 h22 h21 h20 h19 h18 h17 h16 h15 h14 h13 h12 h11 h10 h9 h8 h7 h6 h5 h4 h3 h2 h1 h0) (an (show allMay (zqB11_ z) = false by (try dsimp only [zqB11_, zqB12_] at *); simp at *; simp [allMay, valMay, List.range_succ] at *; omega) tt)) ?_
                        kernel_rfl
                       ·
                        rcases eb (!(decide ((0:Int) ≤ z (nat_lit 27)) && decide (z (nat_lit 27) < (1099511627776:Int)))) with h23 | h23
                        ·
                         refine vcIntro (hx2 24 8388608) (an (u24 h23 h22 h21 h20 h19 h18 h17 h16 h15 h14 h13 h12 h11 h10 h9 h8 h7 h6 h5 h4 h3 h2 h1 h0) (an (show allMay (zqB11_ z) = false by (try dsimp only [zqB11_, zqB12_] at *); simp at *; simp [allMay, valMay, List.range_succ] at *; omega) tt)) ?_
                         kernel_rfl
                        ·
                         rcases eb (!(decide ((0:Int) ≤ z (nat_lit 12)) && decide (z (nat_lit 12) < (1099511627776:Int)))) with h24 | h24
                         ·
                          refine vcIntro (hx2 25 16777216) (an (u25 h24 h23 h22 h21 h20 h19 h18 h17 h16 h15 h14 h13 h12 h11 h10 h9 h8 h7 h6 h5 h4 h3 h2 h1 h0) (an (show allMay (zqB11_ z) = false by (try dsimp only [zqB11_, zqB12_] at *); simp at *; simp [allMay, valMay, List.range_succ] at *; omega) tt)) ?_
                          kernel_rfl
                         ·
                          rcases eb (!(decide ((0:Int) ≤ z (nat_lit 28)) && decide (z (nat_lit 28) < (1099511627776:Int)))) with h25 | h25
                          ·
                           refine vcIntro (hx2 26 33554432) (an (u26 h25 h24 h23 h22 h21 h20 h19 h18 h17 h16 h15 h14 h13 h12 h11 h10 h9 h8 h7 h6 h5 h4 h3 h2 h1 h0) (an (show allMay (zqB11_ z) = false by (try dsimp only [zqB11_, zqB12_] at *); simp at *; simp [allMay, valMay, List.range_succ] at *; omega) tt)) ?_
                           kernel_rfl
                          ·
                           rcases eb (!(decide ((0:Int) ≤ z (nat_lit 13)) && decide (z (nat_lit 13) < (1099511627776:Int)))) with h26 | h26
                           ·
                            refine vcIntro (hx2 27 67108864) (an (u27 h26 h25 h24 h23 h22 h21 h20 h19 h18 h17 h16 h15 h14 h13 h12 h11 h10 h9 h8 h7 h6 h5 h4 h3 h2 h1 h0) (an (show allMay (zqB11_ z) = false by (try dsimp only [zqB11_, zqB12_] at *); simp at *; simp [allMay, valMay, List.range_succ] at *; omega) tt)) ?_
                            kernel_rfl
                           ·
                            rcases eb (!(decide ((0:Int) ≤ z (nat_lit 29)) && decide (z (nat_lit 29) < (1099511627776:Int)))) with h27 | h27
                            ·
                             refine vcIntro (hx2 28 134217728) (an (u28 h27 h26 h25 h24 h23 h22 h21 h20 h19 h18 h17 h16 h15 h14 h13 h12 h11 h10 h9 h8 h7 h6 h5 h4 h3 h2 h1 h0) (an (show allMay (zqB11_ z) = false by (try dsimp only [zqB11_, zqB12_] at *); simp at *; simp [allMay, valMay, List.range_succ] at *; omega) tt)) ?_
                             kernel_rfl
                            ·
                             rcases eb (!(decide ((0:Int) ≤ z (nat_lit 14)) && decide (z (nat_lit 14) < (1099511627776:Int)))) with h28 | h28
                             ·
                              refine vcIntro (hx2 29 268435456) (an (u29 h28 h27 h26 h25 h24 h23 h22 h21 h20 h19 h18 h17 h16 h15 h14 h13 h12 h11 h10 h9 h8 h7 h6 h5 h4 h3 h2 h1 h0) (an (show allMay (zqB11_ z) = false by (try dsimp only [zqB11_, zqB12_] at *); simp at *; simp [allMay, valMay, List.range_succ] at *; omega) tt)) ?_
                              kernel_rfl
                             ·
                              rcases eb (!(decide ((0:Int) ≤ z (nat_lit 30)) && decide (z (nat_lit 30) < (1099511627776:Int)))) with h29 | h29
                              ·
                               refine vcIntro (hx2 30 536870912) (an (u30 h29 h28 h27 h26 h25 h24 h23 h22 h21 h20 h19 h18 h17 h16 h15 h14 h13 h12 h11 h10 h9 h8 h7 h6 h5 h4 h3 h2 h1 h0) (an (show allMay (zqB11_ z) = false by (try dsimp only [zqB11_, zqB12_] at *); simp at *; simp [allMay, valMay, List.range_succ] at *; omega) tt)) ?_
                               kernel_rfl
                              ·
                               rcases eb (!(decide ((0:Int) ≤ z (nat_lit 15)) && decide (z (nat_lit 15) < (1099511627776:Int)))) with h30 | h30
                               ·
                                refine vcIntro (hx2 31 1073741824) (an (an h30 (an h29 (an h28 (an h27 (an h26 (an h25 (an h24 (an h23 (an h22 (an h21 (an h20 (an h19 (an h18 (an h17 (an h16 (an h15 (an h14 (an h13 (an h12 (an h11 (an h10 (an h9 (an h8 (an h7 (an h6 (an h5 (an h4 (an h3 (an h2 (an h1 (an h0 tt))))))))))))))))))))))))))))))) (an (show allMay (zqB11_ z) = false by (try dsimp only [zqB11_, zqB12_] at *); simp at *; simp [allMay, valMay, List.range_succ] at *; omega) tt)) ?_
                                kernel_rfl
                               ·
                                rcases eb (!(decide ((0:Int) ≤ z (nat_lit 31)) && decide (z (nat_lit 31) < (1099511627776:Int)))) with h31 | h31
                                ·
                                 refine vcIntro (hx2 32 2147483648) (an (an h31 (an h30 (an h29 (an h28 (an h27 (an h26 (an h25 (an h24 (an h23 (an h22 (an h21 (an h20 (an h19 (an h18 (an h17 (an h16 (an h15 (an h14 (an h13 (an h12 (an h11 (an h10 (an h9 (an h8 (an h7 (an h6 (an h5 (an h4 (an h3 (an h2 (an h1 (an h0 tt)))))))))))))))))))))))))))))))) (an (show allMay (zqB11_ z) = false by (try dsimp only [zqB11_, zqB12_] at *); simp at *; simp [allMay, valMay, List.range_succ] at *; omega) tt)) ?_
                                 kernel_rfl
                                ·
                                 refine vcIntro (hx2 32 0) (an (an h31 (an h30 (an h29 (an h28 (an h27 (an h26 (an h25 (an h24 (an h23 (an h22 (an h21 (an h20 (an h19 (an h18 (an h17 (an h16 (an h15 (an h14 (an h13 (an h12 (an h11 (an h10 (an h9 (an h8 (an h7 (an h6 (an h5 (an h4 (an h3 (an h2 (an h1 (an h0 tt)))))))))))))))))))))))))))))))) (an (show allMay (zqB11_ z) = true by (try dsimp only [zqB11_, zqB12_] at *); simp at *; simp [allMay, valMay, List.range_succ] at *; omega) tt)) ?_
                                 kernel_rfl
def opMay (k a b x:Int) : Bool := decide (0 ≤ k) && decide (k < 11) && (decide (0 ≤ a) && decide (a < (if k < 5 then 4 else if k = 5 ∨ k = 9 then 1 else 5))) && (decide (0 ≤ b) && decide (b < (if k = 4 then 4 else if k = 10 then 5 else 1)))
 && (decide (0 ≤ x) && decide (x < (if k = 0 ∨ k = 2 ∨ k = 3 ∨ k = 4 then 1048576 else if k = 6 then 2 else 1)))
def opMayL : List Int → Bool
 | [k, a, b, x] => opMay k a b x
 | _ => false
def opB (e : TypeId) (k a b x:Int) : List (Option Blk) := [some (.own true e (fun _ => 0) 0 [.int .i64 (.s k), .int .i64 (.s a), .int .i64 (.s b), .int .i64 (.s x)])]
theorem om1a (e : TypeId) (k a b x:Int) : ∃ hh, vcOf (runCall Try.prog below noL 3000 30 [.ptr 0 (.c 0)] (Hm (opB e k a b x) 1) hh) (fun v H1 => retP 1 [0] v H1 (.bool (.s (opMay k a b x))) [none] 1) := by

 rcases eb (!(decide ((0:Int) ≤ k) && decide (k < (11:Int)))) with h0 | h0
 ·
  refine vcIntro [true] (an (an h0 tt) (an (show opMay k a b x = false by (try dsimp only [zqB11_, zqB12_] at *); simp [opMay] at *; omega) tt)) ?_
  kernel_rfl
 ·
  rcases eb (decide ((0:Int) ≤ a) && decide (a < (zqB12_ ).getD (k.toNat * (3:Nat)) 0)) with h1 | h1
  ·
   rcases eb (decide ((0:Int) ≤ b) && decide (b < (zqB12_ ).getD (k.toNat * (3:Nat) + (1:Nat)) 0)) with h2 | h2
   ·
    refine vcIntro (hx2 3 6) (an (an h2 (an h1 (an (show (k.toNat * (3:Nat)).succ ≤ (33:Nat) by (try dsimp only [zqB11_, zqB12_] at *); simp [opMay] at *; omega) (an (show (k.toNat * (3:Nat) + (1:Nat)).succ ≤ (33:Nat) by (try dsimp only [zqB11_, zqB12_] at *); simp [opMay] at *; omega) (an (show (k.toNat * (3:Nat) + (1:Nat) + (1:Nat)).succ ≤ (33:Nat) by (try dsimp only [zqB11_, zqB12_] at *); simp [opMay] at *; omega) (an (an (show (0:Int) ≤ k by (try dsimp only [zqB11_, zqB12_] at *); simp [opMay] at *; omega) (show k + (1:Int) ≤ (11:Int) by (try dsimp only [zqB11_, zqB12_] at *); simp [opMay] at *; omega)) (an h0 tt))))))) (an (show opMay k a b x = (decide ((0:Int) ≤ x) && decide (x < (zqB12_ ).getD (k.toNat * (3:Nat) + (1:Nat) + (1:Nat)) 0)) by ((try dsimp only [zqB11_, zqB12_] at *); rcases (by simp at h0; omega : k = 0 ∨ k = 1 ∨ k = 2 ∨ k = 3 ∨ k = 4 ∨ k = 5 ∨ k = 6 ∨ k = 7 ∨ k = 8 ∨ k = 9 ∨ k = 10) with h | h | h | h | h | h | h | h | h | h | h <;> subst h <;> simp [opMay] at * <;> omega)) tt)) ?_
    kernel_rfl
   ·
    refine vcIntro (hx2 3 2) (an (an h2 (an h1 (an (show (k.toNat * (3:Nat)).succ ≤ (33:Nat) by (try dsimp only [zqB11_, zqB12_] at *); simp [opMay] at *; omega) (an (show (k.toNat * (3:Nat) + (1:Nat)).succ ≤ (33:Nat) by (try dsimp only [zqB11_, zqB12_] at *); simp [opMay] at *; omega) (an (show (k.toNat * (3:Nat) + (1:Nat) + (1:Nat)).succ ≤ (33:Nat) by (try dsimp only [zqB11_, zqB12_] at *); simp [opMay] at *; omega) (an (an (show (0:Int) ≤ k by (try dsimp only [zqB11_, zqB12_] at *); simp [opMay] at *; omega) (show k + (1:Int) ≤ (11:Int) by (try dsimp only [zqB11_, zqB12_] at *); simp [opMay] at *; omega)) (an h0 tt))))))) (an (show opMay k a b x = false by ((try dsimp only [zqB11_, zqB12_] at *); rcases (by simp at h0; omega : k = 0 ∨ k = 1 ∨ k = 2 ∨ k = 3 ∨ k = 4 ∨ k = 5 ∨ k = 6 ∨ k = 7 ∨ k = 8 ∨ k = 9 ∨ k = 10) with h | h | h | h | h | h | h | h | h | h | h <;> subst h <;> simp [opMay] at * <;> omega)) tt)) ?_
    kernel_rfl
  ·
   refine vcIntro (hx2 2 0) (an (an h1 (an (show (k.toNat * (3:Nat)).succ ≤ (33:Nat) by (try dsimp only [zqB11_, zqB12_] at *); simp [opMay] at *; omega) (an (show (k.toNat * (3:Nat) + (1:Nat)).succ ≤ (33:Nat) by (try dsimp only [zqB11_, zqB12_] at *); simp [opMay] at *; omega) (an (show (k.toNat * (3:Nat) + (1:Nat) + (1:Nat)).succ ≤ (33:Nat) by (try dsimp only [zqB11_, zqB12_] at *); simp [opMay] at *; omega) (an (an (show (0:Int) ≤ k by (try dsimp only [zqB11_, zqB12_] at *); simp [opMay] at *; omega) (show k + (1:Int) ≤ (11:Int) by (try dsimp only [zqB11_, zqB12_] at *); simp [opMay] at *; omega)) (an h0 tt)))))) (an (show opMay k a b x = false by ((try dsimp only [zqB11_, zqB12_] at *); rcases (by simp at h0; omega : k = 0 ∨ k = 1 ∨ k = 2 ∨ k = 3 ∨ k = 4 ∨ k = 5 ∨ k = 6 ∨ k = 7 ∨ k = 8 ∨ k = 9 ∨ k = 10) with h | h | h | h | h | h | h | h | h | h | h <;> subst h <;> simp [opMay] at * <;> omega)) tt)) ?_
   kernel_rfl
theorem om1 (e : TypeId) (z : Nat → Int) : ∃ hh, vcOf (runCall Try.prog below noL 3000 30 [.ptr 0 (.c 0)] (Hm (readB e 0 4 z) 1) hh) (fun v H1 => retP 1 [0] v H1 (.bool (.s (opMayL ((List.range 4).map z)))) [none] 1) := om1a e (z 0) (z 1) (z 2) (z 3)
end
end Go.Ideal.B1

namespace Go.Ideal.B1
section
open Go.Proofs Go.Ideal Go.Ideal.L1
set_option linter.unusedSimpArgs false
set_option linter.unusedVariables false
set_option maxRecDepth 100000
set_option maxHeartbeats 4000000

def vmAns (zs : List Int) : V := .bool (.s (allMay zs))
def omAns (zs : List Int) : V := .bool (.s (opMayL zs))
def maysP : Spec := orS (readS 29 16 32 vmAns) (orS (readS 30 0 4 omAns) below)
theorem maysP_ok : SpecOk Try.prog maysP :=
  orS_ok (readS_ok fun e z => callKeep below_ok (vm1 e z)) (orS_ok (readS_ok fun e z => callKeep below_ok (om1 e z)) below_ok)
end
end Go.Ideal.B1

namespace Go.Ideal.B1
section
open Go.Proofs Go.Ideal Go.Ideal.L1
set_option linter.unusedSimpArgs false
set_option linter.unusedVariables false
set_option maxRecDepth 100000
set_option maxHeartbeats 8000000

/-- A view's cells. -/
def viewOf (bs : List Bool) (zs : List Int) : List V := bs.map (fun b => .bool (.s b)) ++ zs.map (fun z => .int .i64 (.s z))
def sel {α : Type} (m0 m1 m2 m3 : α) (a:Int) : α := if a = 0 then m0 else if a = 1 then m1 else if a = 2 then m2 else m3
/-- The cell that must be known; -1: none. -/
def bkNeed (b0 b1 b2 b3:Bool) (k a b:Int) : Int :=
  if k = 5 then (if b0 then if b1 then if b2 then if b3 then -1 else 3 else 2 else 1 else 0)
  else if sel b0 b1 b2 b3 a then (if k = 4 then (if sel b0 b1 b2 b3 b then -1 else b) else -1) else a
def bkCode (m0 m1 m2 m3 k a b x:Int) : Int :=
  let X := sel m0 m1 m2 m3 a
  let Y := sel m0 m1 m2 m3 b
  if k = 0 then (if X > 0 then 1 else 0)
  else if k = 1 then (if X > 0 then 0 else 2)
  else if k = 2 then (if X > 0 then (if X - 1 + x > 1048575 then 4 else 0) else 2)
  else if k = 3 then (if X > 0 then (if X - 1 < x then 3 else 0) else 2)
  else if k = 4 then (if X > 0 then (if Y > 0 then (if X - 1 < x then 3 else if a = b then 0 else if Y - 1 + x > 1048575 then 4 else 0) else 2) else 2)
  else 0
def pos (x:Int) : Int := if x > 0 then x - 1 else 0
def bkNum (m0 m1 m2 m3 k a b x:Int) : Int :=
  let X := sel m0 m1 m2 m3 a
  if bkCode m0 m1 m2 m3 k a b x = 0 then
    (if k = 0 then x else if k = 1 then X - 1 else if k = 2 then X - 1 + x else if k = 3 then X - 1 - x else if k = 4 then (if a = b then X - 1 else X - 1 - x) else pos m0 + pos m1 + pos m2 + pos m3)
  else 0
/-- A cell of an account, afterwards. -/
def bkNow (m0 m1 m2 m3 k a b x i:Int) : Int :=
  let X := sel m0 m1 m2 m3 i
  if bkCode m0 m1 m2 m3 k a b x = 0 then
    (if k = 0 then (if i = a then x + 1 else X) else if k = 1 then (if i = a then 0 else X) else if k = 2 then (if i = a then X + x else X) else if k = 3 then (if i = a then X - x else X)
     else if k = 4 then (if a = b then X else if i = a then X - x else if i = b then X + x else X) else X)
  else X
def bkMay (zs : List Int) (k a b x:Int) : Bool := allMay zs && opMay k a b x && decide (k < 6)

def badAsk (err:Int) : V := .tuple [.agg (.int .i64 (.c 0) :: List.replicate 16 (.bool (.c false)) ++ List.replicate 32 (.int .i64 (.c 0)) ++ [.nils]), .int .i64 (.c err)]
def needAsk (n:Int) (bs : List Bool) (zs : List Int) : V := .tuple [.agg (.int .i64 (.s n) :: viewOf bs zs ++ [.nils]), .int .i64 (.c 0)]
def doneAsk (bs : List Bool) (zs : List Int) : V := .tuple [.agg (.int .i64 (.c (-1)) :: viewOf bs zs ++ [.slice 0 (.c 0) (.c 1) 2 (.c 1)]), .int .i64 (.c 0)]
def ansB (c n:Int) : List (Option Blk) := [some (.own false 48 (fun _ => 0) 0 [.int .i64 (.s c), .int .i64 (.s n)])]
def bkZs (zs : List Int) (k a b x:Int) : List Int := match zs.drop 16 with
  | m0 :: m1 :: m2 :: m3 :: ms => zs.take 16 ++ bkNow m0 m1 m2 m3 k a b x 0 :: bkNow m0 m1 m2 m3 k a b x 1 :: bkNow m0 m1 m2 m3 k a b x 2 :: bkNow m0 m1 m2 m3 k a b x 3 :: ms
  | _ => zs
def bkA (zs : List Int) (k a b x:Int) : List (Option Blk) := match zs.drop 16 with
  | m0 :: m1 :: m2 :: m3 :: _ => ansB (bkCode m0 m1 m2 m3 k a b x) (bkNum m0 m1 m2 m3 k a b x)
  | _ => []
def bkD (bs : List Bool) (k a b:Int) : Int := match bs with
  | b0 :: b1 :: b2 :: b3 :: _ => bkNeed b0 b1 b2 b3 k a b
  | _ => 0
/-- The three shapes: what may not be, what must be known, what is answered. -/
def bkSh (bs : List Bool) (zs : List Int) (k a b x:Int) : List (Bool × Sh) × Sh :=
  ([(!bkMay zs k a b x, ⟨badAsk 500, []⟩), (decide (0 ≤ bkD bs k a b), ⟨needAsk (bkD bs k a b) bs zs, []⟩)], ⟨doneAsk bs (bkZs zs k a b x), bkA zs k a b x⟩)

/-- Bools, worked out at once. -/
def boolsK {α : Type} : List V → (List Bool → α) → α
  | .bool b :: vs, k => b.force fun b => boolsK vs fun bs => k (b.val :: bs)
  | _, k => k []
def viewG (g : List Bool → List Int → Int → Int → Int → Int → List (Bool × Sh) × Sh) : List V → Option (List (Bool × Sh) × Sh)
  | [.agg vs, .agg os] => if Nat.beq vs.length 48 && Nat.beq os.length 4 then boolsK (vs.take 16) fun bs => intsK (vs.drop 16) fun zs => if Nat.beq bs.length 16 && Nat.beq zs.length 32 then intsK os fun ws => match ws with
    | [k, a, b, x] => some (g bs zs k a b x)
    | _ => none
    else none
    else none
  | _ => none
end
end Go.Ideal.B1

namespace Go.Ideal.B1
section
open Go.Proofs Go.Ideal Go.Ideal.L1
set_option linter.unusedSimpArgs false
set_option linter.unusedVariables false

def boolsOf : List V → List Bool
  | .bool b :: vs => b.val :: boolsOf vs
  | _ => []
theorem boolsK_eq {α : Type} : ∀ (vs : List V) (k : List Bool → α), boolsK vs k = k (boolsOf vs)
  | [], k => rfl
  | v :: vs, k => by
    unfold boolsK boolsOf
    split
    · rename_i e us heq
      simp only [List.cons.injEq] at heq
      obtain ⟨rfl, rfl⟩ := heq
      simp only [B.force_eq]
      exact boolsK_eq vs _
    · rename_i hne
      split
      · rename_i e us heq
        simp only [List.cons.injEq] at heq
        obtain ⟨rfl, rfl⟩ := heq
        exact absurd rfl (hne e vs)
      · rfl
theorem boolsOf_lePs : ∀ (vs : List V), (boolsOf vs).length = vs.length → V.lePs ((boolsOf vs).map fun z => V.bool (.s z)) vs
  | [], _ => by simp [boolsOf, V.lePs]
  | .bool e :: vs, h => by
    simp only [boolsOf, List.length_cons, Nat.add_right_cancel_iff, List.map_cons] at h ⊢
    exact V.lePs_cons (by cases e <;> simp [V.leP, B.eqP, B.val]) (boolsOf_lePs vs h)
  | v :: vs, h => by
    unfold boolsOf at h ⊢
    split
    · rename_i e vs' heq
      simp only [List.cons.injEq] at heq
      obtain ⟨rfl, rfl⟩ := heq
      simp only [List.length_cons, Nat.add_right_cancel_iff, List.map_cons] at h ⊢
      exact V.lePs_cons (by cases e <;> simp [V.leP, B.eqP, B.val]) (boolsOf_lePs vs h)
    · rename_i hne
      simp [hne] at h

theorem viewG_some {g : List Bool → List Int → Int → Int → Int → Int → List (Bool × Sh) × Sh} {xs : List V} {cl : List (Bool × Sh)} {z : Sh} (h : viewG g xs = some (cl, z)) :
    ∃ vs os bs zs k a b x, xs = [.agg vs, .agg os] ∧ bs.length = 16 ∧ zs.length = 32 ∧ (∀ r ys, VRs r [.agg vs, .agg os] ys → VRs r [.agg (viewOf bs zs), .agg [.int .i64 (.s k), .int .i64 (.s a), .int .i64 (.s b), .int .i64 (.s x)]] ys) ∧ g bs zs k a b x = (cl, z) := by
  unfold viewG at h
  split at h
  · rename_i vs os
    split at h
    · rename_i hl
      simp only [Bool.and_eq_true] at hl
      have hl1 := Nat.eq_of_beq_eq_true hl.1
      have hl2 := Nat.eq_of_beq_eq_true hl.2
      rw [boolsK_eq] at h
      simp only [intsK_eq] at h
      split at h
      · rename_i hn
        simp only [Bool.and_eq_true] at hn
        have hn1 := Nat.eq_of_beq_eq_true hn.1
        have hn2 := Nat.eq_of_beq_eq_true hn.2
        split at h
        · rename_i k a b x hw
          simp only [Option.some.injEq] at h
          refine ⟨vs, os, boolsOf (vs.take 16), intsOf (vs.drop 16), k, a, b, x, rfl, hn1, hn2, fun r ys hy => ?_, h⟩
          have h1 : V.lePs (viewOf (boolsOf (vs.take 16)) (intsOf (vs.drop 16))) vs := by
            have := lePs_append _ _ _ _ (boolsOf_lePs (vs.take 16) (by rw [hn1, List.length_take]; omega)) (intsOf_lePs (vs.drop 16) (by rw [hn2, List.length_drop]; omega))
            rwa [List.take_append_drop] at this
          have h2 : V.lePs [V.int .i64 (.s k), .int .i64 (.s a), .int .i64 (.s b), .int .i64 (.s x)] os := by
            have := intsOf_lePs os (by rw [hw, hl2]; rfl)
            rwa [hw] at this
          simp only [VRs, VR] at hy ⊢
          obtain ⟨y, zs, e, ⟨z, e1, g1⟩, y2, zs2, e2, ⟨z2, e3, g2⟩, e4⟩ := hy
          exact ⟨y, zs, e, ⟨z, e1, V.lePs_ok _ _ _ h1 g1⟩, y2, zs2, e2, ⟨z2, e3, by have := V.lePs_ok _ _ _ h2 g2; simpa only [VRs, VR] using this⟩, e4⟩
        · simp at h
      · simp at h
    · simp at h
  · simp at h
end
end Go.Ideal.B1
