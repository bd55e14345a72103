/- Chapter 5: runs over what may not be. Written by gen/bank.py. Own text. -/
import Derived.Test.YtmkgiejjapljpaaB3
namespace Go.Ideal.B1
open Go.Proofs Go.Ideal Go.Ideal.L1
set_option linter.unusedSimpArgs false
set_option linter.unusedVariables false
set_option maxRecDepth 100000
set_option maxHeartbeats 8000000

theorem bkx (b0 b1 b2 b3 b4 b5 b6 b7 b8 b9 b10 b11 b12 b13 b14 b15 : Bool) (z0 z1 z2 z3 z4 z5 z6 z7 z8 z9 z10 z11 z12 z13 z14 z15 z16 z17 z18 z19 z20 z21 z22 z23 z24 z25 z26 z27 z28 z29 z30 z31 x : Int) (k a b : Int) : BadRun 21 [b0, b1, b2, b3, b4, b5, b6, b7, b8, b9, b10, b11, b12, b13, b14, b15] [z0, z1, z2, z3, z4, z5, z6, z7, z8, z9, z10, z11, z12, z13, z14, z15, z16, z17, z18, z19, z20, z21, z22, z23, z24, z25, z26, z27, z28, z29, z30, z31] k a b x := by
 intro h
 simp only [bkMay, Bool.and_eq_false_iff] at h

 rcases Bool.eq_false_or_eq_true (!allMay [z0, z1, z2, z3, z4, z5, z6, z7, z8, z9, z10, z11, z12, z13, z14, z15, z16, z17, z18, z19, z20, z21, z22, z23, z24, z25, z26, z27, z28, z29, z30, z31]) with h0 | h0
 ·
  refine vcIntro [true] (an (an h0 tt) (an (an (an tt (an tt (an tt (an tt (an tt (an tt (an tt (an tt (an tt (an tt (an tt (an tt (an tt (an tt (an tt (an tt (an tt (an tt (an tt (an tt (an tt (an tt (an tt (an tt (an tt (an tt (an tt (an tt (an tt (an tt (an tt (an tt (an tt (an tt (an tt (an tt (an tt (an tt (an tt (an tt (an tt (an tt (an tt (an tt (an tt (an tt (an tt (an tt (an tt tt))))))))))))))))))))))))))))))))))))))))))))))))) tt) tt)) ?_
  kernel_rfl
 ·
  rcases Bool.eq_false_or_eq_true (!opMayL [k, a, b, x]) with h1 | h1
  ·
   refine vcIntro [false, true] (an (an h1 (an h0 tt)) (an (an (an tt (an tt (an tt (an tt (an tt (an tt (an tt (an tt (an tt (an tt (an tt (an tt (an tt (an tt (an tt (an tt (an tt (an tt (an tt (an tt (an tt (an tt (an tt (an tt (an tt (an tt (an tt (an tt (an tt (an tt (an tt (an tt (an tt (an tt (an tt (an tt (an tt (an tt (an tt (an tt (an tt (an tt (an tt (an tt (an tt (an tt (an tt (an tt (an tt tt))))))))))))))))))))))))))))))))))))))))))))))))) tt) tt)) ?_
   kernel_rfl
  ·
   rcases Bool.eq_false_or_eq_true (decide (k ≥ (0 : Int))) with h2 | h2
   ·
    rcases Bool.eq_false_or_eq_true (!decide (k ≤ (5 : Int))) with h3 | h3
    ·
     refine vcIntro [false, false, true, true] (an (an h3 (an h2 (an h1 (an h0 tt)))) (an (an (an tt (an tt (an tt (an tt (an tt (an tt (an tt (an tt (an tt (an tt (an tt (an tt (an tt (an tt (an tt (an tt (an tt (an tt (an tt (an tt (an tt (an tt (an tt (an tt (an tt (an tt (an tt (an tt (an tt (an tt (an tt (an tt (an tt (an tt (an tt (an tt (an tt (an tt (an tt (an tt (an tt (an tt (an tt (an tt (an tt (an tt (an tt (an tt (an tt tt))))))))))))))))))))))))))))))))))))))))))))))))) tt) tt)) ?_
     kernel_rfl
    · exact ff (by (simp [opMayL, opMay] at *; simp_all; omega))
   · exact ff (by (simp [opMayL, opMay] at *; simp_all; omega))
theorem rkx (b0 b1 b2 b3 b4 b5 b6 b7 b8 b9 b10 b11 b12 b13 b14 b15 : Bool) (z0 z1 z2 z3 z4 z5 z6 z7 z8 z9 z10 z11 z12 z13 z14 z15 z16 z17 z18 z19 z20 z21 z22 z23 z24 z25 z26 z27 z28 z29 z30 z31 x : Int) (k a b : Int) : BadRun 22 [b0, b1, b2, b3, b4, b5, b6, b7, b8, b9, b10, b11, b12, b13, b14, b15] [z0, z1, z2, z3, z4, z5, z6, z7, z8, z9, z10, z11, z12, z13, z14, z15, z16, z17, z18, z19, z20, z21, z22, z23, z24, z25, z26, z27, z28, z29, z30, z31] k a b x := by
 intro h
 simp only [bkMay, Bool.and_eq_false_iff] at h

 rcases Bool.eq_false_or_eq_true (!allMay [z0, z1, z2, z3, z4, z5, z6, z7, z8, z9, z10, z11, z12, z13, z14, z15, z16, z17, z18, z19, z20, z21, z22, z23, z24, z25, z26, z27, z28, z29, z30, z31]) with h0 | h0
 ·
  refine vcIntro [true] (an (an h0 tt) (an (an (an tt (an tt (an tt (an tt (an tt (an tt (an tt (an tt (an tt (an tt (an tt (an tt (an tt (an tt (an tt (an tt (an tt (an tt (an tt (an tt (an tt (an tt (an tt (an tt (an tt (an tt (an tt (an tt (an tt (an tt (an tt (an tt (an tt (an tt (an tt (an tt (an tt (an tt (an tt (an tt (an tt (an tt (an tt (an tt (an tt (an tt (an tt (an tt (an tt tt))))))))))))))))))))))))))))))))))))))))))))))))) tt) tt)) ?_
  kernel_rfl
 ·
  rcases Bool.eq_false_or_eq_true (!opMayL [k, a, b, x]) with h1 | h1
  ·
   refine vcIntro [false, true] (an (an h1 (an h0 tt)) (an (an (an tt (an tt (an tt (an tt (an tt (an tt (an tt (an tt (an tt (an tt (an tt (an tt (an tt (an tt (an tt (an tt (an tt (an tt (an tt (an tt (an tt (an tt (an tt (an tt (an tt (an tt (an tt (an tt (an tt (an tt (an tt (an tt (an tt (an tt (an tt (an tt (an tt (an tt (an tt (an tt (an tt (an tt (an tt (an tt (an tt (an tt (an tt (an tt (an tt tt))))))))))))))))))))))))))))))))))))))))))))))))) tt) tt)) ?_
   kernel_rfl
  ·
   rcases Bool.eq_false_or_eq_true (!decide (k ≤ (5 : Int))) with h2 | h2
   ·
    refine vcIntro [false, false, true] (an (an h2 (an h1 (an h0 tt))) (an (an (an tt (an tt (an tt (an tt (an tt (an tt (an tt (an tt (an tt (an tt (an tt (an tt (an tt (an tt (an tt (an tt (an tt (an tt (an tt (an tt (an tt (an tt (an tt (an tt (an tt (an tt (an tt (an tt (an tt (an tt (an tt (an tt (an tt (an tt (an tt (an tt (an tt (an tt (an tt (an tt (an tt (an tt (an tt (an tt (an tt (an tt (an tt (an tt (an tt tt))))))))))))))))))))))))))))))))))))))))))))))))) tt) tt)) ?_
    kernel_rfl
   · exact ff (by (simp [opMayL, opMay] at *; simp_all; omega))
end Go.Ideal.B1
