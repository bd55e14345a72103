/- Chapter 5: Banks, BankRefuses. Written by gen/bank3.py. Own text. -/
import Derived.Test.YtmkgiejjapljpaaB6r
import Derived.Test.YtmkgiejjapljpaaI26
namespace Go.Ideal.B1
open Go.Proofs Go.Ideal Go.Ideal.L1
set_option linter.unusedSimpArgs false
set_option linter.unusedVariables false
set_option maxRecDepth 100000
set_option maxHeartbeats 8000000


theorem banks1 (b0 b1 b2 b3 b4 b5 b6 b7 b8 b9 b10 b11 b12 b13 b14 b15 : Bool) (z0 z1 z2 z3 z4 z5 z6 z7 z8 z9 z10 z11 z12 z13 z14 z15 z16 z17 z18 z19 z20 z21 z22 z23 z24 z25 z26 z27 z28 z29 z30 z31 k a b x : Int) : ∃ hh, vcOf (runCall Try.prog specs noL 6000 8 [.agg (viewOf [b0, b1, b2, b3, b4, b5, b6, b7, b8, b9, b10, b11, b12, b13, b14, b15] [z0, z1, z2, z3, z4, z5, z6, z7, z8, z9, z10, z11, z12, z13, z14, z15, z16, z17, z18, z19, z20, z21, z22, z23, z24, z25, z26, z27, z28, z29, z30, z31]), .agg [.int .i64 (.s k), .int .i64 (.s a), .int .i64 (.s b), .int .i64 (.s x)]] H0 hh) (fun v _ => isT v) := by

  rcases Bool.eq_false_or_eq_true (!bkMay [z0, z1, z2, z3, z4, z5, z6, z7, z8, z9, z10, z11, z12, z13, z14, z15, z16, z17, z18, z19, z20, z21, z22, z23, z24, z25, z26, z27, z28, z29, z30, z31] k a b x) with h0 | h0
  ·
   refine vcIntro [true, true, true] (an (an h0 (an h0 (an h0 tt))) tt) ?_
   kernel_rfl
  ·
   rcases Bool.eq_false_or_eq_true (decide ((0 : Int) ≤ bkD [b0, b1, b2, b3, b4, b5, b6, b7, b8, b9, b10, b11, b12, b13, b14, b15] k a b)) with h1 | h1
   ·
    rcases Bool.eq_false_or_eq_true (bkD [b0, b1, b2, b3, b4, b5, b6, b7, b8, b9, b10, b11, b12, b13, b14, b15] k a b == bkD [b0, b1, b2, b3, b4, b5, b6, b7, b8, b9, b10, b11, b12, b13, b14, b15] k a b) with h2 | h2
    ·
     rcases Bool.eq_false_or_eq_true (b0 == b0 && (b1 == b1 && (b2 == b2 && (b3 == b3 && (b4 == b4 && (b5 == b5 && (b6 == b6 && (b7 == b7 && (b8 == b8 && (b9 == b9 && (b10 == b10 && (b11 == b11 && (b12 == b12 && (b13 == b13 && (b14 == b14 && b15 == b15)))))))))))))) && (z0 == z0 && (z1 == z1 && (z2 == z2 && (z3 == z3 && (z4 == z4 && (z5 == z5 && (z6 == z6 && (z7 == z7 && (z8 == z8 && (z9 == z9 && (z10 == z10 && (z11 == z11 && (z12 == z12 && (z13 == z13 && (z14 == z14 && z15 == z15)))))))))))))) && (z16 == z16 && (z17 == z17 && (z18 == z18 && (z19 == z19 && (z20 == z20 && (z21 == z21 && (z22 == z22 && (z23 == z23 && (z24 == z24 && (z25 == z25 && (z26 == z26 && (z27 == z27 && (z28 == z28 && (z29 == z29 && (z30 == z30 && z31 == z31))))))))))))))))) with h3 | h3
     ·
      refine vcIntro [false, true, false, true, true, true, false, true, true, true] (an (an h3 (an h2 (an h1 (an h0 (an h3 (an h2 (an h1 (an h0 (an h1 (an h0 tt)))))))))) tt) ?_
      kernel_rfl
     · exact ff (by (simp at *; done))
    · exact ff (by (simp at *; done))
   ·
    rcases Bool.eq_false_or_eq_true (b0 == b0 && (b1 == b1 && (b2 == b2 && (b3 == b3 && (b4 == b4 && (b5 == b5 && (b6 == b6 && (b7 == b7 && (b8 == b8 && (b9 == b9 && (b10 == b10 && (b11 == b11 && (b12 == b12 && (b13 == b13 && (b14 == b14 && b15 == b15)))))))))))))) && (z0 == z0 && (z1 == z1 && (z2 == z2 && (z3 == z3 && (z4 == z4 && (z5 == z5 && (z6 == z6 && (z7 == z7 && (z8 == z8 && (z9 == z9 && (z10 == z10 && (z11 == z11 && (z12 == z12 && (z13 == z13 && (z14 == z14 && z15 == z15)))))))))))))) && (bkNow z16 z17 z18 z19 k a b x (0 : Int) == bkNow z16 z17 z18 z19 k a b x (0 : Int) && (bkNow z16 z17 z18 z19 k a b x (1 : Int) == bkNow z16 z17 z18 z19 k a b x (1 : Int) && (bkNow z16 z17 z18 z19 k a b x (2 : Int) == bkNow z16 z17 z18 z19 k a b x (2 : Int) && (bkNow z16 z17 z18 z19 k a b x (3 : Int) == bkNow z16 z17 z18 z19 k a b x (3 : Int) && (z20 == z20 && (z21 == z21 && (z22 == z22 && (z23 == z23 && (z24 == z24 && (z25 == z25 && (z26 == z26 && (z27 == z27 && (z28 == z28 && (z29 == z29 && (z30 == z30 && z31 == z31))))))))))))))))) with h4 | h4
    ·
     rcases Bool.eq_false_or_eq_true (!(bkCode z16 z17 z18 z19 k a b x == bkCode z16 z17 z18 z19 k a b x && bkNum z16 z17 z18 z19 k a b x == bkNum z16 z17 z18 z19 k a b x)) with h5 | h5
     · exact ff (by (simp at *; done))
     ·
      refine vcIntro [false, false, false, false, true, false, false, false, true, false] (an (an h5 (an h4 (an h1 (an h0 (an h5 (an h4 (an h1 (an h0 (an h1 (an h0 tt)))))))))) tt) ?_
      kernel_rfl
    · exact ff (by (simp at *; done))
theorem banks_q (fi : Nat → Int) (fb : Nat → Bool) (fs : Nat → ByteArray) (_ : ∀ i, (List.replicate 16 Lf.b ++ List.replicate 32 .i)[i]? = some .i → -9223372036854775808 ≤ fi i ∧ fi i ≤ 9223372036854775807)
    (gi : Nat → Int) (gb : Nat → Bool) (gs : Nat → ByteArray) (_ : ∀ i, (List.replicate 4 Lf.i)[i]? = some .i → -9223372036854775808 ≤ gi i ∧ gi i ≤ 9223372036854775807) :
    CallQ Try.prog 8 [.agg (lfV fi fb fs 0 (List.replicate 16 Lf.b ++ List.replicate 32 .i)), .agg (lfV gi gb gs 0 (List.replicate 4 .i))] (Hx []) (fun v _ => isT v) :=
  CallQ.run specs_ok noL_ok mixed (banks1 (fb 0) (fb 1) (fb 2) (fb 3) (fb 4) (fb 5) (fb 6) (fb 7) (fb 8) (fb 9) (fb 10) (fb 11) (fb 12) (fb 13) (fb 14) (fb 15) (fi 16) (fi 17) (fi 18) (fi 19) (fi 20) (fi 21) (fi 22) (fi 23) (fi 24) (fi 25) (fi 26) (fi 27) (fi 28) (fi 29) (fi 30) (fi 31) (fi 32) (fi 33) (fi 34) (fi 35) (fi 36) (fi 37) (fi 38) (fi 39) (fi 40) (fi 41) (fi 42) (fi 43) (fi 44) (fi 45) (fi 46) (fi 47) (gi 0) (gi 1) (gi 2) (gi 3))
end Go.Ideal.B1
