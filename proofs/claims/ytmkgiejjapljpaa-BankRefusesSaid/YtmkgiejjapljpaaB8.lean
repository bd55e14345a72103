/- Chapter 5: BankRefuses, BankLimits. Written by gen/bank3.py. Own text. -/
import Derived.Test.YtmkgiejjapljpaaB6
import Derived.Test.YtmkgiejjapljpaaI26
namespace Go.Ideal.B1
open Go.Proofs Go.Ideal Go.Ideal.L1
set_option linter.unusedSimpArgs false
set_option linter.unusedVariables false
set_option maxRecDepth 100000
set_option maxHeartbeats 8000000


theorem keeps (m0 m1 m2 m3 k a b x i : Int) (h : bkCode m0 m1 m2 m3 k a b x ≠ 0) : bkNow m0 m1 m2 m3 k a b x i = sel m0 m1 m2 m3 i ∧ bkNum m0 m1 m2 m3 k a b x = 0 := by
  simp only [bkNow, bkNum, if_neg h, and_self]
theorem need5 (c0 c1 c2 c3 : Bool) (k a b x : Int) (zs : List Int) (h : bkMay zs k a b x = true) : bkNeed c0 c1 c2 c3 k a b < 16 := by
  obtain ⟨_, ho, hk⟩ := bkMay_of h
  simp [opMay] at ho
  unfold bkNeed
  (repeat' split) <;> omega
theorem refuses1 (b0 b1 b2 b3 b4 b5 b6 b7 b8 b9 b10 b11 b12 b13 b14 b15 : Bool) (z0 z1 z2 z3 z4 z5 z6 z7 z8 z9 z10 z11 z12 z13 z14 z15 z16 z17 z18 z19 z20 z21 z22 z23 z24 z25 z26 z27 z28 z29 z30 z31 k a b x : Int) : ∃ hh, vcOf (runCall Try.prog specD noL 6000 12 [.agg (viewOf [b0, b1, b2, b3, b4, b5, b6, b7, b8, b9, b10, b11, b12, b13, b14, b15] [z0, z1, z2, z3, z4, z5, z6, z7, z8, z9, z10, z11, z12, z13, z14, z15, z16, z17, z18, z19, z20, z21, z22, z23, z24, z25, z26, z27, z28, z29, z30, z31]), .agg [.int .i64 (.s k), .int .i64 (.s a), .int .i64 (.s b), .int .i64 (.s x)]] H0 hh) (fun v _ => isT v) := by
  have hc := keeps z16 z17 z18 z19 k a b x
  have hn := need5 b0 b1 b2 b3 k a b x [z0, z1, z2, z3, z4, z5, z6, z7, z8, z9, z10, z11, z12, z13, z14, z15, z16, z17, z18, z19, z20, z21, z22, z23, z24, z25, z26, z27, z28, z29, z30, z31]

  rcases Bool.eq_false_or_eq_true (!bkMay [z0, z1, z2, z3, z4, z5, z6, z7, z8, z9, z10, z11, z12, z13, z14, z15, z16, z17, z18, z19, z20, z21, z22, z23, z24, z25, z26, z27, z28, z29, z30, z31] k a b x) with h0 | h0
  ·
   refine vcIntro [true] (an (an h0 tt) tt) ?_
   kernel_rfl
  ·
   rcases Bool.eq_false_or_eq_true (decide ((0 : Int) ≤ bkD [b0, b1, b2, b3, b4, b5, b6, b7, b8, b9, b10, b11, b12, b13, b14, b15] k a b)) with h1 | h1
   ·
    rcases Bool.eq_false_or_eq_true (decide (bkD [b0, b1, b2, b3, b4, b5, b6, b7, b8, b9, b10, b11, b12, b13, b14, b15] k a b ≥ (0 : Int))) with h2 | h2
    ·
     refine vcIntro [false, true, true] (an (an h2 (an h1 (an h0 tt))) (show (b0 == b0 && (b1 == b1 && (b2 == b2 && (b3 == b3 && (b4 == b4 && (b5 == b5 && (b6 == b6 && (b7 == b7 && (b8 == b8 && (b9 == b9 && (b10 == b10 && (b11 == b11 && (b12 == b12 && (b13 == b13 && (b14 == b14 && b15 == b15)))))))))))))) && (z0 == z0 && (z1 == z1 && (z2 == z2 && (z3 == z3 && (z4 == z4 && (z5 == z5 && (z6 == z6 && (z7 == z7 && (z8 == z8 && (z9 == z9 && (z10 == z10 && (z11 == z11 && (z12 == z12 && (z13 == z13 && (z14 == z14 && z15 == z15)))))))))))))) && (z16 == z16 && (z17 == z17 && (z18 == z18 && (z19 == z19 && (z20 == z20 && (z21 == z21 && (z22 == z22 && (z23 == z23 && (z24 == z24 && (z25 == z25 && (z26 == z26 && (z27 == z27 && (z28 == z28 && (z29 == z29 && (z30 == z30 && z31 == z31))))))))))))))))) = true by (simp; done))) ?_
     kernel_rfl
    · exact ff (by (simp at *; omega))
   ·
    rcases Bool.eq_false_or_eq_true (z20 != z20) with h3 | h3
    · exact ff (by (simp at *; done))
    ·
     rcases Bool.eq_false_or_eq_true (z21 != z21) with h4 | h4
     · exact ff (by (simp at *; done))
     ·
      rcases Bool.eq_false_or_eq_true (z22 != z22) with h5 | h5
      · exact ff (by (simp at *; done))
      ·
       rcases Bool.eq_false_or_eq_true (z23 != z23) with h6 | h6
       · exact ff (by (simp at *; done))
       ·
        rcases Bool.eq_false_or_eq_true (z24 != z24) with h7 | h7
        · exact ff (by (simp at *; done))
        ·
         rcases Bool.eq_false_or_eq_true (z25 != z25) with h8 | h8
         · exact ff (by (simp at *; done))
         ·
          rcases Bool.eq_false_or_eq_true (z26 != z26) with h9 | h9
          · exact ff (by (simp at *; done))
          ·
           rcases Bool.eq_false_or_eq_true (z27 != z27) with h10 | h10
           · exact ff (by (simp at *; done))
           ·
            rcases Bool.eq_false_or_eq_true (z28 != z28) with h11 | h11
            · exact ff (by (simp at *; done))
            ·
             rcases Bool.eq_false_or_eq_true (z29 != z29) with h12 | h12
             · exact ff (by (simp at *; done))
             ·
              rcases Bool.eq_false_or_eq_true (z30 != z30) with h13 | h13
              · exact ff (by (simp at *; done))
              ·
               rcases Bool.eq_false_or_eq_true (z31 != z31) with h14 | h14
               · exact ff (by (simp at *; done))
               ·
                rcases Bool.eq_false_or_eq_true (b0 == b0 && (b1 == b1 && (b2 == b2 && (b3 == b3 && (b4 == b4 && (b5 == b5 && (b6 == b6 && (b7 == b7 && (b8 == b8 && (b9 == b9 && (b10 == b10 && (b11 == b11 && (b12 == b12 && (b13 == b13 && (b14 == b14 && b15 == b15))))))))))))))) with h15 | h15
                ·
                 rcases Bool.eq_false_or_eq_true (z0 == z0 && (z1 == z1 && (z2 == z2 && (z3 == z3 && (z4 == z4 && (z5 == z5 && (z6 == z6 && (z7 == z7 && (z8 == z8 && (z9 == z9 && (z10 == z10 && (z11 == z11 && (z12 == z12 && (z13 == z13 && (z14 == z14 && z15 == z15))))))))))))))) with h16 | h16
                 ·
                  rcases Bool.eq_false_or_eq_true (bkCode z16 z17 z18 z19 k a b x == (0 : Int)) with h17 | h17
                  ·
                   refine vcIntro [false, false, false, false, false, false, false, false, false, false, false, false, false, false, true, true, true] (an (an h17 (an h16 (an h15 (an h14 (an h13 (an h12 (an h11 (an h10 (an h9 (an h8 (an h7 (an h6 (an h5 (an h4 (an h3 (an h1 (an h0 tt))))))))))))))))) tt) ?_
                   kernel_rfl
                  ·
                   rcases Bool.eq_false_or_eq_true (b0 == b0 && (b1 == b1 && (b2 == b2 && (b3 == b3 && (b4 == b4 && (b5 == b5 && (b6 == b6 && (b7 == b7 && (b8 == b8 && (b9 == b9 && (b10 == b10 && (b11 == b11 && (b12 == b12 && (b13 == b13 && (b14 == b14 && b15 == b15)))))))))))))) && (z0 == z0 && (z1 == z1 && (z2 == z2 && (z3 == z3 && (z4 == z4 && (z5 == z5 && (z6 == z6 && (z7 == z7 && (z8 == z8 && (z9 == z9 && (z10 == z10 && (z11 == z11 && (z12 == z12 && (z13 == z13 && (z14 == z14 && z15 == z15)))))))))))))) && (bkNow z16 z17 z18 z19 k a b x (0 : Int) == z16 && (bkNow z16 z17 z18 z19 k a b x (1 : Int) == z17 && (bkNow z16 z17 z18 z19 k a b x (2 : Int) == z18 && (bkNow z16 z17 z18 z19 k a b x (3 : Int) == z19 && (z20 == z20 && (z21 == z21 && (z22 == z22 && (z23 == z23 && (z24 == z24 && (z25 == z25 && (z26 == z26 && (z27 == z27 && (z28 == z28 && (z29 == z29 && (z30 == z30 && z31 == z31))))))))))))))))) with h18 | h18
                   ·
                    refine vcIntro [false, false, false, false, false, false, false, false, false, false, false, false, false, false, true, true, false, true] (an (an h18 (an h17 (an h16 (an h15 (an h14 (an h13 (an h12 (an h11 (an h10 (an h9 (an h8 (an h7 (an h6 (an h5 (an h4 (an h3 (an h1 (an h0 tt)))))))))))))))))) (show (bkNum z16 z17 z18 z19 k a b x == (0 : Int)) = true by (have h9 := (hc 0 (by intro h; simp [h] at *)).2; simp [h9]; done))) ?_
                    kernel_rfl
                   · exact ff (by (have h9 := fun i => hc i (by intro h; simp [h] at *); simp [h9, sel] at *; done))
                 · exact ff (by (simp at *; done))
                · exact ff (by (simp at *; done))
theorem bankRefuses_q (fi : Nat → Int) (fb : Nat → Bool) (fs : Nat → ByteArray) (_ : ∀ i, (List.replicate 16 Lf.b ++ List.replicate 32 .i)[i]? = some .i → -9223372036854775808 ≤ fi i ∧ fi i ≤ 9223372036854775807)
    (gi : Nat → Int) (gb : Nat → Bool) (gs : Nat → ByteArray) (_ : ∀ i, (List.replicate 4 Lf.i)[i]? = some .i → -9223372036854775808 ≤ gi i ∧ gi i ≤ 9223372036854775807) :
    CallQ Try.prog 12 [.agg (lfV fi fb fs 0 (List.replicate 16 Lf.b ++ List.replicate 32 .i)), .agg (lfV gi gb gs 0 (List.replicate 4 .i))] (Hx []) (fun v _ => isT v) :=
  CallQ.run specD_ok noL_ok mixed (refuses1 (fb 0) (fb 1) (fb 2) (fb 3) (fb 4) (fb 5) (fb 6) (fb 7) (fb 8) (fb 9) (fb 10) (fb 11) (fb 12) (fb 13) (fb 14) (fb 15) (fi 16) (fi 17) (fi 18) (fi 19) (fi 20) (fi 21) (fi 22) (fi 23) (fi 24) (fi 25) (fi 26) (fi 27) (fi 28) (fi 29) (fi 30) (fi 31) (fi 32) (fi 33) (fi 34) (fi 35) (fi 36) (fi 37) (fi 38) (fi 39) (fi 40) (fi 41) (fi 42) (fi 43) (fi 44) (fi 45) (fi 46) (fi 47) (gi 0) (gi 1) (gi 2) (gi 3))

end Go.Ideal.B1
