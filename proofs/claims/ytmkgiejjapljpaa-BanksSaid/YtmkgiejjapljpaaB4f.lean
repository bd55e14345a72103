/- Chapter 5: runs of pawl/pawlref1.Bank, case by case. Written by gen/bank.py. Own text. -/
import Derived.Test.YtmkgiejjapljpaaB3
namespace Go.Ideal.B1
open Go.Proofs Go.Ideal Go.Ideal.L1
set_option linter.unusedSimpArgs false
set_option linter.unusedVariables false
set_option maxRecDepth 100000
set_option maxHeartbeats 8000000
attribute [local simp] sel bkNeed bkCode pos bkNum bkNow bkZs bkA bkD
variable (b0 b1 b2 b3 b4 b5 b6 b7 b8 b9 b10 b11 b12 b13 b14 b15 : Bool) (z0 z1 z2 z3 z4 z5 z6 z7 z8 z9 z10 z11 z12 z13 z14 z15 z16 z17 z18 z19 z20 z21 z22 z23 z24 z25 z26 z27 z28 z29 z30 z31 x : Int)

theorem nrk_500 : NeedRun 22 [b0, b1, b2, b3, b4, b5, b6, b7, b8, b9, b10, b11, b12, b13, b14, b15] [z0, z1, z2, z3, z4, z5, z6, z7, z8, z9, z10, z11, z12, z13, z14, z15, z16, z17, z18, z19, z20, z21, z22, z23, z24, z25, z26, z27, z28, z29, z30, z31] 5 0 0 x := by
 intro hv ho hn
 have m0 := m0_of hv
 have hx := hx_of ho
 have p16 : imax 0 (z16 - 1) = pos z16 ∧ 0 ≤ pos z16 ∧ pos z16 < 1099511627776 := by simp only [pos, imax]; (repeat' split) <;> omega
 have p17 : imax 0 (z17 - 1) = pos z17 ∧ 0 ≤ pos z17 ∧ pos z17 < 1099511627776 := by simp only [pos, imax]; (repeat' split) <;> omega
 have p18 : imax 0 (z18 - 1) = pos z18 ∧ 0 ≤ pos z18 ∧ pos z18 < 1099511627776 := by simp only [pos, imax]; (repeat' split) <;> omega
 have p19 : imax 0 (z19 - 1) = pos z19 ∧ 0 ≤ pos z19 ∧ pos z19 < 1099511627776 := by simp only [pos, imax]; (repeat' split) <;> omega
 have ho' : opMayL [5, 0, 0, x] = true := ho
 simp at hn

 rcases Bool.eq_false_or_eq_true (!allMay [z0, z1, z2, z3, z4, z5, z6, z7, z8, z9, z10, z11, z12, z13, z14, z15, z16, z17, z18, z19, z20, z21, z22, z23, z24, z25, z26, z27, z28, z29, z30, z31]) with h0 | h0
 · exact ff (by (simp [hv, ho'] at *; done))
 ·
  rcases Bool.eq_false_or_eq_true (!opMayL [(5 : Int), (0 : Int), (0 : Int), x]) with h1 | h1
  · exact ff (by (simp [hv, ho'] at *; done))
  ·
   rcases Bool.eq_false_or_eq_true (!b0) with h2 | h2
   ·
    refine vcIntro [false, false, true] (an (an h2 (an h1 (an h0 tt))) (an (an (an (show bkD [b0, b1, b2, b3, b4, b5, b6, b7, b8, b9, b10, b11, b12, b13, b14, b15] (5 : Int) (0 : Int) (0 : Int) = (0 : Int) by (simp at * <;> simp [*] <;> done)) (an (rb b0) (an (rb b1) (an (rb b2) (an (rb b3) (an (rb b4) (an (rb b5) (an (rb b6) (an (rb b7) (an (rb b8) (an (rb b9) (an (rb b10) (an (rb b11) (an (rb b12) (an (rb b13) (an (rb b14) (an (rb b15) (an (ri z0) (an (ri z1) (an (ri z2) (an (ri z3) (an (ri z4) (an (ri z5) (an (ri z6) (an (ri z7) (an (ri z8) (an (ri z9) (an (ri z10) (an (ri z11) (an (ri z12) (an (ri z13) (an (ri z14) (an (ri z15) (an (ri z16) (an (ri z17) (an (ri z18) (an (ri z19) (an (ri z20) (an (ri z21) (an (ri z22) (an (ri z23) (an (ri z24) (an (ri z25) (an (ri z26) (an (ri z27) (an (ri z28) (an (ri z29) (an (ri z30) (an (ri z31) tt))))))))))))))))))))))))))))))))))))))))))))))))) tt) tt)) ?_
    kernel_rfl
   ·
    rcases Bool.eq_false_or_eq_true (!b1) with h3 | h3
    ·
     refine vcIntro [false, false, false, true] (an (an h3 (an h2 (an h1 (an h0 tt)))) (an (an (an (show bkD [b0, b1, b2, b3, b4, b5, b6, b7, b8, b9, b10, b11, b12, b13, b14, b15] (5 : Int) (0 : Int) (0 : Int) = (1 : Int) by (simp at * <;> simp [*] <;> done)) (an (rb b0) (an (rb b1) (an (rb b2) (an (rb b3) (an (rb b4) (an (rb b5) (an (rb b6) (an (rb b7) (an (rb b8) (an (rb b9) (an (rb b10) (an (rb b11) (an (rb b12) (an (rb b13) (an (rb b14) (an (rb b15) (an (ri z0) (an (ri z1) (an (ri z2) (an (ri z3) (an (ri z4) (an (ri z5) (an (ri z6) (an (ri z7) (an (ri z8) (an (ri z9) (an (ri z10) (an (ri z11) (an (ri z12) (an (ri z13) (an (ri z14) (an (ri z15) (an (ri z16) (an (ri z17) (an (ri z18) (an (ri z19) (an (ri z20) (an (ri z21) (an (ri z22) (an (ri z23) (an (ri z24) (an (ri z25) (an (ri z26) (an (ri z27) (an (ri z28) (an (ri z29) (an (ri z30) (an (ri z31) tt))))))))))))))))))))))))))))))))))))))))))))))))) tt) tt)) ?_
     kernel_rfl
    ·
     rcases Bool.eq_false_or_eq_true (!b2) with h4 | h4
     ·
      refine vcIntro [false, false, false, false, true] (an (an h4 (an h3 (an h2 (an h1 (an h0 tt))))) (an (an (an (show bkD [b0, b1, b2, b3, b4, b5, b6, b7, b8, b9, b10, b11, b12, b13, b14, b15] (5 : Int) (0 : Int) (0 : Int) = (2 : Int) by (simp at * <;> simp [*] <;> done)) (an (rb b0) (an (rb b1) (an (rb b2) (an (rb b3) (an (rb b4) (an (rb b5) (an (rb b6) (an (rb b7) (an (rb b8) (an (rb b9) (an (rb b10) (an (rb b11) (an (rb b12) (an (rb b13) (an (rb b14) (an (rb b15) (an (ri z0) (an (ri z1) (an (ri z2) (an (ri z3) (an (ri z4) (an (ri z5) (an (ri z6) (an (ri z7) (an (ri z8) (an (ri z9) (an (ri z10) (an (ri z11) (an (ri z12) (an (ri z13) (an (ri z14) (an (ri z15) (an (ri z16) (an (ri z17) (an (ri z18) (an (ri z19) (an (ri z20) (an (ri z21) (an (ri z22) (an (ri z23) (an (ri z24) (an (ri z25) (an (ri z26) (an (ri z27) (an (ri z28) (an (ri z29) (an (ri z30) (an (ri z31) tt))))))))))))))))))))))))))))))))))))))))))))))))) tt) tt)) ?_
      kernel_rfl
     ·
      rcases Bool.eq_false_or_eq_true (!b3) with h5 | h5
      ·
       refine vcIntro [false, false, false, false, false, true] (an (an h5 (an h4 (an h3 (an h2 (an h1 (an h0 tt)))))) (an (an (an (show bkD [b0, b1, b2, b3, b4, b5, b6, b7, b8, b9, b10, b11, b12, b13, b14, b15] (5 : Int) (0 : Int) (0 : Int) = (3 : Int) by (simp at * <;> simp [*] <;> done)) (an (rb b0) (an (rb b1) (an (rb b2) (an (rb b3) (an (rb b4) (an (rb b5) (an (rb b6) (an (rb b7) (an (rb b8) (an (rb b9) (an (rb b10) (an (rb b11) (an (rb b12) (an (rb b13) (an (rb b14) (an (rb b15) (an (ri z0) (an (ri z1) (an (ri z2) (an (ri z3) (an (ri z4) (an (ri z5) (an (ri z6) (an (ri z7) (an (ri z8) (an (ri z9) (an (ri z10) (an (ri z11) (an (ri z12) (an (ri z13) (an (ri z14) (an (ri z15) (an (ri z16) (an (ri z17) (an (ri z18) (an (ri z19) (an (ri z20) (an (ri z21) (an (ri z22) (an (ri z23) (an (ri z24) (an (ri z25) (an (ri z26) (an (ri z27) (an (ri z28) (an (ri z29) (an (ri z30) (an (ri z31) tt))))))))))))))))))))))))))))))))))))))))))))))))) tt) tt)) ?_
       kernel_rfl
      · exact ff (by (simp_all; done))

theorem drk_500 : DoneRun 22 [b0, b1, b2, b3, b4, b5, b6, b7, b8, b9, b10, b11, b12, b13, b14, b15] [z0, z1, z2, z3, z4, z5, z6, z7, z8, z9, z10, z11, z12, z13, z14, z15, z16, z17, z18, z19, z20, z21, z22, z23, z24, z25, z26, z27, z28, z29, z30, z31] 5 0 0 x := by
 intro hv ho hn
 have m0 := m0_of hv
 have hx := hx_of ho
 have p16 : imax 0 (z16 - 1) = pos z16 ∧ 0 ≤ pos z16 ∧ pos z16 < 1099511627776 := by simp only [pos, imax]; (repeat' split) <;> omega
 have p17 : imax 0 (z17 - 1) = pos z17 ∧ 0 ≤ pos z17 ∧ pos z17 < 1099511627776 := by simp only [pos, imax]; (repeat' split) <;> omega
 have p18 : imax 0 (z18 - 1) = pos z18 ∧ 0 ≤ pos z18 ∧ pos z18 < 1099511627776 := by simp only [pos, imax]; (repeat' split) <;> omega
 have p19 : imax 0 (z19 - 1) = pos z19 ∧ 0 ≤ pos z19 ∧ pos z19 < 1099511627776 := by simp only [pos, imax]; (repeat' split) <;> omega
 have ho' : opMayL [5, 0, 0, x] = true := ho
 simp at hn

 rcases Bool.eq_false_or_eq_true (!allMay [z0, z1, z2, z3, z4, z5, z6, z7, z8, z9, z10, z11, z12, z13, z14, z15, z16, z17, z18, z19, z20, z21, z22, z23, z24, z25, z26, z27, z28, z29, z30, z31]) with h0 | h0
 · exact ff (by (simp [hv, ho'] at *; done))
 ·
  rcases Bool.eq_false_or_eq_true (!opMayL [(5 : Int), (0 : Int), (0 : Int), x]) with h1 | h1
  · exact ff (by (simp [hv, ho'] at *; done))
  ·
   rcases Bool.eq_false_or_eq_true (!b0) with h2 | h2
   · exact ff (by (simp_all; done))
   ·
    rcases Bool.eq_false_or_eq_true (!b1) with h3 | h3
    · exact ff (by (simp_all; done))
    ·
     rcases Bool.eq_false_or_eq_true (!b2) with h4 | h4
     · exact ff (by (simp_all; done))
     ·
      rcases Bool.eq_false_or_eq_true (!b3) with h5 | h5
      · exact ff (by (simp_all; done))
      ·
       refine vcIntro [false, false, false, false, false, false] (an (an h5 (an h4 (an h3 (an h2 (an h1 (an h0 tt)))))) (an (an (an tt (an (rb b0) (an (rb b1) (an (rb b2) (an (rb b3) (an (rb b4) (an (rb b5) (an (rb b6) (an (rb b7) (an (rb b8) (an (rb b9) (an (rb b10) (an (rb b11) (an (rb b12) (an (rb b13) (an (rb b14) (an (rb b15) (an (ri z0) (an (ri z1) (an (ri z2) (an (ri z3) (an (ri z4) (an (ri z5) (an (ri z6) (an (ri z7) (an (ri z8) (an (ri z9) (an (ri z10) (an (ri z11) (an (ri z12) (an (ri z13) (an (ri z14) (an (ri z15) (an (show bkNow z16 z17 z18 z19 (5 : Int) (0 : Int) (0 : Int) x (0 : Int) = z16 by (simp; done)) (an (show bkNow z16 z17 z18 z19 (5 : Int) (0 : Int) (0 : Int) x (1 : Int) = z17 by (simp; done)) (an (show bkNow z16 z17 z18 z19 (5 : Int) (0 : Int) (0 : Int) x (2 : Int) = z18 by (simp; done)) (an (show bkNow z16 z17 z18 z19 (5 : Int) (0 : Int) (0 : Int) x (3 : Int) = z19 by (simp; done)) (an (ri z20) (an (ri z21) (an (ri z22) (an (ri z23) (an (ri z24) (an (ri z25) (an (ri z26) (an (ri z27) (an (ri z28) (an (ri z29) (an (ri z30) (an (ri z31) (an tt (an tt tt))))))))))))))))))))))))))))))))))))))))))))))))))) tt) (an (an (@Eq.refl (Nat) ((0 : Nat))) (an (show ∀ (k : Nat), k < (0 : Nat) → (0 : Int) = (0 : Int) from fun _ _ => rfl) (an (show bkCode z16 z17 z18 z19 (5 : Int) (0 : Int) (0 : Int) x = (0 : Int) by (simp; done)) (show bkNum z16 z17 z18 z19 (5 : Int) (0 : Int) (0 : Int) x = IntKind.i64.wrap (IntKind.i64.wrap (IntKind.i64.wrap (IntKind.i64.wrap ((0 : Int) + imax (0 : Int) (IntKind.i64.wrap (z16 - (1 : Int)))) + imax (0 : Int) (IntKind.i64.wrap (z17 - (1 : Int)))) + imax (0 : Int) (IntKind.i64.wrap (z18 - (1 : Int)))) + imax (0 : Int) (IntKind.i64.wrap (z19 - (1 : Int)))) by (simp (disch := omega) only [wrapk, p16.1, p17.1, p18.1, p19.1]; simp; done))))) tt))) ?_
       kernel_rfl

end Go.Ideal.B1
