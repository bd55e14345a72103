/- Chapter 5: runs of pawl/bank.Do, case by case. Written by gen/bank.py. Own text. -/
import Derived.Test.YtmkgiejjapljpaaB3
namespace Go.Ideal.B1
open Go.Proofs Go.Ideal Go.Ideal.L1
set_option linter.unusedSimpArgs false
set_option linter.unusedVariables false
set_option maxRecDepth 100000
set_option maxHeartbeats 8000000
attribute [local simp] sel bkNeed bkCode pos bkNum bkNow bkZs bkA bkD
theorem cB4c_0 (b0 : Bool) (b1 : Bool) (b2 : Bool) (b3 : Bool) (b4 : Bool) (b5 : Bool) (b6 : Bool) (b7 : Bool) (b8 : Bool) (b9 : Bool) (b10 : Bool) (b11 : Bool) (b12 : Bool) (b13 : Bool) (b14 : Bool) (b15 : Bool) (z0 : Int) (z1 : Int) (z2 : Int) (z3 : Int) (z4 : Int) (z5 : Int) (z6 : Int) (z7 : Int) (z8 : Int) (z9 : Int) (z10 : Int) (z11 : Int) (z12 : Int) (z13 : Int) (z14 : Int) (z15 : Int) {R : Prop} (h : R) : (b0 : Bool) = b0 ∧ ((b1 : Bool) = b1 ∧ ((b2 : Bool) = b2 ∧ ((b3 : Bool) = b3 ∧ ((b4 : Bool) = b4 ∧ ((b5 : Bool) = b5 ∧ ((b6 : Bool) = b6 ∧ ((b7 : Bool) = b7 ∧ ((b8 : Bool) = b8 ∧ ((b9 : Bool) = b9 ∧ ((b10 : Bool) = b10 ∧ ((b11 : Bool) = b11 ∧ ((b12 : Bool) = b12 ∧ ((b13 : Bool) = b13 ∧ ((b14 : Bool) = b14 ∧ ((b15 : Bool) = b15 ∧ ((z0 : Int) = z0 ∧ ((z1 : Int) = z1 ∧ ((z2 : Int) = z2 ∧ ((z3 : Int) = z3 ∧ ((z4 : Int) = z4 ∧ ((z5 : Int) = z5 ∧ ((z6 : Int) = z6 ∧ ((z7 : Int) = z7 ∧ ((z8 : Int) = z8 ∧ ((z9 : Int) = z9 ∧ ((z10 : Int) = z10 ∧ ((z11 : Int) = z11 ∧ ((z12 : Int) = z12 ∧ ((z13 : Int) = z13 ∧ ((z14 : Int) = z14 ∧ ((z15 : Int) = z15 ∧ (R)))))))))))))))))))))))))))))))) := ⟨rfl, ⟨rfl, ⟨rfl, ⟨rfl, ⟨rfl, ⟨rfl, ⟨rfl, ⟨rfl, ⟨rfl, ⟨rfl, ⟨rfl, ⟨rfl, ⟨rfl, ⟨rfl, ⟨rfl, ⟨rfl, ⟨rfl, ⟨rfl, ⟨rfl, ⟨rfl, ⟨rfl, ⟨rfl, ⟨rfl, ⟨rfl, ⟨rfl, ⟨rfl, ⟨rfl, ⟨rfl, ⟨rfl, ⟨rfl, ⟨rfl, ⟨rfl, h⟩⟩⟩⟩⟩⟩⟩⟩⟩⟩⟩⟩⟩⟩⟩⟩⟩⟩⟩⟩⟩⟩⟩⟩⟩⟩⟩⟩⟩⟩⟩⟩
theorem cB4c_1 (z20 : Int) (z21 : Int) (z22 : Int) (z23 : Int) (z24 : Int) (z25 : Int) (z26 : Int) (z27 : Int) (z28 : Int) (z29 : Int) (z30 : Int) (z31 : Int) {R : Prop} (h : R) : (z20 : Int) = z20 ∧ ((z21 : Int) = z21 ∧ ((z22 : Int) = z22 ∧ ((z23 : Int) = z23 ∧ ((z24 : Int) = z24 ∧ ((z25 : Int) = z25 ∧ ((z26 : Int) = z26 ∧ ((z27 : Int) = z27 ∧ ((z28 : Int) = z28 ∧ ((z29 : Int) = z29 ∧ ((z30 : Int) = z30 ∧ ((z31 : Int) = z31 ∧ (True ∧ (R))))))))))))) := ⟨rfl, ⟨rfl, ⟨rfl, ⟨rfl, ⟨rfl, ⟨rfl, ⟨rfl, ⟨rfl, ⟨rfl, ⟨rfl, ⟨rfl, ⟨rfl, ⟨True.intro, h⟩⟩⟩⟩⟩⟩⟩⟩⟩⟩⟩⟩⟩
theorem cB4c_2 (z16 : Int) (z17 : Int) (z18 : Int) (z19 : Int) (z20 : Int) (z21 : Int) (z22 : Int) (z23 : Int) (z24 : Int) (z25 : Int) (z26 : Int) (z27 : Int) (z28 : Int) (z29 : Int) (z30 : Int) {R : Prop} (h : R) : (z16 : Int) = z16 ∧ ((z17 : Int) = z17 ∧ ((z18 : Int) = z18 ∧ ((z19 : Int) = z19 ∧ ((z20 : Int) = z20 ∧ ((z21 : Int) = z21 ∧ ((z22 : Int) = z22 ∧ ((z23 : Int) = z23 ∧ ((z24 : Int) = z24 ∧ ((z25 : Int) = z25 ∧ ((z26 : Int) = z26 ∧ ((z27 : Int) = z27 ∧ ((z28 : Int) = z28 ∧ ((z29 : Int) = z29 ∧ ((z30 : Int) = z30 ∧ (R))))))))))))))) := ⟨rfl, ⟨rfl, ⟨rfl, ⟨rfl, ⟨rfl, ⟨rfl, ⟨rfl, ⟨rfl, ⟨rfl, ⟨rfl, ⟨rfl, ⟨rfl, ⟨rfl, ⟨rfl, ⟨rfl, h⟩⟩⟩⟩⟩⟩⟩⟩⟩⟩⟩⟩⟩⟩⟩
variable (b0 b1 b2 b3 b4 b5 b6 b7 b8 b9 b10 b11 b12 b13 b14 b15 : Bool) (z0 z1 z2 z3 z4 z5 z6 z7 z8 z9 z10 z11 z12 z13 z14 z15 z16 z17 z18 z19 z20 z21 z22 z23 z24 z25 z26 z27 z28 z29 z30 z31 x : Int)

theorem nbk_500 : NeedRun 21 [b0, b1, b2, b3, b4, b5, b6, b7, b8, b9, b10, b11, b12, b13, b14, b15] [z0, z1, z2, z3, z4, z5, z6, z7, z8, z9, z10, z11, z12, z13, z14, z15, z16, z17, z18, z19, z20, z21, z22, z23, z24, z25, z26, z27, z28, z29, z30, z31] 5 0 0 x := by
 intro hv ho hn
 have m0 := m0_of hv
 have hx := hx_of ho
 have ho' : opMayL [5, 0, 0, x] = true := ho
 simp at hn

 rcases Bool.eq_false_or_eq_true (!allMay [z0, z1, z2, z3, z4, z5, z6, z7, z8, z9, z10, z11, z12, z13, z14, z15, z16, z17, z18, z19, z20, z21, z22, z23, z24, z25, z26, z27, z28, z29, z30, z31]) with h0 | h0
 · exact ff (by (simp [hv, ho'] at *; done))
 ·
  rcases Bool.eq_false_or_eq_true (!opMayL [(5 : Int), (0 : Int), (0 : Int), x]) with h1 | h1
  · exact ff (by (simp [hv, ho'] at *; done))
  ·
   rcases Bool.eq_false_or_eq_true (!b0) with h2 | h2
   ·
    refine vcIntro [false, false, true] (an (an h2 (an h1 (an h0 tt))) (an (an (an (show bkD [b0, b1, b2, b3, b4, b5, b6, b7, b8, b9, b10, b11, b12, b13, b14, b15] (5 : Int) (0 : Int) (0 : Int) = (0 : Int) by (simp at * <;> simp [*] <;> done)) (cB4c_0 b0 b1 b2 b3 b4 b5 b6 b7 b8 b9 b10 b11 b12 b13 b14 b15 z0 z1 z2 z3 z4 z5 z6 z7 z8 z9 z10 z11 z12 z13 z14 z15 (cB4c_2 z16 z17 z18 z19 z20 z21 z22 z23 z24 z25 z26 z27 z28 z29 z30 (an (ri z31) tt)))) tt) tt)) ?_
    kernel_rfl
   ·
    rcases Bool.eq_false_or_eq_true (decide (z16 > (0 : Int))) with h3 | h3
    ·
     rcases Bool.eq_false_or_eq_true (!b1) with h4 | h4
     ·
      refine vcIntro [false, false, false, true, true] (an (an h4 (an h3 (an h2 (an h1 (an h0 tt))))) (an (an (an (show bkD [b0, b1, b2, b3, b4, b5, b6, b7, b8, b9, b10, b11, b12, b13, b14, b15] (5 : Int) (0 : Int) (0 : Int) = (1 : Int) by (simp at * <;> simp [*] <;> done)) (cB4c_0 b0 b1 b2 b3 b4 b5 b6 b7 b8 b9 b10 b11 b12 b13 b14 b15 z0 z1 z2 z3 z4 z5 z6 z7 z8 z9 z10 z11 z12 z13 z14 z15 (cB4c_2 z16 z17 z18 z19 z20 z21 z22 z23 z24 z25 z26 z27 z28 z29 z30 (an (ri z31) tt)))) tt) tt)) ?_
      kernel_rfl
     ·
      rcases Bool.eq_false_or_eq_true (decide (z17 > (0 : Int))) with h5 | h5
      ·
       rcases Bool.eq_false_or_eq_true (!b2) with h6 | h6
       ·
        refine vcIntro [false, false, false, true, false, true, true] (an (an h6 (an h5 (an h4 (an h3 (an h2 (an h1 (an h0 tt))))))) (an (an (an (show bkD [b0, b1, b2, b3, b4, b5, b6, b7, b8, b9, b10, b11, b12, b13, b14, b15] (5 : Int) (0 : Int) (0 : Int) = (2 : Int) by (simp at * <;> simp [*] <;> done)) (cB4c_0 b0 b1 b2 b3 b4 b5 b6 b7 b8 b9 b10 b11 b12 b13 b14 b15 z0 z1 z2 z3 z4 z5 z6 z7 z8 z9 z10 z11 z12 z13 z14 z15 (cB4c_2 z16 z17 z18 z19 z20 z21 z22 z23 z24 z25 z26 z27 z28 z29 z30 (an (ri z31) tt)))) tt) tt)) ?_
        kernel_rfl
       ·
        rcases Bool.eq_false_or_eq_true (decide (z18 > (0 : Int))) with h7 | h7
        ·
         rcases Bool.eq_false_or_eq_true (!b3) with h8 | h8
         ·
          refine vcIntro [false, false, false, true, false, true, false, true, true] (an (an h8 (an h7 (an h6 (an h5 (an h4 (an h3 (an h2 (an h1 (an h0 tt))))))))) (an (an (an (show bkD [b0, b1, b2, b3, b4, b5, b6, b7, b8, b9, b10, b11, b12, b13, b14, b15] (5 : Int) (0 : Int) (0 : Int) = (3 : Int) by (simp at * <;> simp [*] <;> done)) (cB4c_0 b0 b1 b2 b3 b4 b5 b6 b7 b8 b9 b10 b11 b12 b13 b14 b15 z0 z1 z2 z3 z4 z5 z6 z7 z8 z9 z10 z11 z12 z13 z14 z15 (cB4c_2 z16 z17 z18 z19 z20 z21 z22 z23 z24 z25 z26 z27 z28 z29 z30 (an (ri z31) tt)))) tt) tt)) ?_
          kernel_rfl
         · exact ff (by (simp_all; done))
        ·
         rcases Bool.eq_false_or_eq_true (!b3) with h9 | h9
         ·
          refine vcIntro [false, false, false, true, false, true, false, false, true] (an (an h9 (an h7 (an h6 (an h5 (an h4 (an h3 (an h2 (an h1 (an h0 tt))))))))) (an (an (an (show bkD [b0, b1, b2, b3, b4, b5, b6, b7, b8, b9, b10, b11, b12, b13, b14, b15] (5 : Int) (0 : Int) (0 : Int) = (3 : Int) by (simp at * <;> simp [*] <;> done)) (cB4c_0 b0 b1 b2 b3 b4 b5 b6 b7 b8 b9 b10 b11 b12 b13 b14 b15 z0 z1 z2 z3 z4 z5 z6 z7 z8 z9 z10 z11 z12 z13 z14 z15 (cB4c_2 z16 z17 z18 z19 z20 z21 z22 z23 z24 z25 z26 z27 z28 z29 z30 (an (ri z31) tt)))) tt) tt)) ?_
          kernel_rfl
         · exact ff (by (simp_all; done))
      ·
       rcases Bool.eq_false_or_eq_true (!b2) with h10 | h10
       ·
        refine vcIntro [false, false, false, true, false, false, true] (an (an h10 (an h5 (an h4 (an h3 (an h2 (an h1 (an h0 tt))))))) (an (an (an (show bkD [b0, b1, b2, b3, b4, b5, b6, b7, b8, b9, b10, b11, b12, b13, b14, b15] (5 : Int) (0 : Int) (0 : Int) = (2 : Int) by (simp at * <;> simp [*] <;> done)) (cB4c_0 b0 b1 b2 b3 b4 b5 b6 b7 b8 b9 b10 b11 b12 b13 b14 b15 z0 z1 z2 z3 z4 z5 z6 z7 z8 z9 z10 z11 z12 z13 z14 z15 (cB4c_2 z16 z17 z18 z19 z20 z21 z22 z23 z24 z25 z26 z27 z28 z29 z30 (an (ri z31) tt)))) tt) tt)) ?_
        kernel_rfl
       ·
        rcases Bool.eq_false_or_eq_true (decide (z18 > (0 : Int))) with h11 | h11
        ·
         rcases Bool.eq_false_or_eq_true (!b3) with h12 | h12
         ·
          refine vcIntro [false, false, false, true, false, false, false, true, true] (an (an h12 (an h11 (an h10 (an h5 (an h4 (an h3 (an h2 (an h1 (an h0 tt))))))))) (an (an (an (show bkD [b0, b1, b2, b3, b4, b5, b6, b7, b8, b9, b10, b11, b12, b13, b14, b15] (5 : Int) (0 : Int) (0 : Int) = (3 : Int) by (simp at * <;> simp [*] <;> done)) (cB4c_0 b0 b1 b2 b3 b4 b5 b6 b7 b8 b9 b10 b11 b12 b13 b14 b15 z0 z1 z2 z3 z4 z5 z6 z7 z8 z9 z10 z11 z12 z13 z14 z15 (cB4c_2 z16 z17 z18 z19 z20 z21 z22 z23 z24 z25 z26 z27 z28 z29 z30 (an (ri z31) tt)))) tt) tt)) ?_
          kernel_rfl
         · exact ff (by (simp_all; done))
        ·
         rcases Bool.eq_false_or_eq_true (!b3) with h13 | h13
         ·
          refine vcIntro [false, false, false, true, false, false, false, false, true] (an (an h13 (an h11 (an h10 (an h5 (an h4 (an h3 (an h2 (an h1 (an h0 tt))))))))) (an (an (an (show bkD [b0, b1, b2, b3, b4, b5, b6, b7, b8, b9, b10, b11, b12, b13, b14, b15] (5 : Int) (0 : Int) (0 : Int) = (3 : Int) by (simp at * <;> simp [*] <;> done)) (cB4c_0 b0 b1 b2 b3 b4 b5 b6 b7 b8 b9 b10 b11 b12 b13 b14 b15 z0 z1 z2 z3 z4 z5 z6 z7 z8 z9 z10 z11 z12 z13 z14 z15 (cB4c_2 z16 z17 z18 z19 z20 z21 z22 z23 z24 z25 z26 z27 z28 z29 z30 (an (ri z31) tt)))) tt) tt)) ?_
          kernel_rfl
         · exact ff (by (simp_all; done))
    ·
     rcases Bool.eq_false_or_eq_true (!b1) with h14 | h14
     ·
      refine vcIntro [false, false, false, false, true] (an (an h14 (an h3 (an h2 (an h1 (an h0 tt))))) (an (an (an (show bkD [b0, b1, b2, b3, b4, b5, b6, b7, b8, b9, b10, b11, b12, b13, b14, b15] (5 : Int) (0 : Int) (0 : Int) = (1 : Int) by (simp at * <;> simp [*] <;> done)) (cB4c_0 b0 b1 b2 b3 b4 b5 b6 b7 b8 b9 b10 b11 b12 b13 b14 b15 z0 z1 z2 z3 z4 z5 z6 z7 z8 z9 z10 z11 z12 z13 z14 z15 (cB4c_2 z16 z17 z18 z19 z20 z21 z22 z23 z24 z25 z26 z27 z28 z29 z30 (an (ri z31) tt)))) tt) tt)) ?_
      kernel_rfl
     ·
      rcases Bool.eq_false_or_eq_true (decide (z17 > (0 : Int))) with h15 | h15
      ·
       rcases Bool.eq_false_or_eq_true (!b2) with h16 | h16
       ·
        refine vcIntro [false, false, false, false, false, true, true] (an (an h16 (an h15 (an h14 (an h3 (an h2 (an h1 (an h0 tt))))))) (an (an (an (show bkD [b0, b1, b2, b3, b4, b5, b6, b7, b8, b9, b10, b11, b12, b13, b14, b15] (5 : Int) (0 : Int) (0 : Int) = (2 : Int) by (simp at * <;> simp [*] <;> done)) (cB4c_0 b0 b1 b2 b3 b4 b5 b6 b7 b8 b9 b10 b11 b12 b13 b14 b15 z0 z1 z2 z3 z4 z5 z6 z7 z8 z9 z10 z11 z12 z13 z14 z15 (cB4c_2 z16 z17 z18 z19 z20 z21 z22 z23 z24 z25 z26 z27 z28 z29 z30 (an (ri z31) tt)))) tt) tt)) ?_
        kernel_rfl
       ·
        rcases Bool.eq_false_or_eq_true (decide (z18 > (0 : Int))) with h17 | h17
        ·
         rcases Bool.eq_false_or_eq_true (!b3) with h18 | h18
         ·
          refine vcIntro [false, false, false, false, false, true, false, true, true] (an (an h18 (an h17 (an h16 (an h15 (an h14 (an h3 (an h2 (an h1 (an h0 tt))))))))) (an (an (an (show bkD [b0, b1, b2, b3, b4, b5, b6, b7, b8, b9, b10, b11, b12, b13, b14, b15] (5 : Int) (0 : Int) (0 : Int) = (3 : Int) by (simp at * <;> simp [*] <;> done)) (cB4c_0 b0 b1 b2 b3 b4 b5 b6 b7 b8 b9 b10 b11 b12 b13 b14 b15 z0 z1 z2 z3 z4 z5 z6 z7 z8 z9 z10 z11 z12 z13 z14 z15 (cB4c_2 z16 z17 z18 z19 z20 z21 z22 z23 z24 z25 z26 z27 z28 z29 z30 (an (ri z31) tt)))) tt) tt)) ?_
          kernel_rfl
         · exact ff (by (simp_all; done))
        ·
         rcases Bool.eq_false_or_eq_true (!b3) with h19 | h19
         ·
          refine vcIntro [false, false, false, false, false, true, false, false, true] (an (an h19 (an h17 (an h16 (an h15 (an h14 (an h3 (an h2 (an h1 (an h0 tt))))))))) (an (an (an (show bkD [b0, b1, b2, b3, b4, b5, b6, b7, b8, b9, b10, b11, b12, b13, b14, b15] (5 : Int) (0 : Int) (0 : Int) = (3 : Int) by (simp at * <;> simp [*] <;> done)) (cB4c_0 b0 b1 b2 b3 b4 b5 b6 b7 b8 b9 b10 b11 b12 b13 b14 b15 z0 z1 z2 z3 z4 z5 z6 z7 z8 z9 z10 z11 z12 z13 z14 z15 (cB4c_2 z16 z17 z18 z19 z20 z21 z22 z23 z24 z25 z26 z27 z28 z29 z30 (an (ri z31) tt)))) tt) tt)) ?_
          kernel_rfl
         · exact ff (by (simp_all; done))
      ·
       rcases Bool.eq_false_or_eq_true (!b2) with h20 | h20
       ·
        refine vcIntro [false, false, false, false, false, false, true] (an (an h20 (an h15 (an h14 (an h3 (an h2 (an h1 (an h0 tt))))))) (an (an (an (show bkD [b0, b1, b2, b3, b4, b5, b6, b7, b8, b9, b10, b11, b12, b13, b14, b15] (5 : Int) (0 : Int) (0 : Int) = (2 : Int) by (simp at * <;> simp [*] <;> done)) (cB4c_0 b0 b1 b2 b3 b4 b5 b6 b7 b8 b9 b10 b11 b12 b13 b14 b15 z0 z1 z2 z3 z4 z5 z6 z7 z8 z9 z10 z11 z12 z13 z14 z15 (cB4c_2 z16 z17 z18 z19 z20 z21 z22 z23 z24 z25 z26 z27 z28 z29 z30 (an (ri z31) tt)))) tt) tt)) ?_
        kernel_rfl
       ·
        rcases Bool.eq_false_or_eq_true (decide (z18 > (0 : Int))) with h21 | h21
        ·
         rcases Bool.eq_false_or_eq_true (!b3) with h22 | h22
         ·
          refine vcIntro [false, false, false, false, false, false, false, true, true] (an (an h22 (an h21 (an h20 (an h15 (an h14 (an h3 (an h2 (an h1 (an h0 tt))))))))) (an (an (an (show bkD [b0, b1, b2, b3, b4, b5, b6, b7, b8, b9, b10, b11, b12, b13, b14, b15] (5 : Int) (0 : Int) (0 : Int) = (3 : Int) by (simp at * <;> simp [*] <;> done)) (cB4c_0 b0 b1 b2 b3 b4 b5 b6 b7 b8 b9 b10 b11 b12 b13 b14 b15 z0 z1 z2 z3 z4 z5 z6 z7 z8 z9 z10 z11 z12 z13 z14 z15 (cB4c_2 z16 z17 z18 z19 z20 z21 z22 z23 z24 z25 z26 z27 z28 z29 z30 (an (ri z31) tt)))) tt) tt)) ?_
          kernel_rfl
         · exact ff (by (simp_all; done))
        ·
         rcases Bool.eq_false_or_eq_true (!b3) with h23 | h23
         ·
          refine vcIntro [false, false, false, false, false, false, false, false, true] (an (an h23 (an h21 (an h20 (an h15 (an h14 (an h3 (an h2 (an h1 (an h0 tt))))))))) (an (an (an (show bkD [b0, b1, b2, b3, b4, b5, b6, b7, b8, b9, b10, b11, b12, b13, b14, b15] (5 : Int) (0 : Int) (0 : Int) = (3 : Int) by (simp at * <;> simp [*] <;> done)) (cB4c_0 b0 b1 b2 b3 b4 b5 b6 b7 b8 b9 b10 b11 b12 b13 b14 b15 z0 z1 z2 z3 z4 z5 z6 z7 z8 z9 z10 z11 z12 z13 z14 z15 (cB4c_2 z16 z17 z18 z19 z20 z21 z22 z23 z24 z25 z26 z27 z28 z29 z30 (an (ri z31) tt)))) tt) tt)) ?_
          kernel_rfl
         · exact ff (by (simp_all; done))

theorem dbk_500 : DoneRun 21 [b0, b1, b2, b3, b4, b5, b6, b7, b8, b9, b10, b11, b12, b13, b14, b15] [z0, z1, z2, z3, z4, z5, z6, z7, z8, z9, z10, z11, z12, z13, z14, z15, z16, z17, z18, z19, z20, z21, z22, z23, z24, z25, z26, z27, z28, z29, z30, z31] 5 0 0 x := by
 intro hv ho hn
 have m0 := m0_of hv
 have hx := hx_of ho
 have ho' : opMayL [5, 0, 0, x] = true := ho
 simp at hn

 rcases Bool.eq_false_or_eq_true (!allMay [z0, z1, z2, z3, z4, z5, z6, z7, z8, z9, z10, z11, z12, z13, z14, z15, z16, z17, z18, z19, z20, z21, z22, z23, z24, z25, z26, z27, z28, z29, z30, z31]) with h0 | h0
 · exact ff (by (simp [hv, ho'] at *; done))
 ·
  rcases Bool.eq_false_or_eq_true (!opMayL [(5 : Int), (0 : Int), (0 : Int), x]) with h1 | h1
  · exact ff (by (simp [hv, ho'] at *; done))
  ·
   rcases Bool.eq_false_or_eq_true (!b0) with h2 | h2
   · exact ff (by (simp_all; done))
   ·
    rcases Bool.eq_false_or_eq_true (decide (z16 > (0 : Int))) with h3 | h3
    ·
     rcases Bool.eq_false_or_eq_true (!b1) with h4 | h4
     · exact ff (by (simp_all; done))
     ·
      rcases Bool.eq_false_or_eq_true (decide (z17 > (0 : Int))) with h5 | h5
      ·
       rcases Bool.eq_false_or_eq_true (!b2) with h6 | h6
       · exact ff (by (simp_all; done))
       ·
        rcases Bool.eq_false_or_eq_true (decide (z18 > (0 : Int))) with h7 | h7
        ·
         rcases Bool.eq_false_or_eq_true (!b3) with h8 | h8
         · exact ff (by (simp_all; done))
         ·
          rcases Bool.eq_false_or_eq_true (decide (z19 > (0 : Int))) with h9 | h9
          ·
           refine vcIntro [false, false, false, true, false, true, false, true, false, true] (an (an h9 (an h8 (an h7 (an h6 (an h5 (an h4 (an h3 (an h2 (an h1 (an h0 tt)))))))))) (an (an (an tt (cB4c_0 b0 b1 b2 b3 b4 b5 b6 b7 b8 b9 b10 b11 b12 b13 b14 b15 z0 z1 z2 z3 z4 z5 z6 z7 z8 z9 z10 z11 z12 z13 z14 z15 (an (show bkNow z16 z17 z18 z19 (5 : Int) (0 : Int) (0 : Int) x (0 : Int) = z16 by (simp; done)) (an (show bkNow z16 z17 z18 z19 (5 : Int) (0 : Int) (0 : Int) x (1 : Int) = z17 by (simp; done)) (an (show bkNow z16 z17 z18 z19 (5 : Int) (0 : Int) (0 : Int) x (2 : Int) = z18 by (simp; done)) (an (show bkNow z16 z17 z18 z19 (5 : Int) (0 : Int) (0 : Int) x (3 : Int) = z19 by (simp; done)) (cB4c_1 z20 z21 z22 z23 z24 z25 z26 z27 z28 z29 z30 z31 (an tt tt)))))))) tt) (an (an (@Eq.refl (Nat) ((0 : Nat))) (an (show ∀ (k : Nat), k < (0 : Nat) → (0 : Int) = (0 : Int) from fun _ _ => rfl) (an (show bkCode z16 z17 z18 z19 (5 : Int) (0 : Int) (0 : Int) x = (0 : Int) by (simp; done)) (show bkNum z16 z17 z18 z19 (5 : Int) (0 : Int) (0 : Int) x = IntKind.i64.wrap (IntKind.i64.wrap (IntKind.i64.wrap (IntKind.i64.wrap ((0 : Int) + IntKind.i64.wrap (z16 - (1 : Int))) + IntKind.i64.wrap (z17 - (1 : Int))) + IntKind.i64.wrap (z18 - (1 : Int))) + IntKind.i64.wrap (z19 - (1 : Int))) by (simp (disch := omega) only [wrapk] at *; simp at * <;> simp [*] <;> done))))) tt))) ?_
           kernel_rfl
          ·
           refine vcIntro [false, false, false, true, false, true, false, true, false, false] (an (an h9 (an h8 (an h7 (an h6 (an h5 (an h4 (an h3 (an h2 (an h1 (an h0 tt)))))))))) (an (an (an tt (cB4c_0 b0 b1 b2 b3 b4 b5 b6 b7 b8 b9 b10 b11 b12 b13 b14 b15 z0 z1 z2 z3 z4 z5 z6 z7 z8 z9 z10 z11 z12 z13 z14 z15 (an (show bkNow z16 z17 z18 z19 (5 : Int) (0 : Int) (0 : Int) x (0 : Int) = z16 by (simp; done)) (an (show bkNow z16 z17 z18 z19 (5 : Int) (0 : Int) (0 : Int) x (1 : Int) = z17 by (simp; done)) (an (show bkNow z16 z17 z18 z19 (5 : Int) (0 : Int) (0 : Int) x (2 : Int) = z18 by (simp; done)) (an (show bkNow z16 z17 z18 z19 (5 : Int) (0 : Int) (0 : Int) x (3 : Int) = z19 by (simp; done)) (cB4c_1 z20 z21 z22 z23 z24 z25 z26 z27 z28 z29 z30 z31 (an tt tt)))))))) tt) (an (an (@Eq.refl (Nat) ((0 : Nat))) (an (show ∀ (k : Nat), k < (0 : Nat) → (0 : Int) = (0 : Int) from fun _ _ => rfl) (an (show bkCode z16 z17 z18 z19 (5 : Int) (0 : Int) (0 : Int) x = (0 : Int) by (simp; done)) (show bkNum z16 z17 z18 z19 (5 : Int) (0 : Int) (0 : Int) x = IntKind.i64.wrap (IntKind.i64.wrap (IntKind.i64.wrap ((0 : Int) + IntKind.i64.wrap (z16 - (1 : Int))) + IntKind.i64.wrap (z17 - (1 : Int))) + IntKind.i64.wrap (z18 - (1 : Int))) by (simp (disch := omega) only [wrapk] at *; simp at * <;> (repeat' split) <;> omega))))) tt))) ?_
           kernel_rfl
        ·
         rcases Bool.eq_false_or_eq_true (!b3) with h10 | h10
         · exact ff (by (simp_all; done))
         ·
          rcases Bool.eq_false_or_eq_true (decide (z19 > (0 : Int))) with h11 | h11
          ·
           refine vcIntro [false, false, false, true, false, true, false, false, false, true] (an (an h11 (an h10 (an h7 (an h6 (an h5 (an h4 (an h3 (an h2 (an h1 (an h0 tt)))))))))) (an (an (an tt (cB4c_0 b0 b1 b2 b3 b4 b5 b6 b7 b8 b9 b10 b11 b12 b13 b14 b15 z0 z1 z2 z3 z4 z5 z6 z7 z8 z9 z10 z11 z12 z13 z14 z15 (an (show bkNow z16 z17 z18 z19 (5 : Int) (0 : Int) (0 : Int) x (0 : Int) = z16 by (simp; done)) (an (show bkNow z16 z17 z18 z19 (5 : Int) (0 : Int) (0 : Int) x (1 : Int) = z17 by (simp; done)) (an (show bkNow z16 z17 z18 z19 (5 : Int) (0 : Int) (0 : Int) x (2 : Int) = z18 by (simp; done)) (an (show bkNow z16 z17 z18 z19 (5 : Int) (0 : Int) (0 : Int) x (3 : Int) = z19 by (simp; done)) (cB4c_1 z20 z21 z22 z23 z24 z25 z26 z27 z28 z29 z30 z31 (an tt tt)))))))) tt) (an (an (@Eq.refl (Nat) ((0 : Nat))) (an (show ∀ (k : Nat), k < (0 : Nat) → (0 : Int) = (0 : Int) from fun _ _ => rfl) (an (show bkCode z16 z17 z18 z19 (5 : Int) (0 : Int) (0 : Int) x = (0 : Int) by (simp; done)) (show bkNum z16 z17 z18 z19 (5 : Int) (0 : Int) (0 : Int) x = IntKind.i64.wrap (IntKind.i64.wrap (IntKind.i64.wrap ((0 : Int) + IntKind.i64.wrap (z16 - (1 : Int))) + IntKind.i64.wrap (z17 - (1 : Int))) + IntKind.i64.wrap (z19 - (1 : Int))) by (simp (disch := omega) only [wrapk] at *; simp at * <;> (repeat' split) <;> omega))))) tt))) ?_
           kernel_rfl
          ·
           refine vcIntro [false, false, false, true, false, true, false, false, false, false] (an (an h11 (an h10 (an h7 (an h6 (an h5 (an h4 (an h3 (an h2 (an h1 (an h0 tt)))))))))) (an (an (an tt (cB4c_0 b0 b1 b2 b3 b4 b5 b6 b7 b8 b9 b10 b11 b12 b13 b14 b15 z0 z1 z2 z3 z4 z5 z6 z7 z8 z9 z10 z11 z12 z13 z14 z15 (an (show bkNow z16 z17 z18 z19 (5 : Int) (0 : Int) (0 : Int) x (0 : Int) = z16 by (simp; done)) (an (show bkNow z16 z17 z18 z19 (5 : Int) (0 : Int) (0 : Int) x (1 : Int) = z17 by (simp; done)) (an (show bkNow z16 z17 z18 z19 (5 : Int) (0 : Int) (0 : Int) x (2 : Int) = z18 by (simp; done)) (an (show bkNow z16 z17 z18 z19 (5 : Int) (0 : Int) (0 : Int) x (3 : Int) = z19 by (simp; done)) (cB4c_1 z20 z21 z22 z23 z24 z25 z26 z27 z28 z29 z30 z31 (an tt tt)))))))) tt) (an (an (@Eq.refl (Nat) ((0 : Nat))) (an (show ∀ (k : Nat), k < (0 : Nat) → (0 : Int) = (0 : Int) from fun _ _ => rfl) (an (show bkCode z16 z17 z18 z19 (5 : Int) (0 : Int) (0 : Int) x = (0 : Int) by (simp; done)) (show bkNum z16 z17 z18 z19 (5 : Int) (0 : Int) (0 : Int) x = IntKind.i64.wrap (IntKind.i64.wrap ((0 : Int) + IntKind.i64.wrap (z16 - (1 : Int))) + IntKind.i64.wrap (z17 - (1 : Int))) by (simp (disch := omega) only [wrapk] at *; simp at * <;> (repeat' split) <;> omega))))) tt))) ?_
           kernel_rfl
      ·
       rcases Bool.eq_false_or_eq_true (!b2) with h12 | h12
       · exact ff (by (simp_all; done))
       ·
        rcases Bool.eq_false_or_eq_true (decide (z18 > (0 : Int))) with h13 | h13
        ·
         rcases Bool.eq_false_or_eq_true (!b3) with h14 | h14
         · exact ff (by (simp_all; done))
         ·
          rcases Bool.eq_false_or_eq_true (decide (z19 > (0 : Int))) with h15 | h15
          ·
           refine vcIntro [false, false, false, true, false, false, false, true, false, true] (an (an h15 (an h14 (an h13 (an h12 (an h5 (an h4 (an h3 (an h2 (an h1 (an h0 tt)))))))))) (an (an (an tt (cB4c_0 b0 b1 b2 b3 b4 b5 b6 b7 b8 b9 b10 b11 b12 b13 b14 b15 z0 z1 z2 z3 z4 z5 z6 z7 z8 z9 z10 z11 z12 z13 z14 z15 (an (show bkNow z16 z17 z18 z19 (5 : Int) (0 : Int) (0 : Int) x (0 : Int) = z16 by (simp; done)) (an (show bkNow z16 z17 z18 z19 (5 : Int) (0 : Int) (0 : Int) x (1 : Int) = z17 by (simp; done)) (an (show bkNow z16 z17 z18 z19 (5 : Int) (0 : Int) (0 : Int) x (2 : Int) = z18 by (simp; done)) (an (show bkNow z16 z17 z18 z19 (5 : Int) (0 : Int) (0 : Int) x (3 : Int) = z19 by (simp; done)) (cB4c_1 z20 z21 z22 z23 z24 z25 z26 z27 z28 z29 z30 z31 (an tt tt)))))))) tt) (an (an (@Eq.refl (Nat) ((0 : Nat))) (an (show ∀ (k : Nat), k < (0 : Nat) → (0 : Int) = (0 : Int) from fun _ _ => rfl) (an (show bkCode z16 z17 z18 z19 (5 : Int) (0 : Int) (0 : Int) x = (0 : Int) by (simp; done)) (show bkNum z16 z17 z18 z19 (5 : Int) (0 : Int) (0 : Int) x = IntKind.i64.wrap (IntKind.i64.wrap (IntKind.i64.wrap ((0 : Int) + IntKind.i64.wrap (z16 - (1 : Int))) + IntKind.i64.wrap (z18 - (1 : Int))) + IntKind.i64.wrap (z19 - (1 : Int))) by (simp (disch := omega) only [wrapk] at *; simp at * <;> (repeat' split) <;> omega))))) tt))) ?_
           kernel_rfl
          ·
           refine vcIntro [false, false, false, true, false, false, false, true, false, false] (an (an h15 (an h14 (an h13 (an h12 (an h5 (an h4 (an h3 (an h2 (an h1 (an h0 tt)))))))))) (an (an (an tt (cB4c_0 b0 b1 b2 b3 b4 b5 b6 b7 b8 b9 b10 b11 b12 b13 b14 b15 z0 z1 z2 z3 z4 z5 z6 z7 z8 z9 z10 z11 z12 z13 z14 z15 (an (show bkNow z16 z17 z18 z19 (5 : Int) (0 : Int) (0 : Int) x (0 : Int) = z16 by (simp; done)) (an (show bkNow z16 z17 z18 z19 (5 : Int) (0 : Int) (0 : Int) x (1 : Int) = z17 by (simp; done)) (an (show bkNow z16 z17 z18 z19 (5 : Int) (0 : Int) (0 : Int) x (2 : Int) = z18 by (simp; done)) (an (show bkNow z16 z17 z18 z19 (5 : Int) (0 : Int) (0 : Int) x (3 : Int) = z19 by (simp; done)) (cB4c_1 z20 z21 z22 z23 z24 z25 z26 z27 z28 z29 z30 z31 (an tt tt)))))))) tt) (an (an (@Eq.refl (Nat) ((0 : Nat))) (an (show ∀ (k : Nat), k < (0 : Nat) → (0 : Int) = (0 : Int) from fun _ _ => rfl) (an (show bkCode z16 z17 z18 z19 (5 : Int) (0 : Int) (0 : Int) x = (0 : Int) by (simp; done)) (show bkNum z16 z17 z18 z19 (5 : Int) (0 : Int) (0 : Int) x = IntKind.i64.wrap (IntKind.i64.wrap ((0 : Int) + IntKind.i64.wrap (z16 - (1 : Int))) + IntKind.i64.wrap (z18 - (1 : Int))) by (simp (disch := omega) only [wrapk] at *; simp at * <;> (repeat' split) <;> omega))))) tt))) ?_
           kernel_rfl
        ·
         rcases Bool.eq_false_or_eq_true (!b3) with h16 | h16
         · exact ff (by (simp_all; done))
         ·
          rcases Bool.eq_false_or_eq_true (decide (z19 > (0 : Int))) with h17 | h17
          ·
           refine vcIntro [false, false, false, true, false, false, false, false, false, true] (an (an h17 (an h16 (an h13 (an h12 (an h5 (an h4 (an h3 (an h2 (an h1 (an h0 tt)))))))))) (an (an (an tt (cB4c_0 b0 b1 b2 b3 b4 b5 b6 b7 b8 b9 b10 b11 b12 b13 b14 b15 z0 z1 z2 z3 z4 z5 z6 z7 z8 z9 z10 z11 z12 z13 z14 z15 (an (show bkNow z16 z17 z18 z19 (5 : Int) (0 : Int) (0 : Int) x (0 : Int) = z16 by (simp; done)) (an (show bkNow z16 z17 z18 z19 (5 : Int) (0 : Int) (0 : Int) x (1 : Int) = z17 by (simp; done)) (an (show bkNow z16 z17 z18 z19 (5 : Int) (0 : Int) (0 : Int) x (2 : Int) = z18 by (simp; done)) (an (show bkNow z16 z17 z18 z19 (5 : Int) (0 : Int) (0 : Int) x (3 : Int) = z19 by (simp; done)) (cB4c_1 z20 z21 z22 z23 z24 z25 z26 z27 z28 z29 z30 z31 (an tt tt)))))))) tt) (an (an (@Eq.refl (Nat) ((0 : Nat))) (an (show ∀ (k : Nat), k < (0 : Nat) → (0 : Int) = (0 : Int) from fun _ _ => rfl) (an (show bkCode z16 z17 z18 z19 (5 : Int) (0 : Int) (0 : Int) x = (0 : Int) by (simp; done)) (show bkNum z16 z17 z18 z19 (5 : Int) (0 : Int) (0 : Int) x = IntKind.i64.wrap (IntKind.i64.wrap ((0 : Int) + IntKind.i64.wrap (z16 - (1 : Int))) + IntKind.i64.wrap (z19 - (1 : Int))) by (simp (disch := omega) only [wrapk] at *; simp at * <;> (repeat' split) <;> omega))))) tt))) ?_
           kernel_rfl
          ·
           refine vcIntro [false, false, false, true, false, false, false, false, false, false] (an (an h17 (an h16 (an h13 (an h12 (an h5 (an h4 (an h3 (an h2 (an h1 (an h0 tt)))))))))) (an (an (an tt (cB4c_0 b0 b1 b2 b3 b4 b5 b6 b7 b8 b9 b10 b11 b12 b13 b14 b15 z0 z1 z2 z3 z4 z5 z6 z7 z8 z9 z10 z11 z12 z13 z14 z15 (an (show bkNow z16 z17 z18 z19 (5 : Int) (0 : Int) (0 : Int) x (0 : Int) = z16 by (simp; done)) (an (show bkNow z16 z17 z18 z19 (5 : Int) (0 : Int) (0 : Int) x (1 : Int) = z17 by (simp; done)) (an (show bkNow z16 z17 z18 z19 (5 : Int) (0 : Int) (0 : Int) x (2 : Int) = z18 by (simp; done)) (an (show bkNow z16 z17 z18 z19 (5 : Int) (0 : Int) (0 : Int) x (3 : Int) = z19 by (simp; done)) (cB4c_1 z20 z21 z22 z23 z24 z25 z26 z27 z28 z29 z30 z31 (an tt tt)))))))) tt) (an (an (@Eq.refl (Nat) ((0 : Nat))) (an (show ∀ (k : Nat), k < (0 : Nat) → (0 : Int) = (0 : Int) from fun _ _ => rfl) (an (show bkCode z16 z17 z18 z19 (5 : Int) (0 : Int) (0 : Int) x = (0 : Int) by (simp; done)) (show bkNum z16 z17 z18 z19 (5 : Int) (0 : Int) (0 : Int) x = IntKind.i64.wrap ((0 : Int) + IntKind.i64.wrap (z16 - (1 : Int))) by (simp (disch := omega) only [wrapk] at *; simp at * <;> (repeat' split) <;> omega))))) tt))) ?_
           kernel_rfl
    ·
     rcases Bool.eq_false_or_eq_true (!b1) with h18 | h18
     · exact ff (by (simp_all; done))
     ·
      rcases Bool.eq_false_or_eq_true (decide (z17 > (0 : Int))) with h19 | h19
      ·
       rcases Bool.eq_false_or_eq_true (!b2) with h20 | h20
       · exact ff (by (simp_all; done))
       ·
        rcases Bool.eq_false_or_eq_true (decide (z18 > (0 : Int))) with h21 | h21
        ·
         rcases Bool.eq_false_or_eq_true (!b3) with h22 | h22
         · exact ff (by (simp_all; done))
         ·
          rcases Bool.eq_false_or_eq_true (decide (z19 > (0 : Int))) with h23 | h23
          ·
           refine vcIntro [false, false, false, false, false, true, false, true, false, true] (an (an h23 (an h22 (an h21 (an h20 (an h19 (an h18 (an h3 (an h2 (an h1 (an h0 tt)))))))))) (an (an (an tt (cB4c_0 b0 b1 b2 b3 b4 b5 b6 b7 b8 b9 b10 b11 b12 b13 b14 b15 z0 z1 z2 z3 z4 z5 z6 z7 z8 z9 z10 z11 z12 z13 z14 z15 (an (show bkNow z16 z17 z18 z19 (5 : Int) (0 : Int) (0 : Int) x (0 : Int) = z16 by (simp; done)) (an (show bkNow z16 z17 z18 z19 (5 : Int) (0 : Int) (0 : Int) x (1 : Int) = z17 by (simp; done)) (an (show bkNow z16 z17 z18 z19 (5 : Int) (0 : Int) (0 : Int) x (2 : Int) = z18 by (simp; done)) (an (show bkNow z16 z17 z18 z19 (5 : Int) (0 : Int) (0 : Int) x (3 : Int) = z19 by (simp; done)) (cB4c_1 z20 z21 z22 z23 z24 z25 z26 z27 z28 z29 z30 z31 (an tt tt)))))))) tt) (an (an (@Eq.refl (Nat) ((0 : Nat))) (an (show ∀ (k : Nat), k < (0 : Nat) → (0 : Int) = (0 : Int) from fun _ _ => rfl) (an (show bkCode z16 z17 z18 z19 (5 : Int) (0 : Int) (0 : Int) x = (0 : Int) by (simp; done)) (show bkNum z16 z17 z18 z19 (5 : Int) (0 : Int) (0 : Int) x = IntKind.i64.wrap (IntKind.i64.wrap (IntKind.i64.wrap ((0 : Int) + IntKind.i64.wrap (z17 - (1 : Int))) + IntKind.i64.wrap (z18 - (1 : Int))) + IntKind.i64.wrap (z19 - (1 : Int))) by (simp (disch := omega) only [wrapk] at *; simp at * <;> (repeat' split) <;> omega))))) tt))) ?_
           kernel_rfl
          ·
           refine vcIntro [false, false, false, false, false, true, false, true, false, false] (an (an h23 (an h22 (an h21 (an h20 (an h19 (an h18 (an h3 (an h2 (an h1 (an h0 tt)))))))))) (an (an (an tt (cB4c_0 b0 b1 b2 b3 b4 b5 b6 b7 b8 b9 b10 b11 b12 b13 b14 b15 z0 z1 z2 z3 z4 z5 z6 z7 z8 z9 z10 z11 z12 z13 z14 z15 (an (show bkNow z16 z17 z18 z19 (5 : Int) (0 : Int) (0 : Int) x (0 : Int) = z16 by (simp; done)) (an (show bkNow z16 z17 z18 z19 (5 : Int) (0 : Int) (0 : Int) x (1 : Int) = z17 by (simp; done)) (an (show bkNow z16 z17 z18 z19 (5 : Int) (0 : Int) (0 : Int) x (2 : Int) = z18 by (simp; done)) (an (show bkNow z16 z17 z18 z19 (5 : Int) (0 : Int) (0 : Int) x (3 : Int) = z19 by (simp; done)) (cB4c_1 z20 z21 z22 z23 z24 z25 z26 z27 z28 z29 z30 z31 (an tt tt)))))))) tt) (an (an (@Eq.refl (Nat) ((0 : Nat))) (an (show ∀ (k : Nat), k < (0 : Nat) → (0 : Int) = (0 : Int) from fun _ _ => rfl) (an (show bkCode z16 z17 z18 z19 (5 : Int) (0 : Int) (0 : Int) x = (0 : Int) by (simp; done)) (show bkNum z16 z17 z18 z19 (5 : Int) (0 : Int) (0 : Int) x = IntKind.i64.wrap (IntKind.i64.wrap ((0 : Int) + IntKind.i64.wrap (z17 - (1 : Int))) + IntKind.i64.wrap (z18 - (1 : Int))) by (simp (disch := omega) only [wrapk] at *; simp at * <;> (repeat' split) <;> omega))))) tt))) ?_
           kernel_rfl
        ·
         rcases Bool.eq_false_or_eq_true (!b3) with h24 | h24
         · exact ff (by (simp_all; done))
         ·
          rcases Bool.eq_false_or_eq_true (decide (z19 > (0 : Int))) with h25 | h25
          ·
           refine vcIntro [false, false, false, false, false, true, false, false, false, true] (an (an h25 (an h24 (an h21 (an h20 (an h19 (an h18 (an h3 (an h2 (an h1 (an h0 tt)))))))))) (an (an (an tt (cB4c_0 b0 b1 b2 b3 b4 b5 b6 b7 b8 b9 b10 b11 b12 b13 b14 b15 z0 z1 z2 z3 z4 z5 z6 z7 z8 z9 z10 z11 z12 z13 z14 z15 (an (show bkNow z16 z17 z18 z19 (5 : Int) (0 : Int) (0 : Int) x (0 : Int) = z16 by (simp; done)) (an (show bkNow z16 z17 z18 z19 (5 : Int) (0 : Int) (0 : Int) x (1 : Int) = z17 by (simp; done)) (an (show bkNow z16 z17 z18 z19 (5 : Int) (0 : Int) (0 : Int) x (2 : Int) = z18 by (simp; done)) (an (show bkNow z16 z17 z18 z19 (5 : Int) (0 : Int) (0 : Int) x (3 : Int) = z19 by (simp; done)) (cB4c_1 z20 z21 z22 z23 z24 z25 z26 z27 z28 z29 z30 z31 (an tt tt)))))))) tt) (an (an (@Eq.refl (Nat) ((0 : Nat))) (an (show ∀ (k : Nat), k < (0 : Nat) → (0 : Int) = (0 : Int) from fun _ _ => rfl) (an (show bkCode z16 z17 z18 z19 (5 : Int) (0 : Int) (0 : Int) x = (0 : Int) by (simp; done)) (show bkNum z16 z17 z18 z19 (5 : Int) (0 : Int) (0 : Int) x = IntKind.i64.wrap (IntKind.i64.wrap ((0 : Int) + IntKind.i64.wrap (z17 - (1 : Int))) + IntKind.i64.wrap (z19 - (1 : Int))) by (simp (disch := omega) only [wrapk] at *; simp at * <;> (repeat' split) <;> omega))))) tt))) ?_
           kernel_rfl
          ·
           refine vcIntro [false, false, false, false, false, true, false, false, false, false] (an (an h25 (an h24 (an h21 (an h20 (an h19 (an h18 (an h3 (an h2 (an h1 (an h0 tt)))))))))) (an (an (an tt (cB4c_0 b0 b1 b2 b3 b4 b5 b6 b7 b8 b9 b10 b11 b12 b13 b14 b15 z0 z1 z2 z3 z4 z5 z6 z7 z8 z9 z10 z11 z12 z13 z14 z15 (an (show bkNow z16 z17 z18 z19 (5 : Int) (0 : Int) (0 : Int) x (0 : Int) = z16 by (simp; done)) (an (show bkNow z16 z17 z18 z19 (5 : Int) (0 : Int) (0 : Int) x (1 : Int) = z17 by (simp; done)) (an (show bkNow z16 z17 z18 z19 (5 : Int) (0 : Int) (0 : Int) x (2 : Int) = z18 by (simp; done)) (an (show bkNow z16 z17 z18 z19 (5 : Int) (0 : Int) (0 : Int) x (3 : Int) = z19 by (simp; done)) (cB4c_1 z20 z21 z22 z23 z24 z25 z26 z27 z28 z29 z30 z31 (an tt tt)))))))) tt) (an (an (@Eq.refl (Nat) ((0 : Nat))) (an (show ∀ (k : Nat), k < (0 : Nat) → (0 : Int) = (0 : Int) from fun _ _ => rfl) (an (show bkCode z16 z17 z18 z19 (5 : Int) (0 : Int) (0 : Int) x = (0 : Int) by (simp; done)) (show bkNum z16 z17 z18 z19 (5 : Int) (0 : Int) (0 : Int) x = IntKind.i64.wrap ((0 : Int) + IntKind.i64.wrap (z17 - (1 : Int))) by (simp (disch := omega) only [wrapk] at *; simp at * <;> (repeat' split) <;> omega))))) tt))) ?_
           kernel_rfl
      ·
       rcases Bool.eq_false_or_eq_true (!b2) with h26 | h26
       · exact ff (by (simp_all; done))
       ·
        rcases Bool.eq_false_or_eq_true (decide (z18 > (0 : Int))) with h27 | h27
        ·
         rcases Bool.eq_false_or_eq_true (!b3) with h28 | h28
         · exact ff (by (simp_all; done))
         ·
          rcases Bool.eq_false_or_eq_true (decide (z19 > (0 : Int))) with h29 | h29
          ·
           refine vcIntro [false, false, false, false, false, false, false, true, false, true] (an (an h29 (an h28 (an h27 (an h26 (an h19 (an h18 (an h3 (an h2 (an h1 (an h0 tt)))))))))) (an (an (an tt (cB4c_0 b0 b1 b2 b3 b4 b5 b6 b7 b8 b9 b10 b11 b12 b13 b14 b15 z0 z1 z2 z3 z4 z5 z6 z7 z8 z9 z10 z11 z12 z13 z14 z15 (an (show bkNow z16 z17 z18 z19 (5 : Int) (0 : Int) (0 : Int) x (0 : Int) = z16 by (simp; done)) (an (show bkNow z16 z17 z18 z19 (5 : Int) (0 : Int) (0 : Int) x (1 : Int) = z17 by (simp; done)) (an (show bkNow z16 z17 z18 z19 (5 : Int) (0 : Int) (0 : Int) x (2 : Int) = z18 by (simp; done)) (an (show bkNow z16 z17 z18 z19 (5 : Int) (0 : Int) (0 : Int) x (3 : Int) = z19 by (simp; done)) (cB4c_1 z20 z21 z22 z23 z24 z25 z26 z27 z28 z29 z30 z31 (an tt tt)))))))) tt) (an (an (@Eq.refl (Nat) ((0 : Nat))) (an (show ∀ (k : Nat), k < (0 : Nat) → (0 : Int) = (0 : Int) from fun _ _ => rfl) (an (show bkCode z16 z17 z18 z19 (5 : Int) (0 : Int) (0 : Int) x = (0 : Int) by (simp; done)) (show bkNum z16 z17 z18 z19 (5 : Int) (0 : Int) (0 : Int) x = IntKind.i64.wrap (IntKind.i64.wrap ((0 : Int) + IntKind.i64.wrap (z18 - (1 : Int))) + IntKind.i64.wrap (z19 - (1 : Int))) by (simp (disch := omega) only [wrapk] at *; simp at * <;> (repeat' split) <;> omega))))) tt))) ?_
           kernel_rfl
          ·
           refine vcIntro [false, false, false, false, false, false, false, true, false, false] (an (an h29 (an h28 (an h27 (an h26 (an h19 (an h18 (an h3 (an h2 (an h1 (an h0 tt)))))))))) (an (an (an tt (cB4c_0 b0 b1 b2 b3 b4 b5 b6 b7 b8 b9 b10 b11 b12 b13 b14 b15 z0 z1 z2 z3 z4 z5 z6 z7 z8 z9 z10 z11 z12 z13 z14 z15 (an (show bkNow z16 z17 z18 z19 (5 : Int) (0 : Int) (0 : Int) x (0 : Int) = z16 by (simp; done)) (an (show bkNow z16 z17 z18 z19 (5 : Int) (0 : Int) (0 : Int) x (1 : Int) = z17 by (simp; done)) (an (show bkNow z16 z17 z18 z19 (5 : Int) (0 : Int) (0 : Int) x (2 : Int) = z18 by (simp; done)) (an (show bkNow z16 z17 z18 z19 (5 : Int) (0 : Int) (0 : Int) x (3 : Int) = z19 by (simp; done)) (cB4c_1 z20 z21 z22 z23 z24 z25 z26 z27 z28 z29 z30 z31 (an tt tt)))))))) tt) (an (an (@Eq.refl (Nat) ((0 : Nat))) (an (show ∀ (k : Nat), k < (0 : Nat) → (0 : Int) = (0 : Int) from fun _ _ => rfl) (an (show bkCode z16 z17 z18 z19 (5 : Int) (0 : Int) (0 : Int) x = (0 : Int) by (simp; done)) (show bkNum z16 z17 z18 z19 (5 : Int) (0 : Int) (0 : Int) x = IntKind.i64.wrap ((0 : Int) + IntKind.i64.wrap (z18 - (1 : Int))) by (simp (disch := omega) only [wrapk] at *; simp at * <;> (repeat' split) <;> omega))))) tt))) ?_
           kernel_rfl
        ·
         rcases Bool.eq_false_or_eq_true (!b3) with h30 | h30
         · exact ff (by (simp_all; done))
         ·
          rcases Bool.eq_false_or_eq_true (decide (z19 > (0 : Int))) with h31 | h31
          ·
           refine vcIntro [false, false, false, false, false, false, false, false, false, true] (an (an h31 (an h30 (an h27 (an h26 (an h19 (an h18 (an h3 (an h2 (an h1 (an h0 tt)))))))))) (an (an (an tt (cB4c_0 b0 b1 b2 b3 b4 b5 b6 b7 b8 b9 b10 b11 b12 b13 b14 b15 z0 z1 z2 z3 z4 z5 z6 z7 z8 z9 z10 z11 z12 z13 z14 z15 (an (show bkNow z16 z17 z18 z19 (5 : Int) (0 : Int) (0 : Int) x (0 : Int) = z16 by (simp; done)) (an (show bkNow z16 z17 z18 z19 (5 : Int) (0 : Int) (0 : Int) x (1 : Int) = z17 by (simp; done)) (an (show bkNow z16 z17 z18 z19 (5 : Int) (0 : Int) (0 : Int) x (2 : Int) = z18 by (simp; done)) (an (show bkNow z16 z17 z18 z19 (5 : Int) (0 : Int) (0 : Int) x (3 : Int) = z19 by (simp; done)) (cB4c_1 z20 z21 z22 z23 z24 z25 z26 z27 z28 z29 z30 z31 (an tt tt)))))))) tt) (an (an (@Eq.refl (Nat) ((0 : Nat))) (an (show ∀ (k : Nat), k < (0 : Nat) → (0 : Int) = (0 : Int) from fun _ _ => rfl) (an (show bkCode z16 z17 z18 z19 (5 : Int) (0 : Int) (0 : Int) x = (0 : Int) by (simp; done)) (show bkNum z16 z17 z18 z19 (5 : Int) (0 : Int) (0 : Int) x = IntKind.i64.wrap ((0 : Int) + IntKind.i64.wrap (z19 - (1 : Int))) by (simp (disch := omega) only [wrapk] at *; simp at * <;> (repeat' split) <;> omega))))) tt))) ?_
           kernel_rfl
          ·
           refine vcIntro [false, false, false, false, false, false, false, false, false, false] (an (an h31 (an h30 (an h27 (an h26 (an h19 (an h18 (an h3 (an h2 (an h1 (an h0 tt)))))))))) (an (an (an tt (cB4c_0 b0 b1 b2 b3 b4 b5 b6 b7 b8 b9 b10 b11 b12 b13 b14 b15 z0 z1 z2 z3 z4 z5 z6 z7 z8 z9 z10 z11 z12 z13 z14 z15 (an (show bkNow z16 z17 z18 z19 (5 : Int) (0 : Int) (0 : Int) x (0 : Int) = z16 by (simp; done)) (an (show bkNow z16 z17 z18 z19 (5 : Int) (0 : Int) (0 : Int) x (1 : Int) = z17 by (simp; done)) (an (show bkNow z16 z17 z18 z19 (5 : Int) (0 : Int) (0 : Int) x (2 : Int) = z18 by (simp; done)) (an (show bkNow z16 z17 z18 z19 (5 : Int) (0 : Int) (0 : Int) x (3 : Int) = z19 by (simp; done)) (cB4c_1 z20 z21 z22 z23 z24 z25 z26 z27 z28 z29 z30 z31 (an tt tt)))))))) tt) (an (an (@Eq.refl (Nat) ((0 : Nat))) (an (show ∀ (k : Nat), k < (0 : Nat) → (0 : Int) = (0 : Int) from fun _ _ => rfl) (an (show bkCode z16 z17 z18 z19 (5 : Int) (0 : Int) (0 : Int) x = (0 : Int) by (simp; done)) (show bkNum z16 z17 z18 z19 (5 : Int) (0 : Int) (0 : Int) x = (0 : Int) by (simp at * <;> (repeat' split) <;> omega))))) tt))) ?_
           kernel_rfl

end Go.Ideal.B1
