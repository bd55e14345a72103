/- Chapter 5: runs of pawl/bank.Do, case by case. Written by gen/bank.py. Own text. -/
import Derived.Test.YtmkgiejjapljpaaB3
namespace Go.Ideal.B1
open Go.Proofs Go.Ideal Go.Ideal.L1
set_option linter.unusedSimpArgs false
set_option linter.unusedVariables false
set_option maxRecDepth 100000
set_option maxHeartbeats 8000000
attribute [local simp] sel bkNeed bkCode pos bkNum bkNow bkZs bkA bkD
variable (b0 b1 b2 b3 b4 b5 b6 b7 b8 b9 b10 b11 b12 b13 b14 b15 : Bool) (z0 z1 z2 z3 z4 z5 z6 z7 z8 z9 z10 z11 z12 z13 z14 z15 z16 z17 z18 z19 z20 z21 z22 z23 z24 z25 z26 z27 z28 z29 z30 z31 x : Int)

theorem nbk_000 : NeedRun 21 [b0, b1, b2, b3, b4, b5, b6, b7, b8, b9, b10, b11, b12, b13, b14, b15] [z0, z1, z2, z3, z4, z5, z6, z7, z8, z9, z10, z11, z12, z13, z14, z15, z16, z17, z18, z19, z20, z21, z22, z23, z24, z25, z26, z27, z28, z29, z30, z31] 0 0 0 x := by
 intro hv ho hn
 have m0 := m0_of hv
 have hx := hx_of ho
 have ho' : opMayL [0, 0, 0, x] = true := ho
 simp at hn

 rcases Bool.eq_false_or_eq_true (!allMay [z0, z1, z2, z3, z4, z5, z6, z7, z8, z9, z10, z11, z12, z13, z14, z15, z16, z17, z18, z19, z20, z21, z22, z23, z24, z25, z26, z27, z28, z29, z30, z31]) with h0 | h0
 · exact ff (by (simp [hv, ho'] at *; done))
 ·
  rcases Bool.eq_false_or_eq_true (!opMayL [(0 : Int), (0 : Int), (0 : Int), x]) with h1 | h1
  · exact ff (by (simp [hv, ho'] at *; done))
  ·
   rcases Bool.eq_false_or_eq_true (!b0) with h2 | h2
   ·
    refine vcIntro [false, false, true] (an (an h2 (an h1 (an h0 tt))) (an (an (an (show bkD [b0, b1, b2, b3, b4, b5, b6, b7, b8, b9, b10, b11, b12, b13, b14, b15] (0 : Int) (0 : Int) (0 : Int) = (0 : Int) by (simp at * <;> simp [*] <;> done)) (an (rb b0) (an (rb b1) (an (rb b2) (an (rb b3) (an (rb b4) (an (rb b5) (an (rb b6) (an (rb b7) (an (rb b8) (an (rb b9) (an (rb b10) (an (rb b11) (an (rb b12) (an (rb b13) (an (rb b14) (an (rb b15) (an (ri z0) (an (ri z1) (an (ri z2) (an (ri z3) (an (ri z4) (an (ri z5) (an (ri z6) (an (ri z7) (an (ri z8) (an (ri z9) (an (ri z10) (an (ri z11) (an (ri z12) (an (ri z13) (an (ri z14) (an (ri z15) (an (ri z16) (an (ri z17) (an (ri z18) (an (ri z19) (an (ri z20) (an (ri z21) (an (ri z22) (an (ri z23) (an (ri z24) (an (ri z25) (an (ri z26) (an (ri z27) (an (ri z28) (an (ri z29) (an (ri z30) (an (ri z31) tt))))))))))))))))))))))))))))))))))))))))))))))))) tt) tt)) ?_
    kernel_rfl
   · exact ff (by (simp_all; done))

theorem dbk_000 : DoneRun 21 [b0, b1, b2, b3, b4, b5, b6, b7, b8, b9, b10, b11, b12, b13, b14, b15] [z0, z1, z2, z3, z4, z5, z6, z7, z8, z9, z10, z11, z12, z13, z14, z15, z16, z17, z18, z19, z20, z21, z22, z23, z24, z25, z26, z27, z28, z29, z30, z31] 0 0 0 x := by
 intro hv ho hn
 have m0 := m0_of hv
 have hx := hx_of ho
 have ho' : opMayL [0, 0, 0, x] = true := ho
 simp at hn

 rcases Bool.eq_false_or_eq_true (!allMay [z0, z1, z2, z3, z4, z5, z6, z7, z8, z9, z10, z11, z12, z13, z14, z15, z16, z17, z18, z19, z20, z21, z22, z23, z24, z25, z26, z27, z28, z29, z30, z31]) with h0 | h0
 · exact ff (by (simp [hv, ho'] at *; done))
 ·
  rcases Bool.eq_false_or_eq_true (!opMayL [(0 : Int), (0 : Int), (0 : Int), x]) with h1 | h1
  · exact ff (by (simp [hv, ho'] at *; done))
  ·
   rcases Bool.eq_false_or_eq_true (!b0) with h2 | h2
   · exact ff (by (simp_all; done))
   ·
    rcases Bool.eq_false_or_eq_true (decide (z16 > (0 : Int))) with h3 | h3
    ·
     refine vcIntro [false, false, false, true] (an (an h3 (an h2 (an h1 (an h0 tt)))) (an (an (an tt (an (rb b0) (an (rb b1) (an (rb b2) (an (rb b3) (an (rb b4) (an (rb b5) (an (rb b6) (an (rb b7) (an (rb b8) (an (rb b9) (an (rb b10) (an (rb b11) (an (rb b12) (an (rb b13) (an (rb b14) (an (rb b15) (an (ri z0) (an (ri z1) (an (ri z2) (an (ri z3) (an (ri z4) (an (ri z5) (an (ri z6) (an (ri z7) (an (ri z8) (an (ri z9) (an (ri z10) (an (ri z11) (an (ri z12) (an (ri z13) (an (ri z14) (an (ri z15) (an (show bkNow z16 z17 z18 z19 (0 : Int) (0 : Int) (0 : Int) x (0 : Int) = z16 by (simp at * <;> (repeat' split) <;> omega)) (an (show bkNow z16 z17 z18 z19 (0 : Int) (0 : Int) (0 : Int) x (1 : Int) = z17 by (simp; done)) (an (show bkNow z16 z17 z18 z19 (0 : Int) (0 : Int) (0 : Int) x (2 : Int) = z18 by (simp; done)) (an (show bkNow z16 z17 z18 z19 (0 : Int) (0 : Int) (0 : Int) x (3 : Int) = z19 by (simp; done)) (an (ri z20) (an (ri z21) (an (ri z22) (an (ri z23) (an (ri z24) (an (ri z25) (an (ri z26) (an (ri z27) (an (ri z28) (an (ri z29) (an (ri z30) (an (ri z31) (an tt (an tt tt))))))))))))))))))))))))))))))))))))))))))))))))))) tt) (an (an (@Eq.refl (Nat) ((0 : Nat))) (an (show ∀ (k : Nat), k < (0 : Nat) → (0 : Int) = (0 : Int) from fun _ _ => rfl) (an (show bkCode z16 z17 z18 z19 (0 : Int) (0 : Int) (0 : Int) x = (1 : Int) by (simp at * <;> simp [*] <;> done)) (show bkNum z16 z17 z18 z19 (0 : Int) (0 : Int) (0 : Int) x = (0 : Int) by (simp at * <;> (repeat' split) <;> omega))))) tt))) ?_
     kernel_rfl
    ·
     refine vcIntro [false, false, false, false] (an (an h3 (an h2 (an h1 (an h0 tt)))) (an (an (an tt (an (rb b0) (an (rb b1) (an (rb b2) (an (rb b3) (an (rb b4) (an (rb b5) (an (rb b6) (an (rb b7) (an (rb b8) (an (rb b9) (an (rb b10) (an (rb b11) (an (rb b12) (an (rb b13) (an (rb b14) (an (rb b15) (an (ri z0) (an (ri z1) (an (ri z2) (an (ri z3) (an (ri z4) (an (ri z5) (an (ri z6) (an (ri z7) (an (ri z8) (an (ri z9) (an (ri z10) (an (ri z11) (an (ri z12) (an (ri z13) (an (ri z14) (an (ri z15) (an (show bkNow z16 z17 z18 z19 (0 : Int) (0 : Int) (0 : Int) x (0 : Int) = IntKind.i64.wrap (x + (1 : Int)) by (simp (disch := omega) only [wrapk] at *; simp at * <;> (repeat' split) <;> omega)) (an (show bkNow z16 z17 z18 z19 (0 : Int) (0 : Int) (0 : Int) x (1 : Int) = z17 by (simp; done)) (an (show bkNow z16 z17 z18 z19 (0 : Int) (0 : Int) (0 : Int) x (2 : Int) = z18 by (simp; done)) (an (show bkNow z16 z17 z18 z19 (0 : Int) (0 : Int) (0 : Int) x (3 : Int) = z19 by (simp; done)) (an (ri z20) (an (ri z21) (an (ri z22) (an (ri z23) (an (ri z24) (an (ri z25) (an (ri z26) (an (ri z27) (an (ri z28) (an (ri z29) (an (ri z30) (an (ri z31) (an tt (an tt tt))))))))))))))))))))))))))))))))))))))))))))))))))) tt) (an (an (@Eq.refl (Nat) ((0 : Nat))) (an (show ∀ (k : Nat), k < (0 : Nat) → (0 : Int) = (0 : Int) from fun _ _ => rfl) (an (show bkCode z16 z17 z18 z19 (0 : Int) (0 : Int) (0 : Int) x = (0 : Int) by (simp at * <;> simp [*] <;> done)) (show bkNum z16 z17 z18 z19 (0 : Int) (0 : Int) (0 : Int) x = x by (simp at * <;> (repeat' split) <;> omega))))) tt))) ?_
     kernel_rfl

theorem nbk_010 : NeedRun 21 [b0, b1, b2, b3, b4, b5, b6, b7, b8, b9, b10, b11, b12, b13, b14, b15] [z0, z1, z2, z3, z4, z5, z6, z7, z8, z9, z10, z11, z12, z13, z14, z15, z16, z17, z18, z19, z20, z21, z22, z23, z24, z25, z26, z27, z28, z29, z30, z31] 0 1 0 x := by
 intro hv ho hn
 have m0 := m0_of hv
 have hx := hx_of ho
 have ho' : opMayL [0, 1, 0, x] = true := ho
 simp at hn

 rcases Bool.eq_false_or_eq_true (!allMay [z0, z1, z2, z3, z4, z5, z6, z7, z8, z9, z10, z11, z12, z13, z14, z15, z16, z17, z18, z19, z20, z21, z22, z23, z24, z25, z26, z27, z28, z29, z30, z31]) with h0 | h0
 · exact ff (by (simp [hv, ho'] at *; done))
 ·
  rcases Bool.eq_false_or_eq_true (!opMayL [(0 : Int), (1 : Int), (0 : Int), x]) with h1 | h1
  · exact ff (by (simp [hv, ho'] at *; done))
  ·
   rcases Bool.eq_false_or_eq_true (!b1) with h2 | h2
   ·
    refine vcIntro [false, false, true] (an (an h2 (an h1 (an h0 tt))) (an (an (an (show bkD [b0, b1, b2, b3, b4, b5, b6, b7, b8, b9, b10, b11, b12, b13, b14, b15] (0 : Int) (1 : Int) (0 : Int) = (1 : Int) by (simp at * <;> simp [*] <;> done)) (an (rb b0) (an (rb b1) (an (rb b2) (an (rb b3) (an (rb b4) (an (rb b5) (an (rb b6) (an (rb b7) (an (rb b8) (an (rb b9) (an (rb b10) (an (rb b11) (an (rb b12) (an (rb b13) (an (rb b14) (an (rb b15) (an (ri z0) (an (ri z1) (an (ri z2) (an (ri z3) (an (ri z4) (an (ri z5) (an (ri z6) (an (ri z7) (an (ri z8) (an (ri z9) (an (ri z10) (an (ri z11) (an (ri z12) (an (ri z13) (an (ri z14) (an (ri z15) (an (ri z16) (an (ri z17) (an (ri z18) (an (ri z19) (an (ri z20) (an (ri z21) (an (ri z22) (an (ri z23) (an (ri z24) (an (ri z25) (an (ri z26) (an (ri z27) (an (ri z28) (an (ri z29) (an (ri z30) (an (ri z31) tt))))))))))))))))))))))))))))))))))))))))))))))))) tt) tt)) ?_
    kernel_rfl
   · exact ff (by (simp_all; done))

theorem dbk_010 : DoneRun 21 [b0, b1, b2, b3, b4, b5, b6, b7, b8, b9, b10, b11, b12, b13, b14, b15] [z0, z1, z2, z3, z4, z5, z6, z7, z8, z9, z10, z11, z12, z13, z14, z15, z16, z17, z18, z19, z20, z21, z22, z23, z24, z25, z26, z27, z28, z29, z30, z31] 0 1 0 x := by
 intro hv ho hn
 have m0 := m0_of hv
 have hx := hx_of ho
 have ho' : opMayL [0, 1, 0, x] = true := ho
 simp at hn

 rcases Bool.eq_false_or_eq_true (!allMay [z0, z1, z2, z3, z4, z5, z6, z7, z8, z9, z10, z11, z12, z13, z14, z15, z16, z17, z18, z19, z20, z21, z22, z23, z24, z25, z26, z27, z28, z29, z30, z31]) with h0 | h0
 · exact ff (by (simp [hv, ho'] at *; done))
 ·
  rcases Bool.eq_false_or_eq_true (!opMayL [(0 : Int), (1 : Int), (0 : Int), x]) with h1 | h1
  · exact ff (by (simp [hv, ho'] at *; done))
  ·
   rcases Bool.eq_false_or_eq_true (!b1) with h2 | h2
   · exact ff (by (simp_all; done))
   ·
    rcases Bool.eq_false_or_eq_true (decide (z17 > (0 : Int))) with h3 | h3
    ·
     refine vcIntro [false, false, false, true] (an (an h3 (an h2 (an h1 (an h0 tt)))) (an (an (an tt (an (rb b0) (an (rb b1) (an (rb b2) (an (rb b3) (an (rb b4) (an (rb b5) (an (rb b6) (an (rb b7) (an (rb b8) (an (rb b9) (an (rb b10) (an (rb b11) (an (rb b12) (an (rb b13) (an (rb b14) (an (rb b15) (an (ri z0) (an (ri z1) (an (ri z2) (an (ri z3) (an (ri z4) (an (ri z5) (an (ri z6) (an (ri z7) (an (ri z8) (an (ri z9) (an (ri z10) (an (ri z11) (an (ri z12) (an (ri z13) (an (ri z14) (an (ri z15) (an (show bkNow z16 z17 z18 z19 (0 : Int) (1 : Int) (0 : Int) x (0 : Int) = z16 by (simp; done)) (an (show bkNow z16 z17 z18 z19 (0 : Int) (1 : Int) (0 : Int) x (1 : Int) = z17 by (simp at * <;> (repeat' split) <;> omega)) (an (show bkNow z16 z17 z18 z19 (0 : Int) (1 : Int) (0 : Int) x (2 : Int) = z18 by (simp; done)) (an (show bkNow z16 z17 z18 z19 (0 : Int) (1 : Int) (0 : Int) x (3 : Int) = z19 by (simp; done)) (an (ri z20) (an (ri z21) (an (ri z22) (an (ri z23) (an (ri z24) (an (ri z25) (an (ri z26) (an (ri z27) (an (ri z28) (an (ri z29) (an (ri z30) (an (ri z31) (an tt (an tt tt))))))))))))))))))))))))))))))))))))))))))))))))))) tt) (an (an (@Eq.refl (Nat) ((0 : Nat))) (an (show ∀ (k : Nat), k < (0 : Nat) → (0 : Int) = (0 : Int) from fun _ _ => rfl) (an (show bkCode z16 z17 z18 z19 (0 : Int) (1 : Int) (0 : Int) x = (1 : Int) by (simp at * <;> simp [*] <;> done)) (show bkNum z16 z17 z18 z19 (0 : Int) (1 : Int) (0 : Int) x = (0 : Int) by (simp at * <;> (repeat' split) <;> omega))))) tt))) ?_
     kernel_rfl
    ·
     refine vcIntro [false, false, false, false] (an (an h3 (an h2 (an h1 (an h0 tt)))) (an (an (an tt (an (rb b0) (an (rb b1) (an (rb b2) (an (rb b3) (an (rb b4) (an (rb b5) (an (rb b6) (an (rb b7) (an (rb b8) (an (rb b9) (an (rb b10) (an (rb b11) (an (rb b12) (an (rb b13) (an (rb b14) (an (rb b15) (an (ri z0) (an (ri z1) (an (ri z2) (an (ri z3) (an (ri z4) (an (ri z5) (an (ri z6) (an (ri z7) (an (ri z8) (an (ri z9) (an (ri z10) (an (ri z11) (an (ri z12) (an (ri z13) (an (ri z14) (an (ri z15) (an (show bkNow z16 z17 z18 z19 (0 : Int) (1 : Int) (0 : Int) x (0 : Int) = z16 by (simp; done)) (an (show bkNow z16 z17 z18 z19 (0 : Int) (1 : Int) (0 : Int) x (1 : Int) = IntKind.i64.wrap (x + (1 : Int)) by (simp (disch := omega) only [wrapk] at *; simp at * <;> (repeat' split) <;> omega)) (an (show bkNow z16 z17 z18 z19 (0 : Int) (1 : Int) (0 : Int) x (2 : Int) = z18 by (simp; done)) (an (show bkNow z16 z17 z18 z19 (0 : Int) (1 : Int) (0 : Int) x (3 : Int) = z19 by (simp; done)) (an (ri z20) (an (ri z21) (an (ri z22) (an (ri z23) (an (ri z24) (an (ri z25) (an (ri z26) (an (ri z27) (an (ri z28) (an (ri z29) (an (ri z30) (an (ri z31) (an tt (an tt tt))))))))))))))))))))))))))))))))))))))))))))))))))) tt) (an (an (@Eq.refl (Nat) ((0 : Nat))) (an (show ∀ (k : Nat), k < (0 : Nat) → (0 : Int) = (0 : Int) from fun _ _ => rfl) (an (show bkCode z16 z17 z18 z19 (0 : Int) (1 : Int) (0 : Int) x = (0 : Int) by (simp at * <;> simp [*] <;> done)) (show bkNum z16 z17 z18 z19 (0 : Int) (1 : Int) (0 : Int) x = x by (simp at * <;> (repeat' split) <;> omega))))) tt))) ?_
     kernel_rfl

theorem nbk_020 : NeedRun 21 [b0, b1, b2, b3, b4, b5, b6, b7, b8, b9, b10, b11, b12, b13, b14, b15] [z0, z1, z2, z3, z4, z5, z6, z7, z8, z9, z10, z11, z12, z13, z14, z15, z16, z17, z18, z19, z20, z21, z22, z23, z24, z25, z26, z27, z28, z29, z30, z31] 0 2 0 x := by
 intro hv ho hn
 have m0 := m0_of hv
 have hx := hx_of ho
 have ho' : opMayL [0, 2, 0, x] = true := ho
 simp at hn

 rcases Bool.eq_false_or_eq_true (!allMay [z0, z1, z2, z3, z4, z5, z6, z7, z8, z9, z10, z11, z12, z13, z14, z15, z16, z17, z18, z19, z20, z21, z22, z23, z24, z25, z26, z27, z28, z29, z30, z31]) with h0 | h0
 · exact ff (by (simp [hv, ho'] at *; done))
 ·
  rcases Bool.eq_false_or_eq_true (!opMayL [(0 : Int), (2 : Int), (0 : Int), x]) with h1 | h1
  · exact ff (by (simp [hv, ho'] at *; done))
  ·
   rcases Bool.eq_false_or_eq_true (!b2) with h2 | h2
   ·
    refine vcIntro [false, false, true] (an (an h2 (an h1 (an h0 tt))) (an (an (an (show bkD [b0, b1, b2, b3, b4, b5, b6, b7, b8, b9, b10, b11, b12, b13, b14, b15] (0 : Int) (2 : Int) (0 : Int) = (2 : Int) by (simp at * <;> simp [*] <;> done)) (an (rb b0) (an (rb b1) (an (rb b2) (an (rb b3) (an (rb b4) (an (rb b5) (an (rb b6) (an (rb b7) (an (rb b8) (an (rb b9) (an (rb b10) (an (rb b11) (an (rb b12) (an (rb b13) (an (rb b14) (an (rb b15) (an (ri z0) (an (ri z1) (an (ri z2) (an (ri z3) (an (ri z4) (an (ri z5) (an (ri z6) (an (ri z7) (an (ri z8) (an (ri z9) (an (ri z10) (an (ri z11) (an (ri z12) (an (ri z13) (an (ri z14) (an (ri z15) (an (ri z16) (an (ri z17) (an (ri z18) (an (ri z19) (an (ri z20) (an (ri z21) (an (ri z22) (an (ri z23) (an (ri z24) (an (ri z25) (an (ri z26) (an (ri z27) (an (ri z28) (an (ri z29) (an (ri z30) (an (ri z31) tt))))))))))))))))))))))))))))))))))))))))))))))))) tt) tt)) ?_
    kernel_rfl
   · exact ff (by (simp_all; done))

theorem dbk_020 : DoneRun 21 [b0, b1, b2, b3, b4, b5, b6, b7, b8, b9, b10, b11, b12, b13, b14, b15] [z0, z1, z2, z3, z4, z5, z6, z7, z8, z9, z10, z11, z12, z13, z14, z15, z16, z17, z18, z19, z20, z21, z22, z23, z24, z25, z26, z27, z28, z29, z30, z31] 0 2 0 x := by
 intro hv ho hn
 have m0 := m0_of hv
 have hx := hx_of ho
 have ho' : opMayL [0, 2, 0, x] = true := ho
 simp at hn

 rcases Bool.eq_false_or_eq_true (!allMay [z0, z1, z2, z3, z4, z5, z6, z7, z8, z9, z10, z11, z12, z13, z14, z15, z16, z17, z18, z19, z20, z21, z22, z23, z24, z25, z26, z27, z28, z29, z30, z31]) with h0 | h0
 · exact ff (by (simp [hv, ho'] at *; done))
 ·
  rcases Bool.eq_false_or_eq_true (!opMayL [(0 : Int), (2 : Int), (0 : Int), x]) with h1 | h1
  · exact ff (by (simp [hv, ho'] at *; done))
  ·
   rcases Bool.eq_false_or_eq_true (!b2) with h2 | h2
   · exact ff (by (simp_all; done))
   ·
    rcases Bool.eq_false_or_eq_true (decide (z18 > (0 : Int))) with h3 | h3
    ·
     refine vcIntro [false, false, false, true] (an (an h3 (an h2 (an h1 (an h0 tt)))) (an (an (an tt (an (rb b0) (an (rb b1) (an (rb b2) (an (rb b3) (an (rb b4) (an (rb b5) (an (rb b6) (an (rb b7) (an (rb b8) (an (rb b9) (an (rb b10) (an (rb b11) (an (rb b12) (an (rb b13) (an (rb b14) (an (rb b15) (an (ri z0) (an (ri z1) (an (ri z2) (an (ri z3) (an (ri z4) (an (ri z5) (an (ri z6) (an (ri z7) (an (ri z8) (an (ri z9) (an (ri z10) (an (ri z11) (an (ri z12) (an (ri z13) (an (ri z14) (an (ri z15) (an (show bkNow z16 z17 z18 z19 (0 : Int) (2 : Int) (0 : Int) x (0 : Int) = z16 by (simp; done)) (an (show bkNow z16 z17 z18 z19 (0 : Int) (2 : Int) (0 : Int) x (1 : Int) = z17 by (simp; done)) (an (show bkNow z16 z17 z18 z19 (0 : Int) (2 : Int) (0 : Int) x (2 : Int) = z18 by (simp at * <;> (repeat' split) <;> omega)) (an (show bkNow z16 z17 z18 z19 (0 : Int) (2 : Int) (0 : Int) x (3 : Int) = z19 by (simp; done)) (an (ri z20) (an (ri z21) (an (ri z22) (an (ri z23) (an (ri z24) (an (ri z25) (an (ri z26) (an (ri z27) (an (ri z28) (an (ri z29) (an (ri z30) (an (ri z31) (an tt (an tt tt))))))))))))))))))))))))))))))))))))))))))))))))))) tt) (an (an (@Eq.refl (Nat) ((0 : Nat))) (an (show ∀ (k : Nat), k < (0 : Nat) → (0 : Int) = (0 : Int) from fun _ _ => rfl) (an (show bkCode z16 z17 z18 z19 (0 : Int) (2 : Int) (0 : Int) x = (1 : Int) by (simp at * <;> simp [*] <;> done)) (show bkNum z16 z17 z18 z19 (0 : Int) (2 : Int) (0 : Int) x = (0 : Int) by (simp at * <;> (repeat' split) <;> omega))))) tt))) ?_
     kernel_rfl
    ·
     refine vcIntro [false, false, false, false] (an (an h3 (an h2 (an h1 (an h0 tt)))) (an (an (an tt (an (rb b0) (an (rb b1) (an (rb b2) (an (rb b3) (an (rb b4) (an (rb b5) (an (rb b6) (an (rb b7) (an (rb b8) (an (rb b9) (an (rb b10) (an (rb b11) (an (rb b12) (an (rb b13) (an (rb b14) (an (rb b15) (an (ri z0) (an (ri z1) (an (ri z2) (an (ri z3) (an (ri z4) (an (ri z5) (an (ri z6) (an (ri z7) (an (ri z8) (an (ri z9) (an (ri z10) (an (ri z11) (an (ri z12) (an (ri z13) (an (ri z14) (an (ri z15) (an (show bkNow z16 z17 z18 z19 (0 : Int) (2 : Int) (0 : Int) x (0 : Int) = z16 by (simp; done)) (an (show bkNow z16 z17 z18 z19 (0 : Int) (2 : Int) (0 : Int) x (1 : Int) = z17 by (simp; done)) (an (show bkNow z16 z17 z18 z19 (0 : Int) (2 : Int) (0 : Int) x (2 : Int) = IntKind.i64.wrap (x + (1 : Int)) by (simp (disch := omega) only [wrapk] at *; simp at * <;> (repeat' split) <;> omega)) (an (show bkNow z16 z17 z18 z19 (0 : Int) (2 : Int) (0 : Int) x (3 : Int) = z19 by (simp; done)) (an (ri z20) (an (ri z21) (an (ri z22) (an (ri z23) (an (ri z24) (an (ri z25) (an (ri z26) (an (ri z27) (an (ri z28) (an (ri z29) (an (ri z30) (an (ri z31) (an tt (an tt tt))))))))))))))))))))))))))))))))))))))))))))))))))) tt) (an (an (@Eq.refl (Nat) ((0 : Nat))) (an (show ∀ (k : Nat), k < (0 : Nat) → (0 : Int) = (0 : Int) from fun _ _ => rfl) (an (show bkCode z16 z17 z18 z19 (0 : Int) (2 : Int) (0 : Int) x = (0 : Int) by (simp at * <;> simp [*] <;> done)) (show bkNum z16 z17 z18 z19 (0 : Int) (2 : Int) (0 : Int) x = x by (simp at * <;> (repeat' split) <;> omega))))) tt))) ?_
     kernel_rfl

theorem nbk_030 : NeedRun 21 [b0, b1, b2, b3, b4, b5, b6, b7, b8, b9, b10, b11, b12, b13, b14, b15] [z0, z1, z2, z3, z4, z5, z6, z7, z8, z9, z10, z11, z12, z13, z14, z15, z16, z17, z18, z19, z20, z21, z22, z23, z24, z25, z26, z27, z28, z29, z30, z31] 0 3 0 x := by
 intro hv ho hn
 have m0 := m0_of hv
 have hx := hx_of ho
 have ho' : opMayL [0, 3, 0, x] = true := ho
 simp at hn

 rcases Bool.eq_false_or_eq_true (!allMay [z0, z1, z2, z3, z4, z5, z6, z7, z8, z9, z10, z11, z12, z13, z14, z15, z16, z17, z18, z19, z20, z21, z22, z23, z24, z25, z26, z27, z28, z29, z30, z31]) with h0 | h0
 · exact ff (by (simp [hv, ho'] at *; done))
 ·
  rcases Bool.eq_false_or_eq_true (!opMayL [(0 : Int), (3 : Int), (0 : Int), x]) with h1 | h1
  · exact ff (by (simp [hv, ho'] at *; done))
  ·
   rcases Bool.eq_false_or_eq_true (!b3) with h2 | h2
   ·
    refine vcIntro [false, false, true] (an (an h2 (an h1 (an h0 tt))) (an (an (an (show bkD [b0, b1, b2, b3, b4, b5, b6, b7, b8, b9, b10, b11, b12, b13, b14, b15] (0 : Int) (3 : Int) (0 : Int) = (3 : Int) by (simp at * <;> simp [*] <;> done)) (an (rb b0) (an (rb b1) (an (rb b2) (an (rb b3) (an (rb b4) (an (rb b5) (an (rb b6) (an (rb b7) (an (rb b8) (an (rb b9) (an (rb b10) (an (rb b11) (an (rb b12) (an (rb b13) (an (rb b14) (an (rb b15) (an (ri z0) (an (ri z1) (an (ri z2) (an (ri z3) (an (ri z4) (an (ri z5) (an (ri z6) (an (ri z7) (an (ri z8) (an (ri z9) (an (ri z10) (an (ri z11) (an (ri z12) (an (ri z13) (an (ri z14) (an (ri z15) (an (ri z16) (an (ri z17) (an (ri z18) (an (ri z19) (an (ri z20) (an (ri z21) (an (ri z22) (an (ri z23) (an (ri z24) (an (ri z25) (an (ri z26) (an (ri z27) (an (ri z28) (an (ri z29) (an (ri z30) (an (ri z31) tt))))))))))))))))))))))))))))))))))))))))))))))))) tt) tt)) ?_
    kernel_rfl
   · exact ff (by (simp_all; done))

theorem dbk_030 : DoneRun 21 [b0, b1, b2, b3, b4, b5, b6, b7, b8, b9, b10, b11, b12, b13, b14, b15] [z0, z1, z2, z3, z4, z5, z6, z7, z8, z9, z10, z11, z12, z13, z14, z15, z16, z17, z18, z19, z20, z21, z22, z23, z24, z25, z26, z27, z28, z29, z30, z31] 0 3 0 x := by
 intro hv ho hn
 have m0 := m0_of hv
 have hx := hx_of ho
 have ho' : opMayL [0, 3, 0, x] = true := ho
 simp at hn

 rcases Bool.eq_false_or_eq_true (!allMay [z0, z1, z2, z3, z4, z5, z6, z7, z8, z9, z10, z11, z12, z13, z14, z15, z16, z17, z18, z19, z20, z21, z22, z23, z24, z25, z26, z27, z28, z29, z30, z31]) with h0 | h0
 · exact ff (by (simp [hv, ho'] at *; done))
 ·
  rcases Bool.eq_false_or_eq_true (!opMayL [(0 : Int), (3 : Int), (0 : Int), x]) with h1 | h1
  · exact ff (by (simp [hv, ho'] at *; done))
  ·
   rcases Bool.eq_false_or_eq_true (!b3) with h2 | h2
   · exact ff (by (simp_all; done))
   ·
    rcases Bool.eq_false_or_eq_true (decide (z19 > (0 : Int))) with h3 | h3
    ·
     refine vcIntro [false, false, false, true] (an (an h3 (an h2 (an h1 (an h0 tt)))) (an (an (an tt (an (rb b0) (an (rb b1) (an (rb b2) (an (rb b3) (an (rb b4) (an (rb b5) (an (rb b6) (an (rb b7) (an (rb b8) (an (rb b9) (an (rb b10) (an (rb b11) (an (rb b12) (an (rb b13) (an (rb b14) (an (rb b15) (an (ri z0) (an (ri z1) (an (ri z2) (an (ri z3) (an (ri z4) (an (ri z5) (an (ri z6) (an (ri z7) (an (ri z8) (an (ri z9) (an (ri z10) (an (ri z11) (an (ri z12) (an (ri z13) (an (ri z14) (an (ri z15) (an (show bkNow z16 z17 z18 z19 (0 : Int) (3 : Int) (0 : Int) x (0 : Int) = z16 by (simp; done)) (an (show bkNow z16 z17 z18 z19 (0 : Int) (3 : Int) (0 : Int) x (1 : Int) = z17 by (simp; done)) (an (show bkNow z16 z17 z18 z19 (0 : Int) (3 : Int) (0 : Int) x (2 : Int) = z18 by (simp; done)) (an (show bkNow z16 z17 z18 z19 (0 : Int) (3 : Int) (0 : Int) x (3 : Int) = z19 by (simp at * <;> (repeat' split) <;> omega)) (an (ri z20) (an (ri z21) (an (ri z22) (an (ri z23) (an (ri z24) (an (ri z25) (an (ri z26) (an (ri z27) (an (ri z28) (an (ri z29) (an (ri z30) (an (ri z31) (an tt (an tt tt))))))))))))))))))))))))))))))))))))))))))))))))))) tt) (an (an (@Eq.refl (Nat) ((0 : Nat))) (an (show ∀ (k : Nat), k < (0 : Nat) → (0 : Int) = (0 : Int) from fun _ _ => rfl) (an (show bkCode z16 z17 z18 z19 (0 : Int) (3 : Int) (0 : Int) x = (1 : Int) by (simp at * <;> simp [*] <;> done)) (show bkNum z16 z17 z18 z19 (0 : Int) (3 : Int) (0 : Int) x = (0 : Int) by (simp at * <;> (repeat' split) <;> omega))))) tt))) ?_
     kernel_rfl
    ·
     refine vcIntro [false, false, false, false] (an (an h3 (an h2 (an h1 (an h0 tt)))) (an (an (an tt (an (rb b0) (an (rb b1) (an (rb b2) (an (rb b3) (an (rb b4) (an (rb b5) (an (rb b6) (an (rb b7) (an (rb b8) (an (rb b9) (an (rb b10) (an (rb b11) (an (rb b12) (an (rb b13) (an (rb b14) (an (rb b15) (an (ri z0) (an (ri z1) (an (ri z2) (an (ri z3) (an (ri z4) (an (ri z5) (an (ri z6) (an (ri z7) (an (ri z8) (an (ri z9) (an (ri z10) (an (ri z11) (an (ri z12) (an (ri z13) (an (ri z14) (an (ri z15) (an (show bkNow z16 z17 z18 z19 (0 : Int) (3 : Int) (0 : Int) x (0 : Int) = z16 by (simp; done)) (an (show bkNow z16 z17 z18 z19 (0 : Int) (3 : Int) (0 : Int) x (1 : Int) = z17 by (simp; done)) (an (show bkNow z16 z17 z18 z19 (0 : Int) (3 : Int) (0 : Int) x (2 : Int) = z18 by (simp; done)) (an (show bkNow z16 z17 z18 z19 (0 : Int) (3 : Int) (0 : Int) x (3 : Int) = IntKind.i64.wrap (x + (1 : Int)) by (simp (disch := omega) only [wrapk] at *; simp at * <;> (repeat' split) <;> omega)) (an (ri z20) (an (ri z21) (an (ri z22) (an (ri z23) (an (ri z24) (an (ri z25) (an (ri z26) (an (ri z27) (an (ri z28) (an (ri z29) (an (ri z30) (an (ri z31) (an tt (an tt tt))))))))))))))))))))))))))))))))))))))))))))))))))) tt) (an (an (@Eq.refl (Nat) ((0 : Nat))) (an (show ∀ (k : Nat), k < (0 : Nat) → (0 : Int) = (0 : Int) from fun _ _ => rfl) (an (show bkCode z16 z17 z18 z19 (0 : Int) (3 : Int) (0 : Int) x = (0 : Int) by (simp at * <;> simp [*] <;> done)) (show bkNum z16 z17 z18 z19 (0 : Int) (3 : Int) (0 : Int) x = x by (simp at * <;> (repeat' split) <;> omega))))) tt))) ?_
     kernel_rfl

theorem nbk_100 : NeedRun 21 [b0, b1, b2, b3, b4, b5, b6, b7, b8, b9, b10, b11, b12, b13, b14, b15] [z0, z1, z2, z3, z4, z5, z6, z7, z8, z9, z10, z11, z12, z13, z14, z15, z16, z17, z18, z19, z20, z21, z22, z23, z24, z25, z26, z27, z28, z29, z30, z31] 1 0 0 x := by
 intro hv ho hn
 have m0 := m0_of hv
 have hx := hx_of ho
 have ho' : opMayL [1, 0, 0, x] = true := ho
 simp at hn

 rcases Bool.eq_false_or_eq_true (!allMay [z0, z1, z2, z3, z4, z5, z6, z7, z8, z9, z10, z11, z12, z13, z14, z15, z16, z17, z18, z19, z20, z21, z22, z23, z24, z25, z26, z27, z28, z29, z30, z31]) with h0 | h0
 · exact ff (by (simp [hv, ho'] at *; done))
 ·
  rcases Bool.eq_false_or_eq_true (!opMayL [(1 : Int), (0 : Int), (0 : Int), x]) with h1 | h1
  · exact ff (by (simp [hv, ho'] at *; done))
  ·
   rcases Bool.eq_false_or_eq_true (!b0) with h2 | h2
   ·
    refine vcIntro [false, false, true] (an (an h2 (an h1 (an h0 tt))) (an (an (an (show bkD [b0, b1, b2, b3, b4, b5, b6, b7, b8, b9, b10, b11, b12, b13, b14, b15] (1 : Int) (0 : Int) (0 : Int) = (0 : Int) by (simp at * <;> simp [*] <;> done)) (an (rb b0) (an (rb b1) (an (rb b2) (an (rb b3) (an (rb b4) (an (rb b5) (an (rb b6) (an (rb b7) (an (rb b8) (an (rb b9) (an (rb b10) (an (rb b11) (an (rb b12) (an (rb b13) (an (rb b14) (an (rb b15) (an (ri z0) (an (ri z1) (an (ri z2) (an (ri z3) (an (ri z4) (an (ri z5) (an (ri z6) (an (ri z7) (an (ri z8) (an (ri z9) (an (ri z10) (an (ri z11) (an (ri z12) (an (ri z13) (an (ri z14) (an (ri z15) (an (ri z16) (an (ri z17) (an (ri z18) (an (ri z19) (an (ri z20) (an (ri z21) (an (ri z22) (an (ri z23) (an (ri z24) (an (ri z25) (an (ri z26) (an (ri z27) (an (ri z28) (an (ri z29) (an (ri z30) (an (ri z31) tt))))))))))))))))))))))))))))))))))))))))))))))))) tt) tt)) ?_
    kernel_rfl
   · exact ff (by (simp_all; done))

theorem dbk_100 : DoneRun 21 [b0, b1, b2, b3, b4, b5, b6, b7, b8, b9, b10, b11, b12, b13, b14, b15] [z0, z1, z2, z3, z4, z5, z6, z7, z8, z9, z10, z11, z12, z13, z14, z15, z16, z17, z18, z19, z20, z21, z22, z23, z24, z25, z26, z27, z28, z29, z30, z31] 1 0 0 x := by
 intro hv ho hn
 have m0 := m0_of hv
 have hx := hx_of ho
 have ho' : opMayL [1, 0, 0, x] = true := ho
 simp at hn

 rcases Bool.eq_false_or_eq_true (!allMay [z0, z1, z2, z3, z4, z5, z6, z7, z8, z9, z10, z11, z12, z13, z14, z15, z16, z17, z18, z19, z20, z21, z22, z23, z24, z25, z26, z27, z28, z29, z30, z31]) with h0 | h0
 · exact ff (by (simp [hv, ho'] at *; done))
 ·
  rcases Bool.eq_false_or_eq_true (!opMayL [(1 : Int), (0 : Int), (0 : Int), x]) with h1 | h1
  · exact ff (by (simp [hv, ho'] at *; done))
  ·
   rcases Bool.eq_false_or_eq_true (!b0) with h2 | h2
   · exact ff (by (simp_all; done))
   ·
    rcases Bool.eq_false_or_eq_true (!decide (z16 > (0 : Int))) with h3 | h3
    ·
     refine vcIntro [false, false, false, true] (an (an h3 (an h2 (an h1 (an h0 tt)))) (an (an (an tt (an (rb b0) (an (rb b1) (an (rb b2) (an (rb b3) (an (rb b4) (an (rb b5) (an (rb b6) (an (rb b7) (an (rb b8) (an (rb b9) (an (rb b10) (an (rb b11) (an (rb b12) (an (rb b13) (an (rb b14) (an (rb b15) (an (ri z0) (an (ri z1) (an (ri z2) (an (ri z3) (an (ri z4) (an (ri z5) (an (ri z6) (an (ri z7) (an (ri z8) (an (ri z9) (an (ri z10) (an (ri z11) (an (ri z12) (an (ri z13) (an (ri z14) (an (ri z15) (an (show bkNow z16 z17 z18 z19 (1 : Int) (0 : Int) (0 : Int) x (0 : Int) = z16 by (simp at * <;> (repeat' split) <;> omega)) (an (show bkNow z16 z17 z18 z19 (1 : Int) (0 : Int) (0 : Int) x (1 : Int) = z17 by (simp; done)) (an (show bkNow z16 z17 z18 z19 (1 : Int) (0 : Int) (0 : Int) x (2 : Int) = z18 by (simp; done)) (an (show bkNow z16 z17 z18 z19 (1 : Int) (0 : Int) (0 : Int) x (3 : Int) = z19 by (simp; done)) (an (ri z20) (an (ri z21) (an (ri z22) (an (ri z23) (an (ri z24) (an (ri z25) (an (ri z26) (an (ri z27) (an (ri z28) (an (ri z29) (an (ri z30) (an (ri z31) (an tt (an tt tt))))))))))))))))))))))))))))))))))))))))))))))))))) tt) (an (an (@Eq.refl (Nat) ((0 : Nat))) (an (show ∀ (k : Nat), k < (0 : Nat) → (0 : Int) = (0 : Int) from fun _ _ => rfl) (an (show bkCode z16 z17 z18 z19 (1 : Int) (0 : Int) (0 : Int) x = (2 : Int) by (simp at * <;> simp [*] <;> done)) (show bkNum z16 z17 z18 z19 (1 : Int) (0 : Int) (0 : Int) x = (0 : Int) by (simp at * <;> (repeat' split) <;> omega))))) tt))) ?_
     kernel_rfl
    ·
     refine vcIntro [false, false, false, false] (an (an h3 (an h2 (an h1 (an h0 tt)))) (an (an (an tt (an (rb b0) (an (rb b1) (an (rb b2) (an (rb b3) (an (rb b4) (an (rb b5) (an (rb b6) (an (rb b7) (an (rb b8) (an (rb b9) (an (rb b10) (an (rb b11) (an (rb b12) (an (rb b13) (an (rb b14) (an (rb b15) (an (ri z0) (an (ri z1) (an (ri z2) (an (ri z3) (an (ri z4) (an (ri z5) (an (ri z6) (an (ri z7) (an (ri z8) (an (ri z9) (an (ri z10) (an (ri z11) (an (ri z12) (an (ri z13) (an (ri z14) (an (ri z15) (an (show bkNow z16 z17 z18 z19 (1 : Int) (0 : Int) (0 : Int) x (0 : Int) = (0 : Int) by (simp at * <;> (repeat' split) <;> omega)) (an (show bkNow z16 z17 z18 z19 (1 : Int) (0 : Int) (0 : Int) x (1 : Int) = z17 by (simp; done)) (an (show bkNow z16 z17 z18 z19 (1 : Int) (0 : Int) (0 : Int) x (2 : Int) = z18 by (simp; done)) (an (show bkNow z16 z17 z18 z19 (1 : Int) (0 : Int) (0 : Int) x (3 : Int) = z19 by (simp; done)) (an (ri z20) (an (ri z21) (an (ri z22) (an (ri z23) (an (ri z24) (an (ri z25) (an (ri z26) (an (ri z27) (an (ri z28) (an (ri z29) (an (ri z30) (an (ri z31) (an tt (an tt tt))))))))))))))))))))))))))))))))))))))))))))))))))) tt) (an (an (@Eq.refl (Nat) ((0 : Nat))) (an (show ∀ (k : Nat), k < (0 : Nat) → (0 : Int) = (0 : Int) from fun _ _ => rfl) (an (show bkCode z16 z17 z18 z19 (1 : Int) (0 : Int) (0 : Int) x = (0 : Int) by (simp at * <;> simp [*] <;> done)) (show bkNum z16 z17 z18 z19 (1 : Int) (0 : Int) (0 : Int) x = IntKind.i64.wrap (z16 - (1 : Int)) by (simp (disch := omega) only [wrapk] at *; simp at * <;> (repeat' split) <;> omega))))) tt))) ?_
     kernel_rfl

theorem nbk_110 : NeedRun 21 [b0, b1, b2, b3, b4, b5, b6, b7, b8, b9, b10, b11, b12, b13, b14, b15] [z0, z1, z2, z3, z4, z5, z6, z7, z8, z9, z10, z11, z12, z13, z14, z15, z16, z17, z18, z19, z20, z21, z22, z23, z24, z25, z26, z27, z28, z29, z30, z31] 1 1 0 x := by
 intro hv ho hn
 have m0 := m0_of hv
 have hx := hx_of ho
 have ho' : opMayL [1, 1, 0, x] = true := ho
 simp at hn

 rcases Bool.eq_false_or_eq_true (!allMay [z0, z1, z2, z3, z4, z5, z6, z7, z8, z9, z10, z11, z12, z13, z14, z15, z16, z17, z18, z19, z20, z21, z22, z23, z24, z25, z26, z27, z28, z29, z30, z31]) with h0 | h0
 · exact ff (by (simp [hv, ho'] at *; done))
 ·
  rcases Bool.eq_false_or_eq_true (!opMayL [(1 : Int), (1 : Int), (0 : Int), x]) with h1 | h1
  · exact ff (by (simp [hv, ho'] at *; done))
  ·
   rcases Bool.eq_false_or_eq_true (!b1) with h2 | h2
   ·
    refine vcIntro [false, false, true] (an (an h2 (an h1 (an h0 tt))) (an (an (an (show bkD [b0, b1, b2, b3, b4, b5, b6, b7, b8, b9, b10, b11, b12, b13, b14, b15] (1 : Int) (1 : Int) (0 : Int) = (1 : Int) by (simp at * <;> simp [*] <;> done)) (an (rb b0) (an (rb b1) (an (rb b2) (an (rb b3) (an (rb b4) (an (rb b5) (an (rb b6) (an (rb b7) (an (rb b8) (an (rb b9) (an (rb b10) (an (rb b11) (an (rb b12) (an (rb b13) (an (rb b14) (an (rb b15) (an (ri z0) (an (ri z1) (an (ri z2) (an (ri z3) (an (ri z4) (an (ri z5) (an (ri z6) (an (ri z7) (an (ri z8) (an (ri z9) (an (ri z10) (an (ri z11) (an (ri z12) (an (ri z13) (an (ri z14) (an (ri z15) (an (ri z16) (an (ri z17) (an (ri z18) (an (ri z19) (an (ri z20) (an (ri z21) (an (ri z22) (an (ri z23) (an (ri z24) (an (ri z25) (an (ri z26) (an (ri z27) (an (ri z28) (an (ri z29) (an (ri z30) (an (ri z31) tt))))))))))))))))))))))))))))))))))))))))))))))))) tt) tt)) ?_
    kernel_rfl
   · exact ff (by (simp_all; done))

theorem dbk_110 : DoneRun 21 [b0, b1, b2, b3, b4, b5, b6, b7, b8, b9, b10, b11, b12, b13, b14, b15] [z0, z1, z2, z3, z4, z5, z6, z7, z8, z9, z10, z11, z12, z13, z14, z15, z16, z17, z18, z19, z20, z21, z22, z23, z24, z25, z26, z27, z28, z29, z30, z31] 1 1 0 x := by
 intro hv ho hn
 have m0 := m0_of hv
 have hx := hx_of ho
 have ho' : opMayL [1, 1, 0, x] = true := ho
 simp at hn

 rcases Bool.eq_false_or_eq_true (!allMay [z0, z1, z2, z3, z4, z5, z6, z7, z8, z9, z10, z11, z12, z13, z14, z15, z16, z17, z18, z19, z20, z21, z22, z23, z24, z25, z26, z27, z28, z29, z30, z31]) with h0 | h0
 · exact ff (by (simp [hv, ho'] at *; done))
 ·
  rcases Bool.eq_false_or_eq_true (!opMayL [(1 : Int), (1 : Int), (0 : Int), x]) with h1 | h1
  · exact ff (by (simp [hv, ho'] at *; done))
  ·
   rcases Bool.eq_false_or_eq_true (!b1) with h2 | h2
   · exact ff (by (simp_all; done))
   ·
    rcases Bool.eq_false_or_eq_true (!decide (z17 > (0 : Int))) with h3 | h3
    ·
     refine vcIntro [false, false, false, true] (an (an h3 (an h2 (an h1 (an h0 tt)))) (an (an (an tt (an (rb b0) (an (rb b1) (an (rb b2) (an (rb b3) (an (rb b4) (an (rb b5) (an (rb b6) (an (rb b7) (an (rb b8) (an (rb b9) (an (rb b10) (an (rb b11) (an (rb b12) (an (rb b13) (an (rb b14) (an (rb b15) (an (ri z0) (an (ri z1) (an (ri z2) (an (ri z3) (an (ri z4) (an (ri z5) (an (ri z6) (an (ri z7) (an (ri z8) (an (ri z9) (an (ri z10) (an (ri z11) (an (ri z12) (an (ri z13) (an (ri z14) (an (ri z15) (an (show bkNow z16 z17 z18 z19 (1 : Int) (1 : Int) (0 : Int) x (0 : Int) = z16 by (simp; done)) (an (show bkNow z16 z17 z18 z19 (1 : Int) (1 : Int) (0 : Int) x (1 : Int) = z17 by (simp at * <;> (repeat' split) <;> omega)) (an (show bkNow z16 z17 z18 z19 (1 : Int) (1 : Int) (0 : Int) x (2 : Int) = z18 by (simp; done)) (an (show bkNow z16 z17 z18 z19 (1 : Int) (1 : Int) (0 : Int) x (3 : Int) = z19 by (simp; done)) (an (ri z20) (an (ri z21) (an (ri z22) (an (ri z23) (an (ri z24) (an (ri z25) (an (ri z26) (an (ri z27) (an (ri z28) (an (ri z29) (an (ri z30) (an (ri z31) (an tt (an tt tt))))))))))))))))))))))))))))))))))))))))))))))))))) tt) (an (an (@Eq.refl (Nat) ((0 : Nat))) (an (show ∀ (k : Nat), k < (0 : Nat) → (0 : Int) = (0 : Int) from fun _ _ => rfl) (an (show bkCode z16 z17 z18 z19 (1 : Int) (1 : Int) (0 : Int) x = (2 : Int) by (simp at * <;> simp [*] <;> done)) (show bkNum z16 z17 z18 z19 (1 : Int) (1 : Int) (0 : Int) x = (0 : Int) by (simp at * <;> (repeat' split) <;> omega))))) tt))) ?_
     kernel_rfl
    ·
     refine vcIntro [false, false, false, false] (an (an h3 (an h2 (an h1 (an h0 tt)))) (an (an (an tt (an (rb b0) (an (rb b1) (an (rb b2) (an (rb b3) (an (rb b4) (an (rb b5) (an (rb b6) (an (rb b7) (an (rb b8) (an (rb b9) (an (rb b10) (an (rb b11) (an (rb b12) (an (rb b13) (an (rb b14) (an (rb b15) (an (ri z0) (an (ri z1) (an (ri z2) (an (ri z3) (an (ri z4) (an (ri z5) (an (ri z6) (an (ri z7) (an (ri z8) (an (ri z9) (an (ri z10) (an (ri z11) (an (ri z12) (an (ri z13) (an (ri z14) (an (ri z15) (an (show bkNow z16 z17 z18 z19 (1 : Int) (1 : Int) (0 : Int) x (0 : Int) = z16 by (simp; done)) (an (show bkNow z16 z17 z18 z19 (1 : Int) (1 : Int) (0 : Int) x (1 : Int) = (0 : Int) by (simp at * <;> (repeat' split) <;> omega)) (an (show bkNow z16 z17 z18 z19 (1 : Int) (1 : Int) (0 : Int) x (2 : Int) = z18 by (simp; done)) (an (show bkNow z16 z17 z18 z19 (1 : Int) (1 : Int) (0 : Int) x (3 : Int) = z19 by (simp; done)) (an (ri z20) (an (ri z21) (an (ri z22) (an (ri z23) (an (ri z24) (an (ri z25) (an (ri z26) (an (ri z27) (an (ri z28) (an (ri z29) (an (ri z30) (an (ri z31) (an tt (an tt tt))))))))))))))))))))))))))))))))))))))))))))))))))) tt) (an (an (@Eq.refl (Nat) ((0 : Nat))) (an (show ∀ (k : Nat), k < (0 : Nat) → (0 : Int) = (0 : Int) from fun _ _ => rfl) (an (show bkCode z16 z17 z18 z19 (1 : Int) (1 : Int) (0 : Int) x = (0 : Int) by (simp at * <;> simp [*] <;> done)) (show bkNum z16 z17 z18 z19 (1 : Int) (1 : Int) (0 : Int) x = IntKind.i64.wrap (z17 - (1 : Int)) by (simp (disch := omega) only [wrapk] at *; simp at * <;> (repeat' split) <;> omega))))) tt))) ?_
     kernel_rfl

theorem nbk_120 : NeedRun 21 [b0, b1, b2, b3, b4, b5, b6, b7, b8, b9, b10, b11, b12, b13, b14, b15] [z0, z1, z2, z3, z4, z5, z6, z7, z8, z9, z10, z11, z12, z13, z14, z15, z16, z17, z18, z19, z20, z21, z22, z23, z24, z25, z26, z27, z28, z29, z30, z31] 1 2 0 x := by
 intro hv ho hn
 have m0 := m0_of hv
 have hx := hx_of ho
 have ho' : opMayL [1, 2, 0, x] = true := ho
 simp at hn

 rcases Bool.eq_false_or_eq_true (!allMay [z0, z1, z2, z3, z4, z5, z6, z7, z8, z9, z10, z11, z12, z13, z14, z15, z16, z17, z18, z19, z20, z21, z22, z23, z24, z25, z26, z27, z28, z29, z30, z31]) with h0 | h0
 · exact ff (by (simp [hv, ho'] at *; done))
 ·
  rcases Bool.eq_false_or_eq_true (!opMayL [(1 : Int), (2 : Int), (0 : Int), x]) with h1 | h1
  · exact ff (by (simp [hv, ho'] at *; done))
  ·
   rcases Bool.eq_false_or_eq_true (!b2) with h2 | h2
   ·
    refine vcIntro [false, false, true] (an (an h2 (an h1 (an h0 tt))) (an (an (an (show bkD [b0, b1, b2, b3, b4, b5, b6, b7, b8, b9, b10, b11, b12, b13, b14, b15] (1 : Int) (2 : Int) (0 : Int) = (2 : Int) by (simp at * <;> simp [*] <;> done)) (an (rb b0) (an (rb b1) (an (rb b2) (an (rb b3) (an (rb b4) (an (rb b5) (an (rb b6) (an (rb b7) (an (rb b8) (an (rb b9) (an (rb b10) (an (rb b11) (an (rb b12) (an (rb b13) (an (rb b14) (an (rb b15) (an (ri z0) (an (ri z1) (an (ri z2) (an (ri z3) (an (ri z4) (an (ri z5) (an (ri z6) (an (ri z7) (an (ri z8) (an (ri z9) (an (ri z10) (an (ri z11) (an (ri z12) (an (ri z13) (an (ri z14) (an (ri z15) (an (ri z16) (an (ri z17) (an (ri z18) (an (ri z19) (an (ri z20) (an (ri z21) (an (ri z22) (an (ri z23) (an (ri z24) (an (ri z25) (an (ri z26) (an (ri z27) (an (ri z28) (an (ri z29) (an (ri z30) (an (ri z31) tt))))))))))))))))))))))))))))))))))))))))))))))))) tt) tt)) ?_
    kernel_rfl
   · exact ff (by (simp_all; done))

theorem dbk_120 : DoneRun 21 [b0, b1, b2, b3, b4, b5, b6, b7, b8, b9, b10, b11, b12, b13, b14, b15] [z0, z1, z2, z3, z4, z5, z6, z7, z8, z9, z10, z11, z12, z13, z14, z15, z16, z17, z18, z19, z20, z21, z22, z23, z24, z25, z26, z27, z28, z29, z30, z31] 1 2 0 x := by
 intro hv ho hn
 have m0 := m0_of hv
 have hx := hx_of ho
 have ho' : opMayL [1, 2, 0, x] = true := ho
 simp at hn

 rcases Bool.eq_false_or_eq_true (!allMay [z0, z1, z2, z3, z4, z5, z6, z7, z8, z9, z10, z11, z12, z13, z14, z15, z16, z17, z18, z19, z20, z21, z22, z23, z24, z25, z26, z27, z28, z29, z30, z31]) with h0 | h0
 · exact ff (by (simp [hv, ho'] at *; done))
 ·
  rcases Bool.eq_false_or_eq_true (!opMayL [(1 : Int), (2 : Int), (0 : Int), x]) with h1 | h1
  · exact ff (by (simp [hv, ho'] at *; done))
  ·
   rcases Bool.eq_false_or_eq_true (!b2) with h2 | h2
   · exact ff (by (simp_all; done))
   ·
    rcases Bool.eq_false_or_eq_true (!decide (z18 > (0 : Int))) with h3 | h3
    ·
     refine vcIntro [false, false, false, true] (an (an h3 (an h2 (an h1 (an h0 tt)))) (an (an (an tt (an (rb b0) (an (rb b1) (an (rb b2) (an (rb b3) (an (rb b4) (an (rb b5) (an (rb b6) (an (rb b7) (an (rb b8) (an (rb b9) (an (rb b10) (an (rb b11) (an (rb b12) (an (rb b13) (an (rb b14) (an (rb b15) (an (ri z0) (an (ri z1) (an (ri z2) (an (ri z3) (an (ri z4) (an (ri z5) (an (ri z6) (an (ri z7) (an (ri z8) (an (ri z9) (an (ri z10) (an (ri z11) (an (ri z12) (an (ri z13) (an (ri z14) (an (ri z15) (an (show bkNow z16 z17 z18 z19 (1 : Int) (2 : Int) (0 : Int) x (0 : Int) = z16 by (simp; done)) (an (show bkNow z16 z17 z18 z19 (1 : Int) (2 : Int) (0 : Int) x (1 : Int) = z17 by (simp; done)) (an (show bkNow z16 z17 z18 z19 (1 : Int) (2 : Int) (0 : Int) x (2 : Int) = z18 by (simp at * <;> (repeat' split) <;> omega)) (an (show bkNow z16 z17 z18 z19 (1 : Int) (2 : Int) (0 : Int) x (3 : Int) = z19 by (simp; done)) (an (ri z20) (an (ri z21) (an (ri z22) (an (ri z23) (an (ri z24) (an (ri z25) (an (ri z26) (an (ri z27) (an (ri z28) (an (ri z29) (an (ri z30) (an (ri z31) (an tt (an tt tt))))))))))))))))))))))))))))))))))))))))))))))))))) tt) (an (an (@Eq.refl (Nat) ((0 : Nat))) (an (show ∀ (k : Nat), k < (0 : Nat) → (0 : Int) = (0 : Int) from fun _ _ => rfl) (an (show bkCode z16 z17 z18 z19 (1 : Int) (2 : Int) (0 : Int) x = (2 : Int) by (simp at * <;> simp [*] <;> done)) (show bkNum z16 z17 z18 z19 (1 : Int) (2 : Int) (0 : Int) x = (0 : Int) by (simp at * <;> (repeat' split) <;> omega))))) tt))) ?_
     kernel_rfl
    ·
     refine vcIntro [false, false, false, false] (an (an h3 (an h2 (an h1 (an h0 tt)))) (an (an (an tt (an (rb b0) (an (rb b1) (an (rb b2) (an (rb b3) (an (rb b4) (an (rb b5) (an (rb b6) (an (rb b7) (an (rb b8) (an (rb b9) (an (rb b10) (an (rb b11) (an (rb b12) (an (rb b13) (an (rb b14) (an (rb b15) (an (ri z0) (an (ri z1) (an (ri z2) (an (ri z3) (an (ri z4) (an (ri z5) (an (ri z6) (an (ri z7) (an (ri z8) (an (ri z9) (an (ri z10) (an (ri z11) (an (ri z12) (an (ri z13) (an (ri z14) (an (ri z15) (an (show bkNow z16 z17 z18 z19 (1 : Int) (2 : Int) (0 : Int) x (0 : Int) = z16 by (simp; done)) (an (show bkNow z16 z17 z18 z19 (1 : Int) (2 : Int) (0 : Int) x (1 : Int) = z17 by (simp; done)) (an (show bkNow z16 z17 z18 z19 (1 : Int) (2 : Int) (0 : Int) x (2 : Int) = (0 : Int) by (simp at * <;> (repeat' split) <;> omega)) (an (show bkNow z16 z17 z18 z19 (1 : Int) (2 : Int) (0 : Int) x (3 : Int) = z19 by (simp; done)) (an (ri z20) (an (ri z21) (an (ri z22) (an (ri z23) (an (ri z24) (an (ri z25) (an (ri z26) (an (ri z27) (an (ri z28) (an (ri z29) (an (ri z30) (an (ri z31) (an tt (an tt tt))))))))))))))))))))))))))))))))))))))))))))))))))) tt) (an (an (@Eq.refl (Nat) ((0 : Nat))) (an (show ∀ (k : Nat), k < (0 : Nat) → (0 : Int) = (0 : Int) from fun _ _ => rfl) (an (show bkCode z16 z17 z18 z19 (1 : Int) (2 : Int) (0 : Int) x = (0 : Int) by (simp at * <;> simp [*] <;> done)) (show bkNum z16 z17 z18 z19 (1 : Int) (2 : Int) (0 : Int) x = IntKind.i64.wrap (z18 - (1 : Int)) by (simp (disch := omega) only [wrapk] at *; simp at * <;> (repeat' split) <;> omega))))) tt))) ?_
     kernel_rfl

theorem nbk_130 : NeedRun 21 [b0, b1, b2, b3, b4, b5, b6, b7, b8, b9, b10, b11, b12, b13, b14, b15] [z0, z1, z2, z3, z4, z5, z6, z7, z8, z9, z10, z11, z12, z13, z14, z15, z16, z17, z18, z19, z20, z21, z22, z23, z24, z25, z26, z27, z28, z29, z30, z31] 1 3 0 x := by
 intro hv ho hn
 have m0 := m0_of hv
 have hx := hx_of ho
 have ho' : opMayL [1, 3, 0, x] = true := ho
 simp at hn

 rcases Bool.eq_false_or_eq_true (!allMay [z0, z1, z2, z3, z4, z5, z6, z7, z8, z9, z10, z11, z12, z13, z14, z15, z16, z17, z18, z19, z20, z21, z22, z23, z24, z25, z26, z27, z28, z29, z30, z31]) with h0 | h0
 · exact ff (by (simp [hv, ho'] at *; done))
 ·
  rcases Bool.eq_false_or_eq_true (!opMayL [(1 : Int), (3 : Int), (0 : Int), x]) with h1 | h1
  · exact ff (by (simp [hv, ho'] at *; done))
  ·
   rcases Bool.eq_false_or_eq_true (!b3) with h2 | h2
   ·
    refine vcIntro [false, false, true] (an (an h2 (an h1 (an h0 tt))) (an (an (an (show bkD [b0, b1, b2, b3, b4, b5, b6, b7, b8, b9, b10, b11, b12, b13, b14, b15] (1 : Int) (3 : Int) (0 : Int) = (3 : Int) by (simp at * <;> simp [*] <;> done)) (an (rb b0) (an (rb b1) (an (rb b2) (an (rb b3) (an (rb b4) (an (rb b5) (an (rb b6) (an (rb b7) (an (rb b8) (an (rb b9) (an (rb b10) (an (rb b11) (an (rb b12) (an (rb b13) (an (rb b14) (an (rb b15) (an (ri z0) (an (ri z1) (an (ri z2) (an (ri z3) (an (ri z4) (an (ri z5) (an (ri z6) (an (ri z7) (an (ri z8) (an (ri z9) (an (ri z10) (an (ri z11) (an (ri z12) (an (ri z13) (an (ri z14) (an (ri z15) (an (ri z16) (an (ri z17) (an (ri z18) (an (ri z19) (an (ri z20) (an (ri z21) (an (ri z22) (an (ri z23) (an (ri z24) (an (ri z25) (an (ri z26) (an (ri z27) (an (ri z28) (an (ri z29) (an (ri z30) (an (ri z31) tt))))))))))))))))))))))))))))))))))))))))))))))))) tt) tt)) ?_
    kernel_rfl
   · exact ff (by (simp_all; done))

theorem dbk_130 : DoneRun 21 [b0, b1, b2, b3, b4, b5, b6, b7, b8, b9, b10, b11, b12, b13, b14, b15] [z0, z1, z2, z3, z4, z5, z6, z7, z8, z9, z10, z11, z12, z13, z14, z15, z16, z17, z18, z19, z20, z21, z22, z23, z24, z25, z26, z27, z28, z29, z30, z31] 1 3 0 x := by
 intro hv ho hn
 have m0 := m0_of hv
 have hx := hx_of ho
 have ho' : opMayL [1, 3, 0, x] = true := ho
 simp at hn

 rcases Bool.eq_false_or_eq_true (!allMay [z0, z1, z2, z3, z4, z5, z6, z7, z8, z9, z10, z11, z12, z13, z14, z15, z16, z17, z18, z19, z20, z21, z22, z23, z24, z25, z26, z27, z28, z29, z30, z31]) with h0 | h0
 · exact ff (by (simp [hv, ho'] at *; done))
 ·
  rcases Bool.eq_false_or_eq_true (!opMayL [(1 : Int), (3 : Int), (0 : Int), x]) with h1 | h1
  · exact ff (by (simp [hv, ho'] at *; done))
  ·
   rcases Bool.eq_false_or_eq_true (!b3) with h2 | h2
   · exact ff (by (simp_all; done))
   ·
    rcases Bool.eq_false_or_eq_true (!decide (z19 > (0 : Int))) with h3 | h3
    ·
     refine vcIntro [false, false, false, true] (an (an h3 (an h2 (an h1 (an h0 tt)))) (an (an (an tt (an (rb b0) (an (rb b1) (an (rb b2) (an (rb b3) (an (rb b4) (an (rb b5) (an (rb b6) (an (rb b7) (an (rb b8) (an (rb b9) (an (rb b10) (an (rb b11) (an (rb b12) (an (rb b13) (an (rb b14) (an (rb b15) (an (ri z0) (an (ri z1) (an (ri z2) (an (ri z3) (an (ri z4) (an (ri z5) (an (ri z6) (an (ri z7) (an (ri z8) (an (ri z9) (an (ri z10) (an (ri z11) (an (ri z12) (an (ri z13) (an (ri z14) (an (ri z15) (an (show bkNow z16 z17 z18 z19 (1 : Int) (3 : Int) (0 : Int) x (0 : Int) = z16 by (simp; done)) (an (show bkNow z16 z17 z18 z19 (1 : Int) (3 : Int) (0 : Int) x (1 : Int) = z17 by (simp; done)) (an (show bkNow z16 z17 z18 z19 (1 : Int) (3 : Int) (0 : Int) x (2 : Int) = z18 by (simp; done)) (an (show bkNow z16 z17 z18 z19 (1 : Int) (3 : Int) (0 : Int) x (3 : Int) = z19 by (simp at * <;> (repeat' split) <;> omega)) (an (ri z20) (an (ri z21) (an (ri z22) (an (ri z23) (an (ri z24) (an (ri z25) (an (ri z26) (an (ri z27) (an (ri z28) (an (ri z29) (an (ri z30) (an (ri z31) (an tt (an tt tt))))))))))))))))))))))))))))))))))))))))))))))))))) tt) (an (an (@Eq.refl (Nat) ((0 : Nat))) (an (show ∀ (k : Nat), k < (0 : Nat) → (0 : Int) = (0 : Int) from fun _ _ => rfl) (an (show bkCode z16 z17 z18 z19 (1 : Int) (3 : Int) (0 : Int) x = (2 : Int) by (simp at * <;> simp [*] <;> done)) (show bkNum z16 z17 z18 z19 (1 : Int) (3 : Int) (0 : Int) x = (0 : Int) by (simp at * <;> (repeat' split) <;> omega))))) tt))) ?_
     kernel_rfl
    ·
     refine vcIntro [false, false, false, false] (an (an h3 (an h2 (an h1 (an h0 tt)))) (an (an (an tt (an (rb b0) (an (rb b1) (an (rb b2) (an (rb b3) (an (rb b4) (an (rb b5) (an (rb b6) (an (rb b7) (an (rb b8) (an (rb b9) (an (rb b10) (an (rb b11) (an (rb b12) (an (rb b13) (an (rb b14) (an (rb b15) (an (ri z0) (an (ri z1) (an (ri z2) (an (ri z3) (an (ri z4) (an (ri z5) (an (ri z6) (an (ri z7) (an (ri z8) (an (ri z9) (an (ri z10) (an (ri z11) (an (ri z12) (an (ri z13) (an (ri z14) (an (ri z15) (an (show bkNow z16 z17 z18 z19 (1 : Int) (3 : Int) (0 : Int) x (0 : Int) = z16 by (simp; done)) (an (show bkNow z16 z17 z18 z19 (1 : Int) (3 : Int) (0 : Int) x (1 : Int) = z17 by (simp; done)) (an (show bkNow z16 z17 z18 z19 (1 : Int) (3 : Int) (0 : Int) x (2 : Int) = z18 by (simp; done)) (an (show bkNow z16 z17 z18 z19 (1 : Int) (3 : Int) (0 : Int) x (3 : Int) = (0 : Int) by (simp at * <;> (repeat' split) <;> omega)) (an (ri z20) (an (ri z21) (an (ri z22) (an (ri z23) (an (ri z24) (an (ri z25) (an (ri z26) (an (ri z27) (an (ri z28) (an (ri z29) (an (ri z30) (an (ri z31) (an tt (an tt tt))))))))))))))))))))))))))))))))))))))))))))))))))) tt) (an (an (@Eq.refl (Nat) ((0 : Nat))) (an (show ∀ (k : Nat), k < (0 : Nat) → (0 : Int) = (0 : Int) from fun _ _ => rfl) (an (show bkCode z16 z17 z18 z19 (1 : Int) (3 : Int) (0 : Int) x = (0 : Int) by (simp at * <;> simp [*] <;> done)) (show bkNum z16 z17 z18 z19 (1 : Int) (3 : Int) (0 : Int) x = IntKind.i64.wrap (z19 - (1 : Int)) by (simp (disch := omega) only [wrapk] at *; simp at * <;> (repeat' split) <;> omega))))) tt))) ?_
     kernel_rfl

theorem nbk_200 : NeedRun 21 [b0, b1, b2, b3, b4, b5, b6, b7, b8, b9, b10, b11, b12, b13, b14, b15] [z0, z1, z2, z3, z4, z5, z6, z7, z8, z9, z10, z11, z12, z13, z14, z15, z16, z17, z18, z19, z20, z21, z22, z23, z24, z25, z26, z27, z28, z29, z30, z31] 2 0 0 x := by
 intro hv ho hn
 have m0 := m0_of hv
 have hx := hx_of ho
 have ho' : opMayL [2, 0, 0, x] = true := ho
 simp at hn

 rcases Bool.eq_false_or_eq_true (!allMay [z0, z1, z2, z3, z4, z5, z6, z7, z8, z9, z10, z11, z12, z13, z14, z15, z16, z17, z18, z19, z20, z21, z22, z23, z24, z25, z26, z27, z28, z29, z30, z31]) with h0 | h0
 · exact ff (by (simp [hv, ho'] at *; done))
 ·
  rcases Bool.eq_false_or_eq_true (!opMayL [(2 : Int), (0 : Int), (0 : Int), x]) with h1 | h1
  · exact ff (by (simp [hv, ho'] at *; done))
  ·
   rcases Bool.eq_false_or_eq_true (!b0) with h2 | h2
   ·
    refine vcIntro [false, false, true] (an (an h2 (an h1 (an h0 tt))) (an (an (an (show bkD [b0, b1, b2, b3, b4, b5, b6, b7, b8, b9, b10, b11, b12, b13, b14, b15] (2 : Int) (0 : Int) (0 : Int) = (0 : Int) by (simp at * <;> simp [*] <;> done)) (an (rb b0) (an (rb b1) (an (rb b2) (an (rb b3) (an (rb b4) (an (rb b5) (an (rb b6) (an (rb b7) (an (rb b8) (an (rb b9) (an (rb b10) (an (rb b11) (an (rb b12) (an (rb b13) (an (rb b14) (an (rb b15) (an (ri z0) (an (ri z1) (an (ri z2) (an (ri z3) (an (ri z4) (an (ri z5) (an (ri z6) (an (ri z7) (an (ri z8) (an (ri z9) (an (ri z10) (an (ri z11) (an (ri z12) (an (ri z13) (an (ri z14) (an (ri z15) (an (ri z16) (an (ri z17) (an (ri z18) (an (ri z19) (an (ri z20) (an (ri z21) (an (ri z22) (an (ri z23) (an (ri z24) (an (ri z25) (an (ri z26) (an (ri z27) (an (ri z28) (an (ri z29) (an (ri z30) (an (ri z31) tt))))))))))))))))))))))))))))))))))))))))))))))))) tt) tt)) ?_
    kernel_rfl
   · exact ff (by (simp_all; done))

theorem dbk_200 : DoneRun 21 [b0, b1, b2, b3, b4, b5, b6, b7, b8, b9, b10, b11, b12, b13, b14, b15] [z0, z1, z2, z3, z4, z5, z6, z7, z8, z9, z10, z11, z12, z13, z14, z15, z16, z17, z18, z19, z20, z21, z22, z23, z24, z25, z26, z27, z28, z29, z30, z31] 2 0 0 x := by
 intro hv ho hn
 have m0 := m0_of hv
 have hx := hx_of ho
 have ho' : opMayL [2, 0, 0, x] = true := ho
 simp at hn

 rcases Bool.eq_false_or_eq_true (!allMay [z0, z1, z2, z3, z4, z5, z6, z7, z8, z9, z10, z11, z12, z13, z14, z15, z16, z17, z18, z19, z20, z21, z22, z23, z24, z25, z26, z27, z28, z29, z30, z31]) with h0 | h0
 · exact ff (by (simp [hv, ho'] at *; done))
 ·
  rcases Bool.eq_false_or_eq_true (!opMayL [(2 : Int), (0 : Int), (0 : Int), x]) with h1 | h1
  · exact ff (by (simp [hv, ho'] at *; done))
  ·
   rcases Bool.eq_false_or_eq_true (!b0) with h2 | h2
   · exact ff (by (simp_all; done))
   ·
    rcases Bool.eq_false_or_eq_true (!decide (z16 > (0 : Int))) with h3 | h3
    ·
     refine vcIntro [false, false, false, true] (an (an h3 (an h2 (an h1 (an h0 tt)))) (an (an (an tt (an (rb b0) (an (rb b1) (an (rb b2) (an (rb b3) (an (rb b4) (an (rb b5) (an (rb b6) (an (rb b7) (an (rb b8) (an (rb b9) (an (rb b10) (an (rb b11) (an (rb b12) (an (rb b13) (an (rb b14) (an (rb b15) (an (ri z0) (an (ri z1) (an (ri z2) (an (ri z3) (an (ri z4) (an (ri z5) (an (ri z6) (an (ri z7) (an (ri z8) (an (ri z9) (an (ri z10) (an (ri z11) (an (ri z12) (an (ri z13) (an (ri z14) (an (ri z15) (an (show bkNow z16 z17 z18 z19 (2 : Int) (0 : Int) (0 : Int) x (0 : Int) = z16 by (simp at * <;> (repeat' split) <;> omega)) (an (show bkNow z16 z17 z18 z19 (2 : Int) (0 : Int) (0 : Int) x (1 : Int) = z17 by (simp; done)) (an (show bkNow z16 z17 z18 z19 (2 : Int) (0 : Int) (0 : Int) x (2 : Int) = z18 by (simp; done)) (an (show bkNow z16 z17 z18 z19 (2 : Int) (0 : Int) (0 : Int) x (3 : Int) = z19 by (simp; done)) (an (ri z20) (an (ri z21) (an (ri z22) (an (ri z23) (an (ri z24) (an (ri z25) (an (ri z26) (an (ri z27) (an (ri z28) (an (ri z29) (an (ri z30) (an (ri z31) (an tt (an tt tt))))))))))))))))))))))))))))))))))))))))))))))))))) tt) (an (an (@Eq.refl (Nat) ((0 : Nat))) (an (show ∀ (k : Nat), k < (0 : Nat) → (0 : Int) = (0 : Int) from fun _ _ => rfl) (an (show bkCode z16 z17 z18 z19 (2 : Int) (0 : Int) (0 : Int) x = (2 : Int) by (simp at * <;> (repeat' split) <;> omega)) (show bkNum z16 z17 z18 z19 (2 : Int) (0 : Int) (0 : Int) x = (0 : Int) by (simp at * <;> (repeat' split) <;> omega))))) tt))) ?_
     kernel_rfl
    ·
     rcases Bool.eq_false_or_eq_true (decide (IntKind.i64.wrap (z16 - (1 : Int)) > IntKind.i64.wrap ((1048575 : Int) - x))) with h4 | h4
     ·
      refine vcIntro [false, false, false, false, true] (an (an h4 (an h3 (an h2 (an h1 (an h0 tt))))) (an (an (an tt (an (rb b0) (an (rb b1) (an (rb b2) (an (rb b3) (an (rb b4) (an (rb b5) (an (rb b6) (an (rb b7) (an (rb b8) (an (rb b9) (an (rb b10) (an (rb b11) (an (rb b12) (an (rb b13) (an (rb b14) (an (rb b15) (an (ri z0) (an (ri z1) (an (ri z2) (an (ri z3) (an (ri z4) (an (ri z5) (an (ri z6) (an (ri z7) (an (ri z8) (an (ri z9) (an (ri z10) (an (ri z11) (an (ri z12) (an (ri z13) (an (ri z14) (an (ri z15) (an (show bkNow z16 z17 z18 z19 (2 : Int) (0 : Int) (0 : Int) x (0 : Int) = z16 by (simp (disch := omega) only [wrapk] at *; simp at * <;> (repeat' split) <;> omega)) (an (show bkNow z16 z17 z18 z19 (2 : Int) (0 : Int) (0 : Int) x (1 : Int) = z17 by (simp; done)) (an (show bkNow z16 z17 z18 z19 (2 : Int) (0 : Int) (0 : Int) x (2 : Int) = z18 by (simp; done)) (an (show bkNow z16 z17 z18 z19 (2 : Int) (0 : Int) (0 : Int) x (3 : Int) = z19 by (simp; done)) (an (ri z20) (an (ri z21) (an (ri z22) (an (ri z23) (an (ri z24) (an (ri z25) (an (ri z26) (an (ri z27) (an (ri z28) (an (ri z29) (an (ri z30) (an (ri z31) (an tt (an tt tt))))))))))))))))))))))))))))))))))))))))))))))))))) tt) (an (an (@Eq.refl (Nat) ((0 : Nat))) (an (show ∀ (k : Nat), k < (0 : Nat) → (0 : Int) = (0 : Int) from fun _ _ => rfl) (an (show bkCode z16 z17 z18 z19 (2 : Int) (0 : Int) (0 : Int) x = (4 : Int) by (simp (disch := omega) only [wrapk] at *; simp at * <;> (repeat' split) <;> omega)) (show bkNum z16 z17 z18 z19 (2 : Int) (0 : Int) (0 : Int) x = (0 : Int) by (simp (disch := omega) only [wrapk] at *; simp at * <;> (repeat' split) <;> omega))))) tt))) ?_
      kernel_rfl
     ·
      refine vcIntro [false, false, false, false, false] (an (an h4 (an h3 (an h2 (an h1 (an h0 tt))))) (an (an (an tt (an (rb b0) (an (rb b1) (an (rb b2) (an (rb b3) (an (rb b4) (an (rb b5) (an (rb b6) (an (rb b7) (an (rb b8) (an (rb b9) (an (rb b10) (an (rb b11) (an (rb b12) (an (rb b13) (an (rb b14) (an (rb b15) (an (ri z0) (an (ri z1) (an (ri z2) (an (ri z3) (an (ri z4) (an (ri z5) (an (ri z6) (an (ri z7) (an (ri z8) (an (ri z9) (an (ri z10) (an (ri z11) (an (ri z12) (an (ri z13) (an (ri z14) (an (ri z15) (an (show bkNow z16 z17 z18 z19 (2 : Int) (0 : Int) (0 : Int) x (0 : Int) = IntKind.i64.wrap (IntKind.i64.wrap (IntKind.i64.wrap (z16 - (1 : Int)) + x) + (1 : Int)) by (simp (disch := omega) only [wrapk] at *; simp at * <;> (repeat' split) <;> omega)) (an (show bkNow z16 z17 z18 z19 (2 : Int) (0 : Int) (0 : Int) x (1 : Int) = z17 by (simp; done)) (an (show bkNow z16 z17 z18 z19 (2 : Int) (0 : Int) (0 : Int) x (2 : Int) = z18 by (simp; done)) (an (show bkNow z16 z17 z18 z19 (2 : Int) (0 : Int) (0 : Int) x (3 : Int) = z19 by (simp; done)) (an (ri z20) (an (ri z21) (an (ri z22) (an (ri z23) (an (ri z24) (an (ri z25) (an (ri z26) (an (ri z27) (an (ri z28) (an (ri z29) (an (ri z30) (an (ri z31) (an tt (an tt tt))))))))))))))))))))))))))))))))))))))))))))))))))) tt) (an (an (@Eq.refl (Nat) ((0 : Nat))) (an (show ∀ (k : Nat), k < (0 : Nat) → (0 : Int) = (0 : Int) from fun _ _ => rfl) (an (show bkCode z16 z17 z18 z19 (2 : Int) (0 : Int) (0 : Int) x = (0 : Int) by (simp (disch := omega) only [wrapk] at *; simp at * <;> (repeat' split) <;> omega)) (show bkNum z16 z17 z18 z19 (2 : Int) (0 : Int) (0 : Int) x = IntKind.i64.wrap (IntKind.i64.wrap (z16 - (1 : Int)) + x) by (simp (disch := omega) only [wrapk] at *; simp at * <;> (repeat' split) <;> omega))))) tt))) ?_
      kernel_rfl

theorem nbk_210 : NeedRun 21 [b0, b1, b2, b3, b4, b5, b6, b7, b8, b9, b10, b11, b12, b13, b14, b15] [z0, z1, z2, z3, z4, z5, z6, z7, z8, z9, z10, z11, z12, z13, z14, z15, z16, z17, z18, z19, z20, z21, z22, z23, z24, z25, z26, z27, z28, z29, z30, z31] 2 1 0 x := by
 intro hv ho hn
 have m0 := m0_of hv
 have hx := hx_of ho
 have ho' : opMayL [2, 1, 0, x] = true := ho
 simp at hn

 rcases Bool.eq_false_or_eq_true (!allMay [z0, z1, z2, z3, z4, z5, z6, z7, z8, z9, z10, z11, z12, z13, z14, z15, z16, z17, z18, z19, z20, z21, z22, z23, z24, z25, z26, z27, z28, z29, z30, z31]) with h0 | h0
 · exact ff (by (simp [hv, ho'] at *; done))
 ·
  rcases Bool.eq_false_or_eq_true (!opMayL [(2 : Int), (1 : Int), (0 : Int), x]) with h1 | h1
  · exact ff (by (simp [hv, ho'] at *; done))
  ·
   rcases Bool.eq_false_or_eq_true (!b1) with h2 | h2
   ·
    refine vcIntro [false, false, true] (an (an h2 (an h1 (an h0 tt))) (an (an (an (show bkD [b0, b1, b2, b3, b4, b5, b6, b7, b8, b9, b10, b11, b12, b13, b14, b15] (2 : Int) (1 : Int) (0 : Int) = (1 : Int) by (simp at * <;> simp [*] <;> done)) (an (rb b0) (an (rb b1) (an (rb b2) (an (rb b3) (an (rb b4) (an (rb b5) (an (rb b6) (an (rb b7) (an (rb b8) (an (rb b9) (an (rb b10) (an (rb b11) (an (rb b12) (an (rb b13) (an (rb b14) (an (rb b15) (an (ri z0) (an (ri z1) (an (ri z2) (an (ri z3) (an (ri z4) (an (ri z5) (an (ri z6) (an (ri z7) (an (ri z8) (an (ri z9) (an (ri z10) (an (ri z11) (an (ri z12) (an (ri z13) (an (ri z14) (an (ri z15) (an (ri z16) (an (ri z17) (an (ri z18) (an (ri z19) (an (ri z20) (an (ri z21) (an (ri z22) (an (ri z23) (an (ri z24) (an (ri z25) (an (ri z26) (an (ri z27) (an (ri z28) (an (ri z29) (an (ri z30) (an (ri z31) tt))))))))))))))))))))))))))))))))))))))))))))))))) tt) tt)) ?_
    kernel_rfl
   · exact ff (by (simp_all; done))

theorem dbk_210 : DoneRun 21 [b0, b1, b2, b3, b4, b5, b6, b7, b8, b9, b10, b11, b12, b13, b14, b15] [z0, z1, z2, z3, z4, z5, z6, z7, z8, z9, z10, z11, z12, z13, z14, z15, z16, z17, z18, z19, z20, z21, z22, z23, z24, z25, z26, z27, z28, z29, z30, z31] 2 1 0 x := by
 intro hv ho hn
 have m0 := m0_of hv
 have hx := hx_of ho
 have ho' : opMayL [2, 1, 0, x] = true := ho
 simp at hn

 rcases Bool.eq_false_or_eq_true (!allMay [z0, z1, z2, z3, z4, z5, z6, z7, z8, z9, z10, z11, z12, z13, z14, z15, z16, z17, z18, z19, z20, z21, z22, z23, z24, z25, z26, z27, z28, z29, z30, z31]) with h0 | h0
 · exact ff (by (simp [hv, ho'] at *; done))
 ·
  rcases Bool.eq_false_or_eq_true (!opMayL [(2 : Int), (1 : Int), (0 : Int), x]) with h1 | h1
  · exact ff (by (simp [hv, ho'] at *; done))
  ·
   rcases Bool.eq_false_or_eq_true (!b1) with h2 | h2
   · exact ff (by (simp_all; done))
   ·
    rcases Bool.eq_false_or_eq_true (!decide (z17 > (0 : Int))) with h3 | h3
    ·
     refine vcIntro [false, false, false, true] (an (an h3 (an h2 (an h1 (an h0 tt)))) (an (an (an tt (an (rb b0) (an (rb b1) (an (rb b2) (an (rb b3) (an (rb b4) (an (rb b5) (an (rb b6) (an (rb b7) (an (rb b8) (an (rb b9) (an (rb b10) (an (rb b11) (an (rb b12) (an (rb b13) (an (rb b14) (an (rb b15) (an (ri z0) (an (ri z1) (an (ri z2) (an (ri z3) (an (ri z4) (an (ri z5) (an (ri z6) (an (ri z7) (an (ri z8) (an (ri z9) (an (ri z10) (an (ri z11) (an (ri z12) (an (ri z13) (an (ri z14) (an (ri z15) (an (show bkNow z16 z17 z18 z19 (2 : Int) (1 : Int) (0 : Int) x (0 : Int) = z16 by (simp; done)) (an (show bkNow z16 z17 z18 z19 (2 : Int) (1 : Int) (0 : Int) x (1 : Int) = z17 by (simp at * <;> (repeat' split) <;> omega)) (an (show bkNow z16 z17 z18 z19 (2 : Int) (1 : Int) (0 : Int) x (2 : Int) = z18 by (simp; done)) (an (show bkNow z16 z17 z18 z19 (2 : Int) (1 : Int) (0 : Int) x (3 : Int) = z19 by (simp; done)) (an (ri z20) (an (ri z21) (an (ri z22) (an (ri z23) (an (ri z24) (an (ri z25) (an (ri z26) (an (ri z27) (an (ri z28) (an (ri z29) (an (ri z30) (an (ri z31) (an tt (an tt tt))))))))))))))))))))))))))))))))))))))))))))))))))) tt) (an (an (@Eq.refl (Nat) ((0 : Nat))) (an (show ∀ (k : Nat), k < (0 : Nat) → (0 : Int) = (0 : Int) from fun _ _ => rfl) (an (show bkCode z16 z17 z18 z19 (2 : Int) (1 : Int) (0 : Int) x = (2 : Int) by (simp at * <;> (repeat' split) <;> omega)) (show bkNum z16 z17 z18 z19 (2 : Int) (1 : Int) (0 : Int) x = (0 : Int) by (simp at * <;> (repeat' split) <;> omega))))) tt))) ?_
     kernel_rfl
    ·
     rcases Bool.eq_false_or_eq_true (decide (IntKind.i64.wrap (z17 - (1 : Int)) > IntKind.i64.wrap ((1048575 : Int) - x))) with h4 | h4
     ·
      refine vcIntro [false, false, false, false, true] (an (an h4 (an h3 (an h2 (an h1 (an h0 tt))))) (an (an (an tt (an (rb b0) (an (rb b1) (an (rb b2) (an (rb b3) (an (rb b4) (an (rb b5) (an (rb b6) (an (rb b7) (an (rb b8) (an (rb b9) (an (rb b10) (an (rb b11) (an (rb b12) (an (rb b13) (an (rb b14) (an (rb b15) (an (ri z0) (an (ri z1) (an (ri z2) (an (ri z3) (an (ri z4) (an (ri z5) (an (ri z6) (an (ri z7) (an (ri z8) (an (ri z9) (an (ri z10) (an (ri z11) (an (ri z12) (an (ri z13) (an (ri z14) (an (ri z15) (an (show bkNow z16 z17 z18 z19 (2 : Int) (1 : Int) (0 : Int) x (0 : Int) = z16 by (simp; done)) (an (show bkNow z16 z17 z18 z19 (2 : Int) (1 : Int) (0 : Int) x (1 : Int) = z17 by (simp (disch := omega) only [wrapk] at *; simp at * <;> (repeat' split) <;> omega)) (an (show bkNow z16 z17 z18 z19 (2 : Int) (1 : Int) (0 : Int) x (2 : Int) = z18 by (simp; done)) (an (show bkNow z16 z17 z18 z19 (2 : Int) (1 : Int) (0 : Int) x (3 : Int) = z19 by (simp; done)) (an (ri z20) (an (ri z21) (an (ri z22) (an (ri z23) (an (ri z24) (an (ri z25) (an (ri z26) (an (ri z27) (an (ri z28) (an (ri z29) (an (ri z30) (an (ri z31) (an tt (an tt tt))))))))))))))))))))))))))))))))))))))))))))))))))) tt) (an (an (@Eq.refl (Nat) ((0 : Nat))) (an (show ∀ (k : Nat), k < (0 : Nat) → (0 : Int) = (0 : Int) from fun _ _ => rfl) (an (show bkCode z16 z17 z18 z19 (2 : Int) (1 : Int) (0 : Int) x = (4 : Int) by (simp (disch := omega) only [wrapk] at *; simp at * <;> (repeat' split) <;> omega)) (show bkNum z16 z17 z18 z19 (2 : Int) (1 : Int) (0 : Int) x = (0 : Int) by (simp (disch := omega) only [wrapk] at *; simp at * <;> (repeat' split) <;> omega))))) tt))) ?_
      kernel_rfl
     ·
      refine vcIntro [false, false, false, false, false] (an (an h4 (an h3 (an h2 (an h1 (an h0 tt))))) (an (an (an tt (an (rb b0) (an (rb b1) (an (rb b2) (an (rb b3) (an (rb b4) (an (rb b5) (an (rb b6) (an (rb b7) (an (rb b8) (an (rb b9) (an (rb b10) (an (rb b11) (an (rb b12) (an (rb b13) (an (rb b14) (an (rb b15) (an (ri z0) (an (ri z1) (an (ri z2) (an (ri z3) (an (ri z4) (an (ri z5) (an (ri z6) (an (ri z7) (an (ri z8) (an (ri z9) (an (ri z10) (an (ri z11) (an (ri z12) (an (ri z13) (an (ri z14) (an (ri z15) (an (show bkNow z16 z17 z18 z19 (2 : Int) (1 : Int) (0 : Int) x (0 : Int) = z16 by (simp; done)) (an (show bkNow z16 z17 z18 z19 (2 : Int) (1 : Int) (0 : Int) x (1 : Int) = IntKind.i64.wrap (IntKind.i64.wrap (IntKind.i64.wrap (z17 - (1 : Int)) + x) + (1 : Int)) by (simp (disch := omega) only [wrapk] at *; simp at * <;> (repeat' split) <;> omega)) (an (show bkNow z16 z17 z18 z19 (2 : Int) (1 : Int) (0 : Int) x (2 : Int) = z18 by (simp; done)) (an (show bkNow z16 z17 z18 z19 (2 : Int) (1 : Int) (0 : Int) x (3 : Int) = z19 by (simp; done)) (an (ri z20) (an (ri z21) (an (ri z22) (an (ri z23) (an (ri z24) (an (ri z25) (an (ri z26) (an (ri z27) (an (ri z28) (an (ri z29) (an (ri z30) (an (ri z31) (an tt (an tt tt))))))))))))))))))))))))))))))))))))))))))))))))))) tt) (an (an (@Eq.refl (Nat) ((0 : Nat))) (an (show ∀ (k : Nat), k < (0 : Nat) → (0 : Int) = (0 : Int) from fun _ _ => rfl) (an (show bkCode z16 z17 z18 z19 (2 : Int) (1 : Int) (0 : Int) x = (0 : Int) by (simp (disch := omega) only [wrapk] at *; simp at * <;> (repeat' split) <;> omega)) (show bkNum z16 z17 z18 z19 (2 : Int) (1 : Int) (0 : Int) x = IntKind.i64.wrap (IntKind.i64.wrap (z17 - (1 : Int)) + x) by (simp (disch := omega) only [wrapk] at *; simp at * <;> (repeat' split) <;> omega))))) tt))) ?_
      kernel_rfl

theorem nbk_220 : NeedRun 21 [b0, b1, b2, b3, b4, b5, b6, b7, b8, b9, b10, b11, b12, b13, b14, b15] [z0, z1, z2, z3, z4, z5, z6, z7, z8, z9, z10, z11, z12, z13, z14, z15, z16, z17, z18, z19, z20, z21, z22, z23, z24, z25, z26, z27, z28, z29, z30, z31] 2 2 0 x := by
 intro hv ho hn
 have m0 := m0_of hv
 have hx := hx_of ho
 have ho' : opMayL [2, 2, 0, x] = true := ho
 simp at hn

 rcases Bool.eq_false_or_eq_true (!allMay [z0, z1, z2, z3, z4, z5, z6, z7, z8, z9, z10, z11, z12, z13, z14, z15, z16, z17, z18, z19, z20, z21, z22, z23, z24, z25, z26, z27, z28, z29, z30, z31]) with h0 | h0
 · exact ff (by (simp [hv, ho'] at *; done))
 ·
  rcases Bool.eq_false_or_eq_true (!opMayL [(2 : Int), (2 : Int), (0 : Int), x]) with h1 | h1
  · exact ff (by (simp [hv, ho'] at *; done))
  ·
   rcases Bool.eq_false_or_eq_true (!b2) with h2 | h2
   ·
    refine vcIntro [false, false, true] (an (an h2 (an h1 (an h0 tt))) (an (an (an (show bkD [b0, b1, b2, b3, b4, b5, b6, b7, b8, b9, b10, b11, b12, b13, b14, b15] (2 : Int) (2 : Int) (0 : Int) = (2 : Int) by (simp at * <;> simp [*] <;> done)) (an (rb b0) (an (rb b1) (an (rb b2) (an (rb b3) (an (rb b4) (an (rb b5) (an (rb b6) (an (rb b7) (an (rb b8) (an (rb b9) (an (rb b10) (an (rb b11) (an (rb b12) (an (rb b13) (an (rb b14) (an (rb b15) (an (ri z0) (an (ri z1) (an (ri z2) (an (ri z3) (an (ri z4) (an (ri z5) (an (ri z6) (an (ri z7) (an (ri z8) (an (ri z9) (an (ri z10) (an (ri z11) (an (ri z12) (an (ri z13) (an (ri z14) (an (ri z15) (an (ri z16) (an (ri z17) (an (ri z18) (an (ri z19) (an (ri z20) (an (ri z21) (an (ri z22) (an (ri z23) (an (ri z24) (an (ri z25) (an (ri z26) (an (ri z27) (an (ri z28) (an (ri z29) (an (ri z30) (an (ri z31) tt))))))))))))))))))))))))))))))))))))))))))))))))) tt) tt)) ?_
    kernel_rfl
   · exact ff (by (simp_all; done))

theorem dbk_220 : DoneRun 21 [b0, b1, b2, b3, b4, b5, b6, b7, b8, b9, b10, b11, b12, b13, b14, b15] [z0, z1, z2, z3, z4, z5, z6, z7, z8, z9, z10, z11, z12, z13, z14, z15, z16, z17, z18, z19, z20, z21, z22, z23, z24, z25, z26, z27, z28, z29, z30, z31] 2 2 0 x := by
 intro hv ho hn
 have m0 := m0_of hv
 have hx := hx_of ho
 have ho' : opMayL [2, 2, 0, x] = true := ho
 simp at hn

 rcases Bool.eq_false_or_eq_true (!allMay [z0, z1, z2, z3, z4, z5, z6, z7, z8, z9, z10, z11, z12, z13, z14, z15, z16, z17, z18, z19, z20, z21, z22, z23, z24, z25, z26, z27, z28, z29, z30, z31]) with h0 | h0
 · exact ff (by (simp [hv, ho'] at *; done))
 ·
  rcases Bool.eq_false_or_eq_true (!opMayL [(2 : Int), (2 : Int), (0 : Int), x]) with h1 | h1
  · exact ff (by (simp [hv, ho'] at *; done))
  ·
   rcases Bool.eq_false_or_eq_true (!b2) with h2 | h2
   · exact ff (by (simp_all; done))
   ·
    rcases Bool.eq_false_or_eq_true (!decide (z18 > (0 : Int))) with h3 | h3
    ·
     refine vcIntro [false, false, false, true] (an (an h3 (an h2 (an h1 (an h0 tt)))) (an (an (an tt (an (rb b0) (an (rb b1) (an (rb b2) (an (rb b3) (an (rb b4) (an (rb b5) (an (rb b6) (an (rb b7) (an (rb b8) (an (rb b9) (an (rb b10) (an (rb b11) (an (rb b12) (an (rb b13) (an (rb b14) (an (rb b15) (an (ri z0) (an (ri z1) (an (ri z2) (an (ri z3) (an (ri z4) (an (ri z5) (an (ri z6) (an (ri z7) (an (ri z8) (an (ri z9) (an (ri z10) (an (ri z11) (an (ri z12) (an (ri z13) (an (ri z14) (an (ri z15) (an (show bkNow z16 z17 z18 z19 (2 : Int) (2 : Int) (0 : Int) x (0 : Int) = z16 by (simp; done)) (an (show bkNow z16 z17 z18 z19 (2 : Int) (2 : Int) (0 : Int) x (1 : Int) = z17 by (simp; done)) (an (show bkNow z16 z17 z18 z19 (2 : Int) (2 : Int) (0 : Int) x (2 : Int) = z18 by (simp at * <;> (repeat' split) <;> omega)) (an (show bkNow z16 z17 z18 z19 (2 : Int) (2 : Int) (0 : Int) x (3 : Int) = z19 by (simp; done)) (an (ri z20) (an (ri z21) (an (ri z22) (an (ri z23) (an (ri z24) (an (ri z25) (an (ri z26) (an (ri z27) (an (ri z28) (an (ri z29) (an (ri z30) (an (ri z31) (an tt (an tt tt))))))))))))))))))))))))))))))))))))))))))))))))))) tt) (an (an (@Eq.refl (Nat) ((0 : Nat))) (an (show ∀ (k : Nat), k < (0 : Nat) → (0 : Int) = (0 : Int) from fun _ _ => rfl) (an (show bkCode z16 z17 z18 z19 (2 : Int) (2 : Int) (0 : Int) x = (2 : Int) by (simp at * <;> (repeat' split) <;> omega)) (show bkNum z16 z17 z18 z19 (2 : Int) (2 : Int) (0 : Int) x = (0 : Int) by (simp at * <;> (repeat' split) <;> omega))))) tt))) ?_
     kernel_rfl
    ·
     rcases Bool.eq_false_or_eq_true (decide (IntKind.i64.wrap (z18 - (1 : Int)) > IntKind.i64.wrap ((1048575 : Int) - x))) with h4 | h4
     ·
      refine vcIntro [false, false, false, false, true] (an (an h4 (an h3 (an h2 (an h1 (an h0 tt))))) (an (an (an tt (an (rb b0) (an (rb b1) (an (rb b2) (an (rb b3) (an (rb b4) (an (rb b5) (an (rb b6) (an (rb b7) (an (rb b8) (an (rb b9) (an (rb b10) (an (rb b11) (an (rb b12) (an (rb b13) (an (rb b14) (an (rb b15) (an (ri z0) (an (ri z1) (an (ri z2) (an (ri z3) (an (ri z4) (an (ri z5) (an (ri z6) (an (ri z7) (an (ri z8) (an (ri z9) (an (ri z10) (an (ri z11) (an (ri z12) (an (ri z13) (an (ri z14) (an (ri z15) (an (show bkNow z16 z17 z18 z19 (2 : Int) (2 : Int) (0 : Int) x (0 : Int) = z16 by (simp; done)) (an (show bkNow z16 z17 z18 z19 (2 : Int) (2 : Int) (0 : Int) x (1 : Int) = z17 by (simp; done)) (an (show bkNow z16 z17 z18 z19 (2 : Int) (2 : Int) (0 : Int) x (2 : Int) = z18 by (simp (disch := omega) only [wrapk] at *; simp at * <;> (repeat' split) <;> omega)) (an (show bkNow z16 z17 z18 z19 (2 : Int) (2 : Int) (0 : Int) x (3 : Int) = z19 by (simp; done)) (an (ri z20) (an (ri z21) (an (ri z22) (an (ri z23) (an (ri z24) (an (ri z25) (an (ri z26) (an (ri z27) (an (ri z28) (an (ri z29) (an (ri z30) (an (ri z31) (an tt (an tt tt))))))))))))))))))))))))))))))))))))))))))))))))))) tt) (an (an (@Eq.refl (Nat) ((0 : Nat))) (an (show ∀ (k : Nat), k < (0 : Nat) → (0 : Int) = (0 : Int) from fun _ _ => rfl) (an (show bkCode z16 z17 z18 z19 (2 : Int) (2 : Int) (0 : Int) x = (4 : Int) by (simp (disch := omega) only [wrapk] at *; simp at * <;> (repeat' split) <;> omega)) (show bkNum z16 z17 z18 z19 (2 : Int) (2 : Int) (0 : Int) x = (0 : Int) by (simp (disch := omega) only [wrapk] at *; simp at * <;> (repeat' split) <;> omega))))) tt))) ?_
      kernel_rfl
     ·
      refine vcIntro [false, false, false, false, false] (an (an h4 (an h3 (an h2 (an h1 (an h0 tt))))) (an (an (an tt (an (rb b0) (an (rb b1) (an (rb b2) (an (rb b3) (an (rb b4) (an (rb b5) (an (rb b6) (an (rb b7) (an (rb b8) (an (rb b9) (an (rb b10) (an (rb b11) (an (rb b12) (an (rb b13) (an (rb b14) (an (rb b15) (an (ri z0) (an (ri z1) (an (ri z2) (an (ri z3) (an (ri z4) (an (ri z5) (an (ri z6) (an (ri z7) (an (ri z8) (an (ri z9) (an (ri z10) (an (ri z11) (an (ri z12) (an (ri z13) (an (ri z14) (an (ri z15) (an (show bkNow z16 z17 z18 z19 (2 : Int) (2 : Int) (0 : Int) x (0 : Int) = z16 by (simp; done)) (an (show bkNow z16 z17 z18 z19 (2 : Int) (2 : Int) (0 : Int) x (1 : Int) = z17 by (simp; done)) (an (show bkNow z16 z17 z18 z19 (2 : Int) (2 : Int) (0 : Int) x (2 : Int) = IntKind.i64.wrap (IntKind.i64.wrap (IntKind.i64.wrap (z18 - (1 : Int)) + x) + (1 : Int)) by (simp (disch := omega) only [wrapk] at *; simp at * <;> (repeat' split) <;> omega)) (an (show bkNow z16 z17 z18 z19 (2 : Int) (2 : Int) (0 : Int) x (3 : Int) = z19 by (simp; done)) (an (ri z20) (an (ri z21) (an (ri z22) (an (ri z23) (an (ri z24) (an (ri z25) (an (ri z26) (an (ri z27) (an (ri z28) (an (ri z29) (an (ri z30) (an (ri z31) (an tt (an tt tt))))))))))))))))))))))))))))))))))))))))))))))))))) tt) (an (an (@Eq.refl (Nat) ((0 : Nat))) (an (show ∀ (k : Nat), k < (0 : Nat) → (0 : Int) = (0 : Int) from fun _ _ => rfl) (an (show bkCode z16 z17 z18 z19 (2 : Int) (2 : Int) (0 : Int) x = (0 : Int) by (simp (disch := omega) only [wrapk] at *; simp at * <;> (repeat' split) <;> omega)) (show bkNum z16 z17 z18 z19 (2 : Int) (2 : Int) (0 : Int) x = IntKind.i64.wrap (IntKind.i64.wrap (z18 - (1 : Int)) + x) by (simp (disch := omega) only [wrapk] at *; simp at * <;> (repeat' split) <;> omega))))) tt))) ?_
      kernel_rfl

theorem nbk_230 : NeedRun 21 [b0, b1, b2, b3, b4, b5, b6, b7, b8, b9, b10, b11, b12, b13, b14, b15] [z0, z1, z2, z3, z4, z5, z6, z7, z8, z9, z10, z11, z12, z13, z14, z15, z16, z17, z18, z19, z20, z21, z22, z23, z24, z25, z26, z27, z28, z29, z30, z31] 2 3 0 x := by
 intro hv ho hn
 have m0 := m0_of hv
 have hx := hx_of ho
 have ho' : opMayL [2, 3, 0, x] = true := ho
 simp at hn

 rcases Bool.eq_false_or_eq_true (!allMay [z0, z1, z2, z3, z4, z5, z6, z7, z8, z9, z10, z11, z12, z13, z14, z15, z16, z17, z18, z19, z20, z21, z22, z23, z24, z25, z26, z27, z28, z29, z30, z31]) with h0 | h0
 · exact ff (by (simp [hv, ho'] at *; done))
 ·
  rcases Bool.eq_false_or_eq_true (!opMayL [(2 : Int), (3 : Int), (0 : Int), x]) with h1 | h1
  · exact ff (by (simp [hv, ho'] at *; done))
  ·
   rcases Bool.eq_false_or_eq_true (!b3) with h2 | h2
   ·
    refine vcIntro [false, false, true] (an (an h2 (an h1 (an h0 tt))) (an (an (an (show bkD [b0, b1, b2, b3, b4, b5, b6, b7, b8, b9, b10, b11, b12, b13, b14, b15] (2 : Int) (3 : Int) (0 : Int) = (3 : Int) by (simp at * <;> simp [*] <;> done)) (an (rb b0) (an (rb b1) (an (rb b2) (an (rb b3) (an (rb b4) (an (rb b5) (an (rb b6) (an (rb b7) (an (rb b8) (an (rb b9) (an (rb b10) (an (rb b11) (an (rb b12) (an (rb b13) (an (rb b14) (an (rb b15) (an (ri z0) (an (ri z1) (an (ri z2) (an (ri z3) (an (ri z4) (an (ri z5) (an (ri z6) (an (ri z7) (an (ri z8) (an (ri z9) (an (ri z10) (an (ri z11) (an (ri z12) (an (ri z13) (an (ri z14) (an (ri z15) (an (ri z16) (an (ri z17) (an (ri z18) (an (ri z19) (an (ri z20) (an (ri z21) (an (ri z22) (an (ri z23) (an (ri z24) (an (ri z25) (an (ri z26) (an (ri z27) (an (ri z28) (an (ri z29) (an (ri z30) (an (ri z31) tt))))))))))))))))))))))))))))))))))))))))))))))))) tt) tt)) ?_
    kernel_rfl
   · exact ff (by (simp_all; done))

theorem dbk_230 : DoneRun 21 [b0, b1, b2, b3, b4, b5, b6, b7, b8, b9, b10, b11, b12, b13, b14, b15] [z0, z1, z2, z3, z4, z5, z6, z7, z8, z9, z10, z11, z12, z13, z14, z15, z16, z17, z18, z19, z20, z21, z22, z23, z24, z25, z26, z27, z28, z29, z30, z31] 2 3 0 x := by
 intro hv ho hn
 have m0 := m0_of hv
 have hx := hx_of ho
 have ho' : opMayL [2, 3, 0, x] = true := ho
 simp at hn

 rcases Bool.eq_false_or_eq_true (!allMay [z0, z1, z2, z3, z4, z5, z6, z7, z8, z9, z10, z11, z12, z13, z14, z15, z16, z17, z18, z19, z20, z21, z22, z23, z24, z25, z26, z27, z28, z29, z30, z31]) with h0 | h0
 · exact ff (by (simp [hv, ho'] at *; done))
 ·
  rcases Bool.eq_false_or_eq_true (!opMayL [(2 : Int), (3 : Int), (0 : Int), x]) with h1 | h1
  · exact ff (by (simp [hv, ho'] at *; done))
  ·
   rcases Bool.eq_false_or_eq_true (!b3) with h2 | h2
   · exact ff (by (simp_all; done))
   ·
    rcases Bool.eq_false_or_eq_true (!decide (z19 > (0 : Int))) with h3 | h3
    ·
     refine vcIntro [false, false, false, true] (an (an h3 (an h2 (an h1 (an h0 tt)))) (an (an (an tt (an (rb b0) (an (rb b1) (an (rb b2) (an (rb b3) (an (rb b4) (an (rb b5) (an (rb b6) (an (rb b7) (an (rb b8) (an (rb b9) (an (rb b10) (an (rb b11) (an (rb b12) (an (rb b13) (an (rb b14) (an (rb b15) (an (ri z0) (an (ri z1) (an (ri z2) (an (ri z3) (an (ri z4) (an (ri z5) (an (ri z6) (an (ri z7) (an (ri z8) (an (ri z9) (an (ri z10) (an (ri z11) (an (ri z12) (an (ri z13) (an (ri z14) (an (ri z15) (an (show bkNow z16 z17 z18 z19 (2 : Int) (3 : Int) (0 : Int) x (0 : Int) = z16 by (simp; done)) (an (show bkNow z16 z17 z18 z19 (2 : Int) (3 : Int) (0 : Int) x (1 : Int) = z17 by (simp; done)) (an (show bkNow z16 z17 z18 z19 (2 : Int) (3 : Int) (0 : Int) x (2 : Int) = z18 by (simp; done)) (an (show bkNow z16 z17 z18 z19 (2 : Int) (3 : Int) (0 : Int) x (3 : Int) = z19 by (simp at * <;> (repeat' split) <;> omega)) (an (ri z20) (an (ri z21) (an (ri z22) (an (ri z23) (an (ri z24) (an (ri z25) (an (ri z26) (an (ri z27) (an (ri z28) (an (ri z29) (an (ri z30) (an (ri z31) (an tt (an tt tt))))))))))))))))))))))))))))))))))))))))))))))))))) tt) (an (an (@Eq.refl (Nat) ((0 : Nat))) (an (show ∀ (k : Nat), k < (0 : Nat) → (0 : Int) = (0 : Int) from fun _ _ => rfl) (an (show bkCode z16 z17 z18 z19 (2 : Int) (3 : Int) (0 : Int) x = (2 : Int) by (simp at * <;> (repeat' split) <;> omega)) (show bkNum z16 z17 z18 z19 (2 : Int) (3 : Int) (0 : Int) x = (0 : Int) by (simp at * <;> (repeat' split) <;> omega))))) tt))) ?_
     kernel_rfl
    ·
     rcases Bool.eq_false_or_eq_true (decide (IntKind.i64.wrap (z19 - (1 : Int)) > IntKind.i64.wrap ((1048575 : Int) - x))) with h4 | h4
     ·
      refine vcIntro [false, false, false, false, true] (an (an h4 (an h3 (an h2 (an h1 (an h0 tt))))) (an (an (an tt (an (rb b0) (an (rb b1) (an (rb b2) (an (rb b3) (an (rb b4) (an (rb b5) (an (rb b6) (an (rb b7) (an (rb b8) (an (rb b9) (an (rb b10) (an (rb b11) (an (rb b12) (an (rb b13) (an (rb b14) (an (rb b15) (an (ri z0) (an (ri z1) (an (ri z2) (an (ri z3) (an (ri z4) (an (ri z5) (an (ri z6) (an (ri z7) (an (ri z8) (an (ri z9) (an (ri z10) (an (ri z11) (an (ri z12) (an (ri z13) (an (ri z14) (an (ri z15) (an (show bkNow z16 z17 z18 z19 (2 : Int) (3 : Int) (0 : Int) x (0 : Int) = z16 by (simp; done)) (an (show bkNow z16 z17 z18 z19 (2 : Int) (3 : Int) (0 : Int) x (1 : Int) = z17 by (simp; done)) (an (show bkNow z16 z17 z18 z19 (2 : Int) (3 : Int) (0 : Int) x (2 : Int) = z18 by (simp; done)) (an (show bkNow z16 z17 z18 z19 (2 : Int) (3 : Int) (0 : Int) x (3 : Int) = z19 by (simp (disch := omega) only [wrapk] at *; simp at * <;> (repeat' split) <;> omega)) (an (ri z20) (an (ri z21) (an (ri z22) (an (ri z23) (an (ri z24) (an (ri z25) (an (ri z26) (an (ri z27) (an (ri z28) (an (ri z29) (an (ri z30) (an (ri z31) (an tt (an tt tt))))))))))))))))))))))))))))))))))))))))))))))))))) tt) (an (an (@Eq.refl (Nat) ((0 : Nat))) (an (show ∀ (k : Nat), k < (0 : Nat) → (0 : Int) = (0 : Int) from fun _ _ => rfl) (an (show bkCode z16 z17 z18 z19 (2 : Int) (3 : Int) (0 : Int) x = (4 : Int) by (simp (disch := omega) only [wrapk] at *; simp at * <;> (repeat' split) <;> omega)) (show bkNum z16 z17 z18 z19 (2 : Int) (3 : Int) (0 : Int) x = (0 : Int) by (simp (disch := omega) only [wrapk] at *; simp at * <;> (repeat' split) <;> omega))))) tt))) ?_
      kernel_rfl
     ·
      refine vcIntro [false, false, false, false, false] (an (an h4 (an h3 (an h2 (an h1 (an h0 tt))))) (an (an (an tt (an (rb b0) (an (rb b1) (an (rb b2) (an (rb b3) (an (rb b4) (an (rb b5) (an (rb b6) (an (rb b7) (an (rb b8) (an (rb b9) (an (rb b10) (an (rb b11) (an (rb b12) (an (rb b13) (an (rb b14) (an (rb b15) (an (ri z0) (an (ri z1) (an (ri z2) (an (ri z3) (an (ri z4) (an (ri z5) (an (ri z6) (an (ri z7) (an (ri z8) (an (ri z9) (an (ri z10) (an (ri z11) (an (ri z12) (an (ri z13) (an (ri z14) (an (ri z15) (an (show bkNow z16 z17 z18 z19 (2 : Int) (3 : Int) (0 : Int) x (0 : Int) = z16 by (simp; done)) (an (show bkNow z16 z17 z18 z19 (2 : Int) (3 : Int) (0 : Int) x (1 : Int) = z17 by (simp; done)) (an (show bkNow z16 z17 z18 z19 (2 : Int) (3 : Int) (0 : Int) x (2 : Int) = z18 by (simp; done)) (an (show bkNow z16 z17 z18 z19 (2 : Int) (3 : Int) (0 : Int) x (3 : Int) = IntKind.i64.wrap (IntKind.i64.wrap (IntKind.i64.wrap (z19 - (1 : Int)) + x) + (1 : Int)) by (simp (disch := omega) only [wrapk] at *; simp at * <;> (repeat' split) <;> omega)) (an (ri z20) (an (ri z21) (an (ri z22) (an (ri z23) (an (ri z24) (an (ri z25) (an (ri z26) (an (ri z27) (an (ri z28) (an (ri z29) (an (ri z30) (an (ri z31) (an tt (an tt tt))))))))))))))))))))))))))))))))))))))))))))))))))) tt) (an (an (@Eq.refl (Nat) ((0 : Nat))) (an (show ∀ (k : Nat), k < (0 : Nat) → (0 : Int) = (0 : Int) from fun _ _ => rfl) (an (show bkCode z16 z17 z18 z19 (2 : Int) (3 : Int) (0 : Int) x = (0 : Int) by (simp (disch := omega) only [wrapk] at *; simp at * <;> (repeat' split) <;> omega)) (show bkNum z16 z17 z18 z19 (2 : Int) (3 : Int) (0 : Int) x = IntKind.i64.wrap (IntKind.i64.wrap (z19 - (1 : Int)) + x) by (simp (disch := omega) only [wrapk] at *; simp at * <;> (repeat' split) <;> omega))))) tt))) ?_
      kernel_rfl

theorem nbk_300 : NeedRun 21 [b0, b1, b2, b3, b4, b5, b6, b7, b8, b9, b10, b11, b12, b13, b14, b15] [z0, z1, z2, z3, z4, z5, z6, z7, z8, z9, z10, z11, z12, z13, z14, z15, z16, z17, z18, z19, z20, z21, z22, z23, z24, z25, z26, z27, z28, z29, z30, z31] 3 0 0 x := by
 intro hv ho hn
 have m0 := m0_of hv
 have hx := hx_of ho
 have ho' : opMayL [3, 0, 0, x] = true := ho
 simp at hn

 rcases Bool.eq_false_or_eq_true (!allMay [z0, z1, z2, z3, z4, z5, z6, z7, z8, z9, z10, z11, z12, z13, z14, z15, z16, z17, z18, z19, z20, z21, z22, z23, z24, z25, z26, z27, z28, z29, z30, z31]) with h0 | h0
 · exact ff (by (simp [hv, ho'] at *; done))
 ·
  rcases Bool.eq_false_or_eq_true (!opMayL [(3 : Int), (0 : Int), (0 : Int), x]) with h1 | h1
  · exact ff (by (simp [hv, ho'] at *; done))
  ·
   rcases Bool.eq_false_or_eq_true (!b0) with h2 | h2
   ·
    refine vcIntro [false, false, true] (an (an h2 (an h1 (an h0 tt))) (an (an (an (show bkD [b0, b1, b2, b3, b4, b5, b6, b7, b8, b9, b10, b11, b12, b13, b14, b15] (3 : Int) (0 : Int) (0 : Int) = (0 : Int) by (simp at * <;> simp [*] <;> done)) (an (rb b0) (an (rb b1) (an (rb b2) (an (rb b3) (an (rb b4) (an (rb b5) (an (rb b6) (an (rb b7) (an (rb b8) (an (rb b9) (an (rb b10) (an (rb b11) (an (rb b12) (an (rb b13) (an (rb b14) (an (rb b15) (an (ri z0) (an (ri z1) (an (ri z2) (an (ri z3) (an (ri z4) (an (ri z5) (an (ri z6) (an (ri z7) (an (ri z8) (an (ri z9) (an (ri z10) (an (ri z11) (an (ri z12) (an (ri z13) (an (ri z14) (an (ri z15) (an (ri z16) (an (ri z17) (an (ri z18) (an (ri z19) (an (ri z20) (an (ri z21) (an (ri z22) (an (ri z23) (an (ri z24) (an (ri z25) (an (ri z26) (an (ri z27) (an (ri z28) (an (ri z29) (an (ri z30) (an (ri z31) tt))))))))))))))))))))))))))))))))))))))))))))))))) tt) tt)) ?_
    kernel_rfl
   · exact ff (by (simp_all; done))

theorem dbk_300 : DoneRun 21 [b0, b1, b2, b3, b4, b5, b6, b7, b8, b9, b10, b11, b12, b13, b14, b15] [z0, z1, z2, z3, z4, z5, z6, z7, z8, z9, z10, z11, z12, z13, z14, z15, z16, z17, z18, z19, z20, z21, z22, z23, z24, z25, z26, z27, z28, z29, z30, z31] 3 0 0 x := by
 intro hv ho hn
 have m0 := m0_of hv
 have hx := hx_of ho
 have ho' : opMayL [3, 0, 0, x] = true := ho
 simp at hn

 rcases Bool.eq_false_or_eq_true (!allMay [z0, z1, z2, z3, z4, z5, z6, z7, z8, z9, z10, z11, z12, z13, z14, z15, z16, z17, z18, z19, z20, z21, z22, z23, z24, z25, z26, z27, z28, z29, z30, z31]) with h0 | h0
 · exact ff (by (simp [hv, ho'] at *; done))
 ·
  rcases Bool.eq_false_or_eq_true (!opMayL [(3 : Int), (0 : Int), (0 : Int), x]) with h1 | h1
  · exact ff (by (simp [hv, ho'] at *; done))
  ·
   rcases Bool.eq_false_or_eq_true (!b0) with h2 | h2
   · exact ff (by (simp_all; done))
   ·
    rcases Bool.eq_false_or_eq_true (!decide (z16 > (0 : Int))) with h3 | h3
    ·
     refine vcIntro [false, false, false, true] (an (an h3 (an h2 (an h1 (an h0 tt)))) (an (an (an tt (an (rb b0) (an (rb b1) (an (rb b2) (an (rb b3) (an (rb b4) (an (rb b5) (an (rb b6) (an (rb b7) (an (rb b8) (an (rb b9) (an (rb b10) (an (rb b11) (an (rb b12) (an (rb b13) (an (rb b14) (an (rb b15) (an (ri z0) (an (ri z1) (an (ri z2) (an (ri z3) (an (ri z4) (an (ri z5) (an (ri z6) (an (ri z7) (an (ri z8) (an (ri z9) (an (ri z10) (an (ri z11) (an (ri z12) (an (ri z13) (an (ri z14) (an (ri z15) (an (show bkNow z16 z17 z18 z19 (3 : Int) (0 : Int) (0 : Int) x (0 : Int) = z16 by (simp at * <;> (repeat' split) <;> omega)) (an (show bkNow z16 z17 z18 z19 (3 : Int) (0 : Int) (0 : Int) x (1 : Int) = z17 by (simp; done)) (an (show bkNow z16 z17 z18 z19 (3 : Int) (0 : Int) (0 : Int) x (2 : Int) = z18 by (simp; done)) (an (show bkNow z16 z17 z18 z19 (3 : Int) (0 : Int) (0 : Int) x (3 : Int) = z19 by (simp; done)) (an (ri z20) (an (ri z21) (an (ri z22) (an (ri z23) (an (ri z24) (an (ri z25) (an (ri z26) (an (ri z27) (an (ri z28) (an (ri z29) (an (ri z30) (an (ri z31) (an tt (an tt tt))))))))))))))))))))))))))))))))))))))))))))))))))) tt) (an (an (@Eq.refl (Nat) ((0 : Nat))) (an (show ∀ (k : Nat), k < (0 : Nat) → (0 : Int) = (0 : Int) from fun _ _ => rfl) (an (show bkCode z16 z17 z18 z19 (3 : Int) (0 : Int) (0 : Int) x = (2 : Int) by (simp at * <;> (repeat' split) <;> omega)) (show bkNum z16 z17 z18 z19 (3 : Int) (0 : Int) (0 : Int) x = (0 : Int) by (simp at * <;> (repeat' split) <;> omega))))) tt))) ?_
     kernel_rfl
    ·
     rcases Bool.eq_false_or_eq_true (decide (IntKind.i64.wrap (z16 - (1 : Int)) < x)) with h4 | h4
     ·
      refine vcIntro [false, false, false, false, true] (an (an h4 (an h3 (an h2 (an h1 (an h0 tt))))) (an (an (an tt (an (rb b0) (an (rb b1) (an (rb b2) (an (rb b3) (an (rb b4) (an (rb b5) (an (rb b6) (an (rb b7) (an (rb b8) (an (rb b9) (an (rb b10) (an (rb b11) (an (rb b12) (an (rb b13) (an (rb b14) (an (rb b15) (an (ri z0) (an (ri z1) (an (ri z2) (an (ri z3) (an (ri z4) (an (ri z5) (an (ri z6) (an (ri z7) (an (ri z8) (an (ri z9) (an (ri z10) (an (ri z11) (an (ri z12) (an (ri z13) (an (ri z14) (an (ri z15) (an (show bkNow z16 z17 z18 z19 (3 : Int) (0 : Int) (0 : Int) x (0 : Int) = z16 by (simp (disch := omega) only [wrapk] at *; simp at * <;> simp [*] <;> done)) (an (show bkNow z16 z17 z18 z19 (3 : Int) (0 : Int) (0 : Int) x (1 : Int) = z17 by (simp; done)) (an (show bkNow z16 z17 z18 z19 (3 : Int) (0 : Int) (0 : Int) x (2 : Int) = z18 by (simp; done)) (an (show bkNow z16 z17 z18 z19 (3 : Int) (0 : Int) (0 : Int) x (3 : Int) = z19 by (simp; done)) (an (ri z20) (an (ri z21) (an (ri z22) (an (ri z23) (an (ri z24) (an (ri z25) (an (ri z26) (an (ri z27) (an (ri z28) (an (ri z29) (an (ri z30) (an (ri z31) (an tt (an tt tt))))))))))))))))))))))))))))))))))))))))))))))))))) tt) (an (an (@Eq.refl (Nat) ((0 : Nat))) (an (show ∀ (k : Nat), k < (0 : Nat) → (0 : Int) = (0 : Int) from fun _ _ => rfl) (an (show bkCode z16 z17 z18 z19 (3 : Int) (0 : Int) (0 : Int) x = (3 : Int) by (simp (disch := omega) only [wrapk] at *; simp at * <;> simp [*] <;> done)) (show bkNum z16 z17 z18 z19 (3 : Int) (0 : Int) (0 : Int) x = (0 : Int) by (simp (disch := omega) only [wrapk] at *; simp at * <;> simp [*] <;> done))))) tt))) ?_
      kernel_rfl
     ·
      refine vcIntro [false, false, false, false, false] (an (an h4 (an h3 (an h2 (an h1 (an h0 tt))))) (an (an (an tt (an (rb b0) (an (rb b1) (an (rb b2) (an (rb b3) (an (rb b4) (an (rb b5) (an (rb b6) (an (rb b7) (an (rb b8) (an (rb b9) (an (rb b10) (an (rb b11) (an (rb b12) (an (rb b13) (an (rb b14) (an (rb b15) (an (ri z0) (an (ri z1) (an (ri z2) (an (ri z3) (an (ri z4) (an (ri z5) (an (ri z6) (an (ri z7) (an (ri z8) (an (ri z9) (an (ri z10) (an (ri z11) (an (ri z12) (an (ri z13) (an (ri z14) (an (ri z15) (an (show bkNow z16 z17 z18 z19 (3 : Int) (0 : Int) (0 : Int) x (0 : Int) = IntKind.i64.wrap (IntKind.i64.wrap (IntKind.i64.wrap (z16 - (1 : Int)) - x) + (1 : Int)) by (simp (disch := omega) only [wrapk] at *; simp at * <;> (repeat' split) <;> omega)) (an (show bkNow z16 z17 z18 z19 (3 : Int) (0 : Int) (0 : Int) x (1 : Int) = z17 by (simp; done)) (an (show bkNow z16 z17 z18 z19 (3 : Int) (0 : Int) (0 : Int) x (2 : Int) = z18 by (simp; done)) (an (show bkNow z16 z17 z18 z19 (3 : Int) (0 : Int) (0 : Int) x (3 : Int) = z19 by (simp; done)) (an (ri z20) (an (ri z21) (an (ri z22) (an (ri z23) (an (ri z24) (an (ri z25) (an (ri z26) (an (ri z27) (an (ri z28) (an (ri z29) (an (ri z30) (an (ri z31) (an tt (an tt tt))))))))))))))))))))))))))))))))))))))))))))))))))) tt) (an (an (@Eq.refl (Nat) ((0 : Nat))) (an (show ∀ (k : Nat), k < (0 : Nat) → (0 : Int) = (0 : Int) from fun _ _ => rfl) (an (show bkCode z16 z17 z18 z19 (3 : Int) (0 : Int) (0 : Int) x = (0 : Int) by (simp (disch := omega) only [wrapk] at *; simp at * <;> simp [*] <;> done)) (show bkNum z16 z17 z18 z19 (3 : Int) (0 : Int) (0 : Int) x = IntKind.i64.wrap (IntKind.i64.wrap (z16 - (1 : Int)) - x) by (simp (disch := omega) only [wrapk] at *; simp at * <;> simp [*] <;> done))))) tt))) ?_
      kernel_rfl

theorem nbk_310 : NeedRun 21 [b0, b1, b2, b3, b4, b5, b6, b7, b8, b9, b10, b11, b12, b13, b14, b15] [z0, z1, z2, z3, z4, z5, z6, z7, z8, z9, z10, z11, z12, z13, z14, z15, z16, z17, z18, z19, z20, z21, z22, z23, z24, z25, z26, z27, z28, z29, z30, z31] 3 1 0 x := by
 intro hv ho hn
 have m0 := m0_of hv
 have hx := hx_of ho
 have ho' : opMayL [3, 1, 0, x] = true := ho
 simp at hn

 rcases Bool.eq_false_or_eq_true (!allMay [z0, z1, z2, z3, z4, z5, z6, z7, z8, z9, z10, z11, z12, z13, z14, z15, z16, z17, z18, z19, z20, z21, z22, z23, z24, z25, z26, z27, z28, z29, z30, z31]) with h0 | h0
 · exact ff (by (simp [hv, ho'] at *; done))
 ·
  rcases Bool.eq_false_or_eq_true (!opMayL [(3 : Int), (1 : Int), (0 : Int), x]) with h1 | h1
  · exact ff (by (simp [hv, ho'] at *; done))
  ·
   rcases Bool.eq_false_or_eq_true (!b1) with h2 | h2
   ·
    refine vcIntro [false, false, true] (an (an h2 (an h1 (an h0 tt))) (an (an (an (show bkD [b0, b1, b2, b3, b4, b5, b6, b7, b8, b9, b10, b11, b12, b13, b14, b15] (3 : Int) (1 : Int) (0 : Int) = (1 : Int) by (simp at * <;> simp [*] <;> done)) (an (rb b0) (an (rb b1) (an (rb b2) (an (rb b3) (an (rb b4) (an (rb b5) (an (rb b6) (an (rb b7) (an (rb b8) (an (rb b9) (an (rb b10) (an (rb b11) (an (rb b12) (an (rb b13) (an (rb b14) (an (rb b15) (an (ri z0) (an (ri z1) (an (ri z2) (an (ri z3) (an (ri z4) (an (ri z5) (an (ri z6) (an (ri z7) (an (ri z8) (an (ri z9) (an (ri z10) (an (ri z11) (an (ri z12) (an (ri z13) (an (ri z14) (an (ri z15) (an (ri z16) (an (ri z17) (an (ri z18) (an (ri z19) (an (ri z20) (an (ri z21) (an (ri z22) (an (ri z23) (an (ri z24) (an (ri z25) (an (ri z26) (an (ri z27) (an (ri z28) (an (ri z29) (an (ri z30) (an (ri z31) tt))))))))))))))))))))))))))))))))))))))))))))))))) tt) tt)) ?_
    kernel_rfl
   · exact ff (by (simp_all; done))

theorem dbk_310 : DoneRun 21 [b0, b1, b2, b3, b4, b5, b6, b7, b8, b9, b10, b11, b12, b13, b14, b15] [z0, z1, z2, z3, z4, z5, z6, z7, z8, z9, z10, z11, z12, z13, z14, z15, z16, z17, z18, z19, z20, z21, z22, z23, z24, z25, z26, z27, z28, z29, z30, z31] 3 1 0 x := by
 intro hv ho hn
 have m0 := m0_of hv
 have hx := hx_of ho
 have ho' : opMayL [3, 1, 0, x] = true := ho
 simp at hn

 rcases Bool.eq_false_or_eq_true (!allMay [z0, z1, z2, z3, z4, z5, z6, z7, z8, z9, z10, z11, z12, z13, z14, z15, z16, z17, z18, z19, z20, z21, z22, z23, z24, z25, z26, z27, z28, z29, z30, z31]) with h0 | h0
 · exact ff (by (simp [hv, ho'] at *; done))
 ·
  rcases Bool.eq_false_or_eq_true (!opMayL [(3 : Int), (1 : Int), (0 : Int), x]) with h1 | h1
  · exact ff (by (simp [hv, ho'] at *; done))
  ·
   rcases Bool.eq_false_or_eq_true (!b1) with h2 | h2
   · exact ff (by (simp_all; done))
   ·
    rcases Bool.eq_false_or_eq_true (!decide (z17 > (0 : Int))) with h3 | h3
    ·
     refine vcIntro [false, false, false, true] (an (an h3 (an h2 (an h1 (an h0 tt)))) (an (an (an tt (an (rb b0) (an (rb b1) (an (rb b2) (an (rb b3) (an (rb b4) (an (rb b5) (an (rb b6) (an (rb b7) (an (rb b8) (an (rb b9) (an (rb b10) (an (rb b11) (an (rb b12) (an (rb b13) (an (rb b14) (an (rb b15) (an (ri z0) (an (ri z1) (an (ri z2) (an (ri z3) (an (ri z4) (an (ri z5) (an (ri z6) (an (ri z7) (an (ri z8) (an (ri z9) (an (ri z10) (an (ri z11) (an (ri z12) (an (ri z13) (an (ri z14) (an (ri z15) (an (show bkNow z16 z17 z18 z19 (3 : Int) (1 : Int) (0 : Int) x (0 : Int) = z16 by (simp; done)) (an (show bkNow z16 z17 z18 z19 (3 : Int) (1 : Int) (0 : Int) x (1 : Int) = z17 by (simp at * <;> (repeat' split) <;> omega)) (an (show bkNow z16 z17 z18 z19 (3 : Int) (1 : Int) (0 : Int) x (2 : Int) = z18 by (simp; done)) (an (show bkNow z16 z17 z18 z19 (3 : Int) (1 : Int) (0 : Int) x (3 : Int) = z19 by (simp; done)) (an (ri z20) (an (ri z21) (an (ri z22) (an (ri z23) (an (ri z24) (an (ri z25) (an (ri z26) (an (ri z27) (an (ri z28) (an (ri z29) (an (ri z30) (an (ri z31) (an tt (an tt tt))))))))))))))))))))))))))))))))))))))))))))))))))) tt) (an (an (@Eq.refl (Nat) ((0 : Nat))) (an (show ∀ (k : Nat), k < (0 : Nat) → (0 : Int) = (0 : Int) from fun _ _ => rfl) (an (show bkCode z16 z17 z18 z19 (3 : Int) (1 : Int) (0 : Int) x = (2 : Int) by (simp at * <;> (repeat' split) <;> omega)) (show bkNum z16 z17 z18 z19 (3 : Int) (1 : Int) (0 : Int) x = (0 : Int) by (simp at * <;> (repeat' split) <;> omega))))) tt))) ?_
     kernel_rfl
    ·
     rcases Bool.eq_false_or_eq_true (decide (IntKind.i64.wrap (z17 - (1 : Int)) < x)) with h4 | h4
     ·
      refine vcIntro [false, false, false, false, true] (an (an h4 (an h3 (an h2 (an h1 (an h0 tt))))) (an (an (an tt (an (rb b0) (an (rb b1) (an (rb b2) (an (rb b3) (an (rb b4) (an (rb b5) (an (rb b6) (an (rb b7) (an (rb b8) (an (rb b9) (an (rb b10) (an (rb b11) (an (rb b12) (an (rb b13) (an (rb b14) (an (rb b15) (an (ri z0) (an (ri z1) (an (ri z2) (an (ri z3) (an (ri z4) (an (ri z5) (an (ri z6) (an (ri z7) (an (ri z8) (an (ri z9) (an (ri z10) (an (ri z11) (an (ri z12) (an (ri z13) (an (ri z14) (an (ri z15) (an (show bkNow z16 z17 z18 z19 (3 : Int) (1 : Int) (0 : Int) x (0 : Int) = z16 by (simp; done)) (an (show bkNow z16 z17 z18 z19 (3 : Int) (1 : Int) (0 : Int) x (1 : Int) = z17 by (simp (disch := omega) only [wrapk] at *; simp at * <;> simp [*] <;> done)) (an (show bkNow z16 z17 z18 z19 (3 : Int) (1 : Int) (0 : Int) x (2 : Int) = z18 by (simp; done)) (an (show bkNow z16 z17 z18 z19 (3 : Int) (1 : Int) (0 : Int) x (3 : Int) = z19 by (simp; done)) (an (ri z20) (an (ri z21) (an (ri z22) (an (ri z23) (an (ri z24) (an (ri z25) (an (ri z26) (an (ri z27) (an (ri z28) (an (ri z29) (an (ri z30) (an (ri z31) (an tt (an tt tt))))))))))))))))))))))))))))))))))))))))))))))))))) tt) (an (an (@Eq.refl (Nat) ((0 : Nat))) (an (show ∀ (k : Nat), k < (0 : Nat) → (0 : Int) = (0 : Int) from fun _ _ => rfl) (an (show bkCode z16 z17 z18 z19 (3 : Int) (1 : Int) (0 : Int) x = (3 : Int) by (simp (disch := omega) only [wrapk] at *; simp at * <;> simp [*] <;> done)) (show bkNum z16 z17 z18 z19 (3 : Int) (1 : Int) (0 : Int) x = (0 : Int) by (simp (disch := omega) only [wrapk] at *; simp at * <;> simp [*] <;> done))))) tt))) ?_
      kernel_rfl
     ·
      refine vcIntro [false, false, false, false, false] (an (an h4 (an h3 (an h2 (an h1 (an h0 tt))))) (an (an (an tt (an (rb b0) (an (rb b1) (an (rb b2) (an (rb b3) (an (rb b4) (an (rb b5) (an (rb b6) (an (rb b7) (an (rb b8) (an (rb b9) (an (rb b10) (an (rb b11) (an (rb b12) (an (rb b13) (an (rb b14) (an (rb b15) (an (ri z0) (an (ri z1) (an (ri z2) (an (ri z3) (an (ri z4) (an (ri z5) (an (ri z6) (an (ri z7) (an (ri z8) (an (ri z9) (an (ri z10) (an (ri z11) (an (ri z12) (an (ri z13) (an (ri z14) (an (ri z15) (an (show bkNow z16 z17 z18 z19 (3 : Int) (1 : Int) (0 : Int) x (0 : Int) = z16 by (simp; done)) (an (show bkNow z16 z17 z18 z19 (3 : Int) (1 : Int) (0 : Int) x (1 : Int) = IntKind.i64.wrap (IntKind.i64.wrap (IntKind.i64.wrap (z17 - (1 : Int)) - x) + (1 : Int)) by (simp (disch := omega) only [wrapk] at *; simp at * <;> (repeat' split) <;> omega)) (an (show bkNow z16 z17 z18 z19 (3 : Int) (1 : Int) (0 : Int) x (2 : Int) = z18 by (simp; done)) (an (show bkNow z16 z17 z18 z19 (3 : Int) (1 : Int) (0 : Int) x (3 : Int) = z19 by (simp; done)) (an (ri z20) (an (ri z21) (an (ri z22) (an (ri z23) (an (ri z24) (an (ri z25) (an (ri z26) (an (ri z27) (an (ri z28) (an (ri z29) (an (ri z30) (an (ri z31) (an tt (an tt tt))))))))))))))))))))))))))))))))))))))))))))))))))) tt) (an (an (@Eq.refl (Nat) ((0 : Nat))) (an (show ∀ (k : Nat), k < (0 : Nat) → (0 : Int) = (0 : Int) from fun _ _ => rfl) (an (show bkCode z16 z17 z18 z19 (3 : Int) (1 : Int) (0 : Int) x = (0 : Int) by (simp (disch := omega) only [wrapk] at *; simp at * <;> simp [*] <;> done)) (show bkNum z16 z17 z18 z19 (3 : Int) (1 : Int) (0 : Int) x = IntKind.i64.wrap (IntKind.i64.wrap (z17 - (1 : Int)) - x) by (simp (disch := omega) only [wrapk] at *; simp at * <;> simp [*] <;> done))))) tt))) ?_
      kernel_rfl

theorem nbk_320 : NeedRun 21 [b0, b1, b2, b3, b4, b5, b6, b7, b8, b9, b10, b11, b12, b13, b14, b15] [z0, z1, z2, z3, z4, z5, z6, z7, z8, z9, z10, z11, z12, z13, z14, z15, z16, z17, z18, z19, z20, z21, z22, z23, z24, z25, z26, z27, z28, z29, z30, z31] 3 2 0 x := by
 intro hv ho hn
 have m0 := m0_of hv
 have hx := hx_of ho
 have ho' : opMayL [3, 2, 0, x] = true := ho
 simp at hn

 rcases Bool.eq_false_or_eq_true (!allMay [z0, z1, z2, z3, z4, z5, z6, z7, z8, z9, z10, z11, z12, z13, z14, z15, z16, z17, z18, z19, z20, z21, z22, z23, z24, z25, z26, z27, z28, z29, z30, z31]) with h0 | h0
 · exact ff (by (simp [hv, ho'] at *; done))
 ·
  rcases Bool.eq_false_or_eq_true (!opMayL [(3 : Int), (2 : Int), (0 : Int), x]) with h1 | h1
  · exact ff (by (simp [hv, ho'] at *; done))
  ·
   rcases Bool.eq_false_or_eq_true (!b2) with h2 | h2
   ·
    refine vcIntro [false, false, true] (an (an h2 (an h1 (an h0 tt))) (an (an (an (show bkD [b0, b1, b2, b3, b4, b5, b6, b7, b8, b9, b10, b11, b12, b13, b14, b15] (3 : Int) (2 : Int) (0 : Int) = (2 : Int) by (simp at * <;> simp [*] <;> done)) (an (rb b0) (an (rb b1) (an (rb b2) (an (rb b3) (an (rb b4) (an (rb b5) (an (rb b6) (an (rb b7) (an (rb b8) (an (rb b9) (an (rb b10) (an (rb b11) (an (rb b12) (an (rb b13) (an (rb b14) (an (rb b15) (an (ri z0) (an (ri z1) (an (ri z2) (an (ri z3) (an (ri z4) (an (ri z5) (an (ri z6) (an (ri z7) (an (ri z8) (an (ri z9) (an (ri z10) (an (ri z11) (an (ri z12) (an (ri z13) (an (ri z14) (an (ri z15) (an (ri z16) (an (ri z17) (an (ri z18) (an (ri z19) (an (ri z20) (an (ri z21) (an (ri z22) (an (ri z23) (an (ri z24) (an (ri z25) (an (ri z26) (an (ri z27) (an (ri z28) (an (ri z29) (an (ri z30) (an (ri z31) tt))))))))))))))))))))))))))))))))))))))))))))))))) tt) tt)) ?_
    kernel_rfl
   · exact ff (by (simp_all; done))

theorem dbk_320 : DoneRun 21 [b0, b1, b2, b3, b4, b5, b6, b7, b8, b9, b10, b11, b12, b13, b14, b15] [z0, z1, z2, z3, z4, z5, z6, z7, z8, z9, z10, z11, z12, z13, z14, z15, z16, z17, z18, z19, z20, z21, z22, z23, z24, z25, z26, z27, z28, z29, z30, z31] 3 2 0 x := by
 intro hv ho hn
 have m0 := m0_of hv
 have hx := hx_of ho
 have ho' : opMayL [3, 2, 0, x] = true := ho
 simp at hn

 rcases Bool.eq_false_or_eq_true (!allMay [z0, z1, z2, z3, z4, z5, z6, z7, z8, z9, z10, z11, z12, z13, z14, z15, z16, z17, z18, z19, z20, z21, z22, z23, z24, z25, z26, z27, z28, z29, z30, z31]) with h0 | h0
 · exact ff (by (simp [hv, ho'] at *; done))
 ·
  rcases Bool.eq_false_or_eq_true (!opMayL [(3 : Int), (2 : Int), (0 : Int), x]) with h1 | h1
  · exact ff (by (simp [hv, ho'] at *; done))
  ·
   rcases Bool.eq_false_or_eq_true (!b2) with h2 | h2
   · exact ff (by (simp_all; done))
   ·
    rcases Bool.eq_false_or_eq_true (!decide (z18 > (0 : Int))) with h3 | h3
    ·
     refine vcIntro [false, false, false, true] (an (an h3 (an h2 (an h1 (an h0 tt)))) (an (an (an tt (an (rb b0) (an (rb b1) (an (rb b2) (an (rb b3) (an (rb b4) (an (rb b5) (an (rb b6) (an (rb b7) (an (rb b8) (an (rb b9) (an (rb b10) (an (rb b11) (an (rb b12) (an (rb b13) (an (rb b14) (an (rb b15) (an (ri z0) (an (ri z1) (an (ri z2) (an (ri z3) (an (ri z4) (an (ri z5) (an (ri z6) (an (ri z7) (an (ri z8) (an (ri z9) (an (ri z10) (an (ri z11) (an (ri z12) (an (ri z13) (an (ri z14) (an (ri z15) (an (show bkNow z16 z17 z18 z19 (3 : Int) (2 : Int) (0 : Int) x (0 : Int) = z16 by (simp; done)) (an (show bkNow z16 z17 z18 z19 (3 : Int) (2 : Int) (0 : Int) x (1 : Int) = z17 by (simp; done)) (an (show bkNow z16 z17 z18 z19 (3 : Int) (2 : Int) (0 : Int) x (2 : Int) = z18 by (simp at * <;> (repeat' split) <;> omega)) (an (show bkNow z16 z17 z18 z19 (3 : Int) (2 : Int) (0 : Int) x (3 : Int) = z19 by (simp; done)) (an (ri z20) (an (ri z21) (an (ri z22) (an (ri z23) (an (ri z24) (an (ri z25) (an (ri z26) (an (ri z27) (an (ri z28) (an (ri z29) (an (ri z30) (an (ri z31) (an tt (an tt tt))))))))))))))))))))))))))))))))))))))))))))))))))) tt) (an (an (@Eq.refl (Nat) ((0 : Nat))) (an (show ∀ (k : Nat), k < (0 : Nat) → (0 : Int) = (0 : Int) from fun _ _ => rfl) (an (show bkCode z16 z17 z18 z19 (3 : Int) (2 : Int) (0 : Int) x = (2 : Int) by (simp at * <;> (repeat' split) <;> omega)) (show bkNum z16 z17 z18 z19 (3 : Int) (2 : Int) (0 : Int) x = (0 : Int) by (simp at * <;> (repeat' split) <;> omega))))) tt))) ?_
     kernel_rfl
    ·
     rcases Bool.eq_false_or_eq_true (decide (IntKind.i64.wrap (z18 - (1 : Int)) < x)) with h4 | h4
     ·
      refine vcIntro [false, false, false, false, true] (an (an h4 (an h3 (an h2 (an h1 (an h0 tt))))) (an (an (an tt (an (rb b0) (an (rb b1) (an (rb b2) (an (rb b3) (an (rb b4) (an (rb b5) (an (rb b6) (an (rb b7) (an (rb b8) (an (rb b9) (an (rb b10) (an (rb b11) (an (rb b12) (an (rb b13) (an (rb b14) (an (rb b15) (an (ri z0) (an (ri z1) (an (ri z2) (an (ri z3) (an (ri z4) (an (ri z5) (an (ri z6) (an (ri z7) (an (ri z8) (an (ri z9) (an (ri z10) (an (ri z11) (an (ri z12) (an (ri z13) (an (ri z14) (an (ri z15) (an (show bkNow z16 z17 z18 z19 (3 : Int) (2 : Int) (0 : Int) x (0 : Int) = z16 by (simp; done)) (an (show bkNow z16 z17 z18 z19 (3 : Int) (2 : Int) (0 : Int) x (1 : Int) = z17 by (simp; done)) (an (show bkNow z16 z17 z18 z19 (3 : Int) (2 : Int) (0 : Int) x (2 : Int) = z18 by (simp (disch := omega) only [wrapk] at *; simp at * <;> simp [*] <;> done)) (an (show bkNow z16 z17 z18 z19 (3 : Int) (2 : Int) (0 : Int) x (3 : Int) = z19 by (simp; done)) (an (ri z20) (an (ri z21) (an (ri z22) (an (ri z23) (an (ri z24) (an (ri z25) (an (ri z26) (an (ri z27) (an (ri z28) (an (ri z29) (an (ri z30) (an (ri z31) (an tt (an tt tt))))))))))))))))))))))))))))))))))))))))))))))))))) tt) (an (an (@Eq.refl (Nat) ((0 : Nat))) (an (show ∀ (k : Nat), k < (0 : Nat) → (0 : Int) = (0 : Int) from fun _ _ => rfl) (an (show bkCode z16 z17 z18 z19 (3 : Int) (2 : Int) (0 : Int) x = (3 : Int) by (simp (disch := omega) only [wrapk] at *; simp at * <;> simp [*] <;> done)) (show bkNum z16 z17 z18 z19 (3 : Int) (2 : Int) (0 : Int) x = (0 : Int) by (simp (disch := omega) only [wrapk] at *; simp at * <;> simp [*] <;> done))))) tt))) ?_
      kernel_rfl
     ·
      refine vcIntro [false, false, false, false, false] (an (an h4 (an h3 (an h2 (an h1 (an h0 tt))))) (an (an (an tt (an (rb b0) (an (rb b1) (an (rb b2) (an (rb b3) (an (rb b4) (an (rb b5) (an (rb b6) (an (rb b7) (an (rb b8) (an (rb b9) (an (rb b10) (an (rb b11) (an (rb b12) (an (rb b13) (an (rb b14) (an (rb b15) (an (ri z0) (an (ri z1) (an (ri z2) (an (ri z3) (an (ri z4) (an (ri z5) (an (ri z6) (an (ri z7) (an (ri z8) (an (ri z9) (an (ri z10) (an (ri z11) (an (ri z12) (an (ri z13) (an (ri z14) (an (ri z15) (an (show bkNow z16 z17 z18 z19 (3 : Int) (2 : Int) (0 : Int) x (0 : Int) = z16 by (simp; done)) (an (show bkNow z16 z17 z18 z19 (3 : Int) (2 : Int) (0 : Int) x (1 : Int) = z17 by (simp; done)) (an (show bkNow z16 z17 z18 z19 (3 : Int) (2 : Int) (0 : Int) x (2 : Int) = IntKind.i64.wrap (IntKind.i64.wrap (IntKind.i64.wrap (z18 - (1 : Int)) - x) + (1 : Int)) by (simp (disch := omega) only [wrapk] at *; simp at * <;> (repeat' split) <;> omega)) (an (show bkNow z16 z17 z18 z19 (3 : Int) (2 : Int) (0 : Int) x (3 : Int) = z19 by (simp; done)) (an (ri z20) (an (ri z21) (an (ri z22) (an (ri z23) (an (ri z24) (an (ri z25) (an (ri z26) (an (ri z27) (an (ri z28) (an (ri z29) (an (ri z30) (an (ri z31) (an tt (an tt tt))))))))))))))))))))))))))))))))))))))))))))))))))) tt) (an (an (@Eq.refl (Nat) ((0 : Nat))) (an (show ∀ (k : Nat), k < (0 : Nat) → (0 : Int) = (0 : Int) from fun _ _ => rfl) (an (show bkCode z16 z17 z18 z19 (3 : Int) (2 : Int) (0 : Int) x = (0 : Int) by (simp (disch := omega) only [wrapk] at *; simp at * <;> simp [*] <;> done)) (show bkNum z16 z17 z18 z19 (3 : Int) (2 : Int) (0 : Int) x = IntKind.i64.wrap (IntKind.i64.wrap (z18 - (1 : Int)) - x) by (simp (disch := omega) only [wrapk] at *; simp at * <;> simp [*] <;> done))))) tt))) ?_
      kernel_rfl

theorem nbk_330 : NeedRun 21 [b0, b1, b2, b3, b4, b5, b6, b7, b8, b9, b10, b11, b12, b13, b14, b15] [z0, z1, z2, z3, z4, z5, z6, z7, z8, z9, z10, z11, z12, z13, z14, z15, z16, z17, z18, z19, z20, z21, z22, z23, z24, z25, z26, z27, z28, z29, z30, z31] 3 3 0 x := by
 intro hv ho hn
 have m0 := m0_of hv
 have hx := hx_of ho
 have ho' : opMayL [3, 3, 0, x] = true := ho
 simp at hn

 rcases Bool.eq_false_or_eq_true (!allMay [z0, z1, z2, z3, z4, z5, z6, z7, z8, z9, z10, z11, z12, z13, z14, z15, z16, z17, z18, z19, z20, z21, z22, z23, z24, z25, z26, z27, z28, z29, z30, z31]) with h0 | h0
 · exact ff (by (simp [hv, ho'] at *; done))
 ·
  rcases Bool.eq_false_or_eq_true (!opMayL [(3 : Int), (3 : Int), (0 : Int), x]) with h1 | h1
  · exact ff (by (simp [hv, ho'] at *; done))
  ·
   rcases Bool.eq_false_or_eq_true (!b3) with h2 | h2
   ·
    refine vcIntro [false, false, true] (an (an h2 (an h1 (an h0 tt))) (an (an (an (show bkD [b0, b1, b2, b3, b4, b5, b6, b7, b8, b9, b10, b11, b12, b13, b14, b15] (3 : Int) (3 : Int) (0 : Int) = (3 : Int) by (simp at * <;> simp [*] <;> done)) (an (rb b0) (an (rb b1) (an (rb b2) (an (rb b3) (an (rb b4) (an (rb b5) (an (rb b6) (an (rb b7) (an (rb b8) (an (rb b9) (an (rb b10) (an (rb b11) (an (rb b12) (an (rb b13) (an (rb b14) (an (rb b15) (an (ri z0) (an (ri z1) (an (ri z2) (an (ri z3) (an (ri z4) (an (ri z5) (an (ri z6) (an (ri z7) (an (ri z8) (an (ri z9) (an (ri z10) (an (ri z11) (an (ri z12) (an (ri z13) (an (ri z14) (an (ri z15) (an (ri z16) (an (ri z17) (an (ri z18) (an (ri z19) (an (ri z20) (an (ri z21) (an (ri z22) (an (ri z23) (an (ri z24) (an (ri z25) (an (ri z26) (an (ri z27) (an (ri z28) (an (ri z29) (an (ri z30) (an (ri z31) tt))))))))))))))))))))))))))))))))))))))))))))))))) tt) tt)) ?_
    kernel_rfl
   · exact ff (by (simp_all; done))

theorem dbk_330 : DoneRun 21 [b0, b1, b2, b3, b4, b5, b6, b7, b8, b9, b10, b11, b12, b13, b14, b15] [z0, z1, z2, z3, z4, z5, z6, z7, z8, z9, z10, z11, z12, z13, z14, z15, z16, z17, z18, z19, z20, z21, z22, z23, z24, z25, z26, z27, z28, z29, z30, z31] 3 3 0 x := by
 intro hv ho hn
 have m0 := m0_of hv
 have hx := hx_of ho
 have ho' : opMayL [3, 3, 0, x] = true := ho
 simp at hn

 rcases Bool.eq_false_or_eq_true (!allMay [z0, z1, z2, z3, z4, z5, z6, z7, z8, z9, z10, z11, z12, z13, z14, z15, z16, z17, z18, z19, z20, z21, z22, z23, z24, z25, z26, z27, z28, z29, z30, z31]) with h0 | h0
 · exact ff (by (simp [hv, ho'] at *; done))
 ·
  rcases Bool.eq_false_or_eq_true (!opMayL [(3 : Int), (3 : Int), (0 : Int), x]) with h1 | h1
  · exact ff (by (simp [hv, ho'] at *; done))
  ·
   rcases Bool.eq_false_or_eq_true (!b3) with h2 | h2
   · exact ff (by (simp_all; done))
   ·
    rcases Bool.eq_false_or_eq_true (!decide (z19 > (0 : Int))) with h3 | h3
    ·
     refine vcIntro [false, false, false, true] (an (an h3 (an h2 (an h1 (an h0 tt)))) (an (an (an tt (an (rb b0) (an (rb b1) (an (rb b2) (an (rb b3) (an (rb b4) (an (rb b5) (an (rb b6) (an (rb b7) (an (rb b8) (an (rb b9) (an (rb b10) (an (rb b11) (an (rb b12) (an (rb b13) (an (rb b14) (an (rb b15) (an (ri z0) (an (ri z1) (an (ri z2) (an (ri z3) (an (ri z4) (an (ri z5) (an (ri z6) (an (ri z7) (an (ri z8) (an (ri z9) (an (ri z10) (an (ri z11) (an (ri z12) (an (ri z13) (an (ri z14) (an (ri z15) (an (show bkNow z16 z17 z18 z19 (3 : Int) (3 : Int) (0 : Int) x (0 : Int) = z16 by (simp; done)) (an (show bkNow z16 z17 z18 z19 (3 : Int) (3 : Int) (0 : Int) x (1 : Int) = z17 by (simp; done)) (an (show bkNow z16 z17 z18 z19 (3 : Int) (3 : Int) (0 : Int) x (2 : Int) = z18 by (simp; done)) (an (show bkNow z16 z17 z18 z19 (3 : Int) (3 : Int) (0 : Int) x (3 : Int) = z19 by (simp at * <;> (repeat' split) <;> omega)) (an (ri z20) (an (ri z21) (an (ri z22) (an (ri z23) (an (ri z24) (an (ri z25) (an (ri z26) (an (ri z27) (an (ri z28) (an (ri z29) (an (ri z30) (an (ri z31) (an tt (an tt tt))))))))))))))))))))))))))))))))))))))))))))))))))) tt) (an (an (@Eq.refl (Nat) ((0 : Nat))) (an (show ∀ (k : Nat), k < (0 : Nat) → (0 : Int) = (0 : Int) from fun _ _ => rfl) (an (show bkCode z16 z17 z18 z19 (3 : Int) (3 : Int) (0 : Int) x = (2 : Int) by (simp at * <;> (repeat' split) <;> omega)) (show bkNum z16 z17 z18 z19 (3 : Int) (3 : Int) (0 : Int) x = (0 : Int) by (simp at * <;> (repeat' split) <;> omega))))) tt))) ?_
     kernel_rfl
    ·
     rcases Bool.eq_false_or_eq_true (decide (IntKind.i64.wrap (z19 - (1 : Int)) < x)) with h4 | h4
     ·
      refine vcIntro [false, false, false, false, true] (an (an h4 (an h3 (an h2 (an h1 (an h0 tt))))) (an (an (an tt (an (rb b0) (an (rb b1) (an (rb b2) (an (rb b3) (an (rb b4) (an (rb b5) (an (rb b6) (an (rb b7) (an (rb b8) (an (rb b9) (an (rb b10) (an (rb b11) (an (rb b12) (an (rb b13) (an (rb b14) (an (rb b15) (an (ri z0) (an (ri z1) (an (ri z2) (an (ri z3) (an (ri z4) (an (ri z5) (an (ri z6) (an (ri z7) (an (ri z8) (an (ri z9) (an (ri z10) (an (ri z11) (an (ri z12) (an (ri z13) (an (ri z14) (an (ri z15) (an (show bkNow z16 z17 z18 z19 (3 : Int) (3 : Int) (0 : Int) x (0 : Int) = z16 by (simp; done)) (an (show bkNow z16 z17 z18 z19 (3 : Int) (3 : Int) (0 : Int) x (1 : Int) = z17 by (simp; done)) (an (show bkNow z16 z17 z18 z19 (3 : Int) (3 : Int) (0 : Int) x (2 : Int) = z18 by (simp; done)) (an (show bkNow z16 z17 z18 z19 (3 : Int) (3 : Int) (0 : Int) x (3 : Int) = z19 by (simp (disch := omega) only [wrapk] at *; simp at * <;> simp [*] <;> done)) (an (ri z20) (an (ri z21) (an (ri z22) (an (ri z23) (an (ri z24) (an (ri z25) (an (ri z26) (an (ri z27) (an (ri z28) (an (ri z29) (an (ri z30) (an (ri z31) (an tt (an tt tt))))))))))))))))))))))))))))))))))))))))))))))))))) tt) (an (an (@Eq.refl (Nat) ((0 : Nat))) (an (show ∀ (k : Nat), k < (0 : Nat) → (0 : Int) = (0 : Int) from fun _ _ => rfl) (an (show bkCode z16 z17 z18 z19 (3 : Int) (3 : Int) (0 : Int) x = (3 : Int) by (simp (disch := omega) only [wrapk] at *; simp at * <;> simp [*] <;> done)) (show bkNum z16 z17 z18 z19 (3 : Int) (3 : Int) (0 : Int) x = (0 : Int) by (simp (disch := omega) only [wrapk] at *; simp at * <;> simp [*] <;> done))))) tt))) ?_
      kernel_rfl
     ·
      refine vcIntro [false, false, false, false, false] (an (an h4 (an h3 (an h2 (an h1 (an h0 tt))))) (an (an (an tt (an (rb b0) (an (rb b1) (an (rb b2) (an (rb b3) (an (rb b4) (an (rb b5) (an (rb b6) (an (rb b7) (an (rb b8) (an (rb b9) (an (rb b10) (an (rb b11) (an (rb b12) (an (rb b13) (an (rb b14) (an (rb b15) (an (ri z0) (an (ri z1) (an (ri z2) (an (ri z3) (an (ri z4) (an (ri z5) (an (ri z6) (an (ri z7) (an (ri z8) (an (ri z9) (an (ri z10) (an (ri z11) (an (ri z12) (an (ri z13) (an (ri z14) (an (ri z15) (an (show bkNow z16 z17 z18 z19 (3 : Int) (3 : Int) (0 : Int) x (0 : Int) = z16 by (simp; done)) (an (show bkNow z16 z17 z18 z19 (3 : Int) (3 : Int) (0 : Int) x (1 : Int) = z17 by (simp; done)) (an (show bkNow z16 z17 z18 z19 (3 : Int) (3 : Int) (0 : Int) x (2 : Int) = z18 by (simp; done)) (an (show bkNow z16 z17 z18 z19 (3 : Int) (3 : Int) (0 : Int) x (3 : Int) = IntKind.i64.wrap (IntKind.i64.wrap (IntKind.i64.wrap (z19 - (1 : Int)) - x) + (1 : Int)) by (simp (disch := omega) only [wrapk] at *; simp at * <;> (repeat' split) <;> omega)) (an (ri z20) (an (ri z21) (an (ri z22) (an (ri z23) (an (ri z24) (an (ri z25) (an (ri z26) (an (ri z27) (an (ri z28) (an (ri z29) (an (ri z30) (an (ri z31) (an tt (an tt tt))))))))))))))))))))))))))))))))))))))))))))))))))) tt) (an (an (@Eq.refl (Nat) ((0 : Nat))) (an (show ∀ (k : Nat), k < (0 : Nat) → (0 : Int) = (0 : Int) from fun _ _ => rfl) (an (show bkCode z16 z17 z18 z19 (3 : Int) (3 : Int) (0 : Int) x = (0 : Int) by (simp (disch := omega) only [wrapk] at *; simp at * <;> simp [*] <;> done)) (show bkNum z16 z17 z18 z19 (3 : Int) (3 : Int) (0 : Int) x = IntKind.i64.wrap (IntKind.i64.wrap (z19 - (1 : Int)) - x) by (simp (disch := omega) only [wrapk] at *; simp at * <;> simp [*] <;> done))))) tt))) ?_
      kernel_rfl

end Go.Ideal.B1
