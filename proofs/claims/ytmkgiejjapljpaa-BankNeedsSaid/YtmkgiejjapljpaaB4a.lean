/- Chapter 5: runs of pawl/bank.Do, case by case. Written by gen/bank.py. Own text. -/
import Derived.Test.YtmkgiejjapljpaaB3
namespace Go.Ideal.B1
open Go.Proofs Go.Ideal Go.Ideal.L1
set_option linter.unusedSimpArgs false
set_option linter.unusedVariables false
set_option maxRecDepth 100000
set_option maxHeartbeats 8000000
attribute [local simp] sel bkNeed bkCode pos bkNum bkNow bkZs bkA bkD
theorem nS {m0 m1 m2 m3 k a b x c : Int} (i : Int) (h : bkCode m0 m1 m2 m3 k a b x = c) (hc : c ≠ 0) : bkNow m0 m1 m2 m3 k a b x i = sel m0 m1 m2 m3 i := by simp only [bkNow, h, if_neg hc]
theorem nS0 {m0 m1 m2 m3 k a b x c : Int} (h : bkCode m0 m1 m2 m3 k a b x = c) (hc : c ≠ 0 := by decide) : bkNow m0 m1 m2 m3 k a b x (0 : Int) = m0 := nS 0 h hc
theorem nS1 {m0 m1 m2 m3 k a b x c : Int} (h : bkCode m0 m1 m2 m3 k a b x = c) (hc : c ≠ 0 := by decide) : bkNow m0 m1 m2 m3 k a b x (1 : Int) = m1 := nS 1 h hc
theorem nS2 {m0 m1 m2 m3 k a b x c : Int} (h : bkCode m0 m1 m2 m3 k a b x = c) (hc : c ≠ 0 := by decide) : bkNow m0 m1 m2 m3 k a b x (2 : Int) = m2 := nS 2 h hc
theorem nS3 {m0 m1 m2 m3 k a b x c : Int} (h : bkCode m0 m1 m2 m3 k a b x = c) (hc : c ≠ 0 := by decide) : bkNow m0 m1 m2 m3 k a b x (3 : Int) = m3 := nS 3 h hc
theorem nSn {m0 m1 m2 m3 k a b x c : Int} (h : bkCode m0 m1 m2 m3 k a b x = c) (hc : c ≠ 0 := by decide) : bkNum m0 m1 m2 m3 k a b x = (0 : Int) := by simp only [bkNum, h, if_neg hc]
theorem cB4a_0 (b0 : Bool) (b1 : Bool) (b2 : Bool) (b3 : Bool) (b4 : Bool) (b5 : Bool) (b6 : Bool) (b7 : Bool) (b8 : Bool) (b9 : Bool) (b10 : Bool) (b11 : Bool) (b12 : Bool) (b13 : Bool) (b14 : Bool) (b15 : Bool) (z0 : Int) (z1 : Int) (z2 : Int) (z3 : Int) (z4 : Int) (z5 : Int) (z6 : Int) (z7 : Int) (z8 : Int) (z9 : Int) (z10 : Int) (z11 : Int) (z12 : Int) (z13 : Int) (z14 : Int) (z15 : Int) {R : Prop} (h : R) : (b0 : Bool) = b0 ∧ ((b1 : Bool) = b1 ∧ ((b2 : Bool) = b2 ∧ ((b3 : Bool) = b3 ∧ ((b4 : Bool) = b4 ∧ ((b5 : Bool) = b5 ∧ ((b6 : Bool) = b6 ∧ ((b7 : Bool) = b7 ∧ ((b8 : Bool) = b8 ∧ ((b9 : Bool) = b9 ∧ ((b10 : Bool) = b10 ∧ ((b11 : Bool) = b11 ∧ ((b12 : Bool) = b12 ∧ ((b13 : Bool) = b13 ∧ ((b14 : Bool) = b14 ∧ ((b15 : Bool) = b15 ∧ ((z0 : Int) = z0 ∧ ((z1 : Int) = z1 ∧ ((z2 : Int) = z2 ∧ ((z3 : Int) = z3 ∧ ((z4 : Int) = z4 ∧ ((z5 : Int) = z5 ∧ ((z6 : Int) = z6 ∧ ((z7 : Int) = z7 ∧ ((z8 : Int) = z8 ∧ ((z9 : Int) = z9 ∧ ((z10 : Int) = z10 ∧ ((z11 : Int) = z11 ∧ ((z12 : Int) = z12 ∧ ((z13 : Int) = z13 ∧ ((z14 : Int) = z14 ∧ ((z15 : Int) = z15 ∧ (R)))))))))))))))))))))))))))))))) := ⟨rfl, ⟨rfl, ⟨rfl, ⟨rfl, ⟨rfl, ⟨rfl, ⟨rfl, ⟨rfl, ⟨rfl, ⟨rfl, ⟨rfl, ⟨rfl, ⟨rfl, ⟨rfl, ⟨rfl, ⟨rfl, ⟨rfl, ⟨rfl, ⟨rfl, ⟨rfl, ⟨rfl, ⟨rfl, ⟨rfl, ⟨rfl, ⟨rfl, ⟨rfl, ⟨rfl, ⟨rfl, ⟨rfl, ⟨rfl, ⟨rfl, ⟨rfl, h⟩⟩⟩⟩⟩⟩⟩⟩⟩⟩⟩⟩⟩⟩⟩⟩⟩⟩⟩⟩⟩⟩⟩⟩⟩⟩⟩⟩⟩⟩⟩⟩
theorem cB4a_1 (z20 : Int) (z21 : Int) (z22 : Int) (z23 : Int) (z24 : Int) (z25 : Int) (z26 : Int) (z27 : Int) (z28 : Int) (z29 : Int) (z30 : Int) (z31 : Int) {R : Prop} (h : R) : (z20 : Int) = z20 ∧ ((z21 : Int) = z21 ∧ ((z22 : Int) = z22 ∧ ((z23 : Int) = z23 ∧ ((z24 : Int) = z24 ∧ ((z25 : Int) = z25 ∧ ((z26 : Int) = z26 ∧ ((z27 : Int) = z27 ∧ ((z28 : Int) = z28 ∧ ((z29 : Int) = z29 ∧ ((z30 : Int) = z30 ∧ ((z31 : Int) = z31 ∧ (True ∧ (R))))))))))))) := ⟨rfl, ⟨rfl, ⟨rfl, ⟨rfl, ⟨rfl, ⟨rfl, ⟨rfl, ⟨rfl, ⟨rfl, ⟨rfl, ⟨rfl, ⟨rfl, ⟨True.intro, h⟩⟩⟩⟩⟩⟩⟩⟩⟩⟩⟩⟩⟩
theorem cB4a_2 (z16 : Int) (z17 : Int) (z18 : Int) (z19 : Int) (z20 : Int) (z21 : Int) (z22 : Int) (z23 : Int) (z24 : Int) (z25 : Int) (z26 : Int) (z27 : Int) (z28 : Int) (z29 : Int) (z30 : Int) {R : Prop} (h : R) : (z16 : Int) = z16 ∧ ((z17 : Int) = z17 ∧ ((z18 : Int) = z18 ∧ ((z19 : Int) = z19 ∧ ((z20 : Int) = z20 ∧ ((z21 : Int) = z21 ∧ ((z22 : Int) = z22 ∧ ((z23 : Int) = z23 ∧ ((z24 : Int) = z24 ∧ ((z25 : Int) = z25 ∧ ((z26 : Int) = z26 ∧ ((z27 : Int) = z27 ∧ ((z28 : Int) = z28 ∧ ((z29 : Int) = z29 ∧ ((z30 : Int) = z30 ∧ (R))))))))))))))) := ⟨rfl, ⟨rfl, ⟨rfl, ⟨rfl, ⟨rfl, ⟨rfl, ⟨rfl, ⟨rfl, ⟨rfl, ⟨rfl, ⟨rfl, ⟨rfl, ⟨rfl, ⟨rfl, ⟨rfl, h⟩⟩⟩⟩⟩⟩⟩⟩⟩⟩⟩⟩⟩⟩⟩
variable (b0 b1 b2 b3 b4 b5 b6 b7 b8 b9 b10 b11 b12 b13 b14 b15 : Bool) (z0 z1 z2 z3 z4 z5 z6 z7 z8 z9 z10 z11 z12 z13 z14 z15 z16 z17 z18 z19 z20 z21 z22 z23 z24 z25 z26 z27 z28 z29 z30 z31 x : Int)

theorem nbk_000 : NeedRun 21 [b0, b1, b2, b3, b4, b5, b6, b7, b8, b9, b10, b11, b12, b13, b14, b15] [z0, z1, z2, z3, z4, z5, z6, z7, z8, z9, z10, z11, z12, z13, z14, z15, z16, z17, z18, z19, z20, z21, z22, z23, z24, z25, z26, z27, z28, z29, z30, z31] 0 0 0 x := by
 intro hv ho hn
 have m0 := m0_of hv
 have hx := hx_of ho
 have ho' : opMayL [0, 0, 0, x] = true := ho
 simp at hn

 rcases Bool.eq_false_or_eq_true (!allMay [z0, z1, z2, z3, z4, z5, z6, z7, z8, z9, z10, z11, z12, z13, z14, z15, z16, z17, z18, z19, z20, z21, z22, z23, z24, z25, z26, z27, z28, z29, z30, z31]) with h0 | h0
 · exact ff (by (simp [hv, ho'] at *; done))
 ·
  rcases Bool.eq_false_or_eq_true (!opMayL [(0 : Int), (0 : Int), (0 : Int), x]) with h1 | h1
  · exact ff (by (simp [hv, ho'] at *; done))
  ·
   rcases Bool.eq_false_or_eq_true (!b0) with h2 | h2
   ·
    refine vcIntro [false, false, true] (an (an h2 (an h1 (an h0 tt))) (an (an (an (show bkD [b0, b1, b2, b3, b4, b5, b6, b7, b8, b9, b10, b11, b12, b13, b14, b15] (0 : Int) (0 : Int) (0 : Int) = (0 : Int) by (simp at * <;> simp [*] <;> done)) (cB4a_0 b0 b1 b2 b3 b4 b5 b6 b7 b8 b9 b10 b11 b12 b13 b14 b15 z0 z1 z2 z3 z4 z5 z6 z7 z8 z9 z10 z11 z12 z13 z14 z15 (cB4a_2 z16 z17 z18 z19 z20 z21 z22 z23 z24 z25 z26 z27 z28 z29 z30 (an (ri z31) tt)))) tt) tt)) ?_
    kernel_rfl
   · exact ff (by (simp_all; done))

theorem dbk_000 : DoneRun 21 [b0, b1, b2, b3, b4, b5, b6, b7, b8, b9, b10, b11, b12, b13, b14, b15] [z0, z1, z2, z3, z4, z5, z6, z7, z8, z9, z10, z11, z12, z13, z14, z15, z16, z17, z18, z19, z20, z21, z22, z23, z24, z25, z26, z27, z28, z29, z30, z31] 0 0 0 x := by
 intro hv ho hn
 have m0 := m0_of hv
 have hx := hx_of ho
 have ho' : opMayL [0, 0, 0, x] = true := ho
 simp at hn

 rcases Bool.eq_false_or_eq_true (!allMay [z0, z1, z2, z3, z4, z5, z6, z7, z8, z9, z10, z11, z12, z13, z14, z15, z16, z17, z18, z19, z20, z21, z22, z23, z24, z25, z26, z27, z28, z29, z30, z31]) with h0 | h0
 · exact ff (by (simp [hv, ho'] at *; done))
 ·
  rcases Bool.eq_false_or_eq_true (!opMayL [(0 : Int), (0 : Int), (0 : Int), x]) with h1 | h1
  · exact ff (by (simp [hv, ho'] at *; done))
  ·
   rcases Bool.eq_false_or_eq_true (!b0) with h2 | h2
   · exact ff (by (simp_all; done))
   ·
    rcases Bool.eq_false_or_eq_true (decide (z16 > (0 : Int))) with h3 | h3
    ·
     have e : bkCode z16 z17 z18 z19 (0 : Int) (0 : Int) (0 : Int) x = (1 : Int) := by (simp at * <;> simp [*] <;> done)
     refine vcIntro [false, false, false, true] (an (an h3 (an h2 (an h1 (an h0 tt)))) (an (an (an tt (cB4a_0 b0 b1 b2 b3 b4 b5 b6 b7 b8 b9 b10 b11 b12 b13 b14 b15 z0 z1 z2 z3 z4 z5 z6 z7 z8 z9 z10 z11 z12 z13 z14 z15 (an (nS0 e) (an (nS1 e) (an (nS2 e) (an (nS3 e) (cB4a_1 z20 z21 z22 z23 z24 z25 z26 z27 z28 z29 z30 z31 (an tt tt)))))))) tt) (an (an (@Eq.refl (Nat) ((0 : Nat))) (an (show ∀ (k : Nat), k < (0 : Nat) → (0 : Int) = (0 : Int) from fun _ _ => rfl) (an e (nSn e)))) tt))) ?_
     kernel_rfl
    ·
     refine vcIntro [false, false, false, false] (an (an h3 (an h2 (an h1 (an h0 tt)))) (an (an (an tt (cB4a_0 b0 b1 b2 b3 b4 b5 b6 b7 b8 b9 b10 b11 b12 b13 b14 b15 z0 z1 z2 z3 z4 z5 z6 z7 z8 z9 z10 z11 z12 z13 z14 z15 (an (show bkNow z16 z17 z18 z19 (0 : Int) (0 : Int) (0 : Int) x (0 : Int) = IntKind.i64.wrap (x + (1 : Int)) by (simp (disch := omega) only [wrapk] at *; simp at * <;> (repeat' split) <;> omega)) (an (show bkNow z16 z17 z18 z19 (0 : Int) (0 : Int) (0 : Int) x (1 : Int) = z17 by (simp; done)) (an (show bkNow z16 z17 z18 z19 (0 : Int) (0 : Int) (0 : Int) x (2 : Int) = z18 by (simp; done)) (an (show bkNow z16 z17 z18 z19 (0 : Int) (0 : Int) (0 : Int) x (3 : Int) = z19 by (simp; done)) (cB4a_1 z20 z21 z22 z23 z24 z25 z26 z27 z28 z29 z30 z31 (an tt tt)))))))) tt) (an (an (@Eq.refl (Nat) ((0 : Nat))) (an (show ∀ (k : Nat), k < (0 : Nat) → (0 : Int) = (0 : Int) from fun _ _ => rfl) (an (show bkCode z16 z17 z18 z19 (0 : Int) (0 : Int) (0 : Int) x = (0 : Int) by (simp at * <;> simp [*] <;> done)) (show bkNum z16 z17 z18 z19 (0 : Int) (0 : Int) (0 : Int) x = x by (simp at * <;> (repeat' split) <;> omega))))) tt))) ?_
     kernel_rfl

theorem nbk_010 : NeedRun 21 [b0, b1, b2, b3, b4, b5, b6, b7, b8, b9, b10, b11, b12, b13, b14, b15] [z0, z1, z2, z3, z4, z5, z6, z7, z8, z9, z10, z11, z12, z13, z14, z15, z16, z17, z18, z19, z20, z21, z22, z23, z24, z25, z26, z27, z28, z29, z30, z31] 0 1 0 x := by
 intro hv ho hn
 have m0 := m0_of hv
 have hx := hx_of ho
 have ho' : opMayL [0, 1, 0, x] = true := ho
 simp at hn

 rcases Bool.eq_false_or_eq_true (!allMay [z0, z1, z2, z3, z4, z5, z6, z7, z8, z9, z10, z11, z12, z13, z14, z15, z16, z17, z18, z19, z20, z21, z22, z23, z24, z25, z26, z27, z28, z29, z30, z31]) with h0 | h0
 · exact ff (by (simp [hv, ho'] at *; done))
 ·
  rcases Bool.eq_false_or_eq_true (!opMayL [(0 : Int), (1 : Int), (0 : Int), x]) with h1 | h1
  · exact ff (by (simp [hv, ho'] at *; done))
  ·
   rcases Bool.eq_false_or_eq_true (!b1) with h2 | h2
   ·
    refine vcIntro [false, false, true] (an (an h2 (an h1 (an h0 tt))) (an (an (an (show bkD [b0, b1, b2, b3, b4, b5, b6, b7, b8, b9, b10, b11, b12, b13, b14, b15] (0 : Int) (1 : Int) (0 : Int) = (1 : Int) by (simp at * <;> simp [*] <;> done)) (cB4a_0 b0 b1 b2 b3 b4 b5 b6 b7 b8 b9 b10 b11 b12 b13 b14 b15 z0 z1 z2 z3 z4 z5 z6 z7 z8 z9 z10 z11 z12 z13 z14 z15 (cB4a_2 z16 z17 z18 z19 z20 z21 z22 z23 z24 z25 z26 z27 z28 z29 z30 (an (ri z31) tt)))) tt) tt)) ?_
    kernel_rfl
   · exact ff (by (simp_all; done))

theorem dbk_010 : DoneRun 21 [b0, b1, b2, b3, b4, b5, b6, b7, b8, b9, b10, b11, b12, b13, b14, b15] [z0, z1, z2, z3, z4, z5, z6, z7, z8, z9, z10, z11, z12, z13, z14, z15, z16, z17, z18, z19, z20, z21, z22, z23, z24, z25, z26, z27, z28, z29, z30, z31] 0 1 0 x := by
 intro hv ho hn
 have m0 := m0_of hv
 have hx := hx_of ho
 have ho' : opMayL [0, 1, 0, x] = true := ho
 simp at hn

 rcases Bool.eq_false_or_eq_true (!allMay [z0, z1, z2, z3, z4, z5, z6, z7, z8, z9, z10, z11, z12, z13, z14, z15, z16, z17, z18, z19, z20, z21, z22, z23, z24, z25, z26, z27, z28, z29, z30, z31]) with h0 | h0
 · exact ff (by (simp [hv, ho'] at *; done))
 ·
  rcases Bool.eq_false_or_eq_true (!opMayL [(0 : Int), (1 : Int), (0 : Int), x]) with h1 | h1
  · exact ff (by (simp [hv, ho'] at *; done))
  ·
   rcases Bool.eq_false_or_eq_true (!b1) with h2 | h2
   · exact ff (by (simp_all; done))
   ·
    rcases Bool.eq_false_or_eq_true (decide (z17 > (0 : Int))) with h3 | h3
    ·
     have e : bkCode z16 z17 z18 z19 (0 : Int) (1 : Int) (0 : Int) x = (1 : Int) := by (simp at * <;> simp [*] <;> done)
     refine vcIntro [false, false, false, true] (an (an h3 (an h2 (an h1 (an h0 tt)))) (an (an (an tt (cB4a_0 b0 b1 b2 b3 b4 b5 b6 b7 b8 b9 b10 b11 b12 b13 b14 b15 z0 z1 z2 z3 z4 z5 z6 z7 z8 z9 z10 z11 z12 z13 z14 z15 (an (nS0 e) (an (nS1 e) (an (nS2 e) (an (nS3 e) (cB4a_1 z20 z21 z22 z23 z24 z25 z26 z27 z28 z29 z30 z31 (an tt tt)))))))) tt) (an (an (@Eq.refl (Nat) ((0 : Nat))) (an (show ∀ (k : Nat), k < (0 : Nat) → (0 : Int) = (0 : Int) from fun _ _ => rfl) (an e (nSn e)))) tt))) ?_
     kernel_rfl
    ·
     refine vcIntro [false, false, false, false] (an (an h3 (an h2 (an h1 (an h0 tt)))) (an (an (an tt (cB4a_0 b0 b1 b2 b3 b4 b5 b6 b7 b8 b9 b10 b11 b12 b13 b14 b15 z0 z1 z2 z3 z4 z5 z6 z7 z8 z9 z10 z11 z12 z13 z14 z15 (an (show bkNow z16 z17 z18 z19 (0 : Int) (1 : Int) (0 : Int) x (0 : Int) = z16 by (simp; done)) (an (show bkNow z16 z17 z18 z19 (0 : Int) (1 : Int) (0 : Int) x (1 : Int) = IntKind.i64.wrap (x + (1 : Int)) by (simp (disch := omega) only [wrapk] at *; simp at * <;> (repeat' split) <;> omega)) (an (show bkNow z16 z17 z18 z19 (0 : Int) (1 : Int) (0 : Int) x (2 : Int) = z18 by (simp; done)) (an (show bkNow z16 z17 z18 z19 (0 : Int) (1 : Int) (0 : Int) x (3 : Int) = z19 by (simp; done)) (cB4a_1 z20 z21 z22 z23 z24 z25 z26 z27 z28 z29 z30 z31 (an tt tt)))))))) tt) (an (an (@Eq.refl (Nat) ((0 : Nat))) (an (show ∀ (k : Nat), k < (0 : Nat) → (0 : Int) = (0 : Int) from fun _ _ => rfl) (an (show bkCode z16 z17 z18 z19 (0 : Int) (1 : Int) (0 : Int) x = (0 : Int) by (simp at * <;> simp [*] <;> done)) (show bkNum z16 z17 z18 z19 (0 : Int) (1 : Int) (0 : Int) x = x by (simp at * <;> (repeat' split) <;> omega))))) tt))) ?_
     kernel_rfl

theorem nbk_020 : NeedRun 21 [b0, b1, b2, b3, b4, b5, b6, b7, b8, b9, b10, b11, b12, b13, b14, b15] [z0, z1, z2, z3, z4, z5, z6, z7, z8, z9, z10, z11, z12, z13, z14, z15, z16, z17, z18, z19, z20, z21, z22, z23, z24, z25, z26, z27, z28, z29, z30, z31] 0 2 0 x := by
 intro hv ho hn
 have m0 := m0_of hv
 have hx := hx_of ho
 have ho' : opMayL [0, 2, 0, x] = true := ho
 simp at hn

 rcases Bool.eq_false_or_eq_true (!allMay [z0, z1, z2, z3, z4, z5, z6, z7, z8, z9, z10, z11, z12, z13, z14, z15, z16, z17, z18, z19, z20, z21, z22, z23, z24, z25, z26, z27, z28, z29, z30, z31]) with h0 | h0
 · exact ff (by (simp [hv, ho'] at *; done))
 ·
  rcases Bool.eq_false_or_eq_true (!opMayL [(0 : Int), (2 : Int), (0 : Int), x]) with h1 | h1
  · exact ff (by (simp [hv, ho'] at *; done))
  ·
   rcases Bool.eq_false_or_eq_true (!b2) with h2 | h2
   ·
    refine vcIntro [false, false, true] (an (an h2 (an h1 (an h0 tt))) (an (an (an (show bkD [b0, b1, b2, b3, b4, b5, b6, b7, b8, b9, b10, b11, b12, b13, b14, b15] (0 : Int) (2 : Int) (0 : Int) = (2 : Int) by (simp at * <;> simp [*] <;> done)) (cB4a_0 b0 b1 b2 b3 b4 b5 b6 b7 b8 b9 b10 b11 b12 b13 b14 b15 z0 z1 z2 z3 z4 z5 z6 z7 z8 z9 z10 z11 z12 z13 z14 z15 (cB4a_2 z16 z17 z18 z19 z20 z21 z22 z23 z24 z25 z26 z27 z28 z29 z30 (an (ri z31) tt)))) tt) tt)) ?_
    kernel_rfl
   · exact ff (by (simp_all; done))

theorem dbk_020 : DoneRun 21 [b0, b1, b2, b3, b4, b5, b6, b7, b8, b9, b10, b11, b12, b13, b14, b15] [z0, z1, z2, z3, z4, z5, z6, z7, z8, z9, z10, z11, z12, z13, z14, z15, z16, z17, z18, z19, z20, z21, z22, z23, z24, z25, z26, z27, z28, z29, z30, z31] 0 2 0 x := by
 intro hv ho hn
 have m0 := m0_of hv
 have hx := hx_of ho
 have ho' : opMayL [0, 2, 0, x] = true := ho
 simp at hn

 rcases Bool.eq_false_or_eq_true (!allMay [z0, z1, z2, z3, z4, z5, z6, z7, z8, z9, z10, z11, z12, z13, z14, z15, z16, z17, z18, z19, z20, z21, z22, z23, z24, z25, z26, z27, z28, z29, z30, z31]) with h0 | h0
 · exact ff (by (simp [hv, ho'] at *; done))
 ·
  rcases Bool.eq_false_or_eq_true (!opMayL [(0 : Int), (2 : Int), (0 : Int), x]) with h1 | h1
  · exact ff (by (simp [hv, ho'] at *; done))
  ·
   rcases Bool.eq_false_or_eq_true (!b2) with h2 | h2
   · exact ff (by (simp_all; done))
   ·
    rcases Bool.eq_false_or_eq_true (decide (z18 > (0 : Int))) with h3 | h3
    ·
     have e : bkCode z16 z17 z18 z19 (0 : Int) (2 : Int) (0 : Int) x = (1 : Int) := by (simp at * <;> simp [*] <;> done)
     refine vcIntro [false, false, false, true] (an (an h3 (an h2 (an h1 (an h0 tt)))) (an (an (an tt (cB4a_0 b0 b1 b2 b3 b4 b5 b6 b7 b8 b9 b10 b11 b12 b13 b14 b15 z0 z1 z2 z3 z4 z5 z6 z7 z8 z9 z10 z11 z12 z13 z14 z15 (an (nS0 e) (an (nS1 e) (an (nS2 e) (an (nS3 e) (cB4a_1 z20 z21 z22 z23 z24 z25 z26 z27 z28 z29 z30 z31 (an tt tt)))))))) tt) (an (an (@Eq.refl (Nat) ((0 : Nat))) (an (show ∀ (k : Nat), k < (0 : Nat) → (0 : Int) = (0 : Int) from fun _ _ => rfl) (an e (nSn e)))) tt))) ?_
     kernel_rfl
    ·
     refine vcIntro [false, false, false, false] (an (an h3 (an h2 (an h1 (an h0 tt)))) (an (an (an tt (cB4a_0 b0 b1 b2 b3 b4 b5 b6 b7 b8 b9 b10 b11 b12 b13 b14 b15 z0 z1 z2 z3 z4 z5 z6 z7 z8 z9 z10 z11 z12 z13 z14 z15 (an (show bkNow z16 z17 z18 z19 (0 : Int) (2 : Int) (0 : Int) x (0 : Int) = z16 by (simp; done)) (an (show bkNow z16 z17 z18 z19 (0 : Int) (2 : Int) (0 : Int) x (1 : Int) = z17 by (simp; done)) (an (show bkNow z16 z17 z18 z19 (0 : Int) (2 : Int) (0 : Int) x (2 : Int) = IntKind.i64.wrap (x + (1 : Int)) by (simp (disch := omega) only [wrapk] at *; simp at * <;> (repeat' split) <;> omega)) (an (show bkNow z16 z17 z18 z19 (0 : Int) (2 : Int) (0 : Int) x (3 : Int) = z19 by (simp; done)) (cB4a_1 z20 z21 z22 z23 z24 z25 z26 z27 z28 z29 z30 z31 (an tt tt)))))))) tt) (an (an (@Eq.refl (Nat) ((0 : Nat))) (an (show ∀ (k : Nat), k < (0 : Nat) → (0 : Int) = (0 : Int) from fun _ _ => rfl) (an (show bkCode z16 z17 z18 z19 (0 : Int) (2 : Int) (0 : Int) x = (0 : Int) by (simp at * <;> simp [*] <;> done)) (show bkNum z16 z17 z18 z19 (0 : Int) (2 : Int) (0 : Int) x = x by (simp at * <;> (repeat' split) <;> omega))))) tt))) ?_
     kernel_rfl

theorem nbk_030 : NeedRun 21 [b0, b1, b2, b3, b4, b5, b6, b7, b8, b9, b10, b11, b12, b13, b14, b15] [z0, z1, z2, z3, z4, z5, z6, z7, z8, z9, z10, z11, z12, z13, z14, z15, z16, z17, z18, z19, z20, z21, z22, z23, z24, z25, z26, z27, z28, z29, z30, z31] 0 3 0 x := by
 intro hv ho hn
 have m0 := m0_of hv
 have hx := hx_of ho
 have ho' : opMayL [0, 3, 0, x] = true := ho
 simp at hn

 rcases Bool.eq_false_or_eq_true (!allMay [z0, z1, z2, z3, z4, z5, z6, z7, z8, z9, z10, z11, z12, z13, z14, z15, z16, z17, z18, z19, z20, z21, z22, z23, z24, z25, z26, z27, z28, z29, z30, z31]) with h0 | h0
 · exact ff (by (simp [hv, ho'] at *; done))
 ·
  rcases Bool.eq_false_or_eq_true (!opMayL [(0 : Int), (3 : Int), (0 : Int), x]) with h1 | h1
  · exact ff (by (simp [hv, ho'] at *; done))
  ·
   rcases Bool.eq_false_or_eq_true (!b3) with h2 | h2
   ·
    refine vcIntro [false, false, true] (an (an h2 (an h1 (an h0 tt))) (an (an (an (show bkD [b0, b1, b2, b3, b4, b5, b6, b7, b8, b9, b10, b11, b12, b13, b14, b15] (0 : Int) (3 : Int) (0 : Int) = (3 : Int) by (simp at * <;> simp [*] <;> done)) (cB4a_0 b0 b1 b2 b3 b4 b5 b6 b7 b8 b9 b10 b11 b12 b13 b14 b15 z0 z1 z2 z3 z4 z5 z6 z7 z8 z9 z10 z11 z12 z13 z14 z15 (cB4a_2 z16 z17 z18 z19 z20 z21 z22 z23 z24 z25 z26 z27 z28 z29 z30 (an (ri z31) tt)))) tt) tt)) ?_
    kernel_rfl
   · exact ff (by (simp_all; done))

theorem dbk_030 : DoneRun 21 [b0, b1, b2, b3, b4, b5, b6, b7, b8, b9, b10, b11, b12, b13, b14, b15] [z0, z1, z2, z3, z4, z5, z6, z7, z8, z9, z10, z11, z12, z13, z14, z15, z16, z17, z18, z19, z20, z21, z22, z23, z24, z25, z26, z27, z28, z29, z30, z31] 0 3 0 x := by
 intro hv ho hn
 have m0 := m0_of hv
 have hx := hx_of ho
 have ho' : opMayL [0, 3, 0, x] = true := ho
 simp at hn

 rcases Bool.eq_false_or_eq_true (!allMay [z0, z1, z2, z3, z4, z5, z6, z7, z8, z9, z10, z11, z12, z13, z14, z15, z16, z17, z18, z19, z20, z21, z22, z23, z24, z25, z26, z27, z28, z29, z30, z31]) with h0 | h0
 · exact ff (by (simp [hv, ho'] at *; done))
 ·
  rcases Bool.eq_false_or_eq_true (!opMayL [(0 : Int), (3 : Int), (0 : Int), x]) with h1 | h1
  · exact ff (by (simp [hv, ho'] at *; done))
  ·
   rcases Bool.eq_false_or_eq_true (!b3) with h2 | h2
   · exact ff (by (simp_all; done))
   ·
    rcases Bool.eq_false_or_eq_true (decide (z19 > (0 : Int))) with h3 | h3
    ·
     have e : bkCode z16 z17 z18 z19 (0 : Int) (3 : Int) (0 : Int) x = (1 : Int) := by (simp at * <;> simp [*] <;> done)
     refine vcIntro [false, false, false, true] (an (an h3 (an h2 (an h1 (an h0 tt)))) (an (an (an tt (cB4a_0 b0 b1 b2 b3 b4 b5 b6 b7 b8 b9 b10 b11 b12 b13 b14 b15 z0 z1 z2 z3 z4 z5 z6 z7 z8 z9 z10 z11 z12 z13 z14 z15 (an (nS0 e) (an (nS1 e) (an (nS2 e) (an (nS3 e) (cB4a_1 z20 z21 z22 z23 z24 z25 z26 z27 z28 z29 z30 z31 (an tt tt)))))))) tt) (an (an (@Eq.refl (Nat) ((0 : Nat))) (an (show ∀ (k : Nat), k < (0 : Nat) → (0 : Int) = (0 : Int) from fun _ _ => rfl) (an e (nSn e)))) tt))) ?_
     kernel_rfl
    ·
     refine vcIntro [false, false, false, false] (an (an h3 (an h2 (an h1 (an h0 tt)))) (an (an (an tt (cB4a_0 b0 b1 b2 b3 b4 b5 b6 b7 b8 b9 b10 b11 b12 b13 b14 b15 z0 z1 z2 z3 z4 z5 z6 z7 z8 z9 z10 z11 z12 z13 z14 z15 (an (show bkNow z16 z17 z18 z19 (0 : Int) (3 : Int) (0 : Int) x (0 : Int) = z16 by (simp; done)) (an (show bkNow z16 z17 z18 z19 (0 : Int) (3 : Int) (0 : Int) x (1 : Int) = z17 by (simp; done)) (an (show bkNow z16 z17 z18 z19 (0 : Int) (3 : Int) (0 : Int) x (2 : Int) = z18 by (simp; done)) (an (show bkNow z16 z17 z18 z19 (0 : Int) (3 : Int) (0 : Int) x (3 : Int) = IntKind.i64.wrap (x + (1 : Int)) by (simp (disch := omega) only [wrapk] at *; simp at * <;> (repeat' split) <;> omega)) (cB4a_1 z20 z21 z22 z23 z24 z25 z26 z27 z28 z29 z30 z31 (an tt tt)))))))) tt) (an (an (@Eq.refl (Nat) ((0 : Nat))) (an (show ∀ (k : Nat), k < (0 : Nat) → (0 : Int) = (0 : Int) from fun _ _ => rfl) (an (show bkCode z16 z17 z18 z19 (0 : Int) (3 : Int) (0 : Int) x = (0 : Int) by (simp at * <;> simp [*] <;> done)) (show bkNum z16 z17 z18 z19 (0 : Int) (3 : Int) (0 : Int) x = x by (simp at * <;> (repeat' split) <;> omega))))) tt))) ?_
     kernel_rfl

theorem nbk_100 : NeedRun 21 [b0, b1, b2, b3, b4, b5, b6, b7, b8, b9, b10, b11, b12, b13, b14, b15] [z0, z1, z2, z3, z4, z5, z6, z7, z8, z9, z10, z11, z12, z13, z14, z15, z16, z17, z18, z19, z20, z21, z22, z23, z24, z25, z26, z27, z28, z29, z30, z31] 1 0 0 x := by
 intro hv ho hn
 have m0 := m0_of hv
 have hx := hx_of ho
 have ho' : opMayL [1, 0, 0, x] = true := ho
 simp at hn

 rcases Bool.eq_false_or_eq_true (!allMay [z0, z1, z2, z3, z4, z5, z6, z7, z8, z9, z10, z11, z12, z13, z14, z15, z16, z17, z18, z19, z20, z21, z22, z23, z24, z25, z26, z27, z28, z29, z30, z31]) with h0 | h0
 · exact ff (by (simp [hv, ho'] at *; done))
 ·
  rcases Bool.eq_false_or_eq_true (!opMayL [(1 : Int), (0 : Int), (0 : Int), x]) with h1 | h1
  · exact ff (by (simp [hv, ho'] at *; done))
  ·
   rcases Bool.eq_false_or_eq_true (!b0) with h2 | h2
   ·
    refine vcIntro [false, false, true] (an (an h2 (an h1 (an h0 tt))) (an (an (an (show bkD [b0, b1, b2, b3, b4, b5, b6, b7, b8, b9, b10, b11, b12, b13, b14, b15] (1 : Int) (0 : Int) (0 : Int) = (0 : Int) by (simp at * <;> simp [*] <;> done)) (cB4a_0 b0 b1 b2 b3 b4 b5 b6 b7 b8 b9 b10 b11 b12 b13 b14 b15 z0 z1 z2 z3 z4 z5 z6 z7 z8 z9 z10 z11 z12 z13 z14 z15 (cB4a_2 z16 z17 z18 z19 z20 z21 z22 z23 z24 z25 z26 z27 z28 z29 z30 (an (ri z31) tt)))) tt) tt)) ?_
    kernel_rfl
   · exact ff (by (simp_all; done))

theorem dbk_100 : DoneRun 21 [b0, b1, b2, b3, b4, b5, b6, b7, b8, b9, b10, b11, b12, b13, b14, b15] [z0, z1, z2, z3, z4, z5, z6, z7, z8, z9, z10, z11, z12, z13, z14, z15, z16, z17, z18, z19, z20, z21, z22, z23, z24, z25, z26, z27, z28, z29, z30, z31] 1 0 0 x := by
 intro hv ho hn
 have m0 := m0_of hv
 have hx := hx_of ho
 have ho' : opMayL [1, 0, 0, x] = true := ho
 simp at hn

 rcases Bool.eq_false_or_eq_true (!allMay [z0, z1, z2, z3, z4, z5, z6, z7, z8, z9, z10, z11, z12, z13, z14, z15, z16, z17, z18, z19, z20, z21, z22, z23, z24, z25, z26, z27, z28, z29, z30, z31]) with h0 | h0
 · exact ff (by (simp [hv, ho'] at *; done))
 ·
  rcases Bool.eq_false_or_eq_true (!opMayL [(1 : Int), (0 : Int), (0 : Int), x]) with h1 | h1
  · exact ff (by (simp [hv, ho'] at *; done))
  ·
   rcases Bool.eq_false_or_eq_true (!b0) with h2 | h2
   · exact ff (by (simp_all; done))
   ·
    rcases Bool.eq_false_or_eq_true (!decide (z16 > (0 : Int))) with h3 | h3
    ·
     have e : bkCode z16 z17 z18 z19 (1 : Int) (0 : Int) (0 : Int) x = (2 : Int) := by (simp at * <;> simp [*] <;> done)
     refine vcIntro [false, false, false, true] (an (an h3 (an h2 (an h1 (an h0 tt)))) (an (an (an tt (cB4a_0 b0 b1 b2 b3 b4 b5 b6 b7 b8 b9 b10 b11 b12 b13 b14 b15 z0 z1 z2 z3 z4 z5 z6 z7 z8 z9 z10 z11 z12 z13 z14 z15 (an (nS0 e) (an (nS1 e) (an (nS2 e) (an (nS3 e) (cB4a_1 z20 z21 z22 z23 z24 z25 z26 z27 z28 z29 z30 z31 (an tt tt)))))))) tt) (an (an (@Eq.refl (Nat) ((0 : Nat))) (an (show ∀ (k : Nat), k < (0 : Nat) → (0 : Int) = (0 : Int) from fun _ _ => rfl) (an e (nSn e)))) tt))) ?_
     kernel_rfl
    ·
     refine vcIntro [false, false, false, false] (an (an h3 (an h2 (an h1 (an h0 tt)))) (an (an (an tt (cB4a_0 b0 b1 b2 b3 b4 b5 b6 b7 b8 b9 b10 b11 b12 b13 b14 b15 z0 z1 z2 z3 z4 z5 z6 z7 z8 z9 z10 z11 z12 z13 z14 z15 (an (show bkNow z16 z17 z18 z19 (1 : Int) (0 : Int) (0 : Int) x (0 : Int) = (0 : Int) by (simp at * <;> (repeat' split) <;> omega)) (an (show bkNow z16 z17 z18 z19 (1 : Int) (0 : Int) (0 : Int) x (1 : Int) = z17 by (simp; done)) (an (show bkNow z16 z17 z18 z19 (1 : Int) (0 : Int) (0 : Int) x (2 : Int) = z18 by (simp; done)) (an (show bkNow z16 z17 z18 z19 (1 : Int) (0 : Int) (0 : Int) x (3 : Int) = z19 by (simp; done)) (cB4a_1 z20 z21 z22 z23 z24 z25 z26 z27 z28 z29 z30 z31 (an tt tt)))))))) tt) (an (an (@Eq.refl (Nat) ((0 : Nat))) (an (show ∀ (k : Nat), k < (0 : Nat) → (0 : Int) = (0 : Int) from fun _ _ => rfl) (an (show bkCode z16 z17 z18 z19 (1 : Int) (0 : Int) (0 : Int) x = (0 : Int) by (simp at * <;> simp [*] <;> done)) (show bkNum z16 z17 z18 z19 (1 : Int) (0 : Int) (0 : Int) x = IntKind.i64.wrap (z16 - (1 : Int)) by (simp (disch := omega) only [wrapk] at *; simp at * <;> (repeat' split) <;> omega))))) tt))) ?_
     kernel_rfl

theorem nbk_110 : NeedRun 21 [b0, b1, b2, b3, b4, b5, b6, b7, b8, b9, b10, b11, b12, b13, b14, b15] [z0, z1, z2, z3, z4, z5, z6, z7, z8, z9, z10, z11, z12, z13, z14, z15, z16, z17, z18, z19, z20, z21, z22, z23, z24, z25, z26, z27, z28, z29, z30, z31] 1 1 0 x := by
 intro hv ho hn
 have m0 := m0_of hv
 have hx := hx_of ho
 have ho' : opMayL [1, 1, 0, x] = true := ho
 simp at hn

 rcases Bool.eq_false_or_eq_true (!allMay [z0, z1, z2, z3, z4, z5, z6, z7, z8, z9, z10, z11, z12, z13, z14, z15, z16, z17, z18, z19, z20, z21, z22, z23, z24, z25, z26, z27, z28, z29, z30, z31]) with h0 | h0
 · exact ff (by (simp [hv, ho'] at *; done))
 ·
  rcases Bool.eq_false_or_eq_true (!opMayL [(1 : Int), (1 : Int), (0 : Int), x]) with h1 | h1
  · exact ff (by (simp [hv, ho'] at *; done))
  ·
   rcases Bool.eq_false_or_eq_true (!b1) with h2 | h2
   ·
    refine vcIntro [false, false, true] (an (an h2 (an h1 (an h0 tt))) (an (an (an (show bkD [b0, b1, b2, b3, b4, b5, b6, b7, b8, b9, b10, b11, b12, b13, b14, b15] (1 : Int) (1 : Int) (0 : Int) = (1 : Int) by (simp at * <;> simp [*] <;> done)) (cB4a_0 b0 b1 b2 b3 b4 b5 b6 b7 b8 b9 b10 b11 b12 b13 b14 b15 z0 z1 z2 z3 z4 z5 z6 z7 z8 z9 z10 z11 z12 z13 z14 z15 (cB4a_2 z16 z17 z18 z19 z20 z21 z22 z23 z24 z25 z26 z27 z28 z29 z30 (an (ri z31) tt)))) tt) tt)) ?_
    kernel_rfl
   · exact ff (by (simp_all; done))

theorem dbk_110 : DoneRun 21 [b0, b1, b2, b3, b4, b5, b6, b7, b8, b9, b10, b11, b12, b13, b14, b15] [z0, z1, z2, z3, z4, z5, z6, z7, z8, z9, z10, z11, z12, z13, z14, z15, z16, z17, z18, z19, z20, z21, z22, z23, z24, z25, z26, z27, z28, z29, z30, z31] 1 1 0 x := by
 intro hv ho hn
 have m0 := m0_of hv
 have hx := hx_of ho
 have ho' : opMayL [1, 1, 0, x] = true := ho
 simp at hn

 rcases Bool.eq_false_or_eq_true (!allMay [z0, z1, z2, z3, z4, z5, z6, z7, z8, z9, z10, z11, z12, z13, z14, z15, z16, z17, z18, z19, z20, z21, z22, z23, z24, z25, z26, z27, z28, z29, z30, z31]) with h0 | h0
 · exact ff (by (simp [hv, ho'] at *; done))
 ·
  rcases Bool.eq_false_or_eq_true (!opMayL [(1 : Int), (1 : Int), (0 : Int), x]) with h1 | h1
  · exact ff (by (simp [hv, ho'] at *; done))
  ·
   rcases Bool.eq_false_or_eq_true (!b1) with h2 | h2
   · exact ff (by (simp_all; done))
   ·
    rcases Bool.eq_false_or_eq_true (!decide (z17 > (0 : Int))) with h3 | h3
    ·
     have e : bkCode z16 z17 z18 z19 (1 : Int) (1 : Int) (0 : Int) x = (2 : Int) := by (simp at * <;> simp [*] <;> done)
     refine vcIntro [false, false, false, true] (an (an h3 (an h2 (an h1 (an h0 tt)))) (an (an (an tt (cB4a_0 b0 b1 b2 b3 b4 b5 b6 b7 b8 b9 b10 b11 b12 b13 b14 b15 z0 z1 z2 z3 z4 z5 z6 z7 z8 z9 z10 z11 z12 z13 z14 z15 (an (nS0 e) (an (nS1 e) (an (nS2 e) (an (nS3 e) (cB4a_1 z20 z21 z22 z23 z24 z25 z26 z27 z28 z29 z30 z31 (an tt tt)))))))) tt) (an (an (@Eq.refl (Nat) ((0 : Nat))) (an (show ∀ (k : Nat), k < (0 : Nat) → (0 : Int) = (0 : Int) from fun _ _ => rfl) (an e (nSn e)))) tt))) ?_
     kernel_rfl
    ·
     refine vcIntro [false, false, false, false] (an (an h3 (an h2 (an h1 (an h0 tt)))) (an (an (an tt (cB4a_0 b0 b1 b2 b3 b4 b5 b6 b7 b8 b9 b10 b11 b12 b13 b14 b15 z0 z1 z2 z3 z4 z5 z6 z7 z8 z9 z10 z11 z12 z13 z14 z15 (an (show bkNow z16 z17 z18 z19 (1 : Int) (1 : Int) (0 : Int) x (0 : Int) = z16 by (simp; done)) (an (show bkNow z16 z17 z18 z19 (1 : Int) (1 : Int) (0 : Int) x (1 : Int) = (0 : Int) by (simp at * <;> (repeat' split) <;> omega)) (an (show bkNow z16 z17 z18 z19 (1 : Int) (1 : Int) (0 : Int) x (2 : Int) = z18 by (simp; done)) (an (show bkNow z16 z17 z18 z19 (1 : Int) (1 : Int) (0 : Int) x (3 : Int) = z19 by (simp; done)) (cB4a_1 z20 z21 z22 z23 z24 z25 z26 z27 z28 z29 z30 z31 (an tt tt)))))))) tt) (an (an (@Eq.refl (Nat) ((0 : Nat))) (an (show ∀ (k : Nat), k < (0 : Nat) → (0 : Int) = (0 : Int) from fun _ _ => rfl) (an (show bkCode z16 z17 z18 z19 (1 : Int) (1 : Int) (0 : Int) x = (0 : Int) by (simp at * <;> simp [*] <;> done)) (show bkNum z16 z17 z18 z19 (1 : Int) (1 : Int) (0 : Int) x = IntKind.i64.wrap (z17 - (1 : Int)) by (simp (disch := omega) only [wrapk] at *; simp at * <;> (repeat' split) <;> omega))))) tt))) ?_
     kernel_rfl

theorem nbk_120 : NeedRun 21 [b0, b1, b2, b3, b4, b5, b6, b7, b8, b9, b10, b11, b12, b13, b14, b15] [z0, z1, z2, z3, z4, z5, z6, z7, z8, z9, z10, z11, z12, z13, z14, z15, z16, z17, z18, z19, z20, z21, z22, z23, z24, z25, z26, z27, z28, z29, z30, z31] 1 2 0 x := by
 intro hv ho hn
 have m0 := m0_of hv
 have hx := hx_of ho
 have ho' : opMayL [1, 2, 0, x] = true := ho
 simp at hn

 rcases Bool.eq_false_or_eq_true (!allMay [z0, z1, z2, z3, z4, z5, z6, z7, z8, z9, z10, z11, z12, z13, z14, z15, z16, z17, z18, z19, z20, z21, z22, z23, z24, z25, z26, z27, z28, z29, z30, z31]) with h0 | h0
 · exact ff (by (simp [hv, ho'] at *; done))
 ·
  rcases Bool.eq_false_or_eq_true (!opMayL [(1 : Int), (2 : Int), (0 : Int), x]) with h1 | h1
  · exact ff (by (simp [hv, ho'] at *; done))
  ·
   rcases Bool.eq_false_or_eq_true (!b2) with h2 | h2
   ·
    refine vcIntro [false, false, true] (an (an h2 (an h1 (an h0 tt))) (an (an (an (show bkD [b0, b1, b2, b3, b4, b5, b6, b7, b8, b9, b10, b11, b12, b13, b14, b15] (1 : Int) (2 : Int) (0 : Int) = (2 : Int) by (simp at * <;> simp [*] <;> done)) (cB4a_0 b0 b1 b2 b3 b4 b5 b6 b7 b8 b9 b10 b11 b12 b13 b14 b15 z0 z1 z2 z3 z4 z5 z6 z7 z8 z9 z10 z11 z12 z13 z14 z15 (cB4a_2 z16 z17 z18 z19 z20 z21 z22 z23 z24 z25 z26 z27 z28 z29 z30 (an (ri z31) tt)))) tt) tt)) ?_
    kernel_rfl
   · exact ff (by (simp_all; done))

theorem dbk_120 : DoneRun 21 [b0, b1, b2, b3, b4, b5, b6, b7, b8, b9, b10, b11, b12, b13, b14, b15] [z0, z1, z2, z3, z4, z5, z6, z7, z8, z9, z10, z11, z12, z13, z14, z15, z16, z17, z18, z19, z20, z21, z22, z23, z24, z25, z26, z27, z28, z29, z30, z31] 1 2 0 x := by
 intro hv ho hn
 have m0 := m0_of hv
 have hx := hx_of ho
 have ho' : opMayL [1, 2, 0, x] = true := ho
 simp at hn

 rcases Bool.eq_false_or_eq_true (!allMay [z0, z1, z2, z3, z4, z5, z6, z7, z8, z9, z10, z11, z12, z13, z14, z15, z16, z17, z18, z19, z20, z21, z22, z23, z24, z25, z26, z27, z28, z29, z30, z31]) with h0 | h0
 · exact ff (by (simp [hv, ho'] at *; done))
 ·
  rcases Bool.eq_false_or_eq_true (!opMayL [(1 : Int), (2 : Int), (0 : Int), x]) with h1 | h1
  · exact ff (by (simp [hv, ho'] at *; done))
  ·
   rcases Bool.eq_false_or_eq_true (!b2) with h2 | h2
   · exact ff (by (simp_all; done))
   ·
    rcases Bool.eq_false_or_eq_true (!decide (z18 > (0 : Int))) with h3 | h3
    ·
     have e : bkCode z16 z17 z18 z19 (1 : Int) (2 : Int) (0 : Int) x = (2 : Int) := by (simp at * <;> simp [*] <;> done)
     refine vcIntro [false, false, false, true] (an (an h3 (an h2 (an h1 (an h0 tt)))) (an (an (an tt (cB4a_0 b0 b1 b2 b3 b4 b5 b6 b7 b8 b9 b10 b11 b12 b13 b14 b15 z0 z1 z2 z3 z4 z5 z6 z7 z8 z9 z10 z11 z12 z13 z14 z15 (an (nS0 e) (an (nS1 e) (an (nS2 e) (an (nS3 e) (cB4a_1 z20 z21 z22 z23 z24 z25 z26 z27 z28 z29 z30 z31 (an tt tt)))))))) tt) (an (an (@Eq.refl (Nat) ((0 : Nat))) (an (show ∀ (k : Nat), k < (0 : Nat) → (0 : Int) = (0 : Int) from fun _ _ => rfl) (an e (nSn e)))) tt))) ?_
     kernel_rfl
    ·
     refine vcIntro [false, false, false, false] (an (an h3 (an h2 (an h1 (an h0 tt)))) (an (an (an tt (cB4a_0 b0 b1 b2 b3 b4 b5 b6 b7 b8 b9 b10 b11 b12 b13 b14 b15 z0 z1 z2 z3 z4 z5 z6 z7 z8 z9 z10 z11 z12 z13 z14 z15 (an (show bkNow z16 z17 z18 z19 (1 : Int) (2 : Int) (0 : Int) x (0 : Int) = z16 by (simp; done)) (an (show bkNow z16 z17 z18 z19 (1 : Int) (2 : Int) (0 : Int) x (1 : Int) = z17 by (simp; done)) (an (show bkNow z16 z17 z18 z19 (1 : Int) (2 : Int) (0 : Int) x (2 : Int) = (0 : Int) by (simp at * <;> (repeat' split) <;> omega)) (an (show bkNow z16 z17 z18 z19 (1 : Int) (2 : Int) (0 : Int) x (3 : Int) = z19 by (simp; done)) (cB4a_1 z20 z21 z22 z23 z24 z25 z26 z27 z28 z29 z30 z31 (an tt tt)))))))) tt) (an (an (@Eq.refl (Nat) ((0 : Nat))) (an (show ∀ (k : Nat), k < (0 : Nat) → (0 : Int) = (0 : Int) from fun _ _ => rfl) (an (show bkCode z16 z17 z18 z19 (1 : Int) (2 : Int) (0 : Int) x = (0 : Int) by (simp at * <;> simp [*] <;> done)) (show bkNum z16 z17 z18 z19 (1 : Int) (2 : Int) (0 : Int) x = IntKind.i64.wrap (z18 - (1 : Int)) by (simp (disch := omega) only [wrapk] at *; simp at * <;> (repeat' split) <;> omega))))) tt))) ?_
     kernel_rfl

theorem nbk_130 : NeedRun 21 [b0, b1, b2, b3, b4, b5, b6, b7, b8, b9, b10, b11, b12, b13, b14, b15] [z0, z1, z2, z3, z4, z5, z6, z7, z8, z9, z10, z11, z12, z13, z14, z15, z16, z17, z18, z19, z20, z21, z22, z23, z24, z25, z26, z27, z28, z29, z30, z31] 1 3 0 x := by
 intro hv ho hn
 have m0 := m0_of hv
 have hx := hx_of ho
 have ho' : opMayL [1, 3, 0, x] = true := ho
 simp at hn

 rcases Bool.eq_false_or_eq_true (!allMay [z0, z1, z2, z3, z4, z5, z6, z7, z8, z9, z10, z11, z12, z13, z14, z15, z16, z17, z18, z19, z20, z21, z22, z23, z24, z25, z26, z27, z28, z29, z30, z31]) with h0 | h0
 · exact ff (by (simp [hv, ho'] at *; done))
 ·
  rcases Bool.eq_false_or_eq_true (!opMayL [(1 : Int), (3 : Int), (0 : Int), x]) with h1 | h1
  · exact ff (by (simp [hv, ho'] at *; done))
  ·
   rcases Bool.eq_false_or_eq_true (!b3) with h2 | h2
   ·
    refine vcIntro [false, false, true] (an (an h2 (an h1 (an h0 tt))) (an (an (an (show bkD [b0, b1, b2, b3, b4, b5, b6, b7, b8, b9, b10, b11, b12, b13, b14, b15] (1 : Int) (3 : Int) (0 : Int) = (3 : Int) by (simp at * <;> simp [*] <;> done)) (cB4a_0 b0 b1 b2 b3 b4 b5 b6 b7 b8 b9 b10 b11 b12 b13 b14 b15 z0 z1 z2 z3 z4 z5 z6 z7 z8 z9 z10 z11 z12 z13 z14 z15 (cB4a_2 z16 z17 z18 z19 z20 z21 z22 z23 z24 z25 z26 z27 z28 z29 z30 (an (ri z31) tt)))) tt) tt)) ?_
    kernel_rfl
   · exact ff (by (simp_all; done))

theorem dbk_130 : DoneRun 21 [b0, b1, b2, b3, b4, b5, b6, b7, b8, b9, b10, b11, b12, b13, b14, b15] [z0, z1, z2, z3, z4, z5, z6, z7, z8, z9, z10, z11, z12, z13, z14, z15, z16, z17, z18, z19, z20, z21, z22, z23, z24, z25, z26, z27, z28, z29, z30, z31] 1 3 0 x := by
 intro hv ho hn
 have m0 := m0_of hv
 have hx := hx_of ho
 have ho' : opMayL [1, 3, 0, x] = true := ho
 simp at hn

 rcases Bool.eq_false_or_eq_true (!allMay [z0, z1, z2, z3, z4, z5, z6, z7, z8, z9, z10, z11, z12, z13, z14, z15, z16, z17, z18, z19, z20, z21, z22, z23, z24, z25, z26, z27, z28, z29, z30, z31]) with h0 | h0
 · exact ff (by (simp [hv, ho'] at *; done))
 ·
  rcases Bool.eq_false_or_eq_true (!opMayL [(1 : Int), (3 : Int), (0 : Int), x]) with h1 | h1
  · exact ff (by (simp [hv, ho'] at *; done))
  ·
   rcases Bool.eq_false_or_eq_true (!b3) with h2 | h2
   · exact ff (by (simp_all; done))
   ·
    rcases Bool.eq_false_or_eq_true (!decide (z19 > (0 : Int))) with h3 | h3
    ·
     have e : bkCode z16 z17 z18 z19 (1 : Int) (3 : Int) (0 : Int) x = (2 : Int) := by (simp at * <;> simp [*] <;> done)
     refine vcIntro [false, false, false, true] (an (an h3 (an h2 (an h1 (an h0 tt)))) (an (an (an tt (cB4a_0 b0 b1 b2 b3 b4 b5 b6 b7 b8 b9 b10 b11 b12 b13 b14 b15 z0 z1 z2 z3 z4 z5 z6 z7 z8 z9 z10 z11 z12 z13 z14 z15 (an (nS0 e) (an (nS1 e) (an (nS2 e) (an (nS3 e) (cB4a_1 z20 z21 z22 z23 z24 z25 z26 z27 z28 z29 z30 z31 (an tt tt)))))))) tt) (an (an (@Eq.refl (Nat) ((0 : Nat))) (an (show ∀ (k : Nat), k < (0 : Nat) → (0 : Int) = (0 : Int) from fun _ _ => rfl) (an e (nSn e)))) tt))) ?_
     kernel_rfl
    ·
     refine vcIntro [false, false, false, false] (an (an h3 (an h2 (an h1 (an h0 tt)))) (an (an (an tt (cB4a_0 b0 b1 b2 b3 b4 b5 b6 b7 b8 b9 b10 b11 b12 b13 b14 b15 z0 z1 z2 z3 z4 z5 z6 z7 z8 z9 z10 z11 z12 z13 z14 z15 (an (show bkNow z16 z17 z18 z19 (1 : Int) (3 : Int) (0 : Int) x (0 : Int) = z16 by (simp; done)) (an (show bkNow z16 z17 z18 z19 (1 : Int) (3 : Int) (0 : Int) x (1 : Int) = z17 by (simp; done)) (an (show bkNow z16 z17 z18 z19 (1 : Int) (3 : Int) (0 : Int) x (2 : Int) = z18 by (simp; done)) (an (show bkNow z16 z17 z18 z19 (1 : Int) (3 : Int) (0 : Int) x (3 : Int) = (0 : Int) by (simp at * <;> (repeat' split) <;> omega)) (cB4a_1 z20 z21 z22 z23 z24 z25 z26 z27 z28 z29 z30 z31 (an tt tt)))))))) tt) (an (an (@Eq.refl (Nat) ((0 : Nat))) (an (show ∀ (k : Nat), k < (0 : Nat) → (0 : Int) = (0 : Int) from fun _ _ => rfl) (an (show bkCode z16 z17 z18 z19 (1 : Int) (3 : Int) (0 : Int) x = (0 : Int) by (simp at * <;> simp [*] <;> done)) (show bkNum z16 z17 z18 z19 (1 : Int) (3 : Int) (0 : Int) x = IntKind.i64.wrap (z19 - (1 : Int)) by (simp (disch := omega) only [wrapk] at *; simp at * <;> (repeat' split) <;> omega))))) tt))) ?_
     kernel_rfl

theorem nbk_200 : NeedRun 21 [b0, b1, b2, b3, b4, b5, b6, b7, b8, b9, b10, b11, b12, b13, b14, b15] [z0, z1, z2, z3, z4, z5, z6, z7, z8, z9, z10, z11, z12, z13, z14, z15, z16, z17, z18, z19, z20, z21, z22, z23, z24, z25, z26, z27, z28, z29, z30, z31] 2 0 0 x := by
 intro hv ho hn
 have m0 := m0_of hv
 have hx := hx_of ho
 have ho' : opMayL [2, 0, 0, x] = true := ho
 simp at hn

 rcases Bool.eq_false_or_eq_true (!allMay [z0, z1, z2, z3, z4, z5, z6, z7, z8, z9, z10, z11, z12, z13, z14, z15, z16, z17, z18, z19, z20, z21, z22, z23, z24, z25, z26, z27, z28, z29, z30, z31]) with h0 | h0
 · exact ff (by (simp [hv, ho'] at *; done))
 ·
  rcases Bool.eq_false_or_eq_true (!opMayL [(2 : Int), (0 : Int), (0 : Int), x]) with h1 | h1
  · exact ff (by (simp [hv, ho'] at *; done))
  ·
   rcases Bool.eq_false_or_eq_true (!b0) with h2 | h2
   ·
    refine vcIntro [false, false, true] (an (an h2 (an h1 (an h0 tt))) (an (an (an (show bkD [b0, b1, b2, b3, b4, b5, b6, b7, b8, b9, b10, b11, b12, b13, b14, b15] (2 : Int) (0 : Int) (0 : Int) = (0 : Int) by (simp at * <;> simp [*] <;> done)) (cB4a_0 b0 b1 b2 b3 b4 b5 b6 b7 b8 b9 b10 b11 b12 b13 b14 b15 z0 z1 z2 z3 z4 z5 z6 z7 z8 z9 z10 z11 z12 z13 z14 z15 (cB4a_2 z16 z17 z18 z19 z20 z21 z22 z23 z24 z25 z26 z27 z28 z29 z30 (an (ri z31) tt)))) tt) tt)) ?_
    kernel_rfl
   · exact ff (by (simp_all; done))

theorem dbk_200 : DoneRun 21 [b0, b1, b2, b3, b4, b5, b6, b7, b8, b9, b10, b11, b12, b13, b14, b15] [z0, z1, z2, z3, z4, z5, z6, z7, z8, z9, z10, z11, z12, z13, z14, z15, z16, z17, z18, z19, z20, z21, z22, z23, z24, z25, z26, z27, z28, z29, z30, z31] 2 0 0 x := by
 intro hv ho hn
 have m0 := m0_of hv
 have hx := hx_of ho
 have ho' : opMayL [2, 0, 0, x] = true := ho
 simp at hn

 rcases Bool.eq_false_or_eq_true (!allMay [z0, z1, z2, z3, z4, z5, z6, z7, z8, z9, z10, z11, z12, z13, z14, z15, z16, z17, z18, z19, z20, z21, z22, z23, z24, z25, z26, z27, z28, z29, z30, z31]) with h0 | h0
 · exact ff (by (simp [hv, ho'] at *; done))
 ·
  rcases Bool.eq_false_or_eq_true (!opMayL [(2 : Int), (0 : Int), (0 : Int), x]) with h1 | h1
  · exact ff (by (simp [hv, ho'] at *; done))
  ·
   rcases Bool.eq_false_or_eq_true (!b0) with h2 | h2
   · exact ff (by (simp_all; done))
   ·
    rcases Bool.eq_false_or_eq_true (!decide (z16 > (0 : Int))) with h3 | h3
    ·
     have e : bkCode z16 z17 z18 z19 (2 : Int) (0 : Int) (0 : Int) x = (2 : Int) := by (simp at * <;> (repeat' split) <;> omega)
     refine vcIntro [false, false, false, true] (an (an h3 (an h2 (an h1 (an h0 tt)))) (an (an (an tt (cB4a_0 b0 b1 b2 b3 b4 b5 b6 b7 b8 b9 b10 b11 b12 b13 b14 b15 z0 z1 z2 z3 z4 z5 z6 z7 z8 z9 z10 z11 z12 z13 z14 z15 (an (nS0 e) (an (nS1 e) (an (nS2 e) (an (nS3 e) (cB4a_1 z20 z21 z22 z23 z24 z25 z26 z27 z28 z29 z30 z31 (an tt tt)))))))) tt) (an (an (@Eq.refl (Nat) ((0 : Nat))) (an (show ∀ (k : Nat), k < (0 : Nat) → (0 : Int) = (0 : Int) from fun _ _ => rfl) (an e (nSn e)))) tt))) ?_
     kernel_rfl
    ·
     rcases Bool.eq_false_or_eq_true (decide (IntKind.i64.wrap (z16 - (1 : Int)) > IntKind.i64.wrap ((1048575 : Int) - x))) with h4 | h4
     ·
      have e : bkCode z16 z17 z18 z19 (2 : Int) (0 : Int) (0 : Int) x = (4 : Int) := by (simp (disch := omega) only [wrapk] at *; simp at * <;> (repeat' split) <;> omega)
      refine vcIntro [false, false, false, false, true] (an (an h4 (an h3 (an h2 (an h1 (an h0 tt))))) (an (an (an tt (cB4a_0 b0 b1 b2 b3 b4 b5 b6 b7 b8 b9 b10 b11 b12 b13 b14 b15 z0 z1 z2 z3 z4 z5 z6 z7 z8 z9 z10 z11 z12 z13 z14 z15 (an (nS0 e) (an (nS1 e) (an (nS2 e) (an (nS3 e) (cB4a_1 z20 z21 z22 z23 z24 z25 z26 z27 z28 z29 z30 z31 (an tt tt)))))))) tt) (an (an (@Eq.refl (Nat) ((0 : Nat))) (an (show ∀ (k : Nat), k < (0 : Nat) → (0 : Int) = (0 : Int) from fun _ _ => rfl) (an e (nSn e)))) tt))) ?_
      kernel_rfl
     ·
      refine vcIntro [false, false, false, false, false] (an (an h4 (an h3 (an h2 (an h1 (an h0 tt))))) (an (an (an tt (cB4a_0 b0 b1 b2 b3 b4 b5 b6 b7 b8 b9 b10 b11 b12 b13 b14 b15 z0 z1 z2 z3 z4 z5 z6 z7 z8 z9 z10 z11 z12 z13 z14 z15 (an (show bkNow z16 z17 z18 z19 (2 : Int) (0 : Int) (0 : Int) x (0 : Int) = IntKind.i64.wrap (IntKind.i64.wrap (IntKind.i64.wrap (z16 - (1 : Int)) + x) + (1 : Int)) by (simp (disch := omega) only [wrapk] at *; simp at * <;> (repeat' split) <;> omega)) (an (show bkNow z16 z17 z18 z19 (2 : Int) (0 : Int) (0 : Int) x (1 : Int) = z17 by (simp; done)) (an (show bkNow z16 z17 z18 z19 (2 : Int) (0 : Int) (0 : Int) x (2 : Int) = z18 by (simp; done)) (an (show bkNow z16 z17 z18 z19 (2 : Int) (0 : Int) (0 : Int) x (3 : Int) = z19 by (simp; done)) (cB4a_1 z20 z21 z22 z23 z24 z25 z26 z27 z28 z29 z30 z31 (an tt tt)))))))) tt) (an (an (@Eq.refl (Nat) ((0 : Nat))) (an (show ∀ (k : Nat), k < (0 : Nat) → (0 : Int) = (0 : Int) from fun _ _ => rfl) (an (show bkCode z16 z17 z18 z19 (2 : Int) (0 : Int) (0 : Int) x = (0 : Int) by (simp (disch := omega) only [wrapk] at *; simp at * <;> (repeat' split) <;> omega)) (show bkNum z16 z17 z18 z19 (2 : Int) (0 : Int) (0 : Int) x = IntKind.i64.wrap (IntKind.i64.wrap (z16 - (1 : Int)) + x) by (simp (disch := omega) only [wrapk] at *; simp at * <;> (repeat' split) <;> omega))))) tt))) ?_
      kernel_rfl

theorem nbk_210 : NeedRun 21 [b0, b1, b2, b3, b4, b5, b6, b7, b8, b9, b10, b11, b12, b13, b14, b15] [z0, z1, z2, z3, z4, z5, z6, z7, z8, z9, z10, z11, z12, z13, z14, z15, z16, z17, z18, z19, z20, z21, z22, z23, z24, z25, z26, z27, z28, z29, z30, z31] 2 1 0 x := by
 intro hv ho hn
 have m0 := m0_of hv
 have hx := hx_of ho
 have ho' : opMayL [2, 1, 0, x] = true := ho
 simp at hn

 rcases Bool.eq_false_or_eq_true (!allMay [z0, z1, z2, z3, z4, z5, z6, z7, z8, z9, z10, z11, z12, z13, z14, z15, z16, z17, z18, z19, z20, z21, z22, z23, z24, z25, z26, z27, z28, z29, z30, z31]) with h0 | h0
 · exact ff (by (simp [hv, ho'] at *; done))
 ·
  rcases Bool.eq_false_or_eq_true (!opMayL [(2 : Int), (1 : Int), (0 : Int), x]) with h1 | h1
  · exact ff (by (simp [hv, ho'] at *; done))
  ·
   rcases Bool.eq_false_or_eq_true (!b1) with h2 | h2
   ·
    refine vcIntro [false, false, true] (an (an h2 (an h1 (an h0 tt))) (an (an (an (show bkD [b0, b1, b2, b3, b4, b5, b6, b7, b8, b9, b10, b11, b12, b13, b14, b15] (2 : Int) (1 : Int) (0 : Int) = (1 : Int) by (simp at * <;> simp [*] <;> done)) (cB4a_0 b0 b1 b2 b3 b4 b5 b6 b7 b8 b9 b10 b11 b12 b13 b14 b15 z0 z1 z2 z3 z4 z5 z6 z7 z8 z9 z10 z11 z12 z13 z14 z15 (cB4a_2 z16 z17 z18 z19 z20 z21 z22 z23 z24 z25 z26 z27 z28 z29 z30 (an (ri z31) tt)))) tt) tt)) ?_
    kernel_rfl
   · exact ff (by (simp_all; done))

theorem dbk_210 : DoneRun 21 [b0, b1, b2, b3, b4, b5, b6, b7, b8, b9, b10, b11, b12, b13, b14, b15] [z0, z1, z2, z3, z4, z5, z6, z7, z8, z9, z10, z11, z12, z13, z14, z15, z16, z17, z18, z19, z20, z21, z22, z23, z24, z25, z26, z27, z28, z29, z30, z31] 2 1 0 x := by
 intro hv ho hn
 have m0 := m0_of hv
 have hx := hx_of ho
 have ho' : opMayL [2, 1, 0, x] = true := ho
 simp at hn

 rcases Bool.eq_false_or_eq_true (!allMay [z0, z1, z2, z3, z4, z5, z6, z7, z8, z9, z10, z11, z12, z13, z14, z15, z16, z17, z18, z19, z20, z21, z22, z23, z24, z25, z26, z27, z28, z29, z30, z31]) with h0 | h0
 · exact ff (by (simp [hv, ho'] at *; done))
 ·
  rcases Bool.eq_false_or_eq_true (!opMayL [(2 : Int), (1 : Int), (0 : Int), x]) with h1 | h1
  · exact ff (by (simp [hv, ho'] at *; done))
  ·
   rcases Bool.eq_false_or_eq_true (!b1) with h2 | h2
   · exact ff (by (simp_all; done))
   ·
    rcases Bool.eq_false_or_eq_true (!decide (z17 > (0 : Int))) with h3 | h3
    ·
     have e : bkCode z16 z17 z18 z19 (2 : Int) (1 : Int) (0 : Int) x = (2 : Int) := by (simp at * <;> (repeat' split) <;> omega)
     refine vcIntro [false, false, false, true] (an (an h3 (an h2 (an h1 (an h0 tt)))) (an (an (an tt (cB4a_0 b0 b1 b2 b3 b4 b5 b6 b7 b8 b9 b10 b11 b12 b13 b14 b15 z0 z1 z2 z3 z4 z5 z6 z7 z8 z9 z10 z11 z12 z13 z14 z15 (an (nS0 e) (an (nS1 e) (an (nS2 e) (an (nS3 e) (cB4a_1 z20 z21 z22 z23 z24 z25 z26 z27 z28 z29 z30 z31 (an tt tt)))))))) tt) (an (an (@Eq.refl (Nat) ((0 : Nat))) (an (show ∀ (k : Nat), k < (0 : Nat) → (0 : Int) = (0 : Int) from fun _ _ => rfl) (an e (nSn e)))) tt))) ?_
     kernel_rfl
    ·
     rcases Bool.eq_false_or_eq_true (decide (IntKind.i64.wrap (z17 - (1 : Int)) > IntKind.i64.wrap ((1048575 : Int) - x))) with h4 | h4
     ·
      have e : bkCode z16 z17 z18 z19 (2 : Int) (1 : Int) (0 : Int) x = (4 : Int) := by (simp (disch := omega) only [wrapk] at *; simp at * <;> (repeat' split) <;> omega)
      refine vcIntro [false, false, false, false, true] (an (an h4 (an h3 (an h2 (an h1 (an h0 tt))))) (an (an (an tt (cB4a_0 b0 b1 b2 b3 b4 b5 b6 b7 b8 b9 b10 b11 b12 b13 b14 b15 z0 z1 z2 z3 z4 z5 z6 z7 z8 z9 z10 z11 z12 z13 z14 z15 (an (nS0 e) (an (nS1 e) (an (nS2 e) (an (nS3 e) (cB4a_1 z20 z21 z22 z23 z24 z25 z26 z27 z28 z29 z30 z31 (an tt tt)))))))) tt) (an (an (@Eq.refl (Nat) ((0 : Nat))) (an (show ∀ (k : Nat), k < (0 : Nat) → (0 : Int) = (0 : Int) from fun _ _ => rfl) (an e (nSn e)))) tt))) ?_
      kernel_rfl
     ·
      refine vcIntro [false, false, false, false, false] (an (an h4 (an h3 (an h2 (an h1 (an h0 tt))))) (an (an (an tt (cB4a_0 b0 b1 b2 b3 b4 b5 b6 b7 b8 b9 b10 b11 b12 b13 b14 b15 z0 z1 z2 z3 z4 z5 z6 z7 z8 z9 z10 z11 z12 z13 z14 z15 (an (show bkNow z16 z17 z18 z19 (2 : Int) (1 : Int) (0 : Int) x (0 : Int) = z16 by (simp; done)) (an (show bkNow z16 z17 z18 z19 (2 : Int) (1 : Int) (0 : Int) x (1 : Int) = IntKind.i64.wrap (IntKind.i64.wrap (IntKind.i64.wrap (z17 - (1 : Int)) + x) + (1 : Int)) by (simp (disch := omega) only [wrapk] at *; simp at * <;> (repeat' split) <;> omega)) (an (show bkNow z16 z17 z18 z19 (2 : Int) (1 : Int) (0 : Int) x (2 : Int) = z18 by (simp; done)) (an (show bkNow z16 z17 z18 z19 (2 : Int) (1 : Int) (0 : Int) x (3 : Int) = z19 by (simp; done)) (cB4a_1 z20 z21 z22 z23 z24 z25 z26 z27 z28 z29 z30 z31 (an tt tt)))))))) tt) (an (an (@Eq.refl (Nat) ((0 : Nat))) (an (show ∀ (k : Nat), k < (0 : Nat) → (0 : Int) = (0 : Int) from fun _ _ => rfl) (an (show bkCode z16 z17 z18 z19 (2 : Int) (1 : Int) (0 : Int) x = (0 : Int) by (simp (disch := omega) only [wrapk] at *; simp at * <;> (repeat' split) <;> omega)) (show bkNum z16 z17 z18 z19 (2 : Int) (1 : Int) (0 : Int) x = IntKind.i64.wrap (IntKind.i64.wrap (z17 - (1 : Int)) + x) by (simp (disch := omega) only [wrapk] at *; simp at * <;> (repeat' split) <;> omega))))) tt))) ?_
      kernel_rfl

theorem nbk_220 : NeedRun 21 [b0, b1, b2, b3, b4, b5, b6, b7, b8, b9, b10, b11, b12, b13, b14, b15] [z0, z1, z2, z3, z4, z5, z6, z7, z8, z9, z10, z11, z12, z13, z14, z15, z16, z17, z18, z19, z20, z21, z22, z23, z24, z25, z26, z27, z28, z29, z30, z31] 2 2 0 x := by
 intro hv ho hn
 have m0 := m0_of hv
 have hx := hx_of ho
 have ho' : opMayL [2, 2, 0, x] = true := ho
 simp at hn

 rcases Bool.eq_false_or_eq_true (!allMay [z0, z1, z2, z3, z4, z5, z6, z7, z8, z9, z10, z11, z12, z13, z14, z15, z16, z17, z18, z19, z20, z21, z22, z23, z24, z25, z26, z27, z28, z29, z30, z31]) with h0 | h0
 · exact ff (by (simp [hv, ho'] at *; done))
 ·
  rcases Bool.eq_false_or_eq_true (!opMayL [(2 : Int), (2 : Int), (0 : Int), x]) with h1 | h1
  · exact ff (by (simp [hv, ho'] at *; done))
  ·
   rcases Bool.eq_false_or_eq_true (!b2) with h2 | h2
   ·
    refine vcIntro [false, false, true] (an (an h2 (an h1 (an h0 tt))) (an (an (an (show bkD [b0, b1, b2, b3, b4, b5, b6, b7, b8, b9, b10, b11, b12, b13, b14, b15] (2 : Int) (2 : Int) (0 : Int) = (2 : Int) by (simp at * <;> simp [*] <;> done)) (cB4a_0 b0 b1 b2 b3 b4 b5 b6 b7 b8 b9 b10 b11 b12 b13 b14 b15 z0 z1 z2 z3 z4 z5 z6 z7 z8 z9 z10 z11 z12 z13 z14 z15 (cB4a_2 z16 z17 z18 z19 z20 z21 z22 z23 z24 z25 z26 z27 z28 z29 z30 (an (ri z31) tt)))) tt) tt)) ?_
    kernel_rfl
   · exact ff (by (simp_all; done))

theorem dbk_220 : DoneRun 21 [b0, b1, b2, b3, b4, b5, b6, b7, b8, b9, b10, b11, b12, b13, b14, b15] [z0, z1, z2, z3, z4, z5, z6, z7, z8, z9, z10, z11, z12, z13, z14, z15, z16, z17, z18, z19, z20, z21, z22, z23, z24, z25, z26, z27, z28, z29, z30, z31] 2 2 0 x := by
 intro hv ho hn
 have m0 := m0_of hv
 have hx := hx_of ho
 have ho' : opMayL [2, 2, 0, x] = true := ho
 simp at hn

 rcases Bool.eq_false_or_eq_true (!allMay [z0, z1, z2, z3, z4, z5, z6, z7, z8, z9, z10, z11, z12, z13, z14, z15, z16, z17, z18, z19, z20, z21, z22, z23, z24, z25, z26, z27, z28, z29, z30, z31]) with h0 | h0
 · exact ff (by (simp [hv, ho'] at *; done))
 ·
  rcases Bool.eq_false_or_eq_true (!opMayL [(2 : Int), (2 : Int), (0 : Int), x]) with h1 | h1
  · exact ff (by (simp [hv, ho'] at *; done))
  ·
   rcases Bool.eq_false_or_eq_true (!b2) with h2 | h2
   · exact ff (by (simp_all; done))
   ·
    rcases Bool.eq_false_or_eq_true (!decide (z18 > (0 : Int))) with h3 | h3
    ·
     have e : bkCode z16 z17 z18 z19 (2 : Int) (2 : Int) (0 : Int) x = (2 : Int) := by (simp at * <;> (repeat' split) <;> omega)
     refine vcIntro [false, false, false, true] (an (an h3 (an h2 (an h1 (an h0 tt)))) (an (an (an tt (cB4a_0 b0 b1 b2 b3 b4 b5 b6 b7 b8 b9 b10 b11 b12 b13 b14 b15 z0 z1 z2 z3 z4 z5 z6 z7 z8 z9 z10 z11 z12 z13 z14 z15 (an (nS0 e) (an (nS1 e) (an (nS2 e) (an (nS3 e) (cB4a_1 z20 z21 z22 z23 z24 z25 z26 z27 z28 z29 z30 z31 (an tt tt)))))))) tt) (an (an (@Eq.refl (Nat) ((0 : Nat))) (an (show ∀ (k : Nat), k < (0 : Nat) → (0 : Int) = (0 : Int) from fun _ _ => rfl) (an e (nSn e)))) tt))) ?_
     kernel_rfl
    ·
     rcases Bool.eq_false_or_eq_true (decide (IntKind.i64.wrap (z18 - (1 : Int)) > IntKind.i64.wrap ((1048575 : Int) - x))) with h4 | h4
     ·
      have e : bkCode z16 z17 z18 z19 (2 : Int) (2 : Int) (0 : Int) x = (4 : Int) := by (simp (disch := omega) only [wrapk] at *; simp at * <;> (repeat' split) <;> omega)
      refine vcIntro [false, false, false, false, true] (an (an h4 (an h3 (an h2 (an h1 (an h0 tt))))) (an (an (an tt (cB4a_0 b0 b1 b2 b3 b4 b5 b6 b7 b8 b9 b10 b11 b12 b13 b14 b15 z0 z1 z2 z3 z4 z5 z6 z7 z8 z9 z10 z11 z12 z13 z14 z15 (an (nS0 e) (an (nS1 e) (an (nS2 e) (an (nS3 e) (cB4a_1 z20 z21 z22 z23 z24 z25 z26 z27 z28 z29 z30 z31 (an tt tt)))))))) tt) (an (an (@Eq.refl (Nat) ((0 : Nat))) (an (show ∀ (k : Nat), k < (0 : Nat) → (0 : Int) = (0 : Int) from fun _ _ => rfl) (an e (nSn e)))) tt))) ?_
      kernel_rfl
     ·
      refine vcIntro [false, false, false, false, false] (an (an h4 (an h3 (an h2 (an h1 (an h0 tt))))) (an (an (an tt (cB4a_0 b0 b1 b2 b3 b4 b5 b6 b7 b8 b9 b10 b11 b12 b13 b14 b15 z0 z1 z2 z3 z4 z5 z6 z7 z8 z9 z10 z11 z12 z13 z14 z15 (an (show bkNow z16 z17 z18 z19 (2 : Int) (2 : Int) (0 : Int) x (0 : Int) = z16 by (simp; done)) (an (show bkNow z16 z17 z18 z19 (2 : Int) (2 : Int) (0 : Int) x (1 : Int) = z17 by (simp; done)) (an (show bkNow z16 z17 z18 z19 (2 : Int) (2 : Int) (0 : Int) x (2 : Int) = IntKind.i64.wrap (IntKind.i64.wrap (IntKind.i64.wrap (z18 - (1 : Int)) + x) + (1 : Int)) by (simp (disch := omega) only [wrapk] at *; simp at * <;> (repeat' split) <;> omega)) (an (show bkNow z16 z17 z18 z19 (2 : Int) (2 : Int) (0 : Int) x (3 : Int) = z19 by (simp; done)) (cB4a_1 z20 z21 z22 z23 z24 z25 z26 z27 z28 z29 z30 z31 (an tt tt)))))))) tt) (an (an (@Eq.refl (Nat) ((0 : Nat))) (an (show ∀ (k : Nat), k < (0 : Nat) → (0 : Int) = (0 : Int) from fun _ _ => rfl) (an (show bkCode z16 z17 z18 z19 (2 : Int) (2 : Int) (0 : Int) x = (0 : Int) by (simp (disch := omega) only [wrapk] at *; simp at * <;> (repeat' split) <;> omega)) (show bkNum z16 z17 z18 z19 (2 : Int) (2 : Int) (0 : Int) x = IntKind.i64.wrap (IntKind.i64.wrap (z18 - (1 : Int)) + x) by (simp (disch := omega) only [wrapk] at *; simp at * <;> (repeat' split) <;> omega))))) tt))) ?_
      kernel_rfl

theorem nbk_230 : NeedRun 21 [b0, b1, b2, b3, b4, b5, b6, b7, b8, b9, b10, b11, b12, b13, b14, b15] [z0, z1, z2, z3, z4, z5, z6, z7, z8, z9, z10, z11, z12, z13, z14, z15, z16, z17, z18, z19, z20, z21, z22, z23, z24, z25, z26, z27, z28, z29, z30, z31] 2 3 0 x := by
 intro hv ho hn
 have m0 := m0_of hv
 have hx := hx_of ho
 have ho' : opMayL [2, 3, 0, x] = true := ho
 simp at hn

 rcases Bool.eq_false_or_eq_true (!allMay [z0, z1, z2, z3, z4, z5, z6, z7, z8, z9, z10, z11, z12, z13, z14, z15, z16, z17, z18, z19, z20, z21, z22, z23, z24, z25, z26, z27, z28, z29, z30, z31]) with h0 | h0
 · exact ff (by (simp [hv, ho'] at *; done))
 ·
  rcases Bool.eq_false_or_eq_true (!opMayL [(2 : Int), (3 : Int), (0 : Int), x]) with h1 | h1
  · exact ff (by (simp [hv, ho'] at *; done))
  ·
   rcases Bool.eq_false_or_eq_true (!b3) with h2 | h2
   ·
    refine vcIntro [false, false, true] (an (an h2 (an h1 (an h0 tt))) (an (an (an (show bkD [b0, b1, b2, b3, b4, b5, b6, b7, b8, b9, b10, b11, b12, b13, b14, b15] (2 : Int) (3 : Int) (0 : Int) = (3 : Int) by (simp at * <;> simp [*] <;> done)) (cB4a_0 b0 b1 b2 b3 b4 b5 b6 b7 b8 b9 b10 b11 b12 b13 b14 b15 z0 z1 z2 z3 z4 z5 z6 z7 z8 z9 z10 z11 z12 z13 z14 z15 (cB4a_2 z16 z17 z18 z19 z20 z21 z22 z23 z24 z25 z26 z27 z28 z29 z30 (an (ri z31) tt)))) tt) tt)) ?_
    kernel_rfl
   · exact ff (by (simp_all; done))

theorem dbk_230 : DoneRun 21 [b0, b1, b2, b3, b4, b5, b6, b7, b8, b9, b10, b11, b12, b13, b14, b15] [z0, z1, z2, z3, z4, z5, z6, z7, z8, z9, z10, z11, z12, z13, z14, z15, z16, z17, z18, z19, z20, z21, z22, z23, z24, z25, z26, z27, z28, z29, z30, z31] 2 3 0 x := by
 intro hv ho hn
 have m0 := m0_of hv
 have hx := hx_of ho
 have ho' : opMayL [2, 3, 0, x] = true := ho
 simp at hn

 rcases Bool.eq_false_or_eq_true (!allMay [z0, z1, z2, z3, z4, z5, z6, z7, z8, z9, z10, z11, z12, z13, z14, z15, z16, z17, z18, z19, z20, z21, z22, z23, z24, z25, z26, z27, z28, z29, z30, z31]) with h0 | h0
 · exact ff (by (simp [hv, ho'] at *; done))
 ·
  rcases Bool.eq_false_or_eq_true (!opMayL [(2 : Int), (3 : Int), (0 : Int), x]) with h1 | h1
  · exact ff (by (simp [hv, ho'] at *; done))
  ·
   rcases Bool.eq_false_or_eq_true (!b3) with h2 | h2
   · exact ff (by (simp_all; done))
   ·
    rcases Bool.eq_false_or_eq_true (!decide (z19 > (0 : Int))) with h3 | h3
    ·
     have e : bkCode z16 z17 z18 z19 (2 : Int) (3 : Int) (0 : Int) x = (2 : Int) := by (simp at * <;> (repeat' split) <;> omega)
     refine vcIntro [false, false, false, true] (an (an h3 (an h2 (an h1 (an h0 tt)))) (an (an (an tt (cB4a_0 b0 b1 b2 b3 b4 b5 b6 b7 b8 b9 b10 b11 b12 b13 b14 b15 z0 z1 z2 z3 z4 z5 z6 z7 z8 z9 z10 z11 z12 z13 z14 z15 (an (nS0 e) (an (nS1 e) (an (nS2 e) (an (nS3 e) (cB4a_1 z20 z21 z22 z23 z24 z25 z26 z27 z28 z29 z30 z31 (an tt tt)))))))) tt) (an (an (@Eq.refl (Nat) ((0 : Nat))) (an (show ∀ (k : Nat), k < (0 : Nat) → (0 : Int) = (0 : Int) from fun _ _ => rfl) (an e (nSn e)))) tt))) ?_
     kernel_rfl
    ·
     rcases Bool.eq_false_or_eq_true (decide (IntKind.i64.wrap (z19 - (1 : Int)) > IntKind.i64.wrap ((1048575 : Int) - x))) with h4 | h4
     ·
      have e : bkCode z16 z17 z18 z19 (2 : Int) (3 : Int) (0 : Int) x = (4 : Int) := by (simp (disch := omega) only [wrapk] at *; simp at * <;> (repeat' split) <;> omega)
      refine vcIntro [false, false, false, false, true] (an (an h4 (an h3 (an h2 (an h1 (an h0 tt))))) (an (an (an tt (cB4a_0 b0 b1 b2 b3 b4 b5 b6 b7 b8 b9 b10 b11 b12 b13 b14 b15 z0 z1 z2 z3 z4 z5 z6 z7 z8 z9 z10 z11 z12 z13 z14 z15 (an (nS0 e) (an (nS1 e) (an (nS2 e) (an (nS3 e) (cB4a_1 z20 z21 z22 z23 z24 z25 z26 z27 z28 z29 z30 z31 (an tt tt)))))))) tt) (an (an (@Eq.refl (Nat) ((0 : Nat))) (an (show ∀ (k : Nat), k < (0 : Nat) → (0 : Int) = (0 : Int) from fun _ _ => rfl) (an e (nSn e)))) tt))) ?_
      kernel_rfl
     ·
      refine vcIntro [false, false, false, false, false] (an (an h4 (an h3 (an h2 (an h1 (an h0 tt))))) (an (an (an tt (cB4a_0 b0 b1 b2 b3 b4 b5 b6 b7 b8 b9 b10 b11 b12 b13 b14 b15 z0 z1 z2 z3 z4 z5 z6 z7 z8 z9 z10 z11 z12 z13 z14 z15 (an (show bkNow z16 z17 z18 z19 (2 : Int) (3 : Int) (0 : Int) x (0 : Int) = z16 by (simp; done)) (an (show bkNow z16 z17 z18 z19 (2 : Int) (3 : Int) (0 : Int) x (1 : Int) = z17 by (simp; done)) (an (show bkNow z16 z17 z18 z19 (2 : Int) (3 : Int) (0 : Int) x (2 : Int) = z18 by (simp; done)) (an (show bkNow z16 z17 z18 z19 (2 : Int) (3 : Int) (0 : Int) x (3 : Int) = IntKind.i64.wrap (IntKind.i64.wrap (IntKind.i64.wrap (z19 - (1 : Int)) + x) + (1 : Int)) by (simp (disch := omega) only [wrapk] at *; simp at * <;> (repeat' split) <;> omega)) (cB4a_1 z20 z21 z22 z23 z24 z25 z26 z27 z28 z29 z30 z31 (an tt tt)))))))) tt) (an (an (@Eq.refl (Nat) ((0 : Nat))) (an (show ∀ (k : Nat), k < (0 : Nat) → (0 : Int) = (0 : Int) from fun _ _ => rfl) (an (show bkCode z16 z17 z18 z19 (2 : Int) (3 : Int) (0 : Int) x = (0 : Int) by (simp (disch := omega) only [wrapk] at *; simp at * <;> (repeat' split) <;> omega)) (show bkNum z16 z17 z18 z19 (2 : Int) (3 : Int) (0 : Int) x = IntKind.i64.wrap (IntKind.i64.wrap (z19 - (1 : Int)) + x) by (simp (disch := omega) only [wrapk] at *; simp at * <;> (repeat' split) <;> omega))))) tt))) ?_
      kernel_rfl

theorem nbk_300 : NeedRun 21 [b0, b1, b2, b3, b4, b5, b6, b7, b8, b9, b10, b11, b12, b13, b14, b15] [z0, z1, z2, z3, z4, z5, z6, z7, z8, z9, z10, z11, z12, z13, z14, z15, z16, z17, z18, z19, z20, z21, z22, z23, z24, z25, z26, z27, z28, z29, z30, z31] 3 0 0 x := by
 intro hv ho hn
 have m0 := m0_of hv
 have hx := hx_of ho
 have ho' : opMayL [3, 0, 0, x] = true := ho
 simp at hn

 rcases Bool.eq_false_or_eq_true (!allMay [z0, z1, z2, z3, z4, z5, z6, z7, z8, z9, z10, z11, z12, z13, z14, z15, z16, z17, z18, z19, z20, z21, z22, z23, z24, z25, z26, z27, z28, z29, z30, z31]) with h0 | h0
 · exact ff (by (simp [hv, ho'] at *; done))
 ·
  rcases Bool.eq_false_or_eq_true (!opMayL [(3 : Int), (0 : Int), (0 : Int), x]) with h1 | h1
  · exact ff (by (simp [hv, ho'] at *; done))
  ·
   rcases Bool.eq_false_or_eq_true (!b0) with h2 | h2
   ·
    refine vcIntro [false, false, true] (an (an h2 (an h1 (an h0 tt))) (an (an (an (show bkD [b0, b1, b2, b3, b4, b5, b6, b7, b8, b9, b10, b11, b12, b13, b14, b15] (3 : Int) (0 : Int) (0 : Int) = (0 : Int) by (simp at * <;> simp [*] <;> done)) (cB4a_0 b0 b1 b2 b3 b4 b5 b6 b7 b8 b9 b10 b11 b12 b13 b14 b15 z0 z1 z2 z3 z4 z5 z6 z7 z8 z9 z10 z11 z12 z13 z14 z15 (cB4a_2 z16 z17 z18 z19 z20 z21 z22 z23 z24 z25 z26 z27 z28 z29 z30 (an (ri z31) tt)))) tt) tt)) ?_
    kernel_rfl
   · exact ff (by (simp_all; done))

theorem dbk_300 : DoneRun 21 [b0, b1, b2, b3, b4, b5, b6, b7, b8, b9, b10, b11, b12, b13, b14, b15] [z0, z1, z2, z3, z4, z5, z6, z7, z8, z9, z10, z11, z12, z13, z14, z15, z16, z17, z18, z19, z20, z21, z22, z23, z24, z25, z26, z27, z28, z29, z30, z31] 3 0 0 x := by
 intro hv ho hn
 have m0 := m0_of hv
 have hx := hx_of ho
 have ho' : opMayL [3, 0, 0, x] = true := ho
 simp at hn

 rcases Bool.eq_false_or_eq_true (!allMay [z0, z1, z2, z3, z4, z5, z6, z7, z8, z9, z10, z11, z12, z13, z14, z15, z16, z17, z18, z19, z20, z21, z22, z23, z24, z25, z26, z27, z28, z29, z30, z31]) with h0 | h0
 · exact ff (by (simp [hv, ho'] at *; done))
 ·
  rcases Bool.eq_false_or_eq_true (!opMayL [(3 : Int), (0 : Int), (0 : Int), x]) with h1 | h1
  · exact ff (by (simp [hv, ho'] at *; done))
  ·
   rcases Bool.eq_false_or_eq_true (!b0) with h2 | h2
   · exact ff (by (simp_all; done))
   ·
    rcases Bool.eq_false_or_eq_true (!decide (z16 > (0 : Int))) with h3 | h3
    ·
     have e : bkCode z16 z17 z18 z19 (3 : Int) (0 : Int) (0 : Int) x = (2 : Int) := by (simp at * <;> (repeat' split) <;> omega)
     refine vcIntro [false, false, false, true] (an (an h3 (an h2 (an h1 (an h0 tt)))) (an (an (an tt (cB4a_0 b0 b1 b2 b3 b4 b5 b6 b7 b8 b9 b10 b11 b12 b13 b14 b15 z0 z1 z2 z3 z4 z5 z6 z7 z8 z9 z10 z11 z12 z13 z14 z15 (an (nS0 e) (an (nS1 e) (an (nS2 e) (an (nS3 e) (cB4a_1 z20 z21 z22 z23 z24 z25 z26 z27 z28 z29 z30 z31 (an tt tt)))))))) tt) (an (an (@Eq.refl (Nat) ((0 : Nat))) (an (show ∀ (k : Nat), k < (0 : Nat) → (0 : Int) = (0 : Int) from fun _ _ => rfl) (an e (nSn e)))) tt))) ?_
     kernel_rfl
    ·
     rcases Bool.eq_false_or_eq_true (decide (IntKind.i64.wrap (z16 - (1 : Int)) < x)) with h4 | h4
     ·
      have e : bkCode z16 z17 z18 z19 (3 : Int) (0 : Int) (0 : Int) x = (3 : Int) := by (simp (disch := omega) only [wrapk] at *; simp at * <;> simp [*] <;> done)
      refine vcIntro [false, false, false, false, true] (an (an h4 (an h3 (an h2 (an h1 (an h0 tt))))) (an (an (an tt (cB4a_0 b0 b1 b2 b3 b4 b5 b6 b7 b8 b9 b10 b11 b12 b13 b14 b15 z0 z1 z2 z3 z4 z5 z6 z7 z8 z9 z10 z11 z12 z13 z14 z15 (an (nS0 e) (an (nS1 e) (an (nS2 e) (an (nS3 e) (cB4a_1 z20 z21 z22 z23 z24 z25 z26 z27 z28 z29 z30 z31 (an tt tt)))))))) tt) (an (an (@Eq.refl (Nat) ((0 : Nat))) (an (show ∀ (k : Nat), k < (0 : Nat) → (0 : Int) = (0 : Int) from fun _ _ => rfl) (an e (nSn e)))) tt))) ?_
      kernel_rfl
     ·
      refine vcIntro [false, false, false, false, false] (an (an h4 (an h3 (an h2 (an h1 (an h0 tt))))) (an (an (an tt (cB4a_0 b0 b1 b2 b3 b4 b5 b6 b7 b8 b9 b10 b11 b12 b13 b14 b15 z0 z1 z2 z3 z4 z5 z6 z7 z8 z9 z10 z11 z12 z13 z14 z15 (an (show bkNow z16 z17 z18 z19 (3 : Int) (0 : Int) (0 : Int) x (0 : Int) = IntKind.i64.wrap (IntKind.i64.wrap (IntKind.i64.wrap (z16 - (1 : Int)) - x) + (1 : Int)) by (simp (disch := omega) only [wrapk] at *; simp at * <;> (repeat' split) <;> omega)) (an (show bkNow z16 z17 z18 z19 (3 : Int) (0 : Int) (0 : Int) x (1 : Int) = z17 by (simp; done)) (an (show bkNow z16 z17 z18 z19 (3 : Int) (0 : Int) (0 : Int) x (2 : Int) = z18 by (simp; done)) (an (show bkNow z16 z17 z18 z19 (3 : Int) (0 : Int) (0 : Int) x (3 : Int) = z19 by (simp; done)) (cB4a_1 z20 z21 z22 z23 z24 z25 z26 z27 z28 z29 z30 z31 (an tt tt)))))))) tt) (an (an (@Eq.refl (Nat) ((0 : Nat))) (an (show ∀ (k : Nat), k < (0 : Nat) → (0 : Int) = (0 : Int) from fun _ _ => rfl) (an (show bkCode z16 z17 z18 z19 (3 : Int) (0 : Int) (0 : Int) x = (0 : Int) by (simp (disch := omega) only [wrapk] at *; simp at * <;> simp [*] <;> done)) (show bkNum z16 z17 z18 z19 (3 : Int) (0 : Int) (0 : Int) x = IntKind.i64.wrap (IntKind.i64.wrap (z16 - (1 : Int)) - x) by (simp (disch := omega) only [wrapk] at *; simp at * <;> simp [*] <;> done))))) tt))) ?_
      kernel_rfl

theorem nbk_310 : NeedRun 21 [b0, b1, b2, b3, b4, b5, b6, b7, b8, b9, b10, b11, b12, b13, b14, b15] [z0, z1, z2, z3, z4, z5, z6, z7, z8, z9, z10, z11, z12, z13, z14, z15, z16, z17, z18, z19, z20, z21, z22, z23, z24, z25, z26, z27, z28, z29, z30, z31] 3 1 0 x := by
 intro hv ho hn
 have m0 := m0_of hv
 have hx := hx_of ho
 have ho' : opMayL [3, 1, 0, x] = true := ho
 simp at hn

 rcases Bool.eq_false_or_eq_true (!allMay [z0, z1, z2, z3, z4, z5, z6, z7, z8, z9, z10, z11, z12, z13, z14, z15, z16, z17, z18, z19, z20, z21, z22, z23, z24, z25, z26, z27, z28, z29, z30, z31]) with h0 | h0
 · exact ff (by (simp [hv, ho'] at *; done))
 ·
  rcases Bool.eq_false_or_eq_true (!opMayL [(3 : Int), (1 : Int), (0 : Int), x]) with h1 | h1
  · exact ff (by (simp [hv, ho'] at *; done))
  ·
   rcases Bool.eq_false_or_eq_true (!b1) with h2 | h2
   ·
    refine vcIntro [false, false, true] (an (an h2 (an h1 (an h0 tt))) (an (an (an (show bkD [b0, b1, b2, b3, b4, b5, b6, b7, b8, b9, b10, b11, b12, b13, b14, b15] (3 : Int) (1 : Int) (0 : Int) = (1 : Int) by (simp at * <;> simp [*] <;> done)) (cB4a_0 b0 b1 b2 b3 b4 b5 b6 b7 b8 b9 b10 b11 b12 b13 b14 b15 z0 z1 z2 z3 z4 z5 z6 z7 z8 z9 z10 z11 z12 z13 z14 z15 (cB4a_2 z16 z17 z18 z19 z20 z21 z22 z23 z24 z25 z26 z27 z28 z29 z30 (an (ri z31) tt)))) tt) tt)) ?_
    kernel_rfl
   · exact ff (by (simp_all; done))

theorem dbk_310 : DoneRun 21 [b0, b1, b2, b3, b4, b5, b6, b7, b8, b9, b10, b11, b12, b13, b14, b15] [z0, z1, z2, z3, z4, z5, z6, z7, z8, z9, z10, z11, z12, z13, z14, z15, z16, z17, z18, z19, z20, z21, z22, z23, z24, z25, z26, z27, z28, z29, z30, z31] 3 1 0 x := by
 intro hv ho hn
 have m0 := m0_of hv
 have hx := hx_of ho
 have ho' : opMayL [3, 1, 0, x] = true := ho
 simp at hn

 rcases Bool.eq_false_or_eq_true (!allMay [z0, z1, z2, z3, z4, z5, z6, z7, z8, z9, z10, z11, z12, z13, z14, z15, z16, z17, z18, z19, z20, z21, z22, z23, z24, z25, z26, z27, z28, z29, z30, z31]) with h0 | h0
 · exact ff (by (simp [hv, ho'] at *; done))
 ·
  rcases Bool.eq_false_or_eq_true (!opMayL [(3 : Int), (1 : Int), (0 : Int), x]) with h1 | h1
  · exact ff (by (simp [hv, ho'] at *; done))
  ·
   rcases Bool.eq_false_or_eq_true (!b1) with h2 | h2
   · exact ff (by (simp_all; done))
   ·
    rcases Bool.eq_false_or_eq_true (!decide (z17 > (0 : Int))) with h3 | h3
    ·
     have e : bkCode z16 z17 z18 z19 (3 : Int) (1 : Int) (0 : Int) x = (2 : Int) := by (simp at * <;> (repeat' split) <;> omega)
     refine vcIntro [false, false, false, true] (an (an h3 (an h2 (an h1 (an h0 tt)))) (an (an (an tt (cB4a_0 b0 b1 b2 b3 b4 b5 b6 b7 b8 b9 b10 b11 b12 b13 b14 b15 z0 z1 z2 z3 z4 z5 z6 z7 z8 z9 z10 z11 z12 z13 z14 z15 (an (nS0 e) (an (nS1 e) (an (nS2 e) (an (nS3 e) (cB4a_1 z20 z21 z22 z23 z24 z25 z26 z27 z28 z29 z30 z31 (an tt tt)))))))) tt) (an (an (@Eq.refl (Nat) ((0 : Nat))) (an (show ∀ (k : Nat), k < (0 : Nat) → (0 : Int) = (0 : Int) from fun _ _ => rfl) (an e (nSn e)))) tt))) ?_
     kernel_rfl
    ·
     rcases Bool.eq_false_or_eq_true (decide (IntKind.i64.wrap (z17 - (1 : Int)) < x)) with h4 | h4
     ·
      have e : bkCode z16 z17 z18 z19 (3 : Int) (1 : Int) (0 : Int) x = (3 : Int) := by (simp (disch := omega) only [wrapk] at *; simp at * <;> simp [*] <;> done)
      refine vcIntro [false, false, false, false, true] (an (an h4 (an h3 (an h2 (an h1 (an h0 tt))))) (an (an (an tt (cB4a_0 b0 b1 b2 b3 b4 b5 b6 b7 b8 b9 b10 b11 b12 b13 b14 b15 z0 z1 z2 z3 z4 z5 z6 z7 z8 z9 z10 z11 z12 z13 z14 z15 (an (nS0 e) (an (nS1 e) (an (nS2 e) (an (nS3 e) (cB4a_1 z20 z21 z22 z23 z24 z25 z26 z27 z28 z29 z30 z31 (an tt tt)))))))) tt) (an (an (@Eq.refl (Nat) ((0 : Nat))) (an (show ∀ (k : Nat), k < (0 : Nat) → (0 : Int) = (0 : Int) from fun _ _ => rfl) (an e (nSn e)))) tt))) ?_
      kernel_rfl
     ·
      refine vcIntro [false, false, false, false, false] (an (an h4 (an h3 (an h2 (an h1 (an h0 tt))))) (an (an (an tt (cB4a_0 b0 b1 b2 b3 b4 b5 b6 b7 b8 b9 b10 b11 b12 b13 b14 b15 z0 z1 z2 z3 z4 z5 z6 z7 z8 z9 z10 z11 z12 z13 z14 z15 (an (show bkNow z16 z17 z18 z19 (3 : Int) (1 : Int) (0 : Int) x (0 : Int) = z16 by (simp; done)) (an (show bkNow z16 z17 z18 z19 (3 : Int) (1 : Int) (0 : Int) x (1 : Int) = IntKind.i64.wrap (IntKind.i64.wrap (IntKind.i64.wrap (z17 - (1 : Int)) - x) + (1 : Int)) by (simp (disch := omega) only [wrapk] at *; simp at * <;> (repeat' split) <;> omega)) (an (show bkNow z16 z17 z18 z19 (3 : Int) (1 : Int) (0 : Int) x (2 : Int) = z18 by (simp; done)) (an (show bkNow z16 z17 z18 z19 (3 : Int) (1 : Int) (0 : Int) x (3 : Int) = z19 by (simp; done)) (cB4a_1 z20 z21 z22 z23 z24 z25 z26 z27 z28 z29 z30 z31 (an tt tt)))))))) tt) (an (an (@Eq.refl (Nat) ((0 : Nat))) (an (show ∀ (k : Nat), k < (0 : Nat) → (0 : Int) = (0 : Int) from fun _ _ => rfl) (an (show bkCode z16 z17 z18 z19 (3 : Int) (1 : Int) (0 : Int) x = (0 : Int) by (simp (disch := omega) only [wrapk] at *; simp at * <;> simp [*] <;> done)) (show bkNum z16 z17 z18 z19 (3 : Int) (1 : Int) (0 : Int) x = IntKind.i64.wrap (IntKind.i64.wrap (z17 - (1 : Int)) - x) by (simp (disch := omega) only [wrapk] at *; simp at * <;> simp [*] <;> done))))) tt))) ?_
      kernel_rfl

theorem nbk_320 : NeedRun 21 [b0, b1, b2, b3, b4, b5, b6, b7, b8, b9, b10, b11, b12, b13, b14, b15] [z0, z1, z2, z3, z4, z5, z6, z7, z8, z9, z10, z11, z12, z13, z14, z15, z16, z17, z18, z19, z20, z21, z22, z23, z24, z25, z26, z27, z28, z29, z30, z31] 3 2 0 x := by
 intro hv ho hn
 have m0 := m0_of hv
 have hx := hx_of ho
 have ho' : opMayL [3, 2, 0, x] = true := ho
 simp at hn

 rcases Bool.eq_false_or_eq_true (!allMay [z0, z1, z2, z3, z4, z5, z6, z7, z8, z9, z10, z11, z12, z13, z14, z15, z16, z17, z18, z19, z20, z21, z22, z23, z24, z25, z26, z27, z28, z29, z30, z31]) with h0 | h0
 · exact ff (by (simp [hv, ho'] at *; done))
 ·
  rcases Bool.eq_false_or_eq_true (!opMayL [(3 : Int), (2 : Int), (0 : Int), x]) with h1 | h1
  · exact ff (by (simp [hv, ho'] at *; done))
  ·
   rcases Bool.eq_false_or_eq_true (!b2) with h2 | h2
   ·
    refine vcIntro [false, false, true] (an (an h2 (an h1 (an h0 tt))) (an (an (an (show bkD [b0, b1, b2, b3, b4, b5, b6, b7, b8, b9, b10, b11, b12, b13, b14, b15] (3 : Int) (2 : Int) (0 : Int) = (2 : Int) by (simp at * <;> simp [*] <;> done)) (cB4a_0 b0 b1 b2 b3 b4 b5 b6 b7 b8 b9 b10 b11 b12 b13 b14 b15 z0 z1 z2 z3 z4 z5 z6 z7 z8 z9 z10 z11 z12 z13 z14 z15 (cB4a_2 z16 z17 z18 z19 z20 z21 z22 z23 z24 z25 z26 z27 z28 z29 z30 (an (ri z31) tt)))) tt) tt)) ?_
    kernel_rfl
   · exact ff (by (simp_all; done))

theorem dbk_320 : DoneRun 21 [b0, b1, b2, b3, b4, b5, b6, b7, b8, b9, b10, b11, b12, b13, b14, b15] [z0, z1, z2, z3, z4, z5, z6, z7, z8, z9, z10, z11, z12, z13, z14, z15, z16, z17, z18, z19, z20, z21, z22, z23, z24, z25, z26, z27, z28, z29, z30, z31] 3 2 0 x := by
 intro hv ho hn
 have m0 := m0_of hv
 have hx := hx_of ho
 have ho' : opMayL [3, 2, 0, x] = true := ho
 simp at hn

 rcases Bool.eq_false_or_eq_true (!allMay [z0, z1, z2, z3, z4, z5, z6, z7, z8, z9, z10, z11, z12, z13, z14, z15, z16, z17, z18, z19, z20, z21, z22, z23, z24, z25, z26, z27, z28, z29, z30, z31]) with h0 | h0
 · exact ff (by (simp [hv, ho'] at *; done))
 ·
  rcases Bool.eq_false_or_eq_true (!opMayL [(3 : Int), (2 : Int), (0 : Int), x]) with h1 | h1
  · exact ff (by (simp [hv, ho'] at *; done))
  ·
   rcases Bool.eq_false_or_eq_true (!b2) with h2 | h2
   · exact ff (by (simp_all; done))
   ·
    rcases Bool.eq_false_or_eq_true (!decide (z18 > (0 : Int))) with h3 | h3
    ·
     have e : bkCode z16 z17 z18 z19 (3 : Int) (2 : Int) (0 : Int) x = (2 : Int) := by (simp at * <;> (repeat' split) <;> omega)
     refine vcIntro [false, false, false, true] (an (an h3 (an h2 (an h1 (an h0 tt)))) (an (an (an tt (cB4a_0 b0 b1 b2 b3 b4 b5 b6 b7 b8 b9 b10 b11 b12 b13 b14 b15 z0 z1 z2 z3 z4 z5 z6 z7 z8 z9 z10 z11 z12 z13 z14 z15 (an (nS0 e) (an (nS1 e) (an (nS2 e) (an (nS3 e) (cB4a_1 z20 z21 z22 z23 z24 z25 z26 z27 z28 z29 z30 z31 (an tt tt)))))))) tt) (an (an (@Eq.refl (Nat) ((0 : Nat))) (an (show ∀ (k : Nat), k < (0 : Nat) → (0 : Int) = (0 : Int) from fun _ _ => rfl) (an e (nSn e)))) tt))) ?_
     kernel_rfl
    ·
     rcases Bool.eq_false_or_eq_true (decide (IntKind.i64.wrap (z18 - (1 : Int)) < x)) with h4 | h4
     ·
      have e : bkCode z16 z17 z18 z19 (3 : Int) (2 : Int) (0 : Int) x = (3 : Int) := by (simp (disch := omega) only [wrapk] at *; simp at * <;> simp [*] <;> done)
      refine vcIntro [false, false, false, false, true] (an (an h4 (an h3 (an h2 (an h1 (an h0 tt))))) (an (an (an tt (cB4a_0 b0 b1 b2 b3 b4 b5 b6 b7 b8 b9 b10 b11 b12 b13 b14 b15 z0 z1 z2 z3 z4 z5 z6 z7 z8 z9 z10 z11 z12 z13 z14 z15 (an (nS0 e) (an (nS1 e) (an (nS2 e) (an (nS3 e) (cB4a_1 z20 z21 z22 z23 z24 z25 z26 z27 z28 z29 z30 z31 (an tt tt)))))))) tt) (an (an (@Eq.refl (Nat) ((0 : Nat))) (an (show ∀ (k : Nat), k < (0 : Nat) → (0 : Int) = (0 : Int) from fun _ _ => rfl) (an e (nSn e)))) tt))) ?_
      kernel_rfl
     ·
      refine vcIntro [false, false, false, false, false] (an (an h4 (an h3 (an h2 (an h1 (an h0 tt))))) (an (an (an tt (cB4a_0 b0 b1 b2 b3 b4 b5 b6 b7 b8 b9 b10 b11 b12 b13 b14 b15 z0 z1 z2 z3 z4 z5 z6 z7 z8 z9 z10 z11 z12 z13 z14 z15 (an (show bkNow z16 z17 z18 z19 (3 : Int) (2 : Int) (0 : Int) x (0 : Int) = z16 by (simp; done)) (an (show bkNow z16 z17 z18 z19 (3 : Int) (2 : Int) (0 : Int) x (1 : Int) = z17 by (simp; done)) (an (show bkNow z16 z17 z18 z19 (3 : Int) (2 : Int) (0 : Int) x (2 : Int) = IntKind.i64.wrap (IntKind.i64.wrap (IntKind.i64.wrap (z18 - (1 : Int)) - x) + (1 : Int)) by (simp (disch := omega) only [wrapk] at *; simp at * <;> (repeat' split) <;> omega)) (an (show bkNow z16 z17 z18 z19 (3 : Int) (2 : Int) (0 : Int) x (3 : Int) = z19 by (simp; done)) (cB4a_1 z20 z21 z22 z23 z24 z25 z26 z27 z28 z29 z30 z31 (an tt tt)))))))) tt) (an (an (@Eq.refl (Nat) ((0 : Nat))) (an (show ∀ (k : Nat), k < (0 : Nat) → (0 : Int) = (0 : Int) from fun _ _ => rfl) (an (show bkCode z16 z17 z18 z19 (3 : Int) (2 : Int) (0 : Int) x = (0 : Int) by (simp (disch := omega) only [wrapk] at *; simp at * <;> simp [*] <;> done)) (show bkNum z16 z17 z18 z19 (3 : Int) (2 : Int) (0 : Int) x = IntKind.i64.wrap (IntKind.i64.wrap (z18 - (1 : Int)) - x) by (simp (disch := omega) only [wrapk] at *; simp at * <;> simp [*] <;> done))))) tt))) ?_
      kernel_rfl

theorem nbk_330 : NeedRun 21 [b0, b1, b2, b3, b4, b5, b6, b7, b8, b9, b10, b11, b12, b13, b14, b15] [z0, z1, z2, z3, z4, z5, z6, z7, z8, z9, z10, z11, z12, z13, z14, z15, z16, z17, z18, z19, z20, z21, z22, z23, z24, z25, z26, z27, z28, z29, z30, z31] 3 3 0 x := by
 intro hv ho hn
 have m0 := m0_of hv
 have hx := hx_of ho
 have ho' : opMayL [3, 3, 0, x] = true := ho
 simp at hn

 rcases Bool.eq_false_or_eq_true (!allMay [z0, z1, z2, z3, z4, z5, z6, z7, z8, z9, z10, z11, z12, z13, z14, z15, z16, z17, z18, z19, z20, z21, z22, z23, z24, z25, z26, z27, z28, z29, z30, z31]) with h0 | h0
 · exact ff (by (simp [hv, ho'] at *; done))
 ·
  rcases Bool.eq_false_or_eq_true (!opMayL [(3 : Int), (3 : Int), (0 : Int), x]) with h1 | h1
  · exact ff (by (simp [hv, ho'] at *; done))
  ·
   rcases Bool.eq_false_or_eq_true (!b3) with h2 | h2
   ·
    refine vcIntro [false, false, true] (an (an h2 (an h1 (an h0 tt))) (an (an (an (show bkD [b0, b1, b2, b3, b4, b5, b6, b7, b8, b9, b10, b11, b12, b13, b14, b15] (3 : Int) (3 : Int) (0 : Int) = (3 : Int) by (simp at * <;> simp [*] <;> done)) (cB4a_0 b0 b1 b2 b3 b4 b5 b6 b7 b8 b9 b10 b11 b12 b13 b14 b15 z0 z1 z2 z3 z4 z5 z6 z7 z8 z9 z10 z11 z12 z13 z14 z15 (cB4a_2 z16 z17 z18 z19 z20 z21 z22 z23 z24 z25 z26 z27 z28 z29 z30 (an (ri z31) tt)))) tt) tt)) ?_
    kernel_rfl
   · exact ff (by (simp_all; done))

theorem dbk_330 : DoneRun 21 [b0, b1, b2, b3, b4, b5, b6, b7, b8, b9, b10, b11, b12, b13, b14, b15] [z0, z1, z2, z3, z4, z5, z6, z7, z8, z9, z10, z11, z12, z13, z14, z15, z16, z17, z18, z19, z20, z21, z22, z23, z24, z25, z26, z27, z28, z29, z30, z31] 3 3 0 x := by
 intro hv ho hn
 have m0 := m0_of hv
 have hx := hx_of ho
 have ho' : opMayL [3, 3, 0, x] = true := ho
 simp at hn

 rcases Bool.eq_false_or_eq_true (!allMay [z0, z1, z2, z3, z4, z5, z6, z7, z8, z9, z10, z11, z12, z13, z14, z15, z16, z17, z18, z19, z20, z21, z22, z23, z24, z25, z26, z27, z28, z29, z30, z31]) with h0 | h0
 · exact ff (by (simp [hv, ho'] at *; done))
 ·
  rcases Bool.eq_false_or_eq_true (!opMayL [(3 : Int), (3 : Int), (0 : Int), x]) with h1 | h1
  · exact ff (by (simp [hv, ho'] at *; done))
  ·
   rcases Bool.eq_false_or_eq_true (!b3) with h2 | h2
   · exact ff (by (simp_all; done))
   ·
    rcases Bool.eq_false_or_eq_true (!decide (z19 > (0 : Int))) with h3 | h3
    ·
     have e : bkCode z16 z17 z18 z19 (3 : Int) (3 : Int) (0 : Int) x = (2 : Int) := by (simp at * <;> (repeat' split) <;> omega)
     refine vcIntro [false, false, false, true] (an (an h3 (an h2 (an h1 (an h0 tt)))) (an (an (an tt (cB4a_0 b0 b1 b2 b3 b4 b5 b6 b7 b8 b9 b10 b11 b12 b13 b14 b15 z0 z1 z2 z3 z4 z5 z6 z7 z8 z9 z10 z11 z12 z13 z14 z15 (an (nS0 e) (an (nS1 e) (an (nS2 e) (an (nS3 e) (cB4a_1 z20 z21 z22 z23 z24 z25 z26 z27 z28 z29 z30 z31 (an tt tt)))))))) tt) (an (an (@Eq.refl (Nat) ((0 : Nat))) (an (show ∀ (k : Nat), k < (0 : Nat) → (0 : Int) = (0 : Int) from fun _ _ => rfl) (an e (nSn e)))) tt))) ?_
     kernel_rfl
    ·
     rcases Bool.eq_false_or_eq_true (decide (IntKind.i64.wrap (z19 - (1 : Int)) < x)) with h4 | h4
     ·
      have e : bkCode z16 z17 z18 z19 (3 : Int) (3 : Int) (0 : Int) x = (3 : Int) := by (simp (disch := omega) only [wrapk] at *; simp at * <;> simp [*] <;> done)
      refine vcIntro [false, false, false, false, true] (an (an h4 (an h3 (an h2 (an h1 (an h0 tt))))) (an (an (an tt (cB4a_0 b0 b1 b2 b3 b4 b5 b6 b7 b8 b9 b10 b11 b12 b13 b14 b15 z0 z1 z2 z3 z4 z5 z6 z7 z8 z9 z10 z11 z12 z13 z14 z15 (an (nS0 e) (an (nS1 e) (an (nS2 e) (an (nS3 e) (cB4a_1 z20 z21 z22 z23 z24 z25 z26 z27 z28 z29 z30 z31 (an tt tt)))))))) tt) (an (an (@Eq.refl (Nat) ((0 : Nat))) (an (show ∀ (k : Nat), k < (0 : Nat) → (0 : Int) = (0 : Int) from fun _ _ => rfl) (an e (nSn e)))) tt))) ?_
      kernel_rfl
     ·
      refine vcIntro [false, false, false, false, false] (an (an h4 (an h3 (an h2 (an h1 (an h0 tt))))) (an (an (an tt (cB4a_0 b0 b1 b2 b3 b4 b5 b6 b7 b8 b9 b10 b11 b12 b13 b14 b15 z0 z1 z2 z3 z4 z5 z6 z7 z8 z9 z10 z11 z12 z13 z14 z15 (an (show bkNow z16 z17 z18 z19 (3 : Int) (3 : Int) (0 : Int) x (0 : Int) = z16 by (simp; done)) (an (show bkNow z16 z17 z18 z19 (3 : Int) (3 : Int) (0 : Int) x (1 : Int) = z17 by (simp; done)) (an (show bkNow z16 z17 z18 z19 (3 : Int) (3 : Int) (0 : Int) x (2 : Int) = z18 by (simp; done)) (an (show bkNow z16 z17 z18 z19 (3 : Int) (3 : Int) (0 : Int) x (3 : Int) = IntKind.i64.wrap (IntKind.i64.wrap (IntKind.i64.wrap (z19 - (1 : Int)) - x) + (1 : Int)) by (simp (disch := omega) only [wrapk] at *; simp at * <;> (repeat' split) <;> omega)) (cB4a_1 z20 z21 z22 z23 z24 z25 z26 z27 z28 z29 z30 z31 (an tt tt)))))))) tt) (an (an (@Eq.refl (Nat) ((0 : Nat))) (an (show ∀ (k : Nat), k < (0 : Nat) → (0 : Int) = (0 : Int) from fun _ _ => rfl) (an (show bkCode z16 z17 z18 z19 (3 : Int) (3 : Int) (0 : Int) x = (0 : Int) by (simp (disch := omega) only [wrapk] at *; simp at * <;> simp [*] <;> done)) (show bkNum z16 z17 z18 z19 (3 : Int) (3 : Int) (0 : Int) x = IntKind.i64.wrap (IntKind.i64.wrap (z19 - (1 : Int)) - x) by (simp (disch := omega) only [wrapk] at *; simp at * <;> simp [*] <;> done))))) tt))) ?_
      kernel_rfl

end Go.Ideal.B1
