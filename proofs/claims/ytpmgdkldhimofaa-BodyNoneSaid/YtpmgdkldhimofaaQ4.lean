/- Chapter 7: runs of bank.Do, over KB. Put together of B4a, B4b, B4c by gen/q7.py. Own text. -/
import Derived.Test.YtpmgdkldhimofaaKB
namespace Go.Ideal.B1
section
open Go.Proofs Go.Ideal Go.Ideal.L1
set_option linter.unusedSimpArgs false
set_option linter.unusedVariables false
set_option maxRecDepth 100000
set_option maxHeartbeats 8000000
/-- Runs over what may be. -/
def argL (bs : List Bool) (zs : List Int) (k a b x : E) : List V := [.agg (viewOf bs zs), .agg [.int .i64 k, .int .i64 a, .int .i64 b, .int .i64 x]]
def NeedRun (f : FuncId) (bs : List Bool) (zs : List Int) (k a b x : Int) : Prop := allMay zs = true → opMay k a b x = true → 0 ≤ bkD bs k a b →
  ∃ hh, vcOf (runCall Try.prog maysP noL 6000 f (argL bs zs (.c k) (.c a) (.c b) (.s x)) H0 hh) (fun v H1 => retP 0 (lastBlk v) v H1 (needAsk (bkD bs k a b) bs zs) [] 0)
def DoneRun (f : FuncId) (bs : List Bool) (zs : List Int) (k a b x : Int) : Prop := allMay zs = true → opMay k a b x = true → ¬ 0 ≤ bkD bs k a b →
  ∃ hh, vcOf (runCall Try.prog maysP noL 6000 f (argL bs zs (.c k) (.c a) (.c b) (.s x)) H0 hh) (fun v H1 => retP 0 (lastBlk v) v H1 (doneAsk bs (bkZs zs k a b x)) (bkA zs k a b x) 1)
def BadRun (f : FuncId) (bs : List Bool) (zs : List Int) (k a b x : Int) : Prop := bkMay zs k a b x = false →
  ∃ hh, vcOf (runCall Try.prog maysP noL 6000 f (argL bs zs (.s k) (.s a) (.s b) (.s x)) H0 hh) (fun v H1 => retP 0 (lastBlk v) v H1 (badAsk 500) [] 0)
abbrev bl (b : Nat → Bool) : List Bool := [b 0, b 1, b 2, b 3, b 4, b 5, b 6, b 7, b 8, b 9, b 10, b 11, b 12, b 13, b 14, b 15]
abbrev zl (z : Nat → Int) : List Int := [z 0, z 1, z 2, z 3, z 4, z 5, z 6, z 7, z 8, z 9, z 10, z 11, z 12, z 13, z 14, z 15, z 16, z 17, z 18, z 19, z 20, z 21, z 22, z 23, z 24, z 25, z 26, z 27, z 28, z 29, z 30, z 31]
theorem m0_of {z0 z1 z2 z3 z4 z5 z6 z7 z8 z9 z10 z11 z12 z13 z14 z15 z16 z17 z18 z19 z20 z21 z22 z23 z24 z25 z26 z27 z28 z29 z30 z31 : Int} (hv : allMay [z0, z1, z2, z3, z4, z5, z6, z7, z8, z9, z10, z11, z12, z13, z14, z15, z16, z17, z18, z19, z20, z21, z22, z23, z24, z25, z26, z27, z28, z29, z30, z31] = true) : 0 ≤ z16 ∧ z16 < 1099511627776 ∧ 0 ≤ z17 ∧ z17 < 1099511627776 ∧ 0 ≤ z18 ∧ z18 < 1099511627776 ∧ 0 ≤ z19 ∧ z19 < 1099511627776 := by simp [allMay, valMay] at hv; omega
theorem hx_of {k a b x : Int} (ho : opMay k a b x = true) : 0 ≤ x ∧ x < 1048576 := by simp only [opMay, Bool.and_eq_true, decide_eq_true_eq] at ho; (repeat' split at ho) <;> omega

end
end Go.Ideal.B1
namespace Go.Ideal.B1
section
open Go.Proofs Go.Ideal Go.Ideal.L1
set_option linter.unusedSimpArgs false
set_option linter.unusedVariables false
set_option maxRecDepth 100000
set_option maxHeartbeats 8000000
attribute [local simp] bl zl sel bkNeed bkCode pos bkNum bkNow bkZs bkA bkD
theorem nS {m0 m1 m2 m3 k a b x c : Int} (i : Int) (h : bkCode m0 m1 m2 m3 k a b x = c) (hc : c ≠ 0) : bkNow m0 m1 m2 m3 k a b x i = sel m0 m1 m2 m3 i := by simp only [bkNow, h, if_neg hc]
theorem nS0 {m0 m1 m2 m3 k a b x c : Int} (h : bkCode m0 m1 m2 m3 k a b x = c) (hc : c ≠ 0 := by decide) : bkNow m0 m1 m2 m3 k a b x (0 : Int) = m0 := nS 0 h hc
theorem nS1 {m0 m1 m2 m3 k a b x c : Int} (h : bkCode m0 m1 m2 m3 k a b x = c) (hc : c ≠ 0 := by decide) : bkNow m0 m1 m2 m3 k a b x (1 : Int) = m1 := nS 1 h hc
theorem nS2 {m0 m1 m2 m3 k a b x c : Int} (h : bkCode m0 m1 m2 m3 k a b x = c) (hc : c ≠ 0 := by decide) : bkNow m0 m1 m2 m3 k a b x (2 : Int) = m2 := nS 2 h hc
theorem nS3 {m0 m1 m2 m3 k a b x c : Int} (h : bkCode m0 m1 m2 m3 k a b x = c) (hc : c ≠ 0 := by decide) : bkNow m0 m1 m2 m3 k a b x (3 : Int) = m3 := nS 3 h hc
theorem nSn {m0 m1 m2 m3 k a b x c : Int} (h : bkCode m0 m1 m2 m3 k a b x = c) (hc : c ≠ 0 := by decide) : bkNum m0 m1 m2 m3 k a b x = (0 : Int) := by simp only [bkNum, h, if_neg hc]
theorem cB4a_0 (b : Nat → Bool) (z : Nat → Int) {R : Prop} (h : R) : ((b 0) : Bool) = (b 0) ∧ (((b 1) : Bool) = (b 1) ∧ (((b 2) : Bool) = (b 2) ∧ (((b 3) : Bool) = (b 3) ∧ (((b 4) : Bool) = (b 4) ∧ (((b 5) : Bool) = (b 5) ∧ (((b 6) : Bool) = (b 6) ∧ (((b 7) : Bool) = (b 7) ∧ (((b 8) : Bool) = (b 8) ∧ (((b 9) : Bool) = (b 9) ∧ (((b 10) : Bool) = (b 10) ∧ (((b 11) : Bool) = (b 11) ∧ (((b 12) : Bool) = (b 12) ∧ (((b 13) : Bool) = (b 13) ∧ (((b 14) : Bool) = (b 14) ∧ (((b 15) : Bool) = (b 15) ∧ (((z 0) : Int) = (z 0) ∧ (((z 1) : Int) = (z 1) ∧ (((z 2) : Int) = (z 2) ∧ (((z 3) : Int) = (z 3) ∧ (((z 4) : Int) = (z 4) ∧ (((z 5) : Int) = (z 5) ∧ (((z 6) : Int) = (z 6) ∧ (((z 7) : Int) = (z 7) ∧ (((z 8) : Int) = (z 8) ∧ (((z 9) : Int) = (z 9) ∧ (((z 10) : Int) = (z 10) ∧ (((z 11) : Int) = (z 11) ∧ (((z 12) : Int) = (z 12) ∧ (((z 13) : Int) = (z 13) ∧ (((z 14) : Int) = (z 14) ∧ (((z 15) : Int) = (z 15) ∧ (R)))))))))))))))))))))))))))))))) := ⟨rfl, ⟨rfl, ⟨rfl, ⟨rfl, ⟨rfl, ⟨rfl, ⟨rfl, ⟨rfl, ⟨rfl, ⟨rfl, ⟨rfl, ⟨rfl, ⟨rfl, ⟨rfl, ⟨rfl, ⟨rfl, ⟨rfl, ⟨rfl, ⟨rfl, ⟨rfl, ⟨rfl, ⟨rfl, ⟨rfl, ⟨rfl, ⟨rfl, ⟨rfl, ⟨rfl, ⟨rfl, ⟨rfl, ⟨rfl, ⟨rfl, ⟨rfl, h⟩⟩⟩⟩⟩⟩⟩⟩⟩⟩⟩⟩⟩⟩⟩⟩⟩⟩⟩⟩⟩⟩⟩⟩⟩⟩⟩⟩⟩⟩⟩⟩
theorem cB4a_1 (z : Nat → Int) {R : Prop} (h : R) : ((z 20) : Int) = (z 20) ∧ (((z 21) : Int) = (z 21) ∧ (((z 22) : Int) = (z 22) ∧ (((z 23) : Int) = (z 23) ∧ (((z 24) : Int) = (z 24) ∧ (((z 25) : Int) = (z 25) ∧ (((z 26) : Int) = (z 26) ∧ (((z 27) : Int) = (z 27) ∧ (((z 28) : Int) = (z 28) ∧ (((z 29) : Int) = (z 29) ∧ (((z 30) : Int) = (z 30) ∧ (((z 31) : Int) = (z 31) ∧ (True ∧ (R))))))))))))) := ⟨rfl, ⟨rfl, ⟨rfl, ⟨rfl, ⟨rfl, ⟨rfl, ⟨rfl, ⟨rfl, ⟨rfl, ⟨rfl, ⟨rfl, ⟨rfl, ⟨True.intro, h⟩⟩⟩⟩⟩⟩⟩⟩⟩⟩⟩⟩⟩
theorem cB4a_2 (z : Nat → Int) {R : Prop} (h : R) : ((z 16) : Int) = (z 16) ∧ (((z 17) : Int) = (z 17) ∧ (((z 18) : Int) = (z 18) ∧ (((z 19) : Int) = (z 19) ∧ (((z 20) : Int) = (z 20) ∧ (((z 21) : Int) = (z 21) ∧ (((z 22) : Int) = (z 22) ∧ (((z 23) : Int) = (z 23) ∧ (((z 24) : Int) = (z 24) ∧ (((z 25) : Int) = (z 25) ∧ (((z 26) : Int) = (z 26) ∧ (((z 27) : Int) = (z 27) ∧ (((z 28) : Int) = (z 28) ∧ (((z 29) : Int) = (z 29) ∧ (((z 30) : Int) = (z 30) ∧ (R))))))))))))))) := ⟨rfl, ⟨rfl, ⟨rfl, ⟨rfl, ⟨rfl, ⟨rfl, ⟨rfl, ⟨rfl, ⟨rfl, ⟨rfl, ⟨rfl, ⟨rfl, ⟨rfl, ⟨rfl, ⟨rfl, h⟩⟩⟩⟩⟩⟩⟩⟩⟩⟩⟩⟩⟩⟩⟩
variable (b : Nat → Bool) (z : Nat → Int) (x : Int)

theorem nbk_000 : NeedRun 46 (bl b) (zl z) 0 0 0 x := by
 intro hv ho hn
 have m0 := m0_of hv
 have hx := hx_of ho
 have ho' : opMayL [0, 0, 0, x] = true := ho
 simp at hn

 rcases Bool.eq_false_or_eq_true (!allMay (zl z)) with h0 | h0
 · exact ff (by (simp [hv, ho'] at *; done))
 ·
  rcases Bool.eq_false_or_eq_true (!opMayL [(0 : Int), (0 : Int), (0 : Int), x]) with h1 | h1
  · exact ff (by (simp [hv, ho'] at *; done))
  ·
   rcases Bool.eq_false_or_eq_true (!(b 0)) with h2 | h2
   ·
    refine vcIntro [false, false, true] (an (an h2 (an h1 (an h0 tt))) (an (an (an (show bkD (bl b) (0 : Int) (0 : Int) (0 : Int) = (0 : Int) by (simp at * <;> simp [*] <;> done)) (cB4a_0 b z (cB4a_2 z (an (ri (z 31)) tt)))) tt) tt)) ?_
    kernel_rfl
   · exact ff (by (simp_all; done))

theorem dbk_000 : DoneRun 46 (bl b) (zl z) 0 0 0 x := by
 intro hv ho hn
 have m0 := m0_of hv
 have hx := hx_of ho
 have ho' : opMayL [0, 0, 0, x] = true := ho
 simp at hn

 rcases Bool.eq_false_or_eq_true (!allMay (zl z)) with h0 | h0
 · exact ff (by (simp [hv, ho'] at *; done))
 ·
  rcases Bool.eq_false_or_eq_true (!opMayL [(0 : Int), (0 : Int), (0 : Int), x]) with h1 | h1
  · exact ff (by (simp [hv, ho'] at *; done))
  ·
   rcases Bool.eq_false_or_eq_true (!(b 0)) with h2 | h2
   · exact ff (by (simp_all; done))
   ·
    rcases Bool.eq_false_or_eq_true (decide ((z 16) > (0 : Int))) with h3 | h3
    ·
     have e : bkCode (z 16) (z 17) (z 18) (z 19) (0 : Int) (0 : Int) (0 : Int) x = (1 : Int) := by (simp at * <;> simp [*] <;> done)
     refine vcIntro [false, false, false, true] (an (an h3 (an h2 (an h1 (an h0 tt)))) (an (an (an tt (cB4a_0 b z (an (nS0 e) (an (nS1 e) (an (nS2 e) (an (nS3 e) (cB4a_1 z (an tt tt)))))))) tt) (an (an (@Eq.refl (Nat) ((0 : Nat))) (an (show ∀ (k : Nat), k < (0 : Nat) → (0 : Int) = (0 : Int) from fun _ _ => rfl) (an e (nSn e)))) tt))) ?_
     kernel_rfl
    ·
     refine vcIntro [false, false, false, false] (an (an h3 (an h2 (an h1 (an h0 tt)))) (an (an (an tt (cB4a_0 b z (an (show bkNow (z 16) (z 17) (z 18) (z 19) (0 : Int) (0 : Int) (0 : Int) x (0 : Int) = IntKind.i64.wrap (x + (1 : Int)) by (simp (disch := omega) only [wrapk] at *; simp at * <;> (repeat' split) <;> omega)) (an (show bkNow (z 16) (z 17) (z 18) (z 19) (0 : Int) (0 : Int) (0 : Int) x (1 : Int) = (z 17) by (simp; done)) (an (show bkNow (z 16) (z 17) (z 18) (z 19) (0 : Int) (0 : Int) (0 : Int) x (2 : Int) = (z 18) by (simp; done)) (an (show bkNow (z 16) (z 17) (z 18) (z 19) (0 : Int) (0 : Int) (0 : Int) x (3 : Int) = (z 19) by (simp; done)) (cB4a_1 z (an tt tt)))))))) tt) (an (an (@Eq.refl (Nat) ((0 : Nat))) (an (show ∀ (k : Nat), k < (0 : Nat) → (0 : Int) = (0 : Int) from fun _ _ => rfl) (an (show bkCode (z 16) (z 17) (z 18) (z 19) (0 : Int) (0 : Int) (0 : Int) x = (0 : Int) by (simp at * <;> simp [*] <;> done)) (show bkNum (z 16) (z 17) (z 18) (z 19) (0 : Int) (0 : Int) (0 : Int) x = x by (simp at * <;> (repeat' split) <;> omega))))) tt))) ?_
     kernel_rfl

theorem nbk_010 : NeedRun 46 (bl b) (zl z) 0 1 0 x := by
 intro hv ho hn
 have m0 := m0_of hv
 have hx := hx_of ho
 have ho' : opMayL [0, 1, 0, x] = true := ho
 simp at hn

 rcases Bool.eq_false_or_eq_true (!allMay (zl z)) with h0 | h0
 · exact ff (by (simp [hv, ho'] at *; done))
 ·
  rcases Bool.eq_false_or_eq_true (!opMayL [(0 : Int), (1 : Int), (0 : Int), x]) with h1 | h1
  · exact ff (by (simp [hv, ho'] at *; done))
  ·
   rcases Bool.eq_false_or_eq_true (!(b 1)) with h2 | h2
   ·
    refine vcIntro [false, false, true] (an (an h2 (an h1 (an h0 tt))) (an (an (an (show bkD (bl b) (0 : Int) (1 : Int) (0 : Int) = (1 : Int) by (simp at * <;> simp [*] <;> done)) (cB4a_0 b z (cB4a_2 z (an (ri (z 31)) tt)))) tt) tt)) ?_
    kernel_rfl
   · exact ff (by (simp_all; done))

theorem dbk_010 : DoneRun 46 (bl b) (zl z) 0 1 0 x := by
 intro hv ho hn
 have m0 := m0_of hv
 have hx := hx_of ho
 have ho' : opMayL [0, 1, 0, x] = true := ho
 simp at hn

 rcases Bool.eq_false_or_eq_true (!allMay (zl z)) with h0 | h0
 · exact ff (by (simp [hv, ho'] at *; done))
 ·
  rcases Bool.eq_false_or_eq_true (!opMayL [(0 : Int), (1 : Int), (0 : Int), x]) with h1 | h1
  · exact ff (by (simp [hv, ho'] at *; done))
  ·
   rcases Bool.eq_false_or_eq_true (!(b 1)) with h2 | h2
   · exact ff (by (simp_all; done))
   ·
    rcases Bool.eq_false_or_eq_true (decide ((z 17) > (0 : Int))) with h3 | h3
    ·
     have e : bkCode (z 16) (z 17) (z 18) (z 19) (0 : Int) (1 : Int) (0 : Int) x = (1 : Int) := by (simp at * <;> simp [*] <;> done)
     refine vcIntro [false, false, false, true] (an (an h3 (an h2 (an h1 (an h0 tt)))) (an (an (an tt (cB4a_0 b z (an (nS0 e) (an (nS1 e) (an (nS2 e) (an (nS3 e) (cB4a_1 z (an tt tt)))))))) tt) (an (an (@Eq.refl (Nat) ((0 : Nat))) (an (show ∀ (k : Nat), k < (0 : Nat) → (0 : Int) = (0 : Int) from fun _ _ => rfl) (an e (nSn e)))) tt))) ?_
     kernel_rfl
    ·
     refine vcIntro [false, false, false, false] (an (an h3 (an h2 (an h1 (an h0 tt)))) (an (an (an tt (cB4a_0 b z (an (show bkNow (z 16) (z 17) (z 18) (z 19) (0 : Int) (1 : Int) (0 : Int) x (0 : Int) = (z 16) by (simp; done)) (an (show bkNow (z 16) (z 17) (z 18) (z 19) (0 : Int) (1 : Int) (0 : Int) x (1 : Int) = IntKind.i64.wrap (x + (1 : Int)) by (simp (disch := omega) only [wrapk] at *; simp at * <;> (repeat' split) <;> omega)) (an (show bkNow (z 16) (z 17) (z 18) (z 19) (0 : Int) (1 : Int) (0 : Int) x (2 : Int) = (z 18) by (simp; done)) (an (show bkNow (z 16) (z 17) (z 18) (z 19) (0 : Int) (1 : Int) (0 : Int) x (3 : Int) = (z 19) by (simp; done)) (cB4a_1 z (an tt tt)))))))) tt) (an (an (@Eq.refl (Nat) ((0 : Nat))) (an (show ∀ (k : Nat), k < (0 : Nat) → (0 : Int) = (0 : Int) from fun _ _ => rfl) (an (show bkCode (z 16) (z 17) (z 18) (z 19) (0 : Int) (1 : Int) (0 : Int) x = (0 : Int) by (simp at * <;> simp [*] <;> done)) (show bkNum (z 16) (z 17) (z 18) (z 19) (0 : Int) (1 : Int) (0 : Int) x = x by (simp at * <;> (repeat' split) <;> omega))))) tt))) ?_
     kernel_rfl

theorem nbk_020 : NeedRun 46 (bl b) (zl z) 0 2 0 x := by
 intro hv ho hn
 have m0 := m0_of hv
 have hx := hx_of ho
 have ho' : opMayL [0, 2, 0, x] = true := ho
 simp at hn

 rcases Bool.eq_false_or_eq_true (!allMay (zl z)) with h0 | h0
 · exact ff (by (simp [hv, ho'] at *; done))
 ·
  rcases Bool.eq_false_or_eq_true (!opMayL [(0 : Int), (2 : Int), (0 : Int), x]) with h1 | h1
  · exact ff (by (simp [hv, ho'] at *; done))
  ·
   rcases Bool.eq_false_or_eq_true (!(b 2)) with h2 | h2
   ·
    refine vcIntro [false, false, true] (an (an h2 (an h1 (an h0 tt))) (an (an (an (show bkD (bl b) (0 : Int) (2 : Int) (0 : Int) = (2 : Int) by (simp at * <;> simp [*] <;> done)) (cB4a_0 b z (cB4a_2 z (an (ri (z 31)) tt)))) tt) tt)) ?_
    kernel_rfl
   · exact ff (by (simp_all; done))

theorem dbk_020 : DoneRun 46 (bl b) (zl z) 0 2 0 x := by
 intro hv ho hn
 have m0 := m0_of hv
 have hx := hx_of ho
 have ho' : opMayL [0, 2, 0, x] = true := ho
 simp at hn

 rcases Bool.eq_false_or_eq_true (!allMay (zl z)) with h0 | h0
 · exact ff (by (simp [hv, ho'] at *; done))
 ·
  rcases Bool.eq_false_or_eq_true (!opMayL [(0 : Int), (2 : Int), (0 : Int), x]) with h1 | h1
  · exact ff (by (simp [hv, ho'] at *; done))
  ·
   rcases Bool.eq_false_or_eq_true (!(b 2)) with h2 | h2
   · exact ff (by (simp_all; done))
   ·
    rcases Bool.eq_false_or_eq_true (decide ((z 18) > (0 : Int))) with h3 | h3
    ·
     have e : bkCode (z 16) (z 17) (z 18) (z 19) (0 : Int) (2 : Int) (0 : Int) x = (1 : Int) := by (simp at * <;> simp [*] <;> done)
     refine vcIntro [false, false, false, true] (an (an h3 (an h2 (an h1 (an h0 tt)))) (an (an (an tt (cB4a_0 b z (an (nS0 e) (an (nS1 e) (an (nS2 e) (an (nS3 e) (cB4a_1 z (an tt tt)))))))) tt) (an (an (@Eq.refl (Nat) ((0 : Nat))) (an (show ∀ (k : Nat), k < (0 : Nat) → (0 : Int) = (0 : Int) from fun _ _ => rfl) (an e (nSn e)))) tt))) ?_
     kernel_rfl
    ·
     refine vcIntro [false, false, false, false] (an (an h3 (an h2 (an h1 (an h0 tt)))) (an (an (an tt (cB4a_0 b z (an (show bkNow (z 16) (z 17) (z 18) (z 19) (0 : Int) (2 : Int) (0 : Int) x (0 : Int) = (z 16) by (simp; done)) (an (show bkNow (z 16) (z 17) (z 18) (z 19) (0 : Int) (2 : Int) (0 : Int) x (1 : Int) = (z 17) by (simp; done)) (an (show bkNow (z 16) (z 17) (z 18) (z 19) (0 : Int) (2 : Int) (0 : Int) x (2 : Int) = IntKind.i64.wrap (x + (1 : Int)) by (simp (disch := omega) only [wrapk] at *; simp at * <;> (repeat' split) <;> omega)) (an (show bkNow (z 16) (z 17) (z 18) (z 19) (0 : Int) (2 : Int) (0 : Int) x (3 : Int) = (z 19) by (simp; done)) (cB4a_1 z (an tt tt)))))))) tt) (an (an (@Eq.refl (Nat) ((0 : Nat))) (an (show ∀ (k : Nat), k < (0 : Nat) → (0 : Int) = (0 : Int) from fun _ _ => rfl) (an (show bkCode (z 16) (z 17) (z 18) (z 19) (0 : Int) (2 : Int) (0 : Int) x = (0 : Int) by (simp at * <;> simp [*] <;> done)) (show bkNum (z 16) (z 17) (z 18) (z 19) (0 : Int) (2 : Int) (0 : Int) x = x by (simp at * <;> (repeat' split) <;> omega))))) tt))) ?_
     kernel_rfl

theorem nbk_030 : NeedRun 46 (bl b) (zl z) 0 3 0 x := by
 intro hv ho hn
 have m0 := m0_of hv
 have hx := hx_of ho
 have ho' : opMayL [0, 3, 0, x] = true := ho
 simp at hn

 rcases Bool.eq_false_or_eq_true (!allMay (zl z)) with h0 | h0
 · exact ff (by (simp [hv, ho'] at *; done))
 ·
  rcases Bool.eq_false_or_eq_true (!opMayL [(0 : Int), (3 : Int), (0 : Int), x]) with h1 | h1
  · exact ff (by (simp [hv, ho'] at *; done))
  ·
   rcases Bool.eq_false_or_eq_true (!(b 3)) with h2 | h2
   ·
    refine vcIntro [false, false, true] (an (an h2 (an h1 (an h0 tt))) (an (an (an (show bkD (bl b) (0 : Int) (3 : Int) (0 : Int) = (3 : Int) by (simp at * <;> simp [*] <;> done)) (cB4a_0 b z (cB4a_2 z (an (ri (z 31)) tt)))) tt) tt)) ?_
    kernel_rfl
   · exact ff (by (simp_all; done))

theorem dbk_030 : DoneRun 46 (bl b) (zl z) 0 3 0 x := by
 intro hv ho hn
 have m0 := m0_of hv
 have hx := hx_of ho
 have ho' : opMayL [0, 3, 0, x] = true := ho
 simp at hn

 rcases Bool.eq_false_or_eq_true (!allMay (zl z)) with h0 | h0
 · exact ff (by (simp [hv, ho'] at *; done))
 ·
  rcases Bool.eq_false_or_eq_true (!opMayL [(0 : Int), (3 : Int), (0 : Int), x]) with h1 | h1
  · exact ff (by (simp [hv, ho'] at *; done))
  ·
   rcases Bool.eq_false_or_eq_true (!(b 3)) with h2 | h2
   · exact ff (by (simp_all; done))
   ·
    rcases Bool.eq_false_or_eq_true (decide ((z 19) > (0 : Int))) with h3 | h3
    ·
     have e : bkCode (z 16) (z 17) (z 18) (z 19) (0 : Int) (3 : Int) (0 : Int) x = (1 : Int) := by (simp at * <;> simp [*] <;> done)
     refine vcIntro [false, false, false, true] (an (an h3 (an h2 (an h1 (an h0 tt)))) (an (an (an tt (cB4a_0 b z (an (nS0 e) (an (nS1 e) (an (nS2 e) (an (nS3 e) (cB4a_1 z (an tt tt)))))))) tt) (an (an (@Eq.refl (Nat) ((0 : Nat))) (an (show ∀ (k : Nat), k < (0 : Nat) → (0 : Int) = (0 : Int) from fun _ _ => rfl) (an e (nSn e)))) tt))) ?_
     kernel_rfl
    ·
     refine vcIntro [false, false, false, false] (an (an h3 (an h2 (an h1 (an h0 tt)))) (an (an (an tt (cB4a_0 b z (an (show bkNow (z 16) (z 17) (z 18) (z 19) (0 : Int) (3 : Int) (0 : Int) x (0 : Int) = (z 16) by (simp; done)) (an (show bkNow (z 16) (z 17) (z 18) (z 19) (0 : Int) (3 : Int) (0 : Int) x (1 : Int) = (z 17) by (simp; done)) (an (show bkNow (z 16) (z 17) (z 18) (z 19) (0 : Int) (3 : Int) (0 : Int) x (2 : Int) = (z 18) by (simp; done)) (an (show bkNow (z 16) (z 17) (z 18) (z 19) (0 : Int) (3 : Int) (0 : Int) x (3 : Int) = IntKind.i64.wrap (x + (1 : Int)) by (simp (disch := omega) only [wrapk] at *; simp at * <;> (repeat' split) <;> omega)) (cB4a_1 z (an tt tt)))))))) tt) (an (an (@Eq.refl (Nat) ((0 : Nat))) (an (show ∀ (k : Nat), k < (0 : Nat) → (0 : Int) = (0 : Int) from fun _ _ => rfl) (an (show bkCode (z 16) (z 17) (z 18) (z 19) (0 : Int) (3 : Int) (0 : Int) x = (0 : Int) by (simp at * <;> simp [*] <;> done)) (show bkNum (z 16) (z 17) (z 18) (z 19) (0 : Int) (3 : Int) (0 : Int) x = x by (simp at * <;> (repeat' split) <;> omega))))) tt))) ?_
     kernel_rfl

theorem nbk_100 : NeedRun 46 (bl b) (zl z) 1 0 0 x := by
 intro hv ho hn
 have m0 := m0_of hv
 have hx := hx_of ho
 have ho' : opMayL [1, 0, 0, x] = true := ho
 simp at hn

 rcases Bool.eq_false_or_eq_true (!allMay (zl z)) with h0 | h0
 · exact ff (by (simp [hv, ho'] at *; done))
 ·
  rcases Bool.eq_false_or_eq_true (!opMayL [(1 : Int), (0 : Int), (0 : Int), x]) with h1 | h1
  · exact ff (by (simp [hv, ho'] at *; done))
  ·
   rcases Bool.eq_false_or_eq_true (!(b 0)) with h2 | h2
   ·
    refine vcIntro [false, false, true] (an (an h2 (an h1 (an h0 tt))) (an (an (an (show bkD (bl b) (1 : Int) (0 : Int) (0 : Int) = (0 : Int) by (simp at * <;> simp [*] <;> done)) (cB4a_0 b z (cB4a_2 z (an (ri (z 31)) tt)))) tt) tt)) ?_
    kernel_rfl
   · exact ff (by (simp_all; done))

theorem dbk_100 : DoneRun 46 (bl b) (zl z) 1 0 0 x := by
 intro hv ho hn
 have m0 := m0_of hv
 have hx := hx_of ho
 have ho' : opMayL [1, 0, 0, x] = true := ho
 simp at hn

 rcases Bool.eq_false_or_eq_true (!allMay (zl z)) with h0 | h0
 · exact ff (by (simp [hv, ho'] at *; done))
 ·
  rcases Bool.eq_false_or_eq_true (!opMayL [(1 : Int), (0 : Int), (0 : Int), x]) with h1 | h1
  · exact ff (by (simp [hv, ho'] at *; done))
  ·
   rcases Bool.eq_false_or_eq_true (!(b 0)) with h2 | h2
   · exact ff (by (simp_all; done))
   ·
    rcases Bool.eq_false_or_eq_true (!decide ((z 16) > (0 : Int))) with h3 | h3
    ·
     have e : bkCode (z 16) (z 17) (z 18) (z 19) (1 : Int) (0 : Int) (0 : Int) x = (2 : Int) := by (simp at * <;> simp [*] <;> done)
     refine vcIntro [false, false, false, true] (an (an h3 (an h2 (an h1 (an h0 tt)))) (an (an (an tt (cB4a_0 b z (an (nS0 e) (an (nS1 e) (an (nS2 e) (an (nS3 e) (cB4a_1 z (an tt tt)))))))) tt) (an (an (@Eq.refl (Nat) ((0 : Nat))) (an (show ∀ (k : Nat), k < (0 : Nat) → (0 : Int) = (0 : Int) from fun _ _ => rfl) (an e (nSn e)))) tt))) ?_
     kernel_rfl
    ·
     refine vcIntro [false, false, false, false] (an (an h3 (an h2 (an h1 (an h0 tt)))) (an (an (an tt (cB4a_0 b z (an (show bkNow (z 16) (z 17) (z 18) (z 19) (1 : Int) (0 : Int) (0 : Int) x (0 : Int) = (0 : Int) by (simp at * <;> (repeat' split) <;> omega)) (an (show bkNow (z 16) (z 17) (z 18) (z 19) (1 : Int) (0 : Int) (0 : Int) x (1 : Int) = (z 17) by (simp; done)) (an (show bkNow (z 16) (z 17) (z 18) (z 19) (1 : Int) (0 : Int) (0 : Int) x (2 : Int) = (z 18) by (simp; done)) (an (show bkNow (z 16) (z 17) (z 18) (z 19) (1 : Int) (0 : Int) (0 : Int) x (3 : Int) = (z 19) by (simp; done)) (cB4a_1 z (an tt tt)))))))) tt) (an (an (@Eq.refl (Nat) ((0 : Nat))) (an (show ∀ (k : Nat), k < (0 : Nat) → (0 : Int) = (0 : Int) from fun _ _ => rfl) (an (show bkCode (z 16) (z 17) (z 18) (z 19) (1 : Int) (0 : Int) (0 : Int) x = (0 : Int) by (simp at * <;> simp [*] <;> done)) (show bkNum (z 16) (z 17) (z 18) (z 19) (1 : Int) (0 : Int) (0 : Int) x = IntKind.i64.wrap ((z 16) - (1 : Int)) by (simp (disch := omega) only [wrapk] at *; simp at * <;> (repeat' split) <;> omega))))) tt))) ?_
     kernel_rfl

theorem nbk_110 : NeedRun 46 (bl b) (zl z) 1 1 0 x := by
 intro hv ho hn
 have m0 := m0_of hv
 have hx := hx_of ho
 have ho' : opMayL [1, 1, 0, x] = true := ho
 simp at hn

 rcases Bool.eq_false_or_eq_true (!allMay (zl z)) with h0 | h0
 · exact ff (by (simp [hv, ho'] at *; done))
 ·
  rcases Bool.eq_false_or_eq_true (!opMayL [(1 : Int), (1 : Int), (0 : Int), x]) with h1 | h1
  · exact ff (by (simp [hv, ho'] at *; done))
  ·
   rcases Bool.eq_false_or_eq_true (!(b 1)) with h2 | h2
   ·
    refine vcIntro [false, false, true] (an (an h2 (an h1 (an h0 tt))) (an (an (an (show bkD (bl b) (1 : Int) (1 : Int) (0 : Int) = (1 : Int) by (simp at * <;> simp [*] <;> done)) (cB4a_0 b z (cB4a_2 z (an (ri (z 31)) tt)))) tt) tt)) ?_
    kernel_rfl
   · exact ff (by (simp_all; done))

theorem dbk_110 : DoneRun 46 (bl b) (zl z) 1 1 0 x := by
 intro hv ho hn
 have m0 := m0_of hv
 have hx := hx_of ho
 have ho' : opMayL [1, 1, 0, x] = true := ho
 simp at hn

 rcases Bool.eq_false_or_eq_true (!allMay (zl z)) with h0 | h0
 · exact ff (by (simp [hv, ho'] at *; done))
 ·
  rcases Bool.eq_false_or_eq_true (!opMayL [(1 : Int), (1 : Int), (0 : Int), x]) with h1 | h1
  · exact ff (by (simp [hv, ho'] at *; done))
  ·
   rcases Bool.eq_false_or_eq_true (!(b 1)) with h2 | h2
   · exact ff (by (simp_all; done))
   ·
    rcases Bool.eq_false_or_eq_true (!decide ((z 17) > (0 : Int))) with h3 | h3
    ·
     have e : bkCode (z 16) (z 17) (z 18) (z 19) (1 : Int) (1 : Int) (0 : Int) x = (2 : Int) := by (simp at * <;> simp [*] <;> done)
     refine vcIntro [false, false, false, true] (an (an h3 (an h2 (an h1 (an h0 tt)))) (an (an (an tt (cB4a_0 b z (an (nS0 e) (an (nS1 e) (an (nS2 e) (an (nS3 e) (cB4a_1 z (an tt tt)))))))) tt) (an (an (@Eq.refl (Nat) ((0 : Nat))) (an (show ∀ (k : Nat), k < (0 : Nat) → (0 : Int) = (0 : Int) from fun _ _ => rfl) (an e (nSn e)))) tt))) ?_
     kernel_rfl
    ·
     refine vcIntro [false, false, false, false] (an (an h3 (an h2 (an h1 (an h0 tt)))) (an (an (an tt (cB4a_0 b z (an (show bkNow (z 16) (z 17) (z 18) (z 19) (1 : Int) (1 : Int) (0 : Int) x (0 : Int) = (z 16) by (simp; done)) (an (show bkNow (z 16) (z 17) (z 18) (z 19) (1 : Int) (1 : Int) (0 : Int) x (1 : Int) = (0 : Int) by (simp at * <;> (repeat' split) <;> omega)) (an (show bkNow (z 16) (z 17) (z 18) (z 19) (1 : Int) (1 : Int) (0 : Int) x (2 : Int) = (z 18) by (simp; done)) (an (show bkNow (z 16) (z 17) (z 18) (z 19) (1 : Int) (1 : Int) (0 : Int) x (3 : Int) = (z 19) by (simp; done)) (cB4a_1 z (an tt tt)))))))) tt) (an (an (@Eq.refl (Nat) ((0 : Nat))) (an (show ∀ (k : Nat), k < (0 : Nat) → (0 : Int) = (0 : Int) from fun _ _ => rfl) (an (show bkCode (z 16) (z 17) (z 18) (z 19) (1 : Int) (1 : Int) (0 : Int) x = (0 : Int) by (simp at * <;> simp [*] <;> done)) (show bkNum (z 16) (z 17) (z 18) (z 19) (1 : Int) (1 : Int) (0 : Int) x = IntKind.i64.wrap ((z 17) - (1 : Int)) by (simp (disch := omega) only [wrapk] at *; simp at * <;> (repeat' split) <;> omega))))) tt))) ?_
     kernel_rfl

theorem nbk_120 : NeedRun 46 (bl b) (zl z) 1 2 0 x := by
 intro hv ho hn
 have m0 := m0_of hv
 have hx := hx_of ho
 have ho' : opMayL [1, 2, 0, x] = true := ho
 simp at hn

 rcases Bool.eq_false_or_eq_true (!allMay (zl z)) with h0 | h0
 · exact ff (by (simp [hv, ho'] at *; done))
 ·
  rcases Bool.eq_false_or_eq_true (!opMayL [(1 : Int), (2 : Int), (0 : Int), x]) with h1 | h1
  · exact ff (by (simp [hv, ho'] at *; done))
  ·
   rcases Bool.eq_false_or_eq_true (!(b 2)) with h2 | h2
   ·
    refine vcIntro [false, false, true] (an (an h2 (an h1 (an h0 tt))) (an (an (an (show bkD (bl b) (1 : Int) (2 : Int) (0 : Int) = (2 : Int) by (simp at * <;> simp [*] <;> done)) (cB4a_0 b z (cB4a_2 z (an (ri (z 31)) tt)))) tt) tt)) ?_
    kernel_rfl
   · exact ff (by (simp_all; done))

theorem dbk_120 : DoneRun 46 (bl b) (zl z) 1 2 0 x := by
 intro hv ho hn
 have m0 := m0_of hv
 have hx := hx_of ho
 have ho' : opMayL [1, 2, 0, x] = true := ho
 simp at hn

 rcases Bool.eq_false_or_eq_true (!allMay (zl z)) with h0 | h0
 · exact ff (by (simp [hv, ho'] at *; done))
 ·
  rcases Bool.eq_false_or_eq_true (!opMayL [(1 : Int), (2 : Int), (0 : Int), x]) with h1 | h1
  · exact ff (by (simp [hv, ho'] at *; done))
  ·
   rcases Bool.eq_false_or_eq_true (!(b 2)) with h2 | h2
   · exact ff (by (simp_all; done))
   ·
    rcases Bool.eq_false_or_eq_true (!decide ((z 18) > (0 : Int))) with h3 | h3
    ·
     have e : bkCode (z 16) (z 17) (z 18) (z 19) (1 : Int) (2 : Int) (0 : Int) x = (2 : Int) := by (simp at * <;> simp [*] <;> done)
     refine vcIntro [false, false, false, true] (an (an h3 (an h2 (an h1 (an h0 tt)))) (an (an (an tt (cB4a_0 b z (an (nS0 e) (an (nS1 e) (an (nS2 e) (an (nS3 e) (cB4a_1 z (an tt tt)))))))) tt) (an (an (@Eq.refl (Nat) ((0 : Nat))) (an (show ∀ (k : Nat), k < (0 : Nat) → (0 : Int) = (0 : Int) from fun _ _ => rfl) (an e (nSn e)))) tt))) ?_
     kernel_rfl
    ·
     refine vcIntro [false, false, false, false] (an (an h3 (an h2 (an h1 (an h0 tt)))) (an (an (an tt (cB4a_0 b z (an (show bkNow (z 16) (z 17) (z 18) (z 19) (1 : Int) (2 : Int) (0 : Int) x (0 : Int) = (z 16) by (simp; done)) (an (show bkNow (z 16) (z 17) (z 18) (z 19) (1 : Int) (2 : Int) (0 : Int) x (1 : Int) = (z 17) by (simp; done)) (an (show bkNow (z 16) (z 17) (z 18) (z 19) (1 : Int) (2 : Int) (0 : Int) x (2 : Int) = (0 : Int) by (simp at * <;> (repeat' split) <;> omega)) (an (show bkNow (z 16) (z 17) (z 18) (z 19) (1 : Int) (2 : Int) (0 : Int) x (3 : Int) = (z 19) by (simp; done)) (cB4a_1 z (an tt tt)))))))) tt) (an (an (@Eq.refl (Nat) ((0 : Nat))) (an (show ∀ (k : Nat), k < (0 : Nat) → (0 : Int) = (0 : Int) from fun _ _ => rfl) (an (show bkCode (z 16) (z 17) (z 18) (z 19) (1 : Int) (2 : Int) (0 : Int) x = (0 : Int) by (simp at * <;> simp [*] <;> done)) (show bkNum (z 16) (z 17) (z 18) (z 19) (1 : Int) (2 : Int) (0 : Int) x = IntKind.i64.wrap ((z 18) - (1 : Int)) by (simp (disch := omega) only [wrapk] at *; simp at * <;> (repeat' split) <;> omega))))) tt))) ?_
     kernel_rfl

theorem nbk_130 : NeedRun 46 (bl b) (zl z) 1 3 0 x := by
 intro hv ho hn
 have m0 := m0_of hv
 have hx := hx_of ho
 have ho' : opMayL [1, 3, 0, x] = true := ho
 simp at hn

 rcases Bool.eq_false_or_eq_true (!allMay (zl z)) with h0 | h0
 · exact ff (by (simp [hv, ho'] at *; done))
 ·
  rcases Bool.eq_false_or_eq_true (!opMayL [(1 : Int), (3 : Int), (0 : Int), x]) with h1 | h1
  · exact ff (by (simp [hv, ho'] at *; done))
  ·
   rcases Bool.eq_false_or_eq_true (!(b 3)) with h2 | h2
   ·
    refine vcIntro [false, false, true] (an (an h2 (an h1 (an h0 tt))) (an (an (an (show bkD (bl b) (1 : Int) (3 : Int) (0 : Int) = (3 : Int) by (simp at * <;> simp [*] <;> done)) (cB4a_0 b z (cB4a_2 z (an (ri (z 31)) tt)))) tt) tt)) ?_
    kernel_rfl
   · exact ff (by (simp_all; done))

theorem dbk_130 : DoneRun 46 (bl b) (zl z) 1 3 0 x := by
 intro hv ho hn
 have m0 := m0_of hv
 have hx := hx_of ho
 have ho' : opMayL [1, 3, 0, x] = true := ho
 simp at hn

 rcases Bool.eq_false_or_eq_true (!allMay (zl z)) with h0 | h0
 · exact ff (by (simp [hv, ho'] at *; done))
 ·
  rcases Bool.eq_false_or_eq_true (!opMayL [(1 : Int), (3 : Int), (0 : Int), x]) with h1 | h1
  · exact ff (by (simp [hv, ho'] at *; done))
  ·
   rcases Bool.eq_false_or_eq_true (!(b 3)) with h2 | h2
   · exact ff (by (simp_all; done))
   ·
    rcases Bool.eq_false_or_eq_true (!decide ((z 19) > (0 : Int))) with h3 | h3
    ·
     have e : bkCode (z 16) (z 17) (z 18) (z 19) (1 : Int) (3 : Int) (0 : Int) x = (2 : Int) := by (simp at * <;> simp [*] <;> done)
     refine vcIntro [false, false, false, true] (an (an h3 (an h2 (an h1 (an h0 tt)))) (an (an (an tt (cB4a_0 b z (an (nS0 e) (an (nS1 e) (an (nS2 e) (an (nS3 e) (cB4a_1 z (an tt tt)))))))) tt) (an (an (@Eq.refl (Nat) ((0 : Nat))) (an (show ∀ (k : Nat), k < (0 : Nat) → (0 : Int) = (0 : Int) from fun _ _ => rfl) (an e (nSn e)))) tt))) ?_
     kernel_rfl
    ·
     refine vcIntro [false, false, false, false] (an (an h3 (an h2 (an h1 (an h0 tt)))) (an (an (an tt (cB4a_0 b z (an (show bkNow (z 16) (z 17) (z 18) (z 19) (1 : Int) (3 : Int) (0 : Int) x (0 : Int) = (z 16) by (simp; done)) (an (show bkNow (z 16) (z 17) (z 18) (z 19) (1 : Int) (3 : Int) (0 : Int) x (1 : Int) = (z 17) by (simp; done)) (an (show bkNow (z 16) (z 17) (z 18) (z 19) (1 : Int) (3 : Int) (0 : Int) x (2 : Int) = (z 18) by (simp; done)) (an (show bkNow (z 16) (z 17) (z 18) (z 19) (1 : Int) (3 : Int) (0 : Int) x (3 : Int) = (0 : Int) by (simp at * <;> (repeat' split) <;> omega)) (cB4a_1 z (an tt tt)))))))) tt) (an (an (@Eq.refl (Nat) ((0 : Nat))) (an (show ∀ (k : Nat), k < (0 : Nat) → (0 : Int) = (0 : Int) from fun _ _ => rfl) (an (show bkCode (z 16) (z 17) (z 18) (z 19) (1 : Int) (3 : Int) (0 : Int) x = (0 : Int) by (simp at * <;> simp [*] <;> done)) (show bkNum (z 16) (z 17) (z 18) (z 19) (1 : Int) (3 : Int) (0 : Int) x = IntKind.i64.wrap ((z 19) - (1 : Int)) by (simp (disch := omega) only [wrapk] at *; simp at * <;> (repeat' split) <;> omega))))) tt))) ?_
     kernel_rfl

theorem nbk_200 : NeedRun 46 (bl b) (zl z) 2 0 0 x := by
 intro hv ho hn
 have m0 := m0_of hv
 have hx := hx_of ho
 have ho' : opMayL [2, 0, 0, x] = true := ho
 simp at hn

 rcases Bool.eq_false_or_eq_true (!allMay (zl z)) with h0 | h0
 · exact ff (by (simp [hv, ho'] at *; done))
 ·
  rcases Bool.eq_false_or_eq_true (!opMayL [(2 : Int), (0 : Int), (0 : Int), x]) with h1 | h1
  · exact ff (by (simp [hv, ho'] at *; done))
  ·
   rcases Bool.eq_false_or_eq_true (!(b 0)) with h2 | h2
   ·
    refine vcIntro [false, false, true] (an (an h2 (an h1 (an h0 tt))) (an (an (an (show bkD (bl b) (2 : Int) (0 : Int) (0 : Int) = (0 : Int) by (simp at * <;> simp [*] <;> done)) (cB4a_0 b z (cB4a_2 z (an (ri (z 31)) tt)))) tt) tt)) ?_
    kernel_rfl
   · exact ff (by (simp_all; done))

theorem dbk_200 : DoneRun 46 (bl b) (zl z) 2 0 0 x := by
 intro hv ho hn
 have m0 := m0_of hv
 have hx := hx_of ho
 have ho' : opMayL [2, 0, 0, x] = true := ho
 simp at hn

 rcases Bool.eq_false_or_eq_true (!allMay (zl z)) with h0 | h0
 · exact ff (by (simp [hv, ho'] at *; done))
 ·
  rcases Bool.eq_false_or_eq_true (!opMayL [(2 : Int), (0 : Int), (0 : Int), x]) with h1 | h1
  · exact ff (by (simp [hv, ho'] at *; done))
  ·
   rcases Bool.eq_false_or_eq_true (!(b 0)) with h2 | h2
   · exact ff (by (simp_all; done))
   ·
    rcases Bool.eq_false_or_eq_true (!decide ((z 16) > (0 : Int))) with h3 | h3
    ·
     have e : bkCode (z 16) (z 17) (z 18) (z 19) (2 : Int) (0 : Int) (0 : Int) x = (2 : Int) := by (simp at * <;> (repeat' split) <;> omega)
     refine vcIntro [false, false, false, true] (an (an h3 (an h2 (an h1 (an h0 tt)))) (an (an (an tt (cB4a_0 b z (an (nS0 e) (an (nS1 e) (an (nS2 e) (an (nS3 e) (cB4a_1 z (an tt tt)))))))) tt) (an (an (@Eq.refl (Nat) ((0 : Nat))) (an (show ∀ (k : Nat), k < (0 : Nat) → (0 : Int) = (0 : Int) from fun _ _ => rfl) (an e (nSn e)))) tt))) ?_
     kernel_rfl
    ·
     rcases Bool.eq_false_or_eq_true (decide (IntKind.i64.wrap ((z 16) - (1 : Int)) > IntKind.i64.wrap ((1048575 : Int) - x))) with h4 | h4
     ·
      have e : bkCode (z 16) (z 17) (z 18) (z 19) (2 : Int) (0 : Int) (0 : Int) x = (4 : Int) := by (simp (disch := omega) only [wrapk] at *; simp at * <;> (repeat' split) <;> omega)
      refine vcIntro [false, false, false, false, true] (an (an h4 (an h3 (an h2 (an h1 (an h0 tt))))) (an (an (an tt (cB4a_0 b z (an (nS0 e) (an (nS1 e) (an (nS2 e) (an (nS3 e) (cB4a_1 z (an tt tt)))))))) tt) (an (an (@Eq.refl (Nat) ((0 : Nat))) (an (show ∀ (k : Nat), k < (0 : Nat) → (0 : Int) = (0 : Int) from fun _ _ => rfl) (an e (nSn e)))) tt))) ?_
      kernel_rfl
     ·
      refine vcIntro [false, false, false, false, false] (an (an h4 (an h3 (an h2 (an h1 (an h0 tt))))) (an (an (an tt (cB4a_0 b z (an (show bkNow (z 16) (z 17) (z 18) (z 19) (2 : Int) (0 : Int) (0 : Int) x (0 : Int) = IntKind.i64.wrap (IntKind.i64.wrap (IntKind.i64.wrap ((z 16) - (1 : Int)) + x) + (1 : Int)) by (simp (disch := omega) only [wrapk] at *; simp at * <;> (repeat' split) <;> omega)) (an (show bkNow (z 16) (z 17) (z 18) (z 19) (2 : Int) (0 : Int) (0 : Int) x (1 : Int) = (z 17) by (simp; done)) (an (show bkNow (z 16) (z 17) (z 18) (z 19) (2 : Int) (0 : Int) (0 : Int) x (2 : Int) = (z 18) by (simp; done)) (an (show bkNow (z 16) (z 17) (z 18) (z 19) (2 : Int) (0 : Int) (0 : Int) x (3 : Int) = (z 19) by (simp; done)) (cB4a_1 z (an tt tt)))))))) tt) (an (an (@Eq.refl (Nat) ((0 : Nat))) (an (show ∀ (k : Nat), k < (0 : Nat) → (0 : Int) = (0 : Int) from fun _ _ => rfl) (an (show bkCode (z 16) (z 17) (z 18) (z 19) (2 : Int) (0 : Int) (0 : Int) x = (0 : Int) by (simp (disch := omega) only [wrapk] at *; simp at * <;> (repeat' split) <;> omega)) (show bkNum (z 16) (z 17) (z 18) (z 19) (2 : Int) (0 : Int) (0 : Int) x = IntKind.i64.wrap (IntKind.i64.wrap ((z 16) - (1 : Int)) + x) by (simp (disch := omega) only [wrapk] at *; simp at * <;> (repeat' split) <;> omega))))) tt))) ?_
      kernel_rfl

theorem nbk_210 : NeedRun 46 (bl b) (zl z) 2 1 0 x := by
 intro hv ho hn
 have m0 := m0_of hv
 have hx := hx_of ho
 have ho' : opMayL [2, 1, 0, x] = true := ho
 simp at hn

 rcases Bool.eq_false_or_eq_true (!allMay (zl z)) with h0 | h0
 · exact ff (by (simp [hv, ho'] at *; done))
 ·
  rcases Bool.eq_false_or_eq_true (!opMayL [(2 : Int), (1 : Int), (0 : Int), x]) with h1 | h1
  · exact ff (by (simp [hv, ho'] at *; done))
  ·
   rcases Bool.eq_false_or_eq_true (!(b 1)) with h2 | h2
   ·
    refine vcIntro [false, false, true] (an (an h2 (an h1 (an h0 tt))) (an (an (an (show bkD (bl b) (2 : Int) (1 : Int) (0 : Int) = (1 : Int) by (simp at * <;> simp [*] <;> done)) (cB4a_0 b z (cB4a_2 z (an (ri (z 31)) tt)))) tt) tt)) ?_
    kernel_rfl
   · exact ff (by (simp_all; done))

theorem dbk_210 : DoneRun 46 (bl b) (zl z) 2 1 0 x := by
 intro hv ho hn
 have m0 := m0_of hv
 have hx := hx_of ho
 have ho' : opMayL [2, 1, 0, x] = true := ho
 simp at hn

 rcases Bool.eq_false_or_eq_true (!allMay (zl z)) with h0 | h0
 · exact ff (by (simp [hv, ho'] at *; done))
 ·
  rcases Bool.eq_false_or_eq_true (!opMayL [(2 : Int), (1 : Int), (0 : Int), x]) with h1 | h1
  · exact ff (by (simp [hv, ho'] at *; done))
  ·
   rcases Bool.eq_false_or_eq_true (!(b 1)) with h2 | h2
   · exact ff (by (simp_all; done))
   ·
    rcases Bool.eq_false_or_eq_true (!decide ((z 17) > (0 : Int))) with h3 | h3
    ·
     have e : bkCode (z 16) (z 17) (z 18) (z 19) (2 : Int) (1 : Int) (0 : Int) x = (2 : Int) := by (simp at * <;> (repeat' split) <;> omega)
     refine vcIntro [false, false, false, true] (an (an h3 (an h2 (an h1 (an h0 tt)))) (an (an (an tt (cB4a_0 b z (an (nS0 e) (an (nS1 e) (an (nS2 e) (an (nS3 e) (cB4a_1 z (an tt tt)))))))) tt) (an (an (@Eq.refl (Nat) ((0 : Nat))) (an (show ∀ (k : Nat), k < (0 : Nat) → (0 : Int) = (0 : Int) from fun _ _ => rfl) (an e (nSn e)))) tt))) ?_
     kernel_rfl
    ·
     rcases Bool.eq_false_or_eq_true (decide (IntKind.i64.wrap ((z 17) - (1 : Int)) > IntKind.i64.wrap ((1048575 : Int) - x))) with h4 | h4
     ·
      have e : bkCode (z 16) (z 17) (z 18) (z 19) (2 : Int) (1 : Int) (0 : Int) x = (4 : Int) := by (simp (disch := omega) only [wrapk] at *; simp at * <;> (repeat' split) <;> omega)
      refine vcIntro [false, false, false, false, true] (an (an h4 (an h3 (an h2 (an h1 (an h0 tt))))) (an (an (an tt (cB4a_0 b z (an (nS0 e) (an (nS1 e) (an (nS2 e) (an (nS3 e) (cB4a_1 z (an tt tt)))))))) tt) (an (an (@Eq.refl (Nat) ((0 : Nat))) (an (show ∀ (k : Nat), k < (0 : Nat) → (0 : Int) = (0 : Int) from fun _ _ => rfl) (an e (nSn e)))) tt))) ?_
      kernel_rfl
     ·
      refine vcIntro [false, false, false, false, false] (an (an h4 (an h3 (an h2 (an h1 (an h0 tt))))) (an (an (an tt (cB4a_0 b z (an (show bkNow (z 16) (z 17) (z 18) (z 19) (2 : Int) (1 : Int) (0 : Int) x (0 : Int) = (z 16) by (simp; done)) (an (show bkNow (z 16) (z 17) (z 18) (z 19) (2 : Int) (1 : Int) (0 : Int) x (1 : Int) = IntKind.i64.wrap (IntKind.i64.wrap (IntKind.i64.wrap ((z 17) - (1 : Int)) + x) + (1 : Int)) by (simp (disch := omega) only [wrapk] at *; simp at * <;> (repeat' split) <;> omega)) (an (show bkNow (z 16) (z 17) (z 18) (z 19) (2 : Int) (1 : Int) (0 : Int) x (2 : Int) = (z 18) by (simp; done)) (an (show bkNow (z 16) (z 17) (z 18) (z 19) (2 : Int) (1 : Int) (0 : Int) x (3 : Int) = (z 19) by (simp; done)) (cB4a_1 z (an tt tt)))))))) tt) (an (an (@Eq.refl (Nat) ((0 : Nat))) (an (show ∀ (k : Nat), k < (0 : Nat) → (0 : Int) = (0 : Int) from fun _ _ => rfl) (an (show bkCode (z 16) (z 17) (z 18) (z 19) (2 : Int) (1 : Int) (0 : Int) x = (0 : Int) by (simp (disch := omega) only [wrapk] at *; simp at * <;> (repeat' split) <;> omega)) (show bkNum (z 16) (z 17) (z 18) (z 19) (2 : Int) (1 : Int) (0 : Int) x = IntKind.i64.wrap (IntKind.i64.wrap ((z 17) - (1 : Int)) + x) by (simp (disch := omega) only [wrapk] at *; simp at * <;> (repeat' split) <;> omega))))) tt))) ?_
      kernel_rfl

theorem nbk_220 : NeedRun 46 (bl b) (zl z) 2 2 0 x := by
 intro hv ho hn
 have m0 := m0_of hv
 have hx := hx_of ho
 have ho' : opMayL [2, 2, 0, x] = true := ho
 simp at hn

 rcases Bool.eq_false_or_eq_true (!allMay (zl z)) with h0 | h0
 · exact ff (by (simp [hv, ho'] at *; done))
 ·
  rcases Bool.eq_false_or_eq_true (!opMayL [(2 : Int), (2 : Int), (0 : Int), x]) with h1 | h1
  · exact ff (by (simp [hv, ho'] at *; done))
  ·
   rcases Bool.eq_false_or_eq_true (!(b 2)) with h2 | h2
   ·
    refine vcIntro [false, false, true] (an (an h2 (an h1 (an h0 tt))) (an (an (an (show bkD (bl b) (2 : Int) (2 : Int) (0 : Int) = (2 : Int) by (simp at * <;> simp [*] <;> done)) (cB4a_0 b z (cB4a_2 z (an (ri (z 31)) tt)))) tt) tt)) ?_
    kernel_rfl
   · exact ff (by (simp_all; done))

theorem dbk_220 : DoneRun 46 (bl b) (zl z) 2 2 0 x := by
 intro hv ho hn
 have m0 := m0_of hv
 have hx := hx_of ho
 have ho' : opMayL [2, 2, 0, x] = true := ho
 simp at hn

 rcases Bool.eq_false_or_eq_true (!allMay (zl z)) with h0 | h0
 · exact ff (by (simp [hv, ho'] at *; done))
 ·
  rcases Bool.eq_false_or_eq_true (!opMayL [(2 : Int), (2 : Int), (0 : Int), x]) with h1 | h1
  · exact ff (by (simp [hv, ho'] at *; done))
  ·
   rcases Bool.eq_false_or_eq_true (!(b 2)) with h2 | h2
   · exact ff (by (simp_all; done))
   ·
    rcases Bool.eq_false_or_eq_true (!decide ((z 18) > (0 : Int))) with h3 | h3
    ·
     have e : bkCode (z 16) (z 17) (z 18) (z 19) (2 : Int) (2 : Int) (0 : Int) x = (2 : Int) := by (simp at * <;> (repeat' split) <;> omega)
     refine vcIntro [false, false, false, true] (an (an h3 (an h2 (an h1 (an h0 tt)))) (an (an (an tt (cB4a_0 b z (an (nS0 e) (an (nS1 e) (an (nS2 e) (an (nS3 e) (cB4a_1 z (an tt tt)))))))) tt) (an (an (@Eq.refl (Nat) ((0 : Nat))) (an (show ∀ (k : Nat), k < (0 : Nat) → (0 : Int) = (0 : Int) from fun _ _ => rfl) (an e (nSn e)))) tt))) ?_
     kernel_rfl
    ·
     rcases Bool.eq_false_or_eq_true (decide (IntKind.i64.wrap ((z 18) - (1 : Int)) > IntKind.i64.wrap ((1048575 : Int) - x))) with h4 | h4
     ·
      have e : bkCode (z 16) (z 17) (z 18) (z 19) (2 : Int) (2 : Int) (0 : Int) x = (4 : Int) := by (simp (disch := omega) only [wrapk] at *; simp at * <;> (repeat' split) <;> omega)
      refine vcIntro [false, false, false, false, true] (an (an h4 (an h3 (an h2 (an h1 (an h0 tt))))) (an (an (an tt (cB4a_0 b z (an (nS0 e) (an (nS1 e) (an (nS2 e) (an (nS3 e) (cB4a_1 z (an tt tt)))))))) tt) (an (an (@Eq.refl (Nat) ((0 : Nat))) (an (show ∀ (k : Nat), k < (0 : Nat) → (0 : Int) = (0 : Int) from fun _ _ => rfl) (an e (nSn e)))) tt))) ?_
      kernel_rfl
     ·
      refine vcIntro [false, false, false, false, false] (an (an h4 (an h3 (an h2 (an h1 (an h0 tt))))) (an (an (an tt (cB4a_0 b z (an (show bkNow (z 16) (z 17) (z 18) (z 19) (2 : Int) (2 : Int) (0 : Int) x (0 : Int) = (z 16) by (simp; done)) (an (show bkNow (z 16) (z 17) (z 18) (z 19) (2 : Int) (2 : Int) (0 : Int) x (1 : Int) = (z 17) by (simp; done)) (an (show bkNow (z 16) (z 17) (z 18) (z 19) (2 : Int) (2 : Int) (0 : Int) x (2 : Int) = IntKind.i64.wrap (IntKind.i64.wrap (IntKind.i64.wrap ((z 18) - (1 : Int)) + x) + (1 : Int)) by (simp (disch := omega) only [wrapk] at *; simp at * <;> (repeat' split) <;> omega)) (an (show bkNow (z 16) (z 17) (z 18) (z 19) (2 : Int) (2 : Int) (0 : Int) x (3 : Int) = (z 19) by (simp; done)) (cB4a_1 z (an tt tt)))))))) tt) (an (an (@Eq.refl (Nat) ((0 : Nat))) (an (show ∀ (k : Nat), k < (0 : Nat) → (0 : Int) = (0 : Int) from fun _ _ => rfl) (an (show bkCode (z 16) (z 17) (z 18) (z 19) (2 : Int) (2 : Int) (0 : Int) x = (0 : Int) by (simp (disch := omega) only [wrapk] at *; simp at * <;> (repeat' split) <;> omega)) (show bkNum (z 16) (z 17) (z 18) (z 19) (2 : Int) (2 : Int) (0 : Int) x = IntKind.i64.wrap (IntKind.i64.wrap ((z 18) - (1 : Int)) + x) by (simp (disch := omega) only [wrapk] at *; simp at * <;> (repeat' split) <;> omega))))) tt))) ?_
      kernel_rfl

theorem nbk_230 : NeedRun 46 (bl b) (zl z) 2 3 0 x := by
 intro hv ho hn
 have m0 := m0_of hv
 have hx := hx_of ho
 have ho' : opMayL [2, 3, 0, x] = true := ho
 simp at hn

 rcases Bool.eq_false_or_eq_true (!allMay (zl z)) with h0 | h0
 · exact ff (by (simp [hv, ho'] at *; done))
 ·
  rcases Bool.eq_false_or_eq_true (!opMayL [(2 : Int), (3 : Int), (0 : Int), x]) with h1 | h1
  · exact ff (by (simp [hv, ho'] at *; done))
  ·
   rcases Bool.eq_false_or_eq_true (!(b 3)) with h2 | h2
   ·
    refine vcIntro [false, false, true] (an (an h2 (an h1 (an h0 tt))) (an (an (an (show bkD (bl b) (2 : Int) (3 : Int) (0 : Int) = (3 : Int) by (simp at * <;> simp [*] <;> done)) (cB4a_0 b z (cB4a_2 z (an (ri (z 31)) tt)))) tt) tt)) ?_
    kernel_rfl
   · exact ff (by (simp_all; done))

theorem dbk_230 : DoneRun 46 (bl b) (zl z) 2 3 0 x := by
 intro hv ho hn
 have m0 := m0_of hv
 have hx := hx_of ho
 have ho' : opMayL [2, 3, 0, x] = true := ho
 simp at hn

 rcases Bool.eq_false_or_eq_true (!allMay (zl z)) with h0 | h0
 · exact ff (by (simp [hv, ho'] at *; done))
 ·
  rcases Bool.eq_false_or_eq_true (!opMayL [(2 : Int), (3 : Int), (0 : Int), x]) with h1 | h1
  · exact ff (by (simp [hv, ho'] at *; done))
  ·
   rcases Bool.eq_false_or_eq_true (!(b 3)) with h2 | h2
   · exact ff (by (simp_all; done))
   ·
    rcases Bool.eq_false_or_eq_true (!decide ((z 19) > (0 : Int))) with h3 | h3
    ·
     have e : bkCode (z 16) (z 17) (z 18) (z 19) (2 : Int) (3 : Int) (0 : Int) x = (2 : Int) := by (simp at * <;> (repeat' split) <;> omega)
     refine vcIntro [false, false, false, true] (an (an h3 (an h2 (an h1 (an h0 tt)))) (an (an (an tt (cB4a_0 b z (an (nS0 e) (an (nS1 e) (an (nS2 e) (an (nS3 e) (cB4a_1 z (an tt tt)))))))) tt) (an (an (@Eq.refl (Nat) ((0 : Nat))) (an (show ∀ (k : Nat), k < (0 : Nat) → (0 : Int) = (0 : Int) from fun _ _ => rfl) (an e (nSn e)))) tt))) ?_
     kernel_rfl
    ·
     rcases Bool.eq_false_or_eq_true (decide (IntKind.i64.wrap ((z 19) - (1 : Int)) > IntKind.i64.wrap ((1048575 : Int) - x))) with h4 | h4
     ·
      have e : bkCode (z 16) (z 17) (z 18) (z 19) (2 : Int) (3 : Int) (0 : Int) x = (4 : Int) := by (simp (disch := omega) only [wrapk] at *; simp at * <;> (repeat' split) <;> omega)
      refine vcIntro [false, false, false, false, true] (an (an h4 (an h3 (an h2 (an h1 (an h0 tt))))) (an (an (an tt (cB4a_0 b z (an (nS0 e) (an (nS1 e) (an (nS2 e) (an (nS3 e) (cB4a_1 z (an tt tt)))))))) tt) (an (an (@Eq.refl (Nat) ((0 : Nat))) (an (show ∀ (k : Nat), k < (0 : Nat) → (0 : Int) = (0 : Int) from fun _ _ => rfl) (an e (nSn e)))) tt))) ?_
      kernel_rfl
     ·
      refine vcIntro [false, false, false, false, false] (an (an h4 (an h3 (an h2 (an h1 (an h0 tt))))) (an (an (an tt (cB4a_0 b z (an (show bkNow (z 16) (z 17) (z 18) (z 19) (2 : Int) (3 : Int) (0 : Int) x (0 : Int) = (z 16) by (simp; done)) (an (show bkNow (z 16) (z 17) (z 18) (z 19) (2 : Int) (3 : Int) (0 : Int) x (1 : Int) = (z 17) by (simp; done)) (an (show bkNow (z 16) (z 17) (z 18) (z 19) (2 : Int) (3 : Int) (0 : Int) x (2 : Int) = (z 18) by (simp; done)) (an (show bkNow (z 16) (z 17) (z 18) (z 19) (2 : Int) (3 : Int) (0 : Int) x (3 : Int) = IntKind.i64.wrap (IntKind.i64.wrap (IntKind.i64.wrap ((z 19) - (1 : Int)) + x) + (1 : Int)) by (simp (disch := omega) only [wrapk] at *; simp at * <;> (repeat' split) <;> omega)) (cB4a_1 z (an tt tt)))))))) tt) (an (an (@Eq.refl (Nat) ((0 : Nat))) (an (show ∀ (k : Nat), k < (0 : Nat) → (0 : Int) = (0 : Int) from fun _ _ => rfl) (an (show bkCode (z 16) (z 17) (z 18) (z 19) (2 : Int) (3 : Int) (0 : Int) x = (0 : Int) by (simp (disch := omega) only [wrapk] at *; simp at * <;> (repeat' split) <;> omega)) (show bkNum (z 16) (z 17) (z 18) (z 19) (2 : Int) (3 : Int) (0 : Int) x = IntKind.i64.wrap (IntKind.i64.wrap ((z 19) - (1 : Int)) + x) by (simp (disch := omega) only [wrapk] at *; simp at * <;> (repeat' split) <;> omega))))) tt))) ?_
      kernel_rfl

theorem nbk_300 : NeedRun 46 (bl b) (zl z) 3 0 0 x := by
 intro hv ho hn
 have m0 := m0_of hv
 have hx := hx_of ho
 have ho' : opMayL [3, 0, 0, x] = true := ho
 simp at hn

 rcases Bool.eq_false_or_eq_true (!allMay (zl z)) with h0 | h0
 · exact ff (by (simp [hv, ho'] at *; done))
 ·
  rcases Bool.eq_false_or_eq_true (!opMayL [(3 : Int), (0 : Int), (0 : Int), x]) with h1 | h1
  · exact ff (by (simp [hv, ho'] at *; done))
  ·
   rcases Bool.eq_false_or_eq_true (!(b 0)) with h2 | h2
   ·
    refine vcIntro [false, false, true] (an (an h2 (an h1 (an h0 tt))) (an (an (an (show bkD (bl b) (3 : Int) (0 : Int) (0 : Int) = (0 : Int) by (simp at * <;> simp [*] <;> done)) (cB4a_0 b z (cB4a_2 z (an (ri (z 31)) tt)))) tt) tt)) ?_
    kernel_rfl
   · exact ff (by (simp_all; done))

theorem dbk_300 : DoneRun 46 (bl b) (zl z) 3 0 0 x := by
 intro hv ho hn
 have m0 := m0_of hv
 have hx := hx_of ho
 have ho' : opMayL [3, 0, 0, x] = true := ho
 simp at hn

 rcases Bool.eq_false_or_eq_true (!allMay (zl z)) with h0 | h0
 · exact ff (by (simp [hv, ho'] at *; done))
 ·
  rcases Bool.eq_false_or_eq_true (!opMayL [(3 : Int), (0 : Int), (0 : Int), x]) with h1 | h1
  · exact ff (by (simp [hv, ho'] at *; done))
  ·
   rcases Bool.eq_false_or_eq_true (!(b 0)) with h2 | h2
   · exact ff (by (simp_all; done))
   ·
    rcases Bool.eq_false_or_eq_true (!decide ((z 16) > (0 : Int))) with h3 | h3
    ·
     have e : bkCode (z 16) (z 17) (z 18) (z 19) (3 : Int) (0 : Int) (0 : Int) x = (2 : Int) := by (simp at * <;> (repeat' split) <;> omega)
     refine vcIntro [false, false, false, true] (an (an h3 (an h2 (an h1 (an h0 tt)))) (an (an (an tt (cB4a_0 b z (an (nS0 e) (an (nS1 e) (an (nS2 e) (an (nS3 e) (cB4a_1 z (an tt tt)))))))) tt) (an (an (@Eq.refl (Nat) ((0 : Nat))) (an (show ∀ (k : Nat), k < (0 : Nat) → (0 : Int) = (0 : Int) from fun _ _ => rfl) (an e (nSn e)))) tt))) ?_
     kernel_rfl
    ·
     rcases Bool.eq_false_or_eq_true (decide (IntKind.i64.wrap ((z 16) - (1 : Int)) < x)) with h4 | h4
     ·
      have e : bkCode (z 16) (z 17) (z 18) (z 19) (3 : Int) (0 : Int) (0 : Int) x = (3 : Int) := by (simp (disch := omega) only [wrapk] at *; simp at * <;> simp [*] <;> done)
      refine vcIntro [false, false, false, false, true] (an (an h4 (an h3 (an h2 (an h1 (an h0 tt))))) (an (an (an tt (cB4a_0 b z (an (nS0 e) (an (nS1 e) (an (nS2 e) (an (nS3 e) (cB4a_1 z (an tt tt)))))))) tt) (an (an (@Eq.refl (Nat) ((0 : Nat))) (an (show ∀ (k : Nat), k < (0 : Nat) → (0 : Int) = (0 : Int) from fun _ _ => rfl) (an e (nSn e)))) tt))) ?_
      kernel_rfl
     ·
      refine vcIntro [false, false, false, false, false] (an (an h4 (an h3 (an h2 (an h1 (an h0 tt))))) (an (an (an tt (cB4a_0 b z (an (show bkNow (z 16) (z 17) (z 18) (z 19) (3 : Int) (0 : Int) (0 : Int) x (0 : Int) = IntKind.i64.wrap (IntKind.i64.wrap (IntKind.i64.wrap ((z 16) - (1 : Int)) - x) + (1 : Int)) by (simp (disch := omega) only [wrapk] at *; simp at * <;> (repeat' split) <;> omega)) (an (show bkNow (z 16) (z 17) (z 18) (z 19) (3 : Int) (0 : Int) (0 : Int) x (1 : Int) = (z 17) by (simp; done)) (an (show bkNow (z 16) (z 17) (z 18) (z 19) (3 : Int) (0 : Int) (0 : Int) x (2 : Int) = (z 18) by (simp; done)) (an (show bkNow (z 16) (z 17) (z 18) (z 19) (3 : Int) (0 : Int) (0 : Int) x (3 : Int) = (z 19) by (simp; done)) (cB4a_1 z (an tt tt)))))))) tt) (an (an (@Eq.refl (Nat) ((0 : Nat))) (an (show ∀ (k : Nat), k < (0 : Nat) → (0 : Int) = (0 : Int) from fun _ _ => rfl) (an (show bkCode (z 16) (z 17) (z 18) (z 19) (3 : Int) (0 : Int) (0 : Int) x = (0 : Int) by (simp (disch := omega) only [wrapk] at *; simp at * <;> simp [*] <;> done)) (show bkNum (z 16) (z 17) (z 18) (z 19) (3 : Int) (0 : Int) (0 : Int) x = IntKind.i64.wrap (IntKind.i64.wrap ((z 16) - (1 : Int)) - x) by (simp (disch := omega) only [wrapk] at *; simp at * <;> simp [*] <;> done))))) tt))) ?_
      kernel_rfl

theorem nbk_310 : NeedRun 46 (bl b) (zl z) 3 1 0 x := by
 intro hv ho hn
 have m0 := m0_of hv
 have hx := hx_of ho
 have ho' : opMayL [3, 1, 0, x] = true := ho
 simp at hn

 rcases Bool.eq_false_or_eq_true (!allMay (zl z)) with h0 | h0
 · exact ff (by (simp [hv, ho'] at *; done))
 ·
  rcases Bool.eq_false_or_eq_true (!opMayL [(3 : Int), (1 : Int), (0 : Int), x]) with h1 | h1
  · exact ff (by (simp [hv, ho'] at *; done))
  ·
   rcases Bool.eq_false_or_eq_true (!(b 1)) with h2 | h2
   ·
    refine vcIntro [false, false, true] (an (an h2 (an h1 (an h0 tt))) (an (an (an (show bkD (bl b) (3 : Int) (1 : Int) (0 : Int) = (1 : Int) by (simp at * <;> simp [*] <;> done)) (cB4a_0 b z (cB4a_2 z (an (ri (z 31)) tt)))) tt) tt)) ?_
    kernel_rfl
   · exact ff (by (simp_all; done))

theorem dbk_310 : DoneRun 46 (bl b) (zl z) 3 1 0 x := by
 intro hv ho hn
 have m0 := m0_of hv
 have hx := hx_of ho
 have ho' : opMayL [3, 1, 0, x] = true := ho
 simp at hn

 rcases Bool.eq_false_or_eq_true (!allMay (zl z)) with h0 | h0
 · exact ff (by (simp [hv, ho'] at *; done))
 ·
  rcases Bool.eq_false_or_eq_true (!opMayL [(3 : Int), (1 : Int), (0 : Int), x]) with h1 | h1
  · exact ff (by (simp [hv, ho'] at *; done))
  ·
   rcases Bool.eq_false_or_eq_true (!(b 1)) with h2 | h2
   · exact ff (by (simp_all; done))
   ·
    rcases Bool.eq_false_or_eq_true (!decide ((z 17) > (0 : Int))) with h3 | h3
    ·
     have e : bkCode (z 16) (z 17) (z 18) (z 19) (3 : Int) (1 : Int) (0 : Int) x = (2 : Int) := by (simp at * <;> (repeat' split) <;> omega)
     refine vcIntro [false, false, false, true] (an (an h3 (an h2 (an h1 (an h0 tt)))) (an (an (an tt (cB4a_0 b z (an (nS0 e) (an (nS1 e) (an (nS2 e) (an (nS3 e) (cB4a_1 z (an tt tt)))))))) tt) (an (an (@Eq.refl (Nat) ((0 : Nat))) (an (show ∀ (k : Nat), k < (0 : Nat) → (0 : Int) = (0 : Int) from fun _ _ => rfl) (an e (nSn e)))) tt))) ?_
     kernel_rfl
    ·
     rcases Bool.eq_false_or_eq_true (decide (IntKind.i64.wrap ((z 17) - (1 : Int)) < x)) with h4 | h4
     ·
      have e : bkCode (z 16) (z 17) (z 18) (z 19) (3 : Int) (1 : Int) (0 : Int) x = (3 : Int) := by (simp (disch := omega) only [wrapk] at *; simp at * <;> simp [*] <;> done)
      refine vcIntro [false, false, false, false, true] (an (an h4 (an h3 (an h2 (an h1 (an h0 tt))))) (an (an (an tt (cB4a_0 b z (an (nS0 e) (an (nS1 e) (an (nS2 e) (an (nS3 e) (cB4a_1 z (an tt tt)))))))) tt) (an (an (@Eq.refl (Nat) ((0 : Nat))) (an (show ∀ (k : Nat), k < (0 : Nat) → (0 : Int) = (0 : Int) from fun _ _ => rfl) (an e (nSn e)))) tt))) ?_
      kernel_rfl
     ·
      refine vcIntro [false, false, false, false, false] (an (an h4 (an h3 (an h2 (an h1 (an h0 tt))))) (an (an (an tt (cB4a_0 b z (an (show bkNow (z 16) (z 17) (z 18) (z 19) (3 : Int) (1 : Int) (0 : Int) x (0 : Int) = (z 16) by (simp; done)) (an (show bkNow (z 16) (z 17) (z 18) (z 19) (3 : Int) (1 : Int) (0 : Int) x (1 : Int) = IntKind.i64.wrap (IntKind.i64.wrap (IntKind.i64.wrap ((z 17) - (1 : Int)) - x) + (1 : Int)) by (simp (disch := omega) only [wrapk] at *; simp at * <;> (repeat' split) <;> omega)) (an (show bkNow (z 16) (z 17) (z 18) (z 19) (3 : Int) (1 : Int) (0 : Int) x (2 : Int) = (z 18) by (simp; done)) (an (show bkNow (z 16) (z 17) (z 18) (z 19) (3 : Int) (1 : Int) (0 : Int) x (3 : Int) = (z 19) by (simp; done)) (cB4a_1 z (an tt tt)))))))) tt) (an (an (@Eq.refl (Nat) ((0 : Nat))) (an (show ∀ (k : Nat), k < (0 : Nat) → (0 : Int) = (0 : Int) from fun _ _ => rfl) (an (show bkCode (z 16) (z 17) (z 18) (z 19) (3 : Int) (1 : Int) (0 : Int) x = (0 : Int) by (simp (disch := omega) only [wrapk] at *; simp at * <;> simp [*] <;> done)) (show bkNum (z 16) (z 17) (z 18) (z 19) (3 : Int) (1 : Int) (0 : Int) x = IntKind.i64.wrap (IntKind.i64.wrap ((z 17) - (1 : Int)) - x) by (simp (disch := omega) only [wrapk] at *; simp at * <;> simp [*] <;> done))))) tt))) ?_
      kernel_rfl

theorem nbk_320 : NeedRun 46 (bl b) (zl z) 3 2 0 x := by
 intro hv ho hn
 have m0 := m0_of hv
 have hx := hx_of ho
 have ho' : opMayL [3, 2, 0, x] = true := ho
 simp at hn

 rcases Bool.eq_false_or_eq_true (!allMay (zl z)) with h0 | h0
 · exact ff (by (simp [hv, ho'] at *; done))
 ·
  rcases Bool.eq_false_or_eq_true (!opMayL [(3 : Int), (2 : Int), (0 : Int), x]) with h1 | h1
  · exact ff (by (simp [hv, ho'] at *; done))
  ·
   rcases Bool.eq_false_or_eq_true (!(b 2)) with h2 | h2
   ·
    refine vcIntro [false, false, true] (an (an h2 (an h1 (an h0 tt))) (an (an (an (show bkD (bl b) (3 : Int) (2 : Int) (0 : Int) = (2 : Int) by (simp at * <;> simp [*] <;> done)) (cB4a_0 b z (cB4a_2 z (an (ri (z 31)) tt)))) tt) tt)) ?_
    kernel_rfl
   · exact ff (by (simp_all; done))

theorem dbk_320 : DoneRun 46 (bl b) (zl z) 3 2 0 x := by
 intro hv ho hn
 have m0 := m0_of hv
 have hx := hx_of ho
 have ho' : opMayL [3, 2, 0, x] = true := ho
 simp at hn

 rcases Bool.eq_false_or_eq_true (!allMay (zl z)) with h0 | h0
 · exact ff (by (simp [hv, ho'] at *; done))
 ·
  rcases Bool.eq_false_or_eq_true (!opMayL [(3 : Int), (2 : Int), (0 : Int), x]) with h1 | h1
  · exact ff (by (simp [hv, ho'] at *; done))
  ·
   rcases Bool.eq_false_or_eq_true (!(b 2)) with h2 | h2
   · exact ff (by (simp_all; done))
   ·
    rcases Bool.eq_false_or_eq_true (!decide ((z 18) > (0 : Int))) with h3 | h3
    ·
     have e : bkCode (z 16) (z 17) (z 18) (z 19) (3 : Int) (2 : Int) (0 : Int) x = (2 : Int) := by (simp at * <;> (repeat' split) <;> omega)
     refine vcIntro [false, false, false, true] (an (an h3 (an h2 (an h1 (an h0 tt)))) (an (an (an tt (cB4a_0 b z (an (nS0 e) (an (nS1 e) (an (nS2 e) (an (nS3 e) (cB4a_1 z (an tt tt)))))))) tt) (an (an (@Eq.refl (Nat) ((0 : Nat))) (an (show ∀ (k : Nat), k < (0 : Nat) → (0 : Int) = (0 : Int) from fun _ _ => rfl) (an e (nSn e)))) tt))) ?_
     kernel_rfl
    ·
     rcases Bool.eq_false_or_eq_true (decide (IntKind.i64.wrap ((z 18) - (1 : Int)) < x)) with h4 | h4
     ·
      have e : bkCode (z 16) (z 17) (z 18) (z 19) (3 : Int) (2 : Int) (0 : Int) x = (3 : Int) := by (simp (disch := omega) only [wrapk] at *; simp at * <;> simp [*] <;> done)
      refine vcIntro [false, false, false, false, true] (an (an h4 (an h3 (an h2 (an h1 (an h0 tt))))) (an (an (an tt (cB4a_0 b z (an (nS0 e) (an (nS1 e) (an (nS2 e) (an (nS3 e) (cB4a_1 z (an tt tt)))))))) tt) (an (an (@Eq.refl (Nat) ((0 : Nat))) (an (show ∀ (k : Nat), k < (0 : Nat) → (0 : Int) = (0 : Int) from fun _ _ => rfl) (an e (nSn e)))) tt))) ?_
      kernel_rfl
     ·
      refine vcIntro [false, false, false, false, false] (an (an h4 (an h3 (an h2 (an h1 (an h0 tt))))) (an (an (an tt (cB4a_0 b z (an (show bkNow (z 16) (z 17) (z 18) (z 19) (3 : Int) (2 : Int) (0 : Int) x (0 : Int) = (z 16) by (simp; done)) (an (show bkNow (z 16) (z 17) (z 18) (z 19) (3 : Int) (2 : Int) (0 : Int) x (1 : Int) = (z 17) by (simp; done)) (an (show bkNow (z 16) (z 17) (z 18) (z 19) (3 : Int) (2 : Int) (0 : Int) x (2 : Int) = IntKind.i64.wrap (IntKind.i64.wrap (IntKind.i64.wrap ((z 18) - (1 : Int)) - x) + (1 : Int)) by (simp (disch := omega) only [wrapk] at *; simp at * <;> (repeat' split) <;> omega)) (an (show bkNow (z 16) (z 17) (z 18) (z 19) (3 : Int) (2 : Int) (0 : Int) x (3 : Int) = (z 19) by (simp; done)) (cB4a_1 z (an tt tt)))))))) tt) (an (an (@Eq.refl (Nat) ((0 : Nat))) (an (show ∀ (k : Nat), k < (0 : Nat) → (0 : Int) = (0 : Int) from fun _ _ => rfl) (an (show bkCode (z 16) (z 17) (z 18) (z 19) (3 : Int) (2 : Int) (0 : Int) x = (0 : Int) by (simp (disch := omega) only [wrapk] at *; simp at * <;> simp [*] <;> done)) (show bkNum (z 16) (z 17) (z 18) (z 19) (3 : Int) (2 : Int) (0 : Int) x = IntKind.i64.wrap (IntKind.i64.wrap ((z 18) - (1 : Int)) - x) by (simp (disch := omega) only [wrapk] at *; simp at * <;> simp [*] <;> done))))) tt))) ?_
      kernel_rfl

theorem nbk_330 : NeedRun 46 (bl b) (zl z) 3 3 0 x := by
 intro hv ho hn
 have m0 := m0_of hv
 have hx := hx_of ho
 have ho' : opMayL [3, 3, 0, x] = true := ho
 simp at hn

 rcases Bool.eq_false_or_eq_true (!allMay (zl z)) with h0 | h0
 · exact ff (by (simp [hv, ho'] at *; done))
 ·
  rcases Bool.eq_false_or_eq_true (!opMayL [(3 : Int), (3 : Int), (0 : Int), x]) with h1 | h1
  · exact ff (by (simp [hv, ho'] at *; done))
  ·
   rcases Bool.eq_false_or_eq_true (!(b 3)) with h2 | h2
   ·
    refine vcIntro [false, false, true] (an (an h2 (an h1 (an h0 tt))) (an (an (an (show bkD (bl b) (3 : Int) (3 : Int) (0 : Int) = (3 : Int) by (simp at * <;> simp [*] <;> done)) (cB4a_0 b z (cB4a_2 z (an (ri (z 31)) tt)))) tt) tt)) ?_
    kernel_rfl
   · exact ff (by (simp_all; done))

theorem dbk_330 : DoneRun 46 (bl b) (zl z) 3 3 0 x := by
 intro hv ho hn
 have m0 := m0_of hv
 have hx := hx_of ho
 have ho' : opMayL [3, 3, 0, x] = true := ho
 simp at hn

 rcases Bool.eq_false_or_eq_true (!allMay (zl z)) with h0 | h0
 · exact ff (by (simp [hv, ho'] at *; done))
 ·
  rcases Bool.eq_false_or_eq_true (!opMayL [(3 : Int), (3 : Int), (0 : Int), x]) with h1 | h1
  · exact ff (by (simp [hv, ho'] at *; done))
  ·
   rcases Bool.eq_false_or_eq_true (!(b 3)) with h2 | h2
   · exact ff (by (simp_all; done))
   ·
    rcases Bool.eq_false_or_eq_true (!decide ((z 19) > (0 : Int))) with h3 | h3
    ·
     have e : bkCode (z 16) (z 17) (z 18) (z 19) (3 : Int) (3 : Int) (0 : Int) x = (2 : Int) := by (simp at * <;> (repeat' split) <;> omega)
     refine vcIntro [false, false, false, true] (an (an h3 (an h2 (an h1 (an h0 tt)))) (an (an (an tt (cB4a_0 b z (an (nS0 e) (an (nS1 e) (an (nS2 e) (an (nS3 e) (cB4a_1 z (an tt tt)))))))) tt) (an (an (@Eq.refl (Nat) ((0 : Nat))) (an (show ∀ (k : Nat), k < (0 : Nat) → (0 : Int) = (0 : Int) from fun _ _ => rfl) (an e (nSn e)))) tt))) ?_
     kernel_rfl
    ·
     rcases Bool.eq_false_or_eq_true (decide (IntKind.i64.wrap ((z 19) - (1 : Int)) < x)) with h4 | h4
     ·
      have e : bkCode (z 16) (z 17) (z 18) (z 19) (3 : Int) (3 : Int) (0 : Int) x = (3 : Int) := by (simp (disch := omega) only [wrapk] at *; simp at * <;> simp [*] <;> done)
      refine vcIntro [false, false, false, false, true] (an (an h4 (an h3 (an h2 (an h1 (an h0 tt))))) (an (an (an tt (cB4a_0 b z (an (nS0 e) (an (nS1 e) (an (nS2 e) (an (nS3 e) (cB4a_1 z (an tt tt)))))))) tt) (an (an (@Eq.refl (Nat) ((0 : Nat))) (an (show ∀ (k : Nat), k < (0 : Nat) → (0 : Int) = (0 : Int) from fun _ _ => rfl) (an e (nSn e)))) tt))) ?_
      kernel_rfl
     ·
      refine vcIntro [false, false, false, false, false] (an (an h4 (an h3 (an h2 (an h1 (an h0 tt))))) (an (an (an tt (cB4a_0 b z (an (show bkNow (z 16) (z 17) (z 18) (z 19) (3 : Int) (3 : Int) (0 : Int) x (0 : Int) = (z 16) by (simp; done)) (an (show bkNow (z 16) (z 17) (z 18) (z 19) (3 : Int) (3 : Int) (0 : Int) x (1 : Int) = (z 17) by (simp; done)) (an (show bkNow (z 16) (z 17) (z 18) (z 19) (3 : Int) (3 : Int) (0 : Int) x (2 : Int) = (z 18) by (simp; done)) (an (show bkNow (z 16) (z 17) (z 18) (z 19) (3 : Int) (3 : Int) (0 : Int) x (3 : Int) = IntKind.i64.wrap (IntKind.i64.wrap (IntKind.i64.wrap ((z 19) - (1 : Int)) - x) + (1 : Int)) by (simp (disch := omega) only [wrapk] at *; simp at * <;> (repeat' split) <;> omega)) (cB4a_1 z (an tt tt)))))))) tt) (an (an (@Eq.refl (Nat) ((0 : Nat))) (an (show ∀ (k : Nat), k < (0 : Nat) → (0 : Int) = (0 : Int) from fun _ _ => rfl) (an (show bkCode (z 16) (z 17) (z 18) (z 19) (3 : Int) (3 : Int) (0 : Int) x = (0 : Int) by (simp (disch := omega) only [wrapk] at *; simp at * <;> simp [*] <;> done)) (show bkNum (z 16) (z 17) (z 18) (z 19) (3 : Int) (3 : Int) (0 : Int) x = IntKind.i64.wrap (IntKind.i64.wrap ((z 19) - (1 : Int)) - x) by (simp (disch := omega) only [wrapk] at *; simp at * <;> simp [*] <;> done))))) tt))) ?_
      kernel_rfl
end
end Go.Ideal.B1
namespace Go.Ideal.B1
section
open Go.Proofs Go.Ideal Go.Ideal.L1
set_option linter.unusedSimpArgs false
set_option linter.unusedVariables false
set_option maxRecDepth 100000
set_option maxHeartbeats 8000000
attribute [local simp] bl zl sel bkNeed bkCode pos bkNum bkNow bkZs bkA bkD
theorem nU {m0 m1 m2 m3 k a b x c : Int} (i : Int) (h : bkCode m0 m1 m2 m3 k a b x = c) (hc : c ≠ 0) : bkNow m0 m1 m2 m3 k a b x i = sel m0 m1 m2 m3 i := by simp only [bkNow, h, if_neg hc]
theorem nU0 {m0 m1 m2 m3 k a b x c : Int} (h : bkCode m0 m1 m2 m3 k a b x = c) (hc : c ≠ 0 := by decide) : bkNow m0 m1 m2 m3 k a b x (0 : Int) = m0 := nU 0 h hc
theorem nU1 {m0 m1 m2 m3 k a b x c : Int} (h : bkCode m0 m1 m2 m3 k a b x = c) (hc : c ≠ 0 := by decide) : bkNow m0 m1 m2 m3 k a b x (1 : Int) = m1 := nU 1 h hc
theorem nU2 {m0 m1 m2 m3 k a b x c : Int} (h : bkCode m0 m1 m2 m3 k a b x = c) (hc : c ≠ 0 := by decide) : bkNow m0 m1 m2 m3 k a b x (2 : Int) = m2 := nU 2 h hc
theorem nU3 {m0 m1 m2 m3 k a b x c : Int} (h : bkCode m0 m1 m2 m3 k a b x = c) (hc : c ≠ 0 := by decide) : bkNow m0 m1 m2 m3 k a b x (3 : Int) = m3 := nU 3 h hc
theorem nUn {m0 m1 m2 m3 k a b x c : Int} (h : bkCode m0 m1 m2 m3 k a b x = c) (hc : c ≠ 0 := by decide) : bkNum m0 m1 m2 m3 k a b x = (0 : Int) := by simp only [bkNum, h, if_neg hc]
theorem cB4b_0 (b : Nat → Bool) (z : Nat → Int) {R : Prop} (h : R) : ((b 0) : Bool) = (b 0) ∧ (((b 1) : Bool) = (b 1) ∧ (((b 2) : Bool) = (b 2) ∧ (((b 3) : Bool) = (b 3) ∧ (((b 4) : Bool) = (b 4) ∧ (((b 5) : Bool) = (b 5) ∧ (((b 6) : Bool) = (b 6) ∧ (((b 7) : Bool) = (b 7) ∧ (((b 8) : Bool) = (b 8) ∧ (((b 9) : Bool) = (b 9) ∧ (((b 10) : Bool) = (b 10) ∧ (((b 11) : Bool) = (b 11) ∧ (((b 12) : Bool) = (b 12) ∧ (((b 13) : Bool) = (b 13) ∧ (((b 14) : Bool) = (b 14) ∧ (((b 15) : Bool) = (b 15) ∧ (((z 0) : Int) = (z 0) ∧ (((z 1) : Int) = (z 1) ∧ (((z 2) : Int) = (z 2) ∧ (((z 3) : Int) = (z 3) ∧ (((z 4) : Int) = (z 4) ∧ (((z 5) : Int) = (z 5) ∧ (((z 6) : Int) = (z 6) ∧ (((z 7) : Int) = (z 7) ∧ (((z 8) : Int) = (z 8) ∧ (((z 9) : Int) = (z 9) ∧ (((z 10) : Int) = (z 10) ∧ (((z 11) : Int) = (z 11) ∧ (((z 12) : Int) = (z 12) ∧ (((z 13) : Int) = (z 13) ∧ (((z 14) : Int) = (z 14) ∧ (((z 15) : Int) = (z 15) ∧ (R)))))))))))))))))))))))))))))))) := ⟨rfl, ⟨rfl, ⟨rfl, ⟨rfl, ⟨rfl, ⟨rfl, ⟨rfl, ⟨rfl, ⟨rfl, ⟨rfl, ⟨rfl, ⟨rfl, ⟨rfl, ⟨rfl, ⟨rfl, ⟨rfl, ⟨rfl, ⟨rfl, ⟨rfl, ⟨rfl, ⟨rfl, ⟨rfl, ⟨rfl, ⟨rfl, ⟨rfl, ⟨rfl, ⟨rfl, ⟨rfl, ⟨rfl, ⟨rfl, ⟨rfl, ⟨rfl, h⟩⟩⟩⟩⟩⟩⟩⟩⟩⟩⟩⟩⟩⟩⟩⟩⟩⟩⟩⟩⟩⟩⟩⟩⟩⟩⟩⟩⟩⟩⟩⟩
theorem cB4b_1 (z : Nat → Int) {R : Prop} (h : R) : ((z 20) : Int) = (z 20) ∧ (((z 21) : Int) = (z 21) ∧ (((z 22) : Int) = (z 22) ∧ (((z 23) : Int) = (z 23) ∧ (((z 24) : Int) = (z 24) ∧ (((z 25) : Int) = (z 25) ∧ (((z 26) : Int) = (z 26) ∧ (((z 27) : Int) = (z 27) ∧ (((z 28) : Int) = (z 28) ∧ (((z 29) : Int) = (z 29) ∧ (((z 30) : Int) = (z 30) ∧ (((z 31) : Int) = (z 31) ∧ (True ∧ (R))))))))))))) := ⟨rfl, ⟨rfl, ⟨rfl, ⟨rfl, ⟨rfl, ⟨rfl, ⟨rfl, ⟨rfl, ⟨rfl, ⟨rfl, ⟨rfl, ⟨rfl, ⟨True.intro, h⟩⟩⟩⟩⟩⟩⟩⟩⟩⟩⟩⟩⟩
theorem cB4b_2 (z : Nat → Int) {R : Prop} (h : R) : ((z 16) : Int) = (z 16) ∧ (((z 17) : Int) = (z 17) ∧ (((z 18) : Int) = (z 18) ∧ (((z 19) : Int) = (z 19) ∧ (((z 20) : Int) = (z 20) ∧ (((z 21) : Int) = (z 21) ∧ (((z 22) : Int) = (z 22) ∧ (((z 23) : Int) = (z 23) ∧ (((z 24) : Int) = (z 24) ∧ (((z 25) : Int) = (z 25) ∧ (((z 26) : Int) = (z 26) ∧ (((z 27) : Int) = (z 27) ∧ (((z 28) : Int) = (z 28) ∧ (((z 29) : Int) = (z 29) ∧ (((z 30) : Int) = (z 30) ∧ (R))))))))))))))) := ⟨rfl, ⟨rfl, ⟨rfl, ⟨rfl, ⟨rfl, ⟨rfl, ⟨rfl, ⟨rfl, ⟨rfl, ⟨rfl, ⟨rfl, ⟨rfl, ⟨rfl, ⟨rfl, ⟨rfl, h⟩⟩⟩⟩⟩⟩⟩⟩⟩⟩⟩⟩⟩⟩⟩
variable (b : Nat → Bool) (z : Nat → Int) (x : Int)

theorem nbk_400 : NeedRun 46 (bl b) (zl z) 4 0 0 x := by
 intro hv ho hn
 have m0 := m0_of hv
 have hx := hx_of ho
 have ho' : opMayL [4, 0, 0, x] = true := ho
 simp at hn

 rcases Bool.eq_false_or_eq_true (!allMay (zl z)) with h0 | h0
 · exact ff (by (simp [hv, ho'] at *; done))
 ·
  rcases Bool.eq_false_or_eq_true (!opMayL [(4 : Int), (0 : Int), (0 : Int), x]) with h1 | h1
  · exact ff (by (simp [hv, ho'] at *; done))
  ·
   rcases Bool.eq_false_or_eq_true (!(b 0)) with h2 | h2
   ·
    refine vcIntro [false, false, true] (an (an h2 (an h1 (an h0 tt))) (an (an (an (show bkD (bl b) (4 : Int) (0 : Int) (0 : Int) = (0 : Int) by (simp at * <;> simp [*] <;> done)) (cB4b_0 b z (cB4b_2 z (an (ri (z 31)) tt)))) tt) tt)) ?_
    kernel_rfl
   · exact ff (by (simp_all; done))

theorem dbk_400 : DoneRun 46 (bl b) (zl z) 4 0 0 x := by
 intro hv ho hn
 have m0 := m0_of hv
 have hx := hx_of ho
 have ho' : opMayL [4, 0, 0, x] = true := ho
 simp at hn

 rcases Bool.eq_false_or_eq_true (!allMay (zl z)) with h0 | h0
 · exact ff (by (simp [hv, ho'] at *; done))
 ·
  rcases Bool.eq_false_or_eq_true (!opMayL [(4 : Int), (0 : Int), (0 : Int), x]) with h1 | h1
  · exact ff (by (simp [hv, ho'] at *; done))
  ·
   rcases Bool.eq_false_or_eq_true (!(b 0)) with h2 | h2
   · exact ff (by (simp_all; done))
   ·
    rcases Bool.eq_false_or_eq_true (!decide ((z 16) > (0 : Int))) with h3 | h3
    ·
     have e : bkCode (z 16) (z 17) (z 18) (z 19) (4 : Int) (0 : Int) (0 : Int) x = (2 : Int) := by (simp at * <;> (repeat' split) <;> omega)
     refine vcIntro [false, false, false, false, true] (an (an h3 (an h2 (an h2 (an h1 (an h0 tt))))) (an (an (an tt (cB4b_0 b z (an (nU0 e) (an (nU1 e) (an (nU2 e) (an (nU3 e) (cB4b_1 z (an tt tt)))))))) tt) (an (an (@Eq.refl (Nat) ((0 : Nat))) (an (show ∀ (k : Nat), k < (0 : Nat) → (0 : Int) = (0 : Int) from fun _ _ => rfl) (an e (nUn e)))) tt))) ?_
     kernel_rfl
    ·
     rcases Bool.eq_false_or_eq_true (decide (IntKind.i64.wrap ((z 16) - (1 : Int)) < x)) with h4 | h4
     ·
      have e : bkCode (z 16) (z 17) (z 18) (z 19) (4 : Int) (0 : Int) (0 : Int) x = (3 : Int) := by (simp (disch := omega) only [wrapk] at *; simp at * <;> simp [*] <;> done)
      refine vcIntro [false, false, false, false, false, false, true] (an (an h4 (an h3 (an h3 (an h2 (an h2 (an h1 (an h0 tt))))))) (an (an (an tt (cB4b_0 b z (an (nU0 e) (an (nU1 e) (an (nU2 e) (an (nU3 e) (cB4b_1 z (an tt tt)))))))) tt) (an (an (@Eq.refl (Nat) ((0 : Nat))) (an (show ∀ (k : Nat), k < (0 : Nat) → (0 : Int) = (0 : Int) from fun _ _ => rfl) (an e (nUn e)))) tt))) ?_
      kernel_rfl
     ·
      refine vcIntro [false, false, false, false, false, false, false] (an (an h4 (an h3 (an h3 (an h2 (an h2 (an h1 (an h0 tt))))))) (an (an (an tt (cB4b_0 b z (an (show bkNow (z 16) (z 17) (z 18) (z 19) (4 : Int) (0 : Int) (0 : Int) x (0 : Int) = (z 16) by (simp; done)) (an (show bkNow (z 16) (z 17) (z 18) (z 19) (4 : Int) (0 : Int) (0 : Int) x (1 : Int) = (z 17) by (simp; done)) (an (show bkNow (z 16) (z 17) (z 18) (z 19) (4 : Int) (0 : Int) (0 : Int) x (2 : Int) = (z 18) by (simp; done)) (an (show bkNow (z 16) (z 17) (z 18) (z 19) (4 : Int) (0 : Int) (0 : Int) x (3 : Int) = (z 19) by (simp; done)) (cB4b_1 z (an tt tt)))))))) tt) (an (an (@Eq.refl (Nat) ((0 : Nat))) (an (show ∀ (k : Nat), k < (0 : Nat) → (0 : Int) = (0 : Int) from fun _ _ => rfl) (an (show bkCode (z 16) (z 17) (z 18) (z 19) (4 : Int) (0 : Int) (0 : Int) x = (0 : Int) by (simp (disch := omega) only [wrapk] at *; simp at * <;> simp [*] <;> done)) (show bkNum (z 16) (z 17) (z 18) (z 19) (4 : Int) (0 : Int) (0 : Int) x = IntKind.i64.wrap ((z 16) - (1 : Int)) by (simp (disch := omega) only [wrapk] at *; simp at * <;> simp [*] <;> done))))) tt))) ?_
      kernel_rfl

theorem nbk_401 : NeedRun 46 (bl b) (zl z) 4 0 1 x := by
 intro hv ho hn
 have m0 := m0_of hv
 have hx := hx_of ho
 have ho' : opMayL [4, 0, 1, x] = true := ho
 simp at hn

 rcases Bool.eq_false_or_eq_true (!allMay (zl z)) with h0 | h0
 · exact ff (by (simp [hv, ho'] at *; done))
 ·
  rcases Bool.eq_false_or_eq_true (!opMayL [(4 : Int), (0 : Int), (1 : Int), x]) with h1 | h1
  · exact ff (by (simp [hv, ho'] at *; done))
  ·
   rcases Bool.eq_false_or_eq_true (!(b 0)) with h2 | h2
   ·
    refine vcIntro [false, false, true] (an (an h2 (an h1 (an h0 tt))) (an (an (an (show bkD (bl b) (4 : Int) (0 : Int) (1 : Int) = (0 : Int) by (simp at * <;> simp [*] <;> done)) (cB4b_0 b z (cB4b_2 z (an (ri (z 31)) tt)))) tt) tt)) ?_
    kernel_rfl
   ·
    rcases Bool.eq_false_or_eq_true (!(b 1)) with h3 | h3
    ·
     rcases Bool.eq_false_or_eq_true (!decide ((z 16) > (0 : Int))) with h4 | h4
     ·
      refine vcIntro [false, false, false, true, true] (an (an h4 (an h3 (an h2 (an h1 (an h0 tt))))) (an (an (an (show bkD (bl b) (4 : Int) (0 : Int) (1 : Int) = (1 : Int) by (simp at * <;> simp [*] <;> done)) (cB4b_0 b z (cB4b_2 z (an (ri (z 31)) tt)))) tt) tt)) ?_
      kernel_rfl
     ·
      refine vcIntro [false, false, false, true, false] (an (an h4 (an h3 (an h2 (an h1 (an h0 tt))))) (an (an (an (show bkD (bl b) (4 : Int) (0 : Int) (1 : Int) = (1 : Int) by (simp at * <;> simp [*] <;> done)) (cB4b_0 b z (cB4b_2 z (an (ri (z 31)) tt)))) tt) tt)) ?_
      kernel_rfl
    · exact ff (by (simp_all; done))

theorem dbk_401 : DoneRun 46 (bl b) (zl z) 4 0 1 x := by
 intro hv ho hn
 have m0 := m0_of hv
 have hx := hx_of ho
 have ho' : opMayL [4, 0, 1, x] = true := ho
 simp at hn

 rcases Bool.eq_false_or_eq_true (!allMay (zl z)) with h0 | h0
 · exact ff (by (simp [hv, ho'] at *; done))
 ·
  rcases Bool.eq_false_or_eq_true (!opMayL [(4 : Int), (0 : Int), (1 : Int), x]) with h1 | h1
  · exact ff (by (simp [hv, ho'] at *; done))
  ·
   rcases Bool.eq_false_or_eq_true (!(b 0)) with h2 | h2
   · exact ff (by (simp_all; done))
   ·
    rcases Bool.eq_false_or_eq_true (!(b 1)) with h3 | h3
    · exact ff (by (simp_all; done))
    ·
     rcases Bool.eq_false_or_eq_true (!decide ((z 16) > (0 : Int))) with h4 | h4
     ·
      have e : bkCode (z 16) (z 17) (z 18) (z 19) (4 : Int) (0 : Int) (1 : Int) x = (2 : Int) := by (simp at * <;> (repeat' split) <;> omega)
      refine vcIntro [false, false, false, false, true] (an (an h4 (an h3 (an h2 (an h1 (an h0 tt))))) (an (an (an tt (cB4b_0 b z (an (nU0 e) (an (nU1 e) (an (nU2 e) (an (nU3 e) (cB4b_1 z (an tt tt)))))))) tt) (an (an (@Eq.refl (Nat) ((0 : Nat))) (an (show ∀ (k : Nat), k < (0 : Nat) → (0 : Int) = (0 : Int) from fun _ _ => rfl) (an e (nUn e)))) tt))) ?_
      kernel_rfl
     ·
      rcases Bool.eq_false_or_eq_true (!decide ((z 17) > (0 : Int))) with h5 | h5
      ·
       have e : bkCode (z 16) (z 17) (z 18) (z 19) (4 : Int) (0 : Int) (1 : Int) x = (2 : Int) := by (simp at * <;> (repeat' split) <;> omega)
       refine vcIntro [false, false, false, false, false, true] (an (an h5 (an h4 (an h3 (an h2 (an h1 (an h0 tt)))))) (an (an (an tt (cB4b_0 b z (an (nU0 e) (an (nU1 e) (an (nU2 e) (an (nU3 e) (cB4b_1 z (an tt tt)))))))) tt) (an (an (@Eq.refl (Nat) ((0 : Nat))) (an (show ∀ (k : Nat), k < (0 : Nat) → (0 : Int) = (0 : Int) from fun _ _ => rfl) (an e (nUn e)))) tt))) ?_
       kernel_rfl
      ·
       rcases Bool.eq_false_or_eq_true (decide (IntKind.i64.wrap ((z 16) - (1 : Int)) < x)) with h6 | h6
       ·
        have e : bkCode (z 16) (z 17) (z 18) (z 19) (4 : Int) (0 : Int) (1 : Int) x = (3 : Int) := by (simp (disch := omega) only [wrapk] at *; simp at * <;> simp [*] <;> done)
        refine vcIntro [false, false, false, false, false, false, true] (an (an h6 (an h5 (an h4 (an h3 (an h2 (an h1 (an h0 tt))))))) (an (an (an tt (cB4b_0 b z (an (nU0 e) (an (nU1 e) (an (nU2 e) (an (nU3 e) (cB4b_1 z (an tt tt)))))))) tt) (an (an (@Eq.refl (Nat) ((0 : Nat))) (an (show ∀ (k : Nat), k < (0 : Nat) → (0 : Int) = (0 : Int) from fun _ _ => rfl) (an e (nUn e)))) tt))) ?_
        kernel_rfl
       ·
        rcases Bool.eq_false_or_eq_true (decide (IntKind.i64.wrap ((z 17) - (1 : Int)) > IntKind.i64.wrap ((1048575 : Int) - x))) with h7 | h7
        ·
         have e : bkCode (z 16) (z 17) (z 18) (z 19) (4 : Int) (0 : Int) (1 : Int) x = (4 : Int) := by (simp (disch := omega) only [wrapk] at *; simp at * <;> (repeat' split) <;> omega)
         refine vcIntro [false, false, false, false, false, false, false, true] (an (an h7 (an h6 (an h5 (an h4 (an h3 (an h2 (an h1 (an h0 tt)))))))) (an (an (an tt (cB4b_0 b z (an (nU0 e) (an (nU1 e) (an (nU2 e) (an (nU3 e) (cB4b_1 z (an tt tt)))))))) tt) (an (an (@Eq.refl (Nat) ((0 : Nat))) (an (show ∀ (k : Nat), k < (0 : Nat) → (0 : Int) = (0 : Int) from fun _ _ => rfl) (an e (nUn e)))) tt))) ?_
         kernel_rfl
        ·
         refine vcIntro [false, false, false, false, false, false, false, false] (an (an h7 (an h6 (an h5 (an h4 (an h3 (an h2 (an h1 (an h0 tt)))))))) (an (an (an tt (cB4b_0 b z (an (show bkNow (z 16) (z 17) (z 18) (z 19) (4 : Int) (0 : Int) (1 : Int) x (0 : Int) = IntKind.i64.wrap (IntKind.i64.wrap (IntKind.i64.wrap ((z 16) - (1 : Int)) - x) + (1 : Int)) by (simp (disch := omega) only [wrapk] at *; simp at * <;> (repeat' split) <;> omega)) (an (show bkNow (z 16) (z 17) (z 18) (z 19) (4 : Int) (0 : Int) (1 : Int) x (1 : Int) = IntKind.i64.wrap (IntKind.i64.wrap (IntKind.i64.wrap ((z 17) - (1 : Int)) + x) + (1 : Int)) by (simp (disch := omega) only [wrapk] at *; simp at * <;> (repeat' split) <;> omega)) (an (show bkNow (z 16) (z 17) (z 18) (z 19) (4 : Int) (0 : Int) (1 : Int) x (2 : Int) = (z 18) by (simp; done)) (an (show bkNow (z 16) (z 17) (z 18) (z 19) (4 : Int) (0 : Int) (1 : Int) x (3 : Int) = (z 19) by (simp; done)) (cB4b_1 z (an tt tt)))))))) tt) (an (an (@Eq.refl (Nat) ((0 : Nat))) (an (show ∀ (k : Nat), k < (0 : Nat) → (0 : Int) = (0 : Int) from fun _ _ => rfl) (an (show bkCode (z 16) (z 17) (z 18) (z 19) (4 : Int) (0 : Int) (1 : Int) x = (0 : Int) by (simp (disch := omega) only [wrapk] at *; simp at * <;> (repeat' split) <;> omega)) (show bkNum (z 16) (z 17) (z 18) (z 19) (4 : Int) (0 : Int) (1 : Int) x = IntKind.i64.wrap (IntKind.i64.wrap ((z 16) - (1 : Int)) - x) by (simp (disch := omega) only [wrapk] at *; simp at * <;> (repeat' split) <;> omega))))) tt))) ?_
         kernel_rfl

theorem nbk_402 : NeedRun 46 (bl b) (zl z) 4 0 2 x := by
 intro hv ho hn
 have m0 := m0_of hv
 have hx := hx_of ho
 have ho' : opMayL [4, 0, 2, x] = true := ho
 simp at hn

 rcases Bool.eq_false_or_eq_true (!allMay (zl z)) with h0 | h0
 · exact ff (by (simp [hv, ho'] at *; done))
 ·
  rcases Bool.eq_false_or_eq_true (!opMayL [(4 : Int), (0 : Int), (2 : Int), x]) with h1 | h1
  · exact ff (by (simp [hv, ho'] at *; done))
  ·
   rcases Bool.eq_false_or_eq_true (!(b 0)) with h2 | h2
   ·
    refine vcIntro [false, false, true] (an (an h2 (an h1 (an h0 tt))) (an (an (an (show bkD (bl b) (4 : Int) (0 : Int) (2 : Int) = (0 : Int) by (simp at * <;> simp [*] <;> done)) (cB4b_0 b z (cB4b_2 z (an (ri (z 31)) tt)))) tt) tt)) ?_
    kernel_rfl
   ·
    rcases Bool.eq_false_or_eq_true (!(b 2)) with h3 | h3
    ·
     rcases Bool.eq_false_or_eq_true (!decide ((z 16) > (0 : Int))) with h4 | h4
     ·
      refine vcIntro [false, false, false, true, true] (an (an h4 (an h3 (an h2 (an h1 (an h0 tt))))) (an (an (an (show bkD (bl b) (4 : Int) (0 : Int) (2 : Int) = (2 : Int) by (simp at * <;> simp [*] <;> done)) (cB4b_0 b z (cB4b_2 z (an (ri (z 31)) tt)))) tt) tt)) ?_
      kernel_rfl
     ·
      refine vcIntro [false, false, false, true, false] (an (an h4 (an h3 (an h2 (an h1 (an h0 tt))))) (an (an (an (show bkD (bl b) (4 : Int) (0 : Int) (2 : Int) = (2 : Int) by (simp at * <;> simp [*] <;> done)) (cB4b_0 b z (cB4b_2 z (an (ri (z 31)) tt)))) tt) tt)) ?_
      kernel_rfl
    · exact ff (by (simp_all; done))

theorem dbk_402 : DoneRun 46 (bl b) (zl z) 4 0 2 x := by
 intro hv ho hn
 have m0 := m0_of hv
 have hx := hx_of ho
 have ho' : opMayL [4, 0, 2, x] = true := ho
 simp at hn

 rcases Bool.eq_false_or_eq_true (!allMay (zl z)) with h0 | h0
 · exact ff (by (simp [hv, ho'] at *; done))
 ·
  rcases Bool.eq_false_or_eq_true (!opMayL [(4 : Int), (0 : Int), (2 : Int), x]) with h1 | h1
  · exact ff (by (simp [hv, ho'] at *; done))
  ·
   rcases Bool.eq_false_or_eq_true (!(b 0)) with h2 | h2
   · exact ff (by (simp_all; done))
   ·
    rcases Bool.eq_false_or_eq_true (!(b 2)) with h3 | h3
    · exact ff (by (simp_all; done))
    ·
     rcases Bool.eq_false_or_eq_true (!decide ((z 16) > (0 : Int))) with h4 | h4
     ·
      have e : bkCode (z 16) (z 17) (z 18) (z 19) (4 : Int) (0 : Int) (2 : Int) x = (2 : Int) := by (simp at * <;> (repeat' split) <;> omega)
      refine vcIntro [false, false, false, false, true] (an (an h4 (an h3 (an h2 (an h1 (an h0 tt))))) (an (an (an tt (cB4b_0 b z (an (nU0 e) (an (nU1 e) (an (nU2 e) (an (nU3 e) (cB4b_1 z (an tt tt)))))))) tt) (an (an (@Eq.refl (Nat) ((0 : Nat))) (an (show ∀ (k : Nat), k < (0 : Nat) → (0 : Int) = (0 : Int) from fun _ _ => rfl) (an e (nUn e)))) tt))) ?_
      kernel_rfl
     ·
      rcases Bool.eq_false_or_eq_true (!decide ((z 18) > (0 : Int))) with h5 | h5
      ·
       have e : bkCode (z 16) (z 17) (z 18) (z 19) (4 : Int) (0 : Int) (2 : Int) x = (2 : Int) := by (simp at * <;> (repeat' split) <;> omega)
       refine vcIntro [false, false, false, false, false, true] (an (an h5 (an h4 (an h3 (an h2 (an h1 (an h0 tt)))))) (an (an (an tt (cB4b_0 b z (an (nU0 e) (an (nU1 e) (an (nU2 e) (an (nU3 e) (cB4b_1 z (an tt tt)))))))) tt) (an (an (@Eq.refl (Nat) ((0 : Nat))) (an (show ∀ (k : Nat), k < (0 : Nat) → (0 : Int) = (0 : Int) from fun _ _ => rfl) (an e (nUn e)))) tt))) ?_
       kernel_rfl
      ·
       rcases Bool.eq_false_or_eq_true (decide (IntKind.i64.wrap ((z 16) - (1 : Int)) < x)) with h6 | h6
       ·
        have e : bkCode (z 16) (z 17) (z 18) (z 19) (4 : Int) (0 : Int) (2 : Int) x = (3 : Int) := by (simp (disch := omega) only [wrapk] at *; simp at * <;> simp [*] <;> done)
        refine vcIntro [false, false, false, false, false, false, true] (an (an h6 (an h5 (an h4 (an h3 (an h2 (an h1 (an h0 tt))))))) (an (an (an tt (cB4b_0 b z (an (nU0 e) (an (nU1 e) (an (nU2 e) (an (nU3 e) (cB4b_1 z (an tt tt)))))))) tt) (an (an (@Eq.refl (Nat) ((0 : Nat))) (an (show ∀ (k : Nat), k < (0 : Nat) → (0 : Int) = (0 : Int) from fun _ _ => rfl) (an e (nUn e)))) tt))) ?_
        kernel_rfl
       ·
        rcases Bool.eq_false_or_eq_true (decide (IntKind.i64.wrap ((z 18) - (1 : Int)) > IntKind.i64.wrap ((1048575 : Int) - x))) with h7 | h7
        ·
         have e : bkCode (z 16) (z 17) (z 18) (z 19) (4 : Int) (0 : Int) (2 : Int) x = (4 : Int) := by (simp (disch := omega) only [wrapk] at *; simp at * <;> (repeat' split) <;> omega)
         refine vcIntro [false, false, false, false, false, false, false, true] (an (an h7 (an h6 (an h5 (an h4 (an h3 (an h2 (an h1 (an h0 tt)))))))) (an (an (an tt (cB4b_0 b z (an (nU0 e) (an (nU1 e) (an (nU2 e) (an (nU3 e) (cB4b_1 z (an tt tt)))))))) tt) (an (an (@Eq.refl (Nat) ((0 : Nat))) (an (show ∀ (k : Nat), k < (0 : Nat) → (0 : Int) = (0 : Int) from fun _ _ => rfl) (an e (nUn e)))) tt))) ?_
         kernel_rfl
        ·
         refine vcIntro [false, false, false, false, false, false, false, false] (an (an h7 (an h6 (an h5 (an h4 (an h3 (an h2 (an h1 (an h0 tt)))))))) (an (an (an tt (cB4b_0 b z (an (show bkNow (z 16) (z 17) (z 18) (z 19) (4 : Int) (0 : Int) (2 : Int) x (0 : Int) = IntKind.i64.wrap (IntKind.i64.wrap (IntKind.i64.wrap ((z 16) - (1 : Int)) - x) + (1 : Int)) by (simp (disch := omega) only [wrapk] at *; simp at * <;> (repeat' split) <;> omega)) (an (show bkNow (z 16) (z 17) (z 18) (z 19) (4 : Int) (0 : Int) (2 : Int) x (1 : Int) = (z 17) by (simp; done)) (an (show bkNow (z 16) (z 17) (z 18) (z 19) (4 : Int) (0 : Int) (2 : Int) x (2 : Int) = IntKind.i64.wrap (IntKind.i64.wrap (IntKind.i64.wrap ((z 18) - (1 : Int)) + x) + (1 : Int)) by (simp (disch := omega) only [wrapk] at *; simp at * <;> (repeat' split) <;> omega)) (an (show bkNow (z 16) (z 17) (z 18) (z 19) (4 : Int) (0 : Int) (2 : Int) x (3 : Int) = (z 19) by (simp; done)) (cB4b_1 z (an tt tt)))))))) tt) (an (an (@Eq.refl (Nat) ((0 : Nat))) (an (show ∀ (k : Nat), k < (0 : Nat) → (0 : Int) = (0 : Int) from fun _ _ => rfl) (an (show bkCode (z 16) (z 17) (z 18) (z 19) (4 : Int) (0 : Int) (2 : Int) x = (0 : Int) by (simp (disch := omega) only [wrapk] at *; simp at * <;> (repeat' split) <;> omega)) (show bkNum (z 16) (z 17) (z 18) (z 19) (4 : Int) (0 : Int) (2 : Int) x = IntKind.i64.wrap (IntKind.i64.wrap ((z 16) - (1 : Int)) - x) by (simp (disch := omega) only [wrapk] at *; simp at * <;> (repeat' split) <;> omega))))) tt))) ?_
         kernel_rfl

theorem nbk_403 : NeedRun 46 (bl b) (zl z) 4 0 3 x := by
 intro hv ho hn
 have m0 := m0_of hv
 have hx := hx_of ho
 have ho' : opMayL [4, 0, 3, x] = true := ho
 simp at hn

 rcases Bool.eq_false_or_eq_true (!allMay (zl z)) with h0 | h0
 · exact ff (by (simp [hv, ho'] at *; done))
 ·
  rcases Bool.eq_false_or_eq_true (!opMayL [(4 : Int), (0 : Int), (3 : Int), x]) with h1 | h1
  · exact ff (by (simp [hv, ho'] at *; done))
  ·
   rcases Bool.eq_false_or_eq_true (!(b 0)) with h2 | h2
   ·
    refine vcIntro [false, false, true] (an (an h2 (an h1 (an h0 tt))) (an (an (an (show bkD (bl b) (4 : Int) (0 : Int) (3 : Int) = (0 : Int) by (simp at * <;> simp [*] <;> done)) (cB4b_0 b z (cB4b_2 z (an (ri (z 31)) tt)))) tt) tt)) ?_
    kernel_rfl
   ·
    rcases Bool.eq_false_or_eq_true (!(b 3)) with h3 | h3
    ·
     rcases Bool.eq_false_or_eq_true (!decide ((z 16) > (0 : Int))) with h4 | h4
     ·
      refine vcIntro [false, false, false, true, true] (an (an h4 (an h3 (an h2 (an h1 (an h0 tt))))) (an (an (an (show bkD (bl b) (4 : Int) (0 : Int) (3 : Int) = (3 : Int) by (simp at * <;> simp [*] <;> done)) (cB4b_0 b z (cB4b_2 z (an (ri (z 31)) tt)))) tt) tt)) ?_
      kernel_rfl
     ·
      refine vcIntro [false, false, false, true, false] (an (an h4 (an h3 (an h2 (an h1 (an h0 tt))))) (an (an (an (show bkD (bl b) (4 : Int) (0 : Int) (3 : Int) = (3 : Int) by (simp at * <;> simp [*] <;> done)) (cB4b_0 b z (cB4b_2 z (an (ri (z 31)) tt)))) tt) tt)) ?_
      kernel_rfl
    · exact ff (by (simp_all; done))

theorem dbk_403 : DoneRun 46 (bl b) (zl z) 4 0 3 x := by
 intro hv ho hn
 have m0 := m0_of hv
 have hx := hx_of ho
 have ho' : opMayL [4, 0, 3, x] = true := ho
 simp at hn

 rcases Bool.eq_false_or_eq_true (!allMay (zl z)) with h0 | h0
 · exact ff (by (simp [hv, ho'] at *; done))
 ·
  rcases Bool.eq_false_or_eq_true (!opMayL [(4 : Int), (0 : Int), (3 : Int), x]) with h1 | h1
  · exact ff (by (simp [hv, ho'] at *; done))
  ·
   rcases Bool.eq_false_or_eq_true (!(b 0)) with h2 | h2
   · exact ff (by (simp_all; done))
   ·
    rcases Bool.eq_false_or_eq_true (!(b 3)) with h3 | h3
    · exact ff (by (simp_all; done))
    ·
     rcases Bool.eq_false_or_eq_true (!decide ((z 16) > (0 : Int))) with h4 | h4
     ·
      have e : bkCode (z 16) (z 17) (z 18) (z 19) (4 : Int) (0 : Int) (3 : Int) x = (2 : Int) := by (simp at * <;> (repeat' split) <;> omega)
      refine vcIntro [false, false, false, false, true] (an (an h4 (an h3 (an h2 (an h1 (an h0 tt))))) (an (an (an tt (cB4b_0 b z (an (nU0 e) (an (nU1 e) (an (nU2 e) (an (nU3 e) (cB4b_1 z (an tt tt)))))))) tt) (an (an (@Eq.refl (Nat) ((0 : Nat))) (an (show ∀ (k : Nat), k < (0 : Nat) → (0 : Int) = (0 : Int) from fun _ _ => rfl) (an e (nUn e)))) tt))) ?_
      kernel_rfl
     ·
      rcases Bool.eq_false_or_eq_true (!decide ((z 19) > (0 : Int))) with h5 | h5
      ·
       have e : bkCode (z 16) (z 17) (z 18) (z 19) (4 : Int) (0 : Int) (3 : Int) x = (2 : Int) := by (simp at * <;> (repeat' split) <;> omega)
       refine vcIntro [false, false, false, false, false, true] (an (an h5 (an h4 (an h3 (an h2 (an h1 (an h0 tt)))))) (an (an (an tt (cB4b_0 b z (an (nU0 e) (an (nU1 e) (an (nU2 e) (an (nU3 e) (cB4b_1 z (an tt tt)))))))) tt) (an (an (@Eq.refl (Nat) ((0 : Nat))) (an (show ∀ (k : Nat), k < (0 : Nat) → (0 : Int) = (0 : Int) from fun _ _ => rfl) (an e (nUn e)))) tt))) ?_
       kernel_rfl
      ·
       rcases Bool.eq_false_or_eq_true (decide (IntKind.i64.wrap ((z 16) - (1 : Int)) < x)) with h6 | h6
       ·
        have e : bkCode (z 16) (z 17) (z 18) (z 19) (4 : Int) (0 : Int) (3 : Int) x = (3 : Int) := by (simp (disch := omega) only [wrapk] at *; simp at * <;> simp [*] <;> done)
        refine vcIntro [false, false, false, false, false, false, true] (an (an h6 (an h5 (an h4 (an h3 (an h2 (an h1 (an h0 tt))))))) (an (an (an tt (cB4b_0 b z (an (nU0 e) (an (nU1 e) (an (nU2 e) (an (nU3 e) (cB4b_1 z (an tt tt)))))))) tt) (an (an (@Eq.refl (Nat) ((0 : Nat))) (an (show ∀ (k : Nat), k < (0 : Nat) → (0 : Int) = (0 : Int) from fun _ _ => rfl) (an e (nUn e)))) tt))) ?_
        kernel_rfl
       ·
        rcases Bool.eq_false_or_eq_true (decide (IntKind.i64.wrap ((z 19) - (1 : Int)) > IntKind.i64.wrap ((1048575 : Int) - x))) with h7 | h7
        ·
         have e : bkCode (z 16) (z 17) (z 18) (z 19) (4 : Int) (0 : Int) (3 : Int) x = (4 : Int) := by (simp (disch := omega) only [wrapk] at *; simp at * <;> (repeat' split) <;> omega)
         refine vcIntro [false, false, false, false, false, false, false, true] (an (an h7 (an h6 (an h5 (an h4 (an h3 (an h2 (an h1 (an h0 tt)))))))) (an (an (an tt (cB4b_0 b z (an (nU0 e) (an (nU1 e) (an (nU2 e) (an (nU3 e) (cB4b_1 z (an tt tt)))))))) tt) (an (an (@Eq.refl (Nat) ((0 : Nat))) (an (show ∀ (k : Nat), k < (0 : Nat) → (0 : Int) = (0 : Int) from fun _ _ => rfl) (an e (nUn e)))) tt))) ?_
         kernel_rfl
        ·
         refine vcIntro [false, false, false, false, false, false, false, false] (an (an h7 (an h6 (an h5 (an h4 (an h3 (an h2 (an h1 (an h0 tt)))))))) (an (an (an tt (cB4b_0 b z (an (show bkNow (z 16) (z 17) (z 18) (z 19) (4 : Int) (0 : Int) (3 : Int) x (0 : Int) = IntKind.i64.wrap (IntKind.i64.wrap (IntKind.i64.wrap ((z 16) - (1 : Int)) - x) + (1 : Int)) by (simp (disch := omega) only [wrapk] at *; simp at * <;> (repeat' split) <;> omega)) (an (show bkNow (z 16) (z 17) (z 18) (z 19) (4 : Int) (0 : Int) (3 : Int) x (1 : Int) = (z 17) by (simp; done)) (an (show bkNow (z 16) (z 17) (z 18) (z 19) (4 : Int) (0 : Int) (3 : Int) x (2 : Int) = (z 18) by (simp; done)) (an (show bkNow (z 16) (z 17) (z 18) (z 19) (4 : Int) (0 : Int) (3 : Int) x (3 : Int) = IntKind.i64.wrap (IntKind.i64.wrap (IntKind.i64.wrap ((z 19) - (1 : Int)) + x) + (1 : Int)) by (simp (disch := omega) only [wrapk] at *; simp at * <;> (repeat' split) <;> omega)) (cB4b_1 z (an tt tt)))))))) tt) (an (an (@Eq.refl (Nat) ((0 : Nat))) (an (show ∀ (k : Nat), k < (0 : Nat) → (0 : Int) = (0 : Int) from fun _ _ => rfl) (an (show bkCode (z 16) (z 17) (z 18) (z 19) (4 : Int) (0 : Int) (3 : Int) x = (0 : Int) by (simp (disch := omega) only [wrapk] at *; simp at * <;> (repeat' split) <;> omega)) (show bkNum (z 16) (z 17) (z 18) (z 19) (4 : Int) (0 : Int) (3 : Int) x = IntKind.i64.wrap (IntKind.i64.wrap ((z 16) - (1 : Int)) - x) by (simp (disch := omega) only [wrapk] at *; simp at * <;> (repeat' split) <;> omega))))) tt))) ?_
         kernel_rfl

theorem nbk_410 : NeedRun 46 (bl b) (zl z) 4 1 0 x := by
 intro hv ho hn
 have m0 := m0_of hv
 have hx := hx_of ho
 have ho' : opMayL [4, 1, 0, x] = true := ho
 simp at hn

 rcases Bool.eq_false_or_eq_true (!allMay (zl z)) with h0 | h0
 · exact ff (by (simp [hv, ho'] at *; done))
 ·
  rcases Bool.eq_false_or_eq_true (!opMayL [(4 : Int), (1 : Int), (0 : Int), x]) with h1 | h1
  · exact ff (by (simp [hv, ho'] at *; done))
  ·
   rcases Bool.eq_false_or_eq_true (!(b 1)) with h2 | h2
   ·
    refine vcIntro [false, false, true] (an (an h2 (an h1 (an h0 tt))) (an (an (an (show bkD (bl b) (4 : Int) (1 : Int) (0 : Int) = (1 : Int) by (simp at * <;> simp [*] <;> done)) (cB4b_0 b z (cB4b_2 z (an (ri (z 31)) tt)))) tt) tt)) ?_
    kernel_rfl
   ·
    rcases Bool.eq_false_or_eq_true (!(b 0)) with h3 | h3
    ·
     rcases Bool.eq_false_or_eq_true (!decide ((z 17) > (0 : Int))) with h4 | h4
     ·
      refine vcIntro [false, false, false, true, true] (an (an h4 (an h3 (an h2 (an h1 (an h0 tt))))) (an (an (an (show bkD (bl b) (4 : Int) (1 : Int) (0 : Int) = (0 : Int) by (simp at * <;> simp [*] <;> done)) (cB4b_0 b z (cB4b_2 z (an (ri (z 31)) tt)))) tt) tt)) ?_
      kernel_rfl
     ·
      refine vcIntro [false, false, false, true, false] (an (an h4 (an h3 (an h2 (an h1 (an h0 tt))))) (an (an (an (show bkD (bl b) (4 : Int) (1 : Int) (0 : Int) = (0 : Int) by (simp at * <;> simp [*] <;> done)) (cB4b_0 b z (cB4b_2 z (an (ri (z 31)) tt)))) tt) tt)) ?_
      kernel_rfl
    · exact ff (by (simp_all; done))

theorem dbk_410 : DoneRun 46 (bl b) (zl z) 4 1 0 x := by
 intro hv ho hn
 have m0 := m0_of hv
 have hx := hx_of ho
 have ho' : opMayL [4, 1, 0, x] = true := ho
 simp at hn

 rcases Bool.eq_false_or_eq_true (!allMay (zl z)) with h0 | h0
 · exact ff (by (simp [hv, ho'] at *; done))
 ·
  rcases Bool.eq_false_or_eq_true (!opMayL [(4 : Int), (1 : Int), (0 : Int), x]) with h1 | h1
  · exact ff (by (simp [hv, ho'] at *; done))
  ·
   rcases Bool.eq_false_or_eq_true (!(b 1)) with h2 | h2
   · exact ff (by (simp_all; done))
   ·
    rcases Bool.eq_false_or_eq_true (!(b 0)) with h3 | h3
    · exact ff (by (simp_all; done))
    ·
     rcases Bool.eq_false_or_eq_true (!decide ((z 17) > (0 : Int))) with h4 | h4
     ·
      have e : bkCode (z 16) (z 17) (z 18) (z 19) (4 : Int) (1 : Int) (0 : Int) x = (2 : Int) := by (simp at * <;> (repeat' split) <;> omega)
      refine vcIntro [false, false, false, false, true] (an (an h4 (an h3 (an h2 (an h1 (an h0 tt))))) (an (an (an tt (cB4b_0 b z (an (nU0 e) (an (nU1 e) (an (nU2 e) (an (nU3 e) (cB4b_1 z (an tt tt)))))))) tt) (an (an (@Eq.refl (Nat) ((0 : Nat))) (an (show ∀ (k : Nat), k < (0 : Nat) → (0 : Int) = (0 : Int) from fun _ _ => rfl) (an e (nUn e)))) tt))) ?_
      kernel_rfl
     ·
      rcases Bool.eq_false_or_eq_true (!decide ((z 16) > (0 : Int))) with h5 | h5
      ·
       have e : bkCode (z 16) (z 17) (z 18) (z 19) (4 : Int) (1 : Int) (0 : Int) x = (2 : Int) := by (simp at * <;> (repeat' split) <;> omega)
       refine vcIntro [false, false, false, false, false, true] (an (an h5 (an h4 (an h3 (an h2 (an h1 (an h0 tt)))))) (an (an (an tt (cB4b_0 b z (an (nU0 e) (an (nU1 e) (an (nU2 e) (an (nU3 e) (cB4b_1 z (an tt tt)))))))) tt) (an (an (@Eq.refl (Nat) ((0 : Nat))) (an (show ∀ (k : Nat), k < (0 : Nat) → (0 : Int) = (0 : Int) from fun _ _ => rfl) (an e (nUn e)))) tt))) ?_
       kernel_rfl
      ·
       rcases Bool.eq_false_or_eq_true (decide (IntKind.i64.wrap ((z 17) - (1 : Int)) < x)) with h6 | h6
       ·
        have e : bkCode (z 16) (z 17) (z 18) (z 19) (4 : Int) (1 : Int) (0 : Int) x = (3 : Int) := by (simp (disch := omega) only [wrapk] at *; simp at * <;> simp [*] <;> done)
        refine vcIntro [false, false, false, false, false, false, true] (an (an h6 (an h5 (an h4 (an h3 (an h2 (an h1 (an h0 tt))))))) (an (an (an tt (cB4b_0 b z (an (nU0 e) (an (nU1 e) (an (nU2 e) (an (nU3 e) (cB4b_1 z (an tt tt)))))))) tt) (an (an (@Eq.refl (Nat) ((0 : Nat))) (an (show ∀ (k : Nat), k < (0 : Nat) → (0 : Int) = (0 : Int) from fun _ _ => rfl) (an e (nUn e)))) tt))) ?_
        kernel_rfl
       ·
        rcases Bool.eq_false_or_eq_true (decide (IntKind.i64.wrap ((z 16) - (1 : Int)) > IntKind.i64.wrap ((1048575 : Int) - x))) with h7 | h7
        ·
         have e : bkCode (z 16) (z 17) (z 18) (z 19) (4 : Int) (1 : Int) (0 : Int) x = (4 : Int) := by (simp (disch := omega) only [wrapk] at *; simp at * <;> (repeat' split) <;> omega)
         refine vcIntro [false, false, false, false, false, false, false, true] (an (an h7 (an h6 (an h5 (an h4 (an h3 (an h2 (an h1 (an h0 tt)))))))) (an (an (an tt (cB4b_0 b z (an (nU0 e) (an (nU1 e) (an (nU2 e) (an (nU3 e) (cB4b_1 z (an tt tt)))))))) tt) (an (an (@Eq.refl (Nat) ((0 : Nat))) (an (show ∀ (k : Nat), k < (0 : Nat) → (0 : Int) = (0 : Int) from fun _ _ => rfl) (an e (nUn e)))) tt))) ?_
         kernel_rfl
        ·
         refine vcIntro [false, false, false, false, false, false, false, false] (an (an h7 (an h6 (an h5 (an h4 (an h3 (an h2 (an h1 (an h0 tt)))))))) (an (an (an tt (cB4b_0 b z (an (show bkNow (z 16) (z 17) (z 18) (z 19) (4 : Int) (1 : Int) (0 : Int) x (0 : Int) = IntKind.i64.wrap (IntKind.i64.wrap (IntKind.i64.wrap ((z 16) - (1 : Int)) + x) + (1 : Int)) by (simp (disch := omega) only [wrapk] at *; simp at * <;> (repeat' split) <;> omega)) (an (show bkNow (z 16) (z 17) (z 18) (z 19) (4 : Int) (1 : Int) (0 : Int) x (1 : Int) = IntKind.i64.wrap (IntKind.i64.wrap (IntKind.i64.wrap ((z 17) - (1 : Int)) - x) + (1 : Int)) by (simp (disch := omega) only [wrapk] at *; simp at * <;> (repeat' split) <;> omega)) (an (show bkNow (z 16) (z 17) (z 18) (z 19) (4 : Int) (1 : Int) (0 : Int) x (2 : Int) = (z 18) by (simp; done)) (an (show bkNow (z 16) (z 17) (z 18) (z 19) (4 : Int) (1 : Int) (0 : Int) x (3 : Int) = (z 19) by (simp; done)) (cB4b_1 z (an tt tt)))))))) tt) (an (an (@Eq.refl (Nat) ((0 : Nat))) (an (show ∀ (k : Nat), k < (0 : Nat) → (0 : Int) = (0 : Int) from fun _ _ => rfl) (an (show bkCode (z 16) (z 17) (z 18) (z 19) (4 : Int) (1 : Int) (0 : Int) x = (0 : Int) by (simp (disch := omega) only [wrapk] at *; simp at * <;> (repeat' split) <;> omega)) (show bkNum (z 16) (z 17) (z 18) (z 19) (4 : Int) (1 : Int) (0 : Int) x = IntKind.i64.wrap (IntKind.i64.wrap ((z 17) - (1 : Int)) - x) by (simp (disch := omega) only [wrapk] at *; simp at * <;> (repeat' split) <;> omega))))) tt))) ?_
         kernel_rfl

theorem nbk_411 : NeedRun 46 (bl b) (zl z) 4 1 1 x := by
 intro hv ho hn
 have m0 := m0_of hv
 have hx := hx_of ho
 have ho' : opMayL [4, 1, 1, x] = true := ho
 simp at hn

 rcases Bool.eq_false_or_eq_true (!allMay (zl z)) with h0 | h0
 · exact ff (by (simp [hv, ho'] at *; done))
 ·
  rcases Bool.eq_false_or_eq_true (!opMayL [(4 : Int), (1 : Int), (1 : Int), x]) with h1 | h1
  · exact ff (by (simp [hv, ho'] at *; done))
  ·
   rcases Bool.eq_false_or_eq_true (!(b 1)) with h2 | h2
   ·
    refine vcIntro [false, false, true] (an (an h2 (an h1 (an h0 tt))) (an (an (an (show bkD (bl b) (4 : Int) (1 : Int) (1 : Int) = (1 : Int) by (simp at * <;> simp [*] <;> done)) (cB4b_0 b z (cB4b_2 z (an (ri (z 31)) tt)))) tt) tt)) ?_
    kernel_rfl
   · exact ff (by (simp_all; done))

theorem dbk_411 : DoneRun 46 (bl b) (zl z) 4 1 1 x := by
 intro hv ho hn
 have m0 := m0_of hv
 have hx := hx_of ho
 have ho' : opMayL [4, 1, 1, x] = true := ho
 simp at hn

 rcases Bool.eq_false_or_eq_true (!allMay (zl z)) with h0 | h0
 · exact ff (by (simp [hv, ho'] at *; done))
 ·
  rcases Bool.eq_false_or_eq_true (!opMayL [(4 : Int), (1 : Int), (1 : Int), x]) with h1 | h1
  · exact ff (by (simp [hv, ho'] at *; done))
  ·
   rcases Bool.eq_false_or_eq_true (!(b 1)) with h2 | h2
   · exact ff (by (simp_all; done))
   ·
    rcases Bool.eq_false_or_eq_true (!decide ((z 17) > (0 : Int))) with h3 | h3
    ·
     have e : bkCode (z 16) (z 17) (z 18) (z 19) (4 : Int) (1 : Int) (1 : Int) x = (2 : Int) := by (simp at * <;> (repeat' split) <;> omega)
     refine vcIntro [false, false, false, false, true] (an (an h3 (an h2 (an h2 (an h1 (an h0 tt))))) (an (an (an tt (cB4b_0 b z (an (nU0 e) (an (nU1 e) (an (nU2 e) (an (nU3 e) (cB4b_1 z (an tt tt)))))))) tt) (an (an (@Eq.refl (Nat) ((0 : Nat))) (an (show ∀ (k : Nat), k < (0 : Nat) → (0 : Int) = (0 : Int) from fun _ _ => rfl) (an e (nUn e)))) tt))) ?_
     kernel_rfl
    ·
     rcases Bool.eq_false_or_eq_true (decide (IntKind.i64.wrap ((z 17) - (1 : Int)) < x)) with h4 | h4
     ·
      have e : bkCode (z 16) (z 17) (z 18) (z 19) (4 : Int) (1 : Int) (1 : Int) x = (3 : Int) := by (simp (disch := omega) only [wrapk] at *; simp at * <;> simp [*] <;> done)
      refine vcIntro [false, false, false, false, false, false, true] (an (an h4 (an h3 (an h3 (an h2 (an h2 (an h1 (an h0 tt))))))) (an (an (an tt (cB4b_0 b z (an (nU0 e) (an (nU1 e) (an (nU2 e) (an (nU3 e) (cB4b_1 z (an tt tt)))))))) tt) (an (an (@Eq.refl (Nat) ((0 : Nat))) (an (show ∀ (k : Nat), k < (0 : Nat) → (0 : Int) = (0 : Int) from fun _ _ => rfl) (an e (nUn e)))) tt))) ?_
      kernel_rfl
     ·
      refine vcIntro [false, false, false, false, false, false, false] (an (an h4 (an h3 (an h3 (an h2 (an h2 (an h1 (an h0 tt))))))) (an (an (an tt (cB4b_0 b z (an (show bkNow (z 16) (z 17) (z 18) (z 19) (4 : Int) (1 : Int) (1 : Int) x (0 : Int) = (z 16) by (simp; done)) (an (show bkNow (z 16) (z 17) (z 18) (z 19) (4 : Int) (1 : Int) (1 : Int) x (1 : Int) = (z 17) by (simp; done)) (an (show bkNow (z 16) (z 17) (z 18) (z 19) (4 : Int) (1 : Int) (1 : Int) x (2 : Int) = (z 18) by (simp; done)) (an (show bkNow (z 16) (z 17) (z 18) (z 19) (4 : Int) (1 : Int) (1 : Int) x (3 : Int) = (z 19) by (simp; done)) (cB4b_1 z (an tt tt)))))))) tt) (an (an (@Eq.refl (Nat) ((0 : Nat))) (an (show ∀ (k : Nat), k < (0 : Nat) → (0 : Int) = (0 : Int) from fun _ _ => rfl) (an (show bkCode (z 16) (z 17) (z 18) (z 19) (4 : Int) (1 : Int) (1 : Int) x = (0 : Int) by (simp (disch := omega) only [wrapk] at *; simp at * <;> simp [*] <;> done)) (show bkNum (z 16) (z 17) (z 18) (z 19) (4 : Int) (1 : Int) (1 : Int) x = IntKind.i64.wrap ((z 17) - (1 : Int)) by (simp (disch := omega) only [wrapk] at *; simp at * <;> simp [*] <;> done))))) tt))) ?_
      kernel_rfl

theorem nbk_412 : NeedRun 46 (bl b) (zl z) 4 1 2 x := by
 intro hv ho hn
 have m0 := m0_of hv
 have hx := hx_of ho
 have ho' : opMayL [4, 1, 2, x] = true := ho
 simp at hn

 rcases Bool.eq_false_or_eq_true (!allMay (zl z)) with h0 | h0
 · exact ff (by (simp [hv, ho'] at *; done))
 ·
  rcases Bool.eq_false_or_eq_true (!opMayL [(4 : Int), (1 : Int), (2 : Int), x]) with h1 | h1
  · exact ff (by (simp [hv, ho'] at *; done))
  ·
   rcases Bool.eq_false_or_eq_true (!(b 1)) with h2 | h2
   ·
    refine vcIntro [false, false, true] (an (an h2 (an h1 (an h0 tt))) (an (an (an (show bkD (bl b) (4 : Int) (1 : Int) (2 : Int) = (1 : Int) by (simp at * <;> simp [*] <;> done)) (cB4b_0 b z (cB4b_2 z (an (ri (z 31)) tt)))) tt) tt)) ?_
    kernel_rfl
   ·
    rcases Bool.eq_false_or_eq_true (!(b 2)) with h3 | h3
    ·
     rcases Bool.eq_false_or_eq_true (!decide ((z 17) > (0 : Int))) with h4 | h4
     ·
      refine vcIntro [false, false, false, true, true] (an (an h4 (an h3 (an h2 (an h1 (an h0 tt))))) (an (an (an (show bkD (bl b) (4 : Int) (1 : Int) (2 : Int) = (2 : Int) by (simp at * <;> simp [*] <;> done)) (cB4b_0 b z (cB4b_2 z (an (ri (z 31)) tt)))) tt) tt)) ?_
      kernel_rfl
     ·
      refine vcIntro [false, false, false, true, false] (an (an h4 (an h3 (an h2 (an h1 (an h0 tt))))) (an (an (an (show bkD (bl b) (4 : Int) (1 : Int) (2 : Int) = (2 : Int) by (simp at * <;> simp [*] <;> done)) (cB4b_0 b z (cB4b_2 z (an (ri (z 31)) tt)))) tt) tt)) ?_
      kernel_rfl
    · exact ff (by (simp_all; done))

theorem dbk_412 : DoneRun 46 (bl b) (zl z) 4 1 2 x := by
 intro hv ho hn
 have m0 := m0_of hv
 have hx := hx_of ho
 have ho' : opMayL [4, 1, 2, x] = true := ho
 simp at hn

 rcases Bool.eq_false_or_eq_true (!allMay (zl z)) with h0 | h0
 · exact ff (by (simp [hv, ho'] at *; done))
 ·
  rcases Bool.eq_false_or_eq_true (!opMayL [(4 : Int), (1 : Int), (2 : Int), x]) with h1 | h1
  · exact ff (by (simp [hv, ho'] at *; done))
  ·
   rcases Bool.eq_false_or_eq_true (!(b 1)) with h2 | h2
   · exact ff (by (simp_all; done))
   ·
    rcases Bool.eq_false_or_eq_true (!(b 2)) with h3 | h3
    · exact ff (by (simp_all; done))
    ·
     rcases Bool.eq_false_or_eq_true (!decide ((z 17) > (0 : Int))) with h4 | h4
     ·
      have e : bkCode (z 16) (z 17) (z 18) (z 19) (4 : Int) (1 : Int) (2 : Int) x = (2 : Int) := by (simp at * <;> (repeat' split) <;> omega)
      refine vcIntro [false, false, false, false, true] (an (an h4 (an h3 (an h2 (an h1 (an h0 tt))))) (an (an (an tt (cB4b_0 b z (an (nU0 e) (an (nU1 e) (an (nU2 e) (an (nU3 e) (cB4b_1 z (an tt tt)))))))) tt) (an (an (@Eq.refl (Nat) ((0 : Nat))) (an (show ∀ (k : Nat), k < (0 : Nat) → (0 : Int) = (0 : Int) from fun _ _ => rfl) (an e (nUn e)))) tt))) ?_
      kernel_rfl
     ·
      rcases Bool.eq_false_or_eq_true (!decide ((z 18) > (0 : Int))) with h5 | h5
      ·
       have e : bkCode (z 16) (z 17) (z 18) (z 19) (4 : Int) (1 : Int) (2 : Int) x = (2 : Int) := by (simp at * <;> (repeat' split) <;> omega)
       refine vcIntro [false, false, false, false, false, true] (an (an h5 (an h4 (an h3 (an h2 (an h1 (an h0 tt)))))) (an (an (an tt (cB4b_0 b z (an (nU0 e) (an (nU1 e) (an (nU2 e) (an (nU3 e) (cB4b_1 z (an tt tt)))))))) tt) (an (an (@Eq.refl (Nat) ((0 : Nat))) (an (show ∀ (k : Nat), k < (0 : Nat) → (0 : Int) = (0 : Int) from fun _ _ => rfl) (an e (nUn e)))) tt))) ?_
       kernel_rfl
      ·
       rcases Bool.eq_false_or_eq_true (decide (IntKind.i64.wrap ((z 17) - (1 : Int)) < x)) with h6 | h6
       ·
        have e : bkCode (z 16) (z 17) (z 18) (z 19) (4 : Int) (1 : Int) (2 : Int) x = (3 : Int) := by (simp (disch := omega) only [wrapk] at *; simp at * <;> simp [*] <;> done)
        refine vcIntro [false, false, false, false, false, false, true] (an (an h6 (an h5 (an h4 (an h3 (an h2 (an h1 (an h0 tt))))))) (an (an (an tt (cB4b_0 b z (an (nU0 e) (an (nU1 e) (an (nU2 e) (an (nU3 e) (cB4b_1 z (an tt tt)))))))) tt) (an (an (@Eq.refl (Nat) ((0 : Nat))) (an (show ∀ (k : Nat), k < (0 : Nat) → (0 : Int) = (0 : Int) from fun _ _ => rfl) (an e (nUn e)))) tt))) ?_
        kernel_rfl
       ·
        rcases Bool.eq_false_or_eq_true (decide (IntKind.i64.wrap ((z 18) - (1 : Int)) > IntKind.i64.wrap ((1048575 : Int) - x))) with h7 | h7
        ·
         have e : bkCode (z 16) (z 17) (z 18) (z 19) (4 : Int) (1 : Int) (2 : Int) x = (4 : Int) := by (simp (disch := omega) only [wrapk] at *; simp at * <;> (repeat' split) <;> omega)
         refine vcIntro [false, false, false, false, false, false, false, true] (an (an h7 (an h6 (an h5 (an h4 (an h3 (an h2 (an h1 (an h0 tt)))))))) (an (an (an tt (cB4b_0 b z (an (nU0 e) (an (nU1 e) (an (nU2 e) (an (nU3 e) (cB4b_1 z (an tt tt)))))))) tt) (an (an (@Eq.refl (Nat) ((0 : Nat))) (an (show ∀ (k : Nat), k < (0 : Nat) → (0 : Int) = (0 : Int) from fun _ _ => rfl) (an e (nUn e)))) tt))) ?_
         kernel_rfl
        ·
         refine vcIntro [false, false, false, false, false, false, false, false] (an (an h7 (an h6 (an h5 (an h4 (an h3 (an h2 (an h1 (an h0 tt)))))))) (an (an (an tt (cB4b_0 b z (an (show bkNow (z 16) (z 17) (z 18) (z 19) (4 : Int) (1 : Int) (2 : Int) x (0 : Int) = (z 16) by (simp; done)) (an (show bkNow (z 16) (z 17) (z 18) (z 19) (4 : Int) (1 : Int) (2 : Int) x (1 : Int) = IntKind.i64.wrap (IntKind.i64.wrap (IntKind.i64.wrap ((z 17) - (1 : Int)) - x) + (1 : Int)) by (simp (disch := omega) only [wrapk] at *; simp at * <;> (repeat' split) <;> omega)) (an (show bkNow (z 16) (z 17) (z 18) (z 19) (4 : Int) (1 : Int) (2 : Int) x (2 : Int) = IntKind.i64.wrap (IntKind.i64.wrap (IntKind.i64.wrap ((z 18) - (1 : Int)) + x) + (1 : Int)) by (simp (disch := omega) only [wrapk] at *; simp at * <;> (repeat' split) <;> omega)) (an (show bkNow (z 16) (z 17) (z 18) (z 19) (4 : Int) (1 : Int) (2 : Int) x (3 : Int) = (z 19) by (simp; done)) (cB4b_1 z (an tt tt)))))))) tt) (an (an (@Eq.refl (Nat) ((0 : Nat))) (an (show ∀ (k : Nat), k < (0 : Nat) → (0 : Int) = (0 : Int) from fun _ _ => rfl) (an (show bkCode (z 16) (z 17) (z 18) (z 19) (4 : Int) (1 : Int) (2 : Int) x = (0 : Int) by (simp (disch := omega) only [wrapk] at *; simp at * <;> (repeat' split) <;> omega)) (show bkNum (z 16) (z 17) (z 18) (z 19) (4 : Int) (1 : Int) (2 : Int) x = IntKind.i64.wrap (IntKind.i64.wrap ((z 17) - (1 : Int)) - x) by (simp (disch := omega) only [wrapk] at *; simp at * <;> (repeat' split) <;> omega))))) tt))) ?_
         kernel_rfl

theorem nbk_413 : NeedRun 46 (bl b) (zl z) 4 1 3 x := by
 intro hv ho hn
 have m0 := m0_of hv
 have hx := hx_of ho
 have ho' : opMayL [4, 1, 3, x] = true := ho
 simp at hn

 rcases Bool.eq_false_or_eq_true (!allMay (zl z)) with h0 | h0
 · exact ff (by (simp [hv, ho'] at *; done))
 ·
  rcases Bool.eq_false_or_eq_true (!opMayL [(4 : Int), (1 : Int), (3 : Int), x]) with h1 | h1
  · exact ff (by (simp [hv, ho'] at *; done))
  ·
   rcases Bool.eq_false_or_eq_true (!(b 1)) with h2 | h2
   ·
    refine vcIntro [false, false, true] (an (an h2 (an h1 (an h0 tt))) (an (an (an (show bkD (bl b) (4 : Int) (1 : Int) (3 : Int) = (1 : Int) by (simp at * <;> simp [*] <;> done)) (cB4b_0 b z (cB4b_2 z (an (ri (z 31)) tt)))) tt) tt)) ?_
    kernel_rfl
   ·
    rcases Bool.eq_false_or_eq_true (!(b 3)) with h3 | h3
    ·
     rcases Bool.eq_false_or_eq_true (!decide ((z 17) > (0 : Int))) with h4 | h4
     ·
      refine vcIntro [false, false, false, true, true] (an (an h4 (an h3 (an h2 (an h1 (an h0 tt))))) (an (an (an (show bkD (bl b) (4 : Int) (1 : Int) (3 : Int) = (3 : Int) by (simp at * <;> simp [*] <;> done)) (cB4b_0 b z (cB4b_2 z (an (ri (z 31)) tt)))) tt) tt)) ?_
      kernel_rfl
     ·
      refine vcIntro [false, false, false, true, false] (an (an h4 (an h3 (an h2 (an h1 (an h0 tt))))) (an (an (an (show bkD (bl b) (4 : Int) (1 : Int) (3 : Int) = (3 : Int) by (simp at * <;> simp [*] <;> done)) (cB4b_0 b z (cB4b_2 z (an (ri (z 31)) tt)))) tt) tt)) ?_
      kernel_rfl
    · exact ff (by (simp_all; done))

theorem dbk_413 : DoneRun 46 (bl b) (zl z) 4 1 3 x := by
 intro hv ho hn
 have m0 := m0_of hv
 have hx := hx_of ho
 have ho' : opMayL [4, 1, 3, x] = true := ho
 simp at hn

 rcases Bool.eq_false_or_eq_true (!allMay (zl z)) with h0 | h0
 · exact ff (by (simp [hv, ho'] at *; done))
 ·
  rcases Bool.eq_false_or_eq_true (!opMayL [(4 : Int), (1 : Int), (3 : Int), x]) with h1 | h1
  · exact ff (by (simp [hv, ho'] at *; done))
  ·
   rcases Bool.eq_false_or_eq_true (!(b 1)) with h2 | h2
   · exact ff (by (simp_all; done))
   ·
    rcases Bool.eq_false_or_eq_true (!(b 3)) with h3 | h3
    · exact ff (by (simp_all; done))
    ·
     rcases Bool.eq_false_or_eq_true (!decide ((z 17) > (0 : Int))) with h4 | h4
     ·
      have e : bkCode (z 16) (z 17) (z 18) (z 19) (4 : Int) (1 : Int) (3 : Int) x = (2 : Int) := by (simp at * <;> (repeat' split) <;> omega)
      refine vcIntro [false, false, false, false, true] (an (an h4 (an h3 (an h2 (an h1 (an h0 tt))))) (an (an (an tt (cB4b_0 b z (an (nU0 e) (an (nU1 e) (an (nU2 e) (an (nU3 e) (cB4b_1 z (an tt tt)))))))) tt) (an (an (@Eq.refl (Nat) ((0 : Nat))) (an (show ∀ (k : Nat), k < (0 : Nat) → (0 : Int) = (0 : Int) from fun _ _ => rfl) (an e (nUn e)))) tt))) ?_
      kernel_rfl
     ·
      rcases Bool.eq_false_or_eq_true (!decide ((z 19) > (0 : Int))) with h5 | h5
      ·
       have e : bkCode (z 16) (z 17) (z 18) (z 19) (4 : Int) (1 : Int) (3 : Int) x = (2 : Int) := by (simp at * <;> (repeat' split) <;> omega)
       refine vcIntro [false, false, false, false, false, true] (an (an h5 (an h4 (an h3 (an h2 (an h1 (an h0 tt)))))) (an (an (an tt (cB4b_0 b z (an (nU0 e) (an (nU1 e) (an (nU2 e) (an (nU3 e) (cB4b_1 z (an tt tt)))))))) tt) (an (an (@Eq.refl (Nat) ((0 : Nat))) (an (show ∀ (k : Nat), k < (0 : Nat) → (0 : Int) = (0 : Int) from fun _ _ => rfl) (an e (nUn e)))) tt))) ?_
       kernel_rfl
      ·
       rcases Bool.eq_false_or_eq_true (decide (IntKind.i64.wrap ((z 17) - (1 : Int)) < x)) with h6 | h6
       ·
        have e : bkCode (z 16) (z 17) (z 18) (z 19) (4 : Int) (1 : Int) (3 : Int) x = (3 : Int) := by (simp (disch := omega) only [wrapk] at *; simp at * <;> simp [*] <;> done)
        refine vcIntro [false, false, false, false, false, false, true] (an (an h6 (an h5 (an h4 (an h3 (an h2 (an h1 (an h0 tt))))))) (an (an (an tt (cB4b_0 b z (an (nU0 e) (an (nU1 e) (an (nU2 e) (an (nU3 e) (cB4b_1 z (an tt tt)))))))) tt) (an (an (@Eq.refl (Nat) ((0 : Nat))) (an (show ∀ (k : Nat), k < (0 : Nat) → (0 : Int) = (0 : Int) from fun _ _ => rfl) (an e (nUn e)))) tt))) ?_
        kernel_rfl
       ·
        rcases Bool.eq_false_or_eq_true (decide (IntKind.i64.wrap ((z 19) - (1 : Int)) > IntKind.i64.wrap ((1048575 : Int) - x))) with h7 | h7
        ·
         have e : bkCode (z 16) (z 17) (z 18) (z 19) (4 : Int) (1 : Int) (3 : Int) x = (4 : Int) := by (simp (disch := omega) only [wrapk] at *; simp at * <;> (repeat' split) <;> omega)
         refine vcIntro [false, false, false, false, false, false, false, true] (an (an h7 (an h6 (an h5 (an h4 (an h3 (an h2 (an h1 (an h0 tt)))))))) (an (an (an tt (cB4b_0 b z (an (nU0 e) (an (nU1 e) (an (nU2 e) (an (nU3 e) (cB4b_1 z (an tt tt)))))))) tt) (an (an (@Eq.refl (Nat) ((0 : Nat))) (an (show ∀ (k : Nat), k < (0 : Nat) → (0 : Int) = (0 : Int) from fun _ _ => rfl) (an e (nUn e)))) tt))) ?_
         kernel_rfl
        ·
         refine vcIntro [false, false, false, false, false, false, false, false] (an (an h7 (an h6 (an h5 (an h4 (an h3 (an h2 (an h1 (an h0 tt)))))))) (an (an (an tt (cB4b_0 b z (an (show bkNow (z 16) (z 17) (z 18) (z 19) (4 : Int) (1 : Int) (3 : Int) x (0 : Int) = (z 16) by (simp; done)) (an (show bkNow (z 16) (z 17) (z 18) (z 19) (4 : Int) (1 : Int) (3 : Int) x (1 : Int) = IntKind.i64.wrap (IntKind.i64.wrap (IntKind.i64.wrap ((z 17) - (1 : Int)) - x) + (1 : Int)) by (simp (disch := omega) only [wrapk] at *; simp at * <;> (repeat' split) <;> omega)) (an (show bkNow (z 16) (z 17) (z 18) (z 19) (4 : Int) (1 : Int) (3 : Int) x (2 : Int) = (z 18) by (simp; done)) (an (show bkNow (z 16) (z 17) (z 18) (z 19) (4 : Int) (1 : Int) (3 : Int) x (3 : Int) = IntKind.i64.wrap (IntKind.i64.wrap (IntKind.i64.wrap ((z 19) - (1 : Int)) + x) + (1 : Int)) by (simp (disch := omega) only [wrapk] at *; simp at * <;> (repeat' split) <;> omega)) (cB4b_1 z (an tt tt)))))))) tt) (an (an (@Eq.refl (Nat) ((0 : Nat))) (an (show ∀ (k : Nat), k < (0 : Nat) → (0 : Int) = (0 : Int) from fun _ _ => rfl) (an (show bkCode (z 16) (z 17) (z 18) (z 19) (4 : Int) (1 : Int) (3 : Int) x = (0 : Int) by (simp (disch := omega) only [wrapk] at *; simp at * <;> (repeat' split) <;> omega)) (show bkNum (z 16) (z 17) (z 18) (z 19) (4 : Int) (1 : Int) (3 : Int) x = IntKind.i64.wrap (IntKind.i64.wrap ((z 17) - (1 : Int)) - x) by (simp (disch := omega) only [wrapk] at *; simp at * <;> (repeat' split) <;> omega))))) tt))) ?_
         kernel_rfl

theorem nbk_420 : NeedRun 46 (bl b) (zl z) 4 2 0 x := by
 intro hv ho hn
 have m0 := m0_of hv
 have hx := hx_of ho
 have ho' : opMayL [4, 2, 0, x] = true := ho
 simp at hn

 rcases Bool.eq_false_or_eq_true (!allMay (zl z)) with h0 | h0
 · exact ff (by (simp [hv, ho'] at *; done))
 ·
  rcases Bool.eq_false_or_eq_true (!opMayL [(4 : Int), (2 : Int), (0 : Int), x]) with h1 | h1
  · exact ff (by (simp [hv, ho'] at *; done))
  ·
   rcases Bool.eq_false_or_eq_true (!(b 2)) with h2 | h2
   ·
    refine vcIntro [false, false, true] (an (an h2 (an h1 (an h0 tt))) (an (an (an (show bkD (bl b) (4 : Int) (2 : Int) (0 : Int) = (2 : Int) by (simp at * <;> simp [*] <;> done)) (cB4b_0 b z (cB4b_2 z (an (ri (z 31)) tt)))) tt) tt)) ?_
    kernel_rfl
   ·
    rcases Bool.eq_false_or_eq_true (!(b 0)) with h3 | h3
    ·
     rcases Bool.eq_false_or_eq_true (!decide ((z 18) > (0 : Int))) with h4 | h4
     ·
      refine vcIntro [false, false, false, true, true] (an (an h4 (an h3 (an h2 (an h1 (an h0 tt))))) (an (an (an (show bkD (bl b) (4 : Int) (2 : Int) (0 : Int) = (0 : Int) by (simp at * <;> simp [*] <;> done)) (cB4b_0 b z (cB4b_2 z (an (ri (z 31)) tt)))) tt) tt)) ?_
      kernel_rfl
     ·
      refine vcIntro [false, false, false, true, false] (an (an h4 (an h3 (an h2 (an h1 (an h0 tt))))) (an (an (an (show bkD (bl b) (4 : Int) (2 : Int) (0 : Int) = (0 : Int) by (simp at * <;> simp [*] <;> done)) (cB4b_0 b z (cB4b_2 z (an (ri (z 31)) tt)))) tt) tt)) ?_
      kernel_rfl
    · exact ff (by (simp_all; done))

theorem dbk_420 : DoneRun 46 (bl b) (zl z) 4 2 0 x := by
 intro hv ho hn
 have m0 := m0_of hv
 have hx := hx_of ho
 have ho' : opMayL [4, 2, 0, x] = true := ho
 simp at hn

 rcases Bool.eq_false_or_eq_true (!allMay (zl z)) with h0 | h0
 · exact ff (by (simp [hv, ho'] at *; done))
 ·
  rcases Bool.eq_false_or_eq_true (!opMayL [(4 : Int), (2 : Int), (0 : Int), x]) with h1 | h1
  · exact ff (by (simp [hv, ho'] at *; done))
  ·
   rcases Bool.eq_false_or_eq_true (!(b 2)) with h2 | h2
   · exact ff (by (simp_all; done))
   ·
    rcases Bool.eq_false_or_eq_true (!(b 0)) with h3 | h3
    · exact ff (by (simp_all; done))
    ·
     rcases Bool.eq_false_or_eq_true (!decide ((z 18) > (0 : Int))) with h4 | h4
     ·
      have e : bkCode (z 16) (z 17) (z 18) (z 19) (4 : Int) (2 : Int) (0 : Int) x = (2 : Int) := by (simp at * <;> (repeat' split) <;> omega)
      refine vcIntro [false, false, false, false, true] (an (an h4 (an h3 (an h2 (an h1 (an h0 tt))))) (an (an (an tt (cB4b_0 b z (an (nU0 e) (an (nU1 e) (an (nU2 e) (an (nU3 e) (cB4b_1 z (an tt tt)))))))) tt) (an (an (@Eq.refl (Nat) ((0 : Nat))) (an (show ∀ (k : Nat), k < (0 : Nat) → (0 : Int) = (0 : Int) from fun _ _ => rfl) (an e (nUn e)))) tt))) ?_
      kernel_rfl
     ·
      rcases Bool.eq_false_or_eq_true (!decide ((z 16) > (0 : Int))) with h5 | h5
      ·
       have e : bkCode (z 16) (z 17) (z 18) (z 19) (4 : Int) (2 : Int) (0 : Int) x = (2 : Int) := by (simp at * <;> (repeat' split) <;> omega)
       refine vcIntro [false, false, false, false, false, true] (an (an h5 (an h4 (an h3 (an h2 (an h1 (an h0 tt)))))) (an (an (an tt (cB4b_0 b z (an (nU0 e) (an (nU1 e) (an (nU2 e) (an (nU3 e) (cB4b_1 z (an tt tt)))))))) tt) (an (an (@Eq.refl (Nat) ((0 : Nat))) (an (show ∀ (k : Nat), k < (0 : Nat) → (0 : Int) = (0 : Int) from fun _ _ => rfl) (an e (nUn e)))) tt))) ?_
       kernel_rfl
      ·
       rcases Bool.eq_false_or_eq_true (decide (IntKind.i64.wrap ((z 18) - (1 : Int)) < x)) with h6 | h6
       ·
        have e : bkCode (z 16) (z 17) (z 18) (z 19) (4 : Int) (2 : Int) (0 : Int) x = (3 : Int) := by (simp (disch := omega) only [wrapk] at *; simp at * <;> simp [*] <;> done)
        refine vcIntro [false, false, false, false, false, false, true] (an (an h6 (an h5 (an h4 (an h3 (an h2 (an h1 (an h0 tt))))))) (an (an (an tt (cB4b_0 b z (an (nU0 e) (an (nU1 e) (an (nU2 e) (an (nU3 e) (cB4b_1 z (an tt tt)))))))) tt) (an (an (@Eq.refl (Nat) ((0 : Nat))) (an (show ∀ (k : Nat), k < (0 : Nat) → (0 : Int) = (0 : Int) from fun _ _ => rfl) (an e (nUn e)))) tt))) ?_
        kernel_rfl
       ·
        rcases Bool.eq_false_or_eq_true (decide (IntKind.i64.wrap ((z 16) - (1 : Int)) > IntKind.i64.wrap ((1048575 : Int) - x))) with h7 | h7
        ·
         have e : bkCode (z 16) (z 17) (z 18) (z 19) (4 : Int) (2 : Int) (0 : Int) x = (4 : Int) := by (simp (disch := omega) only [wrapk] at *; simp at * <;> (repeat' split) <;> omega)
         refine vcIntro [false, false, false, false, false, false, false, true] (an (an h7 (an h6 (an h5 (an h4 (an h3 (an h2 (an h1 (an h0 tt)))))))) (an (an (an tt (cB4b_0 b z (an (nU0 e) (an (nU1 e) (an (nU2 e) (an (nU3 e) (cB4b_1 z (an tt tt)))))))) tt) (an (an (@Eq.refl (Nat) ((0 : Nat))) (an (show ∀ (k : Nat), k < (0 : Nat) → (0 : Int) = (0 : Int) from fun _ _ => rfl) (an e (nUn e)))) tt))) ?_
         kernel_rfl
        ·
         refine vcIntro [false, false, false, false, false, false, false, false] (an (an h7 (an h6 (an h5 (an h4 (an h3 (an h2 (an h1 (an h0 tt)))))))) (an (an (an tt (cB4b_0 b z (an (show bkNow (z 16) (z 17) (z 18) (z 19) (4 : Int) (2 : Int) (0 : Int) x (0 : Int) = IntKind.i64.wrap (IntKind.i64.wrap (IntKind.i64.wrap ((z 16) - (1 : Int)) + x) + (1 : Int)) by (simp (disch := omega) only [wrapk] at *; simp at * <;> (repeat' split) <;> omega)) (an (show bkNow (z 16) (z 17) (z 18) (z 19) (4 : Int) (2 : Int) (0 : Int) x (1 : Int) = (z 17) by (simp; done)) (an (show bkNow (z 16) (z 17) (z 18) (z 19) (4 : Int) (2 : Int) (0 : Int) x (2 : Int) = IntKind.i64.wrap (IntKind.i64.wrap (IntKind.i64.wrap ((z 18) - (1 : Int)) - x) + (1 : Int)) by (simp (disch := omega) only [wrapk] at *; simp at * <;> (repeat' split) <;> omega)) (an (show bkNow (z 16) (z 17) (z 18) (z 19) (4 : Int) (2 : Int) (0 : Int) x (3 : Int) = (z 19) by (simp; done)) (cB4b_1 z (an tt tt)))))))) tt) (an (an (@Eq.refl (Nat) ((0 : Nat))) (an (show ∀ (k : Nat), k < (0 : Nat) → (0 : Int) = (0 : Int) from fun _ _ => rfl) (an (show bkCode (z 16) (z 17) (z 18) (z 19) (4 : Int) (2 : Int) (0 : Int) x = (0 : Int) by (simp (disch := omega) only [wrapk] at *; simp at * <;> (repeat' split) <;> omega)) (show bkNum (z 16) (z 17) (z 18) (z 19) (4 : Int) (2 : Int) (0 : Int) x = IntKind.i64.wrap (IntKind.i64.wrap ((z 18) - (1 : Int)) - x) by (simp (disch := omega) only [wrapk] at *; simp at * <;> (repeat' split) <;> omega))))) tt))) ?_
         kernel_rfl

theorem nbk_421 : NeedRun 46 (bl b) (zl z) 4 2 1 x := by
 intro hv ho hn
 have m0 := m0_of hv
 have hx := hx_of ho
 have ho' : opMayL [4, 2, 1, x] = true := ho
 simp at hn

 rcases Bool.eq_false_or_eq_true (!allMay (zl z)) with h0 | h0
 · exact ff (by (simp [hv, ho'] at *; done))
 ·
  rcases Bool.eq_false_or_eq_true (!opMayL [(4 : Int), (2 : Int), (1 : Int), x]) with h1 | h1
  · exact ff (by (simp [hv, ho'] at *; done))
  ·
   rcases Bool.eq_false_or_eq_true (!(b 2)) with h2 | h2
   ·
    refine vcIntro [false, false, true] (an (an h2 (an h1 (an h0 tt))) (an (an (an (show bkD (bl b) (4 : Int) (2 : Int) (1 : Int) = (2 : Int) by (simp at * <;> simp [*] <;> done)) (cB4b_0 b z (cB4b_2 z (an (ri (z 31)) tt)))) tt) tt)) ?_
    kernel_rfl
   ·
    rcases Bool.eq_false_or_eq_true (!(b 1)) with h3 | h3
    ·
     rcases Bool.eq_false_or_eq_true (!decide ((z 18) > (0 : Int))) with h4 | h4
     ·
      refine vcIntro [false, false, false, true, true] (an (an h4 (an h3 (an h2 (an h1 (an h0 tt))))) (an (an (an (show bkD (bl b) (4 : Int) (2 : Int) (1 : Int) = (1 : Int) by (simp at * <;> simp [*] <;> done)) (cB4b_0 b z (cB4b_2 z (an (ri (z 31)) tt)))) tt) tt)) ?_
      kernel_rfl
     ·
      refine vcIntro [false, false, false, true, false] (an (an h4 (an h3 (an h2 (an h1 (an h0 tt))))) (an (an (an (show bkD (bl b) (4 : Int) (2 : Int) (1 : Int) = (1 : Int) by (simp at * <;> simp [*] <;> done)) (cB4b_0 b z (cB4b_2 z (an (ri (z 31)) tt)))) tt) tt)) ?_
      kernel_rfl
    · exact ff (by (simp_all; done))

theorem dbk_421 : DoneRun 46 (bl b) (zl z) 4 2 1 x := by
 intro hv ho hn
 have m0 := m0_of hv
 have hx := hx_of ho
 have ho' : opMayL [4, 2, 1, x] = true := ho
 simp at hn

 rcases Bool.eq_false_or_eq_true (!allMay (zl z)) with h0 | h0
 · exact ff (by (simp [hv, ho'] at *; done))
 ·
  rcases Bool.eq_false_or_eq_true (!opMayL [(4 : Int), (2 : Int), (1 : Int), x]) with h1 | h1
  · exact ff (by (simp [hv, ho'] at *; done))
  ·
   rcases Bool.eq_false_or_eq_true (!(b 2)) with h2 | h2
   · exact ff (by (simp_all; done))
   ·
    rcases Bool.eq_false_or_eq_true (!(b 1)) with h3 | h3
    · exact ff (by (simp_all; done))
    ·
     rcases Bool.eq_false_or_eq_true (!decide ((z 18) > (0 : Int))) with h4 | h4
     ·
      have e : bkCode (z 16) (z 17) (z 18) (z 19) (4 : Int) (2 : Int) (1 : Int) x = (2 : Int) := by (simp at * <;> (repeat' split) <;> omega)
      refine vcIntro [false, false, false, false, true] (an (an h4 (an h3 (an h2 (an h1 (an h0 tt))))) (an (an (an tt (cB4b_0 b z (an (nU0 e) (an (nU1 e) (an (nU2 e) (an (nU3 e) (cB4b_1 z (an tt tt)))))))) tt) (an (an (@Eq.refl (Nat) ((0 : Nat))) (an (show ∀ (k : Nat), k < (0 : Nat) → (0 : Int) = (0 : Int) from fun _ _ => rfl) (an e (nUn e)))) tt))) ?_
      kernel_rfl
     ·
      rcases Bool.eq_false_or_eq_true (!decide ((z 17) > (0 : Int))) with h5 | h5
      ·
       have e : bkCode (z 16) (z 17) (z 18) (z 19) (4 : Int) (2 : Int) (1 : Int) x = (2 : Int) := by (simp at * <;> (repeat' split) <;> omega)
       refine vcIntro [false, false, false, false, false, true] (an (an h5 (an h4 (an h3 (an h2 (an h1 (an h0 tt)))))) (an (an (an tt (cB4b_0 b z (an (nU0 e) (an (nU1 e) (an (nU2 e) (an (nU3 e) (cB4b_1 z (an tt tt)))))))) tt) (an (an (@Eq.refl (Nat) ((0 : Nat))) (an (show ∀ (k : Nat), k < (0 : Nat) → (0 : Int) = (0 : Int) from fun _ _ => rfl) (an e (nUn e)))) tt))) ?_
       kernel_rfl
      ·
       rcases Bool.eq_false_or_eq_true (decide (IntKind.i64.wrap ((z 18) - (1 : Int)) < x)) with h6 | h6
       ·
        have e : bkCode (z 16) (z 17) (z 18) (z 19) (4 : Int) (2 : Int) (1 : Int) x = (3 : Int) := by (simp (disch := omega) only [wrapk] at *; simp at * <;> simp [*] <;> done)
        refine vcIntro [false, false, false, false, false, false, true] (an (an h6 (an h5 (an h4 (an h3 (an h2 (an h1 (an h0 tt))))))) (an (an (an tt (cB4b_0 b z (an (nU0 e) (an (nU1 e) (an (nU2 e) (an (nU3 e) (cB4b_1 z (an tt tt)))))))) tt) (an (an (@Eq.refl (Nat) ((0 : Nat))) (an (show ∀ (k : Nat), k < (0 : Nat) → (0 : Int) = (0 : Int) from fun _ _ => rfl) (an e (nUn e)))) tt))) ?_
        kernel_rfl
       ·
        rcases Bool.eq_false_or_eq_true (decide (IntKind.i64.wrap ((z 17) - (1 : Int)) > IntKind.i64.wrap ((1048575 : Int) - x))) with h7 | h7
        ·
         have e : bkCode (z 16) (z 17) (z 18) (z 19) (4 : Int) (2 : Int) (1 : Int) x = (4 : Int) := by (simp (disch := omega) only [wrapk] at *; simp at * <;> (repeat' split) <;> omega)
         refine vcIntro [false, false, false, false, false, false, false, true] (an (an h7 (an h6 (an h5 (an h4 (an h3 (an h2 (an h1 (an h0 tt)))))))) (an (an (an tt (cB4b_0 b z (an (nU0 e) (an (nU1 e) (an (nU2 e) (an (nU3 e) (cB4b_1 z (an tt tt)))))))) tt) (an (an (@Eq.refl (Nat) ((0 : Nat))) (an (show ∀ (k : Nat), k < (0 : Nat) → (0 : Int) = (0 : Int) from fun _ _ => rfl) (an e (nUn e)))) tt))) ?_
         kernel_rfl
        ·
         refine vcIntro [false, false, false, false, false, false, false, false] (an (an h7 (an h6 (an h5 (an h4 (an h3 (an h2 (an h1 (an h0 tt)))))))) (an (an (an tt (cB4b_0 b z (an (show bkNow (z 16) (z 17) (z 18) (z 19) (4 : Int) (2 : Int) (1 : Int) x (0 : Int) = (z 16) by (simp; done)) (an (show bkNow (z 16) (z 17) (z 18) (z 19) (4 : Int) (2 : Int) (1 : Int) x (1 : Int) = IntKind.i64.wrap (IntKind.i64.wrap (IntKind.i64.wrap ((z 17) - (1 : Int)) + x) + (1 : Int)) by (simp (disch := omega) only [wrapk] at *; simp at * <;> (repeat' split) <;> omega)) (an (show bkNow (z 16) (z 17) (z 18) (z 19) (4 : Int) (2 : Int) (1 : Int) x (2 : Int) = IntKind.i64.wrap (IntKind.i64.wrap (IntKind.i64.wrap ((z 18) - (1 : Int)) - x) + (1 : Int)) by (simp (disch := omega) only [wrapk] at *; simp at * <;> (repeat' split) <;> omega)) (an (show bkNow (z 16) (z 17) (z 18) (z 19) (4 : Int) (2 : Int) (1 : Int) x (3 : Int) = (z 19) by (simp; done)) (cB4b_1 z (an tt tt)))))))) tt) (an (an (@Eq.refl (Nat) ((0 : Nat))) (an (show ∀ (k : Nat), k < (0 : Nat) → (0 : Int) = (0 : Int) from fun _ _ => rfl) (an (show bkCode (z 16) (z 17) (z 18) (z 19) (4 : Int) (2 : Int) (1 : Int) x = (0 : Int) by (simp (disch := omega) only [wrapk] at *; simp at * <;> (repeat' split) <;> omega)) (show bkNum (z 16) (z 17) (z 18) (z 19) (4 : Int) (2 : Int) (1 : Int) x = IntKind.i64.wrap (IntKind.i64.wrap ((z 18) - (1 : Int)) - x) by (simp (disch := omega) only [wrapk] at *; simp at * <;> (repeat' split) <;> omega))))) tt))) ?_
         kernel_rfl

theorem nbk_422 : NeedRun 46 (bl b) (zl z) 4 2 2 x := by
 intro hv ho hn
 have m0 := m0_of hv
 have hx := hx_of ho
 have ho' : opMayL [4, 2, 2, x] = true := ho
 simp at hn

 rcases Bool.eq_false_or_eq_true (!allMay (zl z)) with h0 | h0
 · exact ff (by (simp [hv, ho'] at *; done))
 ·
  rcases Bool.eq_false_or_eq_true (!opMayL [(4 : Int), (2 : Int), (2 : Int), x]) with h1 | h1
  · exact ff (by (simp [hv, ho'] at *; done))
  ·
   rcases Bool.eq_false_or_eq_true (!(b 2)) with h2 | h2
   ·
    refine vcIntro [false, false, true] (an (an h2 (an h1 (an h0 tt))) (an (an (an (show bkD (bl b) (4 : Int) (2 : Int) (2 : Int) = (2 : Int) by (simp at * <;> simp [*] <;> done)) (cB4b_0 b z (cB4b_2 z (an (ri (z 31)) tt)))) tt) tt)) ?_
    kernel_rfl
   · exact ff (by (simp_all; done))

theorem dbk_422 : DoneRun 46 (bl b) (zl z) 4 2 2 x := by
 intro hv ho hn
 have m0 := m0_of hv
 have hx := hx_of ho
 have ho' : opMayL [4, 2, 2, x] = true := ho
 simp at hn

 rcases Bool.eq_false_or_eq_true (!allMay (zl z)) with h0 | h0
 · exact ff (by (simp [hv, ho'] at *; done))
 ·
  rcases Bool.eq_false_or_eq_true (!opMayL [(4 : Int), (2 : Int), (2 : Int), x]) with h1 | h1
  · exact ff (by (simp [hv, ho'] at *; done))
  ·
   rcases Bool.eq_false_or_eq_true (!(b 2)) with h2 | h2
   · exact ff (by (simp_all; done))
   ·
    rcases Bool.eq_false_or_eq_true (!decide ((z 18) > (0 : Int))) with h3 | h3
    ·
     have e : bkCode (z 16) (z 17) (z 18) (z 19) (4 : Int) (2 : Int) (2 : Int) x = (2 : Int) := by (simp at * <;> (repeat' split) <;> omega)
     refine vcIntro [false, false, false, false, true] (an (an h3 (an h2 (an h2 (an h1 (an h0 tt))))) (an (an (an tt (cB4b_0 b z (an (nU0 e) (an (nU1 e) (an (nU2 e) (an (nU3 e) (cB4b_1 z (an tt tt)))))))) tt) (an (an (@Eq.refl (Nat) ((0 : Nat))) (an (show ∀ (k : Nat), k < (0 : Nat) → (0 : Int) = (0 : Int) from fun _ _ => rfl) (an e (nUn e)))) tt))) ?_
     kernel_rfl
    ·
     rcases Bool.eq_false_or_eq_true (decide (IntKind.i64.wrap ((z 18) - (1 : Int)) < x)) with h4 | h4
     ·
      have e : bkCode (z 16) (z 17) (z 18) (z 19) (4 : Int) (2 : Int) (2 : Int) x = (3 : Int) := by (simp (disch := omega) only [wrapk] at *; simp at * <;> simp [*] <;> done)
      refine vcIntro [false, false, false, false, false, false, true] (an (an h4 (an h3 (an h3 (an h2 (an h2 (an h1 (an h0 tt))))))) (an (an (an tt (cB4b_0 b z (an (nU0 e) (an (nU1 e) (an (nU2 e) (an (nU3 e) (cB4b_1 z (an tt tt)))))))) tt) (an (an (@Eq.refl (Nat) ((0 : Nat))) (an (show ∀ (k : Nat), k < (0 : Nat) → (0 : Int) = (0 : Int) from fun _ _ => rfl) (an e (nUn e)))) tt))) ?_
      kernel_rfl
     ·
      refine vcIntro [false, false, false, false, false, false, false] (an (an h4 (an h3 (an h3 (an h2 (an h2 (an h1 (an h0 tt))))))) (an (an (an tt (cB4b_0 b z (an (show bkNow (z 16) (z 17) (z 18) (z 19) (4 : Int) (2 : Int) (2 : Int) x (0 : Int) = (z 16) by (simp; done)) (an (show bkNow (z 16) (z 17) (z 18) (z 19) (4 : Int) (2 : Int) (2 : Int) x (1 : Int) = (z 17) by (simp; done)) (an (show bkNow (z 16) (z 17) (z 18) (z 19) (4 : Int) (2 : Int) (2 : Int) x (2 : Int) = (z 18) by (simp; done)) (an (show bkNow (z 16) (z 17) (z 18) (z 19) (4 : Int) (2 : Int) (2 : Int) x (3 : Int) = (z 19) by (simp; done)) (cB4b_1 z (an tt tt)))))))) tt) (an (an (@Eq.refl (Nat) ((0 : Nat))) (an (show ∀ (k : Nat), k < (0 : Nat) → (0 : Int) = (0 : Int) from fun _ _ => rfl) (an (show bkCode (z 16) (z 17) (z 18) (z 19) (4 : Int) (2 : Int) (2 : Int) x = (0 : Int) by (simp (disch := omega) only [wrapk] at *; simp at * <;> simp [*] <;> done)) (show bkNum (z 16) (z 17) (z 18) (z 19) (4 : Int) (2 : Int) (2 : Int) x = IntKind.i64.wrap ((z 18) - (1 : Int)) by (simp (disch := omega) only [wrapk] at *; simp at * <;> simp [*] <;> done))))) tt))) ?_
      kernel_rfl

theorem nbk_423 : NeedRun 46 (bl b) (zl z) 4 2 3 x := by
 intro hv ho hn
 have m0 := m0_of hv
 have hx := hx_of ho
 have ho' : opMayL [4, 2, 3, x] = true := ho
 simp at hn

 rcases Bool.eq_false_or_eq_true (!allMay (zl z)) with h0 | h0
 · exact ff (by (simp [hv, ho'] at *; done))
 ·
  rcases Bool.eq_false_or_eq_true (!opMayL [(4 : Int), (2 : Int), (3 : Int), x]) with h1 | h1
  · exact ff (by (simp [hv, ho'] at *; done))
  ·
   rcases Bool.eq_false_or_eq_true (!(b 2)) with h2 | h2
   ·
    refine vcIntro [false, false, true] (an (an h2 (an h1 (an h0 tt))) (an (an (an (show bkD (bl b) (4 : Int) (2 : Int) (3 : Int) = (2 : Int) by (simp at * <;> simp [*] <;> done)) (cB4b_0 b z (cB4b_2 z (an (ri (z 31)) tt)))) tt) tt)) ?_
    kernel_rfl
   ·
    rcases Bool.eq_false_or_eq_true (!(b 3)) with h3 | h3
    ·
     rcases Bool.eq_false_or_eq_true (!decide ((z 18) > (0 : Int))) with h4 | h4
     ·
      refine vcIntro [false, false, false, true, true] (an (an h4 (an h3 (an h2 (an h1 (an h0 tt))))) (an (an (an (show bkD (bl b) (4 : Int) (2 : Int) (3 : Int) = (3 : Int) by (simp at * <;> simp [*] <;> done)) (cB4b_0 b z (cB4b_2 z (an (ri (z 31)) tt)))) tt) tt)) ?_
      kernel_rfl
     ·
      refine vcIntro [false, false, false, true, false] (an (an h4 (an h3 (an h2 (an h1 (an h0 tt))))) (an (an (an (show bkD (bl b) (4 : Int) (2 : Int) (3 : Int) = (3 : Int) by (simp at * <;> simp [*] <;> done)) (cB4b_0 b z (cB4b_2 z (an (ri (z 31)) tt)))) tt) tt)) ?_
      kernel_rfl
    · exact ff (by (simp_all; done))

theorem dbk_423 : DoneRun 46 (bl b) (zl z) 4 2 3 x := by
 intro hv ho hn
 have m0 := m0_of hv
 have hx := hx_of ho
 have ho' : opMayL [4, 2, 3, x] = true := ho
 simp at hn

 rcases Bool.eq_false_or_eq_true (!allMay (zl z)) with h0 | h0
 · exact ff (by (simp [hv, ho'] at *; done))
 ·
  rcases Bool.eq_false_or_eq_true (!opMayL [(4 : Int), (2 : Int), (3 : Int), x]) with h1 | h1
  · exact ff (by (simp [hv, ho'] at *; done))
  ·
   rcases Bool.eq_false_or_eq_true (!(b 2)) with h2 | h2
   · exact ff (by (simp_all; done))
   ·
    rcases Bool.eq_false_or_eq_true (!(b 3)) with h3 | h3
    · exact ff (by (simp_all; done))
    ·
     rcases Bool.eq_false_or_eq_true (!decide ((z 18) > (0 : Int))) with h4 | h4
     ·
      have e : bkCode (z 16) (z 17) (z 18) (z 19) (4 : Int) (2 : Int) (3 : Int) x = (2 : Int) := by (simp at * <;> (repeat' split) <;> omega)
      refine vcIntro [false, false, false, false, true] (an (an h4 (an h3 (an h2 (an h1 (an h0 tt))))) (an (an (an tt (cB4b_0 b z (an (nU0 e) (an (nU1 e) (an (nU2 e) (an (nU3 e) (cB4b_1 z (an tt tt)))))))) tt) (an (an (@Eq.refl (Nat) ((0 : Nat))) (an (show ∀ (k : Nat), k < (0 : Nat) → (0 : Int) = (0 : Int) from fun _ _ => rfl) (an e (nUn e)))) tt))) ?_
      kernel_rfl
     ·
      rcases Bool.eq_false_or_eq_true (!decide ((z 19) > (0 : Int))) with h5 | h5
      ·
       have e : bkCode (z 16) (z 17) (z 18) (z 19) (4 : Int) (2 : Int) (3 : Int) x = (2 : Int) := by (simp at * <;> (repeat' split) <;> omega)
       refine vcIntro [false, false, false, false, false, true] (an (an h5 (an h4 (an h3 (an h2 (an h1 (an h0 tt)))))) (an (an (an tt (cB4b_0 b z (an (nU0 e) (an (nU1 e) (an (nU2 e) (an (nU3 e) (cB4b_1 z (an tt tt)))))))) tt) (an (an (@Eq.refl (Nat) ((0 : Nat))) (an (show ∀ (k : Nat), k < (0 : Nat) → (0 : Int) = (0 : Int) from fun _ _ => rfl) (an e (nUn e)))) tt))) ?_
       kernel_rfl
      ·
       rcases Bool.eq_false_or_eq_true (decide (IntKind.i64.wrap ((z 18) - (1 : Int)) < x)) with h6 | h6
       ·
        have e : bkCode (z 16) (z 17) (z 18) (z 19) (4 : Int) (2 : Int) (3 : Int) x = (3 : Int) := by (simp (disch := omega) only [wrapk] at *; simp at * <;> simp [*] <;> done)
        refine vcIntro [false, false, false, false, false, false, true] (an (an h6 (an h5 (an h4 (an h3 (an h2 (an h1 (an h0 tt))))))) (an (an (an tt (cB4b_0 b z (an (nU0 e) (an (nU1 e) (an (nU2 e) (an (nU3 e) (cB4b_1 z (an tt tt)))))))) tt) (an (an (@Eq.refl (Nat) ((0 : Nat))) (an (show ∀ (k : Nat), k < (0 : Nat) → (0 : Int) = (0 : Int) from fun _ _ => rfl) (an e (nUn e)))) tt))) ?_
        kernel_rfl
       ·
        rcases Bool.eq_false_or_eq_true (decide (IntKind.i64.wrap ((z 19) - (1 : Int)) > IntKind.i64.wrap ((1048575 : Int) - x))) with h7 | h7
        ·
         have e : bkCode (z 16) (z 17) (z 18) (z 19) (4 : Int) (2 : Int) (3 : Int) x = (4 : Int) := by (simp (disch := omega) only [wrapk] at *; simp at * <;> (repeat' split) <;> omega)
         refine vcIntro [false, false, false, false, false, false, false, true] (an (an h7 (an h6 (an h5 (an h4 (an h3 (an h2 (an h1 (an h0 tt)))))))) (an (an (an tt (cB4b_0 b z (an (nU0 e) (an (nU1 e) (an (nU2 e) (an (nU3 e) (cB4b_1 z (an tt tt)))))))) tt) (an (an (@Eq.refl (Nat) ((0 : Nat))) (an (show ∀ (k : Nat), k < (0 : Nat) → (0 : Int) = (0 : Int) from fun _ _ => rfl) (an e (nUn e)))) tt))) ?_
         kernel_rfl
        ·
         refine vcIntro [false, false, false, false, false, false, false, false] (an (an h7 (an h6 (an h5 (an h4 (an h3 (an h2 (an h1 (an h0 tt)))))))) (an (an (an tt (cB4b_0 b z (an (show bkNow (z 16) (z 17) (z 18) (z 19) (4 : Int) (2 : Int) (3 : Int) x (0 : Int) = (z 16) by (simp; done)) (an (show bkNow (z 16) (z 17) (z 18) (z 19) (4 : Int) (2 : Int) (3 : Int) x (1 : Int) = (z 17) by (simp; done)) (an (show bkNow (z 16) (z 17) (z 18) (z 19) (4 : Int) (2 : Int) (3 : Int) x (2 : Int) = IntKind.i64.wrap (IntKind.i64.wrap (IntKind.i64.wrap ((z 18) - (1 : Int)) - x) + (1 : Int)) by (simp (disch := omega) only [wrapk] at *; simp at * <;> (repeat' split) <;> omega)) (an (show bkNow (z 16) (z 17) (z 18) (z 19) (4 : Int) (2 : Int) (3 : Int) x (3 : Int) = IntKind.i64.wrap (IntKind.i64.wrap (IntKind.i64.wrap ((z 19) - (1 : Int)) + x) + (1 : Int)) by (simp (disch := omega) only [wrapk] at *; simp at * <;> (repeat' split) <;> omega)) (cB4b_1 z (an tt tt)))))))) tt) (an (an (@Eq.refl (Nat) ((0 : Nat))) (an (show ∀ (k : Nat), k < (0 : Nat) → (0 : Int) = (0 : Int) from fun _ _ => rfl) (an (show bkCode (z 16) (z 17) (z 18) (z 19) (4 : Int) (2 : Int) (3 : Int) x = (0 : Int) by (simp (disch := omega) only [wrapk] at *; simp at * <;> (repeat' split) <;> omega)) (show bkNum (z 16) (z 17) (z 18) (z 19) (4 : Int) (2 : Int) (3 : Int) x = IntKind.i64.wrap (IntKind.i64.wrap ((z 18) - (1 : Int)) - x) by (simp (disch := omega) only [wrapk] at *; simp at * <;> (repeat' split) <;> omega))))) tt))) ?_
         kernel_rfl

theorem nbk_430 : NeedRun 46 (bl b) (zl z) 4 3 0 x := by
 intro hv ho hn
 have m0 := m0_of hv
 have hx := hx_of ho
 have ho' : opMayL [4, 3, 0, x] = true := ho
 simp at hn

 rcases Bool.eq_false_or_eq_true (!allMay (zl z)) with h0 | h0
 · exact ff (by (simp [hv, ho'] at *; done))
 ·
  rcases Bool.eq_false_or_eq_true (!opMayL [(4 : Int), (3 : Int), (0 : Int), x]) with h1 | h1
  · exact ff (by (simp [hv, ho'] at *; done))
  ·
   rcases Bool.eq_false_or_eq_true (!(b 3)) with h2 | h2
   ·
    refine vcIntro [false, false, true] (an (an h2 (an h1 (an h0 tt))) (an (an (an (show bkD (bl b) (4 : Int) (3 : Int) (0 : Int) = (3 : Int) by (simp at * <;> simp [*] <;> done)) (cB4b_0 b z (cB4b_2 z (an (ri (z 31)) tt)))) tt) tt)) ?_
    kernel_rfl
   ·
    rcases Bool.eq_false_or_eq_true (!(b 0)) with h3 | h3
    ·
     rcases Bool.eq_false_or_eq_true (!decide ((z 19) > (0 : Int))) with h4 | h4
     ·
      refine vcIntro [false, false, false, true, true] (an (an h4 (an h3 (an h2 (an h1 (an h0 tt))))) (an (an (an (show bkD (bl b) (4 : Int) (3 : Int) (0 : Int) = (0 : Int) by (simp at * <;> simp [*] <;> done)) (cB4b_0 b z (cB4b_2 z (an (ri (z 31)) tt)))) tt) tt)) ?_
      kernel_rfl
     ·
      refine vcIntro [false, false, false, true, false] (an (an h4 (an h3 (an h2 (an h1 (an h0 tt))))) (an (an (an (show bkD (bl b) (4 : Int) (3 : Int) (0 : Int) = (0 : Int) by (simp at * <;> simp [*] <;> done)) (cB4b_0 b z (cB4b_2 z (an (ri (z 31)) tt)))) tt) tt)) ?_
      kernel_rfl
    · exact ff (by (simp_all; done))

theorem dbk_430 : DoneRun 46 (bl b) (zl z) 4 3 0 x := by
 intro hv ho hn
 have m0 := m0_of hv
 have hx := hx_of ho
 have ho' : opMayL [4, 3, 0, x] = true := ho
 simp at hn

 rcases Bool.eq_false_or_eq_true (!allMay (zl z)) with h0 | h0
 · exact ff (by (simp [hv, ho'] at *; done))
 ·
  rcases Bool.eq_false_or_eq_true (!opMayL [(4 : Int), (3 : Int), (0 : Int), x]) with h1 | h1
  · exact ff (by (simp [hv, ho'] at *; done))
  ·
   rcases Bool.eq_false_or_eq_true (!(b 3)) with h2 | h2
   · exact ff (by (simp_all; done))
   ·
    rcases Bool.eq_false_or_eq_true (!(b 0)) with h3 | h3
    · exact ff (by (simp_all; done))
    ·
     rcases Bool.eq_false_or_eq_true (!decide ((z 19) > (0 : Int))) with h4 | h4
     ·
      have e : bkCode (z 16) (z 17) (z 18) (z 19) (4 : Int) (3 : Int) (0 : Int) x = (2 : Int) := by (simp at * <;> (repeat' split) <;> omega)
      refine vcIntro [false, false, false, false, true] (an (an h4 (an h3 (an h2 (an h1 (an h0 tt))))) (an (an (an tt (cB4b_0 b z (an (nU0 e) (an (nU1 e) (an (nU2 e) (an (nU3 e) (cB4b_1 z (an tt tt)))))))) tt) (an (an (@Eq.refl (Nat) ((0 : Nat))) (an (show ∀ (k : Nat), k < (0 : Nat) → (0 : Int) = (0 : Int) from fun _ _ => rfl) (an e (nUn e)))) tt))) ?_
      kernel_rfl
     ·
      rcases Bool.eq_false_or_eq_true (!decide ((z 16) > (0 : Int))) with h5 | h5
      ·
       have e : bkCode (z 16) (z 17) (z 18) (z 19) (4 : Int) (3 : Int) (0 : Int) x = (2 : Int) := by (simp at * <;> (repeat' split) <;> omega)
       refine vcIntro [false, false, false, false, false, true] (an (an h5 (an h4 (an h3 (an h2 (an h1 (an h0 tt)))))) (an (an (an tt (cB4b_0 b z (an (nU0 e) (an (nU1 e) (an (nU2 e) (an (nU3 e) (cB4b_1 z (an tt tt)))))))) tt) (an (an (@Eq.refl (Nat) ((0 : Nat))) (an (show ∀ (k : Nat), k < (0 : Nat) → (0 : Int) = (0 : Int) from fun _ _ => rfl) (an e (nUn e)))) tt))) ?_
       kernel_rfl
      ·
       rcases Bool.eq_false_or_eq_true (decide (IntKind.i64.wrap ((z 19) - (1 : Int)) < x)) with h6 | h6
       ·
        have e : bkCode (z 16) (z 17) (z 18) (z 19) (4 : Int) (3 : Int) (0 : Int) x = (3 : Int) := by (simp (disch := omega) only [wrapk] at *; simp at * <;> simp [*] <;> done)
        refine vcIntro [false, false, false, false, false, false, true] (an (an h6 (an h5 (an h4 (an h3 (an h2 (an h1 (an h0 tt))))))) (an (an (an tt (cB4b_0 b z (an (nU0 e) (an (nU1 e) (an (nU2 e) (an (nU3 e) (cB4b_1 z (an tt tt)))))))) tt) (an (an (@Eq.refl (Nat) ((0 : Nat))) (an (show ∀ (k : Nat), k < (0 : Nat) → (0 : Int) = (0 : Int) from fun _ _ => rfl) (an e (nUn e)))) tt))) ?_
        kernel_rfl
       ·
        rcases Bool.eq_false_or_eq_true (decide (IntKind.i64.wrap ((z 16) - (1 : Int)) > IntKind.i64.wrap ((1048575 : Int) - x))) with h7 | h7
        ·
         have e : bkCode (z 16) (z 17) (z 18) (z 19) (4 : Int) (3 : Int) (0 : Int) x = (4 : Int) := by (simp (disch := omega) only [wrapk] at *; simp at * <;> (repeat' split) <;> omega)
         refine vcIntro [false, false, false, false, false, false, false, true] (an (an h7 (an h6 (an h5 (an h4 (an h3 (an h2 (an h1 (an h0 tt)))))))) (an (an (an tt (cB4b_0 b z (an (nU0 e) (an (nU1 e) (an (nU2 e) (an (nU3 e) (cB4b_1 z (an tt tt)))))))) tt) (an (an (@Eq.refl (Nat) ((0 : Nat))) (an (show ∀ (k : Nat), k < (0 : Nat) → (0 : Int) = (0 : Int) from fun _ _ => rfl) (an e (nUn e)))) tt))) ?_
         kernel_rfl
        ·
         refine vcIntro [false, false, false, false, false, false, false, false] (an (an h7 (an h6 (an h5 (an h4 (an h3 (an h2 (an h1 (an h0 tt)))))))) (an (an (an tt (cB4b_0 b z (an (show bkNow (z 16) (z 17) (z 18) (z 19) (4 : Int) (3 : Int) (0 : Int) x (0 : Int) = IntKind.i64.wrap (IntKind.i64.wrap (IntKind.i64.wrap ((z 16) - (1 : Int)) + x) + (1 : Int)) by (simp (disch := omega) only [wrapk] at *; simp at * <;> (repeat' split) <;> omega)) (an (show bkNow (z 16) (z 17) (z 18) (z 19) (4 : Int) (3 : Int) (0 : Int) x (1 : Int) = (z 17) by (simp; done)) (an (show bkNow (z 16) (z 17) (z 18) (z 19) (4 : Int) (3 : Int) (0 : Int) x (2 : Int) = (z 18) by (simp; done)) (an (show bkNow (z 16) (z 17) (z 18) (z 19) (4 : Int) (3 : Int) (0 : Int) x (3 : Int) = IntKind.i64.wrap (IntKind.i64.wrap (IntKind.i64.wrap ((z 19) - (1 : Int)) - x) + (1 : Int)) by (simp (disch := omega) only [wrapk] at *; simp at * <;> (repeat' split) <;> omega)) (cB4b_1 z (an tt tt)))))))) tt) (an (an (@Eq.refl (Nat) ((0 : Nat))) (an (show ∀ (k : Nat), k < (0 : Nat) → (0 : Int) = (0 : Int) from fun _ _ => rfl) (an (show bkCode (z 16) (z 17) (z 18) (z 19) (4 : Int) (3 : Int) (0 : Int) x = (0 : Int) by (simp (disch := omega) only [wrapk] at *; simp at * <;> (repeat' split) <;> omega)) (show bkNum (z 16) (z 17) (z 18) (z 19) (4 : Int) (3 : Int) (0 : Int) x = IntKind.i64.wrap (IntKind.i64.wrap ((z 19) - (1 : Int)) - x) by (simp (disch := omega) only [wrapk] at *; simp at * <;> (repeat' split) <;> omega))))) tt))) ?_
         kernel_rfl

theorem nbk_431 : NeedRun 46 (bl b) (zl z) 4 3 1 x := by
 intro hv ho hn
 have m0 := m0_of hv
 have hx := hx_of ho
 have ho' : opMayL [4, 3, 1, x] = true := ho
 simp at hn

 rcases Bool.eq_false_or_eq_true (!allMay (zl z)) with h0 | h0
 · exact ff (by (simp [hv, ho'] at *; done))
 ·
  rcases Bool.eq_false_or_eq_true (!opMayL [(4 : Int), (3 : Int), (1 : Int), x]) with h1 | h1
  · exact ff (by (simp [hv, ho'] at *; done))
  ·
   rcases Bool.eq_false_or_eq_true (!(b 3)) with h2 | h2
   ·
    refine vcIntro [false, false, true] (an (an h2 (an h1 (an h0 tt))) (an (an (an (show bkD (bl b) (4 : Int) (3 : Int) (1 : Int) = (3 : Int) by (simp at * <;> simp [*] <;> done)) (cB4b_0 b z (cB4b_2 z (an (ri (z 31)) tt)))) tt) tt)) ?_
    kernel_rfl
   ·
    rcases Bool.eq_false_or_eq_true (!(b 1)) with h3 | h3
    ·
     rcases Bool.eq_false_or_eq_true (!decide ((z 19) > (0 : Int))) with h4 | h4
     ·
      refine vcIntro [false, false, false, true, true] (an (an h4 (an h3 (an h2 (an h1 (an h0 tt))))) (an (an (an (show bkD (bl b) (4 : Int) (3 : Int) (1 : Int) = (1 : Int) by (simp at * <;> simp [*] <;> done)) (cB4b_0 b z (cB4b_2 z (an (ri (z 31)) tt)))) tt) tt)) ?_
      kernel_rfl
     ·
      refine vcIntro [false, false, false, true, false] (an (an h4 (an h3 (an h2 (an h1 (an h0 tt))))) (an (an (an (show bkD (bl b) (4 : Int) (3 : Int) (1 : Int) = (1 : Int) by (simp at * <;> simp [*] <;> done)) (cB4b_0 b z (cB4b_2 z (an (ri (z 31)) tt)))) tt) tt)) ?_
      kernel_rfl
    · exact ff (by (simp_all; done))

theorem dbk_431 : DoneRun 46 (bl b) (zl z) 4 3 1 x := by
 intro hv ho hn
 have m0 := m0_of hv
 have hx := hx_of ho
 have ho' : opMayL [4, 3, 1, x] = true := ho
 simp at hn

 rcases Bool.eq_false_or_eq_true (!allMay (zl z)) with h0 | h0
 · exact ff (by (simp [hv, ho'] at *; done))
 ·
  rcases Bool.eq_false_or_eq_true (!opMayL [(4 : Int), (3 : Int), (1 : Int), x]) with h1 | h1
  · exact ff (by (simp [hv, ho'] at *; done))
  ·
   rcases Bool.eq_false_or_eq_true (!(b 3)) with h2 | h2
   · exact ff (by (simp_all; done))
   ·
    rcases Bool.eq_false_or_eq_true (!(b 1)) with h3 | h3
    · exact ff (by (simp_all; done))
    ·
     rcases Bool.eq_false_or_eq_true (!decide ((z 19) > (0 : Int))) with h4 | h4
     ·
      have e : bkCode (z 16) (z 17) (z 18) (z 19) (4 : Int) (3 : Int) (1 : Int) x = (2 : Int) := by (simp at * <;> (repeat' split) <;> omega)
      refine vcIntro [false, false, false, false, true] (an (an h4 (an h3 (an h2 (an h1 (an h0 tt))))) (an (an (an tt (cB4b_0 b z (an (nU0 e) (an (nU1 e) (an (nU2 e) (an (nU3 e) (cB4b_1 z (an tt tt)))))))) tt) (an (an (@Eq.refl (Nat) ((0 : Nat))) (an (show ∀ (k : Nat), k < (0 : Nat) → (0 : Int) = (0 : Int) from fun _ _ => rfl) (an e (nUn e)))) tt))) ?_
      kernel_rfl
     ·
      rcases Bool.eq_false_or_eq_true (!decide ((z 17) > (0 : Int))) with h5 | h5
      ·
       have e : bkCode (z 16) (z 17) (z 18) (z 19) (4 : Int) (3 : Int) (1 : Int) x = (2 : Int) := by (simp at * <;> (repeat' split) <;> omega)
       refine vcIntro [false, false, false, false, false, true] (an (an h5 (an h4 (an h3 (an h2 (an h1 (an h0 tt)))))) (an (an (an tt (cB4b_0 b z (an (nU0 e) (an (nU1 e) (an (nU2 e) (an (nU3 e) (cB4b_1 z (an tt tt)))))))) tt) (an (an (@Eq.refl (Nat) ((0 : Nat))) (an (show ∀ (k : Nat), k < (0 : Nat) → (0 : Int) = (0 : Int) from fun _ _ => rfl) (an e (nUn e)))) tt))) ?_
       kernel_rfl
      ·
       rcases Bool.eq_false_or_eq_true (decide (IntKind.i64.wrap ((z 19) - (1 : Int)) < x)) with h6 | h6
       ·
        have e : bkCode (z 16) (z 17) (z 18) (z 19) (4 : Int) (3 : Int) (1 : Int) x = (3 : Int) := by (simp (disch := omega) only [wrapk] at *; simp at * <;> simp [*] <;> done)
        refine vcIntro [false, false, false, false, false, false, true] (an (an h6 (an h5 (an h4 (an h3 (an h2 (an h1 (an h0 tt))))))) (an (an (an tt (cB4b_0 b z (an (nU0 e) (an (nU1 e) (an (nU2 e) (an (nU3 e) (cB4b_1 z (an tt tt)))))))) tt) (an (an (@Eq.refl (Nat) ((0 : Nat))) (an (show ∀ (k : Nat), k < (0 : Nat) → (0 : Int) = (0 : Int) from fun _ _ => rfl) (an e (nUn e)))) tt))) ?_
        kernel_rfl
       ·
        rcases Bool.eq_false_or_eq_true (decide (IntKind.i64.wrap ((z 17) - (1 : Int)) > IntKind.i64.wrap ((1048575 : Int) - x))) with h7 | h7
        ·
         have e : bkCode (z 16) (z 17) (z 18) (z 19) (4 : Int) (3 : Int) (1 : Int) x = (4 : Int) := by (simp (disch := omega) only [wrapk] at *; simp at * <;> (repeat' split) <;> omega)
         refine vcIntro [false, false, false, false, false, false, false, true] (an (an h7 (an h6 (an h5 (an h4 (an h3 (an h2 (an h1 (an h0 tt)))))))) (an (an (an tt (cB4b_0 b z (an (nU0 e) (an (nU1 e) (an (nU2 e) (an (nU3 e) (cB4b_1 z (an tt tt)))))))) tt) (an (an (@Eq.refl (Nat) ((0 : Nat))) (an (show ∀ (k : Nat), k < (0 : Nat) → (0 : Int) = (0 : Int) from fun _ _ => rfl) (an e (nUn e)))) tt))) ?_
         kernel_rfl
        ·
         refine vcIntro [false, false, false, false, false, false, false, false] (an (an h7 (an h6 (an h5 (an h4 (an h3 (an h2 (an h1 (an h0 tt)))))))) (an (an (an tt (cB4b_0 b z (an (show bkNow (z 16) (z 17) (z 18) (z 19) (4 : Int) (3 : Int) (1 : Int) x (0 : Int) = (z 16) by (simp; done)) (an (show bkNow (z 16) (z 17) (z 18) (z 19) (4 : Int) (3 : Int) (1 : Int) x (1 : Int) = IntKind.i64.wrap (IntKind.i64.wrap (IntKind.i64.wrap ((z 17) - (1 : Int)) + x) + (1 : Int)) by (simp (disch := omega) only [wrapk] at *; simp at * <;> (repeat' split) <;> omega)) (an (show bkNow (z 16) (z 17) (z 18) (z 19) (4 : Int) (3 : Int) (1 : Int) x (2 : Int) = (z 18) by (simp; done)) (an (show bkNow (z 16) (z 17) (z 18) (z 19) (4 : Int) (3 : Int) (1 : Int) x (3 : Int) = IntKind.i64.wrap (IntKind.i64.wrap (IntKind.i64.wrap ((z 19) - (1 : Int)) - x) + (1 : Int)) by (simp (disch := omega) only [wrapk] at *; simp at * <;> (repeat' split) <;> omega)) (cB4b_1 z (an tt tt)))))))) tt) (an (an (@Eq.refl (Nat) ((0 : Nat))) (an (show ∀ (k : Nat), k < (0 : Nat) → (0 : Int) = (0 : Int) from fun _ _ => rfl) (an (show bkCode (z 16) (z 17) (z 18) (z 19) (4 : Int) (3 : Int) (1 : Int) x = (0 : Int) by (simp (disch := omega) only [wrapk] at *; simp at * <;> (repeat' split) <;> omega)) (show bkNum (z 16) (z 17) (z 18) (z 19) (4 : Int) (3 : Int) (1 : Int) x = IntKind.i64.wrap (IntKind.i64.wrap ((z 19) - (1 : Int)) - x) by (simp (disch := omega) only [wrapk] at *; simp at * <;> (repeat' split) <;> omega))))) tt))) ?_
         kernel_rfl

theorem nbk_432 : NeedRun 46 (bl b) (zl z) 4 3 2 x := by
 intro hv ho hn
 have m0 := m0_of hv
 have hx := hx_of ho
 have ho' : opMayL [4, 3, 2, x] = true := ho
 simp at hn

 rcases Bool.eq_false_or_eq_true (!allMay (zl z)) with h0 | h0
 · exact ff (by (simp [hv, ho'] at *; done))
 ·
  rcases Bool.eq_false_or_eq_true (!opMayL [(4 : Int), (3 : Int), (2 : Int), x]) with h1 | h1
  · exact ff (by (simp [hv, ho'] at *; done))
  ·
   rcases Bool.eq_false_or_eq_true (!(b 3)) with h2 | h2
   ·
    refine vcIntro [false, false, true] (an (an h2 (an h1 (an h0 tt))) (an (an (an (show bkD (bl b) (4 : Int) (3 : Int) (2 : Int) = (3 : Int) by (simp at * <;> simp [*] <;> done)) (cB4b_0 b z (cB4b_2 z (an (ri (z 31)) tt)))) tt) tt)) ?_
    kernel_rfl
   ·
    rcases Bool.eq_false_or_eq_true (!(b 2)) with h3 | h3
    ·
     rcases Bool.eq_false_or_eq_true (!decide ((z 19) > (0 : Int))) with h4 | h4
     ·
      refine vcIntro [false, false, false, true, true] (an (an h4 (an h3 (an h2 (an h1 (an h0 tt))))) (an (an (an (show bkD (bl b) (4 : Int) (3 : Int) (2 : Int) = (2 : Int) by (simp at * <;> simp [*] <;> done)) (cB4b_0 b z (cB4b_2 z (an (ri (z 31)) tt)))) tt) tt)) ?_
      kernel_rfl
     ·
      refine vcIntro [false, false, false, true, false] (an (an h4 (an h3 (an h2 (an h1 (an h0 tt))))) (an (an (an (show bkD (bl b) (4 : Int) (3 : Int) (2 : Int) = (2 : Int) by (simp at * <;> simp [*] <;> done)) (cB4b_0 b z (cB4b_2 z (an (ri (z 31)) tt)))) tt) tt)) ?_
      kernel_rfl
    · exact ff (by (simp_all; done))

theorem dbk_432 : DoneRun 46 (bl b) (zl z) 4 3 2 x := by
 intro hv ho hn
 have m0 := m0_of hv
 have hx := hx_of ho
 have ho' : opMayL [4, 3, 2, x] = true := ho
 simp at hn

 rcases Bool.eq_false_or_eq_true (!allMay (zl z)) with h0 | h0
 · exact ff (by (simp [hv, ho'] at *; done))
 ·
  rcases Bool.eq_false_or_eq_true (!opMayL [(4 : Int), (3 : Int), (2 : Int), x]) with h1 | h1
  · exact ff (by (simp [hv, ho'] at *; done))
  ·
   rcases Bool.eq_false_or_eq_true (!(b 3)) with h2 | h2
   · exact ff (by (simp_all; done))
   ·
    rcases Bool.eq_false_or_eq_true (!(b 2)) with h3 | h3
    · exact ff (by (simp_all; done))
    ·
     rcases Bool.eq_false_or_eq_true (!decide ((z 19) > (0 : Int))) with h4 | h4
     ·
      have e : bkCode (z 16) (z 17) (z 18) (z 19) (4 : Int) (3 : Int) (2 : Int) x = (2 : Int) := by (simp at * <;> (repeat' split) <;> omega)
      refine vcIntro [false, false, false, false, true] (an (an h4 (an h3 (an h2 (an h1 (an h0 tt))))) (an (an (an tt (cB4b_0 b z (an (nU0 e) (an (nU1 e) (an (nU2 e) (an (nU3 e) (cB4b_1 z (an tt tt)))))))) tt) (an (an (@Eq.refl (Nat) ((0 : Nat))) (an (show ∀ (k : Nat), k < (0 : Nat) → (0 : Int) = (0 : Int) from fun _ _ => rfl) (an e (nUn e)))) tt))) ?_
      kernel_rfl
     ·
      rcases Bool.eq_false_or_eq_true (!decide ((z 18) > (0 : Int))) with h5 | h5
      ·
       have e : bkCode (z 16) (z 17) (z 18) (z 19) (4 : Int) (3 : Int) (2 : Int) x = (2 : Int) := by (simp at * <;> (repeat' split) <;> omega)
       refine vcIntro [false, false, false, false, false, true] (an (an h5 (an h4 (an h3 (an h2 (an h1 (an h0 tt)))))) (an (an (an tt (cB4b_0 b z (an (nU0 e) (an (nU1 e) (an (nU2 e) (an (nU3 e) (cB4b_1 z (an tt tt)))))))) tt) (an (an (@Eq.refl (Nat) ((0 : Nat))) (an (show ∀ (k : Nat), k < (0 : Nat) → (0 : Int) = (0 : Int) from fun _ _ => rfl) (an e (nUn e)))) tt))) ?_
       kernel_rfl
      ·
       rcases Bool.eq_false_or_eq_true (decide (IntKind.i64.wrap ((z 19) - (1 : Int)) < x)) with h6 | h6
       ·
        have e : bkCode (z 16) (z 17) (z 18) (z 19) (4 : Int) (3 : Int) (2 : Int) x = (3 : Int) := by (simp (disch := omega) only [wrapk] at *; simp at * <;> simp [*] <;> done)
        refine vcIntro [false, false, false, false, false, false, true] (an (an h6 (an h5 (an h4 (an h3 (an h2 (an h1 (an h0 tt))))))) (an (an (an tt (cB4b_0 b z (an (nU0 e) (an (nU1 e) (an (nU2 e) (an (nU3 e) (cB4b_1 z (an tt tt)))))))) tt) (an (an (@Eq.refl (Nat) ((0 : Nat))) (an (show ∀ (k : Nat), k < (0 : Nat) → (0 : Int) = (0 : Int) from fun _ _ => rfl) (an e (nUn e)))) tt))) ?_
        kernel_rfl
       ·
        rcases Bool.eq_false_or_eq_true (decide (IntKind.i64.wrap ((z 18) - (1 : Int)) > IntKind.i64.wrap ((1048575 : Int) - x))) with h7 | h7
        ·
         have e : bkCode (z 16) (z 17) (z 18) (z 19) (4 : Int) (3 : Int) (2 : Int) x = (4 : Int) := by (simp (disch := omega) only [wrapk] at *; simp at * <;> (repeat' split) <;> omega)
         refine vcIntro [false, false, false, false, false, false, false, true] (an (an h7 (an h6 (an h5 (an h4 (an h3 (an h2 (an h1 (an h0 tt)))))))) (an (an (an tt (cB4b_0 b z (an (nU0 e) (an (nU1 e) (an (nU2 e) (an (nU3 e) (cB4b_1 z (an tt tt)))))))) tt) (an (an (@Eq.refl (Nat) ((0 : Nat))) (an (show ∀ (k : Nat), k < (0 : Nat) → (0 : Int) = (0 : Int) from fun _ _ => rfl) (an e (nUn e)))) tt))) ?_
         kernel_rfl
        ·
         refine vcIntro [false, false, false, false, false, false, false, false] (an (an h7 (an h6 (an h5 (an h4 (an h3 (an h2 (an h1 (an h0 tt)))))))) (an (an (an tt (cB4b_0 b z (an (show bkNow (z 16) (z 17) (z 18) (z 19) (4 : Int) (3 : Int) (2 : Int) x (0 : Int) = (z 16) by (simp; done)) (an (show bkNow (z 16) (z 17) (z 18) (z 19) (4 : Int) (3 : Int) (2 : Int) x (1 : Int) = (z 17) by (simp; done)) (an (show bkNow (z 16) (z 17) (z 18) (z 19) (4 : Int) (3 : Int) (2 : Int) x (2 : Int) = IntKind.i64.wrap (IntKind.i64.wrap (IntKind.i64.wrap ((z 18) - (1 : Int)) + x) + (1 : Int)) by (simp (disch := omega) only [wrapk] at *; simp at * <;> (repeat' split) <;> omega)) (an (show bkNow (z 16) (z 17) (z 18) (z 19) (4 : Int) (3 : Int) (2 : Int) x (3 : Int) = IntKind.i64.wrap (IntKind.i64.wrap (IntKind.i64.wrap ((z 19) - (1 : Int)) - x) + (1 : Int)) by (simp (disch := omega) only [wrapk] at *; simp at * <;> (repeat' split) <;> omega)) (cB4b_1 z (an tt tt)))))))) tt) (an (an (@Eq.refl (Nat) ((0 : Nat))) (an (show ∀ (k : Nat), k < (0 : Nat) → (0 : Int) = (0 : Int) from fun _ _ => rfl) (an (show bkCode (z 16) (z 17) (z 18) (z 19) (4 : Int) (3 : Int) (2 : Int) x = (0 : Int) by (simp (disch := omega) only [wrapk] at *; simp at * <;> (repeat' split) <;> omega)) (show bkNum (z 16) (z 17) (z 18) (z 19) (4 : Int) (3 : Int) (2 : Int) x = IntKind.i64.wrap (IntKind.i64.wrap ((z 19) - (1 : Int)) - x) by (simp (disch := omega) only [wrapk] at *; simp at * <;> (repeat' split) <;> omega))))) tt))) ?_
         kernel_rfl

theorem nbk_433 : NeedRun 46 (bl b) (zl z) 4 3 3 x := by
 intro hv ho hn
 have m0 := m0_of hv
 have hx := hx_of ho
 have ho' : opMayL [4, 3, 3, x] = true := ho
 simp at hn

 rcases Bool.eq_false_or_eq_true (!allMay (zl z)) with h0 | h0
 · exact ff (by (simp [hv, ho'] at *; done))
 ·
  rcases Bool.eq_false_or_eq_true (!opMayL [(4 : Int), (3 : Int), (3 : Int), x]) with h1 | h1
  · exact ff (by (simp [hv, ho'] at *; done))
  ·
   rcases Bool.eq_false_or_eq_true (!(b 3)) with h2 | h2
   ·
    refine vcIntro [false, false, true] (an (an h2 (an h1 (an h0 tt))) (an (an (an (show bkD (bl b) (4 : Int) (3 : Int) (3 : Int) = (3 : Int) by (simp at * <;> simp [*] <;> done)) (cB4b_0 b z (cB4b_2 z (an (ri (z 31)) tt)))) tt) tt)) ?_
    kernel_rfl
   · exact ff (by (simp_all; done))

theorem dbk_433 : DoneRun 46 (bl b) (zl z) 4 3 3 x := by
 intro hv ho hn
 have m0 := m0_of hv
 have hx := hx_of ho
 have ho' : opMayL [4, 3, 3, x] = true := ho
 simp at hn

 rcases Bool.eq_false_or_eq_true (!allMay (zl z)) with h0 | h0
 · exact ff (by (simp [hv, ho'] at *; done))
 ·
  rcases Bool.eq_false_or_eq_true (!opMayL [(4 : Int), (3 : Int), (3 : Int), x]) with h1 | h1
  · exact ff (by (simp [hv, ho'] at *; done))
  ·
   rcases Bool.eq_false_or_eq_true (!(b 3)) with h2 | h2
   · exact ff (by (simp_all; done))
   ·
    rcases Bool.eq_false_or_eq_true (!decide ((z 19) > (0 : Int))) with h3 | h3
    ·
     have e : bkCode (z 16) (z 17) (z 18) (z 19) (4 : Int) (3 : Int) (3 : Int) x = (2 : Int) := by (simp at * <;> (repeat' split) <;> omega)
     refine vcIntro [false, false, false, false, true] (an (an h3 (an h2 (an h2 (an h1 (an h0 tt))))) (an (an (an tt (cB4b_0 b z (an (nU0 e) (an (nU1 e) (an (nU2 e) (an (nU3 e) (cB4b_1 z (an tt tt)))))))) tt) (an (an (@Eq.refl (Nat) ((0 : Nat))) (an (show ∀ (k : Nat), k < (0 : Nat) → (0 : Int) = (0 : Int) from fun _ _ => rfl) (an e (nUn e)))) tt))) ?_
     kernel_rfl
    ·
     rcases Bool.eq_false_or_eq_true (decide (IntKind.i64.wrap ((z 19) - (1 : Int)) < x)) with h4 | h4
     ·
      have e : bkCode (z 16) (z 17) (z 18) (z 19) (4 : Int) (3 : Int) (3 : Int) x = (3 : Int) := by (simp (disch := omega) only [wrapk] at *; simp at * <;> simp [*] <;> done)
      refine vcIntro [false, false, false, false, false, false, true] (an (an h4 (an h3 (an h3 (an h2 (an h2 (an h1 (an h0 tt))))))) (an (an (an tt (cB4b_0 b z (an (nU0 e) (an (nU1 e) (an (nU2 e) (an (nU3 e) (cB4b_1 z (an tt tt)))))))) tt) (an (an (@Eq.refl (Nat) ((0 : Nat))) (an (show ∀ (k : Nat), k < (0 : Nat) → (0 : Int) = (0 : Int) from fun _ _ => rfl) (an e (nUn e)))) tt))) ?_
      kernel_rfl
     ·
      refine vcIntro [false, false, false, false, false, false, false] (an (an h4 (an h3 (an h3 (an h2 (an h2 (an h1 (an h0 tt))))))) (an (an (an tt (cB4b_0 b z (an (show bkNow (z 16) (z 17) (z 18) (z 19) (4 : Int) (3 : Int) (3 : Int) x (0 : Int) = (z 16) by (simp; done)) (an (show bkNow (z 16) (z 17) (z 18) (z 19) (4 : Int) (3 : Int) (3 : Int) x (1 : Int) = (z 17) by (simp; done)) (an (show bkNow (z 16) (z 17) (z 18) (z 19) (4 : Int) (3 : Int) (3 : Int) x (2 : Int) = (z 18) by (simp; done)) (an (show bkNow (z 16) (z 17) (z 18) (z 19) (4 : Int) (3 : Int) (3 : Int) x (3 : Int) = (z 19) by (simp; done)) (cB4b_1 z (an tt tt)))))))) tt) (an (an (@Eq.refl (Nat) ((0 : Nat))) (an (show ∀ (k : Nat), k < (0 : Nat) → (0 : Int) = (0 : Int) from fun _ _ => rfl) (an (show bkCode (z 16) (z 17) (z 18) (z 19) (4 : Int) (3 : Int) (3 : Int) x = (0 : Int) by (simp (disch := omega) only [wrapk] at *; simp at * <;> simp [*] <;> done)) (show bkNum (z 16) (z 17) (z 18) (z 19) (4 : Int) (3 : Int) (3 : Int) x = IntKind.i64.wrap ((z 19) - (1 : Int)) by (simp (disch := omega) only [wrapk] at *; simp at * <;> simp [*] <;> done))))) tt))) ?_
      kernel_rfl
end
end Go.Ideal.B1
namespace Go.Ideal.B1
section
open Go.Proofs Go.Ideal Go.Ideal.L1
set_option linter.unusedSimpArgs false
set_option linter.unusedVariables false
set_option maxRecDepth 100000
set_option maxHeartbeats 8000000
attribute [local simp] bl zl sel bkNeed bkCode pos bkNum bkNow bkZs bkA bkD
theorem cB4c_0 (b : Nat → Bool) (z : Nat → Int) {R : Prop} (h : R) : ((b 0) : Bool) = (b 0) ∧ (((b 1) : Bool) = (b 1) ∧ (((b 2) : Bool) = (b 2) ∧ (((b 3) : Bool) = (b 3) ∧ (((b 4) : Bool) = (b 4) ∧ (((b 5) : Bool) = (b 5) ∧ (((b 6) : Bool) = (b 6) ∧ (((b 7) : Bool) = (b 7) ∧ (((b 8) : Bool) = (b 8) ∧ (((b 9) : Bool) = (b 9) ∧ (((b 10) : Bool) = (b 10) ∧ (((b 11) : Bool) = (b 11) ∧ (((b 12) : Bool) = (b 12) ∧ (((b 13) : Bool) = (b 13) ∧ (((b 14) : Bool) = (b 14) ∧ (((b 15) : Bool) = (b 15) ∧ (((z 0) : Int) = (z 0) ∧ (((z 1) : Int) = (z 1) ∧ (((z 2) : Int) = (z 2) ∧ (((z 3) : Int) = (z 3) ∧ (((z 4) : Int) = (z 4) ∧ (((z 5) : Int) = (z 5) ∧ (((z 6) : Int) = (z 6) ∧ (((z 7) : Int) = (z 7) ∧ (((z 8) : Int) = (z 8) ∧ (((z 9) : Int) = (z 9) ∧ (((z 10) : Int) = (z 10) ∧ (((z 11) : Int) = (z 11) ∧ (((z 12) : Int) = (z 12) ∧ (((z 13) : Int) = (z 13) ∧ (((z 14) : Int) = (z 14) ∧ (((z 15) : Int) = (z 15) ∧ (R)))))))))))))))))))))))))))))))) := ⟨rfl, ⟨rfl, ⟨rfl, ⟨rfl, ⟨rfl, ⟨rfl, ⟨rfl, ⟨rfl, ⟨rfl, ⟨rfl, ⟨rfl, ⟨rfl, ⟨rfl, ⟨rfl, ⟨rfl, ⟨rfl, ⟨rfl, ⟨rfl, ⟨rfl, ⟨rfl, ⟨rfl, ⟨rfl, ⟨rfl, ⟨rfl, ⟨rfl, ⟨rfl, ⟨rfl, ⟨rfl, ⟨rfl, ⟨rfl, ⟨rfl, ⟨rfl, h⟩⟩⟩⟩⟩⟩⟩⟩⟩⟩⟩⟩⟩⟩⟩⟩⟩⟩⟩⟩⟩⟩⟩⟩⟩⟩⟩⟩⟩⟩⟩⟩
theorem cB4c_1 (z : Nat → Int) {R : Prop} (h : R) : ((z 20) : Int) = (z 20) ∧ (((z 21) : Int) = (z 21) ∧ (((z 22) : Int) = (z 22) ∧ (((z 23) : Int) = (z 23) ∧ (((z 24) : Int) = (z 24) ∧ (((z 25) : Int) = (z 25) ∧ (((z 26) : Int) = (z 26) ∧ (((z 27) : Int) = (z 27) ∧ (((z 28) : Int) = (z 28) ∧ (((z 29) : Int) = (z 29) ∧ (((z 30) : Int) = (z 30) ∧ (((z 31) : Int) = (z 31) ∧ (True ∧ (R))))))))))))) := ⟨rfl, ⟨rfl, ⟨rfl, ⟨rfl, ⟨rfl, ⟨rfl, ⟨rfl, ⟨rfl, ⟨rfl, ⟨rfl, ⟨rfl, ⟨rfl, ⟨True.intro, h⟩⟩⟩⟩⟩⟩⟩⟩⟩⟩⟩⟩⟩
theorem cB4c_2 (z : Nat → Int) {R : Prop} (h : R) : ((z 16) : Int) = (z 16) ∧ (((z 17) : Int) = (z 17) ∧ (((z 18) : Int) = (z 18) ∧ (((z 19) : Int) = (z 19) ∧ (((z 20) : Int) = (z 20) ∧ (((z 21) : Int) = (z 21) ∧ (((z 22) : Int) = (z 22) ∧ (((z 23) : Int) = (z 23) ∧ (((z 24) : Int) = (z 24) ∧ (((z 25) : Int) = (z 25) ∧ (((z 26) : Int) = (z 26) ∧ (((z 27) : Int) = (z 27) ∧ (((z 28) : Int) = (z 28) ∧ (((z 29) : Int) = (z 29) ∧ (((z 30) : Int) = (z 30) ∧ (R))))))))))))))) := ⟨rfl, ⟨rfl, ⟨rfl, ⟨rfl, ⟨rfl, ⟨rfl, ⟨rfl, ⟨rfl, ⟨rfl, ⟨rfl, ⟨rfl, ⟨rfl, ⟨rfl, ⟨rfl, ⟨rfl, h⟩⟩⟩⟩⟩⟩⟩⟩⟩⟩⟩⟩⟩⟩⟩
variable (b : Nat → Bool) (z : Nat → Int) (x : Int)

theorem nbk_500 : NeedRun 46 (bl b) (zl z) 5 0 0 x := by
 intro hv ho hn
 have m0 := m0_of hv
 have hx := hx_of ho
 have ho' : opMayL [5, 0, 0, x] = true := ho
 simp at hn

 rcases Bool.eq_false_or_eq_true (!allMay (zl z)) with h0 | h0
 · exact ff (by (simp [hv, ho'] at *; done))
 ·
  rcases Bool.eq_false_or_eq_true (!opMayL [(5 : Int), (0 : Int), (0 : Int), x]) with h1 | h1
  · exact ff (by (simp [hv, ho'] at *; done))
  ·
   rcases Bool.eq_false_or_eq_true (!(b 0)) with h2 | h2
   ·
    refine vcIntro [false, false, true] (an (an h2 (an h1 (an h0 tt))) (an (an (an (show bkD (bl b) (5 : Int) (0 : Int) (0 : Int) = (0 : Int) by (simp at * <;> simp [*] <;> done)) (cB4c_0 b z (cB4c_2 z (an (ri (z 31)) tt)))) tt) tt)) ?_
    kernel_rfl
   ·
    rcases Bool.eq_false_or_eq_true (decide ((z 16) > (0 : Int))) with h3 | h3
    ·
     rcases Bool.eq_false_or_eq_true (!(b 1)) with h4 | h4
     ·
      refine vcIntro [false, false, false, true, true] (an (an h4 (an h3 (an h2 (an h1 (an h0 tt))))) (an (an (an (show bkD (bl b) (5 : Int) (0 : Int) (0 : Int) = (1 : Int) by (simp at * <;> simp [*] <;> done)) (cB4c_0 b z (cB4c_2 z (an (ri (z 31)) tt)))) tt) tt)) ?_
      kernel_rfl
     ·
      rcases Bool.eq_false_or_eq_true (decide ((z 17) > (0 : Int))) with h5 | h5
      ·
       rcases Bool.eq_false_or_eq_true (!(b 2)) with h6 | h6
       ·
        refine vcIntro [false, false, false, true, false, true, true] (an (an h6 (an h5 (an h4 (an h3 (an h2 (an h1 (an h0 tt))))))) (an (an (an (show bkD (bl b) (5 : Int) (0 : Int) (0 : Int) = (2 : Int) by (simp at * <;> simp [*] <;> done)) (cB4c_0 b z (cB4c_2 z (an (ri (z 31)) tt)))) tt) tt)) ?_
        kernel_rfl
       ·
        rcases Bool.eq_false_or_eq_true (decide ((z 18) > (0 : Int))) with h7 | h7
        ·
         rcases Bool.eq_false_or_eq_true (!(b 3)) with h8 | h8
         ·
          refine vcIntro [false, false, false, true, false, true, false, true, true] (an (an h8 (an h7 (an h6 (an h5 (an h4 (an h3 (an h2 (an h1 (an h0 tt))))))))) (an (an (an (show bkD (bl b) (5 : Int) (0 : Int) (0 : Int) = (3 : Int) by (simp at * <;> simp [*] <;> done)) (cB4c_0 b z (cB4c_2 z (an (ri (z 31)) tt)))) tt) tt)) ?_
          kernel_rfl
         · exact ff (by (simp_all; done))
        ·
         rcases Bool.eq_false_or_eq_true (!(b 3)) with h9 | h9
         ·
          refine vcIntro [false, false, false, true, false, true, false, false, true] (an (an h9 (an h7 (an h6 (an h5 (an h4 (an h3 (an h2 (an h1 (an h0 tt))))))))) (an (an (an (show bkD (bl b) (5 : Int) (0 : Int) (0 : Int) = (3 : Int) by (simp at * <;> simp [*] <;> done)) (cB4c_0 b z (cB4c_2 z (an (ri (z 31)) tt)))) tt) tt)) ?_
          kernel_rfl
         · exact ff (by (simp_all; done))
      ·
       rcases Bool.eq_false_or_eq_true (!(b 2)) with h10 | h10
       ·
        refine vcIntro [false, false, false, true, false, false, true] (an (an h10 (an h5 (an h4 (an h3 (an h2 (an h1 (an h0 tt))))))) (an (an (an (show bkD (bl b) (5 : Int) (0 : Int) (0 : Int) = (2 : Int) by (simp at * <;> simp [*] <;> done)) (cB4c_0 b z (cB4c_2 z (an (ri (z 31)) tt)))) tt) tt)) ?_
        kernel_rfl
       ·
        rcases Bool.eq_false_or_eq_true (decide ((z 18) > (0 : Int))) with h11 | h11
        ·
         rcases Bool.eq_false_or_eq_true (!(b 3)) with h12 | h12
         ·
          refine vcIntro [false, false, false, true, false, false, false, true, true] (an (an h12 (an h11 (an h10 (an h5 (an h4 (an h3 (an h2 (an h1 (an h0 tt))))))))) (an (an (an (show bkD (bl b) (5 : Int) (0 : Int) (0 : Int) = (3 : Int) by (simp at * <;> simp [*] <;> done)) (cB4c_0 b z (cB4c_2 z (an (ri (z 31)) tt)))) tt) tt)) ?_
          kernel_rfl
         · exact ff (by (simp_all; done))
        ·
         rcases Bool.eq_false_or_eq_true (!(b 3)) with h13 | h13
         ·
          refine vcIntro [false, false, false, true, false, false, false, false, true] (an (an h13 (an h11 (an h10 (an h5 (an h4 (an h3 (an h2 (an h1 (an h0 tt))))))))) (an (an (an (show bkD (bl b) (5 : Int) (0 : Int) (0 : Int) = (3 : Int) by (simp at * <;> simp [*] <;> done)) (cB4c_0 b z (cB4c_2 z (an (ri (z 31)) tt)))) tt) tt)) ?_
          kernel_rfl
         · exact ff (by (simp_all; done))
    ·
     rcases Bool.eq_false_or_eq_true (!(b 1)) with h14 | h14
     ·
      refine vcIntro [false, false, false, false, true] (an (an h14 (an h3 (an h2 (an h1 (an h0 tt))))) (an (an (an (show bkD (bl b) (5 : Int) (0 : Int) (0 : Int) = (1 : Int) by (simp at * <;> simp [*] <;> done)) (cB4c_0 b z (cB4c_2 z (an (ri (z 31)) tt)))) tt) tt)) ?_
      kernel_rfl
     ·
      rcases Bool.eq_false_or_eq_true (decide ((z 17) > (0 : Int))) with h15 | h15
      ·
       rcases Bool.eq_false_or_eq_true (!(b 2)) with h16 | h16
       ·
        refine vcIntro [false, false, false, false, false, true, true] (an (an h16 (an h15 (an h14 (an h3 (an h2 (an h1 (an h0 tt))))))) (an (an (an (show bkD (bl b) (5 : Int) (0 : Int) (0 : Int) = (2 : Int) by (simp at * <;> simp [*] <;> done)) (cB4c_0 b z (cB4c_2 z (an (ri (z 31)) tt)))) tt) tt)) ?_
        kernel_rfl
       ·
        rcases Bool.eq_false_or_eq_true (decide ((z 18) > (0 : Int))) with h17 | h17
        ·
         rcases Bool.eq_false_or_eq_true (!(b 3)) with h18 | h18
         ·
          refine vcIntro [false, false, false, false, false, true, false, true, true] (an (an h18 (an h17 (an h16 (an h15 (an h14 (an h3 (an h2 (an h1 (an h0 tt))))))))) (an (an (an (show bkD (bl b) (5 : Int) (0 : Int) (0 : Int) = (3 : Int) by (simp at * <;> simp [*] <;> done)) (cB4c_0 b z (cB4c_2 z (an (ri (z 31)) tt)))) tt) tt)) ?_
          kernel_rfl
         · exact ff (by (simp_all; done))
        ·
         rcases Bool.eq_false_or_eq_true (!(b 3)) with h19 | h19
         ·
          refine vcIntro [false, false, false, false, false, true, false, false, true] (an (an h19 (an h17 (an h16 (an h15 (an h14 (an h3 (an h2 (an h1 (an h0 tt))))))))) (an (an (an (show bkD (bl b) (5 : Int) (0 : Int) (0 : Int) = (3 : Int) by (simp at * <;> simp [*] <;> done)) (cB4c_0 b z (cB4c_2 z (an (ri (z 31)) tt)))) tt) tt)) ?_
          kernel_rfl
         · exact ff (by (simp_all; done))
      ·
       rcases Bool.eq_false_or_eq_true (!(b 2)) with h20 | h20
       ·
        refine vcIntro [false, false, false, false, false, false, true] (an (an h20 (an h15 (an h14 (an h3 (an h2 (an h1 (an h0 tt))))))) (an (an (an (show bkD (bl b) (5 : Int) (0 : Int) (0 : Int) = (2 : Int) by (simp at * <;> simp [*] <;> done)) (cB4c_0 b z (cB4c_2 z (an (ri (z 31)) tt)))) tt) tt)) ?_
        kernel_rfl
       ·
        rcases Bool.eq_false_or_eq_true (decide ((z 18) > (0 : Int))) with h21 | h21
        ·
         rcases Bool.eq_false_or_eq_true (!(b 3)) with h22 | h22
         ·
          refine vcIntro [false, false, false, false, false, false, false, true, true] (an (an h22 (an h21 (an h20 (an h15 (an h14 (an h3 (an h2 (an h1 (an h0 tt))))))))) (an (an (an (show bkD (bl b) (5 : Int) (0 : Int) (0 : Int) = (3 : Int) by (simp at * <;> simp [*] <;> done)) (cB4c_0 b z (cB4c_2 z (an (ri (z 31)) tt)))) tt) tt)) ?_
          kernel_rfl
         · exact ff (by (simp_all; done))
        ·
         rcases Bool.eq_false_or_eq_true (!(b 3)) with h23 | h23
         ·
          refine vcIntro [false, false, false, false, false, false, false, false, true] (an (an h23 (an h21 (an h20 (an h15 (an h14 (an h3 (an h2 (an h1 (an h0 tt))))))))) (an (an (an (show bkD (bl b) (5 : Int) (0 : Int) (0 : Int) = (3 : Int) by (simp at * <;> simp [*] <;> done)) (cB4c_0 b z (cB4c_2 z (an (ri (z 31)) tt)))) tt) tt)) ?_
          kernel_rfl
         · exact ff (by (simp_all; done))

theorem dbk_500 : DoneRun 46 (bl b) (zl z) 5 0 0 x := by
 intro hv ho hn
 have m0 := m0_of hv
 have hx := hx_of ho
 have ho' : opMayL [5, 0, 0, x] = true := ho
 simp at hn

 rcases Bool.eq_false_or_eq_true (!allMay (zl z)) with h0 | h0
 · exact ff (by (simp [hv, ho'] at *; done))
 ·
  rcases Bool.eq_false_or_eq_true (!opMayL [(5 : Int), (0 : Int), (0 : Int), x]) with h1 | h1
  · exact ff (by (simp [hv, ho'] at *; done))
  ·
   rcases Bool.eq_false_or_eq_true (!(b 0)) with h2 | h2
   · exact ff (by (simp_all; done))
   ·
    rcases Bool.eq_false_or_eq_true (decide ((z 16) > (0 : Int))) with h3 | h3
    ·
     rcases Bool.eq_false_or_eq_true (!(b 1)) with h4 | h4
     · exact ff (by (simp_all; done))
     ·
      rcases Bool.eq_false_or_eq_true (decide ((z 17) > (0 : Int))) with h5 | h5
      ·
       rcases Bool.eq_false_or_eq_true (!(b 2)) with h6 | h6
       · exact ff (by (simp_all; done))
       ·
        rcases Bool.eq_false_or_eq_true (decide ((z 18) > (0 : Int))) with h7 | h7
        ·
         rcases Bool.eq_false_or_eq_true (!(b 3)) with h8 | h8
         · exact ff (by (simp_all; done))
         ·
          rcases Bool.eq_false_or_eq_true (decide ((z 19) > (0 : Int))) with h9 | h9
          ·
           refine vcIntro [false, false, false, true, false, true, false, true, false, true] (an (an h9 (an h8 (an h7 (an h6 (an h5 (an h4 (an h3 (an h2 (an h1 (an h0 tt)))))))))) (an (an (an tt (cB4c_0 b z (an (show bkNow (z 16) (z 17) (z 18) (z 19) (5 : Int) (0 : Int) (0 : Int) x (0 : Int) = (z 16) by (simp; done)) (an (show bkNow (z 16) (z 17) (z 18) (z 19) (5 : Int) (0 : Int) (0 : Int) x (1 : Int) = (z 17) by (simp; done)) (an (show bkNow (z 16) (z 17) (z 18) (z 19) (5 : Int) (0 : Int) (0 : Int) x (2 : Int) = (z 18) by (simp; done)) (an (show bkNow (z 16) (z 17) (z 18) (z 19) (5 : Int) (0 : Int) (0 : Int) x (3 : Int) = (z 19) by (simp; done)) (cB4c_1 z (an tt tt)))))))) tt) (an (an (@Eq.refl (Nat) ((0 : Nat))) (an (show ∀ (k : Nat), k < (0 : Nat) → (0 : Int) = (0 : Int) from fun _ _ => rfl) (an (show bkCode (z 16) (z 17) (z 18) (z 19) (5 : Int) (0 : Int) (0 : Int) x = (0 : Int) by (simp; done)) (show bkNum (z 16) (z 17) (z 18) (z 19) (5 : Int) (0 : Int) (0 : Int) x = IntKind.i64.wrap (IntKind.i64.wrap (IntKind.i64.wrap (IntKind.i64.wrap ((0 : Int) + IntKind.i64.wrap ((z 16) - (1 : Int))) + IntKind.i64.wrap ((z 17) - (1 : Int))) + IntKind.i64.wrap ((z 18) - (1 : Int))) + IntKind.i64.wrap ((z 19) - (1 : Int))) by (simp (disch := omega) only [wrapk] at *; simp at * <;> simp [*] <;> done))))) tt))) ?_
           kernel_rfl
          ·
           refine vcIntro [false, false, false, true, false, true, false, true, false, false] (an (an h9 (an h8 (an h7 (an h6 (an h5 (an h4 (an h3 (an h2 (an h1 (an h0 tt)))))))))) (an (an (an tt (cB4c_0 b z (an (show bkNow (z 16) (z 17) (z 18) (z 19) (5 : Int) (0 : Int) (0 : Int) x (0 : Int) = (z 16) by (simp; done)) (an (show bkNow (z 16) (z 17) (z 18) (z 19) (5 : Int) (0 : Int) (0 : Int) x (1 : Int) = (z 17) by (simp; done)) (an (show bkNow (z 16) (z 17) (z 18) (z 19) (5 : Int) (0 : Int) (0 : Int) x (2 : Int) = (z 18) by (simp; done)) (an (show bkNow (z 16) (z 17) (z 18) (z 19) (5 : Int) (0 : Int) (0 : Int) x (3 : Int) = (z 19) by (simp; done)) (cB4c_1 z (an tt tt)))))))) tt) (an (an (@Eq.refl (Nat) ((0 : Nat))) (an (show ∀ (k : Nat), k < (0 : Nat) → (0 : Int) = (0 : Int) from fun _ _ => rfl) (an (show bkCode (z 16) (z 17) (z 18) (z 19) (5 : Int) (0 : Int) (0 : Int) x = (0 : Int) by (simp; done)) (show bkNum (z 16) (z 17) (z 18) (z 19) (5 : Int) (0 : Int) (0 : Int) x = IntKind.i64.wrap (IntKind.i64.wrap (IntKind.i64.wrap ((0 : Int) + IntKind.i64.wrap ((z 16) - (1 : Int))) + IntKind.i64.wrap ((z 17) - (1 : Int))) + IntKind.i64.wrap ((z 18) - (1 : Int))) by (simp (disch := omega) only [wrapk] at *; simp at * <;> (repeat' split) <;> omega))))) tt))) ?_
           kernel_rfl
        ·
         rcases Bool.eq_false_or_eq_true (!(b 3)) with h10 | h10
         · exact ff (by (simp_all; done))
         ·
          rcases Bool.eq_false_or_eq_true (decide ((z 19) > (0 : Int))) with h11 | h11
          ·
           refine vcIntro [false, false, false, true, false, true, false, false, false, true] (an (an h11 (an h10 (an h7 (an h6 (an h5 (an h4 (an h3 (an h2 (an h1 (an h0 tt)))))))))) (an (an (an tt (cB4c_0 b z (an (show bkNow (z 16) (z 17) (z 18) (z 19) (5 : Int) (0 : Int) (0 : Int) x (0 : Int) = (z 16) by (simp; done)) (an (show bkNow (z 16) (z 17) (z 18) (z 19) (5 : Int) (0 : Int) (0 : Int) x (1 : Int) = (z 17) by (simp; done)) (an (show bkNow (z 16) (z 17) (z 18) (z 19) (5 : Int) (0 : Int) (0 : Int) x (2 : Int) = (z 18) by (simp; done)) (an (show bkNow (z 16) (z 17) (z 18) (z 19) (5 : Int) (0 : Int) (0 : Int) x (3 : Int) = (z 19) by (simp; done)) (cB4c_1 z (an tt tt)))))))) tt) (an (an (@Eq.refl (Nat) ((0 : Nat))) (an (show ∀ (k : Nat), k < (0 : Nat) → (0 : Int) = (0 : Int) from fun _ _ => rfl) (an (show bkCode (z 16) (z 17) (z 18) (z 19) (5 : Int) (0 : Int) (0 : Int) x = (0 : Int) by (simp; done)) (show bkNum (z 16) (z 17) (z 18) (z 19) (5 : Int) (0 : Int) (0 : Int) x = IntKind.i64.wrap (IntKind.i64.wrap (IntKind.i64.wrap ((0 : Int) + IntKind.i64.wrap ((z 16) - (1 : Int))) + IntKind.i64.wrap ((z 17) - (1 : Int))) + IntKind.i64.wrap ((z 19) - (1 : Int))) by (simp (disch := omega) only [wrapk] at *; simp at * <;> (repeat' split) <;> omega))))) tt))) ?_
           kernel_rfl
          ·
           refine vcIntro [false, false, false, true, false, true, false, false, false, false] (an (an h11 (an h10 (an h7 (an h6 (an h5 (an h4 (an h3 (an h2 (an h1 (an h0 tt)))))))))) (an (an (an tt (cB4c_0 b z (an (show bkNow (z 16) (z 17) (z 18) (z 19) (5 : Int) (0 : Int) (0 : Int) x (0 : Int) = (z 16) by (simp; done)) (an (show bkNow (z 16) (z 17) (z 18) (z 19) (5 : Int) (0 : Int) (0 : Int) x (1 : Int) = (z 17) by (simp; done)) (an (show bkNow (z 16) (z 17) (z 18) (z 19) (5 : Int) (0 : Int) (0 : Int) x (2 : Int) = (z 18) by (simp; done)) (an (show bkNow (z 16) (z 17) (z 18) (z 19) (5 : Int) (0 : Int) (0 : Int) x (3 : Int) = (z 19) by (simp; done)) (cB4c_1 z (an tt tt)))))))) tt) (an (an (@Eq.refl (Nat) ((0 : Nat))) (an (show ∀ (k : Nat), k < (0 : Nat) → (0 : Int) = (0 : Int) from fun _ _ => rfl) (an (show bkCode (z 16) (z 17) (z 18) (z 19) (5 : Int) (0 : Int) (0 : Int) x = (0 : Int) by (simp; done)) (show bkNum (z 16) (z 17) (z 18) (z 19) (5 : Int) (0 : Int) (0 : Int) x = IntKind.i64.wrap (IntKind.i64.wrap ((0 : Int) + IntKind.i64.wrap ((z 16) - (1 : Int))) + IntKind.i64.wrap ((z 17) - (1 : Int))) by (simp (disch := omega) only [wrapk] at *; simp at * <;> (repeat' split) <;> omega))))) tt))) ?_
           kernel_rfl
      ·
       rcases Bool.eq_false_or_eq_true (!(b 2)) with h12 | h12
       · exact ff (by (simp_all; done))
       ·
        rcases Bool.eq_false_or_eq_true (decide ((z 18) > (0 : Int))) with h13 | h13
        ·
         rcases Bool.eq_false_or_eq_true (!(b 3)) with h14 | h14
         · exact ff (by (simp_all; done))
         ·
          rcases Bool.eq_false_or_eq_true (decide ((z 19) > (0 : Int))) with h15 | h15
          ·
           refine vcIntro [false, false, false, true, false, false, false, true, false, true] (an (an h15 (an h14 (an h13 (an h12 (an h5 (an h4 (an h3 (an h2 (an h1 (an h0 tt)))))))))) (an (an (an tt (cB4c_0 b z (an (show bkNow (z 16) (z 17) (z 18) (z 19) (5 : Int) (0 : Int) (0 : Int) x (0 : Int) = (z 16) by (simp; done)) (an (show bkNow (z 16) (z 17) (z 18) (z 19) (5 : Int) (0 : Int) (0 : Int) x (1 : Int) = (z 17) by (simp; done)) (an (show bkNow (z 16) (z 17) (z 18) (z 19) (5 : Int) (0 : Int) (0 : Int) x (2 : Int) = (z 18) by (simp; done)) (an (show bkNow (z 16) (z 17) (z 18) (z 19) (5 : Int) (0 : Int) (0 : Int) x (3 : Int) = (z 19) by (simp; done)) (cB4c_1 z (an tt tt)))))))) tt) (an (an (@Eq.refl (Nat) ((0 : Nat))) (an (show ∀ (k : Nat), k < (0 : Nat) → (0 : Int) = (0 : Int) from fun _ _ => rfl) (an (show bkCode (z 16) (z 17) (z 18) (z 19) (5 : Int) (0 : Int) (0 : Int) x = (0 : Int) by (simp; done)) (show bkNum (z 16) (z 17) (z 18) (z 19) (5 : Int) (0 : Int) (0 : Int) x = IntKind.i64.wrap (IntKind.i64.wrap (IntKind.i64.wrap ((0 : Int) + IntKind.i64.wrap ((z 16) - (1 : Int))) + IntKind.i64.wrap ((z 18) - (1 : Int))) + IntKind.i64.wrap ((z 19) - (1 : Int))) by (simp (disch := omega) only [wrapk] at *; simp at * <;> (repeat' split) <;> omega))))) tt))) ?_
           kernel_rfl
          ·
           refine vcIntro [false, false, false, true, false, false, false, true, false, false] (an (an h15 (an h14 (an h13 (an h12 (an h5 (an h4 (an h3 (an h2 (an h1 (an h0 tt)))))))))) (an (an (an tt (cB4c_0 b z (an (show bkNow (z 16) (z 17) (z 18) (z 19) (5 : Int) (0 : Int) (0 : Int) x (0 : Int) = (z 16) by (simp; done)) (an (show bkNow (z 16) (z 17) (z 18) (z 19) (5 : Int) (0 : Int) (0 : Int) x (1 : Int) = (z 17) by (simp; done)) (an (show bkNow (z 16) (z 17) (z 18) (z 19) (5 : Int) (0 : Int) (0 : Int) x (2 : Int) = (z 18) by (simp; done)) (an (show bkNow (z 16) (z 17) (z 18) (z 19) (5 : Int) (0 : Int) (0 : Int) x (3 : Int) = (z 19) by (simp; done)) (cB4c_1 z (an tt tt)))))))) tt) (an (an (@Eq.refl (Nat) ((0 : Nat))) (an (show ∀ (k : Nat), k < (0 : Nat) → (0 : Int) = (0 : Int) from fun _ _ => rfl) (an (show bkCode (z 16) (z 17) (z 18) (z 19) (5 : Int) (0 : Int) (0 : Int) x = (0 : Int) by (simp; done)) (show bkNum (z 16) (z 17) (z 18) (z 19) (5 : Int) (0 : Int) (0 : Int) x = IntKind.i64.wrap (IntKind.i64.wrap ((0 : Int) + IntKind.i64.wrap ((z 16) - (1 : Int))) + IntKind.i64.wrap ((z 18) - (1 : Int))) by (simp (disch := omega) only [wrapk] at *; simp at * <;> (repeat' split) <;> omega))))) tt))) ?_
           kernel_rfl
        ·
         rcases Bool.eq_false_or_eq_true (!(b 3)) with h16 | h16
         · exact ff (by (simp_all; done))
         ·
          rcases Bool.eq_false_or_eq_true (decide ((z 19) > (0 : Int))) with h17 | h17
          ·
           refine vcIntro [false, false, false, true, false, false, false, false, false, true] (an (an h17 (an h16 (an h13 (an h12 (an h5 (an h4 (an h3 (an h2 (an h1 (an h0 tt)))))))))) (an (an (an tt (cB4c_0 b z (an (show bkNow (z 16) (z 17) (z 18) (z 19) (5 : Int) (0 : Int) (0 : Int) x (0 : Int) = (z 16) by (simp; done)) (an (show bkNow (z 16) (z 17) (z 18) (z 19) (5 : Int) (0 : Int) (0 : Int) x (1 : Int) = (z 17) by (simp; done)) (an (show bkNow (z 16) (z 17) (z 18) (z 19) (5 : Int) (0 : Int) (0 : Int) x (2 : Int) = (z 18) by (simp; done)) (an (show bkNow (z 16) (z 17) (z 18) (z 19) (5 : Int) (0 : Int) (0 : Int) x (3 : Int) = (z 19) by (simp; done)) (cB4c_1 z (an tt tt)))))))) tt) (an (an (@Eq.refl (Nat) ((0 : Nat))) (an (show ∀ (k : Nat), k < (0 : Nat) → (0 : Int) = (0 : Int) from fun _ _ => rfl) (an (show bkCode (z 16) (z 17) (z 18) (z 19) (5 : Int) (0 : Int) (0 : Int) x = (0 : Int) by (simp; done)) (show bkNum (z 16) (z 17) (z 18) (z 19) (5 : Int) (0 : Int) (0 : Int) x = IntKind.i64.wrap (IntKind.i64.wrap ((0 : Int) + IntKind.i64.wrap ((z 16) - (1 : Int))) + IntKind.i64.wrap ((z 19) - (1 : Int))) by (simp (disch := omega) only [wrapk] at *; simp at * <;> (repeat' split) <;> omega))))) tt))) ?_
           kernel_rfl
          ·
           refine vcIntro [false, false, false, true, false, false, false, false, false, false] (an (an h17 (an h16 (an h13 (an h12 (an h5 (an h4 (an h3 (an h2 (an h1 (an h0 tt)))))))))) (an (an (an tt (cB4c_0 b z (an (show bkNow (z 16) (z 17) (z 18) (z 19) (5 : Int) (0 : Int) (0 : Int) x (0 : Int) = (z 16) by (simp; done)) (an (show bkNow (z 16) (z 17) (z 18) (z 19) (5 : Int) (0 : Int) (0 : Int) x (1 : Int) = (z 17) by (simp; done)) (an (show bkNow (z 16) (z 17) (z 18) (z 19) (5 : Int) (0 : Int) (0 : Int) x (2 : Int) = (z 18) by (simp; done)) (an (show bkNow (z 16) (z 17) (z 18) (z 19) (5 : Int) (0 : Int) (0 : Int) x (3 : Int) = (z 19) by (simp; done)) (cB4c_1 z (an tt tt)))))))) tt) (an (an (@Eq.refl (Nat) ((0 : Nat))) (an (show ∀ (k : Nat), k < (0 : Nat) → (0 : Int) = (0 : Int) from fun _ _ => rfl) (an (show bkCode (z 16) (z 17) (z 18) (z 19) (5 : Int) (0 : Int) (0 : Int) x = (0 : Int) by (simp; done)) (show bkNum (z 16) (z 17) (z 18) (z 19) (5 : Int) (0 : Int) (0 : Int) x = IntKind.i64.wrap ((0 : Int) + IntKind.i64.wrap ((z 16) - (1 : Int))) by (simp (disch := omega) only [wrapk] at *; simp at * <;> (repeat' split) <;> omega))))) tt))) ?_
           kernel_rfl
    ·
     rcases Bool.eq_false_or_eq_true (!(b 1)) with h18 | h18
     · exact ff (by (simp_all; done))
     ·
      rcases Bool.eq_false_or_eq_true (decide ((z 17) > (0 : Int))) with h19 | h19
      ·
       rcases Bool.eq_false_or_eq_true (!(b 2)) with h20 | h20
       · exact ff (by (simp_all; done))
       ·
        rcases Bool.eq_false_or_eq_true (decide ((z 18) > (0 : Int))) with h21 | h21
        ·
         rcases Bool.eq_false_or_eq_true (!(b 3)) with h22 | h22
         · exact ff (by (simp_all; done))
         ·
          rcases Bool.eq_false_or_eq_true (decide ((z 19) > (0 : Int))) with h23 | h23
          ·
           refine vcIntro [false, false, false, false, false, true, false, true, false, true] (an (an h23 (an h22 (an h21 (an h20 (an h19 (an h18 (an h3 (an h2 (an h1 (an h0 tt)))))))))) (an (an (an tt (cB4c_0 b z (an (show bkNow (z 16) (z 17) (z 18) (z 19) (5 : Int) (0 : Int) (0 : Int) x (0 : Int) = (z 16) by (simp; done)) (an (show bkNow (z 16) (z 17) (z 18) (z 19) (5 : Int) (0 : Int) (0 : Int) x (1 : Int) = (z 17) by (simp; done)) (an (show bkNow (z 16) (z 17) (z 18) (z 19) (5 : Int) (0 : Int) (0 : Int) x (2 : Int) = (z 18) by (simp; done)) (an (show bkNow (z 16) (z 17) (z 18) (z 19) (5 : Int) (0 : Int) (0 : Int) x (3 : Int) = (z 19) by (simp; done)) (cB4c_1 z (an tt tt)))))))) tt) (an (an (@Eq.refl (Nat) ((0 : Nat))) (an (show ∀ (k : Nat), k < (0 : Nat) → (0 : Int) = (0 : Int) from fun _ _ => rfl) (an (show bkCode (z 16) (z 17) (z 18) (z 19) (5 : Int) (0 : Int) (0 : Int) x = (0 : Int) by (simp; done)) (show bkNum (z 16) (z 17) (z 18) (z 19) (5 : Int) (0 : Int) (0 : Int) x = IntKind.i64.wrap (IntKind.i64.wrap (IntKind.i64.wrap ((0 : Int) + IntKind.i64.wrap ((z 17) - (1 : Int))) + IntKind.i64.wrap ((z 18) - (1 : Int))) + IntKind.i64.wrap ((z 19) - (1 : Int))) by (simp (disch := omega) only [wrapk] at *; simp at * <;> (repeat' split) <;> omega))))) tt))) ?_
           kernel_rfl
          ·
           refine vcIntro [false, false, false, false, false, true, false, true, false, false] (an (an h23 (an h22 (an h21 (an h20 (an h19 (an h18 (an h3 (an h2 (an h1 (an h0 tt)))))))))) (an (an (an tt (cB4c_0 b z (an (show bkNow (z 16) (z 17) (z 18) (z 19) (5 : Int) (0 : Int) (0 : Int) x (0 : Int) = (z 16) by (simp; done)) (an (show bkNow (z 16) (z 17) (z 18) (z 19) (5 : Int) (0 : Int) (0 : Int) x (1 : Int) = (z 17) by (simp; done)) (an (show bkNow (z 16) (z 17) (z 18) (z 19) (5 : Int) (0 : Int) (0 : Int) x (2 : Int) = (z 18) by (simp; done)) (an (show bkNow (z 16) (z 17) (z 18) (z 19) (5 : Int) (0 : Int) (0 : Int) x (3 : Int) = (z 19) by (simp; done)) (cB4c_1 z (an tt tt)))))))) tt) (an (an (@Eq.refl (Nat) ((0 : Nat))) (an (show ∀ (k : Nat), k < (0 : Nat) → (0 : Int) = (0 : Int) from fun _ _ => rfl) (an (show bkCode (z 16) (z 17) (z 18) (z 19) (5 : Int) (0 : Int) (0 : Int) x = (0 : Int) by (simp; done)) (show bkNum (z 16) (z 17) (z 18) (z 19) (5 : Int) (0 : Int) (0 : Int) x = IntKind.i64.wrap (IntKind.i64.wrap ((0 : Int) + IntKind.i64.wrap ((z 17) - (1 : Int))) + IntKind.i64.wrap ((z 18) - (1 : Int))) by (simp (disch := omega) only [wrapk] at *; simp at * <;> (repeat' split) <;> omega))))) tt))) ?_
           kernel_rfl
        ·
         rcases Bool.eq_false_or_eq_true (!(b 3)) with h24 | h24
         · exact ff (by (simp_all; done))
         ·
          rcases Bool.eq_false_or_eq_true (decide ((z 19) > (0 : Int))) with h25 | h25
          ·
           refine vcIntro [false, false, false, false, false, true, false, false, false, true] (an (an h25 (an h24 (an h21 (an h20 (an h19 (an h18 (an h3 (an h2 (an h1 (an h0 tt)))))))))) (an (an (an tt (cB4c_0 b z (an (show bkNow (z 16) (z 17) (z 18) (z 19) (5 : Int) (0 : Int) (0 : Int) x (0 : Int) = (z 16) by (simp; done)) (an (show bkNow (z 16) (z 17) (z 18) (z 19) (5 : Int) (0 : Int) (0 : Int) x (1 : Int) = (z 17) by (simp; done)) (an (show bkNow (z 16) (z 17) (z 18) (z 19) (5 : Int) (0 : Int) (0 : Int) x (2 : Int) = (z 18) by (simp; done)) (an (show bkNow (z 16) (z 17) (z 18) (z 19) (5 : Int) (0 : Int) (0 : Int) x (3 : Int) = (z 19) by (simp; done)) (cB4c_1 z (an tt tt)))))))) tt) (an (an (@Eq.refl (Nat) ((0 : Nat))) (an (show ∀ (k : Nat), k < (0 : Nat) → (0 : Int) = (0 : Int) from fun _ _ => rfl) (an (show bkCode (z 16) (z 17) (z 18) (z 19) (5 : Int) (0 : Int) (0 : Int) x = (0 : Int) by (simp; done)) (show bkNum (z 16) (z 17) (z 18) (z 19) (5 : Int) (0 : Int) (0 : Int) x = IntKind.i64.wrap (IntKind.i64.wrap ((0 : Int) + IntKind.i64.wrap ((z 17) - (1 : Int))) + IntKind.i64.wrap ((z 19) - (1 : Int))) by (simp (disch := omega) only [wrapk] at *; simp at * <;> (repeat' split) <;> omega))))) tt))) ?_
           kernel_rfl
          ·
           refine vcIntro [false, false, false, false, false, true, false, false, false, false] (an (an h25 (an h24 (an h21 (an h20 (an h19 (an h18 (an h3 (an h2 (an h1 (an h0 tt)))))))))) (an (an (an tt (cB4c_0 b z (an (show bkNow (z 16) (z 17) (z 18) (z 19) (5 : Int) (0 : Int) (0 : Int) x (0 : Int) = (z 16) by (simp; done)) (an (show bkNow (z 16) (z 17) (z 18) (z 19) (5 : Int) (0 : Int) (0 : Int) x (1 : Int) = (z 17) by (simp; done)) (an (show bkNow (z 16) (z 17) (z 18) (z 19) (5 : Int) (0 : Int) (0 : Int) x (2 : Int) = (z 18) by (simp; done)) (an (show bkNow (z 16) (z 17) (z 18) (z 19) (5 : Int) (0 : Int) (0 : Int) x (3 : Int) = (z 19) by (simp; done)) (cB4c_1 z (an tt tt)))))))) tt) (an (an (@Eq.refl (Nat) ((0 : Nat))) (an (show ∀ (k : Nat), k < (0 : Nat) → (0 : Int) = (0 : Int) from fun _ _ => rfl) (an (show bkCode (z 16) (z 17) (z 18) (z 19) (5 : Int) (0 : Int) (0 : Int) x = (0 : Int) by (simp; done)) (show bkNum (z 16) (z 17) (z 18) (z 19) (5 : Int) (0 : Int) (0 : Int) x = IntKind.i64.wrap ((0 : Int) + IntKind.i64.wrap ((z 17) - (1 : Int))) by (simp (disch := omega) only [wrapk] at *; simp at * <;> (repeat' split) <;> omega))))) tt))) ?_
           kernel_rfl
      ·
       rcases Bool.eq_false_or_eq_true (!(b 2)) with h26 | h26
       · exact ff (by (simp_all; done))
       ·
        rcases Bool.eq_false_or_eq_true (decide ((z 18) > (0 : Int))) with h27 | h27
        ·
         rcases Bool.eq_false_or_eq_true (!(b 3)) with h28 | h28
         · exact ff (by (simp_all; done))
         ·
          rcases Bool.eq_false_or_eq_true (decide ((z 19) > (0 : Int))) with h29 | h29
          ·
           refine vcIntro [false, false, false, false, false, false, false, true, false, true] (an (an h29 (an h28 (an h27 (an h26 (an h19 (an h18 (an h3 (an h2 (an h1 (an h0 tt)))))))))) (an (an (an tt (cB4c_0 b z (an (show bkNow (z 16) (z 17) (z 18) (z 19) (5 : Int) (0 : Int) (0 : Int) x (0 : Int) = (z 16) by (simp; done)) (an (show bkNow (z 16) (z 17) (z 18) (z 19) (5 : Int) (0 : Int) (0 : Int) x (1 : Int) = (z 17) by (simp; done)) (an (show bkNow (z 16) (z 17) (z 18) (z 19) (5 : Int) (0 : Int) (0 : Int) x (2 : Int) = (z 18) by (simp; done)) (an (show bkNow (z 16) (z 17) (z 18) (z 19) (5 : Int) (0 : Int) (0 : Int) x (3 : Int) = (z 19) by (simp; done)) (cB4c_1 z (an tt tt)))))))) tt) (an (an (@Eq.refl (Nat) ((0 : Nat))) (an (show ∀ (k : Nat), k < (0 : Nat) → (0 : Int) = (0 : Int) from fun _ _ => rfl) (an (show bkCode (z 16) (z 17) (z 18) (z 19) (5 : Int) (0 : Int) (0 : Int) x = (0 : Int) by (simp; done)) (show bkNum (z 16) (z 17) (z 18) (z 19) (5 : Int) (0 : Int) (0 : Int) x = IntKind.i64.wrap (IntKind.i64.wrap ((0 : Int) + IntKind.i64.wrap ((z 18) - (1 : Int))) + IntKind.i64.wrap ((z 19) - (1 : Int))) by (simp (disch := omega) only [wrapk] at *; simp at * <;> (repeat' split) <;> omega))))) tt))) ?_
           kernel_rfl
          ·
           refine vcIntro [false, false, false, false, false, false, false, true, false, false] (an (an h29 (an h28 (an h27 (an h26 (an h19 (an h18 (an h3 (an h2 (an h1 (an h0 tt)))))))))) (an (an (an tt (cB4c_0 b z (an (show bkNow (z 16) (z 17) (z 18) (z 19) (5 : Int) (0 : Int) (0 : Int) x (0 : Int) = (z 16) by (simp; done)) (an (show bkNow (z 16) (z 17) (z 18) (z 19) (5 : Int) (0 : Int) (0 : Int) x (1 : Int) = (z 17) by (simp; done)) (an (show bkNow (z 16) (z 17) (z 18) (z 19) (5 : Int) (0 : Int) (0 : Int) x (2 : Int) = (z 18) by (simp; done)) (an (show bkNow (z 16) (z 17) (z 18) (z 19) (5 : Int) (0 : Int) (0 : Int) x (3 : Int) = (z 19) by (simp; done)) (cB4c_1 z (an tt tt)))))))) tt) (an (an (@Eq.refl (Nat) ((0 : Nat))) (an (show ∀ (k : Nat), k < (0 : Nat) → (0 : Int) = (0 : Int) from fun _ _ => rfl) (an (show bkCode (z 16) (z 17) (z 18) (z 19) (5 : Int) (0 : Int) (0 : Int) x = (0 : Int) by (simp; done)) (show bkNum (z 16) (z 17) (z 18) (z 19) (5 : Int) (0 : Int) (0 : Int) x = IntKind.i64.wrap ((0 : Int) + IntKind.i64.wrap ((z 18) - (1 : Int))) by (simp (disch := omega) only [wrapk] at *; simp at * <;> (repeat' split) <;> omega))))) tt))) ?_
           kernel_rfl
        ·
         rcases Bool.eq_false_or_eq_true (!(b 3)) with h30 | h30
         · exact ff (by (simp_all; done))
         ·
          rcases Bool.eq_false_or_eq_true (decide ((z 19) > (0 : Int))) with h31 | h31
          ·
           refine vcIntro [false, false, false, false, false, false, false, false, false, true] (an (an h31 (an h30 (an h27 (an h26 (an h19 (an h18 (an h3 (an h2 (an h1 (an h0 tt)))))))))) (an (an (an tt (cB4c_0 b z (an (show bkNow (z 16) (z 17) (z 18) (z 19) (5 : Int) (0 : Int) (0 : Int) x (0 : Int) = (z 16) by (simp; done)) (an (show bkNow (z 16) (z 17) (z 18) (z 19) (5 : Int) (0 : Int) (0 : Int) x (1 : Int) = (z 17) by (simp; done)) (an (show bkNow (z 16) (z 17) (z 18) (z 19) (5 : Int) (0 : Int) (0 : Int) x (2 : Int) = (z 18) by (simp; done)) (an (show bkNow (z 16) (z 17) (z 18) (z 19) (5 : Int) (0 : Int) (0 : Int) x (3 : Int) = (z 19) by (simp; done)) (cB4c_1 z (an tt tt)))))))) tt) (an (an (@Eq.refl (Nat) ((0 : Nat))) (an (show ∀ (k : Nat), k < (0 : Nat) → (0 : Int) = (0 : Int) from fun _ _ => rfl) (an (show bkCode (z 16) (z 17) (z 18) (z 19) (5 : Int) (0 : Int) (0 : Int) x = (0 : Int) by (simp; done)) (show bkNum (z 16) (z 17) (z 18) (z 19) (5 : Int) (0 : Int) (0 : Int) x = IntKind.i64.wrap ((0 : Int) + IntKind.i64.wrap ((z 19) - (1 : Int))) by (simp (disch := omega) only [wrapk] at *; simp at * <;> (repeat' split) <;> omega))))) tt))) ?_
           kernel_rfl
          ·
           refine vcIntro [false, false, false, false, false, false, false, false, false, false] (an (an h31 (an h30 (an h27 (an h26 (an h19 (an h18 (an h3 (an h2 (an h1 (an h0 tt)))))))))) (an (an (an tt (cB4c_0 b z (an (show bkNow (z 16) (z 17) (z 18) (z 19) (5 : Int) (0 : Int) (0 : Int) x (0 : Int) = (z 16) by (simp; done)) (an (show bkNow (z 16) (z 17) (z 18) (z 19) (5 : Int) (0 : Int) (0 : Int) x (1 : Int) = (z 17) by (simp; done)) (an (show bkNow (z 16) (z 17) (z 18) (z 19) (5 : Int) (0 : Int) (0 : Int) x (2 : Int) = (z 18) by (simp; done)) (an (show bkNow (z 16) (z 17) (z 18) (z 19) (5 : Int) (0 : Int) (0 : Int) x (3 : Int) = (z 19) by (simp; done)) (cB4c_1 z (an tt tt)))))))) tt) (an (an (@Eq.refl (Nat) ((0 : Nat))) (an (show ∀ (k : Nat), k < (0 : Nat) → (0 : Int) = (0 : Int) from fun _ _ => rfl) (an (show bkCode (z 16) (z 17) (z 18) (z 19) (5 : Int) (0 : Int) (0 : Int) x = (0 : Int) by (simp; done)) (show bkNum (z 16) (z 17) (z 18) (z 19) (5 : Int) (0 : Int) (0 : Int) x = (0 : Int) by (simp at * <;> (repeat' split) <;> omega))))) tt))) ?_
           kernel_rfl
end
end Go.Ideal.B1
