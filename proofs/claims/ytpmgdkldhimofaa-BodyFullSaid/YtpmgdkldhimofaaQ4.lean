/- Chapter 7: runs of bank.Do, over KB. Put together of B4a, B4b, B4c by gen/q7.py. Own text. -/
import Derived.Test.YtpmgdkldhimofaaKB
namespace Go.Ideal.B1
section
open Go.Proofs Go.Ideal Go.Ideal.L1
set_option linter.unusedSimpArgs false
set_option linter.unusedVariables false
set_option maxRecDepth 100000
set_option maxHeartbeats 8000000
/-- Runs over what may be. -/
def argL (bs : List Bool) (zs : List Int) (k a b x : E) : List V := [.agg (viewOf bs zs), .agg [.int .i64 k, .int .i64 a, .int .i64 b, .int .i64 x]]
def NeedRun (f : FuncId) (bs : List Bool) (zs : List Int) (k a b x:Int) : Prop := allMay zs = true → opMay k a b x = true → 0 ≤ bkD bs k a b →
  ∃ hh, vcOf (runCall Try.prog maysP noL 6000 f (argL bs zs (.c k) (.c a) (.c b) (.s x)) H0 hh) (fun v H1 => retP 0 (lastBlk v) v H1 (needAsk (bkD bs k a b) bs zs) [] 0)
def DoneRun (f : FuncId) (bs : List Bool) (zs : List Int) (k a b x:Int) : Prop := allMay zs = true → opMay k a b x = true → ¬ 0 ≤ bkD bs k a b →
  ∃ hh, vcOf (runCall Try.prog maysP noL 6000 f (argL bs zs (.c k) (.c a) (.c b) (.s x)) H0 hh) (fun v H1 => retP 0 (lastBlk v) v H1 (doneAsk bs (bkZs zs k a b x)) (bkA zs k a b x) 1)
def BadRun (f : FuncId) (bs : List Bool) (zs : List Int) (k a b x:Int) : Prop := bkMay zs k a b x = false →
  ∃ hh, vcOf (runCall Try.prog maysP noL 6000 f (argL bs zs (.s k) (.s a) (.s b) (.s x)) H0 hh) (fun v H1 => retP 0 (lastBlk v) v H1 (badAsk 500) [] 0)
abbrev bl (b : Nat → Bool) : List Bool := [b 0, b 1, b 2, b 3, b 4, b 5, b 6, b 7, b 8, b 9, b 10, b 11, b 12, b 13, b 14, b 15]
abbrev zl (z : Nat → Int) : List Int := [z 0, z 1, z 2, z 3, z 4, z 5, z 6, z 7, z 8, z 9, z 10, z 11, z 12, z 13, z 14, z 15, z 16, z 17, z 18, z 19, z 20, z 21, z 22, z 23, z 24, z 25, z 26, z 27, z 28, z 29, z 30, z 31]
theorem m0_of {z0 z1 z2 z3 z4 z5 z6 z7 z8 z9 z10 z11 z12 z13 z14 z15 z16 z17 z18 z19 z20 z21 z22 z23 z24 z25 z26 z27 z28 z29 z30 z31 : Int} (hv : allMay [z0, z1, z2, z3, z4, z5, z6, z7, z8, z9, z10, z11, z12, z13, z14, z15, z16, z17, z18, z19, z20, z21, z22, z23, z24, z25, z26, z27, z28, z29, z30, z31] = true) : 0 ≤ z16 ∧ z16 < 1099511627776 ∧ 0 ≤ z17 ∧ z17 < 1099511627776 ∧ 0 ≤ z18 ∧ z18 < 1099511627776 ∧ 0 ≤ z19 ∧ z19 < 1099511627776 := by simp [allMay, valMay] at hv; omega
theorem hx_of {k a b x : Int} (ho : opMay k a b x = true) : 0 ≤ x ∧ x < 1048576 := by simp only [opMay, Bool.and_eq_true, decide_eq_true_eq] at ho; (repeat' split at ho) <;> omega

end
end Go.Ideal.B1
namespace Go.Ideal.B1
section
open Go.Proofs Go.Ideal Go.Ideal.L1
set_option linter.unusedSimpArgs false
set_option linter.unusedVariables false
set_option maxRecDepth 100000
set_option maxHeartbeats 8000000
attribute [local simp] bl zl sel bkNeed bkCode pos bkNum bkNow bkZs bkA bkD
theorem nS {m0 m1 m2 m3 k a b x c : Int} (i:Int) (h : bkCode m0 m1 m2 m3 k a b x = c) (hc : c ≠ 0) : bkNow m0 m1 m2 m3 k a b x i = sel m0 m1 m2 m3 i := by simp only [bkNow, h, if_neg hc]
theorem nS0 {m0 m1 m2 m3 k a b x c : Int} (h : bkCode m0 m1 m2 m3 k a b x = c) (hc : c ≠ 0 := by decide) : bkNow m0 m1 m2 m3 k a b x 0 = m0 := nS 0 h hc
theorem nS1 {m0 m1 m2 m3 k a b x c : Int} (h : bkCode m0 m1 m2 m3 k a b x = c) (hc : c ≠ 0 := by decide) : bkNow m0 m1 m2 m3 k a b x 1 = m1 := nS 1 h hc
theorem nS2 {m0 m1 m2 m3 k a b x c : Int} (h : bkCode m0 m1 m2 m3 k a b x = c) (hc : c ≠ 0 := by decide) : bkNow m0 m1 m2 m3 k a b x 2 = m2 := nS 2 h hc
theorem nS3 {m0 m1 m2 m3 k a b x c : Int} (h : bkCode m0 m1 m2 m3 k a b x = c) (hc : c ≠ 0 := by decide) : bkNow m0 m1 m2 m3 k a b x 3 = m3 := nS 3 h hc
theorem nSn {m0 m1 m2 m3 k a b x c : Int} (h : bkCode m0 m1 m2 m3 k a b x = c) (hc : c ≠ 0 := by decide) : bkNum m0 m1 m2 m3 k a b x = (0:Int) := by simp only [bkNum, h, if_neg hc]
theorem cB4a_0 (b : Nat → Bool) (z : Nat → Int) {R : Prop} (h : R) : ((b 0):Bool) = (b 0) ∧ (((b 1):Bool) = (b 1) ∧ (((b 2):Bool) = (b 2) ∧ (((b 3):Bool) = (b 3) ∧ (((b 4):Bool) = (b 4) ∧ (((b 5):Bool) = (b 5) ∧ (((b 6):Bool) = (b 6) ∧ (((b 7):Bool) = (b 7) ∧ (((b 8):Bool) = (b 8) ∧ (((b 9):Bool) = (b 9) ∧ (((b 10):Bool) = (b 10) ∧ (((b 11):Bool) = (b 11) ∧ (((b 12):Bool) = (b 12) ∧ (((b 13):Bool) = (b 13) ∧ (((b 14):Bool) = (b 14) ∧ (((b 15):Bool) = (b 15) ∧ (((z 0):Int) = (z 0) ∧ (((z 1):Int) = (z 1) ∧ (((z 2):Int) = (z 2) ∧ (((z 3):Int) = (z 3) ∧ (((z 4):Int) = (z 4) ∧ (((z 5):Int) = (z 5) ∧ (((z 6):Int) = (z 6) ∧ (((z 7):Int) = (z 7) ∧ (((z 8):Int) = (z 8) ∧ (((z 9):Int) = (z 9) ∧ (((z 10):Int) = (z 10) ∧ (((z 11):Int) = (z 11) ∧ (((z 12):Int) = (z 12) ∧ (((z 13):Int) = (z 13) ∧ (((z 14):Int) = (z 14) ∧ (((z 15):Int) = (z 15) ∧ (R)))))))))))))))))))))))))))))))) := ⟨rfl, ⟨rfl, ⟨rfl, ⟨rfl, ⟨rfl, ⟨rfl, ⟨rfl, ⟨rfl, ⟨rfl, ⟨rfl, ⟨rfl, ⟨rfl, ⟨rfl, ⟨rfl, ⟨rfl, ⟨rfl, ⟨rfl, ⟨rfl, ⟨rfl, ⟨rfl, ⟨rfl, ⟨rfl, ⟨rfl, ⟨rfl, ⟨rfl, ⟨rfl, ⟨rfl, ⟨rfl, ⟨rfl, ⟨rfl, ⟨rfl, ⟨rfl, h⟩⟩⟩⟩⟩⟩⟩⟩⟩⟩⟩⟩⟩⟩⟩⟩⟩⟩⟩⟩⟩⟩⟩⟩⟩⟩⟩⟩⟩⟩⟩⟩
theorem cB4a_1 (z : Nat → Int) {R : Prop} (h : R) : ((z 20):Int) = (z 20) ∧ (((z 21):Int) = (z 21) ∧ (((z 22):Int) = (z 22) ∧ (((z 23):Int) = (z 23) ∧ (((z 24):Int) = (z 24) ∧ (((z 25):Int) = (z 25) ∧ (((z 26):Int) = (z 26) ∧ (((z 27):Int) = (z 27) ∧ (((z 28):Int) = (z 28) ∧ (((z 29):Int) = (z 29) ∧ (((z 30):Int) = (z 30) ∧ (((z 31):Int) = (z 31) ∧ (True ∧ (R))))))))))))) := ⟨rfl, ⟨rfl, ⟨rfl, ⟨rfl, ⟨rfl, ⟨rfl, ⟨rfl, ⟨rfl, ⟨rfl, ⟨rfl, ⟨rfl, ⟨rfl, ⟨True.intro, h⟩⟩⟩⟩⟩⟩⟩⟩⟩⟩⟩⟩⟩
set_option linter.defProp false in
def nSW {k a e x c : Int} (b : Nat → Bool) (z : Nat → Int) (h : bkCode (z 16) (z 17) (z 18) (z 19) k a e x = c) (hc : c ≠ 0 := by decide) := an (an (an tt (cB4a_0 b z (an (nS0 h hc) (an (nS1 h hc) (an (nS2 h hc) (an (nS3 h hc) (cB4a_1 z (an tt tt)))))))) tt) (an (zo (an h (nSn h hc))) tt)
theorem cB4a_2 (z : Nat → Int) {R : Prop} (h : R) : ((z 16):Int) = (z 16) ∧ (((z 17):Int) = (z 17) ∧ (((z 18):Int) = (z 18) ∧ (((z 19):Int) = (z 19) ∧ (((z 20):Int) = (z 20) ∧ (((z 21):Int) = (z 21) ∧ (((z 22):Int) = (z 22) ∧ (((z 23):Int) = (z 23) ∧ (((z 24):Int) = (z 24) ∧ (((z 25):Int) = (z 25) ∧ (((z 26):Int) = (z 26) ∧ (((z 27):Int) = (z 27) ∧ (((z 28):Int) = (z 28) ∧ (((z 29):Int) = (z 29) ∧ (((z 30):Int) = (z 30) ∧ (R))))))))))))))) := ⟨rfl, ⟨rfl, ⟨rfl, ⟨rfl, ⟨rfl, ⟨rfl, ⟨rfl, ⟨rfl, ⟨rfl, ⟨rfl, ⟨rfl, ⟨rfl, ⟨rfl, ⟨rfl, ⟨rfl, h⟩⟩⟩⟩⟩⟩⟩⟩⟩⟩⟩⟩⟩⟩⟩
variable (b : Nat → Bool) (z : Nat → Int) (x:Int)

theorem nbk_000 : NeedRun 46 (bl b) (zl z) 0 0 0 x := by
 intro hv ho hn
 have m0 := m0_of hv
 have hx := hx_of ho
 have ho' : opMayL [0, 0, 0, x] = true := ho
 simp at hn

 rcases eb (!allMay (zl z)) with h0 | h0
 · exact ff (by simp [hv, ho'] at *)
 ·
  rcases eb (!opMayL [(0:Int), (0:Int), (0:Int), x]) with h1 | h1
  · exact ff (by simp [hv, ho'] at *)
  ·
   rcases eb (!(b 0)) with h2 | h2
   ·
    refine vcIntro (hx2 3 4) (an (u3 h2 h1 h0) (an (an (an (show bkD (bl b) 0 0 0 = (0:Int) by (simp at * <;> simp [*] <;> done)) (cB4a_0 b z (cB4a_2 z (an (ri (z 31)) tt)))) tt) tt)) ?_
    kernel_rfl
   · exact ff (by simp_all)

theorem dbk_000 : DoneRun 46 (bl b) (zl z) 0 0 0 x := by
 intro hv ho hn
 have m0 := m0_of hv
 have hx := hx_of ho
 have ho' : opMayL [0, 0, 0, x] = true := ho
 simp at hn

 rcases eb (!allMay (zl z)) with h0 | h0
 · exact ff (by simp [hv, ho'] at *)
 ·
  rcases eb (!opMayL [(0:Int), (0:Int), (0:Int), x]) with h1 | h1
  · exact ff (by simp [hv, ho'] at *)
  ·
   rcases eb (!(b 0)) with h2 | h2
   · exact ff (by simp_all)
   ·
    rcases eb (decide ((z 16) > (0:Int))) with h3 | h3
    ·
     have e : bkCode (z 16) (z 17) (z 18) (z 19) 0 0 0 x = (1:Int) := by (simp at * <;> simp [*] <;> done)
     refine vcIntro (hx2 4 8) (an (u4 h3 h2 h1 h0) (nSW b z e)) ?_
     kernel_rfl
    ·
     refine vcIntro (hx2 4 0) (an (u4 h3 h2 h1 h0) (an (an (an tt (cB4a_0 b z (an (show bkNow (z 16) (z 17) (z 18) (z 19) 0 0 0 x 0 = IntKind.i64.wrap (x + (1:Int)) by (simp (disch := omega) only [wrapk] at *; simp at * <;> (repeat' split) <;> omega)) (an (show bkNow (z 16) (z 17) (z 18) (z 19) 0 0 0 x 1 = (z 17) by simp) (an (show bkNow (z 16) (z 17) (z 18) (z 19) 0 0 0 x 2 = (z 18) by simp) (an (show bkNow (z 16) (z 17) (z 18) (z 19) 0 0 0 x 3 = (z 19) by simp) (cB4a_1 z (an tt tt)))))))) tt) (an (zo (an (show bkCode (z 16) (z 17) (z 18) (z 19) 0 0 0 x = (0:Int) by (simp at * <;> simp [*] <;> done)) (show bkNum (z 16) (z 17) (z 18) (z 19) 0 0 0 x = x by (simp at * <;> (repeat' split) <;> omega)))) tt))) ?_
     kernel_rfl

theorem nbk_010 : NeedRun 46 (bl b) (zl z) 0 1 0 x := by
 intro hv ho hn
 have m0 := m0_of hv
 have hx := hx_of ho
 have ho' : opMayL [0, 1, 0, x] = true := ho
 simp at hn

 rcases eb (!allMay (zl z)) with h0 | h0
 · exact ff (by simp [hv, ho'] at *)
 ·
  rcases eb (!opMayL [(0:Int), (1:Int), (0:Int), x]) with h1 | h1
  · exact ff (by simp [hv, ho'] at *)
  ·
   rcases eb (!(b 1)) with h2 | h2
   ·
    refine vcIntro (hx2 3 4) (an (u3 h2 h1 h0) (an (an (an (show bkD (bl b) 0 1 0 = (1:Int) by (simp at * <;> simp [*] <;> done)) (cB4a_0 b z (cB4a_2 z (an (ri (z 31)) tt)))) tt) tt)) ?_
    kernel_rfl
   · exact ff (by simp_all)

theorem dbk_010 : DoneRun 46 (bl b) (zl z) 0 1 0 x := by
 intro hv ho hn
 have m0 := m0_of hv
 have hx := hx_of ho
 have ho' : opMayL [0, 1, 0, x] = true := ho
 simp at hn

 rcases eb (!allMay (zl z)) with h0 | h0
 · exact ff (by simp [hv, ho'] at *)
 ·
  rcases eb (!opMayL [(0:Int), (1:Int), (0:Int), x]) with h1 | h1
  · exact ff (by simp [hv, ho'] at *)
  ·
   rcases eb (!(b 1)) with h2 | h2
   · exact ff (by simp_all)
   ·
    rcases eb (decide ((z 17) > (0:Int))) with h3 | h3
    ·
     have e : bkCode (z 16) (z 17) (z 18) (z 19) 0 1 0 x = (1:Int) := by (simp at * <;> simp [*] <;> done)
     refine vcIntro (hx2 4 8) (an (u4 h3 h2 h1 h0) (nSW b z e)) ?_
     kernel_rfl
    ·
     refine vcIntro (hx2 4 0) (an (u4 h3 h2 h1 h0) (an (an (an tt (cB4a_0 b z (an (show bkNow (z 16) (z 17) (z 18) (z 19) 0 1 0 x 0 = (z 16) by simp) (an (show bkNow (z 16) (z 17) (z 18) (z 19) 0 1 0 x 1 = IntKind.i64.wrap (x + (1:Int)) by (simp (disch := omega) only [wrapk] at *; simp at * <;> (repeat' split) <;> omega)) (an (show bkNow (z 16) (z 17) (z 18) (z 19) 0 1 0 x 2 = (z 18) by simp) (an (show bkNow (z 16) (z 17) (z 18) (z 19) 0 1 0 x 3 = (z 19) by simp) (cB4a_1 z (an tt tt)))))))) tt) (an (zo (an (show bkCode (z 16) (z 17) (z 18) (z 19) 0 1 0 x = (0:Int) by (simp at * <;> simp [*] <;> done)) (show bkNum (z 16) (z 17) (z 18) (z 19) 0 1 0 x = x by (simp at * <;> (repeat' split) <;> omega)))) tt))) ?_
     kernel_rfl

theorem nbk_020 : NeedRun 46 (bl b) (zl z) 0 2 0 x := by
 intro hv ho hn
 have m0 := m0_of hv
 have hx := hx_of ho
 have ho' : opMayL [0, 2, 0, x] = true := ho
 simp at hn

 rcases eb (!allMay (zl z)) with h0 | h0
 · exact ff (by simp [hv, ho'] at *)
 ·
  rcases eb (!opMayL [(0:Int), (2:Int), (0:Int), x]) with h1 | h1
  · exact ff (by simp [hv, ho'] at *)
  ·
   rcases eb (!(b 2)) with h2 | h2
   ·
    refine vcIntro (hx2 3 4) (an (u3 h2 h1 h0) (an (an (an (show bkD (bl b) 0 2 0 = (2:Int) by (simp at * <;> simp [*] <;> done)) (cB4a_0 b z (cB4a_2 z (an (ri (z 31)) tt)))) tt) tt)) ?_
    kernel_rfl
   · exact ff (by simp_all)

theorem dbk_020 : DoneRun 46 (bl b) (zl z) 0 2 0 x := by
 intro hv ho hn
 have m0 := m0_of hv
 have hx := hx_of ho
 have ho' : opMayL [0, 2, 0, x] = true := ho
 simp at hn

 rcases eb (!allMay (zl z)) with h0 | h0
 · exact ff (by simp [hv, ho'] at *)
 ·
  rcases eb (!opMayL [(0:Int), (2:Int), (0:Int), x]) with h1 | h1
  · exact ff (by simp [hv, ho'] at *)
  ·
   rcases eb (!(b 2)) with h2 | h2
   · exact ff (by simp_all)
   ·
    rcases eb (decide ((z 18) > (0:Int))) with h3 | h3
    ·
     have e : bkCode (z 16) (z 17) (z 18) (z 19) 0 2 0 x = (1:Int) := by (simp at * <;> simp [*] <;> done)
     refine vcIntro (hx2 4 8) (an (u4 h3 h2 h1 h0) (nSW b z e)) ?_
     kernel_rfl
    ·
     refine vcIntro (hx2 4 0) (an (u4 h3 h2 h1 h0) (an (an (an tt (cB4a_0 b z (an (show bkNow (z 16) (z 17) (z 18) (z 19) 0 2 0 x 0 = (z 16) by simp) (an (show bkNow (z 16) (z 17) (z 18) (z 19) 0 2 0 x 1 = (z 17) by simp) (an (show bkNow (z 16) (z 17) (z 18) (z 19) 0 2 0 x 2 = IntKind.i64.wrap (x + (1:Int)) by (simp (disch := omega) only [wrapk] at *; simp at * <;> (repeat' split) <;> omega)) (an (show bkNow (z 16) (z 17) (z 18) (z 19) 0 2 0 x 3 = (z 19) by simp) (cB4a_1 z (an tt tt)))))))) tt) (an (zo (an (show bkCode (z 16) (z 17) (z 18) (z 19) 0 2 0 x = (0:Int) by (simp at * <;> simp [*] <;> done)) (show bkNum (z 16) (z 17) (z 18) (z 19) 0 2 0 x = x by (simp at * <;> (repeat' split) <;> omega)))) tt))) ?_
     kernel_rfl

theorem nbk_030 : NeedRun 46 (bl b) (zl z) 0 3 0 x := by
 intro hv ho hn
 have m0 := m0_of hv
 have hx := hx_of ho
 have ho' : opMayL [0, 3, 0, x] = true := ho
 simp at hn

 rcases eb (!allMay (zl z)) with h0 | h0
 · exact ff (by simp [hv, ho'] at *)
 ·
  rcases eb (!opMayL [(0:Int), (3:Int), (0:Int), x]) with h1 | h1
  · exact ff (by simp [hv, ho'] at *)
  ·
   rcases eb (!(b 3)) with h2 | h2
   ·
    refine vcIntro (hx2 3 4) (an (u3 h2 h1 h0) (an (an (an (show bkD (bl b) 0 3 0 = (3:Int) by (simp at * <;> simp [*] <;> done)) (cB4a_0 b z (cB4a_2 z (an (ri (z 31)) tt)))) tt) tt)) ?_
    kernel_rfl
   · exact ff (by simp_all)

theorem dbk_030 : DoneRun 46 (bl b) (zl z) 0 3 0 x := by
 intro hv ho hn
 have m0 := m0_of hv
 have hx := hx_of ho
 have ho' : opMayL [0, 3, 0, x] = true := ho
 simp at hn

 rcases eb (!allMay (zl z)) with h0 | h0
 · exact ff (by simp [hv, ho'] at *)
 ·
  rcases eb (!opMayL [(0:Int), (3:Int), (0:Int), x]) with h1 | h1
  · exact ff (by simp [hv, ho'] at *)
  ·
   rcases eb (!(b 3)) with h2 | h2
   · exact ff (by simp_all)
   ·
    rcases eb (decide ((z 19) > (0:Int))) with h3 | h3
    ·
     have e : bkCode (z 16) (z 17) (z 18) (z 19) 0 3 0 x = (1:Int) := by (simp at * <;> simp [*] <;> done)
     refine vcIntro (hx2 4 8) (an (u4 h3 h2 h1 h0) (nSW b z e)) ?_
     kernel_rfl
    ·
     refine vcIntro (hx2 4 0) (an (u4 h3 h2 h1 h0) (an (an (an tt (cB4a_0 b z (an (show bkNow (z 16) (z 17) (z 18) (z 19) 0 3 0 x 0 = (z 16) by simp) (an (show bkNow (z 16) (z 17) (z 18) (z 19) 0 3 0 x 1 = (z 17) by simp) (an (show bkNow (z 16) (z 17) (z 18) (z 19) 0 3 0 x 2 = (z 18) by simp) (an (show bkNow (z 16) (z 17) (z 18) (z 19) 0 3 0 x 3 = IntKind.i64.wrap (x + (1:Int)) by (simp (disch := omega) only [wrapk] at *; simp at * <;> (repeat' split) <;> omega)) (cB4a_1 z (an tt tt)))))))) tt) (an (zo (an (show bkCode (z 16) (z 17) (z 18) (z 19) 0 3 0 x = (0:Int) by (simp at * <;> simp [*] <;> done)) (show bkNum (z 16) (z 17) (z 18) (z 19) 0 3 0 x = x by (simp at * <;> (repeat' split) <;> omega)))) tt))) ?_
     kernel_rfl

theorem nbk_100 : NeedRun 46 (bl b) (zl z) 1 0 0 x := by
 intro hv ho hn
 have m0 := m0_of hv
 have hx := hx_of ho
 have ho' : opMayL [1, 0, 0, x] = true := ho
 simp at hn

 rcases eb (!allMay (zl z)) with h0 | h0
 · exact ff (by simp [hv, ho'] at *)
 ·
  rcases eb (!opMayL [(1:Int), (0:Int), (0:Int), x]) with h1 | h1
  · exact ff (by simp [hv, ho'] at *)
  ·
   rcases eb (!(b 0)) with h2 | h2
   ·
    refine vcIntro (hx2 3 4) (an (u3 h2 h1 h0) (an (an (an (show bkD (bl b) 1 0 0 = (0:Int) by (simp at * <;> simp [*] <;> done)) (cB4a_0 b z (cB4a_2 z (an (ri (z 31)) tt)))) tt) tt)) ?_
    kernel_rfl
   · exact ff (by simp_all)

theorem dbk_100 : DoneRun 46 (bl b) (zl z) 1 0 0 x := by
 intro hv ho hn
 have m0 := m0_of hv
 have hx := hx_of ho
 have ho' : opMayL [1, 0, 0, x] = true := ho
 simp at hn

 rcases eb (!allMay (zl z)) with h0 | h0
 · exact ff (by simp [hv, ho'] at *)
 ·
  rcases eb (!opMayL [(1:Int), (0:Int), (0:Int), x]) with h1 | h1
  · exact ff (by simp [hv, ho'] at *)
  ·
   rcases eb (!(b 0)) with h2 | h2
   · exact ff (by simp_all)
   ·
    rcases eb (!decide ((z 16) > (0:Int))) with h3 | h3
    ·
     have e : bkCode (z 16) (z 17) (z 18) (z 19) 1 0 0 x = (2:Int) := by (simp at * <;> simp [*] <;> done)
     refine vcIntro (hx2 4 8) (an (u4 h3 h2 h1 h0) (nSW b z e)) ?_
     kernel_rfl
    ·
     refine vcIntro (hx2 4 0) (an (u4 h3 h2 h1 h0) (an (an (an tt (cB4a_0 b z (an (show bkNow (z 16) (z 17) (z 18) (z 19) 1 0 0 x 0 = (0:Int) by (simp at * <;> (repeat' split) <;> omega)) (an (show bkNow (z 16) (z 17) (z 18) (z 19) 1 0 0 x 1 = (z 17) by simp) (an (show bkNow (z 16) (z 17) (z 18) (z 19) 1 0 0 x 2 = (z 18) by simp) (an (show bkNow (z 16) (z 17) (z 18) (z 19) 1 0 0 x 3 = (z 19) by simp) (cB4a_1 z (an tt tt)))))))) tt) (an (zo (an (show bkCode (z 16) (z 17) (z 18) (z 19) 1 0 0 x = (0:Int) by (simp at * <;> simp [*] <;> done)) (show bkNum (z 16) (z 17) (z 18) (z 19) 1 0 0 x = IntKind.i64.wrap ((z 16) - (1:Int)) by (simp (disch := omega) only [wrapk] at *; simp at * <;> (repeat' split) <;> omega)))) tt))) ?_
     kernel_rfl

theorem nbk_110 : NeedRun 46 (bl b) (zl z) 1 1 0 x := by
 intro hv ho hn
 have m0 := m0_of hv
 have hx := hx_of ho
 have ho' : opMayL [1, 1, 0, x] = true := ho
 simp at hn

 rcases eb (!allMay (zl z)) with h0 | h0
 · exact ff (by simp [hv, ho'] at *)
 ·
  rcases eb (!opMayL [(1:Int), (1:Int), (0:Int), x]) with h1 | h1
  · exact ff (by simp [hv, ho'] at *)
  ·
   rcases eb (!(b 1)) with h2 | h2
   ·
    refine vcIntro (hx2 3 4) (an (u3 h2 h1 h0) (an (an (an (show bkD (bl b) 1 1 0 = (1:Int) by (simp at * <;> simp [*] <;> done)) (cB4a_0 b z (cB4a_2 z (an (ri (z 31)) tt)))) tt) tt)) ?_
    kernel_rfl
   · exact ff (by simp_all)

theorem dbk_110 : DoneRun 46 (bl b) (zl z) 1 1 0 x := by
 intro hv ho hn
 have m0 := m0_of hv
 have hx := hx_of ho
 have ho' : opMayL [1, 1, 0, x] = true := ho
 simp at hn

 rcases eb (!allMay (zl z)) with h0 | h0
 · exact ff (by simp [hv, ho'] at *)
 ·
  rcases eb (!opMayL [(1:Int), (1:Int), (0:Int), x]) with h1 | h1
  · exact ff (by simp [hv, ho'] at *)
  ·
   rcases eb (!(b 1)) with h2 | h2
   · exact ff (by simp_all)
   ·
    rcases eb (!decide ((z 17) > (0:Int))) with h3 | h3
    ·
     have e : bkCode (z 16) (z 17) (z 18) (z 19) 1 1 0 x = (2:Int) := by (simp at * <;> simp [*] <;> done)
     refine vcIntro (hx2 4 8) (an (u4 h3 h2 h1 h0) (nSW b z e)) ?_
     kernel_rfl
    ·
     refine vcIntro (hx2 4 0) (an (u4 h3 h2 h1 h0) (an (an (an tt (cB4a_0 b z (an (show bkNow (z 16) (z 17) (z 18) (z 19) 1 1 0 x 0 = (z 16) by simp) (an (show bkNow (z 16) (z 17) (z 18) (z 19) 1 1 0 x 1 = (0:Int) by (simp at * <;> (repeat' split) <;> omega)) (an (show bkNow (z 16) (z 17) (z 18) (z 19) 1 1 0 x 2 = (z 18) by simp) (an (show bkNow (z 16) (z 17) (z 18) (z 19) 1 1 0 x 3 = (z 19) by simp) (cB4a_1 z (an tt tt)))))))) tt) (an (zo (an (show bkCode (z 16) (z 17) (z 18) (z 19) 1 1 0 x = (0:Int) by (simp at * <;> simp [*] <;> done)) (show bkNum (z 16) (z 17) (z 18) (z 19) 1 1 0 x = IntKind.i64.wrap ((z 17) - (1:Int)) by (simp (disch := omega) only [wrapk] at *; simp at * <;> (repeat' split) <;> omega)))) tt))) ?_
     kernel_rfl

theorem nbk_120 : NeedRun 46 (bl b) (zl z) 1 2 0 x := by
 intro hv ho hn
 have m0 := m0_of hv
 have hx := hx_of ho
 have ho' : opMayL [1, 2, 0, x] = true := ho
 simp at hn

 rcases eb (!allMay (zl z)) with h0 | h0
 · exact ff (by simp [hv, ho'] at *)
 ·
  rcases eb (!opMayL [(1:Int), (2:Int), (0:Int), x]) with h1 | h1
  · exact ff (by simp [hv, ho'] at *)
  ·
   rcases eb (!(b 2)) with h2 | h2
   ·
    refine vcIntro (hx2 3 4) (an (u3 h2 h1 h0) (an (an (an (show bkD (bl b) 1 2 0 = (2:Int) by (simp at * <;> simp [*] <;> done)) (cB4a_0 b z (cB4a_2 z (an (ri (z 31)) tt)))) tt) tt)) ?_
    kernel_rfl
   · exact ff (by simp_all)

theorem dbk_120 : DoneRun 46 (bl b) (zl z) 1 2 0 x := by
 intro hv ho hn
 have m0 := m0_of hv
 have hx := hx_of ho
 have ho' : opMayL [1, 2, 0, x] = true := ho
 simp at hn

 rcases eb (!allMay (zl z)) with h0 | h0
 · exact ff (by simp [hv, ho'] at *)
 ·
  rcases eb (!opMayL [(1:Int), (2:Int), (0:Int), x]) with h1 | h1
  · exact ff (by simp [hv, ho'] at *)
  ·
   rcases eb (!(b 2)) with h2 | h2
   · exact ff (by simp_all)
   ·
    rcases eb (!decide ((z 18) > (0:Int))) with h3 | h3
    ·
     have e : bkCode (z 16) (z 17) (z 18) (z 19) 1 2 0 x = (2:Int) := by (simp at * <;> simp [*] <;> done)
     refine vcIntro (hx2 4 8) (an (u4 h3 h2 h1 h0) (nSW b z e)) ?_
     kernel_rfl
    ·
     refine vcIntro (hx2 4 0) (an (u4 h3 h2 h1 h0) (an (an (an tt (cB4a_0 b z (an (show bkNow (z 16) (z 17) (z 18) (z 19) 1 2 0 x 0 = (z 16) by simp) (an (show bkNow (z 16) (z 17) (z 18) (z 19) 1 2 0 x 1 = (z 17) by simp) (an (show bkNow (z 16) (z 17) (z 18) (z 19) 1 2 0 x 2 = (0:Int) by (simp at * <;> (repeat' split) <;> omega)) (an (show bkNow (z 16) (z 17) (z 18) (z 19) 1 2 0 x 3 = (z 19) by simp) (cB4a_1 z (an tt tt)))))))) tt) (an (zo (an (show bkCode (z 16) (z 17) (z 18) (z 19) 1 2 0 x = (0:Int) by (simp at * <;> simp [*] <;> done)) (show bkNum (z 16) (z 17) (z 18) (z 19) 1 2 0 x = IntKind.i64.wrap ((z 18) - (1:Int)) by (simp (disch := omega) only [wrapk] at *; simp at * <;> (repeat' split) <;> omega)))) tt))) ?_
     kernel_rfl

theorem nbk_130 : NeedRun 46 (bl b) (zl z) 1 3 0 x := by
 intro hv ho hn
 have m0 := m0_of hv
 have hx := hx_of ho
 have ho' : opMayL [1, 3, 0, x] = true := ho
 simp at hn

 rcases eb (!allMay (zl z)) with h0 | h0
 · exact ff (by simp [hv, ho'] at *)
 ·
  rcases eb (!opMayL [(1:Int), (3:Int), (0:Int), x]) with h1 | h1
  · exact ff (by simp [hv, ho'] at *)
  ·
   rcases eb (!(b 3)) with h2 | h2
   ·
    refine vcIntro (hx2 3 4) (an (u3 h2 h1 h0) (an (an (an (show bkD (bl b) 1 3 0 = (3:Int) by (simp at * <;> simp [*] <;> done)) (cB4a_0 b z (cB4a_2 z (an (ri (z 31)) tt)))) tt) tt)) ?_
    kernel_rfl
   · exact ff (by simp_all)

theorem dbk_130 : DoneRun 46 (bl b) (zl z) 1 3 0 x := by
 intro hv ho hn
 have m0 := m0_of hv
 have hx := hx_of ho
 have ho' : opMayL [1, 3, 0, x] = true := ho
 simp at hn

 rcases eb (!allMay (zl z)) with h0 | h0
 · exact ff (by simp [hv, ho'] at *)
 ·
  rcases eb (!opMayL [(1:Int), (3:Int), (0:Int), x]) with h1 | h1
  · exact ff (by simp [hv, ho'] at *)
  ·
   rcases eb (!(b 3)) with h2 | h2
   · exact ff (by simp_all)
   ·
    rcases eb (!decide ((z 19) > (0:Int))) with h3 | h3
    ·
     have e : bkCode (z 16) (z 17) (z 18) (z 19) 1 3 0 x = (2:Int) := by (simp at * <;> simp [*] <;> done)
     refine vcIntro (hx2 4 8) (an (u4 h3 h2 h1 h0) (nSW b z e)) ?_
     kernel_rfl
    ·
     refine vcIntro (hx2 4 0) (an (u4 h3 h2 h1 h0) (an (an (an tt (cB4a_0 b z (an (show bkNow (z 16) (z 17) (z 18) (z 19) 1 3 0 x 0 = (z 16) by simp) (an (show bkNow (z 16) (z 17) (z 18) (z 19) 1 3 0 x 1 = (z 17) by simp) (an (show bkNow (z 16) (z 17) (z 18) (z 19) 1 3 0 x 2 = (z 18) by simp) (an (show bkNow (z 16) (z 17) (z 18) (z 19) 1 3 0 x 3 = (0:Int) by (simp at * <;> (repeat' split) <;> omega)) (cB4a_1 z (an tt tt)))))))) tt) (an (zo (an (show bkCode (z 16) (z 17) (z 18) (z 19) 1 3 0 x = (0:Int) by (simp at * <;> simp [*] <;> done)) (show bkNum (z 16) (z 17) (z 18) (z 19) 1 3 0 x = IntKind.i64.wrap ((z 19) - (1:Int)) by (simp (disch := omega) only [wrapk] at *; simp at * <;> (repeat' split) <;> omega)))) tt))) ?_
     kernel_rfl

theorem nbk_200 : NeedRun 46 (bl b) (zl z) 2 0 0 x := by
 intro hv ho hn
 have m0 := m0_of hv
 have hx := hx_of ho
 have ho' : opMayL [2, 0, 0, x] = true := ho
 simp at hn

 rcases eb (!allMay (zl z)) with h0 | h0
 · exact ff (by simp [hv, ho'] at *)
 ·
  rcases eb (!opMayL [(2:Int), (0:Int), (0:Int), x]) with h1 | h1
  · exact ff (by simp [hv, ho'] at *)
  ·
   rcases eb (!(b 0)) with h2 | h2
   ·
    refine vcIntro (hx2 3 4) (an (u3 h2 h1 h0) (an (an (an (show bkD (bl b) 2 0 0 = (0:Int) by (simp at * <;> simp [*] <;> done)) (cB4a_0 b z (cB4a_2 z (an (ri (z 31)) tt)))) tt) tt)) ?_
    kernel_rfl
   · exact ff (by simp_all)

theorem dbk_200 : DoneRun 46 (bl b) (zl z) 2 0 0 x := by
 intro hv ho hn
 have m0 := m0_of hv
 have hx := hx_of ho
 have ho' : opMayL [2, 0, 0, x] = true := ho
 simp at hn

 rcases eb (!allMay (zl z)) with h0 | h0
 · exact ff (by simp [hv, ho'] at *)
 ·
  rcases eb (!opMayL [(2:Int), (0:Int), (0:Int), x]) with h1 | h1
  · exact ff (by simp [hv, ho'] at *)
  ·
   rcases eb (!(b 0)) with h2 | h2
   · exact ff (by simp_all)
   ·
    rcases eb (!decide ((z 16) > (0:Int))) with h3 | h3
    ·
     have e : bkCode (z 16) (z 17) (z 18) (z 19) 2 0 0 x = (2:Int) := by (simp at * <;> (repeat' split) <;> omega)
     refine vcIntro (hx2 4 8) (an (u4 h3 h2 h1 h0) (nSW b z e)) ?_
     kernel_rfl
    ·
     rcases eb (decide (IntKind.i64.wrap ((z 16) - (1:Int)) > IntKind.i64.wrap ((1048575:Int) - x))) with h4 | h4
     ·
      have e : bkCode (z 16) (z 17) (z 18) (z 19) 2 0 0 x = (4:Int) := by (simp (disch := omega) only [wrapk] at *; simp at * <;> (repeat' split) <;> omega)
      refine vcIntro (hx2 5 16) (an (u5 h4 h3 h2 h1 h0) (nSW b z e)) ?_
      kernel_rfl
     ·
      refine vcIntro (hx2 5 0) (an (u5 h4 h3 h2 h1 h0) (an (an (an tt (cB4a_0 b z (an (show bkNow (z 16) (z 17) (z 18) (z 19) 2 0 0 x 0 = IntKind.i64.wrap (IntKind.i64.wrap (IntKind.i64.wrap ((z 16) - (1:Int)) + x) + (1:Int)) by (simp (disch := omega) only [wrapk] at *; simp at * <;> (repeat' split) <;> omega)) (an (show bkNow (z 16) (z 17) (z 18) (z 19) 2 0 0 x 1 = (z 17) by simp) (an (show bkNow (z 16) (z 17) (z 18) (z 19) 2 0 0 x 2 = (z 18) by simp) (an (show bkNow (z 16) (z 17) (z 18) (z 19) 2 0 0 x 3 = (z 19) by simp) (cB4a_1 z (an tt tt)))))))) tt) (an (zo (an (show bkCode (z 16) (z 17) (z 18) (z 19) 2 0 0 x = (0:Int) by (simp (disch := omega) only [wrapk] at *; simp at * <;> (repeat' split) <;> omega)) (show bkNum (z 16) (z 17) (z 18) (z 19) 2 0 0 x = IntKind.i64.wrap (IntKind.i64.wrap ((z 16) - (1:Int)) + x) by (simp (disch := omega) only [wrapk] at *; simp at * <;> (repeat' split) <;> omega)))) tt))) ?_
      kernel_rfl

theorem nbk_210 : NeedRun 46 (bl b) (zl z) 2 1 0 x := by
 intro hv ho hn
 have m0 := m0_of hv
 have hx := hx_of ho
 have ho' : opMayL [2, 1, 0, x] = true := ho
 simp at hn

 rcases eb (!allMay (zl z)) with h0 | h0
 · exact ff (by simp [hv, ho'] at *)
 ·
  rcases eb (!opMayL [(2:Int), (1:Int), (0:Int), x]) with h1 | h1
  · exact ff (by simp [hv, ho'] at *)
  ·
   rcases eb (!(b 1)) with h2 | h2
   ·
    refine vcIntro (hx2 3 4) (an (u3 h2 h1 h0) (an (an (an (show bkD (bl b) 2 1 0 = (1:Int) by (simp at * <;> simp [*] <;> done)) (cB4a_0 b z (cB4a_2 z (an (ri (z 31)) tt)))) tt) tt)) ?_
    kernel_rfl
   · exact ff (by simp_all)

theorem dbk_210 : DoneRun 46 (bl b) (zl z) 2 1 0 x := by
 intro hv ho hn
 have m0 := m0_of hv
 have hx := hx_of ho
 have ho' : opMayL [2, 1, 0, x] = true := ho
 simp at hn

 rcases eb (!allMay (zl z)) with h0 | h0
 · exact ff (by simp [hv, ho'] at *)
 ·
  rcases eb (!opMayL [(2:Int), (1:Int), (0:Int), x]) with h1 | h1
  · exact ff (by simp [hv, ho'] at *)
  ·
   rcases eb (!(b 1)) with h2 | h2
   · exact ff (by simp_all)
   ·
    rcases eb (!decide ((z 17) > (0:Int))) with h3 | h3
    ·
     have e : bkCode (z 16) (z 17) (z 18) (z 19) 2 1 0 x = (2:Int) := by (simp at * <;> (repeat' split) <;> omega)
     refine vcIntro (hx2 4 8) (an (u4 h3 h2 h1 h0) (nSW b z e)) ?_
     kernel_rfl
    ·
     rcases eb (decide (IntKind.i64.wrap ((z 17) - (1:Int)) > IntKind.i64.wrap ((1048575:Int) - x))) with h4 | h4
     ·
      have e : bkCode (z 16) (z 17) (z 18) (z 19) 2 1 0 x = (4:Int) := by (simp (disch := omega) only [wrapk] at *; simp at * <;> (repeat' split) <;> omega)
      refine vcIntro (hx2 5 16) (an (u5 h4 h3 h2 h1 h0) (nSW b z e)) ?_
      kernel_rfl
     ·
      refine vcIntro (hx2 5 0) (an (u5 h4 h3 h2 h1 h0) (an (an (an tt (cB4a_0 b z (an (show bkNow (z 16) (z 17) (z 18) (z 19) 2 1 0 x 0 = (z 16) by simp) (an (show bkNow (z 16) (z 17) (z 18) (z 19) 2 1 0 x 1 = IntKind.i64.wrap (IntKind.i64.wrap (IntKind.i64.wrap ((z 17) - (1:Int)) + x) + (1:Int)) by (simp (disch := omega) only [wrapk] at *; simp at * <;> (repeat' split) <;> omega)) (an (show bkNow (z 16) (z 17) (z 18) (z 19) 2 1 0 x 2 = (z 18) by simp) (an (show bkNow (z 16) (z 17) (z 18) (z 19) 2 1 0 x 3 = (z 19) by simp) (cB4a_1 z (an tt tt)))))))) tt) (an (zo (an (show bkCode (z 16) (z 17) (z 18) (z 19) 2 1 0 x = (0:Int) by (simp (disch := omega) only [wrapk] at *; simp at * <;> (repeat' split) <;> omega)) (show bkNum (z 16) (z 17) (z 18) (z 19) 2 1 0 x = IntKind.i64.wrap (IntKind.i64.wrap ((z 17) - (1:Int)) + x) by (simp (disch := omega) only [wrapk] at *; simp at * <;> (repeat' split) <;> omega)))) tt))) ?_
      kernel_rfl

theorem nbk_220 : NeedRun 46 (bl b) (zl z) 2 2 0 x := by
 intro hv ho hn
 have m0 := m0_of hv
 have hx := hx_of ho
 have ho' : opMayL [2, 2, 0, x] = true := ho
 simp at hn

 rcases eb (!allMay (zl z)) with h0 | h0
 · exact ff (by simp [hv, ho'] at *)
 ·
  rcases eb (!opMayL [(2:Int), (2:Int), (0:Int), x]) with h1 | h1
  · exact ff (by simp [hv, ho'] at *)
  ·
   rcases eb (!(b 2)) with h2 | h2
   ·
    refine vcIntro (hx2 3 4) (an (u3 h2 h1 h0) (an (an (an (show bkD (bl b) 2 2 0 = (2:Int) by (simp at * <;> simp [*] <;> done)) (cB4a_0 b z (cB4a_2 z (an (ri (z 31)) tt)))) tt) tt)) ?_
    kernel_rfl
   · exact ff (by simp_all)

theorem dbk_220 : DoneRun 46 (bl b) (zl z) 2 2 0 x := by
 intro hv ho hn
 have m0 := m0_of hv
 have hx := hx_of ho
 have ho' : opMayL [2, 2, 0, x] = true := ho
 simp at hn

 rcases eb (!allMay (zl z)) with h0 | h0
 · exact ff (by simp [hv, ho'] at *)
 ·
  rcases eb (!opMayL [(2:Int), (2:Int), (0:Int), x]) with h1 | h1
  · exact ff (by simp [hv, ho'] at *)
  ·
   rcases eb (!(b 2)) with h2 | h2
   · exact ff (by simp_all)
   ·
    rcases eb (!decide ((z 18) > (0:Int))) with h3 | h3
    ·
     have e : bkCode (z 16) (z 17) (z 18) (z 19) 2 2 0 x = (2:Int) := by (simp at * <;> (repeat' split) <;> omega)
     refine vcIntro (hx2 4 8) (an (u4 h3 h2 h1 h0) (nSW b z e)) ?_
     kernel_rfl
    ·
     rcases eb (decide (IntKind.i64.wrap ((z 18) - (1:Int)) > IntKind.i64.wrap ((1048575:Int) - x))) with h4 | h4
     ·
      have e : bkCode (z 16) (z 17) (z 18) (z 19) 2 2 0 x = (4:Int) := by (simp (disch := omega) only [wrapk] at *; simp at * <;> (repeat' split) <;> omega)
      refine vcIntro (hx2 5 16) (an (u5 h4 h3 h2 h1 h0) (nSW b z e)) ?_
      kernel_rfl
     ·
      refine vcIntro (hx2 5 0) (an (u5 h4 h3 h2 h1 h0) (an (an (an tt (cB4a_0 b z (an (show bkNow (z 16) (z 17) (z 18) (z 19) 2 2 0 x 0 = (z 16) by simp) (an (show bkNow (z 16) (z 17) (z 18) (z 19) 2 2 0 x 1 = (z 17) by simp) (an (show bkNow (z 16) (z 17) (z 18) (z 19) 2 2 0 x 2 = IntKind.i64.wrap (IntKind.i64.wrap (IntKind.i64.wrap ((z 18) - (1:Int)) + x) + (1:Int)) by (simp (disch := omega) only [wrapk] at *; simp at * <;> (repeat' split) <;> omega)) (an (show bkNow (z 16) (z 17) (z 18) (z 19) 2 2 0 x 3 = (z 19) by simp) (cB4a_1 z (an tt tt)))))))) tt) (an (zo (an (show bkCode (z 16) (z 17) (z 18) (z 19) 2 2 0 x = (0:Int) by (simp (disch := omega) only [wrapk] at *; simp at * <;> (repeat' split) <;> omega)) (show bkNum (z 16) (z 17) (z 18) (z 19) 2 2 0 x = IntKind.i64.wrap (IntKind.i64.wrap ((z 18) - (1:Int)) + x) by (simp (disch := omega) only [wrapk] at *; simp at * <;> (repeat' split) <;> omega)))) tt))) ?_
      kernel_rfl

theorem nbk_230 : NeedRun 46 (bl b) (zl z) 2 3 0 x := by
 intro hv ho hn
 have m0 := m0_of hv
 have hx := hx_of ho
 have ho' : opMayL [2, 3, 0, x] = true := ho
 simp at hn

 rcases eb (!allMay (zl z)) with h0 | h0
 · exact ff (by simp [hv, ho'] at *)
 ·
  rcases eb (!opMayL [(2:Int), (3:Int), (0:Int), x]) with h1 | h1
  · exact ff (by simp [hv, ho'] at *)
  ·
   rcases eb (!(b 3)) with h2 | h2
   ·
    refine vcIntro (hx2 3 4) (an (u3 h2 h1 h0) (an (an (an (show bkD (bl b) 2 3 0 = (3:Int) by (simp at * <;> simp [*] <;> done)) (cB4a_0 b z (cB4a_2 z (an (ri (z 31)) tt)))) tt) tt)) ?_
    kernel_rfl
   · exact ff (by simp_all)

theorem dbk_230 : DoneRun 46 (bl b) (zl z) 2 3 0 x := by
 intro hv ho hn
 have m0 := m0_of hv
 have hx := hx_of ho
 have ho' : opMayL [2, 3, 0, x] = true := ho
 simp at hn

 rcases eb (!allMay (zl z)) with h0 | h0
 · exact ff (by simp [hv, ho'] at *)
 ·
  rcases eb (!opMayL [(2:Int), (3:Int), (0:Int), x]) with h1 | h1
  · exact ff (by simp [hv, ho'] at *)
  ·
   rcases eb (!(b 3)) with h2 | h2
   · exact ff (by simp_all)
   ·
    rcases eb (!decide ((z 19) > (0:Int))) with h3 | h3
    ·
     have e : bkCode (z 16) (z 17) (z 18) (z 19) 2 3 0 x = (2:Int) := by (simp at * <;> (repeat' split) <;> omega)
     refine vcIntro (hx2 4 8) (an (u4 h3 h2 h1 h0) (nSW b z e)) ?_
     kernel_rfl
    ·
     rcases eb (decide (IntKind.i64.wrap ((z 19) - (1:Int)) > IntKind.i64.wrap ((1048575:Int) - x))) with h4 | h4
     ·
      have e : bkCode (z 16) (z 17) (z 18) (z 19) 2 3 0 x = (4:Int) := by (simp (disch := omega) only [wrapk] at *; simp at * <;> (repeat' split) <;> omega)
      refine vcIntro (hx2 5 16) (an (u5 h4 h3 h2 h1 h0) (nSW b z e)) ?_
      kernel_rfl
     ·
      refine vcIntro (hx2 5 0) (an (u5 h4 h3 h2 h1 h0) (an (an (an tt (cB4a_0 b z (an (show bkNow (z 16) (z 17) (z 18) (z 19) 2 3 0 x 0 = (z 16) by simp) (an (show bkNow (z 16) (z 17) (z 18) (z 19) 2 3 0 x 1 = (z 17) by simp) (an (show bkNow (z 16) (z 17) (z 18) (z 19) 2 3 0 x 2 = (z 18) by simp) (an (show bkNow (z 16) (z 17) (z 18) (z 19) 2 3 0 x 3 = IntKind.i64.wrap (IntKind.i64.wrap (IntKind.i64.wrap ((z 19) - (1:Int)) + x) + (1:Int)) by (simp (disch := omega) only [wrapk] at *; simp at * <;> (repeat' split) <;> omega)) (cB4a_1 z (an tt tt)))))))) tt) (an (zo (an (show bkCode (z 16) (z 17) (z 18) (z 19) 2 3 0 x = (0:Int) by (simp (disch := omega) only [wrapk] at *; simp at * <;> (repeat' split) <;> omega)) (show bkNum (z 16) (z 17) (z 18) (z 19) 2 3 0 x = IntKind.i64.wrap (IntKind.i64.wrap ((z 19) - (1:Int)) + x) by (simp (disch := omega) only [wrapk] at *; simp at * <;> (repeat' split) <;> omega)))) tt))) ?_
      kernel_rfl

theorem nbk_300 : NeedRun 46 (bl b) (zl z) 3 0 0 x := by
 intro hv ho hn
 have m0 := m0_of hv
 have hx := hx_of ho
 have ho' : opMayL [3, 0, 0, x] = true := ho
 simp at hn

 rcases eb (!allMay (zl z)) with h0 | h0
 · exact ff (by simp [hv, ho'] at *)
 ·
  rcases eb (!opMayL [(3:Int), (0:Int), (0:Int), x]) with h1 | h1
  · exact ff (by simp [hv, ho'] at *)
  ·
   rcases eb (!(b 0)) with h2 | h2
   ·
    refine vcIntro (hx2 3 4) (an (u3 h2 h1 h0) (an (an (an (show bkD (bl b) 3 0 0 = (0:Int) by (simp at * <;> simp [*] <;> done)) (cB4a_0 b z (cB4a_2 z (an (ri (z 31)) tt)))) tt) tt)) ?_
    kernel_rfl
   · exact ff (by simp_all)

theorem dbk_300 : DoneRun 46 (bl b) (zl z) 3 0 0 x := by
 intro hv ho hn
 have m0 := m0_of hv
 have hx := hx_of ho
 have ho' : opMayL [3, 0, 0, x] = true := ho
 simp at hn

 rcases eb (!allMay (zl z)) with h0 | h0
 · exact ff (by simp [hv, ho'] at *)
 ·
  rcases eb (!opMayL [(3:Int), (0:Int), (0:Int), x]) with h1 | h1
  · exact ff (by simp [hv, ho'] at *)
  ·
   rcases eb (!(b 0)) with h2 | h2
   · exact ff (by simp_all)
   ·
    rcases eb (!decide ((z 16) > (0:Int))) with h3 | h3
    ·
     have e : bkCode (z 16) (z 17) (z 18) (z 19) 3 0 0 x = (2:Int) := by (simp at * <;> (repeat' split) <;> omega)
     refine vcIntro (hx2 4 8) (an (u4 h3 h2 h1 h0) (nSW b z e)) ?_
     kernel_rfl
    ·
     rcases eb (decide (IntKind.i64.wrap ((z 16) - (1:Int)) < x)) with h4 | h4
     ·
      have e : bkCode (z 16) (z 17) (z 18) (z 19) 3 0 0 x = (3:Int) := by (simp (disch := omega) only [wrapk] at *; simp at * <;> simp [*] <;> done)
      refine vcIntro (hx2 5 16) (an (u5 h4 h3 h2 h1 h0) (nSW b z e)) ?_
      kernel_rfl
     ·
      refine vcIntro (hx2 5 0) (an (u5 h4 h3 h2 h1 h0) (an (an (an tt (cB4a_0 b z (an (show bkNow (z 16) (z 17) (z 18) (z 19) 3 0 0 x 0 = IntKind.i64.wrap (IntKind.i64.wrap (IntKind.i64.wrap ((z 16) - (1:Int)) - x) + (1:Int)) by (simp (disch := omega) only [wrapk] at *; simp at * <;> (repeat' split) <;> omega)) (an (show bkNow (z 16) (z 17) (z 18) (z 19) 3 0 0 x 1 = (z 17) by simp) (an (show bkNow (z 16) (z 17) (z 18) (z 19) 3 0 0 x 2 = (z 18) by simp) (an (show bkNow (z 16) (z 17) (z 18) (z 19) 3 0 0 x 3 = (z 19) by simp) (cB4a_1 z (an tt tt)))))))) tt) (an (zo (an (show bkCode (z 16) (z 17) (z 18) (z 19) 3 0 0 x = (0:Int) by (simp (disch := omega) only [wrapk] at *; simp at * <;> simp [*] <;> done)) (show bkNum (z 16) (z 17) (z 18) (z 19) 3 0 0 x = IntKind.i64.wrap (IntKind.i64.wrap ((z 16) - (1:Int)) - x) by (simp (disch := omega) only [wrapk] at *; simp at * <;> simp [*] <;> done)))) tt))) ?_
      kernel_rfl

theorem nbk_310 : NeedRun 46 (bl b) (zl z) 3 1 0 x := by
 intro hv ho hn
 have m0 := m0_of hv
 have hx := hx_of ho
 have ho' : opMayL [3, 1, 0, x] = true := ho
 simp at hn

 rcases eb (!allMay (zl z)) with h0 | h0
 · exact ff (by simp [hv, ho'] at *)
 ·
  rcases eb (!opMayL [(3:Int), (1:Int), (0:Int), x]) with h1 | h1
  · exact ff (by simp [hv, ho'] at *)
  ·
   rcases eb (!(b 1)) with h2 | h2
   ·
    refine vcIntro (hx2 3 4) (an (u3 h2 h1 h0) (an (an (an (show bkD (bl b) 3 1 0 = (1:Int) by (simp at * <;> simp [*] <;> done)) (cB4a_0 b z (cB4a_2 z (an (ri (z 31)) tt)))) tt) tt)) ?_
    kernel_rfl
   · exact ff (by simp_all)

theorem dbk_310 : DoneRun 46 (bl b) (zl z) 3 1 0 x := by
 intro hv ho hn
 have m0 := m0_of hv
 have hx := hx_of ho
 have ho' : opMayL [3, 1, 0, x] = true := ho
 simp at hn

 rcases eb (!allMay (zl z)) with h0 | h0
 · exact ff (by simp [hv, ho'] at *)
 ·
  rcases eb (!opMayL [(3:Int), (1:Int), (0:Int), x]) with h1 | h1
  · exact ff (by simp [hv, ho'] at *)
  ·
   rcases eb (!(b 1)) with h2 | h2
   · exact ff (by simp_all)
   ·
    rcases eb (!decide ((z 17) > (0:Int))) with h3 | h3
    ·
     have e : bkCode (z 16) (z 17) (z 18) (z 19) 3 1 0 x = (2:Int) := by (simp at * <;> (repeat' split) <;> omega)
     refine vcIntro (hx2 4 8) (an (u4 h3 h2 h1 h0) (nSW b z e)) ?_
     kernel_rfl
    ·
     rcases eb (decide (IntKind.i64.wrap ((z 17) - (1:Int)) < x)) with h4 | h4
     ·
      have e : bkCode (z 16) (z 17) (z 18) (z 19) 3 1 0 x = (3:Int) := by (simp (disch := omega) only [wrapk] at *; simp at * <;> simp [*] <;> done)
      refine vcIntro (hx2 5 16) (an (u5 h4 h3 h2 h1 h0) (nSW b z e)) ?_
      kernel_rfl
     ·
      refine vcIntro (hx2 5 0) (an (u5 h4 h3 h2 h1 h0) (an (an (an tt (cB4a_0 b z (an (show bkNow (z 16) (z 17) (z 18) (z 19) 3 1 0 x 0 = (z 16) by simp) (an (show bkNow (z 16) (z 17) (z 18) (z 19) 3 1 0 x 1 = IntKind.i64.wrap (IntKind.i64.wrap (IntKind.i64.wrap ((z 17) - (1:Int)) - x) + (1:Int)) by (simp (disch := omega) only [wrapk] at *; simp at * <;> (repeat' split) <;> omega)) (an (show bkNow (z 16) (z 17) (z 18) (z 19) 3 1 0 x 2 = (z 18) by simp) (an (show bkNow (z 16) (z 17) (z 18) (z 19) 3 1 0 x 3 = (z 19) by simp) (cB4a_1 z (an tt tt)))))))) tt) (an (zo (an (show bkCode (z 16) (z 17) (z 18) (z 19) 3 1 0 x = (0:Int) by (simp (disch := omega) only [wrapk] at *; simp at * <;> simp [*] <;> done)) (show bkNum (z 16) (z 17) (z 18) (z 19) 3 1 0 x = IntKind.i64.wrap (IntKind.i64.wrap ((z 17) - (1:Int)) - x) by (simp (disch := omega) only [wrapk] at *; simp at * <;> simp [*] <;> done)))) tt))) ?_
      kernel_rfl

theorem nbk_320 : NeedRun 46 (bl b) (zl z) 3 2 0 x := by
 intro hv ho hn
 have m0 := m0_of hv
 have hx := hx_of ho
 have ho' : opMayL [3, 2, 0, x] = true := ho
 simp at hn

 rcases eb (!allMay (zl z)) with h0 | h0
 · exact ff (by simp [hv, ho'] at *)
 ·
  rcases eb (!opMayL [(3:Int), (2:Int), (0:Int), x]) with h1 | h1
  · exact ff (by simp [hv, ho'] at *)
  ·
   rcases eb (!(b 2)) with h2 | h2
   ·
    refine vcIntro (hx2 3 4) (an (u3 h2 h1 h0) (an (an (an (show bkD (bl b) 3 2 0 = (2:Int) by (simp at * <;> simp [*] <;> done)) (cB4a_0 b z (cB4a_2 z (an (ri (z 31)) tt)))) tt) tt)) ?_
    kernel_rfl
   · exact ff (by simp_all)

theorem dbk_320 : DoneRun 46 (bl b) (zl z) 3 2 0 x := by
 intro hv ho hn
 have m0 := m0_of hv
 have hx := hx_of ho
 have ho' : opMayL [3, 2, 0, x] = true := ho
 simp at hn

 rcases eb (!allMay (zl z)) with h0 | h0
 · exact ff (by simp [hv, ho'] at *)
 ·
  rcases eb (!opMayL [(3:Int), (2:Int), (0:Int), x]) with h1 | h1
  · exact ff (by simp [hv, ho'] at *)
  ·
   rcases eb (!(b 2)) with h2 | h2
   · exact ff (by simp_all)
   ·
    rcases eb (!decide ((z 18) > (0:Int))) with h3 | h3
    ·
     have e : bkCode (z 16) (z 17) (z 18) (z 19) 3 2 0 x = (2:Int) := by (simp at * <;> (repeat' split) <;> omega)
     refine vcIntro (hx2 4 8) (an (u4 h3 h2 h1 h0) (nSW b z e)) ?_
     kernel_rfl
    ·
     rcases eb (decide (IntKind.i64.wrap ((z 18) - (1:Int)) < x)) with h4 | h4
     ·
      have e : bkCode (z 16) (z 17) (z 18) (z 19) 3 2 0 x = (3:Int) := by (simp (disch := omega) only [wrapk] at *; simp at * <;> simp [*] <;> done)
      refine vcIntro (hx2 5 16) (an (u5 h4 h3 h2 h1 h0) (nSW b z e)) ?_
      kernel_rfl
     ·
      refine vcIntro (hx2 5 0) (an (u5 h4 h3 h2 h1 h0) (an (an (an tt (cB4a_0 b z (an (show bkNow (z 16) (z 17) (z 18) (z 19) 3 2 0 x 0 = (z 16) by simp) (an (show bkNow (z 16) (z 17) (z 18) (z 19) 3 2 0 x 1 = (z 17) by simp) (an (show bkNow (z 16) (z 17) (z 18) (z 19) 3 2 0 x 2 = IntKind.i64.wrap (IntKind.i64.wrap (IntKind.i64.wrap ((z 18) - (1:Int)) - x) + (1:Int)) by (simp (disch := omega) only [wrapk] at *; simp at * <;> (repeat' split) <;> omega)) (an (show bkNow (z 16) (z 17) (z 18) (z 19) 3 2 0 x 3 = (z 19) by simp) (cB4a_1 z (an tt tt)))))))) tt) (an (zo (an (show bkCode (z 16) (z 17) (z 18) (z 19) 3 2 0 x = (0:Int) by (simp (disch := omega) only [wrapk] at *; simp at * <;> simp [*] <;> done)) (show bkNum (z 16) (z 17) (z 18) (z 19) 3 2 0 x = IntKind.i64.wrap (IntKind.i64.wrap ((z 18) - (1:Int)) - x) by (simp (disch := omega) only [wrapk] at *; simp at * <;> simp [*] <;> done)))) tt))) ?_
      kernel_rfl

theorem nbk_330 : NeedRun 46 (bl b) (zl z) 3 3 0 x := by
 intro hv ho hn
 have m0 := m0_of hv
 have hx := hx_of ho
 have ho' : opMayL [3, 3, 0, x] = true := ho
 simp at hn

 rcases eb (!allMay (zl z)) with h0 | h0
 · exact ff (by simp [hv, ho'] at *)
 ·
  rcases eb (!opMayL [(3:Int), (3:Int), (0:Int), x]) with h1 | h1
  · exact ff (by simp [hv, ho'] at *)
  ·
   rcases eb (!(b 3)) with h2 | h2
   ·
    refine vcIntro (hx2 3 4) (an (u3 h2 h1 h0) (an (an (an (show bkD (bl b) 3 3 0 = (3:Int) by (simp at * <;> simp [*] <;> done)) (cB4a_0 b z (cB4a_2 z (an (ri (z 31)) tt)))) tt) tt)) ?_
    kernel_rfl
   · exact ff (by simp_all)

theorem dbk_330 : DoneRun 46 (bl b) (zl z) 3 3 0 x := by
 intro hv ho hn
 have m0 := m0_of hv
 have hx := hx_of ho
 have ho' : opMayL [3, 3, 0, x] = true := ho
 simp at hn

 rcases eb (!allMay (zl z)) with h0 | h0
 · exact ff (by simp [hv, ho'] at *)
 ·
  rcases eb (!opMayL [(3:Int), (3:Int), (0:Int), x]) with h1 | h1
  · exact ff (by simp [hv, ho'] at *)
  ·
   rcases eb (!(b 3)) with h2 | h2
   · exact ff (by simp_all)
   ·
    rcases eb (!decide ((z 19) > (0:Int))) with h3 | h3
    ·
     have e : bkCode (z 16) (z 17) (z 18) (z 19) 3 3 0 x = (2:Int) := by (simp at * <;> (repeat' split) <;> omega)
     refine vcIntro (hx2 4 8) (an (u4 h3 h2 h1 h0) (nSW b z e)) ?_
     kernel_rfl
    ·
     rcases eb (decide (IntKind.i64.wrap ((z 19) - (1:Int)) < x)) with h4 | h4
     ·
      have e : bkCode (z 16) (z 17) (z 18) (z 19) 3 3 0 x = (3:Int) := by (simp (disch := omega) only [wrapk] at *; simp at * <;> simp [*] <;> done)
      refine vcIntro (hx2 5 16) (an (u5 h4 h3 h2 h1 h0) (nSW b z e)) ?_
      kernel_rfl
     ·
      refine vcIntro (hx2 5 0) (an (u5 h4 h3 h2 h1 h0) (an (an (an tt (cB4a_0 b z (an (show bkNow (z 16) (z 17) (z 18) (z 19) 3 3 0 x 0 = (z 16) by simp) (an (show bkNow (z 16) (z 17) (z 18) (z 19) 3 3 0 x 1 = (z 17) by simp) (an (show bkNow (z 16) (z 17) (z 18) (z 19) 3 3 0 x 2 = (z 18) by simp) (an (show bkNow (z 16) (z 17) (z 18) (z 19) 3 3 0 x 3 = IntKind.i64.wrap (IntKind.i64.wrap (IntKind.i64.wrap ((z 19) - (1:Int)) - x) + (1:Int)) by (simp (disch := omega) only [wrapk] at *; simp at * <;> (repeat' split) <;> omega)) (cB4a_1 z (an tt tt)))))))) tt) (an (zo (an (show bkCode (z 16) (z 17) (z 18) (z 19) 3 3 0 x = (0:Int) by (simp (disch := omega) only [wrapk] at *; simp at * <;> simp [*] <;> done)) (show bkNum (z 16) (z 17) (z 18) (z 19) 3 3 0 x = IntKind.i64.wrap (IntKind.i64.wrap ((z 19) - (1:Int)) - x) by (simp (disch := omega) only [wrapk] at *; simp at * <;> simp [*] <;> done)))) tt))) ?_
      kernel_rfl
end
end Go.Ideal.B1
namespace Go.Ideal.B1
section
open Go.Proofs Go.Ideal Go.Ideal.L1
set_option linter.unusedSimpArgs false
set_option linter.unusedVariables false
set_option maxRecDepth 100000
set_option maxHeartbeats 8000000
attribute [local simp] bl zl sel bkNeed bkCode pos bkNum bkNow bkZs bkA bkD
theorem nU {m0 m1 m2 m3 k a b x c : Int} (i:Int) (h : bkCode m0 m1 m2 m3 k a b x = c) (hc : c ≠ 0) : bkNow m0 m1 m2 m3 k a b x i = sel m0 m1 m2 m3 i := by simp only [bkNow, h, if_neg hc]
theorem nU0 {m0 m1 m2 m3 k a b x c : Int} (h : bkCode m0 m1 m2 m3 k a b x = c) (hc : c ≠ 0 := by decide) : bkNow m0 m1 m2 m3 k a b x 0 = m0 := nU 0 h hc
theorem nU1 {m0 m1 m2 m3 k a b x c : Int} (h : bkCode m0 m1 m2 m3 k a b x = c) (hc : c ≠ 0 := by decide) : bkNow m0 m1 m2 m3 k a b x 1 = m1 := nU 1 h hc
theorem nU2 {m0 m1 m2 m3 k a b x c : Int} (h : bkCode m0 m1 m2 m3 k a b x = c) (hc : c ≠ 0 := by decide) : bkNow m0 m1 m2 m3 k a b x 2 = m2 := nU 2 h hc
theorem nU3 {m0 m1 m2 m3 k a b x c : Int} (h : bkCode m0 m1 m2 m3 k a b x = c) (hc : c ≠ 0 := by decide) : bkNow m0 m1 m2 m3 k a b x 3 = m3 := nU 3 h hc
theorem nUn {m0 m1 m2 m3 k a b x c : Int} (h : bkCode m0 m1 m2 m3 k a b x = c) (hc : c ≠ 0 := by decide) : bkNum m0 m1 m2 m3 k a b x = (0:Int) := by simp only [bkNum, h, if_neg hc]
theorem cB4b_0 (b : Nat → Bool) (z : Nat → Int) {R : Prop} (h : R) : ((b 0):Bool) = (b 0) ∧ (((b 1):Bool) = (b 1) ∧ (((b 2):Bool) = (b 2) ∧ (((b 3):Bool) = (b 3) ∧ (((b 4):Bool) = (b 4) ∧ (((b 5):Bool) = (b 5) ∧ (((b 6):Bool) = (b 6) ∧ (((b 7):Bool) = (b 7) ∧ (((b 8):Bool) = (b 8) ∧ (((b 9):Bool) = (b 9) ∧ (((b 10):Bool) = (b 10) ∧ (((b 11):Bool) = (b 11) ∧ (((b 12):Bool) = (b 12) ∧ (((b 13):Bool) = (b 13) ∧ (((b 14):Bool) = (b 14) ∧ (((b 15):Bool) = (b 15) ∧ (((z 0):Int) = (z 0) ∧ (((z 1):Int) = (z 1) ∧ (((z 2):Int) = (z 2) ∧ (((z 3):Int) = (z 3) ∧ (((z 4):Int) = (z 4) ∧ (((z 5):Int) = (z 5) ∧ (((z 6):Int) = (z 6) ∧ (((z 7):Int) = (z 7) ∧ (((z 8):Int) = (z 8) ∧ (((z 9):Int) = (z 9) ∧ (((z 10):Int) = (z 10) ∧ (((z 11):Int) = (z 11) ∧ (((z 12):Int) = (z 12) ∧ (((z 13):Int) = (z 13) ∧ (((z 14):Int) = (z 14) ∧ (((z 15):Int) = (z 15) ∧ (R)))))))))))))))))))))))))))))))) := ⟨rfl, ⟨rfl, ⟨rfl, ⟨rfl, ⟨rfl, ⟨rfl, ⟨rfl, ⟨rfl, ⟨rfl, ⟨rfl, ⟨rfl, ⟨rfl, ⟨rfl, ⟨rfl, ⟨rfl, ⟨rfl, ⟨rfl, ⟨rfl, ⟨rfl, ⟨rfl, ⟨rfl, ⟨rfl, ⟨rfl, ⟨rfl, ⟨rfl, ⟨rfl, ⟨rfl, ⟨rfl, ⟨rfl, ⟨rfl, ⟨rfl, ⟨rfl, h⟩⟩⟩⟩⟩⟩⟩⟩⟩⟩⟩⟩⟩⟩⟩⟩⟩⟩⟩⟩⟩⟩⟩⟩⟩⟩⟩⟩⟩⟩⟩⟩
theorem cB4b_1 (z : Nat → Int) {R : Prop} (h : R) : ((z 20):Int) = (z 20) ∧ (((z 21):Int) = (z 21) ∧ (((z 22):Int) = (z 22) ∧ (((z 23):Int) = (z 23) ∧ (((z 24):Int) = (z 24) ∧ (((z 25):Int) = (z 25) ∧ (((z 26):Int) = (z 26) ∧ (((z 27):Int) = (z 27) ∧ (((z 28):Int) = (z 28) ∧ (((z 29):Int) = (z 29) ∧ (((z 30):Int) = (z 30) ∧ (((z 31):Int) = (z 31) ∧ (True ∧ (R))))))))))))) := ⟨rfl, ⟨rfl, ⟨rfl, ⟨rfl, ⟨rfl, ⟨rfl, ⟨rfl, ⟨rfl, ⟨rfl, ⟨rfl, ⟨rfl, ⟨rfl, ⟨True.intro, h⟩⟩⟩⟩⟩⟩⟩⟩⟩⟩⟩⟩⟩
set_option linter.defProp false in
def nUW {k a e x c : Int} (b : Nat → Bool) (z : Nat → Int) (h : bkCode (z 16) (z 17) (z 18) (z 19) k a e x = c) (hc : c ≠ 0 := by decide) := an (an (an tt (cB4b_0 b z (an (nU0 h hc) (an (nU1 h hc) (an (nU2 h hc) (an (nU3 h hc) (cB4b_1 z (an tt tt)))))))) tt) (an (zo (an h (nUn h hc))) tt)
theorem cB4b_2 (z : Nat → Int) {R : Prop} (h : R) : ((z 16):Int) = (z 16) ∧ (((z 17):Int) = (z 17) ∧ (((z 18):Int) = (z 18) ∧ (((z 19):Int) = (z 19) ∧ (((z 20):Int) = (z 20) ∧ (((z 21):Int) = (z 21) ∧ (((z 22):Int) = (z 22) ∧ (((z 23):Int) = (z 23) ∧ (((z 24):Int) = (z 24) ∧ (((z 25):Int) = (z 25) ∧ (((z 26):Int) = (z 26) ∧ (((z 27):Int) = (z 27) ∧ (((z 28):Int) = (z 28) ∧ (((z 29):Int) = (z 29) ∧ (((z 30):Int) = (z 30) ∧ (R))))))))))))))) := ⟨rfl, ⟨rfl, ⟨rfl, ⟨rfl, ⟨rfl, ⟨rfl, ⟨rfl, ⟨rfl, ⟨rfl, ⟨rfl, ⟨rfl, ⟨rfl, ⟨rfl, ⟨rfl, ⟨rfl, h⟩⟩⟩⟩⟩⟩⟩⟩⟩⟩⟩⟩⟩⟩⟩
variable (b : Nat → Bool) (z : Nat → Int) (x:Int)

theorem nbk_400 : NeedRun 46 (bl b) (zl z) 4 0 0 x := by
 intro hv ho hn
 have m0 := m0_of hv
 have hx := hx_of ho
 have ho' : opMayL [4, 0, 0, x] = true := ho
 simp at hn

 rcases eb (!allMay (zl z)) with h0 | h0
 · exact ff (by simp [hv, ho'] at *)
 ·
  rcases eb (!opMayL [(4:Int), (0:Int), (0:Int), x]) with h1 | h1
  · exact ff (by simp [hv, ho'] at *)
  ·
   rcases eb (!(b 0)) with h2 | h2
   ·
    refine vcIntro (hx2 3 4) (an (u3 h2 h1 h0) (an (an (an (show bkD (bl b) 4 0 0 = (0:Int) by (simp at * <;> simp [*] <;> done)) (cB4b_0 b z (cB4b_2 z (an (ri (z 31)) tt)))) tt) tt)) ?_
    kernel_rfl
   · exact ff (by simp_all)

theorem dbk_400 : DoneRun 46 (bl b) (zl z) 4 0 0 x := by
 intro hv ho hn
 have m0 := m0_of hv
 have hx := hx_of ho
 have ho' : opMayL [4, 0, 0, x] = true := ho
 simp at hn

 rcases eb (!allMay (zl z)) with h0 | h0
 · exact ff (by simp [hv, ho'] at *)
 ·
  rcases eb (!opMayL [(4:Int), (0:Int), (0:Int), x]) with h1 | h1
  · exact ff (by simp [hv, ho'] at *)
  ·
   rcases eb (!(b 0)) with h2 | h2
   · exact ff (by simp_all)
   ·
    rcases eb (!decide ((z 16) > (0:Int))) with h3 | h3
    ·
     have e : bkCode (z 16) (z 17) (z 18) (z 19) 4 0 0 x = (2:Int) := by (simp at * <;> (repeat' split) <;> omega)
     refine vcIntro (hx2 5 16) (an (u5 h3 h2 h2 h1 h0) (nUW b z e)) ?_
     kernel_rfl
    ·
     rcases eb (decide (IntKind.i64.wrap ((z 16) - (1:Int)) < x)) with h4 | h4
     ·
      have e : bkCode (z 16) (z 17) (z 18) (z 19) 4 0 0 x = (3:Int) := by (simp (disch := omega) only [wrapk] at *; simp at * <;> simp [*] <;> done)
      refine vcIntro (hx2 7 64) (an (u7 h4 h3 h3 h2 h2 h1 h0) (nUW b z e)) ?_
      kernel_rfl
     ·
      refine vcIntro (hx2 7 0) (an (u7 h4 h3 h3 h2 h2 h1 h0) (an (an (an tt (cB4b_0 b z (an (show bkNow (z 16) (z 17) (z 18) (z 19) 4 0 0 x 0 = (z 16) by simp) (an (show bkNow (z 16) (z 17) (z 18) (z 19) 4 0 0 x 1 = (z 17) by simp) (an (show bkNow (z 16) (z 17) (z 18) (z 19) 4 0 0 x 2 = (z 18) by simp) (an (show bkNow (z 16) (z 17) (z 18) (z 19) 4 0 0 x 3 = (z 19) by simp) (cB4b_1 z (an tt tt)))))))) tt) (an (zo (an (show bkCode (z 16) (z 17) (z 18) (z 19) 4 0 0 x = (0:Int) by (simp (disch := omega) only [wrapk] at *; simp at * <;> simp [*] <;> done)) (show bkNum (z 16) (z 17) (z 18) (z 19) 4 0 0 x = IntKind.i64.wrap ((z 16) - (1:Int)) by (simp (disch := omega) only [wrapk] at *; simp at * <;> simp [*] <;> done)))) tt))) ?_
      kernel_rfl

theorem nbk_401 : NeedRun 46 (bl b) (zl z) 4 0 1 x := by
 intro hv ho hn
 have m0 := m0_of hv
 have hx := hx_of ho
 have ho' : opMayL [4, 0, 1, x] = true := ho
 simp at hn

 rcases eb (!allMay (zl z)) with h0 | h0
 · exact ff (by simp [hv, ho'] at *)
 ·
  rcases eb (!opMayL [(4:Int), (0:Int), (1:Int), x]) with h1 | h1
  · exact ff (by simp [hv, ho'] at *)
  ·
   rcases eb (!(b 0)) with h2 | h2
   ·
    refine vcIntro (hx2 3 4) (an (u3 h2 h1 h0) (an (an (an (show bkD (bl b) 4 0 1 = (0:Int) by (simp at * <;> simp [*] <;> done)) (cB4b_0 b z (cB4b_2 z (an (ri (z 31)) tt)))) tt) tt)) ?_
    kernel_rfl
   ·
    rcases eb (!(b 1)) with h3 | h3
    ·
     rcases eb (!decide ((z 16) > (0:Int))) with h4 | h4
     ·
      refine vcIntro (hx2 5 24) (an (u5 h4 h3 h2 h1 h0) (an (an (an (show bkD (bl b) 4 0 1 = (1:Int) by (simp at * <;> simp [*] <;> done)) (cB4b_0 b z (cB4b_2 z (an (ri (z 31)) tt)))) tt) tt)) ?_
      kernel_rfl
     ·
      refine vcIntro (hx2 5 8) (an (u5 h4 h3 h2 h1 h0) (an (an (an (show bkD (bl b) 4 0 1 = (1:Int) by (simp at * <;> simp [*] <;> done)) (cB4b_0 b z (cB4b_2 z (an (ri (z 31)) tt)))) tt) tt)) ?_
      kernel_rfl
    · exact ff (by simp_all)

theorem dbk_401 : DoneRun 46 (bl b) (zl z) 4 0 1 x := by
 intro hv ho hn
 have m0 := m0_of hv
 have hx := hx_of ho
 have ho' : opMayL [4, 0, 1, x] = true := ho
 simp at hn

 rcases eb (!allMay (zl z)) with h0 | h0
 · exact ff (by simp [hv, ho'] at *)
 ·
  rcases eb (!opMayL [(4:Int), (0:Int), (1:Int), x]) with h1 | h1
  · exact ff (by simp [hv, ho'] at *)
  ·
   rcases eb (!(b 0)) with h2 | h2
   · exact ff (by simp_all)
   ·
    rcases eb (!(b 1)) with h3 | h3
    · exact ff (by simp_all)
    ·
     rcases eb (!decide ((z 16) > (0:Int))) with h4 | h4
     ·
      have e : bkCode (z 16) (z 17) (z 18) (z 19) 4 0 1 x = (2:Int) := by (simp at * <;> (repeat' split) <;> omega)
      refine vcIntro (hx2 5 16) (an (u5 h4 h3 h2 h1 h0) (nUW b z e)) ?_
      kernel_rfl
     ·
      rcases eb (!decide ((z 17) > (0:Int))) with h5 | h5
      ·
       have e : bkCode (z 16) (z 17) (z 18) (z 19) 4 0 1 x = (2:Int) := by (simp at * <;> (repeat' split) <;> omega)
       refine vcIntro (hx2 6 32) (an (u6 h5 h4 h3 h2 h1 h0) (nUW b z e)) ?_
       kernel_rfl
      ·
       rcases eb (decide (IntKind.i64.wrap ((z 16) - (1:Int)) < x)) with h6 | h6
       ·
        have e : bkCode (z 16) (z 17) (z 18) (z 19) 4 0 1 x = (3:Int) := by (simp (disch := omega) only [wrapk] at *; simp at * <;> simp [*] <;> done)
        refine vcIntro (hx2 7 64) (an (u7 h6 h5 h4 h3 h2 h1 h0) (nUW b z e)) ?_
        kernel_rfl
       ·
        rcases eb (decide (IntKind.i64.wrap ((z 17) - (1:Int)) > IntKind.i64.wrap ((1048575:Int) - x))) with h7 | h7
        ·
         have e : bkCode (z 16) (z 17) (z 18) (z 19) 4 0 1 x = (4:Int) := by (simp (disch := omega) only [wrapk] at *; simp at * <;> (repeat' split) <;> omega)
         refine vcIntro (hx2 8 128) (an (u8 h7 h6 h5 h4 h3 h2 h1 h0) (nUW b z e)) ?_
         kernel_rfl
        ·
         refine vcIntro (hx2 8 0) (an (u8 h7 h6 h5 h4 h3 h2 h1 h0) (an (an (an tt (cB4b_0 b z (an (show bkNow (z 16) (z 17) (z 18) (z 19) 4 0 1 x 0 = IntKind.i64.wrap (IntKind.i64.wrap (IntKind.i64.wrap ((z 16) - (1:Int)) - x) + (1:Int)) by (simp (disch := omega) only [wrapk] at *; simp at * <;> (repeat' split) <;> omega)) (an (show bkNow (z 16) (z 17) (z 18) (z 19) 4 0 1 x 1 = IntKind.i64.wrap (IntKind.i64.wrap (IntKind.i64.wrap ((z 17) - (1:Int)) + x) + (1:Int)) by (simp (disch := omega) only [wrapk] at *; simp at * <;> (repeat' split) <;> omega)) (an (show bkNow (z 16) (z 17) (z 18) (z 19) 4 0 1 x 2 = (z 18) by simp) (an (show bkNow (z 16) (z 17) (z 18) (z 19) 4 0 1 x 3 = (z 19) by simp) (cB4b_1 z (an tt tt)))))))) tt) (an (zo (an (show bkCode (z 16) (z 17) (z 18) (z 19) 4 0 1 x = (0:Int) by (simp (disch := omega) only [wrapk] at *; simp at * <;> (repeat' split) <;> omega)) (show bkNum (z 16) (z 17) (z 18) (z 19) 4 0 1 x = IntKind.i64.wrap (IntKind.i64.wrap ((z 16) - (1:Int)) - x) by (simp (disch := omega) only [wrapk] at *; simp at * <;> (repeat' split) <;> omega)))) tt))) ?_
         kernel_rfl

theorem nbk_402 : NeedRun 46 (bl b) (zl z) 4 0 2 x := by
 intro hv ho hn
 have m0 := m0_of hv
 have hx := hx_of ho
 have ho' : opMayL [4, 0, 2, x] = true := ho
 simp at hn

 rcases eb (!allMay (zl z)) with h0 | h0
 · exact ff (by simp [hv, ho'] at *)
 ·
  rcases eb (!opMayL [(4:Int), (0:Int), (2:Int), x]) with h1 | h1
  · exact ff (by simp [hv, ho'] at *)
  ·
   rcases eb (!(b 0)) with h2 | h2
   ·
    refine vcIntro (hx2 3 4) (an (u3 h2 h1 h0) (an (an (an (show bkD (bl b) 4 0 2 = (0:Int) by (simp at * <;> simp [*] <;> done)) (cB4b_0 b z (cB4b_2 z (an (ri (z 31)) tt)))) tt) tt)) ?_
    kernel_rfl
   ·
    rcases eb (!(b 2)) with h3 | h3
    ·
     rcases eb (!decide ((z 16) > (0:Int))) with h4 | h4
     ·
      refine vcIntro (hx2 5 24) (an (u5 h4 h3 h2 h1 h0) (an (an (an (show bkD (bl b) 4 0 2 = (2:Int) by (simp at * <;> simp [*] <;> done)) (cB4b_0 b z (cB4b_2 z (an (ri (z 31)) tt)))) tt) tt)) ?_
      kernel_rfl
     ·
      refine vcIntro (hx2 5 8) (an (u5 h4 h3 h2 h1 h0) (an (an (an (show bkD (bl b) 4 0 2 = (2:Int) by (simp at * <;> simp [*] <;> done)) (cB4b_0 b z (cB4b_2 z (an (ri (z 31)) tt)))) tt) tt)) ?_
      kernel_rfl
    · exact ff (by simp_all)

theorem dbk_402 : DoneRun 46 (bl b) (zl z) 4 0 2 x := by
 intro hv ho hn
 have m0 := m0_of hv
 have hx := hx_of ho
 have ho' : opMayL [4, 0, 2, x] = true := ho
 simp at hn

 rcases eb (!allMay (zl z)) with h0 | h0
 · exact ff (by simp [hv, ho'] at *)
 ·
  rcases eb (!opMayL [(4:Int), (0:Int), (2:Int), x]) with h1 | h1
  · exact ff (by simp [hv, ho'] at *)
  ·
   rcases eb (!(b 0)) with h2 | h2
   · exact ff (by simp_all)
   ·
    rcases eb (!(b 2)) with h3 | h3
    · exact ff (by simp_all)
    ·
     rcases eb (!decide ((z 16) > (0:Int))) with h4 | h4
     ·
      have e : bkCode (z 16) (z 17) (z 18) (z 19) 4 0 2 x = (2:Int) := by (simp at * <;> (repeat' split) <;> omega)
      refine vcIntro (hx2 5 16) (an (u5 h4 h3 h2 h1 h0) (nUW b z e)) ?_
      kernel_rfl
     ·
      rcases eb (!decide ((z 18) > (0:Int))) with h5 | h5
      ·
       have e : bkCode (z 16) (z 17) (z 18) (z 19) 4 0 2 x = (2:Int) := by (simp at * <;> (repeat' split) <;> omega)
       refine vcIntro (hx2 6 32) (an (u6 h5 h4 h3 h2 h1 h0) (nUW b z e)) ?_
       kernel_rfl
      ·
       rcases eb (decide (IntKind.i64.wrap ((z 16) - (1:Int)) < x)) with h6 | h6
       ·
        have e : bkCode (z 16) (z 17) (z 18) (z 19) 4 0 2 x = (3:Int) := by (simp (disch := omega) only [wrapk] at *; simp at * <;> simp [*] <;> done)
        refine vcIntro (hx2 7 64) (an (u7 h6 h5 h4 h3 h2 h1 h0) (nUW b z e)) ?_
        kernel_rfl
       ·
        rcases eb (decide (IntKind.i64.wrap ((z 18) - (1:Int)) > IntKind.i64.wrap ((1048575:Int) - x))) with h7 | h7
        ·
         have e : bkCode (z 16) (z 17) (z 18) (z 19) 4 0 2 x = (4:Int) := by (simp (disch := omega) only [wrapk] at *; simp at * <;> (repeat' split) <;> omega)
         refine vcIntro (hx2 8 128) (an (u8 h7 h6 h5 h4 h3 h2 h1 h0) (nUW b z e)) ?_
         kernel_rfl
        ·
         refine vcIntro (hx2 8 0) (an (u8 h7 h6 h5 h4 h3 h2 h1 h0) (an (an (an tt (cB4b_0 b z (an (show bkNow (z 16) (z 17) (z 18) (z 19) 4 0 2 x 0 = IntKind.i64.wrap (IntKind.i64.wrap (IntKind.i64.wrap ((z 16) - (1:Int)) - x) + (1:Int)) by (simp (disch := omega) only [wrapk] at *; simp at * <;> (repeat' split) <;> omega)) (an (show bkNow (z 16) (z 17) (z 18) (z 19) 4 0 2 x 1 = (z 17) by simp) (an (show bkNow (z 16) (z 17) (z 18) (z 19) 4 0 2 x 2 = IntKind.i64.wrap (IntKind.i64.wrap (IntKind.i64.wrap ((z 18) - (1:Int)) + x) + (1:Int)) by (simp (disch := omega) only [wrapk] at *; simp at * <;> (repeat' split) <;> omega)) (an (show bkNow (z 16) (z 17) (z 18) (z 19) 4 0 2 x 3 = (z 19) by simp) (cB4b_1 z (an tt tt)))))))) tt) (an (zo (an (show bkCode (z 16) (z 17) (z 18) (z 19) 4 0 2 x = (0:Int) by (simp (disch := omega) only [wrapk] at *; simp at * <;> (repeat' split) <;> omega)) (show bkNum (z 16) (z 17) (z 18) (z 19) 4 0 2 x = IntKind.i64.wrap (IntKind.i64.wrap ((z 16) - (1:Int)) - x) by (simp (disch := omega) only [wrapk] at *; simp at * <;> (repeat' split) <;> omega)))) tt))) ?_
         kernel_rfl

theorem nbk_403 : NeedRun 46 (bl b) (zl z) 4 0 3 x := by
 intro hv ho hn
 have m0 := m0_of hv
 have hx := hx_of ho
 have ho' : opMayL [4, 0, 3, x] = true := ho
 simp at hn

 rcases eb (!allMay (zl z)) with h0 | h0
 · exact ff (by simp [hv, ho'] at *)
 ·
  rcases eb (!opMayL [(4:Int), (0:Int), (3:Int), x]) with h1 | h1
  · exact ff (by simp [hv, ho'] at *)
  ·
   rcases eb (!(b 0)) with h2 | h2
   ·
    refine vcIntro (hx2 3 4) (an (u3 h2 h1 h0) (an (an (an (show bkD (bl b) 4 0 3 = (0:Int) by (simp at * <;> simp [*] <;> done)) (cB4b_0 b z (cB4b_2 z (an (ri (z 31)) tt)))) tt) tt)) ?_
    kernel_rfl
   ·
    rcases eb (!(b 3)) with h3 | h3
    ·
     rcases eb (!decide ((z 16) > (0:Int))) with h4 | h4
     ·
      refine vcIntro (hx2 5 24) (an (u5 h4 h3 h2 h1 h0) (an (an (an (show bkD (bl b) 4 0 3 = (3:Int) by (simp at * <;> simp [*] <;> done)) (cB4b_0 b z (cB4b_2 z (an (ri (z 31)) tt)))) tt) tt)) ?_
      kernel_rfl
     ·
      refine vcIntro (hx2 5 8) (an (u5 h4 h3 h2 h1 h0) (an (an (an (show bkD (bl b) 4 0 3 = (3:Int) by (simp at * <;> simp [*] <;> done)) (cB4b_0 b z (cB4b_2 z (an (ri (z 31)) tt)))) tt) tt)) ?_
      kernel_rfl
    · exact ff (by simp_all)

theorem dbk_403 : DoneRun 46 (bl b) (zl z) 4 0 3 x := by
 intro hv ho hn
 have m0 := m0_of hv
 have hx := hx_of ho
 have ho' : opMayL [4, 0, 3, x] = true := ho
 simp at hn

 rcases eb (!allMay (zl z)) with h0 | h0
 · exact ff (by simp [hv, ho'] at *)
 ·
  rcases eb (!opMayL [(4:Int), (0:Int), (3:Int), x]) with h1 | h1
  · exact ff (by simp [hv, ho'] at *)
  ·
   rcases eb (!(b 0)) with h2 | h2
   · exact ff (by simp_all)
   ·
    rcases eb (!(b 3)) with h3 | h3
    · exact ff (by simp_all)
    ·
     rcases eb (!decide ((z 16) > (0:Int))) with h4 | h4
     ·
      have e : bkCode (z 16) (z 17) (z 18) (z 19) 4 0 3 x = (2:Int) := by (simp at * <;> (repeat' split) <;> omega)
      refine vcIntro (hx2 5 16) (an (u5 h4 h3 h2 h1 h0) (nUW b z e)) ?_
      kernel_rfl
     ·
      rcases eb (!decide ((z 19) > (0:Int))) with h5 | h5
      ·
       have e : bkCode (z 16) (z 17) (z 18) (z 19) 4 0 3 x = (2:Int) := by (simp at * <;> (repeat' split) <;> omega)
       refine vcIntro (hx2 6 32) (an (u6 h5 h4 h3 h2 h1 h0) (nUW b z e)) ?_
       kernel_rfl
      ·
       rcases eb (decide (IntKind.i64.wrap ((z 16) - (1:Int)) < x)) with h6 | h6
       ·
        have e : bkCode (z 16) (z 17) (z 18) (z 19) 4 0 3 x = (3:Int) := by (simp (disch := omega) only [wrapk] at *; simp at * <;> simp [*] <;> done)
        refine vcIntro (hx2 7 64) (an (u7 h6 h5 h4 h3 h2 h1 h0) (nUW b z e)) ?_
        kernel_rfl
       ·
        rcases eb (decide (IntKind.i64.wrap ((z 19) - (1:Int)) > IntKind.i64.wrap ((1048575:Int) - x))) with h7 | h7
        ·
         have e : bkCode (z 16) (z 17) (z 18) (z 19) 4 0 3 x = (4:Int) := by (simp (disch := omega) only [wrapk] at *; simp at * <;> (repeat' split) <;> omega)
         refine vcIntro (hx2 8 128) (an (u8 h7 h6 h5 h4 h3 h2 h1 h0) (nUW b z e)) ?_
         kernel_rfl
        ·
         refine vcIntro (hx2 8 0) (an (u8 h7 h6 h5 h4 h3 h2 h1 h0) (an (an (an tt (cB4b_0 b z (an (show bkNow (z 16) (z 17) (z 18) (z 19) 4 0 3 x 0 = IntKind.i64.wrap (IntKind.i64.wrap (IntKind.i64.wrap ((z 16) - (1:Int)) - x) + (1:Int)) by (simp (disch := omega) only [wrapk] at *; simp at * <;> (repeat' split) <;> omega)) (an (show bkNow (z 16) (z 17) (z 18) (z 19) 4 0 3 x 1 = (z 17) by simp) (an (show bkNow (z 16) (z 17) (z 18) (z 19) 4 0 3 x 2 = (z 18) by simp) (an (show bkNow (z 16) (z 17) (z 18) (z 19) 4 0 3 x 3 = IntKind.i64.wrap (IntKind.i64.wrap (IntKind.i64.wrap ((z 19) - (1:Int)) + x) + (1:Int)) by (simp (disch := omega) only [wrapk] at *; simp at * <;> (repeat' split) <;> omega)) (cB4b_1 z (an tt tt)))))))) tt) (an (zo (an (show bkCode (z 16) (z 17) (z 18) (z 19) 4 0 3 x = (0:Int) by (simp (disch := omega) only [wrapk] at *; simp at * <;> (repeat' split) <;> omega)) (show bkNum (z 16) (z 17) (z 18) (z 19) 4 0 3 x = IntKind.i64.wrap (IntKind.i64.wrap ((z 16) - (1:Int)) - x) by (simp (disch := omega) only [wrapk] at *; simp at * <;> (repeat' split) <;> omega)))) tt))) ?_
         kernel_rfl

theorem nbk_410 : NeedRun 46 (bl b) (zl z) 4 1 0 x := by
 intro hv ho hn
 have m0 := m0_of hv
 have hx := hx_of ho
 have ho' : opMayL [4, 1, 0, x] = true := ho
 simp at hn

 rcases eb (!allMay (zl z)) with h0 | h0
 · exact ff (by simp [hv, ho'] at *)
 ·
  rcases eb (!opMayL [(4:Int), (1:Int), (0:Int), x]) with h1 | h1
  · exact ff (by simp [hv, ho'] at *)
  ·
   rcases eb (!(b 1)) with h2 | h2
   ·
    refine vcIntro (hx2 3 4) (an (u3 h2 h1 h0) (an (an (an (show bkD (bl b) 4 1 0 = (1:Int) by (simp at * <;> simp [*] <;> done)) (cB4b_0 b z (cB4b_2 z (an (ri (z 31)) tt)))) tt) tt)) ?_
    kernel_rfl
   ·
    rcases eb (!(b 0)) with h3 | h3
    ·
     rcases eb (!decide ((z 17) > (0:Int))) with h4 | h4
     ·
      refine vcIntro (hx2 5 24) (an (u5 h4 h3 h2 h1 h0) (an (an (an (show bkD (bl b) 4 1 0 = (0:Int) by (simp at * <;> simp [*] <;> done)) (cB4b_0 b z (cB4b_2 z (an (ri (z 31)) tt)))) tt) tt)) ?_
      kernel_rfl
     ·
      refine vcIntro (hx2 5 8) (an (u5 h4 h3 h2 h1 h0) (an (an (an (show bkD (bl b) 4 1 0 = (0:Int) by (simp at * <;> simp [*] <;> done)) (cB4b_0 b z (cB4b_2 z (an (ri (z 31)) tt)))) tt) tt)) ?_
      kernel_rfl
    · exact ff (by simp_all)

theorem dbk_410 : DoneRun 46 (bl b) (zl z) 4 1 0 x := by
 intro hv ho hn
 have m0 := m0_of hv
 have hx := hx_of ho
 have ho' : opMayL [4, 1, 0, x] = true := ho
 simp at hn

 rcases eb (!allMay (zl z)) with h0 | h0
 · exact ff (by simp [hv, ho'] at *)
 ·
  rcases eb (!opMayL [(4:Int), (1:Int), (0:Int), x]) with h1 | h1
  · exact ff (by simp [hv, ho'] at *)
  ·
   rcases eb (!(b 1)) with h2 | h2
   · exact ff (by simp_all)
   ·
    rcases eb (!(b 0)) with h3 | h3
    · exact ff (by simp_all)
    ·
     rcases eb (!decide ((z 17) > (0:Int))) with h4 | h4
     ·
      have e : bkCode (z 16) (z 17) (z 18) (z 19) 4 1 0 x = (2:Int) := by (simp at * <;> (repeat' split) <;> omega)
      refine vcIntro (hx2 5 16) (an (u5 h4 h3 h2 h1 h0) (nUW b z e)) ?_
      kernel_rfl
     ·
      rcases eb (!decide ((z 16) > (0:Int))) with h5 | h5
      ·
       have e : bkCode (z 16) (z 17) (z 18) (z 19) 4 1 0 x = (2:Int) := by (simp at * <;> (repeat' split) <;> omega)
       refine vcIntro (hx2 6 32) (an (u6 h5 h4 h3 h2 h1 h0) (nUW b z e)) ?_
       kernel_rfl
      ·
       rcases eb (decide (IntKind.i64.wrap ((z 17) - (1:Int)) < x)) with h6 | h6
       ·
        have e : bkCode (z 16) (z 17) (z 18) (z 19) 4 1 0 x = (3:Int) := by (simp (disch := omega) only [wrapk] at *; simp at * <;> simp [*] <;> done)
        refine vcIntro (hx2 7 64) (an (u7 h6 h5 h4 h3 h2 h1 h0) (nUW b z e)) ?_
        kernel_rfl
       ·
        rcases eb (decide (IntKind.i64.wrap ((z 16) - (1:Int)) > IntKind.i64.wrap ((1048575:Int) - x))) with h7 | h7
        ·
         have e : bkCode (z 16) (z 17) (z 18) (z 19) 4 1 0 x = (4:Int) := by (simp (disch := omega) only [wrapk] at *; simp at * <;> (repeat' split) <;> omega)
         refine vcIntro (hx2 8 128) (an (u8 h7 h6 h5 h4 h3 h2 h1 h0) (nUW b z e)) ?_
         kernel_rfl
        ·
         refine vcIntro (hx2 8 0) (an (u8 h7 h6 h5 h4 h3 h2 h1 h0) (an (an (an tt (cB4b_0 b z (an (show bkNow (z 16) (z 17) (z 18) (z 19) 4 1 0 x 0 = IntKind.i64.wrap (IntKind.i64.wrap (IntKind.i64.wrap ((z 16) - (1:Int)) + x) + (1:Int)) by (simp (disch := omega) only [wrapk] at *; simp at * <;> (repeat' split) <;> omega)) (an (show bkNow (z 16) (z 17) (z 18) (z 19) 4 1 0 x 1 = IntKind.i64.wrap (IntKind.i64.wrap (IntKind.i64.wrap ((z 17) - (1:Int)) - x) + (1:Int)) by (simp (disch := omega) only [wrapk] at *; simp at * <;> (repeat' split) <;> omega)) (an (show bkNow (z 16) (z 17) (z 18) (z 19) 4 1 0 x 2 = (z 18) by simp) (an (show bkNow (z 16) (z 17) (z 18) (z 19) 4 1 0 x 3 = (z 19) by simp) (cB4b_1 z (an tt tt)))))))) tt) (an (zo (an (show bkCode (z 16) (z 17) (z 18) (z 19) 4 1 0 x = (0:Int) by (simp (disch := omega) only [wrapk] at *; simp at * <;> (repeat' split) <;> omega)) (show bkNum (z 16) (z 17) (z 18) (z 19) 4 1 0 x = IntKind.i64.wrap (IntKind.i64.wrap ((z 17) - (1:Int)) - x) by (simp (disch := omega) only [wrapk] at *; simp at * <;> (repeat' split) <;> omega)))) tt))) ?_
         kernel_rfl

theorem nbk_411 : NeedRun 46 (bl b) (zl z) 4 1 1 x := by
 intro hv ho hn
 have m0 := m0_of hv
 have hx := hx_of ho
 have ho' : opMayL [4, 1, 1, x] = true := ho
 simp at hn

 rcases eb (!allMay (zl z)) with h0 | h0
 · exact ff (by simp [hv, ho'] at *)
 ·
  rcases eb (!opMayL [(4:Int), (1:Int), (1:Int), x]) with h1 | h1
  · exact ff (by simp [hv, ho'] at *)
  ·
   rcases eb (!(b 1)) with h2 | h2
   ·
    refine vcIntro (hx2 3 4) (an (u3 h2 h1 h0) (an (an (an (show bkD (bl b) 4 1 1 = (1:Int) by (simp at * <;> simp [*] <;> done)) (cB4b_0 b z (cB4b_2 z (an (ri (z 31)) tt)))) tt) tt)) ?_
    kernel_rfl
   · exact ff (by simp_all)

theorem dbk_411 : DoneRun 46 (bl b) (zl z) 4 1 1 x := by
 intro hv ho hn
 have m0 := m0_of hv
 have hx := hx_of ho
 have ho' : opMayL [4, 1, 1, x] = true := ho
 simp at hn

 rcases eb (!allMay (zl z)) with h0 | h0
 · exact ff (by simp [hv, ho'] at *)
 ·
  rcases eb (!opMayL [(4:Int), (1:Int), (1:Int), x]) with h1 | h1
  · exact ff (by simp [hv, ho'] at *)
  ·
   rcases eb (!(b 1)) with h2 | h2
   · exact ff (by simp_all)
   ·
    rcases eb (!decide ((z 17) > (0:Int))) with h3 | h3
    ·
     have e : bkCode (z 16) (z 17) (z 18) (z 19) 4 1 1 x = (2:Int) := by (simp at * <;> (repeat' split) <;> omega)
     refine vcIntro (hx2 5 16) (an (u5 h3 h2 h2 h1 h0) (nUW b z e)) ?_
     kernel_rfl
    ·
     rcases eb (decide (IntKind.i64.wrap ((z 17) - (1:Int)) < x)) with h4 | h4
     ·
      have e : bkCode (z 16) (z 17) (z 18) (z 19) 4 1 1 x = (3:Int) := by (simp (disch := omega) only [wrapk] at *; simp at * <;> simp [*] <;> done)
      refine vcIntro (hx2 7 64) (an (u7 h4 h3 h3 h2 h2 h1 h0) (nUW b z e)) ?_
      kernel_rfl
     ·
      refine vcIntro (hx2 7 0) (an (u7 h4 h3 h3 h2 h2 h1 h0) (an (an (an tt (cB4b_0 b z (an (show bkNow (z 16) (z 17) (z 18) (z 19) 4 1 1 x 0 = (z 16) by simp) (an (show bkNow (z 16) (z 17) (z 18) (z 19) 4 1 1 x 1 = (z 17) by simp) (an (show bkNow (z 16) (z 17) (z 18) (z 19) 4 1 1 x 2 = (z 18) by simp) (an (show bkNow (z 16) (z 17) (z 18) (z 19) 4 1 1 x 3 = (z 19) by simp) (cB4b_1 z (an tt tt)))))))) tt) (an (zo (an (show bkCode (z 16) (z 17) (z 18) (z 19) 4 1 1 x = (0:Int) by (simp (disch := omega) only [wrapk] at *; simp at * <;> simp [*] <;> done)) (show bkNum (z 16) (z 17) (z 18) (z 19) 4 1 1 x = IntKind.i64.wrap ((z 17) - (1:Int)) by (simp (disch := omega) only [wrapk] at *; simp at * <;> simp [*] <;> done)))) tt))) ?_
      kernel_rfl

theorem nbk_412 : NeedRun 46 (bl b) (zl z) 4 1 2 x := by
 intro hv ho hn
 have m0 := m0_of hv
 have hx := hx_of ho
 have ho' : opMayL [4, 1, 2, x] = true := ho
 simp at hn

 rcases eb (!allMay (zl z)) with h0 | h0
 · exact ff (by simp [hv, ho'] at *)
 ·
  rcases eb (!opMayL [(4:Int), (1:Int), (2:Int), x]) with h1 | h1
  · exact ff (by simp [hv, ho'] at *)
  ·
   rcases eb (!(b 1)) with h2 | h2
   ·
    refine vcIntro (hx2 3 4) (an (u3 h2 h1 h0) (an (an (an (show bkD (bl b) 4 1 2 = (1:Int) by (simp at * <;> simp [*] <;> done)) (cB4b_0 b z (cB4b_2 z (an (ri (z 31)) tt)))) tt) tt)) ?_
    kernel_rfl
   ·
    rcases eb (!(b 2)) with h3 | h3
    ·
     rcases eb (!decide ((z 17) > (0:Int))) with h4 | h4
     ·
      refine vcIntro (hx2 5 24) (an (u5 h4 h3 h2 h1 h0) (an (an (an (show bkD (bl b) 4 1 2 = (2:Int) by (simp at * <;> simp [*] <;> done)) (cB4b_0 b z (cB4b_2 z (an (ri (z 31)) tt)))) tt) tt)) ?_
      kernel_rfl
     ·
      refine vcIntro (hx2 5 8) (an (u5 h4 h3 h2 h1 h0) (an (an (an (show bkD (bl b) 4 1 2 = (2:Int) by (simp at * <;> simp [*] <;> done)) (cB4b_0 b z (cB4b_2 z (an (ri (z 31)) tt)))) tt) tt)) ?_
      kernel_rfl
    · exact ff (by simp_all)

theorem dbk_412 : DoneRun 46 (bl b) (zl z) 4 1 2 x := by
 intro hv ho hn
 have m0 := m0_of hv
 have hx := hx_of ho
 have ho' : opMayL [4, 1, 2, x] = true := ho
 simp at hn

 rcases eb (!allMay (zl z)) with h0 | h0
 · exact ff (by simp [hv, ho'] at *)
 ·
  rcases eb (!opMayL [(4:Int), (1:Int), (2:Int), x]) with h1 | h1
  · exact ff (by simp [hv, ho'] at *)
  ·
   rcases eb (!(b 1)) with h2 | h2
   · exact ff (by simp_all)
   ·
    rcases eb (!(b 2)) with h3 | h3
    · exact ff (by simp_all)
    ·
     rcases eb (!decide ((z 17) > (0:Int))) with h4 | h4
     ·
      have e : bkCode (z 16) (z 17) (z 18) (z 19) 4 1 2 x = (2:Int) := by (simp at * <;> (repeat' split) <;> omega)
      refine vcIntro (hx2 5 16) (an (u5 h4 h3 h2 h1 h0) (nUW b z e)) ?_
      kernel_rfl
     ·
      rcases eb (!decide ((z 18) > (0:Int))) with h5 | h5
      ·
       have e : bkCode (z 16) (z 17) (z 18) (z 19) 4 1 2 x = (2:Int) := by (simp at * <;> (repeat' split) <;> omega)
       refine vcIntro (hx2 6 32) (an (u6 h5 h4 h3 h2 h1 h0) (nUW b z e)) ?_
       kernel_rfl
      ·
       rcases eb (decide (IntKind.i64.wrap ((z 17) - (1:Int)) < x)) with h6 | h6
       ·
        have e : bkCode (z 16) (z 17) (z 18) (z 19) 4 1 2 x = (3:Int) := by (simp (disch := omega) only [wrapk] at *; simp at * <;> simp [*] <;> done)
        refine vcIntro (hx2 7 64) (an (u7 h6 h5 h4 h3 h2 h1 h0) (nUW b z e)) ?_
        kernel_rfl
       ·
        rcases eb (decide (IntKind.i64.wrap ((z 18) - (1:Int)) > IntKind.i64.wrap ((1048575:Int) - x))) with h7 | h7
        ·
         have e : bkCode (z 16) (z 17) (z 18) (z 19) 4 1 2 x = (4:Int) := by (simp (disch := omega) only [wrapk] at *; simp at * <;> (repeat' split) <;> omega)
         refine vcIntro (hx2 8 128) (an (u8 h7 h6 h5 h4 h3 h2 h1 h0) (nUW b z e)) ?_
         kernel_rfl
        ·
         refine vcIntro (hx2 8 0) (an (u8 h7 h6 h5 h4 h3 h2 h1 h0) (an (an (an tt (cB4b_0 b z (an (show bkNow (z 16) (z 17) (z 18) (z 19) 4 1 2 x 0 = (z 16) by simp) (an (show bkNow (z 16) (z 17) (z 18) (z 19) 4 1 2 x 1 = IntKind.i64.wrap (IntKind.i64.wrap (IntKind.i64.wrap ((z 17) - (1:Int)) - x) + (1:Int)) by (simp (disch := omega) only [wrapk] at *; simp at * <;> (repeat' split) <;> omega)) (an (show bkNow (z 16) (z 17) (z 18) (z 19) 4 1 2 x 2 = IntKind.i64.wrap (IntKind.i64.wrap (IntKind.i64.wrap ((z 18) - (1:Int)) + x) + (1:Int)) by (simp (disch := omega) only [wrapk] at *; simp at * <;> (repeat' split) <;> omega)) (an (show bkNow (z 16) (z 17) (z 18) (z 19) 4 1 2 x 3 = (z 19) by simp) (cB4b_1 z (an tt tt)))))))) tt) (an (zo (an (show bkCode (z 16) (z 17) (z 18) (z 19) 4 1 2 x = (0:Int) by (simp (disch := omega) only [wrapk] at *; simp at * <;> (repeat' split) <;> omega)) (show bkNum (z 16) (z 17) (z 18) (z 19) 4 1 2 x = IntKind.i64.wrap (IntKind.i64.wrap ((z 17) - (1:Int)) - x) by (simp (disch := omega) only [wrapk] at *; simp at * <;> (repeat' split) <;> omega)))) tt))) ?_
         kernel_rfl

theorem nbk_413 : NeedRun 46 (bl b) (zl z) 4 1 3 x := by
 intro hv ho hn
 have m0 := m0_of hv
 have hx := hx_of ho
 have ho' : opMayL [4, 1, 3, x] = true := ho
 simp at hn

 rcases eb (!allMay (zl z)) with h0 | h0
 · exact ff (by simp [hv, ho'] at *)
 ·
  rcases eb (!opMayL [(4:Int), (1:Int), (3:Int), x]) with h1 | h1
  · exact ff (by simp [hv, ho'] at *)
  ·
   rcases eb (!(b 1)) with h2 | h2
   ·
    refine vcIntro (hx2 3 4) (an (u3 h2 h1 h0) (an (an (an (show bkD (bl b) 4 1 3 = (1:Int) by (simp at * <;> simp [*] <;> done)) (cB4b_0 b z (cB4b_2 z (an (ri (z 31)) tt)))) tt) tt)) ?_
    kernel_rfl
   ·
    rcases eb (!(b 3)) with h3 | h3
    ·
     rcases eb (!decide ((z 17) > (0:Int))) with h4 | h4
     ·
      refine vcIntro (hx2 5 24) (an (u5 h4 h3 h2 h1 h0) (an (an (an (show bkD (bl b) 4 1 3 = (3:Int) by (simp at * <;> simp [*] <;> done)) (cB4b_0 b z (cB4b_2 z (an (ri (z 31)) tt)))) tt) tt)) ?_
      kernel_rfl
     ·
      refine vcIntro (hx2 5 8) (an (u5 h4 h3 h2 h1 h0) (an (an (an (show bkD (bl b) 4 1 3 = (3:Int) by (simp at * <;> simp [*] <;> done)) (cB4b_0 b z (cB4b_2 z (an (ri (z 31)) tt)))) tt) tt)) ?_
      kernel_rfl
    · exact ff (by simp_all)

theorem dbk_413 : DoneRun 46 (bl b) (zl z) 4 1 3 x := by
 intro hv ho hn
 have m0 := m0_of hv
 have hx := hx_of ho
 have ho' : opMayL [4, 1, 3, x] = true := ho
 simp at hn

 rcases eb (!allMay (zl z)) with h0 | h0
 · exact ff (by simp [hv, ho'] at *)
 ·
  rcases eb (!opMayL [(4:Int), (1:Int), (3:Int), x]) with h1 | h1
  · exact ff (by simp [hv, ho'] at *)
  ·
   rcases eb (!(b 1)) with h2 | h2
   · exact ff (by simp_all)
   ·
    rcases eb (!(b 3)) with h3 | h3
    · exact ff (by simp_all)
    ·
     rcases eb (!decide ((z 17) > (0:Int))) with h4 | h4
     ·
      have e : bkCode (z 16) (z 17) (z 18) (z 19) 4 1 3 x = (2:Int) := by (simp at * <;> (repeat' split) <;> omega)
      refine vcIntro (hx2 5 16) (an (u5 h4 h3 h2 h1 h0) (nUW b z e)) ?_
      kernel_rfl
     ·
      rcases eb (!decide ((z 19) > (0:Int))) with h5 | h5
      ·
       have e : bkCode (z 16) (z 17) (z 18) (z 19) 4 1 3 x = (2:Int) := by (simp at * <;> (repeat' split) <;> omega)
       refine vcIntro (hx2 6 32) (an (u6 h5 h4 h3 h2 h1 h0) (nUW b z e)) ?_
       kernel_rfl
      ·
       rcases eb (decide (IntKind.i64.wrap ((z 17) - (1:Int)) < x)) with h6 | h6
       ·
        have e : bkCode (z 16) (z 17) (z 18) (z 19) 4 1 3 x = (3:Int) := by (simp (disch := omega) only [wrapk] at *; simp at * <;> simp [*] <;> done)
        refine vcIntro (hx2 7 64) (an (u7 h6 h5 h4 h3 h2 h1 h0) (nUW b z e)) ?_
        kernel_rfl
       ·
        rcases eb (decide (IntKind.i64.wrap ((z 19) - (1:Int)) > IntKind.i64.wrap ((1048575:Int) - x))) with h7 | h7
        ·
         have e : bkCode (z 16) (z 17) (z 18) (z 19) 4 1 3 x = (4:Int) := by (simp (disch := omega) only [wrapk] at *; simp at * <;> (repeat' split) <;> omega)
         refine vcIntro (hx2 8 128) (an (u8 h7 h6 h5 h4 h3 h2 h1 h0) (nUW b z e)) ?_
         kernel_rfl
        ·
         refine vcIntro (hx2 8 0) (an (u8 h7 h6 h5 h4 h3 h2 h1 h0) (an (an (an tt (cB4b_0 b z (an (show bkNow (z 16) (z 17) (z 18) (z 19) 4 1 3 x 0 = (z 16) by simp) (an (show bkNow (z 16) (z 17) (z 18) (z 19) 4 1 3 x 1 = IntKind.i64.wrap (IntKind.i64.wrap (IntKind.i64.wrap ((z 17) - (1:Int)) - x) + (1:Int)) by (simp (disch := omega) only [wrapk] at *; simp at * <;> (repeat' split) <;> omega)) (an (show bkNow (z 16) (z 17) (z 18) (z 19) 4 1 3 x 2 = (z 18) by simp) (an (show bkNow (z 16) (z 17) (z 18) (z 19) 4 1 3 x 3 = IntKind.i64.wrap (IntKind.i64.wrap (IntKind.i64.wrap ((z 19) - (1:Int)) + x) + (1:Int)) by (simp (disch := omega) only [wrapk] at *; simp at * <;> (repeat' split) <;> omega)) (cB4b_1 z (an tt tt)))))))) tt) (an (zo (an (show bkCode (z 16) (z 17) (z 18) (z 19) 4 1 3 x = (0:Int) by (simp (disch := omega) only [wrapk] at *; simp at * <;> (repeat' split) <;> omega)) (show bkNum (z 16) (z 17) (z 18) (z 19) 4 1 3 x = IntKind.i64.wrap (IntKind.i64.wrap ((z 17) - (1:Int)) - x) by (simp (disch := omega) only [wrapk] at *; simp at * <;> (repeat' split) <;> omega)))) tt))) ?_
         kernel_rfl

theorem nbk_420 : NeedRun 46 (bl b) (zl z) 4 2 0 x := by
 intro hv ho hn
 have m0 := m0_of hv
 have hx := hx_of ho
 have ho' : opMayL [4, 2, 0, x] = true := ho
 simp at hn

 rcases eb (!allMay (zl z)) with h0 | h0
 · exact ff (by simp [hv, ho'] at *)
 ·
  rcases eb (!opMayL [(4:Int), (2:Int), (0:Int), x]) with h1 | h1
  · exact ff (by simp [hv, ho'] at *)
  ·
   rcases eb (!(b 2)) with h2 | h2
   ·
    refine vcIntro (hx2 3 4) (an (u3 h2 h1 h0) (an (an (an (show bkD (bl b) 4 2 0 = (2:Int) by (simp at * <;> simp [*] <;> done)) (cB4b_0 b z (cB4b_2 z (an (ri (z 31)) tt)))) tt) tt)) ?_
    kernel_rfl
   ·
    rcases eb (!(b 0)) with h3 | h3
    ·
     rcases eb (!decide ((z 18) > (0:Int))) with h4 | h4
     ·
      refine vcIntro (hx2 5 24) (an (u5 h4 h3 h2 h1 h0) (an (an (an (show bkD (bl b) 4 2 0 = (0:Int) by (simp at * <;> simp [*] <;> done)) (cB4b_0 b z (cB4b_2 z (an (ri (z 31)) tt)))) tt) tt)) ?_
      kernel_rfl
     ·
      refine vcIntro (hx2 5 8) (an (u5 h4 h3 h2 h1 h0) (an (an (an (show bkD (bl b) 4 2 0 = (0:Int) by (simp at * <;> simp [*] <;> done)) (cB4b_0 b z (cB4b_2 z (an (ri (z 31)) tt)))) tt) tt)) ?_
      kernel_rfl
    · exact ff (by simp_all)

theorem dbk_420 : DoneRun 46 (bl b) (zl z) 4 2 0 x := by
 intro hv ho hn
 have m0 := m0_of hv
 have hx := hx_of ho
 have ho' : opMayL [4, 2, 0, x] = true := ho
 simp at hn

 rcases eb (!allMay (zl z)) with h0 | h0
 · exact ff (by simp [hv, ho'] at *)
 ·
  rcases eb (!opMayL [(4:Int), (2:Int), (0:Int), x]) with h1 | h1
  · exact ff (by simp [hv, ho'] at *)
  ·
   rcases eb (!(b 2)) with h2 | h2
   · exact ff (by simp_all)
   ·
    rcases eb (!(b 0)) with h3 | h3
    · exact ff (by simp_all)
    ·
     rcases eb (!decide ((z 18) > (0:Int))) with h4 | h4
     ·
      have e : bkCode (z 16) (z 17) (z 18) (z 19) 4 2 0 x = (2:Int) := by (simp at * <;> (repeat' split) <;> omega)
      refine vcIntro (hx2 5 16) (an (u5 h4 h3 h2 h1 h0) (nUW b z e)) ?_
      kernel_rfl
     ·
      rcases eb (!decide ((z 16) > (0:Int))) with h5 | h5
      ·
       have e : bkCode (z 16) (z 17) (z 18) (z 19) 4 2 0 x = (2:Int) := by (simp at * <;> (repeat' split) <;> omega)
       refine vcIntro (hx2 6 32) (an (u6 h5 h4 h3 h2 h1 h0) (nUW b z e)) ?_
       kernel_rfl
      ·
       rcases eb (decide (IntKind.i64.wrap ((z 18) - (1:Int)) < x)) with h6 | h6
       ·
        have e : bkCode (z 16) (z 17) (z 18) (z 19) 4 2 0 x = (3:Int) := by (simp (disch := omega) only [wrapk] at *; simp at * <;> simp [*] <;> done)
        refine vcIntro (hx2 7 64) (an (u7 h6 h5 h4 h3 h2 h1 h0) (nUW b z e)) ?_
        kernel_rfl
       ·
        rcases eb (decide (IntKind.i64.wrap ((z 16) - (1:Int)) > IntKind.i64.wrap ((1048575:Int) - x))) with h7 | h7
        ·
         have e : bkCode (z 16) (z 17) (z 18) (z 19) 4 2 0 x = (4:Int) := by (simp (disch := omega) only [wrapk] at *; simp at * <;> (repeat' split) <;> omega)
         refine vcIntro (hx2 8 128) (an (u8 h7 h6 h5 h4 h3 h2 h1 h0) (nUW b z e)) ?_
         kernel_rfl
        ·
         refine vcIntro (hx2 8 0) (an (u8 h7 h6 h5 h4 h3 h2 h1 h0) (an (an (an tt (cB4b_0 b z (an (show bkNow (z 16) (z 17) (z 18) (z 19) 4 2 0 x 0 = IntKind.i64.wrap (IntKind.i64.wrap (IntKind.i64.wrap ((z 16) - (1:Int)) + x) + (1:Int)) by (simp (disch := omega) only [wrapk] at *; simp at * <;> (repeat' split) <;> omega)) (an (show bkNow (z 16) (z 17) (z 18) (z 19) 4 2 0 x 1 = (z 17) by simp) (an (show bkNow (z 16) (z 17) (z 18) (z 19) 4 2 0 x 2 = IntKind.i64.wrap (IntKind.i64.wrap (IntKind.i64.wrap ((z 18) - (1:Int)) - x) + (1:Int)) by (simp (disch := omega) only [wrapk] at *; simp at * <;> (repeat' split) <;> omega)) (an (show bkNow (z 16) (z 17) (z 18) (z 19) 4 2 0 x 3 = (z 19) by simp) (cB4b_1 z (an tt tt)))))))) tt) (an (zo (an (show bkCode (z 16) (z 17) (z 18) (z 19) 4 2 0 x = (0:Int) by (simp (disch := omega) only [wrapk] at *; simp at * <;> (repeat' split) <;> omega)) (show bkNum (z 16) (z 17) (z 18) (z 19) 4 2 0 x = IntKind.i64.wrap (IntKind.i64.wrap ((z 18) - (1:Int)) - x) by (simp (disch := omega) only [wrapk] at *; simp at * <;> (repeat' split) <;> omega)))) tt))) ?_
         kernel_rfl

theorem nbk_421 : NeedRun 46 (bl b) (zl z) 4 2 1 x := by
 intro hv ho hn
 have m0 := m0_of hv
 have hx := hx_of ho
 have ho' : opMayL [4, 2, 1, x] = true := ho
 simp at hn

 rcases eb (!allMay (zl z)) with h0 | h0
 · exact ff (by simp [hv, ho'] at *)
 ·
  rcases eb (!opMayL [(4:Int), (2:Int), (1:Int), x]) with h1 | h1
  · exact ff (by simp [hv, ho'] at *)
  ·
   rcases eb (!(b 2)) with h2 | h2
   ·
    refine vcIntro (hx2 3 4) (an (u3 h2 h1 h0) (an (an (an (show bkD (bl b) 4 2 1 = (2:Int) by (simp at * <;> simp [*] <;> done)) (cB4b_0 b z (cB4b_2 z (an (ri (z 31)) tt)))) tt) tt)) ?_
    kernel_rfl
   ·
    rcases eb (!(b 1)) with h3 | h3
    ·
     rcases eb (!decide ((z 18) > (0:Int))) with h4 | h4
     ·
      refine vcIntro (hx2 5 24) (an (u5 h4 h3 h2 h1 h0) (an (an (an (show bkD (bl b) 4 2 1 = (1:Int) by (simp at * <;> simp [*] <;> done)) (cB4b_0 b z (cB4b_2 z (an (ri (z 31)) tt)))) tt) tt)) ?_
      kernel_rfl
     ·
      refine vcIntro (hx2 5 8) (an (u5 h4 h3 h2 h1 h0) (an (an (an (show bkD (bl b) 4 2 1 = (1:Int) by (simp at * <;> simp [*] <;> done)) (cB4b_0 b z (cB4b_2 z (an (ri (z 31)) tt)))) tt) tt)) ?_
      kernel_rfl
    · exact ff (by simp_all)

theorem dbk_421 : DoneRun 46 (bl b) (zl z) 4 2 1 x := by
 intro hv ho hn
 have m0 := m0_of hv
 have hx := hx_of ho
 have ho' : opMayL [4, 2, 1, x] = true := ho
 simp at hn

 rcases eb (!allMay (zl z)) with h0 | h0
 · exact ff (by simp [hv, ho'] at *)
 ·
  rcases eb (!opMayL [(4:Int), (2:Int), (1:Int), x]) with h1 | h1
  · exact ff (by simp [hv, ho'] at *)
  ·
   rcases eb (!(b 2)) with h2 | h2
   · exact ff (by simp_all)
   ·
    rcases eb (!(b 1)) with h3 | h3
    · exact ff (by simp_all)
    ·
     rcases eb (!decide ((z 18) > (0:Int))) with h4 | h4
     ·
      have e : bkCode (z 16) (z 17) (z 18) (z 19) 4 2 1 x = (2:Int) := by (simp at * <;> (repeat' split) <;> omega)
      refine vcIntro (hx2 5 16) (an (u5 h4 h3 h2 h1 h0) (nUW b z e)) ?_
      kernel_rfl
     ·
      rcases eb (!decide ((z 17) > (0:Int))) with h5 | h5
      ·
       have e : bkCode (z 16) (z 17) (z 18) (z 19) 4 2 1 x = (2:Int) := by (simp at * <;> (repeat' split) <;> omega)
       refine vcIntro (hx2 6 32) (an (u6 h5 h4 h3 h2 h1 h0) (nUW b z e)) ?_
       kernel_rfl
      ·
       rcases eb (decide (IntKind.i64.wrap ((z 18) - (1:Int)) < x)) with h6 | h6
       ·
        have e : bkCode (z 16) (z 17) (z 18) (z 19) 4 2 1 x = (3:Int) := by (simp (disch := omega) only [wrapk] at *; simp at * <;> simp [*] <;> done)
        refine vcIntro (hx2 7 64) (an (u7 h6 h5 h4 h3 h2 h1 h0) (nUW b z e)) ?_
        kernel_rfl
       ·
        rcases eb (decide (IntKind.i64.wrap ((z 17) - (1:Int)) > IntKind.i64.wrap ((1048575:Int) - x))) with h7 | h7
        ·
         have e : bkCode (z 16) (z 17) (z 18) (z 19) 4 2 1 x = (4:Int) := by (simp (disch := omega) only [wrapk] at *; simp at * <;> (repeat' split) <;> omega)
         refine vcIntro (hx2 8 128) (an (u8 h7 h6 h5 h4 h3 h2 h1 h0) (nUW b z e)) ?_
         kernel_rfl
        ·
         refine vcIntro (hx2 8 0) (an (u8 h7 h6 h5 h4 h3 h2 h1 h0) (an (an (an tt (cB4b_0 b z (an (show bkNow (z 16) (z 17) (z 18) (z 19) 4 2 1 x 0 = (z 16) by simp) (an (show bkNow (z 16) (z 17) (z 18) (z 19) 4 2 1 x 1 = IntKind.i64.wrap (IntKind.i64.wrap (IntKind.i64.wrap ((z 17) - (1:Int)) + x) + (1:Int)) by (simp (disch := omega) only [wrapk] at *; simp at * <;> (repeat' split) <;> omega)) (an (show bkNow (z 16) (z 17) (z 18) (z 19) 4 2 1 x 2 = IntKind.i64.wrap (IntKind.i64.wrap (IntKind.i64.wrap ((z 18) - (1:Int)) - x) + (1:Int)) by (simp (disch := omega) only [wrapk] at *; simp at * <;> (repeat' split) <;> omega)) (an (show bkNow (z 16) (z 17) (z 18) (z 19) 4 2 1 x 3 = (z 19) by simp) (cB4b_1 z (an tt tt)))))))) tt) (an (zo (an (show bkCode (z 16) (z 17) (z 18) (z 19) 4 2 1 x = (0:Int) by (simp (disch := omega) only [wrapk] at *; simp at * <;> (repeat' split) <;> omega)) (show bkNum (z 16) (z 17) (z 18) (z 19) 4 2 1 x = IntKind.i64.wrap (IntKind.i64.wrap ((z 18) - (1:Int)) - x) by (simp (disch := omega) only [wrapk] at *; simp at * <;> (repeat' split) <;> omega)))) tt))) ?_
         kernel_rfl

theorem nbk_422 : NeedRun 46 (bl b) (zl z) 4 2 2 x := by
 intro hv ho hn
 have m0 := m0_of hv
 have hx := hx_of ho
 have ho' : opMayL [4, 2, 2, x] = true := ho
 simp at hn

 rcases eb (!allMay (zl z)) with h0 | h0
 · exact ff (by simp [hv, ho'] at *)
 ·
  rcases eb (!opMayL [(4:Int), (2:Int), (2:Int), x]) with h1 | h1
  · exact ff (by simp [hv, ho'] at *)
  ·
   rcases eb (!(b 2)) with h2 | h2
   ·
    refine vcIntro (hx2 3 4) (an (u3 h2 h1 h0) (an (an (an (show bkD (bl b) 4 2 2 = (2:Int) by (simp at * <;> simp [*] <;> done)) (cB4b_0 b z (cB4b_2 z (an (ri (z 31)) tt)))) tt) tt)) ?_
    kernel_rfl
   · exact ff (by simp_all)

theorem dbk_422 : DoneRun 46 (bl b) (zl z) 4 2 2 x := by
 intro hv ho hn
 have m0 := m0_of hv
 have hx := hx_of ho
 have ho' : opMayL [4, 2, 2, x] = true := ho
 simp at hn

 rcases eb (!allMay (zl z)) with h0 | h0
 · exact ff (by simp [hv, ho'] at *)
 ·
  rcases eb (!opMayL [(4:Int), (2:Int), (2:Int), x]) with h1 | h1
  · exact ff (by simp [hv, ho'] at *)
  ·
   rcases eb (!(b 2)) with h2 | h2
   · exact ff (by simp_all)
   ·
    rcases eb (!decide ((z 18) > (0:Int))) with h3 | h3
    ·
     have e : bkCode (z 16) (z 17) (z 18) (z 19) 4 2 2 x = (2:Int) := by (simp at * <;> (repeat' split) <;> omega)
     refine vcIntro (hx2 5 16) (an (u5 h3 h2 h2 h1 h0) (nUW b z e)) ?_
     kernel_rfl
    ·
     rcases eb (decide (IntKind.i64.wrap ((z 18) - (1:Int)) < x)) with h4 | h4
     ·
      have e : bkCode (z 16) (z 17) (z 18) (z 19) 4 2 2 x = (3:Int) := by (simp (disch := omega) only [wrapk] at *; simp at * <;> simp [*] <;> done)
      refine vcIntro (hx2 7 64) (an (u7 h4 h3 h3 h2 h2 h1 h0) (nUW b z e)) ?_
      kernel_rfl
     ·
      refine vcIntro (hx2 7 0) (an (u7 h4 h3 h3 h2 h2 h1 h0) (an (an (an tt (cB4b_0 b z (an (show bkNow (z 16) (z 17) (z 18) (z 19) 4 2 2 x 0 = (z 16) by simp) (an (show bkNow (z 16) (z 17) (z 18) (z 19) 4 2 2 x 1 = (z 17) by simp) (an (show bkNow (z 16) (z 17) (z 18) (z 19) 4 2 2 x 2 = (z 18) by simp) (an (show bkNow (z 16) (z 17) (z 18) (z 19) 4 2 2 x 3 = (z 19) by simp) (cB4b_1 z (an tt tt)))))))) tt) (an (zo (an (show bkCode (z 16) (z 17) (z 18) (z 19) 4 2 2 x = (0:Int) by (simp (disch := omega) only [wrapk] at *; simp at * <;> simp [*] <;> done)) (show bkNum (z 16) (z 17) (z 18) (z 19) 4 2 2 x = IntKind.i64.wrap ((z 18) - (1:Int)) by (simp (disch := omega) only [wrapk] at *; simp at * <;> simp [*] <;> done)))) tt))) ?_
      kernel_rfl

theorem nbk_423 : NeedRun 46 (bl b) (zl z) 4 2 3 x := by
 intro hv ho hn
 have m0 := m0_of hv
 have hx := hx_of ho
 have ho' : opMayL [4, 2, 3, x] = true := ho
 simp at hn

 rcases eb (!allMay (zl z)) with h0 | h0
 · exact ff (by simp [hv, ho'] at *)
 ·
  rcases eb (!opMayL [(4:Int), (2:Int), (3:Int), x]) with h1 | h1
  · exact ff (by simp [hv, ho'] at *)
  ·
   rcases eb (!(b 2)) with h2 | h2
   ·
    refine vcIntro (hx2 3 4) (an (u3 h2 h1 h0) (an (an (an (show bkD (bl b) 4 2 3 = (2:Int) by (simp at * <;> simp [*] <;> done)) (cB4b_0 b z (cB4b_2 z (an (ri (z 31)) tt)))) tt) tt)) ?_
    kernel_rfl
   ·
    rcases eb (!(b 3)) with h3 | h3
    ·
     rcases eb (!decide ((z 18) > (0:Int))) with h4 | h4
     ·
      refine vcIntro (hx2 5 24) (an (u5 h4 h3 h2 h1 h0) (an (an (an (show bkD (bl b) 4 2 3 = (3:Int) by (simp at * <;> simp [*] <;> done)) (cB4b_0 b z (cB4b_2 z (an (ri (z 31)) tt)))) tt) tt)) ?_
      kernel_rfl
     ·
      refine vcIntro (hx2 5 8) (an (u5 h4 h3 h2 h1 h0) (an (an (an (show bkD (bl b) 4 2 3 = (3:Int) by (simp at * <;> simp [*] <;> done)) (cB4b_0 b z (cB4b_2 z (an (ri (z 31)) tt)))) tt) tt)) ?_
      kernel_rfl
    · exact ff (by simp_all)

theorem dbk_423 : DoneRun 46 (bl b) (zl z) 4 2 3 x := by
 intro hv ho hn
 have m0 := m0_of hv
 have hx := hx_of ho
 have ho' : opMayL [4, 2, 3, x] = true := ho
 simp at hn

 rcases eb (!allMay (zl z)) with h0 | h0
 · exact ff (by simp [hv, ho'] at *)
 ·
  rcases eb (!opMayL [(4:Int), (2:Int), (3:Int), x]) with h1 | h1
  · exact ff (by simp [hv, ho'] at *)
  ·
   rcases eb (!(b 2)) with h2 | h2
   · exact ff (by simp_all)
   ·
    rcases eb (!(b 3)) with h3 | h3
    · exact ff (by simp_all)
    ·
     rcases eb (!decide ((z 18) > (0:Int))) with h4 | h4
     ·
      have e : bkCode (z 16) (z 17) (z 18) (z 19) 4 2 3 x = (2:Int) := by (simp at * <;> (repeat' split) <;> omega)
      refine vcIntro (hx2 5 16) (an (u5 h4 h3 h2 h1 h0) (nUW b z e)) ?_
      kernel_rfl
     ·
      rcases eb (!decide ((z 19) > (0:Int))) with h5 | h5
      ·
       have e : bkCode (z 16) (z 17) (z 18) (z 19) 4 2 3 x = (2:Int) := by (simp at * <;> (repeat' split) <;> omega)
       refine vcIntro (hx2 6 32) (an (u6 h5 h4 h3 h2 h1 h0) (nUW b z e)) ?_
       kernel_rfl
      ·
       rcases eb (decide (IntKind.i64.wrap ((z 18) - (1:Int)) < x)) with h6 | h6
       ·
        have e : bkCode (z 16) (z 17) (z 18) (z 19) 4 2 3 x = (3:Int) := by (simp (disch := omega) only [wrapk] at *; simp at * <;> simp [*] <;> done)
        refine vcIntro (hx2 7 64) (an (u7 h6 h5 h4 h3 h2 h1 h0) (nUW b z e)) ?_
        kernel_rfl
       ·
        rcases eb (decide (IntKind.i64.wrap ((z 19) - (1:Int)) > IntKind.i64.wrap ((1048575:Int) - x))) with h7 | h7
        ·
         have e : bkCode (z 16) (z 17) (z 18) (z 19) 4 2 3 x = (4:Int) := by (simp (disch := omega) only [wrapk] at *; simp at * <;> (repeat' split) <;> omega)
         refine vcIntro (hx2 8 128) (an (u8 h7 h6 h5 h4 h3 h2 h1 h0) (nUW b z e)) ?_
         kernel_rfl
        ·
         refine vcIntro (hx2 8 0) (an (u8 h7 h6 h5 h4 h3 h2 h1 h0) (an (an (an tt (cB4b_0 b z (an (show bkNow (z 16) (z 17) (z 18) (z 19) 4 2 3 x 0 = (z 16) by simp) (an (show bkNow (z 16) (z 17) (z 18) (z 19) 4 2 3 x 1 = (z 17) by simp) (an (show bkNow (z 16) (z 17) (z 18) (z 19) 4 2 3 x 2 = IntKind.i64.wrap (IntKind.i64.wrap (IntKind.i64.wrap ((z 18) - (1:Int)) - x) + (1:Int)) by (simp (disch := omega) only [wrapk] at *; simp at * <;> (repeat' split) <;> omega)) (an (show bkNow (z 16) (z 17) (z 18) (z 19) 4 2 3 x 3 = IntKind.i64.wrap (IntKind.i64.wrap (IntKind.i64.wrap ((z 19) - (1:Int)) + x) + (1:Int)) by (simp (disch := omega) only [wrapk] at *; simp at * <;> (repeat' split) <;> omega)) (cB4b_1 z (an tt tt)))))))) tt) (an (zo (an (show bkCode (z 16) (z 17) (z 18) (z 19) 4 2 3 x = (0:Int) by (simp (disch := omega) only [wrapk] at *; simp at * <;> (repeat' split) <;> omega)) (show bkNum (z 16) (z 17) (z 18) (z 19) 4 2 3 x = IntKind.i64.wrap (IntKind.i64.wrap ((z 18) - (1:Int)) - x) by (simp (disch := omega) only [wrapk] at *; simp at * <;> (repeat' split) <;> omega)))) tt))) ?_
         kernel_rfl

theorem nbk_430 : NeedRun 46 (bl b) (zl z) 4 3 0 x := by
 intro hv ho hn
 have m0 := m0_of hv
 have hx := hx_of ho
 have ho' : opMayL [4, 3, 0, x] = true := ho
 simp at hn

 rcases eb (!allMay (zl z)) with h0 | h0
 · exact ff (by simp [hv, ho'] at *)
 ·
  rcases eb (!opMayL [(4:Int), (3:Int), (0:Int), x]) with h1 | h1
  · exact ff (by simp [hv, ho'] at *)
  ·
   rcases eb (!(b 3)) with h2 | h2
   ·
    refine vcIntro (hx2 3 4) (an (u3 h2 h1 h0) (an (an (an (show bkD (bl b) 4 3 0 = (3:Int) by (simp at * <;> simp [*] <;> done)) (cB4b_0 b z (cB4b_2 z (an (ri (z 31)) tt)))) tt) tt)) ?_
    kernel_rfl
   ·
    rcases eb (!(b 0)) with h3 | h3
    ·
     rcases eb (!decide ((z 19) > (0:Int))) with h4 | h4
     ·
      refine vcIntro (hx2 5 24) (an (u5 h4 h3 h2 h1 h0) (an (an (an (show bkD (bl b) 4 3 0 = (0:Int) by (simp at * <;> simp [*] <;> done)) (cB4b_0 b z (cB4b_2 z (an (ri (z 31)) tt)))) tt) tt)) ?_
      kernel_rfl
     ·
      refine vcIntro (hx2 5 8) (an (u5 h4 h3 h2 h1 h0) (an (an (an (show bkD (bl b) 4 3 0 = (0:Int) by (simp at * <;> simp [*] <;> done)) (cB4b_0 b z (cB4b_2 z (an (ri (z 31)) tt)))) tt) tt)) ?_
      kernel_rfl
    · exact ff (by simp_all)

theorem dbk_430 : DoneRun 46 (bl b) (zl z) 4 3 0 x := by
 intro hv ho hn
 have m0 := m0_of hv
 have hx := hx_of ho
 have ho' : opMayL [4, 3, 0, x] = true := ho
 simp at hn

 rcases eb (!allMay (zl z)) with h0 | h0
 · exact ff (by simp [hv, ho'] at *)
 ·
  rcases eb (!opMayL [(4:Int), (3:Int), (0:Int), x]) with h1 | h1
  · exact ff (by simp [hv, ho'] at *)
  ·
   rcases eb (!(b 3)) with h2 | h2
   · exact ff (by simp_all)
   ·
    rcases eb (!(b 0)) with h3 | h3
    · exact ff (by simp_all)
    ·
     rcases eb (!decide ((z 19) > (0:Int))) with h4 | h4
     ·
      have e : bkCode (z 16) (z 17) (z 18) (z 19) 4 3 0 x = (2:Int) := by (simp at * <;> (repeat' split) <;> omega)
      refine vcIntro (hx2 5 16) (an (u5 h4 h3 h2 h1 h0) (nUW b z e)) ?_
      kernel_rfl
     ·
      rcases eb (!decide ((z 16) > (0:Int))) with h5 | h5
      ·
       have e : bkCode (z 16) (z 17) (z 18) (z 19) 4 3 0 x = (2:Int) := by (simp at * <;> (repeat' split) <;> omega)
       refine vcIntro (hx2 6 32) (an (u6 h5 h4 h3 h2 h1 h0) (nUW b z e)) ?_
       kernel_rfl
      ·
       rcases eb (decide (IntKind.i64.wrap ((z 19) - (1:Int)) < x)) with h6 | h6
       ·
        have e : bkCode (z 16) (z 17) (z 18) (z 19) 4 3 0 x = (3:Int) := by (simp (disch := omega) only [wrapk] at *; simp at * <;> simp [*] <;> done)
        refine vcIntro (hx2 7 64) (an (u7 h6 h5 h4 h3 h2 h1 h0) (nUW b z e)) ?_
        kernel_rfl
       ·
        rcases eb (decide (IntKind.i64.wrap ((z 16) - (1:Int)) > IntKind.i64.wrap ((1048575:Int) - x))) with h7 | h7
        ·
         have e : bkCode (z 16) (z 17) (z 18) (z 19) 4 3 0 x = (4:Int) := by (simp (disch := omega) only [wrapk] at *; simp at * <;> (repeat' split) <;> omega)
         refine vcIntro (hx2 8 128) (an (u8 h7 h6 h5 h4 h3 h2 h1 h0) (nUW b z e)) ?_
         kernel_rfl
        ·
         refine vcIntro (hx2 8 0) (an (u8 h7 h6 h5 h4 h3 h2 h1 h0) (an (an (an tt (cB4b_0 b z (an (show bkNow (z 16) (z 17) (z 18) (z 19) 4 3 0 x 0 = IntKind.i64.wrap (IntKind.i64.wrap (IntKind.i64.wrap ((z 16) - (1:Int)) + x) + (1:Int)) by (simp (disch := omega) only [wrapk] at *; simp at * <;> (repeat' split) <;> omega)) (an (show bkNow (z 16) (z 17) (z 18) (z 19) 4 3 0 x 1 = (z 17) by simp) (an (show bkNow (z 16) (z 17) (z 18) (z 19) 4 3 0 x 2 = (z 18) by simp) (an (show bkNow (z 16) (z 17) (z 18) (z 19) 4 3 0 x 3 = IntKind.i64.wrap (IntKind.i64.wrap (IntKind.i64.wrap ((z 19) - (1:Int)) - x) + (1:Int)) by (simp (disch := omega) only [wrapk] at *; simp at * <;> (repeat' split) <;> omega)) (cB4b_1 z (an tt tt)))))))) tt) (an (zo (an (show bkCode (z 16) (z 17) (z 18) (z 19) 4 3 0 x = (0:Int) by (simp (disch := omega) only [wrapk] at *; simp at * <;> (repeat' split) <;> omega)) (show bkNum (z 16) (z 17) (z 18) (z 19) 4 3 0 x = IntKind.i64.wrap (IntKind.i64.wrap ((z 19) - (1:Int)) - x) by (simp (disch := omega) only [wrapk] at *; simp at * <;> (repeat' split) <;> omega)))) tt))) ?_
         kernel_rfl

theorem nbk_431 : NeedRun 46 (bl b) (zl z) 4 3 1 x := by
 intro hv ho hn
 have m0 := m0_of hv
 have hx := hx_of ho
 have ho' : opMayL [4, 3, 1, x] = true := ho
 simp at hn

 rcases eb (!allMay (zl z)) with h0 | h0
 · exact ff (by simp [hv, ho'] at *)
 ·
  rcases eb (!opMayL [(4:Int), (3:Int), (1:Int), x]) with h1 | h1
  · exact ff (by simp [hv, ho'] at *)
  ·
   rcases eb (!(b 3)) with h2 | h2
   ·
    refine vcIntro (hx2 3 4) (an (u3 h2 h1 h0) (an (an (an (show bkD (bl b) 4 3 1 = (3:Int) by (simp at * <;> simp [*] <;> done)) (cB4b_0 b z (cB4b_2 z (an (ri (z 31)) tt)))) tt) tt)) ?_
    kernel_rfl
   ·
    rcases eb (!(b 1)) with h3 | h3
    ·
     rcases eb (!decide ((z 19) > (0:Int))) with h4 | h4
     ·
      refine vcIntro (hx2 5 24) (an (u5 h4 h3 h2 h1 h0) (an (an (an (show bkD (bl b) 4 3 1 = (1:Int) by (simp at * <;> simp [*] <;> done)) (cB4b_0 b z (cB4b_2 z (an (ri (z 31)) tt)))) tt) tt)) ?_
      kernel_rfl
     ·
      refine vcIntro (hx2 5 8) (an (u5 h4 h3 h2 h1 h0) (an (an (an (show bkD (bl b) 4 3 1 = (1:Int) by (simp at * <;> simp [*] <;> done)) (cB4b_0 b z (cB4b_2 z (an (ri (z 31)) tt)))) tt) tt)) ?_
      kernel_rfl
    · exact ff (by simp_all)

theorem dbk_431 : DoneRun 46 (bl b) (zl z) 4 3 1 x := by
 intro hv ho hn
 have m0 := m0_of hv
 have hx := hx_of ho
 have ho' : opMayL [4, 3, 1, x] = true := ho
 simp at hn

 rcases eb (!allMay (zl z)) with h0 | h0
 · exact ff (by simp [hv, ho'] at *)
 ·
  rcases eb (!opMayL [(4:Int), (3:Int), (1:Int), x]) with h1 | h1
  · exact ff (by simp [hv, ho'] at *)
  ·
   rcases eb (!(b 3)) with h2 | h2
   · exact ff (by simp_all)
   ·
    rcases eb (!(b 1)) with h3 | h3
    · exact ff (by simp_all)
    ·
     rcases eb (!decide ((z 19) > (0:Int))) with h4 | h4
     ·
      have e : bkCode (z 16) (z 17) (z 18) (z 19) 4 3 1 x = (2:Int) := by (simp at * <;> (repeat' split) <;> omega)
      refine vcIntro (hx2 5 16) (an (u5 h4 h3 h2 h1 h0) (nUW b z e)) ?_
      kernel_rfl
     ·
      rcases eb (!decide ((z 17) > (0:Int))) with h5 | h5
      ·
       have e : bkCode (z 16) (z 17) (z 18) (z 19) 4 3 1 x = (2:Int) := by (simp at * <;> (repeat' split) <;> omega)
       refine vcIntro (hx2 6 32) (an (u6 h5 h4 h3 h2 h1 h0) (nUW b z e)) ?_
       kernel_rfl
      ·
       rcases eb (decide (IntKind.i64.wrap ((z 19) - (1:Int)) < x)) with h6 | h6
       ·
        have e : bkCode (z 16) (z 17) (z 18) (z 19) 4 3 1 x = (3:Int) := by (simp (disch := omega) only [wrapk] at *; simp at * <;> simp [*] <;> done)
        refine vcIntro (hx2 7 64) (an (u7 h6 h5 h4 h3 h2 h1 h0) (nUW b z e)) ?_
        kernel_rfl
       ·
        rcases eb (decide (IntKind.i64.wrap ((z 17) - (1:Int)) > IntKind.i64.wrap ((1048575:Int) - x))) with h7 | h7
        ·
         have e : bkCode (z 16) (z 17) (z 18) (z 19) 4 3 1 x = (4:Int) := by (simp (disch := omega) only [wrapk] at *; simp at * <;> (repeat' split) <;> omega)
         refine vcIntro (hx2 8 128) (an (u8 h7 h6 h5 h4 h3 h2 h1 h0) (nUW b z e)) ?_
         kernel_rfl
        ·
         refine vcIntro (hx2 8 0) (an (u8 h7 h6 h5 h4 h3 h2 h1 h0) (an (an (an tt (cB4b_0 b z (an (show bkNow (z 16) (z 17) (z 18) (z 19) 4 3 1 x 0 = (z 16) by simp) (an (show bkNow (z 16) (z 17) (z 18) (z 19) 4 3 1 x 1 = IntKind.i64.wrap (IntKind.i64.wrap (IntKind.i64.wrap ((z 17) - (1:Int)) + x) + (1:Int)) by (simp (disch := omega) only [wrapk] at *; simp at * <;> (repeat' split) <;> omega)) (an (show bkNow (z 16) (z 17) (z 18) (z 19) 4 3 1 x 2 = (z 18) by simp) (an (show bkNow (z 16) (z 17) (z 18) (z 19) 4 3 1 x 3 = IntKind.i64.wrap (IntKind.i64.wrap (IntKind.i64.wrap ((z 19) - (1:Int)) - x) + (1:Int)) by (simp (disch := omega) only [wrapk] at *; simp at * <;> (repeat' split) <;> omega)) (cB4b_1 z (an tt tt)))))))) tt) (an (zo (an (show bkCode (z 16) (z 17) (z 18) (z 19) 4 3 1 x = (0:Int) by (simp (disch := omega) only [wrapk] at *; simp at * <;> (repeat' split) <;> omega)) (show bkNum (z 16) (z 17) (z 18) (z 19) 4 3 1 x = IntKind.i64.wrap (IntKind.i64.wrap ((z 19) - (1:Int)) - x) by (simp (disch := omega) only [wrapk] at *; simp at * <;> (repeat' split) <;> omega)))) tt))) ?_
         kernel_rfl

theorem nbk_432 : NeedRun 46 (bl b) (zl z) 4 3 2 x := by
 intro hv ho hn
 have m0 := m0_of hv
 have hx := hx_of ho
 have ho' : opMayL [4, 3, 2, x] = true := ho
 simp at hn

 rcases eb (!allMay (zl z)) with h0 | h0
 · exact ff (by simp [hv, ho'] at *)
 ·
  rcases eb (!opMayL [(4:Int), (3:Int), (2:Int), x]) with h1 | h1
  · exact ff (by simp [hv, ho'] at *)
  ·
   rcases eb (!(b 3)) with h2 | h2
   ·
    refine vcIntro (hx2 3 4) (an (u3 h2 h1 h0) (an (an (an (show bkD (bl b) 4 3 2 = (3:Int) by (simp at * <;> simp [*] <;> done)) (cB4b_0 b z (cB4b_2 z (an (ri (z 31)) tt)))) tt) tt)) ?_
    kernel_rfl
   ·
    rcases eb (!(b 2)) with h3 | h3
    ·
     rcases eb (!decide ((z 19) > (0:Int))) with h4 | h4
     ·
      refine vcIntro (hx2 5 24) (an (u5 h4 h3 h2 h1 h0) (an (an (an (show bkD (bl b) 4 3 2 = (2:Int) by (simp at * <;> simp [*] <;> done)) (cB4b_0 b z (cB4b_2 z (an (ri (z 31)) tt)))) tt) tt)) ?_
      kernel_rfl
     ·
      refine vcIntro (hx2 5 8) (an (u5 h4 h3 h2 h1 h0) (an (an (an (show bkD (bl b) 4 3 2 = (2:Int) by (simp at * <;> simp [*] <;> done)) (cB4b_0 b z (cB4b_2 z (an (ri (z 31)) tt)))) tt) tt)) ?_
      kernel_rfl
    · exact ff (by simp_all)

theorem dbk_432 : DoneRun 46 (bl b) (zl z) 4 3 2 x := by
 intro hv ho hn
 have m0 := m0_of hv
 have hx := hx_of ho
 have ho' : opMayL [4, 3, 2, x] = true := ho
 simp at hn

 rcases eb (!allMay (zl z)) with h0 | h0
 · exact ff (by simp [hv, ho'] at *)
 ·
  rcases eb (!opMayL [(4:Int), (3:Int), (2:Int), x]) with h1 | h1
  · exact ff (by simp [hv, ho'] at *)
  ·
   rcases eb (!(b 3)) with h2 | h2
   · exact ff (by simp_all)
   ·
    rcases eb (!(b 2)) with h3 | h3
    · exact ff (by simp_all)
    ·
     rcases eb (!decide ((z 19) > (0:Int))) with h4 | h4
     ·
      have e : bkCode (z 16) (z 17) (z 18) (z 19) 4 3 2 x = (2:Int) := by (simp at * <;> (repeat' split) <;> omega)
      refine vcIntro (hx2 5 16) (an (u5 h4 h3 h2 h1 h0) (nUW b z e)) ?_
      kernel_rfl
     ·
      rcases eb (!decide ((z 18) > (0:Int))) with h5 | h5
      ·
       have e : bkCode (z 16) (z 17) (z 18) (z 19) 4 3 2 x = (2:Int) := by (simp at * <;> (repeat' split) <;> omega)
       refine vcIntro (hx2 6 32) (an (u6 h5 h4 h3 h2 h1 h0) (nUW b z e)) ?_
       kernel_rfl
      ·
       rcases eb (decide (IntKind.i64.wrap ((z 19) - (1:Int)) < x)) with h6 | h6
       ·
        have e : bkCode (z 16) (z 17) (z 18) (z 19) 4 3 2 x = (3:Int) := by (simp (disch := omega) only [wrapk] at *; simp at * <;> simp [*] <;> done)
        refine vcIntro (hx2 7 64) (an (u7 h6 h5 h4 h3 h2 h1 h0) (nUW b z e)) ?_
        kernel_rfl
       ·
        rcases eb (decide (IntKind.i64.wrap ((z 18) - (1:Int)) > IntKind.i64.wrap ((1048575:Int) - x))) with h7 | h7
        ·
         have e : bkCode (z 16) (z 17) (z 18) (z 19) 4 3 2 x = (4:Int) := by (simp (disch := omega) only [wrapk] at *; simp at * <;> (repeat' split) <;> omega)
         refine vcIntro (hx2 8 128) (an (u8 h7 h6 h5 h4 h3 h2 h1 h0) (nUW b z e)) ?_
         kernel_rfl
        ·
         refine vcIntro (hx2 8 0) (an (u8 h7 h6 h5 h4 h3 h2 h1 h0) (an (an (an tt (cB4b_0 b z (an (show bkNow (z 16) (z 17) (z 18) (z 19) 4 3 2 x 0 = (z 16) by simp) (an (show bkNow (z 16) (z 17) (z 18) (z 19) 4 3 2 x 1 = (z 17) by simp) (an (show bkNow (z 16) (z 17) (z 18) (z 19) 4 3 2 x 2 = IntKind.i64.wrap (IntKind.i64.wrap (IntKind.i64.wrap ((z 18) - (1:Int)) + x) + (1:Int)) by (simp (disch := omega) only [wrapk] at *; simp at * <;> (repeat' split) <;> omega)) (an (show bkNow (z 16) (z 17) (z 18) (z 19) 4 3 2 x 3 = IntKind.i64.wrap (IntKind.i64.wrap (IntKind.i64.wrap ((z 19) - (1:Int)) - x) + (1:Int)) by (simp (disch := omega) only [wrapk] at *; simp at * <;> (repeat' split) <;> omega)) (cB4b_1 z (an tt tt)))))))) tt) (an (zo (an (show bkCode (z 16) (z 17) (z 18) (z 19) 4 3 2 x = (0:Int) by (simp (disch := omega) only [wrapk] at *; simp at * <;> (repeat' split) <;> omega)) (show bkNum (z 16) (z 17) (z 18) (z 19) 4 3 2 x = IntKind.i64.wrap (IntKind.i64.wrap ((z 19) - (1:Int)) - x) by (simp (disch := omega) only [wrapk] at *; simp at * <;> (repeat' split) <;> omega)))) tt))) ?_
         kernel_rfl

theorem nbk_433 : NeedRun 46 (bl b) (zl z) 4 3 3 x := by
 intro hv ho hn
 have m0 := m0_of hv
 have hx := hx_of ho
 have ho' : opMayL [4, 3, 3, x] = true := ho
 simp at hn

 rcases eb (!allMay (zl z)) with h0 | h0
 · exact ff (by simp [hv, ho'] at *)
 ·
  rcases eb (!opMayL [(4:Int), (3:Int), (3:Int), x]) with h1 | h1
  · exact ff (by simp [hv, ho'] at *)
  ·
   rcases eb (!(b 3)) with h2 | h2
   ·
    refine vcIntro (hx2 3 4) (an (u3 h2 h1 h0) (an (an (an (show bkD (bl b) 4 3 3 = (3:Int) by (simp at * <;> simp [*] <;> done)) (cB4b_0 b z (cB4b_2 z (an (ri (z 31)) tt)))) tt) tt)) ?_
    kernel_rfl
   · exact ff (by simp_all)

theorem dbk_433 : DoneRun 46 (bl b) (zl z) 4 3 3 x := by
 intro hv ho hn
 have m0 := m0_of hv
 have hx := hx_of ho
 have ho' : opMayL [4, 3, 3, x] = true := ho
 simp at hn

 rcases eb (!allMay (zl z)) with h0 | h0
 · exact ff (by simp [hv, ho'] at *)
 ·
  rcases eb (!opMayL [(4:Int), (3:Int), (3:Int), x]) with h1 | h1
  · exact ff (by simp [hv, ho'] at *)
  ·
   rcases eb (!(b 3)) with h2 | h2
   · exact ff (by simp_all)
   ·
    rcases eb (!decide ((z 19) > (0:Int))) with h3 | h3
    ·
     have e : bkCode (z 16) (z 17) (z 18) (z 19) 4 3 3 x = (2:Int) := by (simp at * <;> (repeat' split) <;> omega)
     refine vcIntro (hx2 5 16) (an (u5 h3 h2 h2 h1 h0) (nUW b z e)) ?_
     kernel_rfl
    ·
     rcases eb (decide (IntKind.i64.wrap ((z 19) - (1:Int)) < x)) with h4 | h4
     ·
      have e : bkCode (z 16) (z 17) (z 18) (z 19) 4 3 3 x = (3:Int) := by (simp (disch := omega) only [wrapk] at *; simp at * <;> simp [*] <;> done)
      refine vcIntro (hx2 7 64) (an (u7 h4 h3 h3 h2 h2 h1 h0) (nUW b z e)) ?_
      kernel_rfl
     ·
      refine vcIntro (hx2 7 0) (an (u7 h4 h3 h3 h2 h2 h1 h0) (an (an (an tt (cB4b_0 b z (an (show bkNow (z 16) (z 17) (z 18) (z 19) 4 3 3 x 0 = (z 16) by simp) (an (show bkNow (z 16) (z 17) (z 18) (z 19) 4 3 3 x 1 = (z 17) by simp) (an (show bkNow (z 16) (z 17) (z 18) (z 19) 4 3 3 x 2 = (z 18) by simp) (an (show bkNow (z 16) (z 17) (z 18) (z 19) 4 3 3 x 3 = (z 19) by simp) (cB4b_1 z (an tt tt)))))))) tt) (an (zo (an (show bkCode (z 16) (z 17) (z 18) (z 19) 4 3 3 x = (0:Int) by (simp (disch := omega) only [wrapk] at *; simp at * <;> simp [*] <;> done)) (show bkNum (z 16) (z 17) (z 18) (z 19) 4 3 3 x = IntKind.i64.wrap ((z 19) - (1:Int)) by (simp (disch := omega) only [wrapk] at *; simp at * <;> simp [*] <;> done)))) tt))) ?_
      kernel_rfl
end
end Go.Ideal.B1
namespace Go.Ideal.B1
section
open Go.Proofs Go.Ideal Go.Ideal.L1
set_option linter.unusedSimpArgs false
set_option linter.unusedVariables false
set_option maxRecDepth 100000
set_option maxHeartbeats 8000000
attribute [local simp] bl zl sel bkNeed bkCode pos bkNum bkNow bkZs bkA bkD
theorem cB4c_0 (b : Nat → Bool) (z : Nat → Int) {R : Prop} (h : R) : ((b 0):Bool) = (b 0) ∧ (((b 1):Bool) = (b 1) ∧ (((b 2):Bool) = (b 2) ∧ (((b 3):Bool) = (b 3) ∧ (((b 4):Bool) = (b 4) ∧ (((b 5):Bool) = (b 5) ∧ (((b 6):Bool) = (b 6) ∧ (((b 7):Bool) = (b 7) ∧ (((b 8):Bool) = (b 8) ∧ (((b 9):Bool) = (b 9) ∧ (((b 10):Bool) = (b 10) ∧ (((b 11):Bool) = (b 11) ∧ (((b 12):Bool) = (b 12) ∧ (((b 13):Bool) = (b 13) ∧ (((b 14):Bool) = (b 14) ∧ (((b 15):Bool) = (b 15) ∧ (((z 0):Int) = (z 0) ∧ (((z 1):Int) = (z 1) ∧ (((z 2):Int) = (z 2) ∧ (((z 3):Int) = (z 3) ∧ (((z 4):Int) = (z 4) ∧ (((z 5):Int) = (z 5) ∧ (((z 6):Int) = (z 6) ∧ (((z 7):Int) = (z 7) ∧ (((z 8):Int) = (z 8) ∧ (((z 9):Int) = (z 9) ∧ (((z 10):Int) = (z 10) ∧ (((z 11):Int) = (z 11) ∧ (((z 12):Int) = (z 12) ∧ (((z 13):Int) = (z 13) ∧ (((z 14):Int) = (z 14) ∧ (((z 15):Int) = (z 15) ∧ (R)))))))))))))))))))))))))))))))) := ⟨rfl, ⟨rfl, ⟨rfl, ⟨rfl, ⟨rfl, ⟨rfl, ⟨rfl, ⟨rfl, ⟨rfl, ⟨rfl, ⟨rfl, ⟨rfl, ⟨rfl, ⟨rfl, ⟨rfl, ⟨rfl, ⟨rfl, ⟨rfl, ⟨rfl, ⟨rfl, ⟨rfl, ⟨rfl, ⟨rfl, ⟨rfl, ⟨rfl, ⟨rfl, ⟨rfl, ⟨rfl, ⟨rfl, ⟨rfl, ⟨rfl, ⟨rfl, h⟩⟩⟩⟩⟩⟩⟩⟩⟩⟩⟩⟩⟩⟩⟩⟩⟩⟩⟩⟩⟩⟩⟩⟩⟩⟩⟩⟩⟩⟩⟩⟩
theorem cB4c_1 (z : Nat → Int) {R : Prop} (h : R) : ((z 20):Int) = (z 20) ∧ (((z 21):Int) = (z 21) ∧ (((z 22):Int) = (z 22) ∧ (((z 23):Int) = (z 23) ∧ (((z 24):Int) = (z 24) ∧ (((z 25):Int) = (z 25) ∧ (((z 26):Int) = (z 26) ∧ (((z 27):Int) = (z 27) ∧ (((z 28):Int) = (z 28) ∧ (((z 29):Int) = (z 29) ∧ (((z 30):Int) = (z 30) ∧ (((z 31):Int) = (z 31) ∧ (True ∧ (R))))))))))))) := ⟨rfl, ⟨rfl, ⟨rfl, ⟨rfl, ⟨rfl, ⟨rfl, ⟨rfl, ⟨rfl, ⟨rfl, ⟨rfl, ⟨rfl, ⟨rfl, ⟨True.intro, h⟩⟩⟩⟩⟩⟩⟩⟩⟩⟩⟩⟩⟩
theorem cB4c_2 (z : Nat → Int) {R : Prop} (h : R) : ((z 16):Int) = (z 16) ∧ (((z 17):Int) = (z 17) ∧ (((z 18):Int) = (z 18) ∧ (((z 19):Int) = (z 19) ∧ (((z 20):Int) = (z 20) ∧ (((z 21):Int) = (z 21) ∧ (((z 22):Int) = (z 22) ∧ (((z 23):Int) = (z 23) ∧ (((z 24):Int) = (z 24) ∧ (((z 25):Int) = (z 25) ∧ (((z 26):Int) = (z 26) ∧ (((z 27):Int) = (z 27) ∧ (((z 28):Int) = (z 28) ∧ (((z 29):Int) = (z 29) ∧ (((z 30):Int) = (z 30) ∧ (R))))))))))))))) := ⟨rfl, ⟨rfl, ⟨rfl, ⟨rfl, ⟨rfl, ⟨rfl, ⟨rfl, ⟨rfl, ⟨rfl, ⟨rfl, ⟨rfl, ⟨rfl, ⟨rfl, ⟨rfl, ⟨rfl, h⟩⟩⟩⟩⟩⟩⟩⟩⟩⟩⟩⟩⟩⟩⟩
variable (b : Nat → Bool) (z : Nat → Int) (x:Int)

theorem nbk_500 : NeedRun 46 (bl b) (zl z) 5 0 0 x := by
 intro hv ho hn
 have m0 := m0_of hv
 have hx := hx_of ho
 have ho' : opMayL [5, 0, 0, x] = true := ho
 simp at hn

 rcases eb (!allMay (zl z)) with h0 | h0
 · exact ff (by simp [hv, ho'] at *)
 ·
  rcases eb (!opMayL [(5:Int), (0:Int), (0:Int), x]) with h1 | h1
  · exact ff (by simp [hv, ho'] at *)
  ·
   rcases eb (!(b 0)) with h2 | h2
   ·
    refine vcIntro (hx2 3 4) (an (u3 h2 h1 h0) (an (an (an (show bkD (bl b) 5 0 0 = (0:Int) by (simp at * <;> simp [*] <;> done)) (cB4c_0 b z (cB4c_2 z (an (ri (z 31)) tt)))) tt) tt)) ?_
    kernel_rfl
   ·
    rcases eb (decide ((z 16) > (0:Int))) with h3 | h3
    ·
     rcases eb (!(b 1)) with h4 | h4
     ·
      refine vcIntro (hx2 5 24) (an (u5 h4 h3 h2 h1 h0) (an (an (an (show bkD (bl b) 5 0 0 = (1:Int) by (simp at * <;> simp [*] <;> done)) (cB4c_0 b z (cB4c_2 z (an (ri (z 31)) tt)))) tt) tt)) ?_
      kernel_rfl
     ·
      rcases eb (decide ((z 17) > (0:Int))) with h5 | h5
      ·
       rcases eb (!(b 2)) with h6 | h6
       ·
        refine vcIntro (hx2 7 104) (an (u7 h6 h5 h4 h3 h2 h1 h0) (an (an (an (show bkD (bl b) 5 0 0 = (2:Int) by (simp at * <;> simp [*] <;> done)) (cB4c_0 b z (cB4c_2 z (an (ri (z 31)) tt)))) tt) tt)) ?_
        kernel_rfl
       ·
        rcases eb (decide ((z 18) > (0:Int))) with h7 | h7
        ·
         rcases eb (!(b 3)) with h8 | h8
         ·
          refine vcIntro (hx2 9 424) (an (u9 h8 h7 h6 h5 h4 h3 h2 h1 h0) (an (an (an (show bkD (bl b) 5 0 0 = (3:Int) by (simp at * <;> simp [*] <;> done)) (cB4c_0 b z (cB4c_2 z (an (ri (z 31)) tt)))) tt) tt)) ?_
          kernel_rfl
         · exact ff (by simp_all)
        ·
         rcases eb (!(b 3)) with h9 | h9
         ·
          refine vcIntro (hx2 9 296) (an (u9 h9 h7 h6 h5 h4 h3 h2 h1 h0) (an (an (an (show bkD (bl b) 5 0 0 = (3:Int) by (simp at * <;> simp [*] <;> done)) (cB4c_0 b z (cB4c_2 z (an (ri (z 31)) tt)))) tt) tt)) ?_
          kernel_rfl
         · exact ff (by simp_all)
      ·
       rcases eb (!(b 2)) with h10 | h10
       ·
        refine vcIntro (hx2 7 72) (an (u7 h10 h5 h4 h3 h2 h1 h0) (an (an (an (show bkD (bl b) 5 0 0 = (2:Int) by (simp at * <;> simp [*] <;> done)) (cB4c_0 b z (cB4c_2 z (an (ri (z 31)) tt)))) tt) tt)) ?_
        kernel_rfl
       ·
        rcases eb (decide ((z 18) > (0:Int))) with h11 | h11
        ·
         rcases eb (!(b 3)) with h12 | h12
         ·
          refine vcIntro (hx2 9 392) (an (u9 h12 h11 h10 h5 h4 h3 h2 h1 h0) (an (an (an (show bkD (bl b) 5 0 0 = (3:Int) by (simp at * <;> simp [*] <;> done)) (cB4c_0 b z (cB4c_2 z (an (ri (z 31)) tt)))) tt) tt)) ?_
          kernel_rfl
         · exact ff (by simp_all)
        ·
         rcases eb (!(b 3)) with h13 | h13
         ·
          refine vcIntro (hx2 9 264) (an (u9 h13 h11 h10 h5 h4 h3 h2 h1 h0) (an (an (an (show bkD (bl b) 5 0 0 = (3:Int) by (simp at * <;> simp [*] <;> done)) (cB4c_0 b z (cB4c_2 z (an (ri (z 31)) tt)))) tt) tt)) ?_
          kernel_rfl
         · exact ff (by simp_all)
    ·
     rcases eb (!(b 1)) with h14 | h14
     ·
      refine vcIntro (hx2 5 16) (an (u5 h14 h3 h2 h1 h0) (an (an (an (show bkD (bl b) 5 0 0 = (1:Int) by (simp at * <;> simp [*] <;> done)) (cB4c_0 b z (cB4c_2 z (an (ri (z 31)) tt)))) tt) tt)) ?_
      kernel_rfl
     ·
      rcases eb (decide ((z 17) > (0:Int))) with h15 | h15
      ·
       rcases eb (!(b 2)) with h16 | h16
       ·
        refine vcIntro (hx2 7 96) (an (u7 h16 h15 h14 h3 h2 h1 h0) (an (an (an (show bkD (bl b) 5 0 0 = (2:Int) by (simp at * <;> simp [*] <;> done)) (cB4c_0 b z (cB4c_2 z (an (ri (z 31)) tt)))) tt) tt)) ?_
        kernel_rfl
       ·
        rcases eb (decide ((z 18) > (0:Int))) with h17 | h17
        ·
         rcases eb (!(b 3)) with h18 | h18
         ·
          refine vcIntro (hx2 9 416) (an (u9 h18 h17 h16 h15 h14 h3 h2 h1 h0) (an (an (an (show bkD (bl b) 5 0 0 = (3:Int) by (simp at * <;> simp [*] <;> done)) (cB4c_0 b z (cB4c_2 z (an (ri (z 31)) tt)))) tt) tt)) ?_
          kernel_rfl
         · exact ff (by simp_all)
        ·
         rcases eb (!(b 3)) with h19 | h19
         ·
          refine vcIntro (hx2 9 288) (an (u9 h19 h17 h16 h15 h14 h3 h2 h1 h0) (an (an (an (show bkD (bl b) 5 0 0 = (3:Int) by (simp at * <;> simp [*] <;> done)) (cB4c_0 b z (cB4c_2 z (an (ri (z 31)) tt)))) tt) tt)) ?_
          kernel_rfl
         · exact ff (by simp_all)
      ·
       rcases eb (!(b 2)) with h20 | h20
       ·
        refine vcIntro (hx2 7 64) (an (u7 h20 h15 h14 h3 h2 h1 h0) (an (an (an (show bkD (bl b) 5 0 0 = (2:Int) by (simp at * <;> simp [*] <;> done)) (cB4c_0 b z (cB4c_2 z (an (ri (z 31)) tt)))) tt) tt)) ?_
        kernel_rfl
       ·
        rcases eb (decide ((z 18) > (0:Int))) with h21 | h21
        ·
         rcases eb (!(b 3)) with h22 | h22
         ·
          refine vcIntro (hx2 9 384) (an (u9 h22 h21 h20 h15 h14 h3 h2 h1 h0) (an (an (an (show bkD (bl b) 5 0 0 = (3:Int) by (simp at * <;> simp [*] <;> done)) (cB4c_0 b z (cB4c_2 z (an (ri (z 31)) tt)))) tt) tt)) ?_
          kernel_rfl
         · exact ff (by simp_all)
        ·
         rcases eb (!(b 3)) with h23 | h23
         ·
          refine vcIntro (hx2 9 256) (an (u9 h23 h21 h20 h15 h14 h3 h2 h1 h0) (an (an (an (show bkD (bl b) 5 0 0 = (3:Int) by (simp at * <;> simp [*] <;> done)) (cB4c_0 b z (cB4c_2 z (an (ri (z 31)) tt)))) tt) tt)) ?_
          kernel_rfl
         · exact ff (by simp_all)

theorem dbk_500 : DoneRun 46 (bl b) (zl z) 5 0 0 x := by
 intro hv ho hn
 have m0 := m0_of hv
 have hx := hx_of ho
 have ho' : opMayL [5, 0, 0, x] = true := ho
 simp at hn

 rcases eb (!allMay (zl z)) with h0 | h0
 · exact ff (by simp [hv, ho'] at *)
 ·
  rcases eb (!opMayL [(5:Int), (0:Int), (0:Int), x]) with h1 | h1
  · exact ff (by simp [hv, ho'] at *)
  ·
   rcases eb (!(b 0)) with h2 | h2
   · exact ff (by simp_all)
   ·
    rcases eb (decide ((z 16) > (0:Int))) with h3 | h3
    ·
     rcases eb (!(b 1)) with h4 | h4
     · exact ff (by simp_all)
     ·
      rcases eb (decide ((z 17) > (0:Int))) with h5 | h5
      ·
       rcases eb (!(b 2)) with h6 | h6
       · exact ff (by simp_all)
       ·
        rcases eb (decide ((z 18) > (0:Int))) with h7 | h7
        ·
         rcases eb (!(b 3)) with h8 | h8
         · exact ff (by simp_all)
         ·
          rcases eb (decide ((z 19) > (0:Int))) with h9 | h9
          ·
           refine vcIntro (hx2 10 680) (an (u10 h9 h8 h7 h6 h5 h4 h3 h2 h1 h0) (an (an (an tt (cB4c_0 b z (an (show bkNow (z 16) (z 17) (z 18) (z 19) 5 0 0 x 0 = (z 16) by simp) (an (show bkNow (z 16) (z 17) (z 18) (z 19) 5 0 0 x 1 = (z 17) by simp) (an (show bkNow (z 16) (z 17) (z 18) (z 19) 5 0 0 x 2 = (z 18) by simp) (an (show bkNow (z 16) (z 17) (z 18) (z 19) 5 0 0 x 3 = (z 19) by simp) (cB4c_1 z (an tt tt)))))))) tt) (an (zo (an (show bkCode (z 16) (z 17) (z 18) (z 19) 5 0 0 x = (0:Int) by simp) (show bkNum (z 16) (z 17) (z 18) (z 19) 5 0 0 x = IntKind.i64.wrap (IntKind.i64.wrap (IntKind.i64.wrap (IntKind.i64.wrap ((0:Int) + IntKind.i64.wrap ((z 16) - (1:Int))) + IntKind.i64.wrap ((z 17) - (1:Int))) + IntKind.i64.wrap ((z 18) - (1:Int))) + IntKind.i64.wrap ((z 19) - (1:Int))) by (simp (disch := omega) only [wrapk] at *; simp at * <;> simp [*] <;> done)))) tt))) ?_
           kernel_rfl
          ·
           refine vcIntro (hx2 10 168) (an (u10 h9 h8 h7 h6 h5 h4 h3 h2 h1 h0) (an (an (an tt (cB4c_0 b z (an (show bkNow (z 16) (z 17) (z 18) (z 19) 5 0 0 x 0 = (z 16) by simp) (an (show bkNow (z 16) (z 17) (z 18) (z 19) 5 0 0 x 1 = (z 17) by simp) (an (show bkNow (z 16) (z 17) (z 18) (z 19) 5 0 0 x 2 = (z 18) by simp) (an (show bkNow (z 16) (z 17) (z 18) (z 19) 5 0 0 x 3 = (z 19) by simp) (cB4c_1 z (an tt tt)))))))) tt) (an (zo (an (show bkCode (z 16) (z 17) (z 18) (z 19) 5 0 0 x = (0:Int) by simp) (show bkNum (z 16) (z 17) (z 18) (z 19) 5 0 0 x = IntKind.i64.wrap (IntKind.i64.wrap (IntKind.i64.wrap ((0:Int) + IntKind.i64.wrap ((z 16) - (1:Int))) + IntKind.i64.wrap ((z 17) - (1:Int))) + IntKind.i64.wrap ((z 18) - (1:Int))) by (simp (disch := omega) only [wrapk] at *; simp at * <;> (repeat' split) <;> omega)))) tt))) ?_
           kernel_rfl
        ·
         rcases eb (!(b 3)) with h10 | h10
         · exact ff (by simp_all)
         ·
          rcases eb (decide ((z 19) > (0:Int))) with h11 | h11
          ·
           refine vcIntro (hx2 10 552) (an (u10 h11 h10 h7 h6 h5 h4 h3 h2 h1 h0) (an (an (an tt (cB4c_0 b z (an (show bkNow (z 16) (z 17) (z 18) (z 19) 5 0 0 x 0 = (z 16) by simp) (an (show bkNow (z 16) (z 17) (z 18) (z 19) 5 0 0 x 1 = (z 17) by simp) (an (show bkNow (z 16) (z 17) (z 18) (z 19) 5 0 0 x 2 = (z 18) by simp) (an (show bkNow (z 16) (z 17) (z 18) (z 19) 5 0 0 x 3 = (z 19) by simp) (cB4c_1 z (an tt tt)))))))) tt) (an (zo (an (show bkCode (z 16) (z 17) (z 18) (z 19) 5 0 0 x = (0:Int) by simp) (show bkNum (z 16) (z 17) (z 18) (z 19) 5 0 0 x = IntKind.i64.wrap (IntKind.i64.wrap (IntKind.i64.wrap ((0:Int) + IntKind.i64.wrap ((z 16) - (1:Int))) + IntKind.i64.wrap ((z 17) - (1:Int))) + IntKind.i64.wrap ((z 19) - (1:Int))) by (simp (disch := omega) only [wrapk] at *; simp at * <;> (repeat' split) <;> omega)))) tt))) ?_
           kernel_rfl
          ·
           refine vcIntro (hx2 10 40) (an (u10 h11 h10 h7 h6 h5 h4 h3 h2 h1 h0) (an (an (an tt (cB4c_0 b z (an (show bkNow (z 16) (z 17) (z 18) (z 19) 5 0 0 x 0 = (z 16) by simp) (an (show bkNow (z 16) (z 17) (z 18) (z 19) 5 0 0 x 1 = (z 17) by simp) (an (show bkNow (z 16) (z 17) (z 18) (z 19) 5 0 0 x 2 = (z 18) by simp) (an (show bkNow (z 16) (z 17) (z 18) (z 19) 5 0 0 x 3 = (z 19) by simp) (cB4c_1 z (an tt tt)))))))) tt) (an (zo (an (show bkCode (z 16) (z 17) (z 18) (z 19) 5 0 0 x = (0:Int) by simp) (show bkNum (z 16) (z 17) (z 18) (z 19) 5 0 0 x = IntKind.i64.wrap (IntKind.i64.wrap ((0:Int) + IntKind.i64.wrap ((z 16) - (1:Int))) + IntKind.i64.wrap ((z 17) - (1:Int))) by (simp (disch := omega) only [wrapk] at *; simp at * <;> (repeat' split) <;> omega)))) tt))) ?_
           kernel_rfl
      ·
       rcases eb (!(b 2)) with h12 | h12
       · exact ff (by simp_all)
       ·
        rcases eb (decide ((z 18) > (0:Int))) with h13 | h13
        ·
         rcases eb (!(b 3)) with h14 | h14
         · exact ff (by simp_all)
         ·
          rcases eb (decide ((z 19) > (0:Int))) with h15 | h15
          ·
           refine vcIntro (hx2 10 648) (an (u10 h15 h14 h13 h12 h5 h4 h3 h2 h1 h0) (an (an (an tt (cB4c_0 b z (an (show bkNow (z 16) (z 17) (z 18) (z 19) 5 0 0 x 0 = (z 16) by simp) (an (show bkNow (z 16) (z 17) (z 18) (z 19) 5 0 0 x 1 = (z 17) by simp) (an (show bkNow (z 16) (z 17) (z 18) (z 19) 5 0 0 x 2 = (z 18) by simp) (an (show bkNow (z 16) (z 17) (z 18) (z 19) 5 0 0 x 3 = (z 19) by simp) (cB4c_1 z (an tt tt)))))))) tt) (an (zo (an (show bkCode (z 16) (z 17) (z 18) (z 19) 5 0 0 x = (0:Int) by simp) (show bkNum (z 16) (z 17) (z 18) (z 19) 5 0 0 x = IntKind.i64.wrap (IntKind.i64.wrap (IntKind.i64.wrap ((0:Int) + IntKind.i64.wrap ((z 16) - (1:Int))) + IntKind.i64.wrap ((z 18) - (1:Int))) + IntKind.i64.wrap ((z 19) - (1:Int))) by (simp (disch := omega) only [wrapk] at *; simp at * <;> (repeat' split) <;> omega)))) tt))) ?_
           kernel_rfl
          ·
           refine vcIntro (hx2 10 136) (an (u10 h15 h14 h13 h12 h5 h4 h3 h2 h1 h0) (an (an (an tt (cB4c_0 b z (an (show bkNow (z 16) (z 17) (z 18) (z 19) 5 0 0 x 0 = (z 16) by simp) (an (show bkNow (z 16) (z 17) (z 18) (z 19) 5 0 0 x 1 = (z 17) by simp) (an (show bkNow (z 16) (z 17) (z 18) (z 19) 5 0 0 x 2 = (z 18) by simp) (an (show bkNow (z 16) (z 17) (z 18) (z 19) 5 0 0 x 3 = (z 19) by simp) (cB4c_1 z (an tt tt)))))))) tt) (an (zo (an (show bkCode (z 16) (z 17) (z 18) (z 19) 5 0 0 x = (0:Int) by simp) (show bkNum (z 16) (z 17) (z 18) (z 19) 5 0 0 x = IntKind.i64.wrap (IntKind.i64.wrap ((0:Int) + IntKind.i64.wrap ((z 16) - (1:Int))) + IntKind.i64.wrap ((z 18) - (1:Int))) by (simp (disch := omega) only [wrapk] at *; simp at * <;> (repeat' split) <;> omega)))) tt))) ?_
           kernel_rfl
        ·
         rcases eb (!(b 3)) with h16 | h16
         · exact ff (by simp_all)
         ·
          rcases eb (decide ((z 19) > (0:Int))) with h17 | h17
          ·
           refine vcIntro (hx2 10 520) (an (u10 h17 h16 h13 h12 h5 h4 h3 h2 h1 h0) (an (an (an tt (cB4c_0 b z (an (show bkNow (z 16) (z 17) (z 18) (z 19) 5 0 0 x 0 = (z 16) by simp) (an (show bkNow (z 16) (z 17) (z 18) (z 19) 5 0 0 x 1 = (z 17) by simp) (an (show bkNow (z 16) (z 17) (z 18) (z 19) 5 0 0 x 2 = (z 18) by simp) (an (show bkNow (z 16) (z 17) (z 18) (z 19) 5 0 0 x 3 = (z 19) by simp) (cB4c_1 z (an tt tt)))))))) tt) (an (zo (an (show bkCode (z 16) (z 17) (z 18) (z 19) 5 0 0 x = (0:Int) by simp) (show bkNum (z 16) (z 17) (z 18) (z 19) 5 0 0 x = IntKind.i64.wrap (IntKind.i64.wrap ((0:Int) + IntKind.i64.wrap ((z 16) - (1:Int))) + IntKind.i64.wrap ((z 19) - (1:Int))) by (simp (disch := omega) only [wrapk] at *; simp at * <;> (repeat' split) <;> omega)))) tt))) ?_
           kernel_rfl
          ·
           refine vcIntro (hx2 10 8) (an (u10 h17 h16 h13 h12 h5 h4 h3 h2 h1 h0) (an (an (an tt (cB4c_0 b z (an (show bkNow (z 16) (z 17) (z 18) (z 19) 5 0 0 x 0 = (z 16) by simp) (an (show bkNow (z 16) (z 17) (z 18) (z 19) 5 0 0 x 1 = (z 17) by simp) (an (show bkNow (z 16) (z 17) (z 18) (z 19) 5 0 0 x 2 = (z 18) by simp) (an (show bkNow (z 16) (z 17) (z 18) (z 19) 5 0 0 x 3 = (z 19) by simp) (cB4c_1 z (an tt tt)))))))) tt) (an (zo (an (show bkCode (z 16) (z 17) (z 18) (z 19) 5 0 0 x = (0:Int) by simp) (show bkNum (z 16) (z 17) (z 18) (z 19) 5 0 0 x = IntKind.i64.wrap ((0:Int) + IntKind.i64.wrap ((z 16) - (1:Int))) by (simp (disch := omega) only [wrapk] at *; simp at * <;> (repeat' split) <;> omega)))) tt))) ?_
           kernel_rfl
    ·
     rcases eb (!(b 1)) with h18 | h18
     · exact ff (by simp_all)
     ·
      rcases eb (decide ((z 17) > (0:Int))) with h19 | h19
      ·
       rcases eb (!(b 2)) with h20 | h20
       · exact ff (by simp_all)
       ·
        rcases eb (decide ((z 18) > (0:Int))) with h21 | h21
        ·
         rcases eb (!(b 3)) with h22 | h22
         · exact ff (by simp_all)
         ·
          rcases eb (decide ((z 19) > (0:Int))) with h23 | h23
          ·
           refine vcIntro (hx2 10 672) (an (u10 h23 h22 h21 h20 h19 h18 h3 h2 h1 h0) (an (an (an tt (cB4c_0 b z (an (show bkNow (z 16) (z 17) (z 18) (z 19) 5 0 0 x 0 = (z 16) by simp) (an (show bkNow (z 16) (z 17) (z 18) (z 19) 5 0 0 x 1 = (z 17) by simp) (an (show bkNow (z 16) (z 17) (z 18) (z 19) 5 0 0 x 2 = (z 18) by simp) (an (show bkNow (z 16) (z 17) (z 18) (z 19) 5 0 0 x 3 = (z 19) by simp) (cB4c_1 z (an tt tt)))))))) tt) (an (zo (an (show bkCode (z 16) (z 17) (z 18) (z 19) 5 0 0 x = (0:Int) by simp) (show bkNum (z 16) (z 17) (z 18) (z 19) 5 0 0 x = IntKind.i64.wrap (IntKind.i64.wrap (IntKind.i64.wrap ((0:Int) + IntKind.i64.wrap ((z 17) - (1:Int))) + IntKind.i64.wrap ((z 18) - (1:Int))) + IntKind.i64.wrap ((z 19) - (1:Int))) by (simp (disch := omega) only [wrapk] at *; simp at * <;> (repeat' split) <;> omega)))) tt))) ?_
           kernel_rfl
          ·
           refine vcIntro (hx2 10 160) (an (u10 h23 h22 h21 h20 h19 h18 h3 h2 h1 h0) (an (an (an tt (cB4c_0 b z (an (show bkNow (z 16) (z 17) (z 18) (z 19) 5 0 0 x 0 = (z 16) by simp) (an (show bkNow (z 16) (z 17) (z 18) (z 19) 5 0 0 x 1 = (z 17) by simp) (an (show bkNow (z 16) (z 17) (z 18) (z 19) 5 0 0 x 2 = (z 18) by simp) (an (show bkNow (z 16) (z 17) (z 18) (z 19) 5 0 0 x 3 = (z 19) by simp) (cB4c_1 z (an tt tt)))))))) tt) (an (zo (an (show bkCode (z 16) (z 17) (z 18) (z 19) 5 0 0 x = (0:Int) by simp) (show bkNum (z 16) (z 17) (z 18) (z 19) 5 0 0 x = IntKind.i64.wrap (IntKind.i64.wrap ((0:Int) + IntKind.i64.wrap ((z 17) - (1:Int))) + IntKind.i64.wrap ((z 18) - (1:Int))) by (simp (disch := omega) only [wrapk] at *; simp at * <;> (repeat' split) <;> omega)))) tt))) ?_
           kernel_rfl
        ·
         rcases eb (!(b 3)) with h24 | h24
         · exact ff (by simp_all)
         ·
          rcases eb (decide ((z 19) > (0:Int))) with h25 | h25
          ·
           refine vcIntro (hx2 10 544) (an (u10 h25 h24 h21 h20 h19 h18 h3 h2 h1 h0) (an (an (an tt (cB4c_0 b z (an (show bkNow (z 16) (z 17) (z 18) (z 19) 5 0 0 x 0 = (z 16) by simp) (an (show bkNow (z 16) (z 17) (z 18) (z 19) 5 0 0 x 1 = (z 17) by simp) (an (show bkNow (z 16) (z 17) (z 18) (z 19) 5 0 0 x 2 = (z 18) by simp) (an (show bkNow (z 16) (z 17) (z 18) (z 19) 5 0 0 x 3 = (z 19) by simp) (cB4c_1 z (an tt tt)))))))) tt) (an (zo (an (show bkCode (z 16) (z 17) (z 18) (z 19) 5 0 0 x = (0:Int) by simp) (show bkNum (z 16) (z 17) (z 18) (z 19) 5 0 0 x = IntKind.i64.wrap (IntKind.i64.wrap ((0:Int) + IntKind.i64.wrap ((z 17) - (1:Int))) + IntKind.i64.wrap ((z 19) - (1:Int))) by (simp (disch := omega) only [wrapk] at *; simp at * <;> (repeat' split) <;> omega)))) tt))) ?_
           kernel_rfl
          ·
           refine vcIntro (hx2 10 32) (an (u10 h25 h24 h21 h20 h19 h18 h3 h2 h1 h0) (an (an (an tt (cB4c_0 b z (an (show bkNow (z 16) (z 17) (z 18) (z 19) 5 0 0 x 0 = (z 16) by simp) (an (show bkNow (z 16) (z 17) (z 18) (z 19) 5 0 0 x 1 = (z 17) by simp) (an (show bkNow (z 16) (z 17) (z 18) (z 19) 5 0 0 x 2 = (z 18) by simp) (an (show bkNow (z 16) (z 17) (z 18) (z 19) 5 0 0 x 3 = (z 19) by simp) (cB4c_1 z (an tt tt)))))))) tt) (an (zo (an (show bkCode (z 16) (z 17) (z 18) (z 19) 5 0 0 x = (0:Int) by simp) (show bkNum (z 16) (z 17) (z 18) (z 19) 5 0 0 x = IntKind.i64.wrap ((0:Int) + IntKind.i64.wrap ((z 17) - (1:Int))) by (simp (disch := omega) only [wrapk] at *; simp at * <;> (repeat' split) <;> omega)))) tt))) ?_
           kernel_rfl
      ·
       rcases eb (!(b 2)) with h26 | h26
       · exact ff (by simp_all)
       ·
        rcases eb (decide ((z 18) > (0:Int))) with h27 | h27
        ·
         rcases eb (!(b 3)) with h28 | h28
         · exact ff (by simp_all)
         ·
          rcases eb (decide ((z 19) > (0:Int))) with h29 | h29
          ·
           refine vcIntro (hx2 10 640) (an (u10 h29 h28 h27 h26 h19 h18 h3 h2 h1 h0) (an (an (an tt (cB4c_0 b z (an (show bkNow (z 16) (z 17) (z 18) (z 19) 5 0 0 x 0 = (z 16) by simp) (an (show bkNow (z 16) (z 17) (z 18) (z 19) 5 0 0 x 1 = (z 17) by simp) (an (show bkNow (z 16) (z 17) (z 18) (z 19) 5 0 0 x 2 = (z 18) by simp) (an (show bkNow (z 16) (z 17) (z 18) (z 19) 5 0 0 x 3 = (z 19) by simp) (cB4c_1 z (an tt tt)))))))) tt) (an (zo (an (show bkCode (z 16) (z 17) (z 18) (z 19) 5 0 0 x = (0:Int) by simp) (show bkNum (z 16) (z 17) (z 18) (z 19) 5 0 0 x = IntKind.i64.wrap (IntKind.i64.wrap ((0:Int) + IntKind.i64.wrap ((z 18) - (1:Int))) + IntKind.i64.wrap ((z 19) - (1:Int))) by (simp (disch := omega) only [wrapk] at *; simp at * <;> (repeat' split) <;> omega)))) tt))) ?_
           kernel_rfl
          ·
           refine vcIntro (hx2 10 128) (an (u10 h29 h28 h27 h26 h19 h18 h3 h2 h1 h0) (an (an (an tt (cB4c_0 b z (an (show bkNow (z 16) (z 17) (z 18) (z 19) 5 0 0 x 0 = (z 16) by simp) (an (show bkNow (z 16) (z 17) (z 18) (z 19) 5 0 0 x 1 = (z 17) by simp) (an (show bkNow (z 16) (z 17) (z 18) (z 19) 5 0 0 x 2 = (z 18) by simp) (an (show bkNow (z 16) (z 17) (z 18) (z 19) 5 0 0 x 3 = (z 19) by simp) (cB4c_1 z (an tt tt)))))))) tt) (an (zo (an (show bkCode (z 16) (z 17) (z 18) (z 19) 5 0 0 x = (0:Int) by simp) (show bkNum (z 16) (z 17) (z 18) (z 19) 5 0 0 x = IntKind.i64.wrap ((0:Int) + IntKind.i64.wrap ((z 18) - (1:Int))) by (simp (disch := omega) only [wrapk] at *; simp at * <;> (repeat' split) <;> omega)))) tt))) ?_
           kernel_rfl
        ·
         rcases eb (!(b 3)) with h30 | h30
         · exact ff (by simp_all)
         ·
          rcases eb (decide ((z 19) > (0:Int))) with h31 | h31
          ·
           refine vcIntro (hx2 10 512) (an (u10 h31 h30 h27 h26 h19 h18 h3 h2 h1 h0) (an (an (an tt (cB4c_0 b z (an (show bkNow (z 16) (z 17) (z 18) (z 19) 5 0 0 x 0 = (z 16) by simp) (an (show bkNow (z 16) (z 17) (z 18) (z 19) 5 0 0 x 1 = (z 17) by simp) (an (show bkNow (z 16) (z 17) (z 18) (z 19) 5 0 0 x 2 = (z 18) by simp) (an (show bkNow (z 16) (z 17) (z 18) (z 19) 5 0 0 x 3 = (z 19) by simp) (cB4c_1 z (an tt tt)))))))) tt) (an (zo (an (show bkCode (z 16) (z 17) (z 18) (z 19) 5 0 0 x = (0:Int) by simp) (show bkNum (z 16) (z 17) (z 18) (z 19) 5 0 0 x = IntKind.i64.wrap ((0:Int) + IntKind.i64.wrap ((z 19) - (1:Int))) by (simp (disch := omega) only [wrapk] at *; simp at * <;> (repeat' split) <;> omega)))) tt))) ?_
           kernel_rfl
          ·
           refine vcIntro (hx2 10 0) (an (u10 h31 h30 h27 h26 h19 h18 h3 h2 h1 h0) (an (an (an tt (cB4c_0 b z (an (show bkNow (z 16) (z 17) (z 18) (z 19) 5 0 0 x 0 = (z 16) by simp) (an (show bkNow (z 16) (z 17) (z 18) (z 19) 5 0 0 x 1 = (z 17) by simp) (an (show bkNow (z 16) (z 17) (z 18) (z 19) 5 0 0 x 2 = (z 18) by simp) (an (show bkNow (z 16) (z 17) (z 18) (z 19) 5 0 0 x 3 = (z 19) by simp) (cB4c_1 z (an tt tt)))))))) tt) (an (zo (an (show bkCode (z 16) (z 17) (z 18) (z 19) 5 0 0 x = (0:Int) by simp) (show bkNum (z 16) (z 17) (z 18) (z 19) 5 0 0 x = (0:Int) by (simp at * <;> (repeat' split) <;> omega)))) tt))) ?_
           kernel_rfl
end
end Go.Ideal.B1
