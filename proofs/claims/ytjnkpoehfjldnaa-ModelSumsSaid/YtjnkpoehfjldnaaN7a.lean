/- Chapter 8: ModelSums, the plain part. Own text. -/
import Derived.Test.YtjnkpoehfjldnaaN6a
namespace Go.Ideal.M2
open Go.Proofs Go.Ideal Go.Ideal.L1
set_option linter.unusedSimpArgs false
set_option linter.unusedVariables false
set_option maxRecDepth 100000
set_option maxHeartbeats 8000000

/-- One operation of accounts upon a state without keys. -/
def nM (g : Nat → Int) (k a b x j : Int) : Int := dM (g 0) (g 1) (g 2) (g 3) false false false false false k a b x j
def nCode (g : Nat → Int) (k a b x : Int) : Int := dCode (g 0) (g 1) (g 2) (g 3) false false false false false k a b x
def nNum (g : Nat → Int) (k a b x : Int) : Int := dNum (g 0) (g 1) (g 2) (g 3) false false false false false k a b x
def ssum (g : Nat → Int) : Int := mpos (g 0) + mpos (g 1) + mpos (g 2) + mpos (g 3)
def msK (v : Int) : Int := if v / 1024 % 4 = 0 then 0 else if v / 1024 % 4 = 1 then 2 else if v / 1024 % 4 = 2 then 1 else 4
def msY (v : Int) : Int := if v / 1024 % 4 = 0 ∨ v / 1024 % 4 = 1 ∨ v / 1024 % 4 = 2 then 0 else v / 4 % 4
def msX (v : Int) : Int := if v / 1024 % 4 = 2 then 0 else v / 16 % 64
def msF (v : Int) (g : Nat → Int) : Nat → Int := fun j => nM g (msK v) (v % 4) (msY v) (msX v) j
def gOk (g : Nat → Int) : Prop := stB (g 0) (g 1) (g 2) (g 3) = true

theorem dSum (m0 m1 m2 m3 : Int) (i0 i1 i2 i3 i4 : Bool) : dCode m0 m1 m2 m3 i0 i1 i2 i3 i4 5 0 0 0 = 0 ∧ dNum m0 m1 m2 m3 i0 i1 i2 i3 i4 5 0 0 0 = mpos m0 + mpos m1 + mpos m2 + mpos m3 ∧
    (∀ j, dM m0 m1 m2 m3 i0 i1 i2 i3 i4 5 0 0 0 j = sel m0 m1 m2 m3 j) ∧ ∀ j, dI m0 m1 m2 m3 i0 i1 i2 i3 i4 5 0 0 0 j = selB i0 i1 i2 i3 i4 j := by
  simp [dCode, dNum, dM, dI, mdCode, mdNum, mdNow]
theorem nI (g : Nat → Int) (k a b x j : Int) (hk : k ≤ 5) : dI (g 0) (g 1) (g 2) (g 3) false false false false false k a b x j = false := by
  simp [dI, hk, selB]
theorem mayA (k a b x : Int) (v : Int) (hk : k = 0 ∨ k = 2) (ha : a = v % 4) (hb : b = 0) (hx : x = v / 16 % 64) : OM.opMay k a b x = true := by
  have h1 : 0 ≤ v % 4 ∧ v % 4 < 4 := by omega
  have h2 : 0 ≤ v / 16 % 64 ∧ v / 16 % 64 < 64 := by omega
  subst ha hb hx
  rcases hk with rfl | rfl <;> simp [OM.opMay] <;> omega
theorem may0 (v : Int) : OM.opMay 0 (v % 4) 0 (v / 16 % 64) = true := mayA _ _ _ _ v (.inl rfl) rfl rfl rfl
theorem may2 (v : Int) : OM.opMay 2 (v % 4) 0 (v / 16 % 64) = true := mayA _ _ _ _ v (.inr rfl) rfl rfl rfl
theorem may1 (v : Int) : OM.opMay 1 (v % 4) 0 0 = true := by simp [OM.opMay]; omega
theorem may4 (v : Int) : OM.opMay 4 (v % 4) (v / 4 % 4) (v / 16 % 64) = true := by simp [OM.opMay]; omega
theorem may5 : OM.opMay 5 0 0 0 = true := by simp [OM.opMay]
theorem msMay (v : Int) : OM.opMay (msK v) (v % 4) (msY v) (msX v) = true := by
  unfold msK msY msX
  rcases (by omega : v / 1024 % 4 = 0 ∨ v / 1024 % 4 = 1 ∨ v / 1024 % 4 = 2 ∨ v / 1024 % 4 = 3) with h | h | h | h <;> simp only [h]
  · simpa using may0 v
  · simpa using may2 v
  · simpa using may1 v
  · simpa using may4 v
theorem gOk_next {g : Nat → Int} (h : gOk g) (v : Int) : gOk (msF v g) := @dM_st (g 0) (g 1) (g 2) (g 3) false false false false false _ _ _ _ h (msMay v)
theorem ssum_ok {g : Nat → Int} (h : gOk g) : 0 ≤ ssum g ∧ ssum g < 4194304 := by
  unfold gOk stB at h
  simp at h
  unfold ssum mpos
  (repeat' split) <;> omega
/-- What is told of the sum. -/
theorem sumD {g : Nat → Int} (h : gOk g) (k a b x : Int) (hk : k = 0 ∨ k = 1 ∨ k = 2 ∨ k = 4) (ha : 0 ≤ a ∧ a < 4) (hb : 0 ≤ b ∧ b < 4) (hx : 0 ≤ x ∧ x < 64) (hc : nCode g k a b x = 0) :
    mpos (nM g k a b x 0) + mpos (nM g k a b x 1) + mpos (nM g k a b x 2) + mpos (nM g k a b x 3) = ssum g + (if k = 0 ∨ k = 2 then x else if k = 1 then - nNum g k a b x else 0) := by
  unfold gOk stB at h
  simp at h
  have hk5 : k ≤ 5 := by omega
  simp only [nCode, dCode, if_pos hk5] at hc
  simp only [nM, nNum, dM, dNum, if_pos hk5, mdNow, mdNum, hc, if_true, ssum]
  simp only [mdCode] at hc
  rcases (by omega : a = 0 ∨ a = 1 ∨ a = 2 ∨ a = 3) with rfl | rfl | rfl | rfl <;> rcases hk with rfl | rfl | rfl | rfl
  all_goals first
    | (simp [sel, mpos] at hc ⊢; (repeat' split) <;> omega)
    | (rcases (by omega : b = 0 ∨ b = 1 ∨ b = 2 ∨ b = 3) with rfl | rfl | rfl | rfl <;> simp [sel, mpos] at hc ⊢ <;> (repeat' split) <;> omega)
section
variable (m0 m1 m2 m3 : Int) (i0 i1 i2 i3 i4 : Bool) (a b x j : Int)
theorem dI_k0 : dI m0 m1 m2 m3 i0 i1 i2 i3 i4 0 a b x j = selB i0 i1 i2 i3 i4 j := by simp [dI]
theorem dI_k1 : dI m0 m1 m2 m3 i0 i1 i2 i3 i4 1 a b x j = selB i0 i1 i2 i3 i4 j := by simp [dI]
theorem dI_k2 : dI m0 m1 m2 m3 i0 i1 i2 i3 i4 2 a b x j = selB i0 i1 i2 i3 i4 j := by simp [dI]
theorem dI_k4 : dI m0 m1 m2 m3 i0 i1 i2 i3 i4 4 a b x j = selB i0 i1 i2 i3 i4 j := by simp [dI]
theorem dI_k5 : dI m0 m1 m2 m3 i0 i1 i2 i3 i4 5 a b x j = selB i0 i1 i2 i3 i4 j := by simp [dI]
theorem dM_k5 : dM m0 m1 m2 m3 i0 i1 i2 i3 i4 5 0 0 0 j = sel m0 m1 m2 m3 j := (dSum m0 m1 m2 m3 i0 i1 i2 i3 i4).2.2.1 j
theorem dC_k5 : dCode m0 m1 m2 m3 i0 i1 i2 i3 i4 5 0 0 0 = 0 := (dSum m0 m1 m2 m3 i0 i1 i2 i3 i4).1
theorem dN_k5 : dNum m0 m1 m2 m3 i0 i1 i2 i3 i4 5 0 0 0 = mpos m0 + mpos m1 + mpos m2 + mpos m3 := (dSum m0 m1 m2 m3 i0 i1 i2 i3 i4).2.1
end
/-- What a round uses, of one operation. -/
theorem msFacts {g : Nat → Int} (hg : gOk g) (k a b x : Int) (hk : k = 0 ∨ k = 1 ∨ k = 2 ∨ k = 4) (ha : 0 ≤ a ∧ a < 4) (hb : 0 ≤ b ∧ b < 4) (hx : 0 ≤ x ∧ x < 64) (hm : OM.opMay k a b x = true) :
    stB (dM (g 0) (g 1) (g 2) (g 3) false false false false false k a b x 0) (dM (g 0) (g 1) (g 2) (g 3) false false false false false k a b x 1) (dM (g 0) (g 1) (g 2) (g 3) false false false false false k a b x 2) (dM (g 0) (g 1) (g 2) (g 3) false false false false false k a b x 3) = true ∧
    (¬ dCode (g 0) (g 1) (g 2) (g 3) false false false false false k a b x = 0 → dM (g 0) (g 1) (g 2) (g 3) false false false false false k a b x 0 = g 0 ∧ dM (g 0) (g 1) (g 2) (g 3) false false false false false k a b x 1 = g 1 ∧ dM (g 0) (g 1) (g 2) (g 3) false false false false false k a b x 2 = g 2 ∧ dM (g 0) (g 1) (g 2) (g 3) false false false false false k a b x 3 = g 3) ∧
    (dCode (g 0) (g 1) (g 2) (g 3) false false false false false k a b x = 0 → mpos (dM (g 0) (g 1) (g 2) (g 3) false false false false false k a b x 0) + mpos (dM (g 0) (g 1) (g 2) (g 3) false false false false false k a b x 1) + mpos (dM (g 0) (g 1) (g 2) (g 3) false false false false false k a b x 2) + mpos (dM (g 0) (g 1) (g 2) (g 3) false false false false false k a b x 3)
      = ssum g + (if k = 0 ∨ k = 2 then x else if k = 1 then - dNum (g 0) (g 1) (g 2) (g 3) false false false false false k a b x else 0)) := by
  refine ⟨dM_st hg hm, fun h => ?_, fun h => sumD hg k a b x hk ha hb hx h⟩
  have := (dSame h).1
  simp only [this, sq0, sq1, sq2, sq3, and_self]
end Go.Ideal.M2
