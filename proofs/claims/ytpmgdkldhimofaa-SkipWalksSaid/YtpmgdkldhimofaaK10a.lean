/- Chapter 6: what is found of sets of keys: facts for SkipWalks. Own text. -/
import Derived.Test.YtpmgdkldhimofaaK7c
namespace Go.Ideal.K6
open Go.Proofs Go.Ideal Go.Ideal.L1
set_option linter.unusedSimpArgs false
set_option linter.unusedVariables false
set_option maxRecDepth 100000
set_option maxHeartbeats 8000000

theorem more_of {p q : Nat → Bool} (hs : subS p q = true) (hp : p = l5 p) (hq : q = l5 q) : chkFind p q = true ∧ chkErase p q = true ∧ skNum tT (zsG (img p q)) 10 0 4 = bitsP p 5 ∧ skCode tT (zsG (img p q)) 9 0 = (if leastP p == -1 then 2 else 0) ∧ skNum tT (zsG (img p q)) 9 0 0 = (if leastP p == -1 then 0 else leastP p) := by
  have h := cm_pq (p 0) (p 1) (p 2) (p 3) (p 4) (q 0) (q 1) (q 2) (q 3) (q 4)
  change chkMore (l5 p) (l5 q) = true at h
  rw [← hp, ← hq] at h
  simp only [chkMore, hs, Bool.not_true, Bool.false_or, Bool.and_eq_true, beq_iff_eq (a := skNum tT (zsG (img p q)) 10 0 4), beq_iff_eq (a := skCode tT (zsG (img p q)) 9 0), beq_iff_eq (a := skNum tT (zsG (img p q)) 9 0 0)] at h
  exact ⟨h.1, h.2.1, h.2.2.1, h.2.2.2.1, h.2.2.2.2⟩
theorem find_s {g : Nat → Int} {p q : Nat → Bool} (h : isS g p q) (A : Int) (hA : 0 ≤ A ∧ A < 5) : skNum tT (zsG g) 8 A 0 = (if p A.toNat then 1 else 0) := by
  obtain ⟨hs, hp, hq, hg⟩ := h
  have c := (more_of hs hp hq).1
  simp only [chkFind, List.all_cons, List.all_nil, Bool.and_true, Bool.and_eq_true, beq_iff_eq] at c
  rw [← zs_congr hg] at c
  rcases (by omega : A = 0 ∨ A = 1 ∨ A = 2 ∨ A = 3 ∨ A = 4) with rfl | rfl | rfl | rfl | rfl <;> simp only [c]
theorem take_s {g : Nat → Int} {p q : Nat → Bool} (h : isS g p q) (A : Int) (hA : 0 ≤ A ∧ A < 5) :
    isS (opG g 7 A 0) (l5 (outP p A)) (l5 (outP q A)) ∧ skCode tT (zsG g) 7 A = (if p A.toNat then 0 else 2) ∧ skNum tT (zsG g) 7 A 0 = (if p A.toNat then A else 0) := by
  obtain ⟨hs, hp, hq, hg⟩ := h
  have e := zs_congr hg
  have c := (more_of hs hp hq).2.1
  simp only [chkErase, List.all_cons, List.all_nil, Bool.and_true, Bool.and_eq_true, beq_iff_eq] at c
  rw [← e] at c
  have d : skZs tT (zsG g) 7 A 0 = zsG (img (outP p A) (outP q A)) ∧ skCode tT (zsG g) 7 A = (if p A.toNat then 0 else 2) ∧ skNum tT (zsG g) 7 A 0 = (if p A.toNat then A else 0) := by
    rcases (by omega : A = 0 ∨ A = 1 ∨ A = 2 ∨ A = 3 ∨ A = 4) with rfl | rfl | rfl | rfl | rfl <;> simp only [c, and_self]
  have d1 := d.1
  rw [opG_zs, zs_l5] at d1
  refine ⟨⟨?_, (l5_l5 _).symm, (l5_l5 _).symm, zs_inj d1⟩, d.2⟩
  simp only [subS, Bool.and_eq_true, Bool.or_eq_true, Bool.not_eq_true'] at hs ⊢
  have key : ∀ j : Nat, (q j = false ∨ p j = true) → outP q A j = false ∨ outP p A j = true := by
    intro j hj
    unfold outP
    by_cases hj2 : (j : Int) = A
    · left; simp [hj2]
    · rcases hj with h | h
      · left; simp [h]
      · right; simp [h, hj2]
  exact ⟨key 0 hs.1, key 1 hs.2.1, key 2 hs.2.2.1, key 3 hs.2.2.2.1, key 4 hs.2.2.2.2⟩
theorem range_s {g : Nat → Int} {p q : Nat → Bool} (h : isS g p q) : skNum tT (zsG g) 10 0 4 = bitsP p 5 := by
  obtain ⟨hs, hp, hq, hg⟩ := h
  have c := (more_of hs hp hq).2.2.1
  rwa [← zs_congr hg] at c
theorem min_s {g : Nat → Int} {p q : Nat → Bool} (h : isS g p q) : skCode tT (zsG g) 9 0 = (if leastP p == -1 then 2 else 0) ∧ skNum tT (zsG g) 9 0 0 = (if leastP p == -1 then 0 else leastP p) := by
  obtain ⟨hs, hp, hq, hg⟩ := h
  have c := (more_of hs hp hq).2.2.2
  rwa [← zs_congr hg] at c
end Go.Ideal.K6
