/- Put together of: K4a K4c K4b. Own text; nothing here is trusted. -/
import Derived.Test.YtpmgdkldhimofaaKC
import Derived.Test.YtpmgdkldhimofaaKB
import Derived.Test.YtpmgdkldhimofaaR2
namespace Go.Ideal.K6
section
open Go.Proofs Go.Ideal Go.Ideal.L1
set_option linter.unusedSimpArgs false
set_option linter.unusedVariables false
set_option maxRecDepth 100000
set_option maxHeartbeats 8000000

def skHi (bs : List Bool) (zs : List Int) (A:Int) : Int × Int := bfG bs zs A 1 6 (-1)
def skLo (bs : List Bool) (zs : List Int) (A:Int) : Int × Int := bfG bs zs A 0 6 (skHi bs zs A).2
def skAt (bs : List Bool) (zs : List Int) (A:Int) : Int := nxV (skLo bs zs A).2 (nw zs (lk (skLo bs zs A).2 0))
def skF (bs : List Bool) (zs : List Int) (A:Int) : Int := if (skHi bs zs A).1 = -1 then (skLo bs zs A).1 else (skHi bs zs A).1
/-- The bits of the keys from one on; the cell that must be known. -/
def btG (bs : List Bool) (zs : List Int) (B:Int) : Nat → Int → Int → Int × Int
  | 0, _, out => (-1, out)
  | n + 1, x, out => if x ≠ -1 ∧ x ≤ B then (if kn bs (lk x 0) = true then btG bs zs B n (nxV x (nw zs (lk x 0))) (bits .or .i64 out (shl .i64 1 x)) else (lk x 0, bits .or .i64 out (shl .i64 1 x))) else (-1, out)
def insZ (zs : List Int) (A b lv:Int) : List Int := upz (upz zs (lk A lv) (nw zs (lk b lv))) (lk b lv) (A + 1)
def delZ (zs : List Int) (A b lv:Int) : List Int := upz (upz zs (lk b lv) (nw zs (lk A lv))) (lk A lv) 0
/-- Does an erase take the key out of the upper level? -/
def skUp (bs : List Bool) (zs : List Int) (A:Int) : Prop := nxV (skHi bs zs A).2 (nw (delZ zs A (skLo bs zs A).2 0) (lk (skHi bs zs A).2 1)) = A
instance (bs : List Bool) (zs : List Int) (A:Int) : Decidable (skUp bs zs A) := by unfold skUp; exact inferInstance
def skN (bs : List Bool) (zs : List Int) (k A B x:Int) : Int :=
  if k = 9 then (if kn bs (lk (-1) 0) = true then -1 else lk (-1) 0)
  else if skF bs zs A = -1 then
    (if k = 10 then (btG bs zs B 6 (skAt bs zs A) 0).1
     else if k = 6 then (if skAt bs zs A = A then -1 else if kn bs (lk A 0) = true then (if x = 1 then (if kn bs (lk A 1) = true then -1 else lk A 1) else -1) else lk A 0)
     else if k = 7 then (if skAt bs zs A = A then (if kn bs (lk A 0) = true then (if skUp bs zs A then (if kn bs (lk A 1) = true then -1 else lk A 1) else -1) else lk A 0) else -1)
     else -1)
  else skF bs zs A
def skCode (bs : List Bool) (zs : List Int) (k A:Int) : Int :=
  if k = 9 then (if nxV (-1) (nw zs (lk (-1) 0)) = -1 then 2 else 0) else if k = 6 then (if skAt bs zs A = A then 1 else 0) else if k = 7 then (if skAt bs zs A = A then 0 else 2) else 0
def skNum (bs : List Bool) (zs : List Int) (k A B:Int) : Int :=
  if k = 9 then (if nxV (-1) (nw zs (lk (-1) 0)) = -1 then 0 else nxV (-1) (nw zs (lk (-1) 0))) else if k = 10 then (btG bs zs B 6 (skAt bs zs A) 0).2
  else if k = 8 then (if skAt bs zs A = A then 1 else 0) else if k = 6 then (if skAt bs zs A = A then 0 else A) else (if skAt bs zs A = A then A else 0)
def skZ (bs : List Bool) (zs : List Int) (k A x:Int) : List Int :=
  if k = 6 ∧ skAt bs zs A ≠ A then (if x = 1 then insZ (insZ zs A (skLo bs zs A).2 0) A (skHi bs zs A).2 1 else insZ zs A (skLo bs zs A).2 0)
  else if k = 7 ∧ skAt bs zs A = A then (if skUp bs zs A then delZ (delZ zs A (skLo bs zs A).2 0) A (skHi bs zs A).2 1 else delZ zs A (skLo bs zs A).2 0) else zs
def skC (bs : List Bool) (zs : List Int) (k A x j:Int) : Int := nw (skZ bs zs k A x) j
def skZs (bs : List Bool) (zs : List Int) (k A x:Int) : List Int := zs.take 16 ++ [skC bs zs k A x 0, skC bs zs k A x 1, skC bs zs k A x 2, skC bs zs k A x 3, skC bs zs k A x 4, skC bs zs k A x 5, skC bs zs k A x 6, skC bs zs k A x 7, skC bs zs k A x 8, skC bs zs k A x 9, skC bs zs k A x 10, skC bs zs k A x 11, skC bs zs k A x 12, skC bs zs k A x 13, skC bs zs k A x 14, skC bs zs k A x 15]
def skMay (zs : List Int) (k a b x:Int) : Bool := B1.allMay zs && B1.opMay k a b x && decide (6 ≤ k)
def viewOf (bs : List Bool) (zs : List Int) : List V := bs.map (fun b => .bool (.s b)) ++ zs.map (fun z => .int .i64 (.s z))
def badAsk (err:Int) : V := .tuple [.agg (.int .i64 (.c 0) :: List.replicate 16 (.bool (.c false)) ++ List.replicate 32 (.int .i64 (.c 0)) ++ [.nils]), .int .i64 (.c err)]
def needAsk (n:Int) (bs : List Bool) (zs : List Int) : V := .tuple [.agg (.int .i64 (.s n) :: viewOf bs zs ++ [.nils]), .int .i64 (.c 0)]
def doneAsk (bs : List Bool) (zs : List Int) : V := .tuple [.agg (.int .i64 (.c (-1)) :: viewOf bs zs ++ [.slice 0 (.c 0) (.c 1) 2 (.c 1)]), .int .i64 (.c 0)]
def ansB (c n:Int) : List (Option Blk) := [some (.own false 48 (fun _ => 0) 0 [.int .i64 (.s c), .int .i64 (.s n)])]

theorem bfG_ok (bs : List Bool) (zs : List Int) (key lv:Int) (hlv : 0 ≤ lv) : ∀ (n:Nat) (fr:Int), -1 ≤ fr → fr < 5 → 5 - fr ≤ (n:Int) → -1 ≤ (bfG bs zs key lv n fr).2 ∧ (bfG bs zs key lv n fr).2 < 5 ∧ (fr < key → (bfG bs zs key lv n fr).2 < key) ∧
    ((bfG bs zs key lv n fr).1 = -1 → kn bs (lk (bfG bs zs key lv n fr).2 lv) = true ∧ (nxV (bfG bs zs key lv n fr).2 (nw zs (lk (bfG bs zs key lv n fr).2 lv)) = -1 ∨ key ≤ nxV (bfG bs zs key lv n fr).2 (nw zs (lk (bfG bs zs key lv n fr).2 lv)))) ∧ ((bfG bs zs key lv n fr).1 ≠ -1 → ∃ k, -1 ≤ k ∧ k < 5 ∧ (bfG bs zs key lv n fr).1 = lk k lv ∧ kn bs (lk k lv) = false)
  | 0, fr, h1, h2, h3 => absurd h3 (by show ¬ 5 - fr ≤ ((0:Nat):Int); omega)
  | n + 1, fr, h1, h2, h3 => by
    by_cases hk : kn bs (lk fr lv) = true
    · by_cases hc : nxV fr (nw zs (lk fr lv)) ≠ -1 ∧ nxV fr (nw zs (lk fr lv)) < key
      · have e : bfG bs zs key lv (n + 1) fr = bfG bs zs key lv n (nxV fr (nw zs (lk fr lv))) := by
          show (if kn bs (lk fr lv) = true then (if nxV fr (nw zs (lk fr lv)) ≠ -1 ∧ nxV fr (nw zs (lk fr lv)) < key then bfG bs zs key lv n (nxV fr (nw zs (lk fr lv))) else (-1, fr)) else (lk fr lv, fr)) = _
          rw [if_pos hk, if_pos hc]
        rw [e]
        have hx := nxV_ok fr (nw zs (lk fr lv))
        have hx : fr < nxV fr (nw zs (lk fr lv)) ∧ nxV fr (nw zs (lk fr lv)) < 5 := hx.resolve_left hc.1
        obtain ⟨g1, g2, g3, g4, g5⟩ := bfG_ok bs zs key lv hlv n (nxV fr (nw zs (lk fr lv))) (by omega) hx.2 (by omega)
        exact ⟨g1, g2, fun _ => g3 hc.2, g4, g5⟩
      · have e : bfG bs zs key lv (n + 1) fr = (-1, fr) := by
          show (if kn bs (lk fr lv) = true then (if nxV fr (nw zs (lk fr lv)) ≠ -1 ∧ nxV fr (nw zs (lk fr lv)) < key then bfG bs zs key lv n (nxV fr (nw zs (lk fr lv))) else (-1, fr)) else (lk fr lv, fr)) = _
          rw [if_pos hk, if_neg hc]
        rw [e]
        exact ⟨h1, h2, fun h => h, fun _ => ⟨hk, by simp only; omega⟩, fun h => absurd rfl h⟩
    · have e : bfG bs zs key lv (n + 1) fr = (lk fr lv, fr) := by
        show (if kn bs (lk fr lv) = true then (if nxV fr (nw zs (lk fr lv)) ≠ -1 ∧ nxV fr (nw zs (lk fr lv)) < key then bfG bs zs key lv n (nxV fr (nw zs (lk fr lv))) else (-1, fr)) else (lk fr lv, fr)) = _
        rw [if_neg hk]
      rw [e]
      refine ⟨h1, h2, fun h => h, fun h => ?_, fun _ => ⟨fr, h1, h2, rfl, by simpa using hk⟩⟩
      simp only [lk] at h; omega
end
end Go.Ideal.K6

namespace Go.Ideal.K6
section
open Go.Proofs Go.Ideal Go.Ideal.L1
set_option linter.unusedSimpArgs false
set_option linter.unusedVariables false
theorem skN6 {bs : List Bool} {zs : List Int} {A B x : Int} (hA : 0 ≤ A) (h : skN bs zs 6 A B x = -1) : (skHi bs zs A).1 = -1 ∧ (skLo bs zs A).1 = -1 ∧ (skAt bs zs A = A ∨ (kn bs (lk A 0) = true ∧ (x = 1 → kn bs (lk A 1) = true))) := by
  have e0 : lk A 0 ≠ -1 := by unfold lk; omega
  have e1 : lk A 1 ≠ -1 := by unfold lk; omega
  simp only [skN, show (6:Int) ≠ 9 by decide, show (6:Int) ≠ 10 by decide, if_false, if_true] at h
  by_cases g1 : (skHi bs zs A).1 = -1
  · by_cases g2 : (skLo bs zs A).1 = -1
    · refine ⟨g1, g2, ?_⟩
      simp only [skF, g1, g2, if_true] at h
      by_cases g3 : skAt bs zs A = A
      · exact .inl g3
      · simp only [g3, if_false] at h
        right
        by_cases g4 : kn bs (lk A 0) = true
        · refine ⟨g4, fun hx => ?_⟩
          simp only [g4, hx, if_true] at h
          by_cases g5 : kn bs (lk A 1) = true
          · exact g5
          · simp only [g5, if_false] at h; exact absurd h e1
        · simp only [g4, if_false] at h; exact absurd h e0
    · simp only [skF, g1, if_true, g2, if_false] at h
  · simp only [skF, g1, if_false] at h
theorem skN7 {bs : List Bool} {zs : List Int} {A B x : Int} (hA : 0 ≤ A) (h : skN bs zs 7 A B x = -1) : (skHi bs zs A).1 = -1 ∧ (skLo bs zs A).1 = -1 ∧ (skAt bs zs A ≠ A ∨ (kn bs (lk A 0) = true ∧ (skUp bs zs A → kn bs (lk A 1) = true))) := by
  have e0 : lk A 0 ≠ -1 := by unfold lk; omega
  have e1 : lk A 1 ≠ -1 := by unfold lk; omega
  simp only [skN, show (7:Int) ≠ 9 by decide, show (7:Int) ≠ 10 by decide, show (7:Int) ≠ 6 by decide, if_false, if_true] at h
  by_cases g1 : (skHi bs zs A).1 = -1
  · by_cases g2 : (skLo bs zs A).1 = -1
    · refine ⟨g1, g2, ?_⟩
      simp only [skF, g1, g2, if_true] at h
      by_cases g3 : skAt bs zs A = A
      · simp only [g3, if_true] at h
        right
        by_cases g4 : kn bs (lk A 0) = true
        · refine ⟨g4, fun hx => ?_⟩
          simp only [g4, hx, if_true] at h
          by_cases g5 : kn bs (lk A 1) = true
          · exact g5
          · simp only [g5, if_false] at h; exact absurd h e1
        · simp only [g4, if_false] at h; exact absurd h e0
      · exact .inl g3
    · simp only [skF, g1, if_true, g2, if_false] at h
  · simp only [skF, g1, if_false] at h
end
end Go.Ideal.K6

namespace Go.Ideal.K6
section
open Go.Proofs Go.Ideal Go.Ideal.L1
set_option linter.unusedSimpArgs false
set_option linter.unusedVariables false
set_option maxRecDepth 100000
set_option maxHeartbeats 8000000
variable (b0 b1 b2 b3 b4 b5 b6 b7 b8 b9 b10 b11 b12 b13 b14 b15:Bool) (z0 z1 z2 z3 z4 z5 z6 z7 z8 z9 z10 z11 z12 z13 z14 z15 z16 z17 z18 z19 z20 z21 z22 z23 z24 z25 z26 z27 z28 z29 z30 z31:Int)
theorem zsOk_of (hv : B1.allMay [z0, z1, z2, z3, z4, z5, z6, z7, z8, z9, z10, z11, z12, z13, z14, z15, z16, z17, z18, z19, z20, z21, z22, z23, z24, z25, z26, z27, z28, z29, z30, z31] = true) : zsOk [z0, z1, z2, z3, z4, z5, z6, z7, z8, z9, z10, z11, z12, z13, z14, z15, z16, z17, z18, z19, z20, z21, z22, z23, z24, z25, z26, z27, z28, z29, z30, z31] := by
  intro key lv ho
  simp only [B1.allMay, B1.valMay, Bool.and_eq_true, decide_eq_true_eq] at hv
  unfold lkOk at ho
  rcases (by omega : key = -1 ∨ key = 0 ∨ key = 1 ∨ key = 2 ∨ key = 3 ∨ key = 4) with rfl | rfl | rfl | rfl | rfl | rfl <;> rcases (by omega : lv = 0 ∨ lv = 1) with rfl | rfl <;> simp only [nwOk, nw, lk] <;> simp <;> omega
theorem nw_upz (c x j:Int) (hj : 0 ≤ j ∧ j < 16) : nw (upz [z0, z1, z2, z3, z4, z5, z6, z7, z8, z9, z10, z11, z12, z13, z14, z15, z16, z17, z18, z19, z20, z21, z22, z23, z24, z25, z26, z27, z28, z29, z30, z31] c x) j = if c = j then x else nw [z0, z1, z2, z3, z4, z5, z6, z7, z8, z9, z10, z11, z12, z13, z14, z15, z16, z17, z18, z19, z20, z21, z22, z23, z24, z25, z26, z27, z28, z29, z30, z31] j := by
  rcases (by omega : j = 0 ∨ j = 1 ∨ j = 2 ∨ j = 3 ∨ j = 4 ∨ j = 5 ∨ j = 6 ∨ j = 7 ∨ j = 8 ∨ j = 9 ∨ j = 10 ∨ j = 11 ∨ j = 12 ∨ j = 13 ∨ j = 14 ∨ j = 15) with rfl | rfl | rfl | rfl | rfl | rfl | rfl | rfl | rfl | rfl | rfl | rfl | rfl | rfl | rfl | rfl <;> rfl
theorem del_nw (A lo hi:Int) : nwOk [z0, z1, z2, z3, z4, z5, z6, z7, z8, z9, z10, z11, z12, z13, z14, z15, z16, z17, z18, z19, z20, z21, z22, z23, z24, z25, z26, z27, z28, z29, z30, z31] (lk hi 1) → -1 ≤ hi ∧ hi < 5 → nwOk (delZ [z0, z1, z2, z3, z4, z5, z6, z7, z8, z9, z10, z11, z12, z13, z14, z15, z16, z17, z18, z19, z20, z21, z22, z23, z24, z25, z26, z27, z28, z29, z30, z31] A lo 0) (lk hi 1) := by
  intro h hh
  have e : nw (delZ [z0, z1, z2, z3, z4, z5, z6, z7, z8, z9, z10, z11, z12, z13, z14, z15, z16, z17, z18, z19, z20, z21, z22, z23, z24, z25, z26, z27, z28, z29, z30, z31] A lo 0) (lk hi 1) = nw [z0, z1, z2, z3, z4, z5, z6, z7, z8, z9, z10, z11, z12, z13, z14, z15, z16, z17, z18, z19, z20, z21, z22, z23, z24, z25, z26, z27, z28, z29, z30, z31] (lk hi 1) := by
    have hj : 0 ≤ lk hi 1 ∧ lk hi 1 < 16 := by unfold lk; omega
    have n1 : ¬ lk lo 0 = lk hi 1 := by unfold lk; omega
    have n2 : ¬ lk A 0 = lk hi 1 := by unfold lk; omega
    generalize lk hi 1 = j at *
    unfold delZ
    generalize nw [z0, z1, z2, z3, z4, z5, z6, z7, z8, z9, z10, z11, z12, z13, z14, z15, z16, z17, z18, z19, z20, z21, z22, z23, z24, z25, z26, z27, z28, z29, z30, z31] (lk A 0) = w
    rcases (by omega : j = 0 ∨ j = 1 ∨ j = 2 ∨ j = 3 ∨ j = 4 ∨ j = 5 ∨ j = 6 ∨ j = 7 ∨ j = 8 ∨ j = 9 ∨ j = 10 ∨ j = 11 ∨ j = 12 ∨ j = 13 ∨ j = 14 ∨ j = 15) with rfl | rfl | rfl | rfl | rfl | rfl | rfl | rfl | rfl | rfl | rfl | rfl | rfl | rfl | rfl | rfl <;> simp [upz, nw, n1, n2]
  unfold nwOk at h ⊢
  rw [e]; exact h
def doS : Spec := orS B1.maysP bkS
theorem doS_ok : SpecOk Try.prog doS := orS_ok B1.maysP_ok bkS_ok
end
end Go.Ideal.K6
