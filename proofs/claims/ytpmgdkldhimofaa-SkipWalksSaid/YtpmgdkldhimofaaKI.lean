/- Put together of: K7 K7a K7b. Own text; nothing here is trusted. -/
import Derived.Test.YtpmgdkldhimofaaKH
import Derived.Test.YtpmgdkldhimofaaKD
import Derived.KernelRfl
namespace Go.Ideal.K6
section
open Go.Proofs Go.Ideal Go.Ideal.L1
set_option linter.unusedSimpArgs false
set_option linter.unusedVariables false
set_option maxRecDepth 100000
set_option maxHeartbeats 8000000
theorem awake1 : ∃ hh, vcOf (runCall Try.prog noSpec noL 12000 18 [] H0 hh) (fun v _ => V.leP (.bool (.c true)) v) := by
  refine vcIntro [] (an tt tt) ?_
  kernel_rfl
def awake : Spec := sp 18 fun xs => match xs with | [] => some (.bool (.c true)) | _ => none
theorem awake_ok : SpecOk Try.prog awake := closed_ok (CallQ.run noSpec_ok noL_ok mixed awake1) rfl
def specs : Spec := orS awake (orS skipS B1.maysP)
theorem specs_ok : SpecOk Try.prog specs := orS_ok awake_ok (orS_ok skS_ok B1.maysP_ok)
end
end Go.Ideal.K6

namespace Go.Ideal.K6
section
open Go.Proofs Go.Ideal Go.Ideal.L1
set_option linter.unusedSimpArgs false
set_option linter.unusedVariables false
set_option maxRecDepth 100000
set_option maxHeartbeats 8000000

def tT : List Bool := [true, true, true, true, true, true, true, true, true, true, true, true, true, true, true, true]
/-- The next key of a set behind one, and 1; 0: none. -/
def nxS (p : Nat → Bool) (k : Int) : Int := if k < 0 && p 0 then 1 else if k < 1 && p 1 then 2 else if k < 2 && p 2 then 3 else if k < 3 && p 3 then 4 else if k < 4 && p 4 then 5 else 0
def inS (p : Nat → Bool) (j : Nat) : Int := if p j then nxS p j else 0
/-- The cells of sets (at level 0, at level 1). -/
def img (p q : Nat → Bool) : Nat → Int
  | 4 => nxS p (-1)
  | 5 => nxS q (-1)
  | 6 => inS p 0
  | 7 => inS q 0
  | 8 => inS p 1
  | 9 => inS q 1
  | 10 => inS p 2
  | 11 => inS q 2
  | 12 => inS p 3
  | 13 => inS q 3
  | 14 => inS p 4
  | 15 => inS q 4
  | _ => 0
def zsG (g : Nat → Int) : List Int := [0, 0, 0, 0, 0, 0, 0, 0, 0, 0, 0, 0, 0, 0, 0, 0, g 0, g 1, g 2, g 3, g 4, g 5, g 6, g 7, g 8, g 9, g 10, g 11, g 12, g 13, g 14, g 15]
def ofL : List Bool → Nat → Bool
  | [a, _, _, _, _], 0 => a
  | [_, a, _, _, _], 1 => a
  | [_, _, a, _, _], 2 => a
  | [_, _, _, a, _], 3 => a
  | [_, _, _, _, a], 4 => a
  | _, _ => false
def allB (f : Bool → Bool) : Bool := f false && f true
theorem allB_of {f : Bool → Bool} (h : allB f = true) (b : Bool) : f b = true := by
  simp only [allB, Bool.and_eq_true] at h
  cases b
  · exact h.1
  · exact h.2
/-- With a key put. -/
def putP (p : Nat → Bool) (A : Int) : Nat → Bool := fun j => p j || decide ((j : Int) = A)
def putQ (p q : Nat → Bool) (A X : Int) : Nat → Bool := fun j => q j || (decide ((j : Int) = A) && decide (X = 1) && !p j)
def subS (p q : Nat → Bool) : Bool := (!q 0 || p 0) && ((!q 1 || p 1) && ((!q 2 || p 2) && ((!q 3 || p 3) && (!q 4 || p 4))))
def chkIns (p q : Nat → Bool) (A X : Int) : Bool := skZs tT (zsG (img p q)) 6 A X == zsG (img (putP p A) (putQ p q A X)) && (skCode tT (zsG (img p q)) 6 A == (if p A.toNat then 1 else 0) && skNum tT (zsG (img p q)) 6 A 0 == (if p A.toNat then 0 else A))
def chkDel (p q : Nat → Bool) (A X : Int) : Bool := p A.toNat || (skZs tT (zsG (img (putP p A) (putQ p q A X))) 7 A 0 == zsG (img p q) && (skCode tT (zsG (img (putP p A) (putQ p q A X))) 7 A == 0 && (skNum tT (zsG (img (putP p A) (putQ p q A X))) 7 A 0 == A && !(zsG (img (putP p A) (putQ p q A X)) == zsG (img p q)))))
def chkOne (p q : Nat → Bool) : Bool := !subS p q || ([0, 1, 2, 3, 4].all fun A => chkIns p q A 0 && (chkIns p q A 1 && (chkDel p q A 0 && chkDel p q A 1)))
def chkP (p : Nat → Bool) : Bool := allB fun a' => allB fun b' => allB fun c' => allB fun d' => allB fun e' => chkOne p (ofL [a', b', c', d', e'])
theorem ck0 : chkP (ofL [false, false, false, false, false]) = true := by kernel_rfl
theorem ck1 : chkP (ofL [false, false, false, false, true]) = true := by kernel_rfl
theorem ck2 : chkP (ofL [false, false, false, true, false]) = true := by kernel_rfl
theorem ck3 : chkP (ofL [false, false, false, true, true]) = true := by kernel_rfl
theorem ck4 : chkP (ofL [false, false, true, false, false]) = true := by kernel_rfl
theorem ck5 : chkP (ofL [false, false, true, false, true]) = true := by kernel_rfl
theorem ck6 : chkP (ofL [false, false, true, true, false]) = true := by kernel_rfl
theorem ck7 : chkP (ofL [false, false, true, true, true]) = true := by kernel_rfl
theorem ck8 : chkP (ofL [false, true, false, false, false]) = true := by kernel_rfl
theorem ck9 : chkP (ofL [false, true, false, false, true]) = true := by kernel_rfl
theorem ck10 : chkP (ofL [false, true, false, true, false]) = true := by kernel_rfl
theorem ck11 : chkP (ofL [false, true, false, true, true]) = true := by kernel_rfl
theorem ck12 : chkP (ofL [false, true, true, false, false]) = true := by kernel_rfl
theorem ck13 : chkP (ofL [false, true, true, false, true]) = true := by kernel_rfl
theorem ck14 : chkP (ofL [false, true, true, true, false]) = true := by kernel_rfl
theorem ck15 : chkP (ofL [false, true, true, true, true]) = true := by kernel_rfl
theorem ck16 : chkP (ofL [true, false, false, false, false]) = true := by kernel_rfl
theorem ck17 : chkP (ofL [true, false, false, false, true]) = true := by kernel_rfl
theorem ck18 : chkP (ofL [true, false, false, true, false]) = true := by kernel_rfl
theorem ck19 : chkP (ofL [true, false, false, true, true]) = true := by kernel_rfl
theorem ck20 : chkP (ofL [true, false, true, false, false]) = true := by kernel_rfl
theorem ck21 : chkP (ofL [true, false, true, false, true]) = true := by kernel_rfl
theorem ck22 : chkP (ofL [true, false, true, true, false]) = true := by kernel_rfl
theorem ck23 : chkP (ofL [true, false, true, true, true]) = true := by kernel_rfl
theorem ck24 : chkP (ofL [true, true, false, false, false]) = true := by kernel_rfl
theorem ck25 : chkP (ofL [true, true, false, false, true]) = true := by kernel_rfl
theorem ck26 : chkP (ofL [true, true, false, true, false]) = true := by kernel_rfl
theorem ck27 : chkP (ofL [true, true, false, true, true]) = true := by kernel_rfl
theorem ck28 : chkP (ofL [true, true, true, false, false]) = true := by kernel_rfl
theorem ck29 : chkP (ofL [true, true, true, false, true]) = true := by kernel_rfl
theorem ck30 : chkP (ofL [true, true, true, true, false]) = true := by kernel_rfl
theorem ck31 : chkP (ofL [true, true, true, true, true]) = true := by kernel_rfl
theorem ck_p : ∀ a b c d e : Bool, chkP (ofL [a, b, c, d, e]) = true
  | false, false, false, false, false => ck0
  | false, false, false, false, true => ck1
  | false, false, false, true, false => ck2
  | false, false, false, true, true => ck3
  | false, false, true, false, false => ck4
  | false, false, true, false, true => ck5
  | false, false, true, true, false => ck6
  | false, false, true, true, true => ck7
  | false, true, false, false, false => ck8
  | false, true, false, false, true => ck9
  | false, true, false, true, false => ck10
  | false, true, false, true, true => ck11
  | false, true, true, false, false => ck12
  | false, true, true, false, true => ck13
  | false, true, true, true, false => ck14
  | false, true, true, true, true => ck15
  | true, false, false, false, false => ck16
  | true, false, false, false, true => ck17
  | true, false, false, true, false => ck18
  | true, false, false, true, true => ck19
  | true, false, true, false, false => ck20
  | true, false, true, false, true => ck21
  | true, false, true, true, false => ck22
  | true, false, true, true, true => ck23
  | true, true, false, false, false => ck24
  | true, true, false, false, true => ck25
  | true, true, false, true, false => ck26
  | true, true, false, true, true => ck27
  | true, true, true, false, false => ck28
  | true, true, true, false, true => ck29
  | true, true, true, true, false => ck30
  | true, true, true, true, true => ck31
theorem ck_pq (a b c d e a' b' c' d' e' : Bool) : chkOne (ofL [a, b, c, d, e]) (ofL [a', b', c', d', e']) = true :=
  allB_of (allB_of (allB_of (allB_of (allB_of (ck_p a b c d e) a') b') c') d') e'
end
end Go.Ideal.K6

namespace Go.Ideal.K6
section
open Go.Proofs Go.Ideal Go.Ideal.L1
set_option linter.unusedSimpArgs false
set_option linter.unusedVariables false
set_option maxRecDepth 100000
set_option maxHeartbeats 8000000

theorem kn_tT (c : Int) (h : 0 ≤ c ∧ c < 16) : kn tT c = true := by
  rcases (by omega : c = 0 ∨ c = 1 ∨ c = 2 ∨ c = 3 ∨ c = 4 ∨ c = 5 ∨ c = 6 ∨ c = 7 ∨ c = 8 ∨ c = 9 ∨ c = 10 ∨ c = 11 ∨ c = 12 ∨ c = 13 ∨ c = 14 ∨ c = 15) with rfl | rfl | rfl | rfl | rfl | rfl | rfl | rfl | rfl | rfl | rfl | rfl | rfl | rfl | rfl | rfl <;> rfl
theorem bfG_all (zs : List Int) (key lv fr : Int) (hf : -1 ≤ fr ∧ fr < 5) (hl : 0 ≤ lv ∧ lv < 2) : (bfG tT zs key lv 6 fr).1 = -1 := by
  obtain ⟨_, _, _, _, h⟩ := bfG_ok tT zs key lv hl.1 6 fr hf.1 hf.2 (by show 5 - fr ≤ ((6 : Nat) : Int); omega)
  by_cases e : (bfG tT zs key lv 6 fr).1 = -1
  · exact e
  · obtain ⟨k, h1, h2, h3, h4⟩ := h e
    rw [kn_tT _ (by unfold lk; omega)] at h4; simp at h4
theorem btG_all (zs : List Int) (B : Int) : ∀ (n : Nat) (x out : Int), -1 ≤ x → x < 5 → (btG tT zs B n x out).1 = -1
  | 0, x, out, _, _ => rfl
  | n + 1, x, out, h1, h2 => by
    show (if x ≠ -1 ∧ x ≤ B then (if kn tT (lk x 0) = true then btG tT zs B n (nxV x (nw zs (lk x 0))) (bits .or .i64 out (shl .i64 1 x)) else (lk x 0, bits .or .i64 out (shl .i64 1 x))) else (-1, out)).1 = -1
    split
    · rw [if_pos (kn_tT _ (by unfold lk; omega))]
      have := nxV_ok x (nw zs (lk x 0))
      exact btG_all zs B n _ _ (by omega) (by omega)
    · rfl
theorem skN_all (zs : List Int) (k A B x : Int) (hA : 0 ≤ A ∧ A < 5) : skN tT zs k A B x = -1 := by
  have h1 : (skHi tT zs A).1 = -1 := bfG_all zs A 1 (-1) (by omega) (by omega)
  obtain ⟨p1, p2, _⟩ := bfG_ok tT zs A 1 (by omega) 6 (-1) (by omega) (by omega) (by omega)
  have h2 : (skLo tT zs A).1 = -1 := bfG_all zs A 0 _ ⟨p1, p2⟩ (by omega)
  have h3 : skF tT zs A = -1 := by simp only [skF, h1, h2, if_true]
  have h4 := nxV_ok (skLo tT zs A).2 (nw zs (lk (skLo tT zs A).2 0))
  obtain ⟨q1, q2, _⟩ := bfG_ok tT zs A 0 (by omega) 6 (skHi tT zs A).2 p1 p2 (by have : -1 ≤ (skHi tT zs A).2 := p1; show 5 - (skHi tT zs A).2 ≤ ((6 : Nat) : Int); omega)
  have h5 : (btG tT zs B 6 (skAt tT zs A) 0).1 = -1 := btG_all zs B 6 _ _ (by have : -1 ≤ (skLo tT zs A).2 := q1; unfold skAt; omega) (by unfold skAt; omega)
  have k0 : kn tT (lk A 0) = true := kn_tT _ (by unfold lk; omega)
  have k1 : kn tT (lk A 1) = true := kn_tT _ (by unfold lk; omega)
  have k2 : kn tT (lk (-1) 0) = true := rfl
  simp only [skN, h3, h5, k0, k1, k2, if_true]
  (repeat' split) <;> rfl

theorem nxS_ok (p : Nat → Bool) (k : Int) : 0 ≤ nxS p k ∧ nxS p k < 6 := by unfold nxS; (repeat' split) <;> omega
theorem inS_ok (p : Nat → Bool) (k : Nat) : 0 ≤ inS p k ∧ inS p k < 6 := by unfold inS; split; exact nxS_ok p k; omega
theorem img_ok (p q : Nat → Bool) (j : Nat) (hj : j < 16) : 0 ≤ img p q j ∧ img p q j < 6 := by
  rcases (by omega : j = 0 ∨ j = 1 ∨ j = 2 ∨ j = 3 ∨ j = 4 ∨ j = 5 ∨ j = 6 ∨ j = 7 ∨ j = 8 ∨ j = 9 ∨ j = 10 ∨ j = 11 ∨ j = 12 ∨ j = 13 ∨ j = 14 ∨ j = 15) with rfl | rfl | rfl | rfl | rfl | rfl | rfl | rfl | rfl | rfl | rfl | rfl | rfl | rfl | rfl | rfl <;>
    first | exact (by decide : (0 : Int) ≤ 0 ∧ (0 : Int) < 6) | exact nxS_ok _ _ | exact inS_ok _ _
def l5 (p : Nat → Bool) : Nat → Bool := ofL [p 0, p 1, p 2, p 3, p 4]
theorem zs_l5 (p q : Nat → Bool) : zsG (img p q) = zsG (img (l5 p) (l5 q)) := rfl
theorem zs_congr {g h : Nat → Int} (e : ∀ j, j < 16 → g j = h j) : zsG g = zsG h := by
  simp only [zsG, e 0 (by omega), e 1 (by omega), e 2 (by omega), e 3 (by omega), e 4 (by omega), e 5 (by omega), e 6 (by omega), e 7 (by omega), e 8 (by omega), e 9 (by omega), e 10 (by omega), e 11 (by omega), e 12 (by omega), e 13 (by omega), e 14 (by omega), e 15 (by omega)]
theorem zs_inj {g h : Nat → Int} (e : zsG g = zsG h) (j : Nat) (hj : j < 16) : g j = h j := by
  simp only [zsG, List.cons.injEq, and_true, true_and] at e
  rcases (by omega : j = 0 ∨ j = 1 ∨ j = 2 ∨ j = 3 ∨ j = 4 ∨ j = 5 ∨ j = 6 ∨ j = 7 ∨ j = 8 ∨ j = 9 ∨ j = 10 ∨ j = 11 ∨ j = 12 ∨ j = 13 ∨ j = 14 ∨ j = 15) with rfl | rfl | rfl | rfl | rfl | rfl | rfl | rfl | rfl | rfl | rfl | rfl | rfl | rfl | rfl | rfl <;> simp only [e]
/-- Cells that are those of sets. -/
def isS (g : Nat → Int) (p q : Nat → Bool) : Prop := subS p q = true ∧ p = l5 p ∧ q = l5 q ∧ ∀ j, j < 16 → g j = img p q j
theorem l5_l5 (p : Nat → Bool) : l5 (l5 p) = l5 p := rfl
theorem chk_of {p q : Nat → Bool} (hs : subS p q = true) (hp : p = l5 p) (hq : q = l5 q) (A X : Int) (hA : 0 ≤ A ∧ A < 5) (hX : X = 0 ∨ X = 1) : chkIns p q A X = true ∧ chkDel p q A X = true := by
  have h := ck_pq (p 0) (p 1) (p 2) (p 3) (p 4) (q 0) (q 1) (q 2) (q 3) (q 4)
  change chkOne (l5 p) (l5 q) = true at h
  rw [← hp, ← hq] at h
  simp only [chkOne, hs, Bool.not_true, Bool.false_or, List.all_cons, List.all_nil, Bool.and_true, Bool.and_eq_true] at h
  rcases (by omega : A = 0 ∨ A = 1 ∨ A = 2 ∨ A = 3 ∨ A = 4) with rfl | rfl | rfl | rfl | rfl <;> rcases hX with rfl | rfl <;> simp only [h, and_self]
/-- The cells behind an operation. -/
def opG (g : Nat → Int) (k A x : Int) : Nat → Int := fun j => skC tT (zsG g) k A x j
theorem opG_zs (g : Nat → Int) (k A x : Int) : skZs tT (zsG g) k A x = zsG (opG g k A x) := rfl
theorem put_s {g : Nat → Int} {p q : Nat → Bool} (h : isS g p q) (A X : Int) (hA : 0 ≤ A ∧ A < 5) (hX : X = 0 ∨ X = 1) :
    isS (opG g 6 A X) (l5 (putP p A)) (l5 (putQ p q A X)) ∧ skCode tT (zsG g) 6 A = (if p A.toNat then 1 else 0) ∧ skNum tT (zsG g) 6 A 0 = (if p A.toNat then 0 else A) := by
  obtain ⟨hs, hp, hq, hg⟩ := h
  obtain ⟨c1, c2⟩ := chk_of hs hp hq A X hA hX
  have e := zs_congr hg
  simp only [chkIns, Bool.and_eq_true, beq_iff_eq] at c1
  obtain ⟨d1, d2, d3⟩ := c1
  rw [← e] at d1 d2 d3
  rw [opG_zs, zs_l5] at d1
  refine ⟨⟨?_, (l5_l5 _).symm, (l5_l5 _).symm, zs_inj d1⟩, d2, d3⟩
  simp only [subS, Bool.and_eq_true, Bool.or_eq_true, Bool.not_eq_true'] at hs ⊢
  have key : ∀ j : Nat, (q j = false ∨ p j = true) → putQ p q A X j = false ∨ putP p A j = true := by
    intro j hj
    unfold putP putQ
    by_cases hj2 : (j : Int) = A
    · right; simp [hj2]
    · rcases hj with h | h
      · left; simp [h, hj2]
      · right; simp [h]
  exact ⟨key 0 hs.1, key 1 hs.2.1, key 2 hs.2.2.1, key 3 hs.2.2.2.1, key 4 hs.2.2.2.2⟩
theorem del_s {g : Nat → Int} {p q : Nat → Bool} (h : isS g p q) (A X : Int) (hA : 0 ≤ A ∧ A < 5) (hX : X = 0 ∨ X = 1) (hn : p A.toNat = false) :
    (∀ j, j < 16 → opG (opG g 6 A X) 7 A 0 j = g j) ∧ skCode tT (zsG (opG g 6 A X)) 7 A = 0 ∧ skNum tT (zsG (opG g 6 A X)) 7 A 0 = A ∧ ¬ (∀ j, j < 16 → opG g 6 A X j = g j) := by
  have h1 := (put_s h A X hA hX).1
  obtain ⟨hs, hp, hq, hg⟩ := h
  obtain ⟨c1, c2⟩ := chk_of hs hp hq A X hA hX
  have e := zs_congr hg
  have e2 : zsG (opG g 6 A X) = zsG (img (putP p A) (putQ p q A X)) := by rw [zs_l5]; exact zs_congr h1.2.2.2
  simp only [chkDel, hn, Bool.false_or, Bool.and_eq_true, beq_iff_eq, Bool.not_eq_true', beq_eq_false_iff_ne] at c2
  obtain ⟨d1, d2, d3, d4⟩ := c2
  rw [← e2] at d1 d2 d3 d4
  rw [← e] at d1 d4
  rw [opG_zs] at d1
  exact ⟨zs_inj d1, d2, d3, fun hh => d4 (zs_congr hh)⟩
end
end Go.Ideal.K6
