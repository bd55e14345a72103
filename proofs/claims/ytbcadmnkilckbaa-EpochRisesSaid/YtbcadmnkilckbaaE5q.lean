/- Chapter 11: EpochRises, put together. Written by gen/rises.py. Own text. -/
import Derived.Test.YtbcadmnkilckbaaE5_0
import Derived.Test.YtbcadmnkilckbaaE5_1
import Derived.Test.YtbcadmnkilckbaaE5_2
namespace Go.Ideal.E5
open Go.Proofs Go.Ideal Go.Ideal.L1 Go.Ideal.E1
set_option linter.unusedSimpArgs false
set_option linter.unusedVariables false
set_option maxRecDepth 100000
set_option maxHeartbeats 8000000

abbrev LW : FuncId := 12
abbrev QF : Post := RetQ Try.prog LW (fun v _ => isT v)
abbrev PL : List Nat := [1, 1, 1, 1, 1, 1, 0, 1, 0]
structure Er where
  a : Bool
  b : Bool
  c : Bool
  q : Nat → Int
  E : Nat → Int
  W : Nat → Int
  e : Int
  i : Nat
def rc : Bool → Bool → Bool → List V
  | false, false, false => [.nilp, .nilp, .nilp]
  | false, false, true => [.nilp, .nilp, .ptr 6 (.c 0)]
  | false, true, false => [.nilp, .ptr 6 (.c 0), .nilp]
  | false, true, true => [.nilp, .ptr 6 (.c 0), .ptr 7 (.c 0)]
  | true, false, false => [.ptr 6 (.c 0), .nilp, .nilp]
  | true, false, true => [.ptr 6 (.c 0), .nilp, .ptr 7 (.c 0)]
  | true, true, false => [.ptr 6 (.c 0), .ptr 7 (.c 0), .nilp]
  | true, true, true => [.ptr 6 (.c 0), .ptr 7 (.c 0), .ptr 8 (.c 0)]
def ra (q E : Nat → Int) : Bool → Bool → Bool → List (Option Blk)
  | false, false, false => []
  | false, false, true => [adv (q 2) (E 2)]
  | false, true, false => [adv (q 1) (E 1)]
  | false, true, true => [adv (q 1) (E 1), adv (q 2) (E 2)]
  | true, false, false => [adv (q 0) (E 0)]
  | true, false, true => [adv (q 0) (E 0), adv (q 2) (E 2)]
  | true, true, false => [adv (q 0) (E 0), adv (q 1) (E 1)]
  | true, true, true => [adv (q 0) (E 0), adv (q 1) (E 1), adv (q 2) (E 2)]
def rn : Bool → Bool → Bool → Nat
  | false, false, false => 6
  | false, false, true => 7
  | false, true, false => 7
  | false, true, true => 8
  | true, false, false => 7
  | true, false, true => 8
  | true, true, false => 8
  | true, true, true => 9
def up (q : Nat → Int) (t : Nat) (x : Int) (u : Nat) : Int := if u = t then x else q u
def Inv (x : Er) : Prop := 0 ≤ x.e ∧ x.e ≤ x.i ∧ x.W 29 = 4 * x.e ∧ x.W 30 = 0 ∧ x.W 31 = 0 ∧ ∀ t, 0 ≤ x.q t ∧ x.q t ≤ 2 ∧ 0 ≤ x.E t ∧ x.E t ≤ x.e
theorem inv_A {x : Er} (h : Inv x) (t : Nat) (a b c : Bool) : Inv ⟨a, b, c, up x.q t 0, up x.E t x.e, x.W, x.e, x.i + 1⟩ := by
  obtain ⟨h1, h2, h3, h4, h5, h6⟩ := h
  refine ⟨h1, by show x.e ≤ ((x.i + 1 : Nat) : Int); omega, h3, h4, h5, fun u => ?_⟩
  have := h6 u
  simp only [up]
  split <;> omega
theorem inv_B {x : Er} (h : Inv x) (t : Nat) (hq : x.q t < 2) (a b c : Bool) : Inv ⟨a, b, c, up x.q t (x.q t + 1), x.E, x.W, x.e, x.i + 1⟩ := by
  obtain ⟨h1, h2, h3, h4, h5, h6⟩ := h
  refine ⟨h1, by show x.e ≤ ((x.i + 1 : Nat) : Int); omega, h3, h4, h5, fun u => ?_⟩
  have := h6 u; have := h6 t
  simp only [up]
  refine ⟨?_, ?_, (h6 u).2.2.1, (h6 u).2.2.2⟩ <;> split <;> omega
theorem inv_C {x : Er} (h : Inv x) (a b c : Bool) : Inv ⟨a, b, c, x.q, x.E, A2.upd x.W 29 (4 * (x.e + 1)), x.e + 1, x.i + 1⟩ := by
  obtain ⟨h1, h2, h3, h4, h5, h6⟩ := h
  refine ⟨by show 0 ≤ x.e + 1; omega, by show x.e + 1 ≤ ((x.i + 1 : Nat) : Int); omega, by simp [A2.upd], by simpa [A2.upd] using h4, by simpa [A2.upd] using h5, fun u => ?_⟩
  have := h6 u
  show 0 ≤ x.q u ∧ x.q u ≤ 2 ∧ 0 ≤ x.E u ∧ x.E u ≤ x.e + 1
  omega
theorem inv_D {x : Er} (h : Inv x) (a b c : Bool) : Inv ⟨a, b, c, x.q, x.E, x.W, x.e, x.i + 1⟩ := by
  obtain ⟨h1, h2, h3, h4, h5, h6⟩ := h
  exact ⟨h1, by show x.e ≤ ((x.i + 1 : Nat) : Int); omega, h3, h4, h5, h6⟩
theorem say0 {x : Er} (h : Inv x) (t : Nat) (hq : x.q t < 2) : x.W (30 + x.q t).toNat = 0 := by
  obtain ⟨h1, h2, h3, h4, h5, h6⟩ := h
  have := h6 t
  rcases (by omega : x.q t = 0 ∨ x.q t = 1) with e | e <;> rw [e]
  · exact h4
  · exact h5
def stepP (f : Nat → Int) (n : Nat) (x : Er) : Post := fun o T1 H1 => ∃ l T2 H2, Dwn 6 l T1 H1 T2 H2 ∧ (match o with
  | .norm => ∃ x' : Er, Inv x' ∧ 90 - x'.i < 90 - x.i ∧ T2 = Tr.ofPairs (rT n x'.e x'.i) ∧ H2 = Hm (rB f n x'.W (rc x'.a x'.b x'.c) (ra x'.q x'.E x'.a x'.b x'.c)) (rn x'.a x'.b x'.c)
  | o => After Try.prog LW [] PL QF o T2 H2)
theorem step_n {f : Nat → Int} {n : Nat} {x : Er} {T : Tr V} {H : Hp} {l : List Nat} (x' : Er) (hi : x.i < 90) (hI : Inv x') (hx : x'.i = x.i + 1)
    (h : ∃ hh, vcOf (runAt Try.prog specs noL 6000 LW (PL ++ [0]) T H hh) (nrm 6 l (rT n x'.e x'.i) (rB f n x'.W (rc x'.a x'.b x'.c) (ra x'.q x'.E x'.a x'.b x'.c)) (rn x'.a x'.b x'.c))) : AtQ Try.prog LW (PL ++ [0]) T H (stepP f n x) := by
  obtain ⟨hh, h⟩ := h
  refine AtQ.run specs_ok noL_ok mixed (by kernel_rfl) ⟨hh, vcOf_mono h fun y H1 hy => ?_⟩
  obtain ⟨o, T1⟩ := y
  cases o with
  | norm => exact ⟨l, _, _, dwnP_ok hy, x', hI, by omega, rfl, rfl⟩
  | exit k => exact hy.elim
  | ret => exact hy.elim
theorem step_x {f : Nat → Int} {n : Nat} {x : Er} {T : Tr V} {H : Hp} (h : ∃ hh, vcOf (runAt Try.prog specs noL 6000 LW (PL ++ [0]) T H hh) (ext0 6 [0, 1, 2, 3, 4, 5] [] [] 6)) : AtQ Try.prog LW (PL ++ [0]) T H (stepP f n x) := by
  obtain ⟨hh, h⟩ := h
  refine AtQ.run specs_ok noL_ok mixed (by kernel_rfl) ⟨hh, vcOf_mono h fun y H1 hy => ?_⟩
  obtain ⟨o, T1⟩ := y
  cases o with
  | norm => exact hy.elim
  | exit k =>
    simp only [ext0] at hy
    split at hy
    · next e =>
      have e := Nat.eq_of_beq_eq_true e
      subst e
      exact ⟨_, _, _, dwnP_ok hy, After.ret specs_ok noL_ok mixed (by kernel_rfl) er_end⟩
    · exact hy.elim
  | ret => exact hy.elim
theorem step (f : Nat → Int) (n : Nat) (hn : n ≤ 9223372036854775807) (x : Er) (hI : Inv x) : AtQ Try.prog LW (PL ++ [0]) (Tr.ofPairs (rT n x.e x.i)) (Hm (rB f n x.W (rc x.a x.b x.c) (ra x.q x.E x.a x.b x.c)) (rn x.a x.b x.c)) (stepP f n x) := by
  have hJ := hI
  obtain ⟨h1, h2, h3, h4, h5, h6⟩ := hI
  obtain ⟨a, b, c, q, E, W, e, i⟩ := x
  simp only at h1 h2 h3 h4 h5 h6
  by_cases hi : i < n ∧ i < 90
  · obtain ⟨hi, hi9⟩ := hi
    have he : 0 ≤ e ∧ e ≤ 90 := by omega
    have q0 := h6 0; have q1 := h6 1; have q2 := h6 2
    have c0 := @say0 ⟨a, b, c, q, E, W, e, i⟩ hJ 0; have c1 := @say0 ⟨a, b, c, q, E, W, e, i⟩ hJ 1; have c2 := @say0 ⟨a, b, c, q, E, W, e, i⟩ hJ 2
    rcases (by omega : f i % 1024 % 3 = 0 ∨ f i % 1024 % 3 = 1 ∨ f i % 1024 % 3 = 2) with ht | ht | ht
    · cases a <;> cases b <;> cases c
      · exact step_n ⟨true, false, false, up q 0 0, up E 0 e, W, e, i + 1⟩ hi9 (inv_A hJ 0 _ _ _) rfl (er_000_0A f n W e i  hn hi hi9 he h3 ht)
      · exact step_n ⟨true, false, true, up q 0 0, up E 0 e, W, e, i + 1⟩ hi9 (inv_A hJ 0 _ _ _) rfl (er_001_0A f n W e i (q 2) (E 2) hn hi hi9 he h3 ht)
      · exact step_n ⟨true, true, false, up q 0 0, up E 0 e, W, e, i + 1⟩ hi9 (inv_A hJ 0 _ _ _) rfl (er_010_0A f n W e i (q 1) (E 1) hn hi hi9 he h3 ht)
      · exact step_n ⟨true, true, true, up q 0 0, up E 0 e, W, e, i + 1⟩ hi9 (inv_A hJ 0 _ _ _) rfl (er_011_0A f n W e i (q 1) (E 1) (q 2) (E 2) hn hi hi9 he h3 ht)
      · by_cases hq : q 0 < 2
        · exact step_n ⟨true, false, false, up q 0 (q 0 + 1), E, W, e, i + 1⟩ hi9 (inv_B hJ 0 hq _ _ _) rfl (er_100_0B f n W e i (q 0) (E 0) hn hi hi9 he h3 ht ⟨q0.1, hq⟩ (c0 hq))
        · have hq2 : q 0 = 2 := by omega
          by_cases hE : E 0 = e
          · exact step_n ⟨false, false, false, q, E, A2.upd W 29 (4 * (e + 1)), e + 1, i + 1⟩ hi9 (inv_C hJ _ _ _) rfl (er_100_0C f n W e i (q 0) (E 0) hn hi hi9 he h3 ht hq2 ⟨by omega, by omega⟩ hE)
          · exact step_n ⟨false, false, false, q, E, W, e, i + 1⟩ hi9 (inv_D hJ _ _ _) rfl (er_100_0D f n W e i (q 0) (E 0) hn hi hi9 he h3 ht hq2 ⟨by omega, by omega⟩ hE)
      · by_cases hq : q 0 < 2
        · exact step_n ⟨true, false, true, up q 0 (q 0 + 1), E, W, e, i + 1⟩ hi9 (inv_B hJ 0 hq _ _ _) rfl (er_101_0B f n W e i (q 0) (E 0) (q 2) (E 2) hn hi hi9 he h3 ht ⟨q0.1, hq⟩ (c0 hq))
        · have hq2 : q 0 = 2 := by omega
          by_cases hE : E 0 = e
          · exact step_n ⟨false, false, true, q, E, A2.upd W 29 (4 * (e + 1)), e + 1, i + 1⟩ hi9 (inv_C hJ _ _ _) rfl (er_101_0C f n W e i (q 0) (E 0) (q 2) (E 2) hn hi hi9 he h3 ht hq2 ⟨by omega, by omega⟩ hE)
          · exact step_n ⟨false, false, true, q, E, W, e, i + 1⟩ hi9 (inv_D hJ _ _ _) rfl (er_101_0D f n W e i (q 0) (E 0) (q 2) (E 2) hn hi hi9 he h3 ht hq2 ⟨by omega, by omega⟩ hE)
      · by_cases hq : q 0 < 2
        · exact step_n ⟨true, true, false, up q 0 (q 0 + 1), E, W, e, i + 1⟩ hi9 (inv_B hJ 0 hq _ _ _) rfl (er_110_0B f n W e i (q 0) (E 0) (q 1) (E 1) hn hi hi9 he h3 ht ⟨q0.1, hq⟩ (c0 hq))
        · have hq2 : q 0 = 2 := by omega
          by_cases hE : E 0 = e
          · exact step_n ⟨false, true, false, q, E, A2.upd W 29 (4 * (e + 1)), e + 1, i + 1⟩ hi9 (inv_C hJ _ _ _) rfl (er_110_0C f n W e i (q 0) (E 0) (q 1) (E 1) hn hi hi9 he h3 ht hq2 ⟨by omega, by omega⟩ hE)
          · exact step_n ⟨false, true, false, q, E, W, e, i + 1⟩ hi9 (inv_D hJ _ _ _) rfl (er_110_0D f n W e i (q 0) (E 0) (q 1) (E 1) hn hi hi9 he h3 ht hq2 ⟨by omega, by omega⟩ hE)
      · by_cases hq : q 0 < 2
        · exact step_n ⟨true, true, true, up q 0 (q 0 + 1), E, W, e, i + 1⟩ hi9 (inv_B hJ 0 hq _ _ _) rfl (er_111_0B f n W e i (q 0) (E 0) (q 1) (E 1) (q 2) (E 2) hn hi hi9 he h3 ht ⟨q0.1, hq⟩ (c0 hq))
        · have hq2 : q 0 = 2 := by omega
          by_cases hE : E 0 = e
          · exact step_n ⟨false, true, true, q, E, A2.upd W 29 (4 * (e + 1)), e + 1, i + 1⟩ hi9 (inv_C hJ _ _ _) rfl (er_111_0C f n W e i (q 0) (E 0) (q 1) (E 1) (q 2) (E 2) hn hi hi9 he h3 ht hq2 ⟨by omega, by omega⟩ hE)
          · exact step_n ⟨false, true, true, q, E, W, e, i + 1⟩ hi9 (inv_D hJ _ _ _) rfl (er_111_0D f n W e i (q 0) (E 0) (q 1) (E 1) (q 2) (E 2) hn hi hi9 he h3 ht hq2 ⟨by omega, by omega⟩ hE)
    · cases a <;> cases b <;> cases c
      · exact step_n ⟨false, true, false, up q 1 0, up E 1 e, W, e, i + 1⟩ hi9 (inv_A hJ 1 _ _ _) rfl (er_000_1A f n W e i  hn hi hi9 he h3 ht)
      · exact step_n ⟨false, true, true, up q 1 0, up E 1 e, W, e, i + 1⟩ hi9 (inv_A hJ 1 _ _ _) rfl (er_001_1A f n W e i (q 2) (E 2) hn hi hi9 he h3 ht)
      · by_cases hq : q 1 < 2
        · exact step_n ⟨false, true, false, up q 1 (q 1 + 1), E, W, e, i + 1⟩ hi9 (inv_B hJ 1 hq _ _ _) rfl (er_010_1B f n W e i (q 1) (E 1) hn hi hi9 he h3 ht ⟨q1.1, hq⟩ (c1 hq))
        · have hq2 : q 1 = 2 := by omega
          by_cases hE : E 1 = e
          · exact step_n ⟨false, false, false, q, E, A2.upd W 29 (4 * (e + 1)), e + 1, i + 1⟩ hi9 (inv_C hJ _ _ _) rfl (er_010_1C f n W e i (q 1) (E 1) hn hi hi9 he h3 ht hq2 ⟨by omega, by omega⟩ hE)
          · exact step_n ⟨false, false, false, q, E, W, e, i + 1⟩ hi9 (inv_D hJ _ _ _) rfl (er_010_1D f n W e i (q 1) (E 1) hn hi hi9 he h3 ht hq2 ⟨by omega, by omega⟩ hE)
      · by_cases hq : q 1 < 2
        · exact step_n ⟨false, true, true, up q 1 (q 1 + 1), E, W, e, i + 1⟩ hi9 (inv_B hJ 1 hq _ _ _) rfl (er_011_1B f n W e i (q 1) (E 1) (q 2) (E 2) hn hi hi9 he h3 ht ⟨q1.1, hq⟩ (c1 hq))
        · have hq2 : q 1 = 2 := by omega
          by_cases hE : E 1 = e
          · exact step_n ⟨false, false, true, q, E, A2.upd W 29 (4 * (e + 1)), e + 1, i + 1⟩ hi9 (inv_C hJ _ _ _) rfl (er_011_1C f n W e i (q 1) (E 1) (q 2) (E 2) hn hi hi9 he h3 ht hq2 ⟨by omega, by omega⟩ hE)
          · exact step_n ⟨false, false, true, q, E, W, e, i + 1⟩ hi9 (inv_D hJ _ _ _) rfl (er_011_1D f n W e i (q 1) (E 1) (q 2) (E 2) hn hi hi9 he h3 ht hq2 ⟨by omega, by omega⟩ hE)
      · exact step_n ⟨true, true, false, up q 1 0, up E 1 e, W, e, i + 1⟩ hi9 (inv_A hJ 1 _ _ _) rfl (er_100_1A f n W e i (q 0) (E 0) hn hi hi9 he h3 ht)
      · exact step_n ⟨true, true, true, up q 1 0, up E 1 e, W, e, i + 1⟩ hi9 (inv_A hJ 1 _ _ _) rfl (er_101_1A f n W e i (q 0) (E 0) (q 2) (E 2) hn hi hi9 he h3 ht)
      · by_cases hq : q 1 < 2
        · exact step_n ⟨true, true, false, up q 1 (q 1 + 1), E, W, e, i + 1⟩ hi9 (inv_B hJ 1 hq _ _ _) rfl (er_110_1B f n W e i (q 0) (E 0) (q 1) (E 1) hn hi hi9 he h3 ht ⟨q1.1, hq⟩ (c1 hq))
        · have hq2 : q 1 = 2 := by omega
          by_cases hE : E 1 = e
          · exact step_n ⟨true, false, false, q, E, A2.upd W 29 (4 * (e + 1)), e + 1, i + 1⟩ hi9 (inv_C hJ _ _ _) rfl (er_110_1C f n W e i (q 0) (E 0) (q 1) (E 1) hn hi hi9 he h3 ht hq2 ⟨by omega, by omega⟩ hE)
          · exact step_n ⟨true, false, false, q, E, W, e, i + 1⟩ hi9 (inv_D hJ _ _ _) rfl (er_110_1D f n W e i (q 0) (E 0) (q 1) (E 1) hn hi hi9 he h3 ht hq2 ⟨by omega, by omega⟩ hE)
      · by_cases hq : q 1 < 2
        · exact step_n ⟨true, true, true, up q 1 (q 1 + 1), E, W, e, i + 1⟩ hi9 (inv_B hJ 1 hq _ _ _) rfl (er_111_1B f n W e i (q 0) (E 0) (q 1) (E 1) (q 2) (E 2) hn hi hi9 he h3 ht ⟨q1.1, hq⟩ (c1 hq))
        · have hq2 : q 1 = 2 := by omega
          by_cases hE : E 1 = e
          · exact step_n ⟨true, false, true, q, E, A2.upd W 29 (4 * (e + 1)), e + 1, i + 1⟩ hi9 (inv_C hJ _ _ _) rfl (er_111_1C f n W e i (q 0) (E 0) (q 1) (E 1) (q 2) (E 2) hn hi hi9 he h3 ht hq2 ⟨by omega, by omega⟩ hE)
          · exact step_n ⟨true, false, true, q, E, W, e, i + 1⟩ hi9 (inv_D hJ _ _ _) rfl (er_111_1D f n W e i (q 0) (E 0) (q 1) (E 1) (q 2) (E 2) hn hi hi9 he h3 ht hq2 ⟨by omega, by omega⟩ hE)
    · cases a <;> cases b <;> cases c
      · exact step_n ⟨false, false, true, up q 2 0, up E 2 e, W, e, i + 1⟩ hi9 (inv_A hJ 2 _ _ _) rfl (er_000_2A f n W e i  hn hi hi9 he h3 ht)
      · by_cases hq : q 2 < 2
        · exact step_n ⟨false, false, true, up q 2 (q 2 + 1), E, W, e, i + 1⟩ hi9 (inv_B hJ 2 hq _ _ _) rfl (er_001_2B f n W e i (q 2) (E 2) hn hi hi9 he h3 ht ⟨q2.1, hq⟩ (c2 hq))
        · have hq2 : q 2 = 2 := by omega
          by_cases hE : E 2 = e
          · exact step_n ⟨false, false, false, q, E, A2.upd W 29 (4 * (e + 1)), e + 1, i + 1⟩ hi9 (inv_C hJ _ _ _) rfl (er_001_2C f n W e i (q 2) (E 2) hn hi hi9 he h3 ht hq2 ⟨by omega, by omega⟩ hE)
          · exact step_n ⟨false, false, false, q, E, W, e, i + 1⟩ hi9 (inv_D hJ _ _ _) rfl (er_001_2D f n W e i (q 2) (E 2) hn hi hi9 he h3 ht hq2 ⟨by omega, by omega⟩ hE)
      · exact step_n ⟨false, true, true, up q 2 0, up E 2 e, W, e, i + 1⟩ hi9 (inv_A hJ 2 _ _ _) rfl (er_010_2A f n W e i (q 1) (E 1) hn hi hi9 he h3 ht)
      · by_cases hq : q 2 < 2
        · exact step_n ⟨false, true, true, up q 2 (q 2 + 1), E, W, e, i + 1⟩ hi9 (inv_B hJ 2 hq _ _ _) rfl (er_011_2B f n W e i (q 1) (E 1) (q 2) (E 2) hn hi hi9 he h3 ht ⟨q2.1, hq⟩ (c2 hq))
        · have hq2 : q 2 = 2 := by omega
          by_cases hE : E 2 = e
          · exact step_n ⟨false, true, false, q, E, A2.upd W 29 (4 * (e + 1)), e + 1, i + 1⟩ hi9 (inv_C hJ _ _ _) rfl (er_011_2C f n W e i (q 1) (E 1) (q 2) (E 2) hn hi hi9 he h3 ht hq2 ⟨by omega, by omega⟩ hE)
          · exact step_n ⟨false, true, false, q, E, W, e, i + 1⟩ hi9 (inv_D hJ _ _ _) rfl (er_011_2D f n W e i (q 1) (E 1) (q 2) (E 2) hn hi hi9 he h3 ht hq2 ⟨by omega, by omega⟩ hE)
      · exact step_n ⟨true, false, true, up q 2 0, up E 2 e, W, e, i + 1⟩ hi9 (inv_A hJ 2 _ _ _) rfl (er_100_2A f n W e i (q 0) (E 0) hn hi hi9 he h3 ht)
      · by_cases hq : q 2 < 2
        · exact step_n ⟨true, false, true, up q 2 (q 2 + 1), E, W, e, i + 1⟩ hi9 (inv_B hJ 2 hq _ _ _) rfl (er_101_2B f n W e i (q 0) (E 0) (q 2) (E 2) hn hi hi9 he h3 ht ⟨q2.1, hq⟩ (c2 hq))
        · have hq2 : q 2 = 2 := by omega
          by_cases hE : E 2 = e
          · exact step_n ⟨true, false, false, q, E, A2.upd W 29 (4 * (e + 1)), e + 1, i + 1⟩ hi9 (inv_C hJ _ _ _) rfl (er_101_2C f n W e i (q 0) (E 0) (q 2) (E 2) hn hi hi9 he h3 ht hq2 ⟨by omega, by omega⟩ hE)
          · exact step_n ⟨true, false, false, q, E, W, e, i + 1⟩ hi9 (inv_D hJ _ _ _) rfl (er_101_2D f n W e i (q 0) (E 0) (q 2) (E 2) hn hi hi9 he h3 ht hq2 ⟨by omega, by omega⟩ hE)
      · exact step_n ⟨true, true, true, up q 2 0, up E 2 e, W, e, i + 1⟩ hi9 (inv_A hJ 2 _ _ _) rfl (er_110_2A f n W e i (q 0) (E 0) (q 1) (E 1) hn hi hi9 he h3 ht)
      · by_cases hq : q 2 < 2
        · exact step_n ⟨true, true, true, up q 2 (q 2 + 1), E, W, e, i + 1⟩ hi9 (inv_B hJ 2 hq _ _ _) rfl (er_111_2B f n W e i (q 0) (E 0) (q 1) (E 1) (q 2) (E 2) hn hi hi9 he h3 ht ⟨q2.1, hq⟩ (c2 hq))
        · have hq2 : q 2 = 2 := by omega
          by_cases hE : E 2 = e
          · exact step_n ⟨true, true, false, q, E, A2.upd W 29 (4 * (e + 1)), e + 1, i + 1⟩ hi9 (inv_C hJ _ _ _) rfl (er_111_2C f n W e i (q 0) (E 0) (q 1) (E 1) (q 2) (E 2) hn hi hi9 he h3 ht hq2 ⟨by omega, by omega⟩ hE)
          · exact step_n ⟨true, true, false, q, E, W, e, i + 1⟩ hi9 (inv_D hJ _ _ _) rfl (er_111_2D f n W e i (q 0) (E 0) (q 1) (E 1) (q 2) (E 2) hn hi hi9 he h3 ht hq2 ⟨by omega, by omega⟩ hE)
  · cases a <;> cases b <;> cases c
    · exact step_x (er_x000 f n W e i  hi)
    · exact step_x (er_x001 f n W e i (q 2) (E 2) hi)
    · exact step_x (er_x010 f n W e i (q 1) (E 1) hi)
    · exact step_x (er_x011 f n W e i (q 1) (E 1) (q 2) (E 2) hi)
    · exact step_x (er_x100 f n W e i (q 0) (E 0) hi)
    · exact step_x (er_x101 f n W e i (q 0) (E 0) (q 2) (E 2) hi)
    · exact step_x (er_x110 f n W e i (q 0) (E 0) (q 1) (E 1) hi)
    · exact step_x (er_x111 f n W e i (q 0) (E 0) (q 1) (E 1) (q 2) (E 2) hi)
theorem epochRises_q (f : Nat → Int) (n : Nat) (_ : ∀ i, i < n * 1 → -9223372036854775808 ≤ f i ∧ f i ≤ 9223372036854775807) (hn : n ≤ maxLen) :
    CallQ Try.prog LW [.slice 0 (.c 0) (.s n) 1 (.s n)] (Hx [.ext f (.s (n * 1))]) (fun v _ => isT v) := by
  have hn' : n ≤ 9223372036854775807 := hn
  have hl : isLoop Try.prog LW PL = true := by kernel_rfl
  refine CallQ.ofText (by kernel_rfl) (AtQ.go specs_ok noL_ok mixed (by kernel_rfl) hl (er_go f n) fun T1 H1 hw => HeadQ.weak (weakP_ok hw) ?_)
  exact HeadQ.ind (fun x : Er => Tr.ofPairs (rT n x.e x.i)) (fun x => Hm (rB f n x.W (rc x.a x.b x.c) (ra x.q x.E x.a x.b x.c)) (rn x.a x.b x.c)) (fun x => 90 - x.i) Inv 6 _ (fun x hx => step f n hn' x hx) ⟨false, false, false, fun _ => 0, fun _ => 0, A2.arena0, 0, 0⟩ ⟨by decide, by decide, by decide, by decide, by decide, fun _ => by show (0:Int) ≤ 0 ∧ (0:Int) ≤ 2 ∧ (0:Int) ≤ 0 ∧ (0:Int) ≤ 0; decide⟩ rfl
end Go.Ideal.E5
