/- Chapter 13: DescRows, put together. Written by gen/drows.py. Own text. -/
import Derived.Test.YtbcadmnkilckbaaD2c
namespace Go.Ideal.D2
open Go.Proofs Go.Ideal Go.Ideal.L1
set_option linter.unusedSimpArgs false
set_option linter.unusedVariables false
set_option maxRecDepth 100000
set_option maxHeartbeats 8000000

abbrev LW : FuncId := 5
abbrev PL : List Nat := [1, 1, 1, 1, 0, 1, 0]
abbrev QL : Post := RetQ Try.prog LW (fun v _ => isT v)
def ndP (n0 : Nat) (m : Nat → Nat → Prop) (TT : Nat → Nat → List (Nat × V)) (BB : List (Option Blk)) (a i : Nat) : Post := fun o T1 H1 => ∃ l T2 H2, Dwn n0 l T1 H1 T2 H2 ∧ (match o with
  | .norm => ∃ x' : Nat × Nat, m x'.1 x'.2 ∧ 16 - x'.2 < 16 - i ∧ T2 = Tr.ofPairs (TT x'.1 x'.2) ∧ H2 = Hm BB n0
  | o => After Try.prog LW [] PL QL o T2 H2)
theorem st_n {n0 : Nat} {m : Nat → Nat → Prop} {TT : Nat → Nat → List (Nat × V)} {BB : List (Option Blk)} {a i : Nat} {l : List Nat} {T : Tr V} {H : Hp} (a' : Nat) (hi : i < 16) (hm : m a' (i + 1))
    (h : ∃ hh, vcOf (runAt Try.prog dsp noL 6000 LW (PL ++ [0]) T H hh) (nrm n0 l (TT a' (i + 1)) BB n0)) : AtQ Try.prog LW (PL ++ [0]) T H (ndP n0 m TT BB a i) := by
  obtain ⟨hh, h⟩ := h
  refine AtQ.run dsp_ok noL_ok mixed (by kernel_rfl) ⟨hh, vcOf_mono h fun y H1 hy => ?_⟩
  obtain ⟨o, T1⟩ := y
  cases o with
  | norm => exact ⟨l, _, _, dwnP_ok hy, (a', i + 1), hm, by show 16 - (i + 1) < 16 - i; omega, rfl, rfl⟩
  | exit k => exact hy.elim
  | ret => exact hy.elim
theorem st_x {n0 : Nat} {m : Nat → Nat → Prop} {TT : Nat → Nat → List (Nat × V)} {BB : List (Option Blk)} {a i : Nat} {l : List Nat} {ts : List (Nat × V)} {bs : List (Option Blk)} {n2 : Nat} {T : Tr V} {H : Hp} (h : ∃ hh, vcOf (runAt Try.prog dsp noL 6000 LW (PL ++ [0]) T H hh) (ext0 n0 l ts bs n2))
    (hr : ∃ hh, vcOf (runRet Try.prog dsp noL 6000 LW PL (.exit 0) (Tr.ofPairs ts) (Hm bs n2) hh) (fun v _ => isT v)) : AtQ Try.prog LW (PL ++ [0]) T H (ndP n0 m TT BB a i) := by
  obtain ⟨hh, h⟩ := h
  refine AtQ.run dsp_ok noL_ok mixed (by kernel_rfl) ⟨hh, vcOf_mono h fun y H1 hy => ?_⟩
  obtain ⟨o, T1⟩ := y
  cases o with
  | norm => exact hy.elim
  | exit k =>
    simp only [ext0] at hy
    split at hy
    · next e =>
      have e := Nat.eq_of_beq_eq_true e
      subst e
      exact ⟨_, _, _, dwnP_ok hy, After.ret dsp_ok noL_ok mixed (by kernel_rfl) hr⟩
    · exact hy.elim
  | ret => exact hy.elim
theorem lN_q (b : Nat → Bool) (z : Nat → Int) (hb : ∀ j, j < 16 → b j = false) (i : Nat) (hi : i ≤ 16) : AtQ Try.prog LW (PL ++ [0]) (Tr.ofPairs (lN 0 i)) (Hm [vB b z] 1) (ndP 1 (fun a i => i ≤ 16) (fun _ i => lN 0 i) [vB b z] 0 i) :=
  match i, hi with
  | 0, _ => st_n 0 (by decide) (by decide) (lNu0 b z (hb 0 (by decide)))
  | 1, _ => st_n 0 (by decide) (by decide) (lNu1 b z (hb 1 (by decide)))
  | 2, _ => st_n 0 (by decide) (by decide) (lNu2 b z (hb 2 (by decide)))
  | 3, _ => st_n 0 (by decide) (by decide) (lNu3 b z (hb 3 (by decide)))
  | 4, _ => st_n 0 (by decide) (by decide) (lNu4 b z (hb 4 (by decide)))
  | 5, _ => st_n 0 (by decide) (by decide) (lNu5 b z (hb 5 (by decide)))
  | 6, _ => st_n 0 (by decide) (by decide) (lNu6 b z (hb 6 (by decide)))
  | 7, _ => st_n 0 (by decide) (by decide) (lNu7 b z (hb 7 (by decide)))
  | 8, _ => st_n 0 (by decide) (by decide) (lNu8 b z (hb 8 (by decide)))
  | 9, _ => st_n 0 (by decide) (by decide) (lNu9 b z (hb 9 (by decide)))
  | 10, _ => st_n 0 (by decide) (by decide) (lNu10 b z (hb 10 (by decide)))
  | 11, _ => st_n 0 (by decide) (by decide) (lNu11 b z (hb 11 (by decide)))
  | 12, _ => st_n 0 (by decide) (by decide) (lNu12 b z (hb 12 (by decide)))
  | 13, _ => st_n 0 (by decide) (by decide) (lNu13 b z (hb 13 (by decide)))
  | 14, _ => st_n 0 (by decide) (by decide) (lNu14 b z (hb 14 (by decide)))
  | 15, _ => st_n 0 (by decide) (by decide) (lNu15 b z (hb 15 (by decide)))
  | 16, _ => st_x (lNx b z) lNe
  | i + 17, h => absurd h (by omega)
theorem lS_q (b : Nat → Bool) (z : Nat → Int) (f : Nat → Int) (k : Nat) (hk : cnt b 16 = k + 1) (hf : ∀ j, j < 16 → b j = true → f (cnt b j * 3) = j ∧ f (cnt b j * 3 + 1) = z j ∧ f (cnt b j * 3 + 2) = z (j + 16)) (a i : Nat) (ha : a = cnt b i) (hi : i ≤ 16) : AtQ Try.prog LW (PL ++ [0]) (Tr.ofPairs (lS k a i)) (Hm [vB b z, oB f k] 2) (ndP 2 (fun a i => a = cnt b i ∧ i ≤ 16) (fun a i => lS k a i) [vB b z, oB f k] a i) := by
  subst ha
  have hk16 : k < 16 := by have := cnt_le b 16; omega
  have cu : ∀ (hb : b i = false), cnt b i = cnt b (i + 1) := fun hb => by show _ = (if b i = true then cnt b i + 1 else cnt b i); rw [if_neg (by simp [hb])]
  have ck : ∀ (hb : b i = true), cnt b i + 1 = cnt b (i + 1) := fun hb => by show _ = (if b i = true then cnt b i + 1 else cnt b i); rw [if_pos hb]
  match i, hi with
  | 0, _ =>
    cases hb : b 0 with
    | false => exact st_n (cnt b 0) (by decide) ⟨cu hb, by decide⟩ (lSu0 b z f k (cnt b 0) hb)
    | true => exact st_n (cnt b 0 + 1) (by decide) ⟨ck hb, by decide⟩ (lSk0 b z f k (cnt b 0) hb (hk ▸ cnt_lt (by decide) hb) hk16 (hf 0 (by decide) hb).1 (hf 0 (by decide) hb).2.1 (hf 0 (by decide) hb).2.2)
  | 1, _ =>
    cases hb : b 1 with
    | false => exact st_n (cnt b 1) (by decide) ⟨cu hb, by decide⟩ (lSu1 b z f k (cnt b 1) hb)
    | true => exact st_n (cnt b 1 + 1) (by decide) ⟨ck hb, by decide⟩ (lSk1 b z f k (cnt b 1) hb (hk ▸ cnt_lt (by decide) hb) hk16 (hf 1 (by decide) hb).1 (hf 1 (by decide) hb).2.1 (hf 1 (by decide) hb).2.2)
  | 2, _ =>
    cases hb : b 2 with
    | false => exact st_n (cnt b 2) (by decide) ⟨cu hb, by decide⟩ (lSu2 b z f k (cnt b 2) hb)
    | true => exact st_n (cnt b 2 + 1) (by decide) ⟨ck hb, by decide⟩ (lSk2 b z f k (cnt b 2) hb (hk ▸ cnt_lt (by decide) hb) hk16 (hf 2 (by decide) hb).1 (hf 2 (by decide) hb).2.1 (hf 2 (by decide) hb).2.2)
  | 3, _ =>
    cases hb : b 3 with
    | false => exact st_n (cnt b 3) (by decide) ⟨cu hb, by decide⟩ (lSu3 b z f k (cnt b 3) hb)
    | true => exact st_n (cnt b 3 + 1) (by decide) ⟨ck hb, by decide⟩ (lSk3 b z f k (cnt b 3) hb (hk ▸ cnt_lt (by decide) hb) hk16 (hf 3 (by decide) hb).1 (hf 3 (by decide) hb).2.1 (hf 3 (by decide) hb).2.2)
  | 4, _ =>
    cases hb : b 4 with
    | false => exact st_n (cnt b 4) (by decide) ⟨cu hb, by decide⟩ (lSu4 b z f k (cnt b 4) hb)
    | true => exact st_n (cnt b 4 + 1) (by decide) ⟨ck hb, by decide⟩ (lSk4 b z f k (cnt b 4) hb (hk ▸ cnt_lt (by decide) hb) hk16 (hf 4 (by decide) hb).1 (hf 4 (by decide) hb).2.1 (hf 4 (by decide) hb).2.2)
  | 5, _ =>
    cases hb : b 5 with
    | false => exact st_n (cnt b 5) (by decide) ⟨cu hb, by decide⟩ (lSu5 b z f k (cnt b 5) hb)
    | true => exact st_n (cnt b 5 + 1) (by decide) ⟨ck hb, by decide⟩ (lSk5 b z f k (cnt b 5) hb (hk ▸ cnt_lt (by decide) hb) hk16 (hf 5 (by decide) hb).1 (hf 5 (by decide) hb).2.1 (hf 5 (by decide) hb).2.2)
  | 6, _ =>
    cases hb : b 6 with
    | false => exact st_n (cnt b 6) (by decide) ⟨cu hb, by decide⟩ (lSu6 b z f k (cnt b 6) hb)
    | true => exact st_n (cnt b 6 + 1) (by decide) ⟨ck hb, by decide⟩ (lSk6 b z f k (cnt b 6) hb (hk ▸ cnt_lt (by decide) hb) hk16 (hf 6 (by decide) hb).1 (hf 6 (by decide) hb).2.1 (hf 6 (by decide) hb).2.2)
  | 7, _ =>
    cases hb : b 7 with
    | false => exact st_n (cnt b 7) (by decide) ⟨cu hb, by decide⟩ (lSu7 b z f k (cnt b 7) hb)
    | true => exact st_n (cnt b 7 + 1) (by decide) ⟨ck hb, by decide⟩ (lSk7 b z f k (cnt b 7) hb (hk ▸ cnt_lt (by decide) hb) hk16 (hf 7 (by decide) hb).1 (hf 7 (by decide) hb).2.1 (hf 7 (by decide) hb).2.2)
  | 8, _ =>
    cases hb : b 8 with
    | false => exact st_n (cnt b 8) (by decide) ⟨cu hb, by decide⟩ (lSu8 b z f k (cnt b 8) hb)
    | true => exact st_n (cnt b 8 + 1) (by decide) ⟨ck hb, by decide⟩ (lSk8 b z f k (cnt b 8) hb (hk ▸ cnt_lt (by decide) hb) hk16 (hf 8 (by decide) hb).1 (hf 8 (by decide) hb).2.1 (hf 8 (by decide) hb).2.2)
  | 9, _ =>
    cases hb : b 9 with
    | false => exact st_n (cnt b 9) (by decide) ⟨cu hb, by decide⟩ (lSu9 b z f k (cnt b 9) hb)
    | true => exact st_n (cnt b 9 + 1) (by decide) ⟨ck hb, by decide⟩ (lSk9 b z f k (cnt b 9) hb (hk ▸ cnt_lt (by decide) hb) hk16 (hf 9 (by decide) hb).1 (hf 9 (by decide) hb).2.1 (hf 9 (by decide) hb).2.2)
  | 10, _ =>
    cases hb : b 10 with
    | false => exact st_n (cnt b 10) (by decide) ⟨cu hb, by decide⟩ (lSu10 b z f k (cnt b 10) hb)
    | true => exact st_n (cnt b 10 + 1) (by decide) ⟨ck hb, by decide⟩ (lSk10 b z f k (cnt b 10) hb (hk ▸ cnt_lt (by decide) hb) hk16 (hf 10 (by decide) hb).1 (hf 10 (by decide) hb).2.1 (hf 10 (by decide) hb).2.2)
  | 11, _ =>
    cases hb : b 11 with
    | false => exact st_n (cnt b 11) (by decide) ⟨cu hb, by decide⟩ (lSu11 b z f k (cnt b 11) hb)
    | true => exact st_n (cnt b 11 + 1) (by decide) ⟨ck hb, by decide⟩ (lSk11 b z f k (cnt b 11) hb (hk ▸ cnt_lt (by decide) hb) hk16 (hf 11 (by decide) hb).1 (hf 11 (by decide) hb).2.1 (hf 11 (by decide) hb).2.2)
  | 12, _ =>
    cases hb : b 12 with
    | false => exact st_n (cnt b 12) (by decide) ⟨cu hb, by decide⟩ (lSu12 b z f k (cnt b 12) hb)
    | true => exact st_n (cnt b 12 + 1) (by decide) ⟨ck hb, by decide⟩ (lSk12 b z f k (cnt b 12) hb (hk ▸ cnt_lt (by decide) hb) hk16 (hf 12 (by decide) hb).1 (hf 12 (by decide) hb).2.1 (hf 12 (by decide) hb).2.2)
  | 13, _ =>
    cases hb : b 13 with
    | false => exact st_n (cnt b 13) (by decide) ⟨cu hb, by decide⟩ (lSu13 b z f k (cnt b 13) hb)
    | true => exact st_n (cnt b 13 + 1) (by decide) ⟨ck hb, by decide⟩ (lSk13 b z f k (cnt b 13) hb (hk ▸ cnt_lt (by decide) hb) hk16 (hf 13 (by decide) hb).1 (hf 13 (by decide) hb).2.1 (hf 13 (by decide) hb).2.2)
  | 14, _ =>
    cases hb : b 14 with
    | false => exact st_n (cnt b 14) (by decide) ⟨cu hb, by decide⟩ (lSu14 b z f k (cnt b 14) hb)
    | true => exact st_n (cnt b 14 + 1) (by decide) ⟨ck hb, by decide⟩ (lSk14 b z f k (cnt b 14) hb (hk ▸ cnt_lt (by decide) hb) hk16 (hf 14 (by decide) hb).1 (hf 14 (by decide) hb).2.1 (hf 14 (by decide) hb).2.2)
  | 15, _ =>
    cases hb : b 15 with
    | false => exact st_n (cnt b 15) (by decide) ⟨cu hb, by decide⟩ (lSu15 b z f k (cnt b 15) hb)
    | true => exact st_n (cnt b 15 + 1) (by decide) ⟨ck hb, by decide⟩ (lSk15 b z f k (cnt b 15) hb (hk ▸ cnt_lt (by decide) hb) hk16 (hf 15 (by decide) hb).1 (hf 15 (by decide) hb).2.1 (hf 15 (by decide) hb).2.2)
  | 16, _ => exact st_x (lSx b z f k (cnt b 16)) (lSe f k (cnt b 16) hk)
  | i + 17, h => exact absurd h (by omega)
theorem bF_eq (b : Nat → Bool) (j : Nat) (hj : j < 16) : bF [b 0, b 1, b 2, b 3, b 4, b 5, b 6, b 7, b 8, b 9, b 10, b 11, b 12, b 13, b 14, b 15] j = b j := by
  match j, hj with
  | 0, _ => rfl
  | 1, _ => rfl
  | 2, _ => rfl
  | 3, _ => rfl
  | 4, _ => rfl
  | 5, _ => rfl
  | 6, _ => rfl
  | 7, _ => rfl
  | 8, _ => rfl
  | 9, _ => rfl
  | 10, _ => rfl
  | 11, _ => rfl
  | 12, _ => rfl
  | 13, _ => rfl
  | 14, _ => rfl
  | 15, _ => rfl
  | j + 16, h => exact absurd h (by omega)
theorem zF_eq (z : Nat → Int) (j : Nat) (hj : j < 32) : zF [z 0, z 1, z 2, z 3, z 4, z 5, z 6, z 7, z 8, z 9, z 10, z 11, z 12, z 13, z 14, z 15, z 16, z 17, z 18, z 19, z 20, z 21, z 22, z 23, z 24, z 25, z 26, z 27, z 28, z 29, z 30, z 31] j = z j := by
  match j, hj with
  | 0, _ => rfl
  | 1, _ => rfl
  | 2, _ => rfl
  | 3, _ => rfl
  | 4, _ => rfl
  | 5, _ => rfl
  | 6, _ => rfl
  | 7, _ => rfl
  | 8, _ => rfl
  | 9, _ => rfl
  | 10, _ => rfl
  | 11, _ => rfl
  | 12, _ => rfl
  | 13, _ => rfl
  | 14, _ => rfl
  | 15, _ => rfl
  | 16, _ => rfl
  | 17, _ => rfl
  | 18, _ => rfl
  | 19, _ => rfl
  | 20, _ => rfl
  | 21, _ => rfl
  | 22, _ => rfl
  | 23, _ => rfl
  | 24, _ => rfl
  | 25, _ => rfl
  | 26, _ => rfl
  | 27, _ => rfl
  | 28, _ => rfl
  | 29, _ => rfl
  | 30, _ => rfl
  | 31, _ => rfl
  | j + 32, h => exact absurd h (by omega)
theorem cnt_eq {b c : Nat → Bool} : ∀ (i : Nat), (∀ j, j < i → b j = c j) → cnt b i = cnt c i
  | 0, _ => rfl
  | i + 1, h => by
    have e := cnt_eq i fun j hj => h j (by omega)
    unfold cnt; rw [e, h i (by omega)]
theorem descRows1 (b : Nat → Bool) (z : Nat → Int) : CallQ Try.prog LW [.agg (bL b ++ iL z)] (Hx []) (fun v _ => isT v) := by
  have hl : isLoop Try.prog LW PL = true := by kernel_rfl
  have hok := stR_ok (bF [b 0, b 1, b 2, b 3, b 4, b 5, b 6, b 7, b 8, b 9, b 10, b 11, b 12, b 13, b 14, b 15]) (zF [z 0, z 1, z 2, z 3, z 4, z 5, z 6, z 7, z 8, z 9, z 10, z 11, z 12, z 13, z 14, z 15, z 16, z 17, z 18, z 19, z 20, z 21, z 22, z 23, z 24, z 25, z 26, z 27, z 28, z 29, z 30, z 31]) 16
  have hc : ∀ j, j ≤ 16 → cnt (bF [b 0, b 1, b 2, b 3, b 4, b 5, b 6, b 7, b 8, b 9, b 10, b 11, b 12, b 13, b 14, b 15]) j = cnt b j := fun j hj => cnt_eq j fun i hi => bF_eq b i (by omega)
  cases hs : noR (bF [b 0, b 1, b 2, b 3, b 4, b 5, b 6, b 7, b 8, b 9, b 10, b 11, b 12, b 13, b 14, b 15]) (zF [z 0, z 1, z 2, z 3, z 4, z 5, z 6, z 7, z 8, z 9, z 10, z 11, z 12, z 13, z 14, z 15, z 16, z 17, z 18, z 19, z 20, z 21, z 22, z 23, z 24, z 25, z 26, z 27, z 28, z 29, z 30, z 31]) with
  | true =>
    have hb : ∀ j, j < 16 → b j = false := fun j hj => by
      unfold noR at hs
      cases ht : stR (bF [b 0, b 1, b 2, b 3, b 4, b 5, b 6, b 7, b 8, b 9, b 10, b 11, b 12, b 13, b 14, b 15]) (zF [z 0, z 1, z 2, z 3, z 4, z 5, z 6, z 7, z 8, z 9, z 10, z 11, z 12, z 13, z 14, z 15, z 16, z 17, z 18, z 19, z 20, z 21, z 22, z 23, z 24, z 25, z 26, z 27, z 28, z 29, z 30, z 31]) 16 with
      | some p => rw [ht] at hs; cases hs
      | none =>
        rw [ht] at hok
        have hok : cnt (bF [b 0, b 1, b 2, b 3, b 4, b 5, b 6, b 7, b 8, b 9, b 10, b 11, b 12, b 13, b 14, b 15]) 16 = 0 := hok
        rw [hc 16 (by omega)] at hok
        cases hb : b j with
        | false => rfl
        | true => have := cnt_lt hj hb; omega
    refine CallQ.ofText (by kernel_rfl) (AtQ.go dsp_ok noL_ok mixed (by kernel_rfl) hl (lgN b z hs) fun T1 H1 hw => HeadQ.weak (weakP_ok hw) ?_)
    exact HeadQ.ind (fun x : Nat × Nat => Tr.ofPairs (lN 0 x.2)) (fun _ => Hm [vB b z] 1) (fun x => 16 - x.2) (fun x => x.2 ≤ 16) 1 _ (fun x hx => lN_q b z hb x.2 hx) (0, 0) (Nat.zero_le _) rfl
  | false =>
    have hk : cnt b 16 = kR (bF [b 0, b 1, b 2, b 3, b 4, b 5, b 6, b 7, b 8, b 9, b 10, b 11, b 12, b 13, b 14, b 15]) (zF [z 0, z 1, z 2, z 3, z 4, z 5, z 6, z 7, z 8, z 9, z 10, z 11, z 12, z 13, z 14, z 15, z 16, z 17, z 18, z 19, z 20, z 21, z 22, z 23, z 24, z 25, z 26, z 27, z 28, z 29, z 30, z 31]) + 1 ∧ ∀ j, j < 16 → b j = true → fR (bF [b 0, b 1, b 2, b 3, b 4, b 5, b 6, b 7, b 8, b 9, b 10, b 11, b 12, b 13, b 14, b 15]) (zF [z 0, z 1, z 2, z 3, z 4, z 5, z 6, z 7, z 8, z 9, z 10, z 11, z 12, z 13, z 14, z 15, z 16, z 17, z 18, z 19, z 20, z 21, z 22, z 23, z 24, z 25, z 26, z 27, z 28, z 29, z 30, z 31]) (cnt b j * 3) = j ∧ fR (bF [b 0, b 1, b 2, b 3, b 4, b 5, b 6, b 7, b 8, b 9, b 10, b 11, b 12, b 13, b 14, b 15]) (zF [z 0, z 1, z 2, z 3, z 4, z 5, z 6, z 7, z 8, z 9, z 10, z 11, z 12, z 13, z 14, z 15, z 16, z 17, z 18, z 19, z 20, z 21, z 22, z 23, z 24, z 25, z 26, z 27, z 28, z 29, z 30, z 31]) (cnt b j * 3 + 1) = z j ∧ fR (bF [b 0, b 1, b 2, b 3, b 4, b 5, b 6, b 7, b 8, b 9, b 10, b 11, b 12, b 13, b 14, b 15]) (zF [z 0, z 1, z 2, z 3, z 4, z 5, z 6, z 7, z 8, z 9, z 10, z 11, z 12, z 13, z 14, z 15, z 16, z 17, z 18, z 19, z 20, z 21, z 22, z 23, z 24, z 25, z 26, z 27, z 28, z 29, z 30, z 31]) (cnt b j * 3 + 2) = z (j + 16) := by
      unfold noR at hs
      unfold kR fR
      cases ht : stR (bF [b 0, b 1, b 2, b 3, b 4, b 5, b 6, b 7, b 8, b 9, b 10, b 11, b 12, b 13, b 14, b 15]) (zF [z 0, z 1, z 2, z 3, z 4, z 5, z 6, z 7, z 8, z 9, z 10, z 11, z 12, z 13, z 14, z 15, z 16, z 17, z 18, z 19, z 20, z 21, z 22, z 23, z 24, z 25, z 26, z 27, z 28, z 29, z 30, z 31]) 16 with
      | none => rw [ht] at hs; cases hs
      | some p =>
        obtain ⟨k, f⟩ := p
        rw [ht] at hok
        obtain ⟨g1, g2⟩ := hok
        refine ⟨by rw [← hc 16 (by omega)]; exact g1, fun j hj hb => ?_⟩
        have := g2 j hj (by rw [bF_eq b j hj]; exact hb)
        rw [hc j (by omega), zF_eq z j (by omega), zF_eq z (j + 16) (by omega)] at this
        exact this
    refine CallQ.ofText (by kernel_rfl) (AtQ.go dsp_ok noL_ok mixed (by kernel_rfl) hl (lgS b z hs) fun T1 H1 hw => HeadQ.weak (weakP_ok hw) ?_)
    exact HeadQ.ind (fun x : Nat × Nat => Tr.ofPairs (lS (kR (bF [b 0, b 1, b 2, b 3, b 4, b 5, b 6, b 7, b 8, b 9, b 10, b 11, b 12, b 13, b 14, b 15]) (zF [z 0, z 1, z 2, z 3, z 4, z 5, z 6, z 7, z 8, z 9, z 10, z 11, z 12, z 13, z 14, z 15, z 16, z 17, z 18, z 19, z 20, z 21, z 22, z 23, z 24, z 25, z 26, z 27, z 28, z 29, z 30, z 31])) x.1 x.2)) (fun _ => Hm [vB b z, oB (fR (bF [b 0, b 1, b 2, b 3, b 4, b 5, b 6, b 7, b 8, b 9, b 10, b 11, b 12, b 13, b 14, b 15]) (zF [z 0, z 1, z 2, z 3, z 4, z 5, z 6, z 7, z 8, z 9, z 10, z 11, z 12, z 13, z 14, z 15, z 16, z 17, z 18, z 19, z 20, z 21, z 22, z 23, z 24, z 25, z 26, z 27, z 28, z 29, z 30, z 31])) (kR (bF [b 0, b 1, b 2, b 3, b 4, b 5, b 6, b 7, b 8, b 9, b 10, b 11, b 12, b 13, b 14, b 15]) (zF [z 0, z 1, z 2, z 3, z 4, z 5, z 6, z 7, z 8, z 9, z 10, z 11, z 12, z 13, z 14, z 15, z 16, z 17, z 18, z 19, z 20, z 21, z 22, z 23, z 24, z 25, z 26, z 27, z 28, z 29, z 30, z 31]))] 2) (fun x => 16 - x.2) (fun x => x.1 = cnt b x.2 ∧ x.2 ≤ 16) 2 _ (fun x hx => lS_q b z _ _ hk.1 hk.2 x.1 x.2 hx.1 hx.2) (0, 0) ⟨rfl, Nat.zero_le _⟩ rfl
theorem descRows_q (fi : Nat → Int) (fb : Nat → Bool) (fs : Nat → ByteArray) (_ : ∀ i, (List.replicate 16 Lf.b ++ List.replicate 32 .i)[i]? = some .i → -9223372036854775808 ≤ fi i ∧ fi i ≤ 9223372036854775807) :
    CallQ Try.prog LW [.agg (lfV fi fb fs 0 (List.replicate 16 Lf.b ++ List.replicate 32 .i))] (Hx []) (fun v _ => isT v) := descRows1 fb (fun j => fi (16 + j))
end Go.Ideal.D2
