/- Chapter 6: SkipWalks, put together. Own text. -/
import Derived.Test.YtpmgdkldhimofaaK10
namespace Go.Ideal.K6
open Go.Proofs Go.Ideal Go.Ideal.L1
set_option linter.unusedSimpArgs false
set_option linter.unusedVariables false
set_option maxRecDepth 100000
set_option maxHeartbeats 8000000

theorem tm5 (v : Int) : 0 ≤ (v % 1024).tmod 5 ∧ (v % 1024).tmod 5 < 5 := by
  rw [Int.tmod_eq_emod_of_nonneg (by omega)]; omega
theorem none_s : isS (fun _ => 0) (fun _ => false) (fun _ => false) := ⟨rfl, by funext j; match j with
  | 0 => rfl
  | 1 => rfl
  | 2 => rfl
  | 3 => rfl
  | 4 => rfl
  | j + 5 => rfl, by funext j; match j with
  | 0 => rfl
  | 1 => rfl
  | 2 => rfl
  | 3 => rfl
  | 4 => rfl
  | j + 5 => rfl, fun j hj => by
  rcases (by omega : j = 0 ∨ j = 1 ∨ j = 2 ∨ j = 3 ∨ j = 4 ∨ j = 5 ∨ j = 6 ∨ j = 7 ∨ j = 8 ∨ j = 9 ∨ j = 10 ∨ j = 11 ∨ j = 12 ∨ j = 13 ∨ j = 14 ∨ j = 15) with rfl | rfl | rfl | rfl | rfl | rfl | rfl | rfl | rfl | rfl | rfl | rfl | rfl | rfl | rfl | rfl <;> rfl⟩
theorem allMay_s {g : Nat → Int} {p q : Nat → Bool} (h : isS g p q) : B1.allMay (zsG g) = true := by
  have b := fun j hj => by have := img_ok p q j hj; rw [← h.2.2.2 j hj] at this; exact this
  have b0 := b 0 (by omega); have b1 := b 1 (by omega); have b2 := b 2 (by omega); have b3 := b 3 (by omega)
  have b4 := b 4 (by omega); have b5 := b 5 (by omega); have b6 := b 6 (by omega); have b7 := b 7 (by omega)
  have b8 := b 8 (by omega); have b9 := b 9 (by omega); have b10 := b 10 (by omega); have b11 := b 11 (by omega)
  have b12 := b 12 (by omega); have b13 := b 13 (by omega); have b14 := b 14 (by omega); have b15 := b 15 (by omega)
  simp [zsG, B1.allMay, B1.valMay]; omega
theorem may_s {g : Nat → Int} {p q : Nat → Bool} (h : isS g p q) (k A b X : Int) (ho : B1.opMay k A b X = true) (hk : 6 ≤ k) : skMay (zsG g) k A b X = true := by
  simp only [skMay, allMay_s h, ho, Bool.true_and, decide_eq_true_eq]; exact hk
structure Sw where
  i : Nat
  g : Nat → Int
  p : Nat → Bool
def swI (s : Sw) : Prop := s.i ≤ 50 ∧ ∃ P q, isS s.g P q ∧ s.p 0 = P 0 ∧ s.p 1 = P 1 ∧ s.p 2 = P 2 ∧ s.p 3 = P 3 ∧ s.p 4 = P 4
def blk5 (p : Nat → Bool) : List V := [.bool (.s (p 0)), .bool (.s (p 1)), .bool (.s (p 2)), .bool (.s (p 3)), .bool (.s (p 4))]
def kJ : Nat → E
  | 0 => .c 4
  | 1 => .c 3
  | 2 => .c 2
  | 3 => .c 1
  | 4 => .c 0
  | _ => .c (-1)
def leastD (p : Nat → Bool) : Nat → Int
  | 0 => -1
  | 1 => if p 4 then 4 else -1
  | 2 => if p 3 then 3 else if p 4 then 4 else -1
  | 3 => if p 2 then 2 else if p 3 then 3 else if p 4 then 4 else -1
  | 4 => if p 1 then 1 else if p 2 then 2 else if p 3 then 3 else if p 4 then 4 else -1
  | _ => if p 0 then 0 else if p 1 then 1 else if p 2 then 2 else if p 3 then 3 else if p 4 then 4 else -1
theorem swB_p (f : Nat → Int) (n : Nat) (g : Nat → Int) {p P : Nat → Bool} (h : p 0 = P 0 ∧ p 1 = P 1 ∧ p 2 = P 2 ∧ p 3 = P 3 ∧ p 4 = P 4) : swB f n g p = swB f n g P := by
  simp only [swB, h]
/-- From the inner loop's head on. -/
theorem sw_inner (f : Nat → Int) (n i : Nat) (g : Nat → Int) (p q : Nat → Bool) (hn : n ≤ 9223372036854775807) (hc : i < n ∧ i < 50) (hs : isS g p q) (T0 : Tr V) (H0' : Hp) (Q : Post)
    (go : ∃ hh, vcOf (runGo Try.prog specs noL 6000 5 [1, 1, 1, 1, 0, 1, 0, 0] [1, 0, 0, 1, 1, 1, 1, 1, 1, 1, 1, 1, 0, 1, 0] T0 H0' hh) (reached fun T1 H1 => weakP T1 H1 (swU n i 0 (-1) (.c 4)) (swB f n g p) 8))
    (hQ : ∀ T1 H1, dwnP 5 [0, 1, 2, 3, 4] T1 H1 (swT n (i + 1)) (swB f n g p) 5 → Q .norm T1 H1) :
    AtQ Try.prog 5 [1, 1, 1, 1, 0, 1, 0, 0] T0 H0' Q := by
  have may := may_s hs
  refine AtQ.loop1 (n := 6000) (α := Nat) specs_ok mixed (fun j => swU n i (bitsP p j) (leastD p j) (kJ j)) (fun _ => swB f n g p) 8 [0, 1, 2, 3, 4, 5, 6, 7] (fun j => 5 - j) (fun j => j ≤ 5) (fun j => j + 1) (fun j => j < 5) 2
    (fun j => swU n i (bitsP p 5) (leastD p 5) (.c (-1))) (fun _ => swB f n g p) (fun _ => True) (by kernel_rfl) (by kernel_rfl) 0 (Nat.zero_le _) go (fun j hj => ?_) (fun j hj hc => ⟨hc, by have h : j < 5 := hc; show 5 - (j + 1) < 5 - j; omega⟩) (fun j _ _ => ?_)
  · have up : ∀ {ts : List (Nat × V)} {bs : List (Option Blk)} {tx : List (Nat × V)} {bx : List (Option Blk)} {c : Prop} {x : Out × Tr V} {H : Hp}, c → roundK 8 [0, 1, 2, 3, 4, 5, 6, 7] ts bs True 2 [] [] False x H → roundK 8 [0, 1, 2, 3, 4, 5, 6, 7] ts bs c 2 tx bx True x H := by
      intro ts bs tx bx c x H hc h
      obtain ⟨oo, T⟩ := x
      cases oo with
      | norm => exact ⟨h.1, hc⟩
      | exit k =>
        simp only [roundK] at h
        split at h
        · exact h.2.elim
        · exact h.elim
      | ret => exact h.elim
    have upx : ∀ {ts : List (Nat × V)} {bs : List (Option Blk)} {tx : List (Nat × V)} {bx : List (Option Blk)} {c : Prop} {x : Out × Tr V} {H : Hp}, roundK 8 [0, 1, 2, 3, 4, 5, 6, 7] [] [] False 2 tx bx True x H → roundK 8 [0, 1, 2, 3, 4, 5, 6, 7] ts bs c 2 tx bx True x H := by
      intro ts bs tx bx c x H h
      obtain ⟨oo, T⟩ := x
      cases oo with
      | norm => exact h.2.elim
      | exit k => exact h
      | ret => exact h.elim
    have fnd := fun (A : Int) (hA : 0 ≤ A ∧ A < 5) => find_s hs A hA
    have all8 := fun (A : Int) (hA : 0 ≤ A ∧ A < 5) => skN_all (zsG g) 8 A 0 0 hA
    match j, hj with
    | 0, _ => obtain ⟨hh, hb⟩ := sw_4 f n i 0 (-1) g p (may 8 4 0 0 (by decide) (by decide)) (all8 4 (by omega)) (fnd 4 (by omega)); exact ⟨hh, vcOf_mono hb fun x H hx => up (show 0 < 5 by decide) hx⟩
    | 1, _ => obtain ⟨hh, hb⟩ := sw_3 f n i (bitsP p 1) (leastD p 1) g p (may 8 3 0 0 (by decide) (by decide)) (all8 3 (by omega)) (fnd 3 (by omega)); exact ⟨hh, vcOf_mono hb fun x H hx => up (show 1 < 5 by decide) hx⟩
    | 2, _ => obtain ⟨hh, hb⟩ := sw_2 f n i (bitsP p 2) (leastD p 2) g p (may 8 2 0 0 (by decide) (by decide)) (all8 2 (by omega)) (fnd 2 (by omega)); exact ⟨hh, vcOf_mono hb fun x H hx => up (show 2 < 5 by decide) hx⟩
    | 3, _ => obtain ⟨hh, hb⟩ := sw_1 f n i (bitsP p 3) (leastD p 3) g p (may 8 1 0 0 (by decide) (by decide)) (all8 1 (by omega)) (fnd 1 (by omega)); exact ⟨hh, vcOf_mono hb fun x H hx => up (show 3 < 5 by decide) hx⟩
    | 4, _ => obtain ⟨hh, hb⟩ := sw_0 f n i (bitsP p 4) (leastD p 4) g p (may 8 0 0 0 (by decide) (by decide)) (all8 0 (by omega)) (fnd 0 (by omega)); exact ⟨hh, vcOf_mono hb fun x H hx => up (show 4 < 5 by decide) hx⟩
    | 5, _ => obtain ⟨hh, hb⟩ := sw_x f n i (bitsP p 5) (leastD p 5) g p; exact ⟨hh, vcOf_mono hb fun x H hx => upx hx⟩
    | j + 6, hj => exact absurd hj (by show ¬ j + 6 ≤ 5; omega)
  · have hm := min_s hs
    have el : leastD p 5 = leastP p := rfl
    obtain ⟨hh, hb⟩ := sw_aft f n i (bitsP p 5) (leastD p 5) g p hn hc (by rw [el]; unfold leastP; (repeat' split) <;> simp) (may 10 0 4 0 (by decide) (by decide)) (skN_all _ _ _ _ _ (by omega)) (range_s hs) (may 9 0 0 0 (by decide) (by decide)) (skN_all _ _ _ _ _ (by omega)) (by rw [el]; exact hm.1) (by rw [el]; exact hm.2)
    refine ⟨hh, vcOf_mono hb fun x H hx => ?_⟩
    obtain ⟨oo, T⟩ := x
    cases oo with
    | norm => exact hQ _ _ hx
    | exit k => exact hx.elim
    | ret => exact hx.elim
theorem skipWalks_q (f : Nat → Int) (n : Nat) (_ : ∀ i, i < n * 1 → -9223372036854775808 ≤ f i ∧ f i ≤ 9223372036854775807) (hn : n ≤ maxLen) :
    CallQ Try.prog 5 [.slice 0 (.c 0) (.s n) 1 (.s n)] (Hx [.ext f (.s (n * 1))]) (fun v _ => isT v) := by
  have hn' : n ≤ 9223372036854775807 := hn
  refine CallQ.loopA (n := 6000) specs_ok mixed (fun s : Sw => swT n s.i) (fun s => swB f n s.g s.p) 5 [0, 1, 2, 3, 4] (fun s => 50 - s.i) swI 0 (by kernel_rfl) (by kernel_rfl) ⟨0, fun _ => 0, fun _ => false⟩ ⟨by simp, _, _, none_s, rfl, rfl, rfl, rfl, rfl⟩ (sw_go f n) (fun s hs => ?_) (fun s hs => sw_end f n s.i s.g s.p)
  obtain ⟨i, g, p⟩ := s
  obtain ⟨hi, P, q, h, hp⟩ := hs
  simp only at hi h hp
  by_cases hc : i < n ∧ i < 50
  · have hA := tm5 (f i)
    by_cases hput : f i / 2048 % 2 = 0
    · have h1 := put_s h ((f i % 1024).tmod 5) (f i / 1024 % 2) hA (by omega)
      have hpp : swP ((f i % 1024).tmod 5) true p 0 = l5 (putP P ((f i % 1024).tmod 5)) 0 ∧ swP ((f i % 1024).tmod 5) true p 1 = l5 (putP P ((f i % 1024).tmod 5)) 1 ∧ swP ((f i % 1024).tmod 5) true p 2 = l5 (putP P ((f i % 1024).tmod 5)) 2 ∧ swP ((f i % 1024).tmod 5) true p 3 = l5 (putP P ((f i % 1024).tmod 5)) 3 ∧ swP ((f i % 1024).tmod 5) true p 4 = l5 (putP P ((f i % 1024).tmod 5)) 4 := by
        simp only [l5, ofL, swP, putP, hp]
        refine ⟨?_, ?_, ?_, ?_, ?_⟩ <;> (split <;> simp [*] <;> omega)
      have code : ∀ (j : Nat), (f i % 1024).tmod 5 = (j : Int) → skCode tT (zsG g) 6 ((f i % 1024).tmod 5) = (if P j then 1 else 0) := fun j e => by rw [h1.2.1, e]; simp
      refine sw_inner f n i (opG g 6 ((f i % 1024).tmod 5) (f i / 1024 % 2)) (l5 (putP P ((f i % 1024).tmod 5))) _ hn' hc h1.1 _ _ _ ?_ (fun T1 H1 hd => ⟨⟨i + 1, opG g 6 ((f i % 1024).tmod 5) (f i / 1024 % 2), l5 (putP P ((f i % 1024).tmod 5))⟩, ⟨by show i + 1 ≤ 50; omega, _, _, h1.1, rfl, rfl, rfl, rfl, rfl⟩, by show 50 - (i + 1) < 50 - i; omega, hd⟩)
      have := sw_put f n i ((f i % 1024).tmod 5) (f i / 1024 % 2) g p hn' hc hA rfl rfl hput (may_s h 6 _ 0 _ (by simp [B1.opMay]; omega) (by omega)) (skN_all _ _ _ _ _ hA)
        (fun e => by have := code 0 e; rw [hp.1]; exact this) (fun e => by have := code 1 e; rw [hp.2.1]; exact this) (fun e => by have := code 2 e; rw [hp.2.2.1]; exact this) (fun e => by have := code 3 e; rw [hp.2.2.2.1]; exact this) (fun e => by have := code 4 e; rw [hp.2.2.2.2]; exact this)
      rwa [swB_p f n _ hpp] at this
    · have h1 := take_s h ((f i % 1024).tmod 5) hA
      have hpp : swP ((f i % 1024).tmod 5) false p 0 = l5 (outP P ((f i % 1024).tmod 5)) 0 ∧ swP ((f i % 1024).tmod 5) false p 1 = l5 (outP P ((f i % 1024).tmod 5)) 1 ∧ swP ((f i % 1024).tmod 5) false p 2 = l5 (outP P ((f i % 1024).tmod 5)) 2 ∧ swP ((f i % 1024).tmod 5) false p 3 = l5 (outP P ((f i % 1024).tmod 5)) 3 ∧ swP ((f i % 1024).tmod 5) false p 4 = l5 (outP P ((f i % 1024).tmod 5)) 4 := by
        simp only [l5, ofL, swP, outP, hp]
        refine ⟨?_, ?_, ?_, ?_, ?_⟩ <;> (split <;> simp [*] <;> omega)
      have code : ∀ (j : Nat), (f i % 1024).tmod 5 = (j : Int) → skCode tT (zsG g) 7 ((f i % 1024).tmod 5) = (if P j then 0 else 2) := fun j e => by rw [h1.2.1, e]; simp
      refine sw_inner f n i (opG g 7 ((f i % 1024).tmod 5) 0) (l5 (outP P ((f i % 1024).tmod 5))) _ hn' hc h1.1 _ _ _ ?_ (fun T1 H1 hd => ⟨⟨i + 1, opG g 7 ((f i % 1024).tmod 5) 0, l5 (outP P ((f i % 1024).tmod 5))⟩, ⟨by show i + 1 ≤ 50; omega, _, _, h1.1, rfl, rfl, rfl, rfl, rfl⟩, by show 50 - (i + 1) < 50 - i; omega, hd⟩)
      have := sw_out f n i ((f i % 1024).tmod 5) (f i / 1024 % 2) g p hn' hc hA rfl rfl hput (may_s h 7 _ 0 _ (by simp [B1.opMay]; omega) (by omega)) (skN_all _ _ _ _ _ hA)
        (fun e => by have := code 0 e; rw [hp.1]; exact this) (fun e => by have := code 1 e; rw [hp.2.1]; exact this) (fun e => by have := code 2 e; rw [hp.2.2.1]; exact this) (fun e => by have := code 3 e; rw [hp.2.2.2.1]; exact this) (fun e => by have := code 4 e; rw [hp.2.2.2.2]; exact this)
      rwa [swB_p f n _ hpp] at this
  · obtain ⟨hh, hb⟩ := sw_stop f n i g p hc
    refine AtQ.run specs_ok noL_ok mixed (by kernel_rfl) ⟨hh, vcOf_mono hb fun x H hx => ?_⟩
    obtain ⟨oo, T⟩ := x
    cases oo with
    | norm => exact hx.elim
    | exit k => exact ⟨hx.1, ⟨i, g, p⟩, ⟨hi, P, q, h, hp⟩, hx.2⟩
    | ret => exact hx.elim
end Go.Ideal.K6
