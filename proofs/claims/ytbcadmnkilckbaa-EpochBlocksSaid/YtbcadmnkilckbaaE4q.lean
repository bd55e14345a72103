/- Chapter 11: EpochBlocks, put together. Own text. -/
import Derived.Test.YtbcadmnkilckbaaE4
import Derived.Test.YtbcadmnkilckbaaR9
import Derived.Test.YtbcadmnkilckbaaI26
namespace Go.Ideal.E1
open Go.Proofs Go.Ideal Go.Ideal.L1
set_option linter.unusedSimpArgs false
set_option linter.unusedVariables false
set_option maxRecDepth 100000
set_option maxHeartbeats 8000000

theorem ec_end (f : Nat → Int) (n : Nat) (W : Nat → Int) (e k mn : Int) (fr : Bool) (he : 0 ≤ e ∧ e < 65536) (j : Nat) (q ep : Int) (hj : (j : Int) = mn) (hW : W 29 = if fr = true then 4 * (e + 1) else 4 * e) :
    ∃ hh, vcOf (runRet Try.prog specs noL 6000 10 [1, 1, 1, 1, 1, 1, 1, 1, 1, 1, 1, 1, 1, 1, 1, 0, 0] (.exit 3) (Tr.ofPairs (ecT e fr mn j true)) (Hm (ecB f n W k q ep fr true) 6) hh) (fun v _ => isT v) := by
  cases fr
  · exact ec_endF f n W e k mn he j q ep hj hW
  · exact ec_endT f n W e k mn he j q ep hj hW
theorem eS_ok (f : Nat → Int) (n : Nat) (e : Int) (t : Nat) (he : 0 ≤ e ∧ e < 65536) : 0 ≤ eS f n e t ∧ eS f n e t < 65537 := by
  unfold eS
  (repeat' split) <;> omega
structure Eb where
  t : Nat
  W : Nat → Int
  fr : Bool
  mn : Int
structure Ec where
  j : Nat
  q : Int
  ep : Int
  ov : Bool
  mv : Bool
  W : Nat → Int
  fr : Bool
  mn : Int
def ebI (f : Nat → Int) (n : Nat) (e k : Int) (a : Eb) : Prop := a.t ≤ 4 ∧ a.W 29 = 4 * e ∧ (∀ i, i < a.t → a.W (30 + i) = 4 * eS f n e i) ∧
  ((a.fr = true ∧ (∀ i : Nat, i < a.t → (i : Int) < k → eOk e (eS f n e i) = true) ∧ a.mn = 1 + (if (a.t : Int) ≤ k then (a.t : Int) else k)) ∨
   (a.fr = false ∧ ∃ p : Nat, p < a.t ∧ (p : Int) < k ∧ (∀ i, i < p → eOk e (eS f n e i) = true) ∧ eOk e (eS f n e p) = false ∧ a.mn = p + 2))
def ebN (f : Nat → Int) (n : Nat) (e k : Int) (a : Eb) : Eb := ⟨a.t + 1, A2.upd a.W (30 + a.t) (4 * eS f n e a.t), if (a.t : Int) < k ∧ a.fr = true then eOk e (eS f n e a.t) else a.fr, if (a.t : Int) < k ∧ a.fr = true then a.mn + 1 else a.mn⟩
theorem ebI_next {f : Nat → Int} {n : Nat} {e k : Int} {a : Eb} (h : ebI f n e k a) (hk : 1 ≤ k ∧ k ≤ 4) (hc : a.t < 4) : ebI f n e k (ebN f n e k a) := by
  obtain ⟨h1, h2, h3, h4⟩ := h
  refine ⟨by show a.t + 1 ≤ 4; omega, by simp only [ebN, A2.upd]; rw [if_neg (by omega)]; exact h2, fun i hi => ?_, ?_⟩
  · simp only [ebN, A2.upd] at hi ⊢
    by_cases e1 : i = a.t
    · subst e1; rw [if_pos rfl]
    · rw [if_neg (by omega)]; exact h3 i (by omega)
  · rcases h4 with ⟨g1, g2, g3⟩ | ⟨g1, p, g2, g3, g4, g5, g6⟩
    · by_cases hk1 : (a.t : Int) < k
      · by_cases ho : eOk e (eS f n e a.t) = true
        · left
          refine ⟨by simp only [ebN, hk1, g1, and_self, if_true]; exact ho, fun i hi hik => ?_, ?_⟩
          · simp only [ebN] at hi
            by_cases e1 : i = a.t
            · subst e1; exact ho
            · exact g2 i (by omega) hik
          · simp only [ebN, hk1, g1, and_self, if_true]
            rw [g3, if_pos (by omega), if_pos (by omega)]; omega
        · right
          have ho : eOk e (eS f n e a.t) = false := by simpa using ho
          refine ⟨by simp only [ebN, hk1, g1, and_self, if_true]; exact ho, a.t, by show a.t < a.t + 1; omega, hk1, fun i hi => g2 i hi (by omega), ho, ?_⟩
          simp only [ebN, hk1, g1, and_self, if_true]
          rw [g3, if_pos (by omega)]; omega
      · left
        refine ⟨by simp only [ebN, hk1, false_and, if_false]; exact g1, fun i hi hik => ?_, ?_⟩
        · simp only [ebN] at hi
          exact g2 i (by omega) hik
        · simp only [ebN, hk1, false_and, if_false]
          rw [g3]; (repeat' split) <;> omega
    · right
      refine ⟨by simp only [ebN, g1, and_false, Bool.false_eq_true, if_false], p, by show p < a.t + 1; omega, g3, g4, g5, ?_⟩
      simp only [ebN, g1, and_false, Bool.false_eq_true, if_false]; exact g6
def ecF (f : Nat → Int) (n : Nat) (e k : Int) (fr : Bool) (mn : Int) : Prop :=
  (fr = true ∧ (∀ i : Nat, (i : Int) < k → eOk e (eS f n e i) = true) ∧ mn = k + 2) ∨ (fr = false ∧ ∃ p : Nat, (p : Int) < k ∧ (∀ i, i < p → eOk e (eS f n e i) = true) ∧ eOk e (eS f n e p) = false ∧ mn = p + 2)
def ecI (f : Nat → Int) (n : Nat) (e k : Int) (b : Ec) : Prop :=
  (b.ov = false ∧ b.mv = false ∧ b.q = (b.j : Int) - 1 ∧ (b.j : Int) ≤ k + 1 ∧ b.ep = (if b.j = 0 then 0 else e) ∧ b.W 29 = 4 * e ∧ (∀ i, i < 4 → b.W (30 + i) = 4 * eS f n e i) ∧ (∀ i : Nat, i + 1 < b.j → eOk e (eS f n e i) = true) ∧ ecF f n e k b.fr b.mn) ∨
  (b.ov = true ∧ b.mv = b.fr ∧ (b.j : Int) = b.mn ∧ b.W 29 = if b.fr = true then 4 * (e + 1) else 4 * e)
def ecN (f : Nat → Int) (n : Nat) (e k : Int) (b : Ec) : Ec :=
  if b.j = 0 then { b with j := 1, q := 0, ep := e }
  else if (b.j : Int) ≤ k then (if eOk e (eS f n e (b.j - 1)) = true then { b with j := b.j + 1, q := b.j } else { b with j := b.j + 1, q := b.j, ov := true })
  else { b with j := b.j + 1, q := b.j, ov := true, mv := true, W := A2.upd b.W 29 (4 * (e + 1)) }
theorem ecI_next {f : Nat → Int} {n : Nat} {e k : Int} {b : Ec} (h : ecI f n e k b) (hk : 1 ≤ k ∧ k ≤ 4) (hc : b.ov = false) : ecI f n e k (ecN f n e k b) ∧ (if (ecN f n e k b).ov = true then 0 else 7 - (ecN f n e k b).j) < (if b.ov = true then 0 else 7 - b.j) := by
  rcases h with ⟨h1, h2, h3, h4, h5, h6, h7, h8, h9⟩ | ⟨h1, _⟩
  · unfold ecN
    by_cases e0 : b.j = 0
    · simp only [e0, if_true]
      refine ⟨.inl ⟨h1, h2, by simp, by simp; omega, by simp, h6, h7, fun i hi => absurd hi (by simp), h9⟩, by simp [h1]⟩
    · simp only [e0, if_false]
      by_cases e1 : (b.j : Int) ≤ k
      · simp only [e1, if_true]
        by_cases e2 : eOk e (eS f n e (b.j - 1)) = true
        · simp only [e2, if_true]
          refine ⟨.inl ⟨h1, h2, by simp, by simp; omega, by simp [h5, e0], h6, h7, fun i hi => ?_, h9⟩, by simp [h1]; omega⟩
          simp only at hi
          by_cases e3 : i = b.j - 1
          · rw [e3]; exact e2
          · exact h8 i (by omega)
        · simp only [e2, if_false]
          have e2' : eOk e (eS f n e (b.j - 1)) = false := by simpa using e2
          refine ⟨.inr ⟨rfl, ?_⟩, by simp [h1]; omega⟩
          rcases h9 with ⟨g1, g2, g3⟩ | ⟨g1, p, g2, g3, g4, g5⟩
          · exact absurd (g2 (b.j - 1) (by omega)) e2
          · refine ⟨by simp [h2, g1], ?_, by simp [g1, h6]⟩
            have hp : p = b.j - 1 := by
              rcases Nat.lt_trichotomy p (b.j - 1) with hlt | heq | hgt
              · exact absurd (h8 p (by omega)) (by rw [g4]; simp)
              · exact heq
              · exact absurd (g3 (b.j - 1) hgt) e2
            show ((b.j + 1 : Nat) : Int) = b.mn
            rw [g5, hp]; omega
      · simp only [e1, if_false]
        refine ⟨.inr ⟨rfl, ?_⟩, by simp [h1]; omega⟩
        rcases h9 with ⟨g1, g2, g3⟩ | ⟨g1, p, g2, g3, g4, g5⟩
        · refine ⟨by simp [g1], by simp only; rw [g3]; omega, by simp [A2.upd, g1]⟩
        · exact absurd (h8 p (by omega)) (by rw [g4]; simp)
  · rw [h1] at hc; simp at hc
theorem epochBlocks_q (at_ : Int) (_ : -9223372036854775808 ≤ at_ ∧ at_ ≤ 9223372036854775807) (f : Nat → Int) (n : Nat) (_ : ∀ i, i < n * 1 → -9223372036854775808 ≤ f i ∧ f i ≤ 9223372036854775807) (hn : n ≤ maxLen) (th : Int) (_ : -9223372036854775808 ≤ th ∧ th ≤ 9223372036854775807) :
    CallQ Try.prog 10 [.int .i64 (.s at_), .slice 0 (.c 0) (.s n) 1 (.s n), .int .i64 (.s th)] (Hx [.ext f (.s (n * 1))]) (fun v _ => isT v) := by
  have hn' : n ≤ 9223372036854775807 := hn
  have hgo := eb_go f n at_ th
  have he : 0 ≤ at_ % 65536 ∧ at_ % 65536 < 65536 := by omega
  have hk : 1 ≤ 1 + th % 4 ∧ 1 + th % 4 ≤ 4 := by omega
  generalize at_ % 65536 = e at hgo he
  generalize 1 + th % 4 = k at hgo hk
  refine CallQ.loop2 (n := 6000) (ds := [1, 1, 1, 1, 1, 1, 1, 1, 1, 0, 1, 0]) (es := [1, 1, 1, 1, 1, 1, 1, 1, 1, 1, 1, 1, 1, 1, 1, 0, 0]) specs_ok mixed
    (fun a : Eb => ebT n e k a.fr a.mn a.t) (fun a => ebB f n a.W) 5 [0, 1, 2, 3, 4] (fun a => 4 - a.t) (ebI f n e k) (ebN f n e k) (fun a => a.t < 4) 0 (fun a => ebT n e k a.fr a.mn a.t) (fun a => ebB f n a.W) (fun a => ¬ a.t < 4)
    (fun b : Ec => ecT e b.fr b.mn b.j b.ov) (fun b => ecB f n b.W k b.q b.ep b.mv b.ov) 6 [0, 1, 2, 3, 4, 5] (fun b => if b.ov = true then 0 else 7 - b.j) (ecI f n e k) (ecN f n e k) (fun b => b.ov = false) 3 (fun b => ecT e b.fr b.mn b.j b.ov) (fun b => ecB f n b.W k b.q b.ep b.mv b.ov) (fun b => b.ov = true)
    (by kernel_rfl) (by kernel_rfl) (by kernel_rfl) ⟨0, A2.upd A2.arena0 29 (4 * e), true, 1⟩ ⟨by simp, by simp [A2.upd], fun i hi => absurd hi (by simp), .inl ⟨rfl, fun i hi => absurd hi (by simp), by simp; omega⟩⟩ hgo
    (fun a ha => eb_body f n e k a.fr a.mn a.t a.W hn' he hk ?_ ha.1)
    (fun a ha hc => ⟨ebI_next ha hk hc, by have h : a.t < 4 := hc; show 4 - (a.t + 1) < 4 - a.t; omega⟩)
    (fun a ha hf => ⟨⟨0, -1, 0, false, false, a.W, a.fr, if a.fr = true then a.mn + 1 else a.mn⟩, ?_, eb_mid f n e k a.mn a.fr a.W hk ?_ a.t⟩)
    (fun b hb => ?_) (fun b hb hc => ecI_next hb hk hc) (fun b hb hf => ?_)
  · rcases ha.2.2.2 with ⟨g1, g2, g3⟩ | ⟨g1, p, g2, g3, g4, g5, g6⟩
    · have := ha.1; rw [g3]; split <;> omega
    · rw [g6]; omega
  · have ht : a.t = 4 := by have := ha.1; omega
    refine .inl ⟨rfl, rfl, by simp, by simp; omega, by simp, ha.2.1, fun i hi => ha.2.2.1 i (by omega), fun i hi => absurd hi (by simp), ?_⟩
    rcases ha.2.2.2 with ⟨g1, g2, g3⟩ | ⟨g1, p, g2, g3, g4, g5, g6⟩
    · refine .inl ⟨g1, fun i hi => g2 i (by omega) hi, ?_⟩
      simp only [g1, if_true]; rw [g3, ht]; split <;> omega
    · exact .inr ⟨g1, p, g3, g4, g5, by simp only [g1, Bool.false_eq_true, if_false]; exact g6⟩
  · rcases ha.2.2.2 with ⟨g1, g2, g3⟩ | ⟨g1, p, g2, g3, g4, g5, g6⟩
    · have := ha.1; rw [g3]; split <;> omega
    · rw [g6]; omega
  · have upn : ∀ {ts : List (Nat × V)} {bs : List (Option Blk)} {tx : List (Nat × V)} {bx : List (Option Blk)} {c fin : Prop} {x : Out × Tr V} {H : Hp}, c → roundK 6 [0, 1, 2, 3, 4, 5] ts bs True 3 [] [] False x H → roundK 6 [0, 1, 2, 3, 4, 5] ts bs c 3 tx bx fin x H := by
      intro ts bs tx bx c fin x H hc h
      obtain ⟨oo, T⟩ := x
      cases oo with
      | norm => exact ⟨h.1, hc⟩
      | exit k =>
        simp only [roundK] at h
        split at h
        · exact h.2.elim
        · exact h.elim
      | ret => exact h.elim
    rcases hb with ⟨h1, h2, h3, h4, h5, h6, h7, h8, h9⟩ | ⟨h1, h2, h3, h4⟩
    · obtain ⟨j, q, ep, ov, mv, W, fr, mn⟩ := b
      simp only at h1 h2 h3 h4 h5 h6 h7 h8 h9
      subst h1 h2 h3
      by_cases e0 : j = 0
      · subst e0
        simp only [if_true] at h5
        subst h5
        obtain ⟨hh, hb⟩ := ec_0 f n W e k mn fr he hk h6
        exact ⟨hh, vcOf_mono hb fun x H hx => upn rfl hx⟩
      · simp only [e0, if_false] at h5
        subst h5
        by_cases e1 : (j : Int) ≤ k
        · have hS : W (29 + j) = 4 * eS f n ep (j - 1) := by have := h7 (j - 1) (by omega); rw [← this]; congr 1; omega
          have hs := eS_ok f n ep (j - 1) he
          by_cases e2 : eOk ep (eS f n ep (j - 1)) = true
          · obtain ⟨hh, hb⟩ := ec_1 f n W ep k mn fr he hk j ⟨by omega, e1⟩ _ hs hS e2
            refine ⟨hh, vcOf_mono hb fun x H hx => upn rfl ?_⟩
            simp only [ecN, e0, e1, e2, if_true, if_false]; exact hx
          · obtain ⟨hh, hb⟩ := ec_2 f n W ep k mn fr he hk j ⟨by omega, e1⟩ _ hs hS (by simpa using e2)
            refine ⟨hh, vcOf_mono hb fun x H hx => upn rfl ?_⟩
            simp only [ecN, e0, e1, e2, if_true, if_false]; exact hx
        · obtain ⟨hh, hb⟩ := ec_3 f n W ep k mn fr he hk j (by omega) h6
          refine ⟨hh, vcOf_mono hb fun x H hx => upn rfl ?_⟩
          simp only [ecN, e0, e1, if_false]; exact hx
    · obtain ⟨j, q, ep, ov, mv, W, fr, mn⟩ := b
      simp only at h1 h2 h3 h4
      subst h1
      obtain ⟨hh, hb⟩ := ec_x f n W e k mn fr j q ep mv
      refine ⟨hh, vcOf_mono hb fun x H hx => ?_⟩
      obtain ⟨oo, T⟩ := x
      cases oo with
      | norm => exact hx.2.elim
      | exit i =>
        simp only [roundK] at hx ⊢
        by_cases hi : Nat.beq i 3 = true
        · rw [if_pos hi] at hx ⊢; exact ⟨hx.1, trivial⟩
        · rw [if_neg hi] at hx; exact hx.elim
      | ret => exact hx.elim
  · rcases hb with ⟨h1, _⟩ | ⟨h1, h2, h3, h4⟩
    · rw [h1] at hf; simp at hf
    · obtain ⟨j, q, ep, ov, mv, W, fr, mn⟩ := b
      simp only at h1 h2 h3 h4
      subst h1 h2
      exact ec_end f n W e k mn mv he j q ep h3 h4
end Go.Ideal.E1
