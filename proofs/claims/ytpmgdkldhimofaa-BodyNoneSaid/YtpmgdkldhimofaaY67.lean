/- Put together of: Y6 Y7. Own text; nothing here is trusted. -/
import Derived.Test.YtpmgdkldhimofaaK11p
import Derived.Test.YtpmgdkldhimofaaQ6
import Derived.Test.YtpmgdkldhimofaaPP
import Derived.Test.YtpmgdkldhimofaaY4
namespace Go.Ideal.Y1
section
open Go.Proofs Go.Ideal Go.Ideal.L1 Go.Ideal.B1 Go.Ideal.K6
set_option linter.unusedSimpArgs false
set_option linter.unusedVariables false
set_option maxRecDepth 100000
set_option maxHeartbeats 8000000

theorem all16 {P : Nat → Prop} (h0 : P 0) (h1 : P 1) (h2 : P 2) (h3 : P 3) (h4 : P 4) (h5 : P 5) (h6 : P 6) (h7 : P 7) (h8 : P 8) (h9 : P 9) (h10 : P 10) (h11 : P 11) (h12 : P 12) (h13 : P 13) (h14 : P 14) (h15 : P 15) (j : Nat) (hj : j < 16) : P j :=
  match j, hj with
  | 0, _ => h0
  | 1, _ => h1
  | 2, _ => h2
  | 3, _ => h3
  | 4, _ => h4
  | 5, _ => h5
  | 6, _ => h6
  | 7, _ => h7
  | 8, _ => h8
  | 9, _ => h9
  | 10, _ => h10
  | 11, _ => h11
  | 12, _ => h12
  | 13, _ => h13
  | 14, _ => h14
  | 15, _ => h15
  | j + 16, h => absurd h (by omega)
def pqL (p q : Nat → Int) : List Int := [p 0, p 1, p 2, p 3, p 4, p 5, p 6, p 7, p 8, p 9, p 10, p 11, p 12, p 13, p 14, p 15, q 0, q 1, q 2, q 3, q 4, q 5, q 6, q 7, q 8, q 9, q 10, q 11, q 12, q 13, q 14, q 15]
def trL : List Bool := [true, true, true, true, true, true, true, true, true, true, true, true, true, true, true, true]
theorem pq_may (p q : Nat → Int) : allMay (pqL p q) = true ↔ ∀ j, j < 16 → valMay (p j) = true ∧ valMay (q j) = true := by
  unfold pqL
  constructor
  · intro h j hj
    simp only [allMay, Bool.and_eq_true] at h
    obtain ⟨p0, p1, p2, p3, p4, p5, p6, p7, p8, p9, p10, p11, p12, p13, p14, p15, q0, q1, q2, q3, q4, q5, q6, q7, q8, q9, q10, q11, q12, q13, q14, q15, _⟩ := h
    exact all16 (P := fun j => valMay (p j) = true ∧ valMay (q j) = true) ⟨p0, q0⟩ ⟨p1, q1⟩ ⟨p2, q2⟩ ⟨p3, q3⟩ ⟨p4, q4⟩ ⟨p5, q5⟩ ⟨p6, q6⟩ ⟨p7, q7⟩ ⟨p8, q8⟩ ⟨p9, q9⟩ ⟨p10, q10⟩ ⟨p11, q11⟩ ⟨p12, q12⟩ ⟨p13, q13⟩ ⟨p14, q14⟩ ⟨p15, q15⟩ j hj
  · intro h
    have a := fun j hj => (h j hj).1
    have b := fun j hj => (h j hj).2
    simp only [allMay, Bool.and_eq_true]
    exact ⟨a 0 (by decide), a 1 (by decide), a 2 (by decide), a 3 (by decide), a 4 (by decide), a 5 (by decide), a 6 (by decide), a 7 (by decide), a 8 (by decide), a 9 (by decide), a 10 (by decide), a 11 (by decide), a 12 (by decide), a 13 (by decide), a 14 (by decide), a 15 (by decide), b 0 (by decide), b 1 (by decide), b 2 (by decide), b 3 (by decide), b 4 (by decide), b 5 (by decide), b 6 (by decide), b 7 (by decide), b 8 (by decide), b 9 (by decide), b 10 (by decide), b 11 (by decide), b 12 (by decide), b 13 (by decide), b 14 (by decide), b 15 (by decide), trivial⟩
theorem kn_tr (j : Nat) (hj : j < 16) : kn trL (j : Int) = true := all16 (P := fun j => kn trL (j : Int) = true) rfl rfl rfl rfl rfl rfl rfl rfl rfl rfl rfl rfl rfl rfl rfl rfl j hj
theorem skN_full {zs : List Int} {k A B x : Int} (hA : 0 ≤ A ∧ A < 5) : skN trL zs k A B x = -1 := by
  refine Classical.byContradiction fun h => ?_
  obtain ⟨h1, h2⟩ := skN_ask hA h
  obtain ⟨j, ej⟩ : ∃ j : Nat, skN trL zs k A B x = (j : Int) := ⟨(skN trL zs k A B x).toNat, by omega⟩
  rw [ej] at h1 h2
  rw [kn_tr j (by omega)] at h2
  cases h2
theorem bkD_full (k a b : Int) : bkD trL k a b = -1 := by simp [bkD, trL, bkNeed, sel]
/-- Behind an operation of keys. -/
def okZ (zs : List Int) : Prop := zs.length = 32 ∧ ∀ c, 0 ≤ c ∧ c < 16 → valMay (nw zs c) = true
theorem okZ_up {zs : List Int} (h : okZ zs) (c x : Int) (hx : valMay x = true) : okZ (upz zs c x) := by
  obtain ⟨hl, h⟩ := h
  match zs, hl with
  | [z0, z1, z2, z3, z4, z5, z6, z7, z8, z9, z10, z11, z12, z13, z14, z15, z16, z17, z18, z19, z20, z21, z22, z23, z24, z25, z26, z27, z28, z29, z30, z31], _ =>
    refine ⟨rfl, fun j hj => ?_⟩
    rw [nw_upz _ _ _ _ _ _ _ _ _ _ _ _ _ _ _ _ _ _ _ _ _ _ _ _ _ _ _ _ _ _ _ _ c x j hj]
    split
    · exact hx
    · exact h j hj
theorem lk_16 {key lv : Int} (h1 : -1 ≤ key) (h2 : key < 5) (h3 : 0 ≤ lv) (h4 : lv < 2) : 0 ≤ lk key lv ∧ lk key lv < 16 := by unfold lk; omega
theorem okZ_ins {zs : List Int} (h : okZ zs) {A b lv : Int} (hA : 0 ≤ A ∧ A < 5) (hb : -1 ≤ b ∧ b < 5) (hl : 0 ≤ lv ∧ lv < 2) : okZ (insZ zs A b lv) :=
  okZ_up (okZ_up h _ _ (h.2 _ (lk_16 hb.1 hb.2 hl.1 hl.2))) _ _ (by simp [valMay]; omega)
theorem okZ_del {zs : List Int} (h : okZ zs) {A b lv : Int} (hA : 0 ≤ A ∧ A < 5) (hl : 0 ≤ lv ∧ lv < 2) : okZ (delZ zs A b lv) :=
  okZ_up (okZ_up h _ _ (h.2 _ (lk_16 (by omega) hA.2 hl.1 hl.2))) _ _ (by simp [valMay])
theorem okZ_sk {bs : List Bool} {zs : List Int} (h : okZ zs) (k A x : Int) (hA : 0 ≤ A ∧ A < 5) : okZ (skZ bs zs k A x) := by
  have g1 := skHi_ok bs zs A; have g2 := skLo_ok bs zs A
  unfold skZ
  split
  · split
    · exact okZ_ins (okZ_ins h hA ⟨g2.1, g2.2.1⟩ (by omega)) hA ⟨g1.1, g1.2.1⟩ (by omega)
    · exact okZ_ins h hA ⟨g2.1, g2.2.1⟩ (by omega)
  · split
    · split
      · exact okZ_del (okZ_del h hA (by omega)) hA (by omega)
      · exact okZ_del h hA (by omega)
    · exact h
theorem okZ_pq {p q : Nat → Int} (h : allMay (pqL p q) = true) : okZ (pqL p q) := by
  have h' := (pq_may p q).mp h
  refine ⟨rfl, fun c hc => ?_⟩
  obtain ⟨j, rfl⟩ : ∃ j : Nat, c = (j : Int) := ⟨c.toNat, by omega⟩
  have e : nw (pqL p q) (j : Int) = q j := all16 (P := fun j => nw (pqL p q) (j : Int) = q j) rfl rfl rfl rfl rfl rfl rfl rfl rfl rfl rfl rfl rfl rfl rfl rfl j (by omega)
  rw [e]; exact (h' j (by omega)).2
theorem sk_may {p q : Nat → Int} (h : allMay (pqL p q) = true) (k A x : Int) (hA : 0 ≤ A ∧ A < 5) : allMay (pqL p (fun j => skC trL (pqL p q) k A x j)) = true := by
  have h' := (pq_may p q).mp h
  refine (pq_may _ _).mpr fun j hj => ⟨(h' j hj).1, ?_⟩
  exact (okZ_sk (okZ_pq h) k A x hA).2 j ⟨by omega, by omega⟩
/-- Behind an operation of accounts. -/
theorem sel_b {m0 m1 m2 m3 : Int} (h0 : 0 ≤ m0 ∧ m0 < 1099511627776) (h1 : 0 ≤ m1 ∧ m1 < 1099511627776) (h2 : 0 ≤ m2 ∧ m2 < 1099511627776) (h3 : 0 ≤ m3 ∧ m3 < 1099511627776) (i : Int) : 0 ≤ sel m0 m1 m2 m3 i ∧ sel m0 m1 m2 m3 i < 1099511627776 := by
  unfold sel; (repeat' split) <;> omega
theorem code_0 {m0 m1 m2 m3 k a b x : Int} (h : bkCode m0 m1 m2 m3 k a b x = 0) : (k = 2 → sel m0 m1 m2 m3 a - 1 + x ≤ 1048575) ∧ (k = 3 → x ≤ sel m0 m1 m2 m3 a - 1) ∧ (k = 4 → x ≤ sel m0 m1 m2 m3 a - 1 ∧ (a = b ∨ sel m0 m1 m2 m3 b - 1 + x ≤ 1048575)) := by
  unfold bkCode at h
  generalize sel m0 m1 m2 m3 a = X at *
  generalize sel m0 m1 m2 m3 b = Y at *
  dsimp only at h
  refine ⟨fun e => ?_, fun e => ?_, fun e => ?_⟩ <;> subst e <;> simp at h
  · (repeat' split at h) <;> omega
  · (repeat' split at h) <;> omega
  · (repeat' split at h) <;> omega
theorem now_may {m0 m1 m2 m3 k a b x : Int} (h0 : 0 ≤ m0 ∧ m0 < 1099511627776) (h1 : 0 ≤ m1 ∧ m1 < 1099511627776) (h2 : 0 ≤ m2 ∧ m2 < 1099511627776) (h3 : 0 ≤ m3 ∧ m3 < 1099511627776) (hx : 0 ≤ x ∧ x < 1048576) (i : Int) : valMay (bkNow m0 m1 m2 m3 k a b x i) = true := by
  have sa := sel_b h0 h1 h2 h3 a
  have sb := sel_b h0 h1 h2 h3 b
  have si := sel_b h0 h1 h2 h3 i
  have ea : i = a → sel m0 m1 m2 m3 i = sel m0 m1 m2 m3 a := fun e => by rw [e]
  have eb : i = b → sel m0 m1 m2 m3 i = sel m0 m1 m2 m3 b := fun e => by rw [e]
  have hc := fun h => code_0 (m0 := m0) (m1 := m1) (m2 := m2) (m3 := m3) (k := k) (a := a) (b := b) (x := x) h
  simp only [valMay, Bool.and_eq_true, decide_eq_true_eq]
  unfold bkNow
  generalize bkCode m0 m1 m2 m3 k a b x = C at *
  generalize sel m0 m1 m2 m3 a = X at *
  generalize sel m0 m1 m2 m3 b = Y at *
  generalize sel m0 m1 m2 m3 i = W at *
  dsimp only
  by_cases h : C = 0
  · have hc := hc h
    rw [if_pos h]
    (repeat' split) <;> omega
  · rw [if_neg h]; exact si
def bkQ (q : Nat → Int) (k a b x : Int) (j : Nat) : Int := if j < 4 then bkNow (q 0) (q 1) (q 2) (q 3) k a b x j else q j
theorem bk_may {p q : Nat → Int} (h : allMay (pqL p q) = true) (k a b x : Int) (hx : 0 ≤ x ∧ x < 1048576) : allMay (pqL p (bkQ q k a b x)) = true := by
  have h' := (pq_may p q).mp h
  have v := fun j hj => by have := (h' j hj).2; simp only [valMay, Bool.and_eq_true, decide_eq_true_eq] at this; exact this
  refine (pq_may _ _).mpr fun j hj => ⟨(h' j hj).1, ?_⟩
  unfold bkQ
  split
  · exact now_may (v 0 (by decide)) (v 1 (by decide)) (v 2 (by decide)) (v 3 (by decide)) hx _
  · exact (h' j hj).2
theorem ops_of {g : Nat → Int} {m : Nat} (h : opsB g m = true) : (m = 1 ∧ opMay (g 0) (g 1) (g 2) (g 3) = true) ∨ (m = 2 ∧ opMay (g 0) (g 1) (g 2) (g 3) = true ∧ opMay (g 4) (g 5) (g 6) (g 7) = true) := by
  unfold opsB at h
  split at h
  · next e => exact Or.inl ⟨e, h⟩
  · split at h
    · next e => simp only [Bool.and_eq_true] at h; exact Or.inr ⟨e, h.1, h.2⟩
    · cases h
theorem may_k {k a b x : Int} (h : opMay k a b x = true) : 0 ≤ k ∧ (6 ≤ k → 0 ≤ a ∧ a < 5) := by
  simp [opMay] at h
  obtain ⟨⟨⟨⟨g1, _⟩, g3, g4⟩, _⟩, _⟩ := h
  refine ⟨g1, fun hk => ⟨g3, ?_⟩⟩
  split at g4
  · omega
  · split at g4 <;> omega
end
end Go.Ideal.Y1

namespace Go.Ideal.Y1
section
open Go.Proofs Go.Ideal Go.Ideal.L1
set_option linter.unusedSimpArgs false
set_option linter.unusedVariables false
set_option maxRecDepth 100000
set_option maxHeartbeats 8000000

theorem CallQ.loop1n {P : Program} {spec : Spec} (hs : SpecOk P spec) (hmo : P.follows .mixedOrders = true) {f : FuncId} {xs : List V} {H : Hp} {K : V → Hp → Prop} {ds : List Nat} {n n' : Nat} {α : Type} (T : α → List (Nat × V)) (B : α → List (Option Blk)) (n2 : Nat) (l : List Nat) (μ : α → Nat) (I : α → Prop) (next : α → α) (c : α → Prop) (id : Nat)
    (tx : α → List (Nat × V)) (bx : α → List (Option Blk)) (fin : α → Prop) (hf : fewArgs P f xs.length = true) (hl : isLoop P f ds = true)
    (a0 : α) (h0 : I a0) (go : ∃ hh, vcOf (runGo P spec noL n f [] ds (Tr.ofList xs) H hh) (reached fun T1 H1 => weakP T1 H1 (T a0) (B a0) n2))
    (body : ∀ a, I a → ∃ hh, vcOf (runAt P spec noL n f (ds ++ [0]) (Tr.ofPairs (T a)) (Hm (B a) n2) hh) (roundK n2 l (T (next a)) (B (next a)) (c a) id (tx a) (bx a) (fin a)))
    (hI : ∀ a, I a → c a → I (next a) ∧ μ (next a) < μ a)
    (hx : ∀ a, I a → fin a → ∃ hh, vcOf (runRet P spec noL n' f ds (.exit id) (Tr.ofPairs (tx a)) (Hm (bx a) n2) hh) K) : CallQ P f xs H K := by
  have ht : hasText P f = true := hasPrt_text (isLoop_prt hl).1
  refine CallQ.ofText hf (AtQ.go hs noL_ok hmo (by simp [hasPrt, ht, codeDown]) hl go fun T1 H1 hw => HeadQ.weak (weakP_ok hw) ?_)
  exact HeadQ.round1 hs hmo T B n2 l μ I next c id tx bx fin (isLoop_prt hl).2.1 body hI a0 h0 _ fun a ha hf => After.ret hs noL_ok hmo ht (hx a ha hf)
theorem roundK_u {n2 : Nat} {l : List Nat} {ts : List (Nat × V)} {bs : List (Option Blk)} {tx : List (Nat × V)} {bx : List (Option Blk)} {c fin : Prop} {id : Nat} {x : Out × Tr V} {H : Hp} (hc : c) (h : roundK n2 l ts bs True id [] [] False x H) : roundK n2 l ts bs c id tx bx fin x H := by
  obtain ⟨oo, T⟩ := x
  cases oo with
  | norm => exact ⟨h.1, hc⟩
  | exit k =>
    simp only [roundK] at h
    split at h
    · exact h.2.elim
    · exact h.elim
  | ret => exact h.elim
theorem roundK_x {n2 : Nat} {l : List Nat} {ts : List (Nat × V)} {bs : List (Option Blk)} {tx : List (Nat × V)} {bx : List (Option Blk)} {c fin : Prop} {id : Nat} {x : Out × Tr V} {H : Hp} (hc : fin) (h : roundK n2 l [] [] False id tx bx True x H) : roundK n2 l ts bs c id tx bx fin x H := by
  obtain ⟨oo, T⟩ := x
  cases oo with
  | norm => exact h.2.elim
  | exit k =>
    simp only [roundK] at h ⊢
    split at h
    · next e => rw [if_pos e]; exact ⟨h.1, hc⟩
    · exact h.elim
  | ret => exact h.elim
theorem yn_end (f g : Nat → Int) (n m : Nat) (p q : Nat → Int) (hm9 : m < 9223372036854775808) (hv : B1.allMay (pqL p q) = true) : ∃ hh, vcOf (runRet Try.prog dosN noL 9000 9 [1, 1, 1, 0, 1, 0] (.exit 0) (Tr.ofPairs (yT n m (.c 16))) (Hm (yB f g n m (fun _ => true) p q) 3) hh) (fun v _ => isT v) := by
  by_cases ho : B1.opsB g m = true
  · rcases ops_of ho with ⟨hm, o0⟩ | ⟨hm, o0, o1⟩
    · obtain ⟨k0, k1⟩ := may_k o0
      by_cases hk : g 0 ≤ 5
      · exact yn_1b f g n m p q hm9 hm ho hv o0 o0 ⟨k0, hk⟩ (by have hv' := hv; simp only [pqL] at hv'; simp only [B1.bkMay, hv', o0, Bool.true_and, decide_eq_true_eq]; omega) (bkD_full _ _ _)
      · have hk : 6 ≤ g 0 := by omega
        exact yn_1s f g n m p q hm9 hm ho hv o0 o0 hk (by have hv' := hv; simp only [pqL] at hv'; simp only [K6.skMay, hv', o0, Bool.true_and, decide_eq_true_eq]; exact hk) (skN_full (k1 hk))
    · obtain ⟨k0, k1⟩ := may_k o0
      obtain ⟨l0, l1⟩ := may_k o1
      by_cases hk : g 0 ≤ 5
      · have b0 : B1.bkMay (pqL p q) (g 0) (g 1) (g 2) (g 3) = true := by simp only [B1.bkMay, hv, o0, Bool.true_and, decide_eq_true_eq]; omega
        have hv1 := bk_may hv (g 0) (g 1) (g 2) (g 3) (B1.hx_of o0)
        by_cases hl : g 4 ≤ 5
        · exact yn_2bb f g n m p q hm9 hm ho hv o0 o0 ⟨k0, hk⟩ b0 (bkD_full _ _ _) hv1 o1 o1 ⟨l0, hl⟩ (show B1.bkMay (pqL p (bkQ q (g 0) (g 1) (g 2) (g 3))) (g 4) (g 5) (g 6) (g 7) = true by simp only [B1.bkMay, hv1, o1, Bool.true_and, decide_eq_true_eq]; omega) (bkD_full _ _ _)
        · have hl : 6 ≤ g 4 := by omega
          exact yn_2bs f g n m p q hm9 hm ho hv o0 o0 ⟨k0, hk⟩ b0 (bkD_full _ _ _) hv1 o1 o1 hl (show K6.skMay (pqL p (bkQ q (g 0) (g 1) (g 2) (g 3))) (g 4) (g 5) (g 6) (g 7) = true by simp only [K6.skMay, hv1, o1, Bool.true_and, decide_eq_true_eq]; exact hl) (skN_full (l1 hl))
      · have hk : 6 ≤ g 0 := by omega
        have b0 : K6.skMay (pqL p q) (g 0) (g 1) (g 2) (g 3) = true := by simp only [K6.skMay, hv, o0, Bool.true_and, decide_eq_true_eq]; exact hk
        have hv1 := sk_may hv (g 0) (g 1) (g 3) (k1 hk)
        by_cases hl : g 4 ≤ 5
        · exact yn_2sb f g n m p q hm9 hm ho hv o0 o0 hk b0 (skN_full (k1 hk)) hv1 o1 o1 ⟨l0, hl⟩ (show B1.bkMay (pqL p (fun j => K6.skC trL (pqL p q) (g 0) (g 1) (g 3) j)) (g 4) (g 5) (g 6) (g 7) = true by simp only [B1.bkMay, hv1, o1, Bool.true_and, decide_eq_true_eq]; omega) (bkD_full _ _ _)
        · have hl : 6 ≤ g 4 := by omega
          exact yn_2ss f g n m p q hm9 hm ho hv o0 o0 hk b0 (skN_full (k1 hk)) hv1 o1 o1 hl (show K6.skMay (pqL p (fun j => K6.skC trL (pqL p q) (g 0) (g 1) (g 3) j)) (g 4) (g 5) (g 6) (g 7) = true by simp only [K6.skMay, hv1, o1, Bool.true_and, decide_eq_true_eq]; exact hl) (skN_full (l1 hl))
  · exact yn_bad f g n m p q hm9 hv (by simpa using ho)
structure Yn where
  c : Nat
  b : Nat → Bool
  p : Nat → Int
  q : Nat → Int
def YnI (s : Yn) : Prop := s.c ≤ 16 ∧ ∀ j, j < 16 → (j < s.c → s.b j = true) ∧ B1.valMay (s.p j) = true ∧ B1.valMay (s.q j) = true
theorem bodyNone_q (f : Nat → Int) (n : Nat) (_ : ∀ i, i < n * 1 → -9223372036854775808 ≤ f i ∧ f i ≤ 9223372036854775807) (hn : n ≤ maxLen) (g : Nat → Int) (m : Nat) (_ : ∀ i, i < m * 4 → -9223372036854775808 ≤ g i ∧ g i ≤ 9223372036854775807) (hm : m ≤ maxLen) :
    CallQ Try.prog 9 [.slice 0 (.c 0) (.s n) 1 (.s n), .slice 1 (.c 0) (.s m) 4 (.s m)] (Hx [.ext f (.s (n * 1)), .ext g (.s (m * 4))]) (fun v _ => isT v) := by
  have hn' : n ≤ 9223372036854775807 := hn
  have hm' : m ≤ 9223372036854775807 := hm
  refine CallQ.loop1n (n := 6000) (n' := 9000) dosN_ok mixed (fun s : Yn => yT n m (.c (s.c : Int))) (fun s => yB f g n m s.b s.p s.q) 3 [0, 1, 2] (fun s => 16 - s.c) YnI
    (fun s => ⟨s.c + 1, Bn.upd s.b s.c true, upd s.p s.c (if s.c < n then f s.c % 16 else s.p s.c), upd s.q s.c (if s.c < n then f s.c % 16 else s.q s.c)⟩) (fun s => s.c < 16) 0
    (fun s => yT n m (.c 16)) (fun s => yB f g n m (fun _ => true) s.p s.q) (fun s => s.c = 16) (by kernel_rfl) (by kernel_rfl) ⟨0, fun _ => false, fun _ => 0, fun _ => 0⟩ ⟨Nat.zero_le _, fun j hj => ⟨fun h => absurd h (Nat.not_lt_zero _), rfl, rfl⟩⟩ (yn_go f g n m) ?_ ?_ ?_
  · rintro ⟨c, b, p, q⟩ ⟨h1, h2⟩
    match c, h1 with
    | 0, _ => obtain ⟨hh, hb⟩ := yn_u0 f g n m b p q hn'; exact ⟨hh, vcOf_mono hb fun x H hx => roundK_u (show 0 < 16 by decide) hx⟩
    | 1, _ => obtain ⟨hh, hb⟩ := yn_u1 f g n m b p q hn'; exact ⟨hh, vcOf_mono hb fun x H hx => roundK_u (show 1 < 16 by decide) hx⟩
    | 2, _ => obtain ⟨hh, hb⟩ := yn_u2 f g n m b p q hn'; exact ⟨hh, vcOf_mono hb fun x H hx => roundK_u (show 2 < 16 by decide) hx⟩
    | 3, _ => obtain ⟨hh, hb⟩ := yn_u3 f g n m b p q hn'; exact ⟨hh, vcOf_mono hb fun x H hx => roundK_u (show 3 < 16 by decide) hx⟩
    | 4, _ => obtain ⟨hh, hb⟩ := yn_u4 f g n m b p q hn'; exact ⟨hh, vcOf_mono hb fun x H hx => roundK_u (show 4 < 16 by decide) hx⟩
    | 5, _ => obtain ⟨hh, hb⟩ := yn_u5 f g n m b p q hn'; exact ⟨hh, vcOf_mono hb fun x H hx => roundK_u (show 5 < 16 by decide) hx⟩
    | 6, _ => obtain ⟨hh, hb⟩ := yn_u6 f g n m b p q hn'; exact ⟨hh, vcOf_mono hb fun x H hx => roundK_u (show 6 < 16 by decide) hx⟩
    | 7, _ => obtain ⟨hh, hb⟩ := yn_u7 f g n m b p q hn'; exact ⟨hh, vcOf_mono hb fun x H hx => roundK_u (show 7 < 16 by decide) hx⟩
    | 8, _ => obtain ⟨hh, hb⟩ := yn_u8 f g n m b p q hn'; exact ⟨hh, vcOf_mono hb fun x H hx => roundK_u (show 8 < 16 by decide) hx⟩
    | 9, _ => obtain ⟨hh, hb⟩ := yn_u9 f g n m b p q hn'; exact ⟨hh, vcOf_mono hb fun x H hx => roundK_u (show 9 < 16 by decide) hx⟩
    | 10, _ => obtain ⟨hh, hb⟩ := yn_u10 f g n m b p q hn'; exact ⟨hh, vcOf_mono hb fun x H hx => roundK_u (show 10 < 16 by decide) hx⟩
    | 11, _ => obtain ⟨hh, hb⟩ := yn_u11 f g n m b p q hn'; exact ⟨hh, vcOf_mono hb fun x H hx => roundK_u (show 11 < 16 by decide) hx⟩
    | 12, _ => obtain ⟨hh, hb⟩ := yn_u12 f g n m b p q hn'; exact ⟨hh, vcOf_mono hb fun x H hx => roundK_u (show 12 < 16 by decide) hx⟩
    | 13, _ => obtain ⟨hh, hb⟩ := yn_u13 f g n m b p q hn'; exact ⟨hh, vcOf_mono hb fun x H hx => roundK_u (show 13 < 16 by decide) hx⟩
    | 14, _ => obtain ⟨hh, hb⟩ := yn_u14 f g n m b p q hn'; exact ⟨hh, vcOf_mono hb fun x H hx => roundK_u (show 14 < 16 by decide) hx⟩
    | 15, _ => obtain ⟨hh, hb⟩ := yn_u15 f g n m b p q hn'; exact ⟨hh, vcOf_mono hb fun x H hx => roundK_u (show 15 < 16 by decide) hx⟩
    | 16, _ =>
      obtain ⟨hh, hb⟩ := yn_x f g n m b p q ((h2 0 (by decide)).1 (show 0 < 16 by decide)) ((h2 1 (by decide)).1 (show 1 < 16 by decide)) ((h2 2 (by decide)).1 (show 2 < 16 by decide)) ((h2 3 (by decide)).1 (show 3 < 16 by decide)) ((h2 4 (by decide)).1 (show 4 < 16 by decide)) ((h2 5 (by decide)).1 (show 5 < 16 by decide)) ((h2 6 (by decide)).1 (show 6 < 16 by decide)) ((h2 7 (by decide)).1 (show 7 < 16 by decide)) ((h2 8 (by decide)).1 (show 8 < 16 by decide)) ((h2 9 (by decide)).1 (show 9 < 16 by decide)) ((h2 10 (by decide)).1 (show 10 < 16 by decide)) ((h2 11 (by decide)).1 (show 11 < 16 by decide)) ((h2 12 (by decide)).1 (show 12 < 16 by decide)) ((h2 13 (by decide)).1 (show 13 < 16 by decide)) ((h2 14 (by decide)).1 (show 14 < 16 by decide)) ((h2 15 (by decide)).1 (show 15 < 16 by decide))
      exact ⟨hh, vcOf_mono hb fun x H hx => roundK_x rfl hx⟩
    | c + 17, h => exact absurd h (by show ¬ c + 17 ≤ 16; omega)
  · rintro ⟨c, b, p, q⟩ ⟨h1, h2⟩ h3
    have h3 : c < 16 := h3
    simp only at h1 h2
    have hf : B1.valMay (f c % 16) = true := by simp [B1.valMay]; omega
    refine ⟨⟨h3, fun j hj => ?_⟩, by show 16 - (c + 1) < 16 - c; omega⟩
    obtain ⟨g1, g2, g3⟩ := h2 j hj
    by_cases e : j = c
    · subst e
      refine ⟨fun _ => by simp [Bn.upd], ?_, ?_⟩
      · simp only [upd, if_true]; split
        · exact hf
        · exact g2
      · simp only [upd, if_true]; split
        · exact hf
        · exact g3
    · refine ⟨fun h => ?_, ?_, ?_⟩
      · have h : j < c + 1 := h
        simp only [Bn.upd, if_neg e]; exact g1 (by omega)
      · simp only [upd, if_neg e]; exact g2
      · simp only [upd, if_neg e]; exact g3
  · rintro ⟨c, b, p, q⟩ ⟨h1, h2⟩ h3
    exact yn_end f g n m p q (by omega) ((pq_may p q).mpr fun j hj => (h2 j hj).2)
end
end Go.Ideal.Y1
