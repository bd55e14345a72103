/- Chapter 1: Words. Own text. -/
import Derived.Test.YtmkgiejjapljpaaW3
import Derived.Test.YtmkgiejjapljpaaI26
namespace Go.Ideal.W1
open Go.Proofs Go.Ideal Go.Ideal.L1
set_option linter.unusedSimpArgs false
set_option linter.unusedVariables false
set_option maxRecDepth 100000
set_option maxHeartbeats 8000000

theorem awake1 : ∃ hh, vcOf (runCall Try.prog noSpec noL 3000 20 [] H0 hh) (fun v _ => V.leP (.bool (.c true)) v) := by

  refine vcIntro [] (And.intro True.intro True.intro) ?_
  kernel_rfl
def awake : Spec := sp 20 fun xs => match xs with | [] => some (.bool (.c true)) | _ => none
theorem awake_ok : SpecOk Try.prog awake := closed_ok (CallQ.run noSpec_ok noL_ok mixed awake1) rfl

def specs : Spec := orS awake (orS (mayS 18) (orS (mayS 19) (orS (putS 13) (orS (putS 14) (orS (getS 15) (getS 16))))))
theorem specs_ok : SpecOk Try.prog specs :=
  orS_ok awake_ok (orS_ok (mayS_ok fun k v s g e t q => CallQ.run below_ok noL_ok mixed (may1 k v s g e t q)) (orS_ok (mayS_ok fun k v s g e t q => CallQ.run noSpec_ok noL_ok mixed (mayr1 k v s g e t q))
    (orS_ok (putS_ok fun k v s g e t q => CallQ.run below_ok noL_ok mixed (put1 k v s g e t q)) (orS_ok (putS_ok fun k v s g e t q => CallQ.run noSpec_ok noL_ok mixed (putr1 k v s g e t q))
      (orS_ok (getS_ok fun x hx => CallQ.run below_ok noL_ok mixed (get1 x hx)) (getS_ok fun x hx => CallQ.run (mayS_ok fun k v s g e t q => CallQ.run noSpec_ok noL_ok mixed (mayr1 k v s g e t q)) noL_ok mixed (getr1 x hx)))))))

theorem back (k v s g e t q : Int) (h : wMay k v s g e t q = true) : gMay (wNum k v s g e t q) = true ∧ gK (wNum k v s g e t q) = k ∧ gV (wNum k v s g e t q) = v ∧ gS (wNum k v s g e t q) = s ∧ gG (wNum k v s g e t q) = g ∧ gE (wNum k v s g e t q) = e ∧ gT (wNum k v s g e t q) = t ∧ gQ (wNum k v s g e t q) = q ∧ inI (wNum k v s g e t q) := by
  have key : gK (wNum k v s g e t q) = k ∧ gV (wNum k v s g e t q) = v ∧ gS (wNum k v s g e t q) = s ∧ gG (wNum k v s g e t q) = g ∧ gE (wNum k v s g e t q) = e ∧ gT (wNum k v s g e t q) = t ∧ gQ (wNum k v s g e t q) = q ∧ 0 ≤ wNum k v s g e t q ∧ wNum k v s g e t q ≤ 9223372036854775807 := by
    simp only [wMay] at h
    simp only [gK, gV, gS, gG, gE, gT, gQ, wNum]
    by_cases h0 : k = 0
    · subst h0; simp at h; simp; omega
    · by_cases h1 : k = 1
      · subst h1; simp at h; simp
        (repeat' apply And.intro) <;> (repeat' split) <;> omega
      · by_cases h2 : k = 2
        · subst h2; simp at h; simp
          (repeat' apply And.intro) <;> (repeat' split) <;> omega
        · simp [h0, h1, h2] at h
  obtain ⟨k1, k2, k3, k4, k5, k6, k7, k8, k9⟩ := key
  refine ⟨?_, k1, k2, k3, k4, k5, k6, k7, by unfold inI; omega⟩
  simp only [gMay, k1, k2, k3, k4, k5, k6, k7, h, Bool.and_true, decide_eq_true_eq]
  exact k8

theorem forth (x : Int) (h : gMay x = true) : wNum (gK x) (gV x) (gS x) (gG x) (gE x) (gT x) (gQ x) = x := by
  simp only [gMay, wMay, Bool.and_eq_true, decide_eq_true_eq] at h
  simp only [gK, gV, gS, gG, gE, gT, gQ, wNum] at *
  by_cases h0 : x % 4 = 0
  · simp [h0] at h ⊢; omega
  · by_cases h1 : x % 4 = 1
    · simp [h1] at h ⊢; omega
    · by_cases h2 : x % 4 = 2
      · simp [h2] at h ⊢; omega
      · simp [h0, h1, h2] at h

def wI (k v s g e t q : Int) : List V := [.int .i64 (.s k), .int .i64 (.s v), .int .i64 (.s s), .int .i64 (.s g), .int .i64 (.s e), .int .i64 (.s t), .int .i64 (.s q)]
theorem words1 (k v s g e t q x : Int) (hx : inI x) : ∃ hh, vcOf (runCall Try.prog specs noL 3000 3 [wordV k v s g e t q, .int .i64 (.s x)] H0 hh) (fun v _ => isT v) := by

  rcases Bool.eq_false_or_eq_true (Go.Ideal.W1.putV k v s g e t q == Go.Ideal.W1.putV k v s g e t q) with h0 | h0
  ·
    rcases Bool.eq_false_or_eq_true (Go.Ideal.W1.putE k v s g e t q == Go.Ideal.W1.putE k v s g e t q) with h1 | h1
    ·
      rcases Bool.eq_false_or_eq_true (Go.Ideal.W1.get Go.Ideal.W1.gK x == Go.Ideal.W1.get Go.Ideal.W1.gK x && (Go.Ideal.W1.get Go.Ideal.W1.gV x == Go.Ideal.W1.get Go.Ideal.W1.gV x && (Go.Ideal.W1.get Go.Ideal.W1.gS x == Go.Ideal.W1.get Go.Ideal.W1.gS x && (Go.Ideal.W1.get Go.Ideal.W1.gG x == Go.Ideal.W1.get Go.Ideal.W1.gG x && (Go.Ideal.W1.get Go.Ideal.W1.gE x == Go.Ideal.W1.get Go.Ideal.W1.gE x && (Go.Ideal.W1.get Go.Ideal.W1.gT x == Go.Ideal.W1.get Go.Ideal.W1.gT x && Go.Ideal.W1.get Go.Ideal.W1.gQ x == Go.Ideal.W1.get Go.Ideal.W1.gQ x)))))) with h2 | h2
      ·
        rcases Bool.eq_false_or_eq_true (Go.Ideal.W1.getE x == Go.Ideal.W1.getE x) with h3 | h3
        ·
          rcases Bool.eq_false_or_eq_true (Go.Ideal.W1.wMay k v s g e t q == Go.Ideal.W1.wMay k v s g e t q) with h4 | h4
          ·
            have k5 : (-9223372036854775808 : Int) ≤ x := by exact hx.1
            have k6 : x ≤ (9223372036854775807 : Int) := by clear k5; exact hx.2
            refine vcIntro [true, true, true, true, true] (And.intro (And.intro h4 (And.intro h3 (And.intro h2 (And.intro h1 (And.intro h0 (And.intro (And.intro k5 k6) (And.intro (And.intro k5 k6) True.intro))))))) True.intro) ?_
            kernel_rfl
          · exact False.elim (by (simp at *; done))
        · exact False.elim (by (simp at *; done))
      · exact False.elim (by (simp at *; done))
    · exact False.elim (by (simp at *; done))
  · exact False.elim (by (simp at *; done))
theorem words_q (fi : Nat → Int) (fb : Nat → Bool) (fs : Nat → ByteArray) (_ : ∀ i, (List.replicate 7 Lf.i)[i]? = some .i → -9223372036854775808 ≤ fi i ∧ fi i ≤ 9223372036854775807) (x : Int) (hx : -9223372036854775808 ≤ x ∧ x ≤ 9223372036854775807) :
    CallQ Try.prog 3 [.agg (lfV fi fb fs 0 (List.replicate 7 .i)), .int .i64 (.s x)] (Hx []) (fun v _ => isT v) := CallQ.run specs_ok noL_ok mixed (words1 (fi 0) (fi 1) (fi 2) (fi 3) (fi 4) (fi 5) (fi 6) x hx)

theorem inj (k v s g e t q k' v' s' g' e' t' q' : Int) (h : wMay k v s g e t q = true) (h' : wMay k' v' s' g' e' t' q' = true) :
    (wNum k v s g e t q = wNum k' v' s' g' e' t' q') ↔ (k = k' ∧ v = v' ∧ s = s' ∧ g = g' ∧ e = e' ∧ t = t' ∧ q = q') := by
  constructor
  · intro he
    obtain ⟨_, a1, a2, a3, a4, a5, a6, a7, _⟩ := back k v s g e t q h
    obtain ⟨_, c1, c2, c3, c4, c5, c6, c7, _⟩ := back k' v' s' g' e' t' q' h'
    rw [he] at a1 a2 a3 a4 a5 a6 a7
    exact ⟨a1.symm.trans c1, a2.symm.trans c2, a3.symm.trans c3, a4.symm.trans c4, a5.symm.trans c5, a6.symm.trans c6, a7.symm.trans c7⟩
  · rintro ⟨rfl, rfl, rfl, rfl, rfl, rfl, rfl⟩; rfl

theorem back1 (k v s g e t q k' v' s' g' e' t' q' x : Int) (hx : inI x) : ∃ hh, vcOf (runCall Try.prog specs noL 3000 4 [wordV k v s g e t q, wordV k' v' s' g' e' t' q', .int .i64 (.s x)] H0 hh) (fun v _ => isT v) := by
  have b1 := back k v s g e t q
  have b3 := forth x
  have b4 : wMay k v s g e t q = true → wMay k' v' s' g' e' t' q' = true → (wNum k v s g e t q == wNum k' v' s' g' e' t' q') = (k == k' && (v == v' && (s == s' && (g == g' && (e == e' && (t == t' && q == q')))))) := fun h h' => by
    rw [Bool.eq_iff_iff]
    simp only [beq_iff_eq, Bool.and_eq_true]
    exact inj k v s g e t q k' v' s' g' e' t' q' h h'
  have b5 : gMay x = true → wMay (gK x) (gV x) (gS x) (gG x) (gE x) (gT x) (gQ x) = true := fun h => by simp only [gMay, Bool.and_eq_true] at h; exact h.2
  have b6 : inI (putV k v s g e t q) := by
    unfold putV
    split
    · rename_i h; exact (b1 h).2.2.2.2.2.2.2.2
    · unfold inI; omega

  rcases Bool.eq_false_or_eq_true (!(Go.Ideal.W1.putE k v s g e t q == (0 : Int)) == Go.Ideal.W1.wMay k v s g e t q) with h0 | h0
  · exact False.elim (by (rcases Bool.eq_false_or_eq_true (wMay k v s g e t q) with m | m <;> rcases Bool.eq_false_or_eq_true (wMay k' v' s' g' e' t' q') with m' | m' <;> rcases Bool.eq_false_or_eq_true (gMay x) with m'' | m'' <;> simp_all [putE, putV, get, getE]; done))
  ·
    rcases Bool.eq_false_or_eq_true (Go.Ideal.W1.putE k v s g e t q != (0 : Int)) with h1 | h1
    ·
      rcases Bool.eq_false_or_eq_true (Go.Ideal.W1.putV k v s g e t q != (0 : Int)) with h2 | h2
      · exact False.elim (by (rcases Bool.eq_false_or_eq_true (wMay k v s g e t q) with m | m <;> rcases Bool.eq_false_or_eq_true (wMay k' v' s' g' e' t' q') with m' | m' <;> rcases Bool.eq_false_or_eq_true (gMay x) with m'' | m'' <;> simp_all [putE, putV, get, getE]; done))
      ·
        rcases Bool.eq_false_or_eq_true (Go.Ideal.W1.putE k v s g e t q == (0 : Int)) with h3 | h3
        · exact False.elim (by (rcases Bool.eq_false_or_eq_true (wMay k v s g e t q) with m | m <;> rcases Bool.eq_false_or_eq_true (wMay k' v' s' g' e' t' q') with m' | m' <;> rcases Bool.eq_false_or_eq_true (gMay x) with m'' | m'' <;> simp_all [putE, putV, get, getE]; done))
        ·
          rcases Bool.eq_false_or_eq_true (Go.Ideal.W1.getE x != (0 : Int)) with h4 | h4
          ·
            have k5 : (-9223372036854775808 : Int) ≤ x := by exact hx.1
            have k6 : x ≤ (9223372036854775807 : Int) := by clear k5; exact hx.2
            have k7 : (Go.Ideal.W1.get Go.Ideal.W1.gK x == (0 : Int) && (Go.Ideal.W1.get Go.Ideal.W1.gV x == (0 : Int) && (Go.Ideal.W1.get Go.Ideal.W1.gS x == (0 : Int) && (Go.Ideal.W1.get Go.Ideal.W1.gG x == (0 : Int) && (Go.Ideal.W1.get Go.Ideal.W1.gE x == (0 : Int) && (Go.Ideal.W1.get Go.Ideal.W1.gT x == (0 : Int) && Go.Ideal.W1.get Go.Ideal.W1.gQ x == (0 : Int))))))) = Bool.true := by clear k6 k5; (rcases Bool.eq_false_or_eq_true (wMay k v s g e t q) with m | m <;> rcases Bool.eq_false_or_eq_true (wMay k' v' s' g' e' t' q') with m' | m' <;> rcases Bool.eq_false_or_eq_true (gMay x) with m'' | m'' <;> simp_all [putE, putV, get, getE]; done)
            refine vcIntro [false, true, false, false, true] (And.intro (And.intro h4 (And.intro (And.intro k5 k6) (And.intro h3 (And.intro h2 (And.intro h1 (And.intro h0 True.intro)))))) k7) ?_
            kernel_rfl
          ·
            rcases Bool.eq_false_or_eq_true (Go.Ideal.W1.putE (Go.Ideal.W1.get Go.Ideal.W1.gK x) (Go.Ideal.W1.get Go.Ideal.W1.gV x) (Go.Ideal.W1.get Go.Ideal.W1.gS x) (Go.Ideal.W1.get Go.Ideal.W1.gG x) (Go.Ideal.W1.get Go.Ideal.W1.gE x) (Go.Ideal.W1.get Go.Ideal.W1.gT x) (Go.Ideal.W1.get Go.Ideal.W1.gQ x) == (0 : Int)) with h8 | h8
            ·
              have k9 : (-9223372036854775808 : Int) ≤ x := by exact hx.1
              have k10 : x ≤ (9223372036854775807 : Int) := by clear k9; exact hx.2
              have k11 : (Go.Ideal.W1.putV (Go.Ideal.W1.get Go.Ideal.W1.gK x) (Go.Ideal.W1.get Go.Ideal.W1.gV x) (Go.Ideal.W1.get Go.Ideal.W1.gS x) (Go.Ideal.W1.get Go.Ideal.W1.gG x) (Go.Ideal.W1.get Go.Ideal.W1.gE x) (Go.Ideal.W1.get Go.Ideal.W1.gT x) (Go.Ideal.W1.get Go.Ideal.W1.gQ x) == x) = Bool.true := by clear k10 k9; (rcases Bool.eq_false_or_eq_true (wMay k v s g e t q) with m | m <;> rcases Bool.eq_false_or_eq_true (wMay k' v' s' g' e' t' q') with m' | m' <;> rcases Bool.eq_false_or_eq_true (gMay x) with m'' | m'' <;> simp_all [putE, putV, get, getE]; done)
              refine vcIntro [false, true, false, false, false, true] (And.intro (And.intro h8 (And.intro h4 (And.intro (And.intro k9 k10) (And.intro h3 (And.intro h2 (And.intro h1 (And.intro h0 True.intro))))))) k11) ?_
              kernel_rfl
            · exact False.elim (by (rcases Bool.eq_false_or_eq_true (wMay k v s g e t q) with m | m <;> rcases Bool.eq_false_or_eq_true (wMay k' v' s' g' e' t' q') with m' | m' <;> rcases Bool.eq_false_or_eq_true (gMay x) with m'' | m'' <;> simp_all [putE, putV, get, getE]; done))
    ·
      rcases Bool.eq_false_or_eq_true (Go.Ideal.W1.putE k v s g e t q == (0 : Int)) with h12 | h12
      ·
        rcases Bool.eq_false_or_eq_true (Go.Ideal.W1.getE (Go.Ideal.W1.putV k v s g e t q) != (0 : Int)) with h13 | h13
        · exact False.elim (by (rcases Bool.eq_false_or_eq_true (wMay k v s g e t q) with m | m <;> rcases Bool.eq_false_or_eq_true (wMay k' v' s' g' e' t' q') with m' | m' <;> rcases Bool.eq_false_or_eq_true (gMay x) with m'' | m'' <;> simp_all [putE, putV, get, getE]; done))
        ·
          rcases Bool.eq_false_or_eq_true (!(Go.Ideal.W1.get Go.Ideal.W1.gK (Go.Ideal.W1.putV k v s g e t q) == k && (Go.Ideal.W1.get Go.Ideal.W1.gV (Go.Ideal.W1.putV k v s g e t q) == v && (Go.Ideal.W1.get Go.Ideal.W1.gS (Go.Ideal.W1.putV k v s g e t q) == s && (Go.Ideal.W1.get Go.Ideal.W1.gG (Go.Ideal.W1.putV k v s g e t q) == g && (Go.Ideal.W1.get Go.Ideal.W1.gE (Go.Ideal.W1.putV k v s g e t q) == e && (Go.Ideal.W1.get Go.Ideal.W1.gT (Go.Ideal.W1.putV k v s g e t q) == t && Go.Ideal.W1.get Go.Ideal.W1.gQ (Go.Ideal.W1.putV k v s g e t q) == q))))))) with h14 | h14
          · exact False.elim (by (rcases Bool.eq_false_or_eq_true (wMay k v s g e t q) with m | m <;> rcases Bool.eq_false_or_eq_true (wMay k' v' s' g' e' t' q') with m' | m' <;> rcases Bool.eq_false_or_eq_true (gMay x) with m'' | m'' <;> simp_all [putE, putV, get, getE]; done))
          ·
            rcases Bool.eq_false_or_eq_true (Go.Ideal.W1.putE k' v' s' g' e' t' q' == (0 : Int)) with h15 | h15
            ·
              rcases Bool.eq_false_or_eq_true (!(Go.Ideal.W1.putV k v s g e t q == Go.Ideal.W1.putV k' v' s' g' e' t' q') == (k == k' && (v == v' && (s == s' && (g == g' && (e == e' && (t == t' && q == q'))))))) with h16 | h16
              · exact False.elim (by (rcases Bool.eq_false_or_eq_true (wMay k v s g e t q) with m | m <;> rcases Bool.eq_false_or_eq_true (wMay k' v' s' g' e' t' q') with m' | m' <;> rcases Bool.eq_false_or_eq_true (gMay x) with m'' | m'' <;> simp_all [putE, putV, get, getE]; done))
              ·
                rcases Bool.eq_false_or_eq_true (Go.Ideal.W1.getE x != (0 : Int)) with h17 | h17
                ·
                  have k18 : (-9223372036854775808 : Int) ≤ Go.Ideal.W1.putV k v s g e t q := by exact b6.1
                  have k19 : Go.Ideal.W1.putV k v s g e t q ≤ (9223372036854775807 : Int) := by clear k18; exact b6.2
                  have k20 : (-9223372036854775808 : Int) ≤ x := by clear k19 k18; exact hx.1
                  have k21 : x ≤ (9223372036854775807 : Int) := by clear k20 k19 k18; exact hx.2
                  have k22 : (Go.Ideal.W1.get Go.Ideal.W1.gK x == (0 : Int) && (Go.Ideal.W1.get Go.Ideal.W1.gV x == (0 : Int) && (Go.Ideal.W1.get Go.Ideal.W1.gS x == (0 : Int) && (Go.Ideal.W1.get Go.Ideal.W1.gG x == (0 : Int) && (Go.Ideal.W1.get Go.Ideal.W1.gE x == (0 : Int) && (Go.Ideal.W1.get Go.Ideal.W1.gT x == (0 : Int) && Go.Ideal.W1.get Go.Ideal.W1.gQ x == (0 : Int))))))) = Bool.true := by clear k21 k20 k19 k18; (rcases Bool.eq_false_or_eq_true (wMay k v s g e t q) with m | m <;> rcases Bool.eq_false_or_eq_true (wMay k' v' s' g' e' t' q') with m' | m' <;> rcases Bool.eq_false_or_eq_true (gMay x) with m'' | m'' <;> simp_all [putE, putV, get, getE]; done)
                  refine vcIntro [false, false, true, false, false, true, false, true] (And.intro (And.intro h17 (And.intro (And.intro k20 k21) (And.intro h16 (And.intro h15 (And.intro h14 (And.intro h13 (And.intro (And.intro k18 k19) (And.intro h12 (And.intro h1 (And.intro h0 True.intro)))))))))) k22) ?_
                  kernel_rfl
                ·
                  rcases Bool.eq_false_or_eq_true (Go.Ideal.W1.putE (Go.Ideal.W1.get Go.Ideal.W1.gK x) (Go.Ideal.W1.get Go.Ideal.W1.gV x) (Go.Ideal.W1.get Go.Ideal.W1.gS x) (Go.Ideal.W1.get Go.Ideal.W1.gG x) (Go.Ideal.W1.get Go.Ideal.W1.gE x) (Go.Ideal.W1.get Go.Ideal.W1.gT x) (Go.Ideal.W1.get Go.Ideal.W1.gQ x) == (0 : Int)) with h23 | h23
                  ·
                    have k24 : (-9223372036854775808 : Int) ≤ Go.Ideal.W1.putV k v s g e t q := by exact b6.1
                    have k25 : Go.Ideal.W1.putV k v s g e t q ≤ (9223372036854775807 : Int) := by clear k24; exact b6.2
                    have k26 : (-9223372036854775808 : Int) ≤ x := by clear k25 k24; exact hx.1
                    have k27 : x ≤ (9223372036854775807 : Int) := by clear k26 k25 k24; exact hx.2
                    have k28 : (Go.Ideal.W1.putV (Go.Ideal.W1.get Go.Ideal.W1.gK x) (Go.Ideal.W1.get Go.Ideal.W1.gV x) (Go.Ideal.W1.get Go.Ideal.W1.gS x) (Go.Ideal.W1.get Go.Ideal.W1.gG x) (Go.Ideal.W1.get Go.Ideal.W1.gE x) (Go.Ideal.W1.get Go.Ideal.W1.gT x) (Go.Ideal.W1.get Go.Ideal.W1.gQ x) == x) = Bool.true := by clear k27 k26 k25 k24; (rcases Bool.eq_false_or_eq_true (wMay k v s g e t q) with m | m <;> rcases Bool.eq_false_or_eq_true (wMay k' v' s' g' e' t' q') with m' | m' <;> rcases Bool.eq_false_or_eq_true (gMay x) with m'' | m'' <;> simp_all [putE, putV, get, getE]; done)
                    refine vcIntro [false, false, true, false, false, true, false, false, true] (And.intro (And.intro h23 (And.intro h17 (And.intro (And.intro k26 k27) (And.intro h16 (And.intro h15 (And.intro h14 (And.intro h13 (And.intro (And.intro k24 k25) (And.intro h12 (And.intro h1 (And.intro h0 True.intro))))))))))) k28) ?_
                    kernel_rfl
                  · exact False.elim (by (rcases Bool.eq_false_or_eq_true (wMay k v s g e t q) with m | m <;> rcases Bool.eq_false_or_eq_true (wMay k' v' s' g' e' t' q') with m' | m' <;> rcases Bool.eq_false_or_eq_true (gMay x) with m'' | m'' <;> simp_all [putE, putV, get, getE]; done))
            ·
              rcases Bool.eq_false_or_eq_true (Go.Ideal.W1.getE x != (0 : Int)) with h29 | h29
              ·
                have k30 : (-9223372036854775808 : Int) ≤ Go.Ideal.W1.putV k v s g e t q := by exact b6.1
                have k31 : Go.Ideal.W1.putV k v s g e t q ≤ (9223372036854775807 : Int) := by clear k30; exact b6.2
                have k32 : (-9223372036854775808 : Int) ≤ x := by clear k31 k30; exact hx.1
                have k33 : x ≤ (9223372036854775807 : Int) := by clear k32 k31 k30; exact hx.2
                have k34 : (Go.Ideal.W1.get Go.Ideal.W1.gK x == (0 : Int) && (Go.Ideal.W1.get Go.Ideal.W1.gV x == (0 : Int) && (Go.Ideal.W1.get Go.Ideal.W1.gS x == (0 : Int) && (Go.Ideal.W1.get Go.Ideal.W1.gG x == (0 : Int) && (Go.Ideal.W1.get Go.Ideal.W1.gE x == (0 : Int) && (Go.Ideal.W1.get Go.Ideal.W1.gT x == (0 : Int) && Go.Ideal.W1.get Go.Ideal.W1.gQ x == (0 : Int))))))) = Bool.true := by clear k33 k32 k31 k30; (rcases Bool.eq_false_or_eq_true (wMay k v s g e t q) with m | m <;> rcases Bool.eq_false_or_eq_true (wMay k' v' s' g' e' t' q') with m' | m' <;> rcases Bool.eq_false_or_eq_true (gMay x) with m'' | m'' <;> simp_all [putE, putV, get, getE]; done)
                refine vcIntro [false, false, true, false, false, false, true] (And.intro (And.intro h29 (And.intro (And.intro k32 k33) (And.intro h15 (And.intro h14 (And.intro h13 (And.intro (And.intro k30 k31) (And.intro h12 (And.intro h1 (And.intro h0 True.intro))))))))) k34) ?_
                kernel_rfl
              ·
                rcases Bool.eq_false_or_eq_true (Go.Ideal.W1.putE (Go.Ideal.W1.get Go.Ideal.W1.gK x) (Go.Ideal.W1.get Go.Ideal.W1.gV x) (Go.Ideal.W1.get Go.Ideal.W1.gS x) (Go.Ideal.W1.get Go.Ideal.W1.gG x) (Go.Ideal.W1.get Go.Ideal.W1.gE x) (Go.Ideal.W1.get Go.Ideal.W1.gT x) (Go.Ideal.W1.get Go.Ideal.W1.gQ x) == (0 : Int)) with h35 | h35
                ·
                  have k36 : (-9223372036854775808 : Int) ≤ Go.Ideal.W1.putV k v s g e t q := by exact b6.1
                  have k37 : Go.Ideal.W1.putV k v s g e t q ≤ (9223372036854775807 : Int) := by clear k36; exact b6.2
                  have k38 : (-9223372036854775808 : Int) ≤ x := by clear k37 k36; exact hx.1
                  have k39 : x ≤ (9223372036854775807 : Int) := by clear k38 k37 k36; exact hx.2
                  have k40 : (Go.Ideal.W1.putV (Go.Ideal.W1.get Go.Ideal.W1.gK x) (Go.Ideal.W1.get Go.Ideal.W1.gV x) (Go.Ideal.W1.get Go.Ideal.W1.gS x) (Go.Ideal.W1.get Go.Ideal.W1.gG x) (Go.Ideal.W1.get Go.Ideal.W1.gE x) (Go.Ideal.W1.get Go.Ideal.W1.gT x) (Go.Ideal.W1.get Go.Ideal.W1.gQ x) == x) = Bool.true := by clear k39 k38 k37 k36; (rcases Bool.eq_false_or_eq_true (wMay k v s g e t q) with m | m <;> rcases Bool.eq_false_or_eq_true (wMay k' v' s' g' e' t' q') with m' | m' <;> rcases Bool.eq_false_or_eq_true (gMay x) with m'' | m'' <;> simp_all [putE, putV, get, getE]; done)
                  refine vcIntro [false, false, true, false, false, false, false, true] (And.intro (And.intro h35 (And.intro h29 (And.intro (And.intro k38 k39) (And.intro h15 (And.intro h14 (And.intro h13 (And.intro (And.intro k36 k37) (And.intro h12 (And.intro h1 (And.intro h0 True.intro)))))))))) k40) ?_
                  kernel_rfl
                · exact False.elim (by (rcases Bool.eq_false_or_eq_true (wMay k v s g e t q) with m | m <;> rcases Bool.eq_false_or_eq_true (wMay k' v' s' g' e' t' q') with m' | m' <;> rcases Bool.eq_false_or_eq_true (gMay x) with m'' | m'' <;> simp_all [putE, putV, get, getE]; done))
      · exact False.elim (by (rcases Bool.eq_false_or_eq_true (wMay k v s g e t q) with m | m <;> rcases Bool.eq_false_or_eq_true (wMay k' v' s' g' e' t' q') with m' | m' <;> rcases Bool.eq_false_or_eq_true (gMay x) with m'' | m'' <;> simp_all [putE, putV, get, getE]; done))
theorem back_q (fi : Nat → Int) (fb : Nat → Bool) (fs : Nat → ByteArray) (_ : ∀ i, (List.replicate 7 Lf.i)[i]? = some .i → -9223372036854775808 ≤ fi i ∧ fi i ≤ 9223372036854775807) (gi : Nat → Int) (gb : Nat → Bool) (gs : Nat → ByteArray) (_ : ∀ i, (List.replicate 7 Lf.i)[i]? = some .i → -9223372036854775808 ≤ gi i ∧ gi i ≤ 9223372036854775807) (x : Int) (hx : -9223372036854775808 ≤ x ∧ x ≤ 9223372036854775807) :
    CallQ Try.prog 4 [.agg (lfV fi fb fs 0 (List.replicate 7 .i)), .agg (lfV gi gb gs 0 (List.replicate 7 .i)), .int .i64 (.s x)] (Hx []) (fun v _ => isT v) := CallQ.run specs_ok noL_ok mixed (back1 (fi 0) (fi 1) (fi 2) (fi 3) (fi 4) (fi 5) (fi 6) (gi 0) (gi 1) (gi 2) (gi 3) (gi 4) (gi 5) (gi 6) x hx)
end Go.Ideal.W1
