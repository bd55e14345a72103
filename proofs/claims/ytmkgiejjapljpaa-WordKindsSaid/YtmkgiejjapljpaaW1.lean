/- Chapter 1: contracts of words. Own text. -/
import Derived.Test.YtmkgiejjapljpaaL0
namespace Go.Ideal.W1
open Go.Proofs Go.Ideal Go.Ideal.L1
set_option linter.unusedSimpArgs false
set_option linter.unusedVariables false
set_option maxRecDepth 100000
set_option maxHeartbeats 8000000

/-- May a word be? -/
def wMay (k v s g e t q : Int) : Bool :=
  if k = 0 then decide (0 ≤ v ∧ v ≤ 1099511627775 ∧ s = 0 ∧ g = 0 ∧ e = 0 ∧ t = 0 ∧ q = 0)
  else if k = 1 then decide (v = 0 ∧ 0 ≤ s ∧ s < 12 ∧ 0 ≤ g ∧ g ≤ 65535 ∧ 0 ≤ e ∧ e < 16 ∧ 0 ≤ t ∧ t < 4 ∧ 0 ≤ q ∧ q ≤ 1048575)
  else if k = 2 then decide (v = 0 ∧ 0 ≤ s ∧ s < 12 ∧ 0 ≤ g ∧ g ≤ 65535 ∧ e = 0 ∧ t = 0 ∧ q = 0)
  else false
def wNum (k v s g e t q : Int) : Int :=
  if k = 0 then 4 * v else if k = 1 then 4 * ((((g * 16 + s) * 16 + e) * 4 + t) * 1048576 + q) + 1 else 4 * (g * 16 + s) + 2
def putV (k v s g e t q : Int) : Int := if wMay k v s g e t q = true then wNum k v s g e t q else 0
def putE (k v s g e t q : Int) : Int := if wMay k v s g e t q = true then 0 else 100

/-- The parts of a number. -/
def gK (x : Int) : Int := x % 4
def gV (x : Int) : Int := if x % 4 = 0 then x / 4 else 0
def gS (x : Int) : Int := if x % 4 = 1 then x / 4 / 67108864 % 16 else if x % 4 = 2 then x / 4 % 16 else 0
def gG (x : Int) : Int := if x % 4 = 1 then x / 4 / 67108864 / 16 else if x % 4 = 2 then x / 4 / 16 else 0
def gE (x : Int) : Int := if x % 4 = 1 then x / 4 / 4194304 % 16 else 0
def gT (x : Int) : Int := if x % 4 = 1 then x / 4 / 1048576 % 4 else 0
def gQ (x : Int) : Int := if x % 4 = 1 then x / 4 % 1048576 else 0
def gMay (x : Int) : Bool := decide (0 ≤ x) && wMay (gK x) (gV x) (gS x) (gG x) (gE x) (gT x) (gQ x)
def get (p : Int → Int) (x : Int) : Int := if gMay x = true then p x else 0
def getE (x : Int) : Int := if gMay x = true then 0 else 100

def wordV (k v s g e t q : Int) : V := .agg [.int .i64 (.s k), .int .i64 (.s v), .int .i64 (.s s), .int .i64 (.s g), .int .i64 (.s e), .int .i64 (.s t), .int .i64 (.s q)]

theorem put1 (k v s g e t q : Int) : ∃ hh, vcOf (runCall Try.prog below noL 200 13 [wordV k v s g e t q] H0 hh) (fun u _ => V.leP (.tuple [.int .i64 (.s (putV k v s g e t q)), .int .i64 (.s (putE k v s g e t q))]) u) := by

  rcases Bool.eq_false_or_eq_true (k == (0 : Int)) with h0 | h0
  ·
    rcases Bool.eq_false_or_eq_true (!((0 : Int) == k && (v == v && ((0 : Int) == s && ((0 : Int) == g && ((0 : Int) == e && ((0 : Int) == t && (0 : Int) == q))))))) with h1 | h1
    ·
      have k2 : Go.Ideal.W1.putV k v s g e t q = (0 : Int) := by (simp at *; simp only [putV, putE, wMay, wNum]; (repeat' split) <;> (try simp at *) <;> (try simp (disch := omega) only [wrapk]) <;> omega)
      have k3 : Go.Ideal.W1.putE k v s g e t q = (100 : Int) := by clear k2; (simp at *; simp only [putV, putE, wMay, wNum]; (repeat' split) <;> (try simp at *) <;> (try simp (disch := omega) only [wrapk]) <;> omega)
      refine vcIntro [true, true] (And.intro (And.intro h1 (And.intro h0 True.intro)) (And.intro k2 k3)) ?_
      kernel_rfl
    ·
      rcases Bool.eq_false_or_eq_true (Decidable.decide ((0 : Int) ≤ v) && Decidable.decide (v < (1099511627776 : Int))) with h4 | h4
      ·
        have k5 : Go.Ideal.W1.putV k v s g e t q = Go.IntKind.i64.wrap (Go.IntKind.i64.wrap (v * (4 : Int)) + (0 : Int)) := by (simp at *; simp only [putV, putE, wMay, wNum]; (repeat' split) <;> (try simp at *) <;> (try simp (disch := omega) only [wrapk]) <;> omega)
        have k6 : Go.Ideal.W1.putE k v s g e t q = (0 : Int) := by clear k5; (simp at *; simp only [putV, putE, wMay, wNum]; (repeat' split) <;> (try simp at *) <;> (try simp (disch := omega) only [wrapk]) <;> omega)
        refine vcIntro [true, false, true] (And.intro (And.intro h4 (And.intro h1 (And.intro h0 True.intro))) (And.intro k5 k6)) ?_
        kernel_rfl
      ·
        have k7 : Go.Ideal.W1.putV k v s g e t q = (0 : Int) := by (simp at *; simp only [putV, putE, wMay, wNum]; (repeat' split) <;> (try simp at *) <;> (try simp (disch := omega) only [wrapk]) <;> omega)
        have k8 : Go.Ideal.W1.putE k v s g e t q = (100 : Int) := by clear k7; (simp at *; simp only [putV, putE, wMay, wNum]; (repeat' split) <;> (try simp at *) <;> (try simp (disch := omega) only [wrapk]) <;> omega)
        refine vcIntro [true, false, false] (And.intro (And.intro h4 (And.intro h1 (And.intro h0 True.intro))) (And.intro k7 k8)) ?_
        kernel_rfl
  ·
    rcases Bool.eq_false_or_eq_true (k == (2 : Int)) with h9 | h9
    ·
      rcases Bool.eq_false_or_eq_true (!((2 : Int) == k && ((0 : Int) == v && (s == s && (g == g && ((0 : Int) == e && ((0 : Int) == t && (0 : Int) == q))))))) with h10 | h10
      ·
        have k11 : Go.Ideal.W1.putV k v s g e t q = (0 : Int) := by (simp at *; simp only [putV, putE, wMay, wNum]; (repeat' split) <;> (try simp at *) <;> (try simp (disch := omega) only [wrapk]) <;> omega)
        have k12 : Go.Ideal.W1.putE k v s g e t q = (100 : Int) := by clear k11; (simp at *; simp only [putV, putE, wMay, wNum]; (repeat' split) <;> (try simp at *) <;> (try simp (disch := omega) only [wrapk]) <;> omega)
        refine vcIntro [false, true, true] (And.intro (And.intro h10 (And.intro h9 (And.intro h0 True.intro))) (And.intro k11 k12)) ?_
        kernel_rfl
      ·
        rcases Bool.eq_false_or_eq_true (Decidable.decide ((0 : Int) ≤ s) && Decidable.decide (s < (12 : Int))) with h13 | h13
        ·
          rcases Bool.eq_false_or_eq_true (Decidable.decide ((0 : Int) ≤ g) && Decidable.decide (g < (65536 : Int))) with h14 | h14
          ·
            have k15 : Go.Ideal.W1.putV k v s g e t q = Go.IntKind.i64.wrap (Go.IntKind.i64.wrap (Go.IntKind.i64.wrap (Go.IntKind.i64.wrap (g * (16 : Int)) + s) * (4 : Int)) + (2 : Int)) := by (simp at *; simp only [putV, putE, wMay, wNum]; (repeat' split) <;> (try simp at *) <;> (try simp (disch := omega) only [wrapk]) <;> omega)
            have k16 : Go.Ideal.W1.putE k v s g e t q = (0 : Int) := by clear k15; (simp at *; simp only [putV, putE, wMay, wNum]; (repeat' split) <;> (try simp at *) <;> (try simp (disch := omega) only [wrapk]) <;> omega)
            refine vcIntro [false, true, false, true, true] (And.intro (And.intro h14 (And.intro h13 (And.intro h10 (And.intro h9 (And.intro h0 True.intro))))) (And.intro k15 k16)) ?_
            kernel_rfl
          ·
            have k17 : Go.Ideal.W1.putV k v s g e t q = (0 : Int) := by (simp at *; simp only [putV, putE, wMay, wNum]; (repeat' split) <;> (try simp at *) <;> (try simp (disch := omega) only [wrapk]) <;> omega)
            have k18 : Go.Ideal.W1.putE k v s g e t q = (100 : Int) := by clear k17; (simp at *; simp only [putV, putE, wMay, wNum]; (repeat' split) <;> (try simp at *) <;> (try simp (disch := omega) only [wrapk]) <;> omega)
            refine vcIntro [false, true, false, true, false] (And.intro (And.intro h14 (And.intro h13 (And.intro h10 (And.intro h9 (And.intro h0 True.intro))))) (And.intro k17 k18)) ?_
            kernel_rfl
        ·
          have k19 : Go.Ideal.W1.putV k v s g e t q = (0 : Int) := by (simp at *; simp only [putV, putE, wMay, wNum]; (repeat' split) <;> (try simp at *) <;> (try simp (disch := omega) only [wrapk]) <;> omega)
          have k20 : Go.Ideal.W1.putE k v s g e t q = (100 : Int) := by clear k19; (simp at *; simp only [putV, putE, wMay, wNum]; (repeat' split) <;> (try simp at *) <;> (try simp (disch := omega) only [wrapk]) <;> omega)
          refine vcIntro [false, true, false, false] (And.intro (And.intro h13 (And.intro h10 (And.intro h9 (And.intro h0 True.intro)))) (And.intro k19 k20)) ?_
          kernel_rfl
    ·
      rcases Bool.eq_false_or_eq_true (k == (1 : Int)) with h21 | h21
      ·
        rcases Bool.eq_false_or_eq_true (!((1 : Int) == k && ((0 : Int) == v && (s == s && (g == g && (e == e && (t == t && q == q))))))) with h22 | h22
        ·
          have k23 : Go.Ideal.W1.putV k v s g e t q = (0 : Int) := by (simp at *; simp only [putV, putE, wMay, wNum]; (repeat' split) <;> (try simp at *) <;> (try simp (disch := omega) only [wrapk]) <;> omega)
          have k24 : Go.Ideal.W1.putE k v s g e t q = (100 : Int) := by clear k23; (simp at *; simp only [putV, putE, wMay, wNum]; (repeat' split) <;> (try simp at *) <;> (try simp (disch := omega) only [wrapk]) <;> omega)
          refine vcIntro [false, false, true, true] (And.intro (And.intro h22 (And.intro h21 (And.intro h9 (And.intro h0 True.intro)))) (And.intro k23 k24)) ?_
          kernel_rfl
        ·
          rcases Bool.eq_false_or_eq_true (Decidable.decide ((0 : Int) ≤ s) && Decidable.decide (s < (12 : Int))) with h25 | h25
          ·
            rcases Bool.eq_false_or_eq_true (Decidable.decide ((0 : Int) ≤ g) && Decidable.decide (g < (65536 : Int))) with h26 | h26
            ·
              rcases Bool.eq_false_or_eq_true (Decidable.decide ((0 : Int) ≤ e) && Decidable.decide (e < (16 : Int))) with h27 | h27
              ·
                rcases Bool.eq_false_or_eq_true (Decidable.decide ((0 : Int) ≤ t) && Decidable.decide (t < (4 : Int))) with h28 | h28
                ·
                  rcases Bool.eq_false_or_eq_true (!(Decidable.decide ((0 : Int) ≤ q) && Decidable.decide (q < (1048576 : Int)))) with h29 | h29
                  ·
                    have k30 : Go.Ideal.W1.putV k v s g e t q = (0 : Int) := by (simp at *; simp only [putV, putE, wMay, wNum]; (repeat' split) <;> (try simp at *) <;> (try simp (disch := omega) only [wrapk]) <;> omega)
                    have k31 : Go.Ideal.W1.putE k v s g e t q = (100 : Int) := by clear k30; (simp at *; simp only [putV, putE, wMay, wNum]; (repeat' split) <;> (try simp at *) <;> (try simp (disch := omega) only [wrapk]) <;> omega)
                    refine vcIntro [false, false, true, false, true, true, true, true, true] (And.intro (And.intro h29 (And.intro h28 (And.intro h27 (And.intro h26 (And.intro h25 (And.intro h22 (And.intro h21 (And.intro h9 (And.intro h0 True.intro))))))))) (And.intro k30 k31)) ?_
                    kernel_rfl
                  ·
                    have k32 : Go.Ideal.W1.putV k v s g e t q = Go.IntKind.i64.wrap (Go.IntKind.i64.wrap (Go.IntKind.i64.wrap (Go.IntKind.i64.wrap (Go.IntKind.i64.wrap (Go.IntKind.i64.wrap (Go.IntKind.i64.wrap (Go.IntKind.i64.wrap (Go.IntKind.i64.wrap (Go.IntKind.i64.wrap (g * (16 : Int)) + s) * (16 : Int)) + e) * (4 : Int)) + t) * (1048576 : Int)) + q) * (4 : Int)) + (1 : Int)) := by (simp at *; simp only [putV, putE, wMay, wNum]; (repeat' split) <;> (try simp at *) <;> (try simp (disch := omega) only [wrapk]) <;> omega)
                    have k33 : Go.Ideal.W1.putE k v s g e t q = (0 : Int) := by clear k32; (simp at *; simp only [putV, putE, wMay, wNum]; (repeat' split) <;> (try simp at *) <;> (try simp (disch := omega) only [wrapk]) <;> omega)
                    refine vcIntro [false, false, true, false, true, true, true, true, false] (And.intro (And.intro h29 (And.intro h28 (And.intro h27 (And.intro h26 (And.intro h25 (And.intro h22 (And.intro h21 (And.intro h9 (And.intro h0 True.intro))))))))) (And.intro k32 k33)) ?_
                    kernel_rfl
                ·
                  have k34 : Go.Ideal.W1.putV k v s g e t q = (0 : Int) := by (simp at *; simp only [putV, putE, wMay, wNum]; (repeat' split) <;> (try simp at *) <;> (try simp (disch := omega) only [wrapk]) <;> omega)
                  have k35 : Go.Ideal.W1.putE k v s g e t q = (100 : Int) := by clear k34; (simp at *; simp only [putV, putE, wMay, wNum]; (repeat' split) <;> (try simp at *) <;> (try simp (disch := omega) only [wrapk]) <;> omega)
                  refine vcIntro [false, false, true, false, true, true, true, false] (And.intro (And.intro h28 (And.intro h27 (And.intro h26 (And.intro h25 (And.intro h22 (And.intro h21 (And.intro h9 (And.intro h0 True.intro)))))))) (And.intro k34 k35)) ?_
                  kernel_rfl
              ·
                have k36 : Go.Ideal.W1.putV k v s g e t q = (0 : Int) := by (simp at *; simp only [putV, putE, wMay, wNum]; (repeat' split) <;> (try simp at *) <;> (try simp (disch := omega) only [wrapk]) <;> omega)
                have k37 : Go.Ideal.W1.putE k v s g e t q = (100 : Int) := by clear k36; (simp at *; simp only [putV, putE, wMay, wNum]; (repeat' split) <;> (try simp at *) <;> (try simp (disch := omega) only [wrapk]) <;> omega)
                refine vcIntro [false, false, true, false, true, true, false] (And.intro (And.intro h27 (And.intro h26 (And.intro h25 (And.intro h22 (And.intro h21 (And.intro h9 (And.intro h0 True.intro))))))) (And.intro k36 k37)) ?_
                kernel_rfl
            ·
              have k38 : Go.Ideal.W1.putV k v s g e t q = (0 : Int) := by (simp at *; simp only [putV, putE, wMay, wNum]; (repeat' split) <;> (try simp at *) <;> (try simp (disch := omega) only [wrapk]) <;> omega)
              have k39 : Go.Ideal.W1.putE k v s g e t q = (100 : Int) := by clear k38; (simp at *; simp only [putV, putE, wMay, wNum]; (repeat' split) <;> (try simp at *) <;> (try simp (disch := omega) only [wrapk]) <;> omega)
              refine vcIntro [false, false, true, false, true, false] (And.intro (And.intro h26 (And.intro h25 (And.intro h22 (And.intro h21 (And.intro h9 (And.intro h0 True.intro)))))) (And.intro k38 k39)) ?_
              kernel_rfl
          ·
            have k40 : Go.Ideal.W1.putV k v s g e t q = (0 : Int) := by (simp at *; simp only [putV, putE, wMay, wNum]; (repeat' split) <;> (try simp at *) <;> (try simp (disch := omega) only [wrapk]) <;> omega)
            have k41 : Go.Ideal.W1.putE k v s g e t q = (100 : Int) := by clear k40; (simp at *; simp only [putV, putE, wMay, wNum]; (repeat' split) <;> (try simp at *) <;> (try simp (disch := omega) only [wrapk]) <;> omega)
            refine vcIntro [false, false, true, false, false] (And.intro (And.intro h25 (And.intro h22 (And.intro h21 (And.intro h9 (And.intro h0 True.intro))))) (And.intro k40 k41)) ?_
            kernel_rfl
      ·
        have k42 : Go.Ideal.W1.putV k v s g e t q = (0 : Int) := by (simp at *; simp only [putV, putE, wMay, wNum]; (repeat' split) <;> (try simp at *) <;> (try simp (disch := omega) only [wrapk]) <;> omega)
        have k43 : Go.Ideal.W1.putE k v s g e t q = (100 : Int) := by clear k42; (simp at *; simp only [putV, putE, wMay, wNum]; (repeat' split) <;> (try simp at *) <;> (try simp (disch := omega) only [wrapk]) <;> omega)
        refine vcIntro [false, false, false] (And.intro (And.intro h21 (And.intro h9 (And.intro h0 True.intro))) (And.intro k42 k43)) ?_
        kernel_rfl
theorem putr1 (k v s g e t q : Int) : ∃ hh, vcOf (runCall Try.prog noSpec noL 200 14 [wordV k v s g e t q] H0 hh) (fun u _ => V.leP (.tuple [.int .i64 (.s (putV k v s g e t q)), .int .i64 (.s (putE k v s g e t q))]) u) := by

  rcases Bool.eq_false_or_eq_true (k == (0 : Int)) with h0 | h0
  ·
    rcases Bool.eq_false_or_eq_true (k == (0 : Int) && (v == v && (s == (0 : Int) && (g == (0 : Int) && (e == (0 : Int) && (t == (0 : Int) && q == (0 : Int))))))) with h1 | h1
    ·
      rcases Bool.eq_false_or_eq_true (Decidable.decide (v ≥ (0 : Int))) with h2 | h2
      ·
        rcases Bool.eq_false_or_eq_true (!Decidable.decide (v ≤ (1099511627775 : Int))) with h3 | h3
        ·
          have k4 : Go.Ideal.W1.putV k v s g e t q = (0 : Int) := by (simp at *; simp only [putV, putE, wMay, wNum]; (repeat' split) <;> (try simp at *) <;> (try simp (disch := omega) only [wrapk]) <;> omega)
          have k5 : Go.Ideal.W1.putE k v s g e t q = (100 : Int) := by clear k4; (simp at *; simp only [putV, putE, wMay, wNum]; (repeat' split) <;> (try simp at *) <;> (try simp (disch := omega) only [wrapk]) <;> omega)
          refine vcIntro [true, true, true, true] (And.intro (And.intro h3 (And.intro h2 (And.intro h1 (And.intro h0 True.intro)))) (And.intro k4 k5)) ?_
          kernel_rfl
        ·
          rcases Bool.eq_false_or_eq_true (k != (0 : Int)) with h6 | h6
          · exact False.elim (by (simp at *; omega))
          ·
            rcases Bool.eq_false_or_eq_true (k == (1 : Int)) with h7 | h7
            · exact False.elim (by (simp at *; omega))
            ·
              have k8 : Go.Ideal.W1.putV k v s g e t q = Go.IntKind.i64.wrap (Go.IntKind.i64.wrap ((4 : Int) * v) + k) := by (simp at *; simp only [putV, putE, wMay, wNum]; (repeat' split) <;> (try simp at *) <;> (try simp (disch := omega) only [wrapk]) <;> omega)
              have k9 : Go.Ideal.W1.putE k v s g e t q = (0 : Int) := by clear k8; (simp at *; simp only [putV, putE, wMay, wNum]; (repeat' split) <;> (try simp at *) <;> (try simp (disch := omega) only [wrapk]) <;> omega)
              refine vcIntro [true, true, true, false, false, false] (And.intro (And.intro h7 (And.intro h6 (And.intro h3 (And.intro h2 (And.intro h1 (And.intro h0 True.intro)))))) (And.intro k8 k9)) ?_
              kernel_rfl
      ·
        have k10 : Go.Ideal.W1.putV k v s g e t q = (0 : Int) := by (simp at *; simp only [putV, putE, wMay, wNum]; (repeat' split) <;> (try simp at *) <;> (try simp (disch := omega) only [wrapk]) <;> omega)
        have k11 : Go.Ideal.W1.putE k v s g e t q = (100 : Int) := by clear k10; (simp at *; simp only [putV, putE, wMay, wNum]; (repeat' split) <;> (try simp at *) <;> (try simp (disch := omega) only [wrapk]) <;> omega)
        refine vcIntro [true, true, false] (And.intro (And.intro h2 (And.intro h1 (And.intro h0 True.intro))) (And.intro k10 k11)) ?_
        kernel_rfl
    ·
      have k12 : Go.Ideal.W1.putV k v s g e t q = (0 : Int) := by (simp at *; simp only [putV, putE, wMay, wNum]; (repeat' split) <;> (try simp at *) <;> (try simp (disch := omega) only [wrapk]) <;> omega)
      have k13 : Go.Ideal.W1.putE k v s g e t q = (100 : Int) := by clear k12; (simp at *; simp only [putV, putE, wMay, wNum]; (repeat' split) <;> (try simp at *) <;> (try simp (disch := omega) only [wrapk]) <;> omega)
      refine vcIntro [true, false] (And.intro (And.intro h1 (And.intro h0 True.intro)) (And.intro k12 k13)) ?_
      kernel_rfl
  ·
    rcases Bool.eq_false_or_eq_true (k == (1 : Int)) with h14 | h14
    ·
      rcases Bool.eq_false_or_eq_true (v == (0 : Int)) with h15 | h15
      ·
        rcases Bool.eq_false_or_eq_true (Decidable.decide (s ≥ (0 : Int))) with h16 | h16
        ·
          rcases Bool.eq_false_or_eq_true (Decidable.decide (s < (12 : Int))) with h17 | h17
          ·
            rcases Bool.eq_false_or_eq_true (Decidable.decide (g ≥ (0 : Int))) with h18 | h18
            ·
              rcases Bool.eq_false_or_eq_true (Decidable.decide (g ≤ (65535 : Int))) with h19 | h19
              ·
                rcases Bool.eq_false_or_eq_true (Decidable.decide (e ≥ (0 : Int))) with h20 | h20
                ·
                  rcases Bool.eq_false_or_eq_true (Decidable.decide (e < (16 : Int))) with h21 | h21
                  ·
                    rcases Bool.eq_false_or_eq_true (Decidable.decide (t ≥ (0 : Int))) with h22 | h22
                    ·
                      rcases Bool.eq_false_or_eq_true (Decidable.decide (t < (4 : Int))) with h23 | h23
                      ·
                        rcases Bool.eq_false_or_eq_true (Decidable.decide (q ≥ (0 : Int))) with h24 | h24
                        ·
                          rcases Bool.eq_false_or_eq_true (!Decidable.decide (q ≤ (1048575 : Int))) with h25 | h25
                          ·
                            have k26 : Go.Ideal.W1.putV k v s g e t q = (0 : Int) := by (simp at *; simp only [putV, putE, wMay, wNum]; (repeat' split) <;> (try simp at *) <;> (try simp (disch := omega) only [wrapk]) <;> omega)
                            have k27 : Go.Ideal.W1.putE k v s g e t q = (100 : Int) := by clear k26; (simp at *; simp only [putV, putE, wMay, wNum]; (repeat' split) <;> (try simp at *) <;> (try simp (disch := omega) only [wrapk]) <;> omega)
                            refine vcIntro [false, true, true, true, true, true, true, true, true, true, true, true, true] (And.intro (And.intro h25 (And.intro h24 (And.intro h23 (And.intro h22 (And.intro h21 (And.intro h20 (And.intro h19 (And.intro h18 (And.intro h17 (And.intro h16 (And.intro h15 (And.intro h14 (And.intro h0 True.intro))))))))))))) (And.intro k26 k27)) ?_
                            kernel_rfl
                          ·
                            rcases Bool.eq_false_or_eq_true (k != (0 : Int)) with h28 | h28
                            ·
                              have k29 : Go.Ideal.W1.putV k v s g e t q = Go.IntKind.i64.wrap (Go.IntKind.i64.wrap ((4 : Int) * Go.IntKind.i64.wrap (Go.IntKind.i64.wrap (Go.IntKind.i64.wrap (Go.IntKind.i64.wrap (Go.IntKind.i64.wrap (Go.IntKind.i64.wrap (Go.IntKind.i64.wrap (Go.IntKind.i64.wrap (g * (16 : Int)) + s) * (16 : Int)) + e) * (4 : Int)) + t) * (1048576 : Int)) + q)) + k) := by (simp at *; simp only [putV, putE, wMay, wNum]; (repeat' split) <;> (try simp at *) <;> (try simp (disch := omega) only [wrapk]) <;> omega)
                              have k30 : Go.Ideal.W1.putE k v s g e t q = (0 : Int) := by clear k29; (simp at *; simp only [putV, putE, wMay, wNum]; (repeat' split) <;> (try simp at *) <;> (try simp (disch := omega) only [wrapk]) <;> omega)
                              refine vcIntro [false, true, true, true, true, true, true, true, true, true, true, true, false, true, true] (And.intro (And.intro h14 (And.intro h28 (And.intro h25 (And.intro h24 (And.intro h23 (And.intro h22 (And.intro h21 (And.intro h20 (And.intro h19 (And.intro h18 (And.intro h17 (And.intro h16 (And.intro h15 (And.intro h14 (And.intro h0 True.intro))))))))))))))) (And.intro k29 k30)) ?_
                              kernel_rfl
                            · exact False.elim (by (simp at *; omega))
                        ·
                          have k31 : Go.Ideal.W1.putV k v s g e t q = (0 : Int) := by (simp at *; simp only [putV, putE, wMay, wNum]; (repeat' split) <;> (try simp at *) <;> (try simp (disch := omega) only [wrapk]) <;> omega)
                          have k32 : Go.Ideal.W1.putE k v s g e t q = (100 : Int) := by clear k31; (simp at *; simp only [putV, putE, wMay, wNum]; (repeat' split) <;> (try simp at *) <;> (try simp (disch := omega) only [wrapk]) <;> omega)
                          refine vcIntro [false, true, true, true, true, true, true, true, true, true, true, false] (And.intro (And.intro h24 (And.intro h23 (And.intro h22 (And.intro h21 (And.intro h20 (And.intro h19 (And.intro h18 (And.intro h17 (And.intro h16 (And.intro h15 (And.intro h14 (And.intro h0 True.intro)))))))))))) (And.intro k31 k32)) ?_
                          kernel_rfl
                      ·
                        have k33 : Go.Ideal.W1.putV k v s g e t q = (0 : Int) := by (simp at *; simp only [putV, putE, wMay, wNum]; (repeat' split) <;> (try simp at *) <;> (try simp (disch := omega) only [wrapk]) <;> omega)
                        have k34 : Go.Ideal.W1.putE k v s g e t q = (100 : Int) := by clear k33; (simp at *; simp only [putV, putE, wMay, wNum]; (repeat' split) <;> (try simp at *) <;> (try simp (disch := omega) only [wrapk]) <;> omega)
                        refine vcIntro [false, true, true, true, true, true, true, true, true, true, false] (And.intro (And.intro h23 (And.intro h22 (And.intro h21 (And.intro h20 (And.intro h19 (And.intro h18 (And.intro h17 (And.intro h16 (And.intro h15 (And.intro h14 (And.intro h0 True.intro))))))))))) (And.intro k33 k34)) ?_
                        kernel_rfl
                    ·
                      have k35 : Go.Ideal.W1.putV k v s g e t q = (0 : Int) := by (simp at *; simp only [putV, putE, wMay, wNum]; (repeat' split) <;> (try simp at *) <;> (try simp (disch := omega) only [wrapk]) <;> omega)
                      have k36 : Go.Ideal.W1.putE k v s g e t q = (100 : Int) := by clear k35; (simp at *; simp only [putV, putE, wMay, wNum]; (repeat' split) <;> (try simp at *) <;> (try simp (disch := omega) only [wrapk]) <;> omega)
                      refine vcIntro [false, true, true, true, true, true, true, true, true, false] (And.intro (And.intro h22 (And.intro h21 (And.intro h20 (And.intro h19 (And.intro h18 (And.intro h17 (And.intro h16 (And.intro h15 (And.intro h14 (And.intro h0 True.intro)))))))))) (And.intro k35 k36)) ?_
                      kernel_rfl
                  ·
                    have k37 : Go.Ideal.W1.putV k v s g e t q = (0 : Int) := by (simp at *; simp only [putV, putE, wMay, wNum]; (repeat' split) <;> (try simp at *) <;> (try simp (disch := omega) only [wrapk]) <;> omega)
                    have k38 : Go.Ideal.W1.putE k v s g e t q = (100 : Int) := by clear k37; (simp at *; simp only [putV, putE, wMay, wNum]; (repeat' split) <;> (try simp at *) <;> (try simp (disch := omega) only [wrapk]) <;> omega)
                    refine vcIntro [false, true, true, true, true, true, true, true, false] (And.intro (And.intro h21 (And.intro h20 (And.intro h19 (And.intro h18 (And.intro h17 (And.intro h16 (And.intro h15 (And.intro h14 (And.intro h0 True.intro))))))))) (And.intro k37 k38)) ?_
                    kernel_rfl
                ·
                  have k39 : Go.Ideal.W1.putV k v s g e t q = (0 : Int) := by (simp at *; simp only [putV, putE, wMay, wNum]; (repeat' split) <;> (try simp at *) <;> (try simp (disch := omega) only [wrapk]) <;> omega)
                  have k40 : Go.Ideal.W1.putE k v s g e t q = (100 : Int) := by clear k39; (simp at *; simp only [putV, putE, wMay, wNum]; (repeat' split) <;> (try simp at *) <;> (try simp (disch := omega) only [wrapk]) <;> omega)
                  refine vcIntro [false, true, true, true, true, true, true, false] (And.intro (And.intro h20 (And.intro h19 (And.intro h18 (And.intro h17 (And.intro h16 (And.intro h15 (And.intro h14 (And.intro h0 True.intro)))))))) (And.intro k39 k40)) ?_
                  kernel_rfl
              ·
                have k41 : Go.Ideal.W1.putV k v s g e t q = (0 : Int) := by (simp at *; simp only [putV, putE, wMay, wNum]; (repeat' split) <;> (try simp at *) <;> (try simp (disch := omega) only [wrapk]) <;> omega)
                have k42 : Go.Ideal.W1.putE k v s g e t q = (100 : Int) := by clear k41; (simp at *; simp only [putV, putE, wMay, wNum]; (repeat' split) <;> (try simp at *) <;> (try simp (disch := omega) only [wrapk]) <;> omega)
                refine vcIntro [false, true, true, true, true, true, false] (And.intro (And.intro h19 (And.intro h18 (And.intro h17 (And.intro h16 (And.intro h15 (And.intro h14 (And.intro h0 True.intro))))))) (And.intro k41 k42)) ?_
                kernel_rfl
            ·
              have k43 : Go.Ideal.W1.putV k v s g e t q = (0 : Int) := by (simp at *; simp only [putV, putE, wMay, wNum]; (repeat' split) <;> (try simp at *) <;> (try simp (disch := omega) only [wrapk]) <;> omega)
              have k44 : Go.Ideal.W1.putE k v s g e t q = (100 : Int) := by clear k43; (simp at *; simp only [putV, putE, wMay, wNum]; (repeat' split) <;> (try simp at *) <;> (try simp (disch := omega) only [wrapk]) <;> omega)
              refine vcIntro [false, true, true, true, true, false] (And.intro (And.intro h18 (And.intro h17 (And.intro h16 (And.intro h15 (And.intro h14 (And.intro h0 True.intro)))))) (And.intro k43 k44)) ?_
              kernel_rfl
          ·
            have k45 : Go.Ideal.W1.putV k v s g e t q = (0 : Int) := by (simp at *; simp only [putV, putE, wMay, wNum]; (repeat' split) <;> (try simp at *) <;> (try simp (disch := omega) only [wrapk]) <;> omega)
            have k46 : Go.Ideal.W1.putE k v s g e t q = (100 : Int) := by clear k45; (simp at *; simp only [putV, putE, wMay, wNum]; (repeat' split) <;> (try simp at *) <;> (try simp (disch := omega) only [wrapk]) <;> omega)
            refine vcIntro [false, true, true, true, false] (And.intro (And.intro h17 (And.intro h16 (And.intro h15 (And.intro h14 (And.intro h0 True.intro))))) (And.intro k45 k46)) ?_
            kernel_rfl
        ·
          have k47 : Go.Ideal.W1.putV k v s g e t q = (0 : Int) := by (simp at *; simp only [putV, putE, wMay, wNum]; (repeat' split) <;> (try simp at *) <;> (try simp (disch := omega) only [wrapk]) <;> omega)
          have k48 : Go.Ideal.W1.putE k v s g e t q = (100 : Int) := by clear k47; (simp at *; simp only [putV, putE, wMay, wNum]; (repeat' split) <;> (try simp at *) <;> (try simp (disch := omega) only [wrapk]) <;> omega)
          refine vcIntro [false, true, true, false] (And.intro (And.intro h16 (And.intro h15 (And.intro h14 (And.intro h0 True.intro)))) (And.intro k47 k48)) ?_
          kernel_rfl
      ·
        have k49 : Go.Ideal.W1.putV k v s g e t q = (0 : Int) := by (simp at *; simp only [putV, putE, wMay, wNum]; (repeat' split) <;> (try simp at *) <;> (try simp (disch := omega) only [wrapk]) <;> omega)
        have k50 : Go.Ideal.W1.putE k v s g e t q = (100 : Int) := by clear k49; (simp at *; simp only [putV, putE, wMay, wNum]; (repeat' split) <;> (try simp at *) <;> (try simp (disch := omega) only [wrapk]) <;> omega)
        refine vcIntro [false, true, false] (And.intro (And.intro h15 (And.intro h14 (And.intro h0 True.intro))) (And.intro k49 k50)) ?_
        kernel_rfl
    ·
      rcases Bool.eq_false_or_eq_true (k == (2 : Int)) with h51 | h51
      ·
        rcases Bool.eq_false_or_eq_true (k == (2 : Int) && (v == (0 : Int) && (s == s && (g == g && (e == (0 : Int) && (t == (0 : Int) && q == (0 : Int))))))) with h52 | h52
        ·
          rcases Bool.eq_false_or_eq_true (Decidable.decide (s ≥ (0 : Int))) with h53 | h53
          ·
            rcases Bool.eq_false_or_eq_true (Decidable.decide (s < (12 : Int))) with h54 | h54
            ·
              rcases Bool.eq_false_or_eq_true (Decidable.decide (g ≥ (0 : Int))) with h55 | h55
              ·
                rcases Bool.eq_false_or_eq_true (!Decidable.decide (g ≤ (65535 : Int))) with h56 | h56
                ·
                  have k57 : Go.Ideal.W1.putV k v s g e t q = (0 : Int) := by (simp at *; simp only [putV, putE, wMay, wNum]; (repeat' split) <;> (try simp at *) <;> (try simp (disch := omega) only [wrapk]) <;> omega)
                  have k58 : Go.Ideal.W1.putE k v s g e t q = (100 : Int) := by clear k57; (simp at *; simp only [putV, putE, wMay, wNum]; (repeat' split) <;> (try simp at *) <;> (try simp (disch := omega) only [wrapk]) <;> omega)
                  refine vcIntro [false, false, true, true, true, true, true, true] (And.intro (And.intro h56 (And.intro h55 (And.intro h54 (And.intro h53 (And.intro h52 (And.intro h51 (And.intro h14 (And.intro h0 True.intro)))))))) (And.intro k57 k58)) ?_
                  kernel_rfl
                ·
                  rcases Bool.eq_false_or_eq_true (k != (0 : Int)) with h59 | h59
                  ·
                    have k60 : Go.Ideal.W1.putV k v s g e t q = Go.IntKind.i64.wrap (Go.IntKind.i64.wrap ((4 : Int) * Go.IntKind.i64.wrap (Go.IntKind.i64.wrap (g * (16 : Int)) + s)) + k) := by (simp at *; simp only [putV, putE, wMay, wNum]; (repeat' split) <;> (try simp at *) <;> (try simp (disch := omega) only [wrapk]) <;> omega)
                    have k61 : Go.Ideal.W1.putE k v s g e t q = (0 : Int) := by clear k60; (simp at *; simp only [putV, putE, wMay, wNum]; (repeat' split) <;> (try simp at *) <;> (try simp (disch := omega) only [wrapk]) <;> omega)
                    refine vcIntro [false, false, true, true, true, true, true, false, true, false] (And.intro (And.intro h14 (And.intro h59 (And.intro h56 (And.intro h55 (And.intro h54 (And.intro h53 (And.intro h52 (And.intro h51 (And.intro h14 (And.intro h0 True.intro)))))))))) (And.intro k60 k61)) ?_
                    kernel_rfl
                  · exact False.elim (by (simp at *; omega))
              ·
                have k62 : Go.Ideal.W1.putV k v s g e t q = (0 : Int) := by (simp at *; simp only [putV, putE, wMay, wNum]; (repeat' split) <;> (try simp at *) <;> (try simp (disch := omega) only [wrapk]) <;> omega)
                have k63 : Go.Ideal.W1.putE k v s g e t q = (100 : Int) := by clear k62; (simp at *; simp only [putV, putE, wMay, wNum]; (repeat' split) <;> (try simp at *) <;> (try simp (disch := omega) only [wrapk]) <;> omega)
                refine vcIntro [false, false, true, true, true, true, false] (And.intro (And.intro h55 (And.intro h54 (And.intro h53 (And.intro h52 (And.intro h51 (And.intro h14 (And.intro h0 True.intro))))))) (And.intro k62 k63)) ?_
                kernel_rfl
            ·
              have k64 : Go.Ideal.W1.putV k v s g e t q = (0 : Int) := by (simp at *; simp only [putV, putE, wMay, wNum]; (repeat' split) <;> (try simp at *) <;> (try simp (disch := omega) only [wrapk]) <;> omega)
              have k65 : Go.Ideal.W1.putE k v s g e t q = (100 : Int) := by clear k64; (simp at *; simp only [putV, putE, wMay, wNum]; (repeat' split) <;> (try simp at *) <;> (try simp (disch := omega) only [wrapk]) <;> omega)
              refine vcIntro [false, false, true, true, true, false] (And.intro (And.intro h54 (And.intro h53 (And.intro h52 (And.intro h51 (And.intro h14 (And.intro h0 True.intro)))))) (And.intro k64 k65)) ?_
              kernel_rfl
          ·
            have k66 : Go.Ideal.W1.putV k v s g e t q = (0 : Int) := by (simp at *; simp only [putV, putE, wMay, wNum]; (repeat' split) <;> (try simp at *) <;> (try simp (disch := omega) only [wrapk]) <;> omega)
            have k67 : Go.Ideal.W1.putE k v s g e t q = (100 : Int) := by clear k66; (simp at *; simp only [putV, putE, wMay, wNum]; (repeat' split) <;> (try simp at *) <;> (try simp (disch := omega) only [wrapk]) <;> omega)
            refine vcIntro [false, false, true, true, false] (And.intro (And.intro h53 (And.intro h52 (And.intro h51 (And.intro h14 (And.intro h0 True.intro))))) (And.intro k66 k67)) ?_
            kernel_rfl
        ·
          have k68 : Go.Ideal.W1.putV k v s g e t q = (0 : Int) := by (simp at *; simp only [putV, putE, wMay, wNum]; (repeat' split) <;> (try simp at *) <;> (try simp (disch := omega) only [wrapk]) <;> omega)
          have k69 : Go.Ideal.W1.putE k v s g e t q = (100 : Int) := by clear k68; (simp at *; simp only [putV, putE, wMay, wNum]; (repeat' split) <;> (try simp at *) <;> (try simp (disch := omega) only [wrapk]) <;> omega)
          refine vcIntro [false, false, true, false] (And.intro (And.intro h52 (And.intro h51 (And.intro h14 (And.intro h0 True.intro)))) (And.intro k68 k69)) ?_
          kernel_rfl
      ·
        have k70 : Go.Ideal.W1.putV k v s g e t q = (0 : Int) := by (simp at *; simp only [putV, putE, wMay, wNum]; (repeat' split) <;> (try simp at *) <;> (try simp (disch := omega) only [wrapk]) <;> omega)
        have k71 : Go.Ideal.W1.putE k v s g e t q = (100 : Int) := by clear k70; (simp at *; simp only [putV, putE, wMay, wNum]; (repeat' split) <;> (try simp at *) <;> (try simp (disch := omega) only [wrapk]) <;> omega)
        refine vcIntro [false, false, false] (And.intro (And.intro h51 (And.intro h14 (And.intro h0 True.intro))) (And.intro k70 k71)) ?_
        kernel_rfl
theorem may1 (k v s g e t q : Int) : ∃ hh, vcOf (runCall Try.prog below noL 200 18 [wordV k v s g e t q] H0 hh) (fun u _ => V.leP (.bool (.s (wMay k v s g e t q))) u) := by

  rcases Bool.eq_false_or_eq_true (k == (0 : Int)) with h0 | h0
  ·
    rcases Bool.eq_false_or_eq_true (!((0 : Int) == k && (v == v && ((0 : Int) == s && ((0 : Int) == g && ((0 : Int) == e && ((0 : Int) == t && (0 : Int) == q))))))) with h1 | h1
    ·
      have k2 : Go.Ideal.W1.wMay k v s g e t q = Bool.false := by (simp [wMay] at *; (repeat' split) <;> (try simp at *) <;> omega)
      refine vcIntro [true, true] (And.intro (And.intro h1 (And.intro h0 True.intro)) k2) ?_
      kernel_rfl
    ·
      rcases Bool.eq_false_or_eq_true (Decidable.decide ((0 : Int) ≤ v) && Decidable.decide (v < (1099511627776 : Int))) with h3 | h3
      ·
        have k4 : Go.Ideal.W1.wMay k v s g e t q = Bool.true := by (simp [wMay] at *; (repeat' split) <;> (try simp at *) <;> omega)
        refine vcIntro [true, false, true] (And.intro (And.intro h3 (And.intro h1 (And.intro h0 True.intro))) k4) ?_
        kernel_rfl
      ·
        have k5 : Go.Ideal.W1.wMay k v s g e t q = Bool.false := by (simp [wMay] at *; (repeat' split) <;> (try simp at *) <;> omega)
        refine vcIntro [true, false, false] (And.intro (And.intro h3 (And.intro h1 (And.intro h0 True.intro))) k5) ?_
        kernel_rfl
  ·
    rcases Bool.eq_false_or_eq_true (k == (2 : Int)) with h6 | h6
    ·
      rcases Bool.eq_false_or_eq_true (!((2 : Int) == k && ((0 : Int) == v && (s == s && (g == g && ((0 : Int) == e && ((0 : Int) == t && (0 : Int) == q))))))) with h7 | h7
      ·
        have k8 : Go.Ideal.W1.wMay k v s g e t q = Bool.false := by (simp [wMay] at *; (repeat' split) <;> (try simp at *) <;> omega)
        refine vcIntro [false, true, true] (And.intro (And.intro h7 (And.intro h6 (And.intro h0 True.intro))) k8) ?_
        kernel_rfl
      ·
        rcases Bool.eq_false_or_eq_true (Decidable.decide ((0 : Int) ≤ s) && Decidable.decide (s < (12 : Int))) with h9 | h9
        ·
          rcases Bool.eq_false_or_eq_true (Decidable.decide ((0 : Int) ≤ g) && Decidable.decide (g < (65536 : Int))) with h10 | h10
          ·
            have k11 : Go.Ideal.W1.wMay k v s g e t q = Bool.true := by (simp [wMay] at *; (repeat' split) <;> (try simp at *) <;> omega)
            refine vcIntro [false, true, false, true, true] (And.intro (And.intro h10 (And.intro h9 (And.intro h7 (And.intro h6 (And.intro h0 True.intro))))) k11) ?_
            kernel_rfl
          ·
            have k12 : Go.Ideal.W1.wMay k v s g e t q = Bool.false := by (simp [wMay] at *; (repeat' split) <;> (try simp at *) <;> omega)
            refine vcIntro [false, true, false, true, false] (And.intro (And.intro h10 (And.intro h9 (And.intro h7 (And.intro h6 (And.intro h0 True.intro))))) k12) ?_
            kernel_rfl
        ·
          have k13 : Go.Ideal.W1.wMay k v s g e t q = Bool.false := by (simp [wMay] at *; (repeat' split) <;> (try simp at *) <;> omega)
          refine vcIntro [false, true, false, false] (And.intro (And.intro h9 (And.intro h7 (And.intro h6 (And.intro h0 True.intro)))) k13) ?_
          kernel_rfl
    ·
      rcases Bool.eq_false_or_eq_true (k == (1 : Int)) with h14 | h14
      ·
        rcases Bool.eq_false_or_eq_true (!((1 : Int) == k && ((0 : Int) == v && (s == s && (g == g && (e == e && (t == t && q == q))))))) with h15 | h15
        ·
          have k16 : Go.Ideal.W1.wMay k v s g e t q = Bool.false := by (simp [wMay] at *; (repeat' split) <;> (try simp at *) <;> omega)
          refine vcIntro [false, false, true, true] (And.intro (And.intro h15 (And.intro h14 (And.intro h6 (And.intro h0 True.intro)))) k16) ?_
          kernel_rfl
        ·
          rcases Bool.eq_false_or_eq_true (Decidable.decide ((0 : Int) ≤ s) && Decidable.decide (s < (12 : Int))) with h17 | h17
          ·
            rcases Bool.eq_false_or_eq_true (Decidable.decide ((0 : Int) ≤ g) && Decidable.decide (g < (65536 : Int))) with h18 | h18
            ·
              rcases Bool.eq_false_or_eq_true (Decidable.decide ((0 : Int) ≤ e) && Decidable.decide (e < (16 : Int))) with h19 | h19
              ·
                rcases Bool.eq_false_or_eq_true (Decidable.decide ((0 : Int) ≤ t) && Decidable.decide (t < (4 : Int))) with h20 | h20
                ·
                  rcases Bool.eq_false_or_eq_true (!(Decidable.decide ((0 : Int) ≤ q) && Decidable.decide (q < (1048576 : Int)))) with h21 | h21
                  ·
                    have k22 : Go.Ideal.W1.wMay k v s g e t q = Bool.false := by (simp [wMay] at *; (repeat' split) <;> (try simp at *) <;> omega)
                    refine vcIntro [false, false, true, false, true, true, true, true, true] (And.intro (And.intro h21 (And.intro h20 (And.intro h19 (And.intro h18 (And.intro h17 (And.intro h15 (And.intro h14 (And.intro h6 (And.intro h0 True.intro))))))))) k22) ?_
                    kernel_rfl
                  ·
                    have k23 : Go.Ideal.W1.wMay k v s g e t q = Bool.true := by (simp [wMay] at *; (repeat' split) <;> (try simp at *) <;> omega)
                    refine vcIntro [false, false, true, false, true, true, true, true, false] (And.intro (And.intro h21 (And.intro h20 (And.intro h19 (And.intro h18 (And.intro h17 (And.intro h15 (And.intro h14 (And.intro h6 (And.intro h0 True.intro))))))))) k23) ?_
                    kernel_rfl
                ·
                  have k24 : Go.Ideal.W1.wMay k v s g e t q = Bool.false := by (simp [wMay] at *; (repeat' split) <;> (try simp at *) <;> omega)
                  refine vcIntro [false, false, true, false, true, true, true, false] (And.intro (And.intro h20 (And.intro h19 (And.intro h18 (And.intro h17 (And.intro h15 (And.intro h14 (And.intro h6 (And.intro h0 True.intro)))))))) k24) ?_
                  kernel_rfl
              ·
                have k25 : Go.Ideal.W1.wMay k v s g e t q = Bool.false := by (simp [wMay] at *; (repeat' split) <;> (try simp at *) <;> omega)
                refine vcIntro [false, false, true, false, true, true, false] (And.intro (And.intro h19 (And.intro h18 (And.intro h17 (And.intro h15 (And.intro h14 (And.intro h6 (And.intro h0 True.intro))))))) k25) ?_
                kernel_rfl
            ·
              have k26 : Go.Ideal.W1.wMay k v s g e t q = Bool.false := by (simp [wMay] at *; (repeat' split) <;> (try simp at *) <;> omega)
              refine vcIntro [false, false, true, false, true, false] (And.intro (And.intro h18 (And.intro h17 (And.intro h15 (And.intro h14 (And.intro h6 (And.intro h0 True.intro)))))) k26) ?_
              kernel_rfl
          ·
            have k27 : Go.Ideal.W1.wMay k v s g e t q = Bool.false := by (simp [wMay] at *; (repeat' split) <;> (try simp at *) <;> omega)
            refine vcIntro [false, false, true, false, false] (And.intro (And.intro h17 (And.intro h15 (And.intro h14 (And.intro h6 (And.intro h0 True.intro))))) k27) ?_
            kernel_rfl
      ·
        have k28 : Go.Ideal.W1.wMay k v s g e t q = Bool.false := by (simp [wMay] at *; (repeat' split) <;> (try simp at *) <;> omega)
        refine vcIntro [false, false, false] (And.intro (And.intro h14 (And.intro h6 (And.intro h0 True.intro))) k28) ?_
        kernel_rfl
theorem mayr1 (k v s g e t q : Int) : ∃ hh, vcOf (runCall Try.prog noSpec noL 200 19 [wordV k v s g e t q] H0 hh) (fun u _ => V.leP (.bool (.s (wMay k v s g e t q))) u) := by

  rcases Bool.eq_false_or_eq_true (k == (0 : Int)) with h0 | h0
  ·
    rcases Bool.eq_false_or_eq_true (k == (0 : Int) && (v == v && (s == (0 : Int) && (g == (0 : Int) && (e == (0 : Int) && (t == (0 : Int) && q == (0 : Int))))))) with h1 | h1
    ·
      rcases Bool.eq_false_or_eq_true (Decidable.decide (v ≥ (0 : Int))) with h2 | h2
      ·
        have k3 : Go.Ideal.W1.wMay k v s g e t q = Decidable.decide (v ≤ (1099511627775 : Int)) := by (simp at *; rw [Bool.eq_iff_iff]; simp [wMay, *]; done)
        refine vcIntro [true, true, true] (And.intro (And.intro h2 (And.intro h1 (And.intro h0 True.intro))) k3) ?_
        kernel_rfl
      ·
        have k4 : Go.Ideal.W1.wMay k v s g e t q = Bool.false := by (simp [wMay] at *; (repeat' split) <;> (try simp at *) <;> omega)
        refine vcIntro [true, true, false] (And.intro (And.intro h2 (And.intro h1 (And.intro h0 True.intro))) k4) ?_
        kernel_rfl
    ·
      have k5 : Go.Ideal.W1.wMay k v s g e t q = Bool.false := by (simp [wMay] at *; (repeat' split) <;> (try simp at *) <;> omega)
      refine vcIntro [true, false] (And.intro (And.intro h1 (And.intro h0 True.intro)) k5) ?_
      kernel_rfl
  ·
    rcases Bool.eq_false_or_eq_true (k == (1 : Int)) with h6 | h6
    ·
      rcases Bool.eq_false_or_eq_true (v == (0 : Int)) with h7 | h7
      ·
        rcases Bool.eq_false_or_eq_true (Decidable.decide (s ≥ (0 : Int))) with h8 | h8
        ·
          rcases Bool.eq_false_or_eq_true (Decidable.decide (s < (12 : Int))) with h9 | h9
          ·
            rcases Bool.eq_false_or_eq_true (Decidable.decide (g ≥ (0 : Int))) with h10 | h10
            ·
              rcases Bool.eq_false_or_eq_true (Decidable.decide (g ≤ (65535 : Int))) with h11 | h11
              ·
                rcases Bool.eq_false_or_eq_true (Decidable.decide (e ≥ (0 : Int))) with h12 | h12
                ·
                  rcases Bool.eq_false_or_eq_true (Decidable.decide (e < (16 : Int))) with h13 | h13
                  ·
                    rcases Bool.eq_false_or_eq_true (Decidable.decide (t ≥ (0 : Int))) with h14 | h14
                    ·
                      rcases Bool.eq_false_or_eq_true (Decidable.decide (t < (4 : Int))) with h15 | h15
                      ·
                        rcases Bool.eq_false_or_eq_true (Decidable.decide (q ≥ (0 : Int))) with h16 | h16
                        ·
                          have k17 : Go.Ideal.W1.wMay k v s g e t q = Decidable.decide (q ≤ (1048575 : Int)) := by (simp at *; rw [Bool.eq_iff_iff]; simp [wMay, *]; done)
                          refine vcIntro [false, true, true, true, true, true, true, true, true, true, true, true] (And.intro (And.intro h16 (And.intro h15 (And.intro h14 (And.intro h13 (And.intro h12 (And.intro h11 (And.intro h10 (And.intro h9 (And.intro h8 (And.intro h7 (And.intro h6 (And.intro h0 True.intro)))))))))))) k17) ?_
                          kernel_rfl
                        ·
                          have k18 : Go.Ideal.W1.wMay k v s g e t q = Bool.false := by (simp [wMay] at *; (repeat' split) <;> (try simp at *) <;> omega)
                          refine vcIntro [false, true, true, true, true, true, true, true, true, true, true, false] (And.intro (And.intro h16 (And.intro h15 (And.intro h14 (And.intro h13 (And.intro h12 (And.intro h11 (And.intro h10 (And.intro h9 (And.intro h8 (And.intro h7 (And.intro h6 (And.intro h0 True.intro)))))))))))) k18) ?_
                          kernel_rfl
                      ·
                        have k19 : Go.Ideal.W1.wMay k v s g e t q = Bool.false := by (simp [wMay] at *; (repeat' split) <;> (try simp at *) <;> omega)
                        refine vcIntro [false, true, true, true, true, true, true, true, true, true, false] (And.intro (And.intro h15 (And.intro h14 (And.intro h13 (And.intro h12 (And.intro h11 (And.intro h10 (And.intro h9 (And.intro h8 (And.intro h7 (And.intro h6 (And.intro h0 True.intro))))))))))) k19) ?_
                        kernel_rfl
                    ·
                      have k20 : Go.Ideal.W1.wMay k v s g e t q = Bool.false := by (simp [wMay] at *; (repeat' split) <;> (try simp at *) <;> omega)
                      refine vcIntro [false, true, true, true, true, true, true, true, true, false] (And.intro (And.intro h14 (And.intro h13 (And.intro h12 (And.intro h11 (And.intro h10 (And.intro h9 (And.intro h8 (And.intro h7 (And.intro h6 (And.intro h0 True.intro)))))))))) k20) ?_
                      kernel_rfl
                  ·
                    have k21 : Go.Ideal.W1.wMay k v s g e t q = Bool.false := by (simp [wMay] at *; (repeat' split) <;> (try simp at *) <;> omega)
                    refine vcIntro [false, true, true, true, true, true, true, true, false] (And.intro (And.intro h13 (And.intro h12 (And.intro h11 (And.intro h10 (And.intro h9 (And.intro h8 (And.intro h7 (And.intro h6 (And.intro h0 True.intro))))))))) k21) ?_
                    kernel_rfl
                ·
                  have k22 : Go.Ideal.W1.wMay k v s g e t q = Bool.false := by (simp [wMay] at *; (repeat' split) <;> (try simp at *) <;> omega)
                  refine vcIntro [false, true, true, true, true, true, true, false] (And.intro (And.intro h12 (And.intro h11 (And.intro h10 (And.intro h9 (And.intro h8 (And.intro h7 (And.intro h6 (And.intro h0 True.intro)))))))) k22) ?_
                  kernel_rfl
              ·
                have k23 : Go.Ideal.W1.wMay k v s g e t q = Bool.false := by (simp [wMay] at *; (repeat' split) <;> (try simp at *) <;> omega)
                refine vcIntro [false, true, true, true, true, true, false] (And.intro (And.intro h11 (And.intro h10 (And.intro h9 (And.intro h8 (And.intro h7 (And.intro h6 (And.intro h0 True.intro))))))) k23) ?_
                kernel_rfl
            ·
              have k24 : Go.Ideal.W1.wMay k v s g e t q = Bool.false := by (simp [wMay] at *; (repeat' split) <;> (try simp at *) <;> omega)
              refine vcIntro [false, true, true, true, true, false] (And.intro (And.intro h10 (And.intro h9 (And.intro h8 (And.intro h7 (And.intro h6 (And.intro h0 True.intro)))))) k24) ?_
              kernel_rfl
          ·
            have k25 : Go.Ideal.W1.wMay k v s g e t q = Bool.false := by (simp [wMay] at *; (repeat' split) <;> (try simp at *) <;> omega)
            refine vcIntro [false, true, true, true, false] (And.intro (And.intro h9 (And.intro h8 (And.intro h7 (And.intro h6 (And.intro h0 True.intro))))) k25) ?_
            kernel_rfl
        ·
          have k26 : Go.Ideal.W1.wMay k v s g e t q = Bool.false := by (simp [wMay] at *; (repeat' split) <;> (try simp at *) <;> omega)
          refine vcIntro [false, true, true, false] (And.intro (And.intro h8 (And.intro h7 (And.intro h6 (And.intro h0 True.intro)))) k26) ?_
          kernel_rfl
      ·
        have k27 : Go.Ideal.W1.wMay k v s g e t q = Bool.false := by (simp [wMay] at *; (repeat' split) <;> (try simp at *) <;> omega)
        refine vcIntro [false, true, false] (And.intro (And.intro h7 (And.intro h6 (And.intro h0 True.intro))) k27) ?_
        kernel_rfl
    ·
      rcases Bool.eq_false_or_eq_true (k == (2 : Int)) with h28 | h28
      ·
        rcases Bool.eq_false_or_eq_true (k == (2 : Int) && (v == (0 : Int) && (s == s && (g == g && (e == (0 : Int) && (t == (0 : Int) && q == (0 : Int))))))) with h29 | h29
        ·
          rcases Bool.eq_false_or_eq_true (Decidable.decide (s ≥ (0 : Int))) with h30 | h30
          ·
            rcases Bool.eq_false_or_eq_true (Decidable.decide (s < (12 : Int))) with h31 | h31
            ·
              rcases Bool.eq_false_or_eq_true (Decidable.decide (g ≥ (0 : Int))) with h32 | h32
              ·
                have k33 : Go.Ideal.W1.wMay k v s g e t q = Decidable.decide (g ≤ (65535 : Int)) := by (simp at *; rw [Bool.eq_iff_iff]; simp [wMay, *]; done)
                refine vcIntro [false, false, true, true, true, true, true] (And.intro (And.intro h32 (And.intro h31 (And.intro h30 (And.intro h29 (And.intro h28 (And.intro h6 (And.intro h0 True.intro))))))) k33) ?_
                kernel_rfl
              ·
                have k34 : Go.Ideal.W1.wMay k v s g e t q = Bool.false := by (simp [wMay] at *; (repeat' split) <;> (try simp at *) <;> omega)
                refine vcIntro [false, false, true, true, true, true, false] (And.intro (And.intro h32 (And.intro h31 (And.intro h30 (And.intro h29 (And.intro h28 (And.intro h6 (And.intro h0 True.intro))))))) k34) ?_
                kernel_rfl
            ·
              have k35 : Go.Ideal.W1.wMay k v s g e t q = Bool.false := by (simp [wMay] at *; (repeat' split) <;> (try simp at *) <;> omega)
              refine vcIntro [false, false, true, true, true, false] (And.intro (And.intro h31 (And.intro h30 (And.intro h29 (And.intro h28 (And.intro h6 (And.intro h0 True.intro)))))) k35) ?_
              kernel_rfl
          ·
            have k36 : Go.Ideal.W1.wMay k v s g e t q = Bool.false := by (simp [wMay] at *; (repeat' split) <;> (try simp at *) <;> omega)
            refine vcIntro [false, false, true, true, false] (And.intro (And.intro h30 (And.intro h29 (And.intro h28 (And.intro h6 (And.intro h0 True.intro))))) k36) ?_
            kernel_rfl
        ·
          have k37 : Go.Ideal.W1.wMay k v s g e t q = Bool.false := by (simp [wMay] at *; (repeat' split) <;> (try simp at *) <;> omega)
          refine vcIntro [false, false, true, false] (And.intro (And.intro h29 (And.intro h28 (And.intro h6 (And.intro h0 True.intro)))) k37) ?_
          kernel_rfl
      ·
        have k38 : Go.Ideal.W1.wMay k v s g e t q = Bool.false := by (simp [wMay] at *; (repeat' split) <;> (try simp at *) <;> omega)
        refine vcIntro [false, false, false] (And.intro (And.intro h28 (And.intro h6 (And.intro h0 True.intro))) k38) ?_
        kernel_rfl
end Go.Ideal.W1
