/- Chapter 2: Arenas. Own text. -/
import Derived.Test.YtchgfecghackdaaA2d
namespace Go.Ideal.A2
open Go.Proofs Go.Ideal Go.Ideal.L1
set_option linter.unusedSimpArgs false
set_option linter.unusedVariables false
set_option maxRecDepth 100000
set_option maxHeartbeats 8000000

def arT (n i : Nat) : List (Nat × V) := [(0, .slice 0 (.c 0) (.s n) 4 (.s n)), (3, .ptr 1 (.c 0)), (4, .ptr 2 (.c 0)), (5, .int .i64 (.s i))]
def lastL (t : Nat → Int) (b : Bool) : List V := [.int .i64 (.s (t 0)), .int .i64 (.s (t 1)), .int .i64 (.s (t 2)), .int .i64 (.s (t 3)), .int .i64 (.s (t 4)), .int .i64 (.s (t 5)), .int .i64 (.s (t 6)), .int .i64 (.s (t 7)), .bool (.s b)]
def arBs (f : Nat → Int) (n : Nat) (g t : Nat → Int) (b : Bool) : List (Option Blk) := [some (.ext f (.s (n * 4))), some (.own false 67 g 634 (lastL t b)), some (.own false 60 g 634 (lastL t b))]
def arIn (f : Nat → Int) (i : Nat) : Prop := 0 ≤ f (i * 4 + 1) ∧ f (i * 4 + 1) < 634
instance (f : Nat → Int) (i : Nat) : Decidable (arIn f i) := by unfold arIn; infer_instance
def arNow (f : Nat → Int) (i : Nat) (g : Nat → Int) : Int := if f (i * 4) = 0 then g (f (i * 4 + 1)).toNat else if f (i * 4) = 1 then f (i * 4 + 3) else if g (f (i * 4 + 1)).toNat = f (i * 4 + 2) then f (i * 4 + 3) else g (f (i * 4 + 1)).toNat
def arKind (f : Nat → Int) (i : Nat) : Int := if f (i * 4) = 0 then 0 else if f (i * 4) = 1 then 1 else 2
def arF (f : Nat → Int) (i : Nat) (g : Nat → Int) (k : Nat) : Int := if arIn f i then (if k = (f (i * 4 + 1)).toNat then arNow f i g else g k) else g k
def arL (f : Nat → Int) (i : Nat) (g t : Nat → Int) (k : Nat) : Int := if arIn f i then (if k = 1 then arKind f i else if k = 2 then f (i * 4 + 1) else if k = 3 then g (f (i * 4 + 1)).toNat else if k = 4 then arNow f i g else 0) else t k
def arB' (f : Nat → Int) (i : Nat) (b : Bool) : Bool := if arIn f i then true else b

theorem arenas_go (f : Nat → Int) (n : Nat) : ∃ hh, vcOf (runGo Try.prog specs2 noL 3000 9 [] [1,1,1,1,0,1,0] (Tr.ofList [.slice 0 (.c 0) (.s n) 4 (.s n)]) (Hx [.ext f (.s (n * 4))]) hh)
    (reached fun T1 H1 => weakP T1 H1 (arT n 0) (arBs f n arena0 (fun _ => 0) false) 3) := by

  have k0 : n ≤ n := by (simp; done)
  have k1 : n * (4 : Nat) ≤ n * (4 : Nat) := by clear k0; (simp; done)
  have k2 : ∀ (k : Nat), k < n * (4 : Nat) → f k = f k := fun _ _ => rfl
  have k3 : ∀ (k : Nat), k < (634 : Nat) → Go.Ideal.A2.arena0 k = Go.Ideal.A2.arena0 k := fun _ _ => rfl
  refine vcIntro [] (And.intro True.intro (And.intro (And.intro (And.intro True.intro (And.intro (@Eq.refl (Nat) (n)) k0)) (And.intro True.intro (And.intro True.intro (And.intro (@Eq.refl (Int) ((0 : Int))) True.intro)))) (And.intro (And.intro k1 k2) (And.intro (And.intro (@Eq.refl (Nat) ((634 : Nat))) (And.intro k3 (And.intro (@Eq.refl (Int) ((0 : Int))) (And.intro (@Eq.refl (Int) ((0 : Int))) (And.intro (@Eq.refl (Int) ((0 : Int))) (And.intro (@Eq.refl (Int) ((0 : Int))) (And.intro (@Eq.refl (Int) ((0 : Int))) (And.intro (@Eq.refl (Int) ((0 : Int))) (And.intro (@Eq.refl (Int) ((0 : Int))) (And.intro (@Eq.refl (Int) ((0 : Int))) (@Eq.refl (Bool) (Bool.false)))))))))))) (And.intro (And.intro (@Eq.refl (Nat) ((634 : Nat))) (And.intro k3 (And.intro (@Eq.refl (Int) ((0 : Int))) (And.intro (@Eq.refl (Int) ((0 : Int))) (And.intro (@Eq.refl (Int) ((0 : Int))) (And.intro (@Eq.refl (Int) ((0 : Int))) (And.intro (@Eq.refl (Int) ((0 : Int))) (And.intro (@Eq.refl (Int) ((0 : Int))) (And.intro (@Eq.refl (Int) ((0 : Int))) (And.intro (@Eq.refl (Int) ((0 : Int))) (@Eq.refl (Bool) (Bool.false)))))))))))) True.intro))))) ?_
  kernel_rfl
theorem arenas_body (f : Nat → Int) (n i : Nat) (g t : Nat → Int) (b : Bool) (hn : n ≤ 9223372036854775807) (hi : i ≤ n) :
    ∃ hh, vcOf (runAt Try.prog specs2 noL 3000 9 [1,1,1,1,0,1,0,0] (Tr.ofPairs (arT n i)) (Hm (arBs f n g t b) 3) hh)
    (roundK 3 [0, 1, 2] (arT n (i + 1)) (arBs f n (arF f i g) (arL f i g t) (arB' f i b)) (i < n) 0 (arT n i) (arBs f n g t b) True) := by

  rcases Bool.eq_false_or_eq_true (Decidable.decide ((↑i : Int) < (↑n : Int))) with h0 | h0
  ·
    rcases Bool.eq_false_or_eq_true (Decidable.decide ((↑i : Int) < (80 : Int))) with h1 | h1
    ·
      rcases Bool.eq_false_or_eq_true (f (i * (4 : Nat)) == (0 : Int)) with h2 | h2
      ·
        rcases Bool.eq_false_or_eq_true (!(Decidable.decide ((0 : Int) ≤ f (i * (4 : Nat) + (1 : Nat))) && Decidable.decide (f (i * (4 : Nat) + (1 : Nat)) < (634 : Int)))) with h3 | h3
        ·
          rcases Bool.eq_false_or_eq_true (Decidable.decide (f (i * (4 : Nat) + (1 : Nat)) < (0 : Int))) with h4 | h4
          ·
            rcases Bool.eq_false_or_eq_true (!(t (0 : Nat) == t (0 : Nat) && (t (1 : Nat) == t (1 : Nat) && (t (2 : Nat) == t (2 : Nat) && (t (3 : Nat) == t (3 : Nat) && (t (4 : Nat) == t (4 : Nat) && (t (5 : Nat) == t (5 : Nat) && (t (6 : Nat) == t (6 : Nat) && t (7 : Nat) == t (7 : Nat))))))))) with h5 | h5
            · exact False.elim (by (simp_all; done))
            ·
              rcases Bool.eq_false_or_eq_true (!b == b) with h6 | h6
              · exact False.elim (by (simp_all; done))
              ·
                have k7 : (0 : Int) ≤ (↑i : Int) := by omega
                have k8 : (↑i : Int) + (1 : Int) ≤ (↑n : Int) := by clear k7; (simp at *; omega)
                have k9 : (i * (4 : Nat) + (1 : Nat) + (1 : Nat) + (1 : Nat)).succ ≤ n * (4 : Nat) := by clear k8 k7; (simp at *; omega)
                have k10 : (i * (4 : Nat) + (1 : Nat) + (1 : Nat)).succ ≤ n * (4 : Nat) := by clear k9 k8 k7; (simp at *; omega)
                have k11 : (i * (4 : Nat) + (1 : Nat)).succ ≤ n * (4 : Nat) := by clear k10 k9 k8 k7; (simp at *; omega)
                have k12 : (i * (4 : Nat)).succ ≤ n * (4 : Nat) := by clear k11 k10 k9 k8 k7; (simp at *; omega)
                have k13 : n ≤ n := by clear k12 k11 k10 k9 k8 k7; omega
                have k14 : (↑(i + (1 : Nat)) : Int) = Go.IntKind.i64.wrap ((↑i : Int) + (1 : Int)) := by clear k13 k12 k11 k10 k9 k8 k7; (rw [wrapk _ (by simp at *; omega)]; simp; done)
                have k15 : n * (4 : Nat) ≤ n * (4 : Nat) := by clear k14 k13 k12 k11 k10 k9 k8 k7; omega
                have k16 : ∀ (k : Nat), k < n * (4 : Nat) → f k = f k := fun _ _ => rfl
                have k17 : ∀ (k : Nat), k < (634 : Nat) → Go.Ideal.A2.arF f i g k = g k := by clear k16 k15 k14 k13 k12 k11 k10 k9 k8 k7; ((have hin : ¬ arIn f i := by (simp [arIn] at *; omega)); (intro k hk; simp [arF, hin]))
                have k18 : Go.Ideal.A2.arL f i g t (0 : Nat) = t (0 : Nat) := by clear k17 k16 k15 k14 k13 k12 k11 k10 k9 k8 k7; ((have hin : ¬ arIn f i := by (simp [arIn] at *; omega)); simp [arB', arL, hin])
                have k19 : Go.Ideal.A2.arL f i g t (1 : Nat) = t (1 : Nat) := by clear k18 k17 k16 k15 k14 k13 k12 k11 k10 k9 k8 k7; ((have hin : ¬ arIn f i := by (simp [arIn] at *; omega)); simp [arB', arL, hin])
                have k20 : Go.Ideal.A2.arL f i g t (2 : Nat) = t (2 : Nat) := by clear k19 k18 k17 k16 k15 k14 k13 k12 k11 k10 k9 k8 k7; ((have hin : ¬ arIn f i := by (simp [arIn] at *; omega)); simp [arB', arL, hin])
                have k21 : Go.Ideal.A2.arL f i g t (3 : Nat) = t (3 : Nat) := by clear k20 k19 k18 k17 k16 k15 k14 k13 k12 k11 k10 k9 k8 k7; ((have hin : ¬ arIn f i := by (simp [arIn] at *; omega)); simp [arB', arL, hin])
                have k22 : Go.Ideal.A2.arL f i g t (4 : Nat) = t (4 : Nat) := by clear k21 k20 k19 k18 k17 k16 k15 k14 k13 k12 k11 k10 k9 k8 k7; ((have hin : ¬ arIn f i := by (simp [arIn] at *; omega)); simp [arB', arL, hin])
                have k23 : Go.Ideal.A2.arL f i g t (5 : Nat) = t (5 : Nat) := by clear k22 k21 k20 k19 k18 k17 k16 k15 k14 k13 k12 k11 k10 k9 k8 k7; ((have hin : ¬ arIn f i := by (simp [arIn] at *; omega)); simp [arB', arL, hin])
                have k24 : Go.Ideal.A2.arL f i g t (6 : Nat) = t (6 : Nat) := by clear k23 k22 k21 k20 k19 k18 k17 k16 k15 k14 k13 k12 k11 k10 k9 k8 k7; ((have hin : ¬ arIn f i := by (simp [arIn] at *; omega)); simp [arB', arL, hin])
                have k25 : Go.Ideal.A2.arL f i g t (7 : Nat) = t (7 : Nat) := by clear k24 k23 k22 k21 k20 k19 k18 k17 k16 k15 k14 k13 k12 k11 k10 k9 k8 k7; ((have hin : ¬ arIn f i := by (simp [arIn] at *; omega)); simp [arB', arL, hin])
                have k26 : Go.Ideal.A2.arB' f i b = b := by clear k25 k24 k23 k22 k21 k20 k19 k18 k17 k16 k15 k14 k13 k12 k11 k10 k9 k8 k7; ((have hin : ¬ arIn f i := by (simp [arIn] at *; omega)); simp [arB', arL, hin])
                have k27 : i.succ ≤ n := by clear k26 k25 k24 k23 k22 k21 k20 k19 k18 k17 k16 k15 k14 k13 k12 k11 k10 k9 k8 k7; (simp at *; omega)
                refine vcIntro [true, true, true, true, true, false, false] (And.intro (And.intro h6 (And.intro h5 (And.intro h4 (And.intro h3 (And.intro h2 (And.intro k12 (And.intro k11 (And.intro k10 (And.intro k9 (And.intro (And.intro k7 k8) (And.intro h1 (And.intro h0 True.intro)))))))))))) (And.intro (And.intro (And.intro (And.intro True.intro (And.intro (@Eq.refl (Nat) (n)) k13)) (And.intro True.intro (And.intro True.intro (And.intro k14 True.intro)))) (And.intro (And.intro k15 k16) (And.intro (And.intro (@Eq.refl (Nat) ((634 : Nat))) (And.intro k17 (And.intro k18 (And.intro k19 (And.intro k20 (And.intro k21 (And.intro k22 (And.intro k23 (And.intro k24 (And.intro k25 k26)))))))))) (And.intro (And.intro (@Eq.refl (Nat) ((634 : Nat))) (And.intro k17 (And.intro k18 (And.intro k19 (And.intro k20 (And.intro k21 (And.intro k22 (And.intro k23 (And.intro k24 (And.intro k25 k26)))))))))) True.intro)))) k27)) ?_
                kernel_rfl
          ·
            rcases Bool.eq_false_or_eq_true (Decidable.decide (f (i * (4 : Nat) + (1 : Nat)) ≥ (634 : Int))) with h28 | h28
            ·
              rcases Bool.eq_false_or_eq_true (!(t (0 : Nat) == t (0 : Nat) && (t (1 : Nat) == t (1 : Nat) && (t (2 : Nat) == t (2 : Nat) && (t (3 : Nat) == t (3 : Nat) && (t (4 : Nat) == t (4 : Nat) && (t (5 : Nat) == t (5 : Nat) && (t (6 : Nat) == t (6 : Nat) && t (7 : Nat) == t (7 : Nat))))))))) with h29 | h29
              · exact False.elim (by (simp_all; done))
              ·
                rcases Bool.eq_false_or_eq_true (!b == b) with h30 | h30
                · exact False.elim (by (simp_all; done))
                ·
                  have k31 : (0 : Int) ≤ (↑i : Int) := by omega
                  have k32 : (↑i : Int) + (1 : Int) ≤ (↑n : Int) := by clear k31; (simp at *; omega)
                  have k33 : (i * (4 : Nat) + (1 : Nat) + (1 : Nat) + (1 : Nat)).succ ≤ n * (4 : Nat) := by clear k32 k31; (simp at *; omega)
                  have k34 : (i * (4 : Nat) + (1 : Nat) + (1 : Nat)).succ ≤ n * (4 : Nat) := by clear k33 k32 k31; (simp at *; omega)
                  have k35 : (i * (4 : Nat) + (1 : Nat)).succ ≤ n * (4 : Nat) := by clear k34 k33 k32 k31; (simp at *; omega)
                  have k36 : (i * (4 : Nat)).succ ≤ n * (4 : Nat) := by clear k35 k34 k33 k32 k31; (simp at *; omega)
                  have k37 : n ≤ n := by clear k36 k35 k34 k33 k32 k31; omega
                  have k38 : (↑(i + (1 : Nat)) : Int) = Go.IntKind.i64.wrap ((↑i : Int) + (1 : Int)) := by clear k37 k36 k35 k34 k33 k32 k31; (rw [wrapk _ (by simp at *; omega)]; simp; done)
                  have k39 : n * (4 : Nat) ≤ n * (4 : Nat) := by clear k38 k37 k36 k35 k34 k33 k32 k31; omega
                  have k40 : ∀ (k : Nat), k < n * (4 : Nat) → f k = f k := fun _ _ => rfl
                  have k41 : ∀ (k : Nat), k < (634 : Nat) → Go.Ideal.A2.arF f i g k = g k := by clear k40 k39 k38 k37 k36 k35 k34 k33 k32 k31; ((have hin : ¬ arIn f i := by (simp [arIn] at *; omega)); (intro k hk; simp [arF, hin]))
                  have k42 : Go.Ideal.A2.arL f i g t (0 : Nat) = t (0 : Nat) := by clear k41 k40 k39 k38 k37 k36 k35 k34 k33 k32 k31; ((have hin : ¬ arIn f i := by (simp [arIn] at *; omega)); simp [arB', arL, hin])
                  have k43 : Go.Ideal.A2.arL f i g t (1 : Nat) = t (1 : Nat) := by clear k42 k41 k40 k39 k38 k37 k36 k35 k34 k33 k32 k31; ((have hin : ¬ arIn f i := by (simp [arIn] at *; omega)); simp [arB', arL, hin])
                  have k44 : Go.Ideal.A2.arL f i g t (2 : Nat) = t (2 : Nat) := by clear k43 k42 k41 k40 k39 k38 k37 k36 k35 k34 k33 k32 k31; ((have hin : ¬ arIn f i := by (simp [arIn] at *; omega)); simp [arB', arL, hin])
                  have k45 : Go.Ideal.A2.arL f i g t (3 : Nat) = t (3 : Nat) := by clear k44 k43 k42 k41 k40 k39 k38 k37 k36 k35 k34 k33 k32 k31; ((have hin : ¬ arIn f i := by (simp [arIn] at *; omega)); simp [arB', arL, hin])
                  have k46 : Go.Ideal.A2.arL f i g t (4 : Nat) = t (4 : Nat) := by clear k45 k44 k43 k42 k41 k40 k39 k38 k37 k36 k35 k34 k33 k32 k31; ((have hin : ¬ arIn f i := by (simp [arIn] at *; omega)); simp [arB', arL, hin])
                  have k47 : Go.Ideal.A2.arL f i g t (5 : Nat) = t (5 : Nat) := by clear k46 k45 k44 k43 k42 k41 k40 k39 k38 k37 k36 k35 k34 k33 k32 k31; ((have hin : ¬ arIn f i := by (simp [arIn] at *; omega)); simp [arB', arL, hin])
                  have k48 : Go.Ideal.A2.arL f i g t (6 : Nat) = t (6 : Nat) := by clear k47 k46 k45 k44 k43 k42 k41 k40 k39 k38 k37 k36 k35 k34 k33 k32 k31; ((have hin : ¬ arIn f i := by (simp [arIn] at *; omega)); simp [arB', arL, hin])
                  have k49 : Go.Ideal.A2.arL f i g t (7 : Nat) = t (7 : Nat) := by clear k48 k47 k46 k45 k44 k43 k42 k41 k40 k39 k38 k37 k36 k35 k34 k33 k32 k31; ((have hin : ¬ arIn f i := by (simp [arIn] at *; omega)); simp [arB', arL, hin])
                  have k50 : Go.Ideal.A2.arB' f i b = b := by clear k49 k48 k47 k46 k45 k44 k43 k42 k41 k40 k39 k38 k37 k36 k35 k34 k33 k32 k31; ((have hin : ¬ arIn f i := by (simp [arIn] at *; omega)); simp [arB', arL, hin])
                  have k51 : i.succ ≤ n := by clear k50 k49 k48 k47 k46 k45 k44 k43 k42 k41 k40 k39 k38 k37 k36 k35 k34 k33 k32 k31; (simp at *; omega)
                  refine vcIntro [true, true, true, true, false, true, false, false] (And.intro (And.intro h30 (And.intro h29 (And.intro h28 (And.intro h4 (And.intro h3 (And.intro h2 (And.intro k36 (And.intro k35 (And.intro k34 (And.intro k33 (And.intro (And.intro k31 k32) (And.intro h1 (And.intro h0 True.intro))))))))))))) (And.intro (And.intro (And.intro (And.intro True.intro (And.intro (@Eq.refl (Nat) (n)) k37)) (And.intro True.intro (And.intro True.intro (And.intro k38 True.intro)))) (And.intro (And.intro k39 k40) (And.intro (And.intro (@Eq.refl (Nat) ((634 : Nat))) (And.intro k41 (And.intro k42 (And.intro k43 (And.intro k44 (And.intro k45 (And.intro k46 (And.intro k47 (And.intro k48 (And.intro k49 k50)))))))))) (And.intro (And.intro (@Eq.refl (Nat) ((634 : Nat))) (And.intro k41 (And.intro k42 (And.intro k43 (And.intro k44 (And.intro k45 (And.intro k46 (And.intro k47 (And.intro k48 (And.intro k49 k50)))))))))) True.intro)))) k51)) ?_
                  kernel_rfl
            · exact False.elim (by (simp at *; omega))
        ·
          rcases Bool.eq_false_or_eq_true (Decidable.decide (f (i * (4 : Nat) + (1 : Nat)) < (0 : Int))) with h52 | h52
          · exact False.elim (by (simp at *; omega))
          ·
            rcases Bool.eq_false_or_eq_true (Decidable.decide (f (i * (4 : Nat) + (1 : Nat)) ≥ (634 : Int))) with h53 | h53
            · exact False.elim (by (simp at *; omega))
            ·
              rcases Bool.eq_false_or_eq_true (g (f (i * (4 : Nat) + (1 : Nat))).toNat != g (f (i * (4 : Nat) + (1 : Nat))).toNat) with h54 | h54
              · exact False.elim (by (simp_all; done))
              ·
                rcases Bool.eq_false_or_eq_true (!(f (i * (4 : Nat) + (1 : Nat)) == f (i * (4 : Nat) + (1 : Nat)) && (g (f (i * (4 : Nat) + (1 : Nat))).toNat == g (f (i * (4 : Nat) + (1 : Nat))).toNat && (if (f (i * (4 : Nat) + (1 : Nat))).toNat = (f (i * (4 : Nat) + (1 : Nat))).toNat then g (f (i * (4 : Nat) + (1 : Nat))).toNat else g (f (i * (4 : Nat) + (1 : Nat))).toNat) == g (f (i * (4 : Nat) + (1 : Nat))).toNat))) with h55 | h55
                · exact False.elim (by (simp_all; done))
                ·
                  have k56 : (0 : Int) ≤ (↑i : Int) := by omega
                  have k57 : (↑i : Int) + (1 : Int) ≤ (↑n : Int) := by clear k56; (simp at *; omega)
                  have k58 : (i * (4 : Nat) + (1 : Nat) + (1 : Nat) + (1 : Nat)).succ ≤ n * (4 : Nat) := by clear k57 k56; (simp at *; omega)
                  have k59 : (i * (4 : Nat) + (1 : Nat) + (1 : Nat)).succ ≤ n * (4 : Nat) := by clear k58 k57 k56; (simp at *; omega)
                  have k60 : (i * (4 : Nat) + (1 : Nat)).succ ≤ n * (4 : Nat) := by clear k59 k58 k57 k56; (simp at *; omega)
                  have k61 : (i * (4 : Nat)).succ ≤ n * (4 : Nat) := by clear k60 k59 k58 k57 k56; (simp at *; omega)
                  have k62 : (0 : Int) ≤ f (i * (4 : Nat) + (1 : Nat)) := by clear k61 k60 k59 k58 k57 k56; (simp at *; omega)
                  have k63 : f (i * (4 : Nat) + (1 : Nat)) + (1 : Int) ≤ (634 : Int) := by clear k62 k61 k60 k59 k58 k57 k56; (simp at *; omega)
                  have k64 : (f (i * (4 : Nat) + (1 : Nat))).toNat.succ ≤ (634 : Nat) := by clear k63 k62 k61 k60 k59 k58 k57 k56; (simp at *; omega)
                  have k65 : n ≤ n := by clear k64 k63 k62 k61 k60 k59 k58 k57 k56; omega
                  have k66 : (↑(i + (1 : Nat)) : Int) = Go.IntKind.i64.wrap ((↑i : Int) + (1 : Int)) := by clear k65 k64 k63 k62 k61 k60 k59 k58 k57 k56; (rw [wrapk _ (by simp at *; omega)]; simp; done)
                  have k67 : n * (4 : Nat) ≤ n * (4 : Nat) := by clear k66 k65 k64 k63 k62 k61 k60 k59 k58 k57 k56; omega
                  have k68 : ∀ (k : Nat), k < n * (4 : Nat) → f k = f k := fun _ _ => rfl
                  have k69 : ∀ (k : Nat), k < (634 : Nat) → Go.Ideal.A2.arF f i g k = if k = (f (i * (4 : Nat) + (1 : Nat))).toNat then g (f (i * (4 : Nat) + (1 : Nat))).toNat else g k := by clear k68 k67 k66 k65 k64 k63 k62 k61 k60 k59 k58 k57 k56; ((have hin : arIn f i := by (simp [arIn] at *; omega)); simp at h2; (intro k hk; simp [arF, hin, arNow, arKind, *]))
                  have k70 : Go.Ideal.A2.arL f i g t (0 : Nat) = (0 : Int) := by clear k69 k68 k67 k66 k65 k64 k63 k62 k61 k60 k59 k58 k57 k56; ((have hin : arIn f i := by (simp [arIn] at *; omega)); simp at h2; simp [arB', arL, hin, arNow, arKind, *])
                  have k71 : Go.Ideal.A2.arL f i g t (1 : Nat) = (0 : Int) := by clear k70 k69 k68 k67 k66 k65 k64 k63 k62 k61 k60 k59 k58 k57 k56; ((have hin : arIn f i := by (simp [arIn] at *; omega)); simp at h2; simp [arB', arL, hin, arNow, arKind, *])
                  have k72 : Go.Ideal.A2.arL f i g t (2 : Nat) = f (i * (4 : Nat) + (1 : Nat)) := by clear k71 k70 k69 k68 k67 k66 k65 k64 k63 k62 k61 k60 k59 k58 k57 k56; ((have hin : arIn f i := by (simp [arIn] at *; omega)); simp at h2; simp [arB', arL, hin, arNow, arKind, *])
                  have k73 : Go.Ideal.A2.arL f i g t (3 : Nat) = g (f (i * (4 : Nat) + (1 : Nat))).toNat := by clear k72 k71 k70 k69 k68 k67 k66 k65 k64 k63 k62 k61 k60 k59 k58 k57 k56; ((have hin : arIn f i := by (simp [arIn] at *; omega)); simp at h2; simp [arB', arL, hin, arNow, arKind, *])
                  have k74 : Go.Ideal.A2.arL f i g t (4 : Nat) = if (f (i * (4 : Nat) + (1 : Nat))).toNat = (f (i * (4 : Nat) + (1 : Nat))).toNat then g (f (i * (4 : Nat) + (1 : Nat))).toNat else g (f (i * (4 : Nat) + (1 : Nat))).toNat := by clear k73 k72 k71 k70 k69 k68 k67 k66 k65 k64 k63 k62 k61 k60 k59 k58 k57 k56; ((have hin : arIn f i := by (simp [arIn] at *; omega)); simp at h2; simp [arB', arL, hin, arNow, arKind, *])
                  have k75 : Go.Ideal.A2.arL f i g t (5 : Nat) = (0 : Int) := by clear k74 k73 k72 k71 k70 k69 k68 k67 k66 k65 k64 k63 k62 k61 k60 k59 k58 k57 k56; ((have hin : arIn f i := by (simp [arIn] at *; omega)); simp at h2; simp [arB', arL, hin, arNow, arKind, *])
                  have k76 : Go.Ideal.A2.arL f i g t (6 : Nat) = (0 : Int) := by clear k75 k74 k73 k72 k71 k70 k69 k68 k67 k66 k65 k64 k63 k62 k61 k60 k59 k58 k57 k56; ((have hin : arIn f i := by (simp [arIn] at *; omega)); simp at h2; simp [arB', arL, hin, arNow, arKind, *])
                  have k77 : Go.Ideal.A2.arL f i g t (7 : Nat) = (0 : Int) := by clear k76 k75 k74 k73 k72 k71 k70 k69 k68 k67 k66 k65 k64 k63 k62 k61 k60 k59 k58 k57 k56; ((have hin : arIn f i := by (simp [arIn] at *; omega)); simp at h2; simp [arB', arL, hin, arNow, arKind, *])
                  have k78 : Go.Ideal.A2.arB' f i b = Bool.true := by clear k77 k76 k75 k74 k73 k72 k71 k70 k69 k68 k67 k66 k65 k64 k63 k62 k61 k60 k59 k58 k57 k56; ((have hin : arIn f i := by (simp [arIn] at *; omega)); simp at h2; simp [arB', arL, hin, arNow, arKind, *])
                  have k79 : Go.Ideal.A2.arL f i g t (4 : Nat) = g (f (i * (4 : Nat) + (1 : Nat))).toNat := by clear k78 k77 k76 k75 k74 k73 k72 k71 k70 k69 k68 k67 k66 k65 k64 k63 k62 k61 k60 k59 k58 k57 k56; ((have hin : arIn f i := by (simp [arIn] at *; omega)); simp at h2; simp [arB', arL, hin, arNow, arKind, *])
                  have k80 : i.succ ≤ n := by clear k79 k78 k77 k76 k75 k74 k73 k72 k71 k70 k69 k68 k67 k66 k65 k64 k63 k62 k61 k60 k59 k58 k57 k56; (simp at *; omega)
                  refine vcIntro [true, true, true, false, false, false, false, false, false, false] (And.intro (And.intro h55 (And.intro h54 (And.intro k64 (And.intro (And.intro k62 k63) (And.intro k64 (And.intro (And.intro k62 k63) (And.intro h53 (And.intro h52 (And.intro k64 (And.intro (And.intro k62 k63) (And.intro h53 (And.intro h52 (And.intro k64 (And.intro (And.intro k62 k63) (And.intro k64 (And.intro (And.intro k62 k63) (And.intro k64 (And.intro (And.intro k62 k63) (And.intro h3 (And.intro h2 (And.intro k61 (And.intro k60 (And.intro k59 (And.intro k58 (And.intro (And.intro k56 k57) (And.intro h1 (And.intro h0 True.intro))))))))))))))))))))))))))) (And.intro (And.intro (And.intro (And.intro True.intro (And.intro (@Eq.refl (Nat) (n)) k65)) (And.intro True.intro (And.intro True.intro (And.intro k66 True.intro)))) (And.intro (And.intro k67 k68) (And.intro (And.intro (@Eq.refl (Nat) ((634 : Nat))) (And.intro k69 (And.intro k70 (And.intro k71 (And.intro k72 (And.intro k73 (And.intro k74 (And.intro k75 (And.intro k76 (And.intro k77 k78)))))))))) (And.intro (And.intro (@Eq.refl (Nat) ((634 : Nat))) (And.intro k69 (And.intro k70 (And.intro k71 (And.intro k72 (And.intro k73 (And.intro k79 (And.intro k75 (And.intro k76 (And.intro k77 k78)))))))))) True.intro)))) k80)) ?_
                  kernel_rfl
      ·
        rcases Bool.eq_false_or_eq_true (f (i * (4 : Nat)) == (1 : Int)) with h81 | h81
        ·
          rcases Bool.eq_false_or_eq_true (!(Decidable.decide ((0 : Int) ≤ f (i * (4 : Nat) + (1 : Nat))) && Decidable.decide (f (i * (4 : Nat) + (1 : Nat)) < (634 : Int)))) with h82 | h82
          ·
            rcases Bool.eq_false_or_eq_true (Decidable.decide (f (i * (4 : Nat) + (1 : Nat)) < (0 : Int))) with h83 | h83
            ·
              rcases Bool.eq_false_or_eq_true (!(t (0 : Nat) == t (0 : Nat) && (t (1 : Nat) == t (1 : Nat) && (t (2 : Nat) == t (2 : Nat) && (t (3 : Nat) == t (3 : Nat) && (t (4 : Nat) == t (4 : Nat) && (t (5 : Nat) == t (5 : Nat) && (t (6 : Nat) == t (6 : Nat) && t (7 : Nat) == t (7 : Nat))))))))) with h84 | h84
              · exact False.elim (by (simp_all; done))
              ·
                rcases Bool.eq_false_or_eq_true (!b == b) with h85 | h85
                · exact False.elim (by (simp_all; done))
                ·
                  have k86 : (0 : Int) ≤ (↑i : Int) := by omega
                  have k87 : (↑i : Int) + (1 : Int) ≤ (↑n : Int) := by clear k86; (simp at *; omega)
                  have k88 : (i * (4 : Nat) + (1 : Nat) + (1 : Nat) + (1 : Nat)).succ ≤ n * (4 : Nat) := by clear k87 k86; (simp at *; omega)
                  have k89 : (i * (4 : Nat) + (1 : Nat) + (1 : Nat)).succ ≤ n * (4 : Nat) := by clear k88 k87 k86; (simp at *; omega)
                  have k90 : (i * (4 : Nat) + (1 : Nat)).succ ≤ n * (4 : Nat) := by clear k89 k88 k87 k86; (simp at *; omega)
                  have k91 : (i * (4 : Nat)).succ ≤ n * (4 : Nat) := by clear k90 k89 k88 k87 k86; (simp at *; omega)
                  have k92 : n ≤ n := by clear k91 k90 k89 k88 k87 k86; omega
                  have k93 : (↑(i + (1 : Nat)) : Int) = Go.IntKind.i64.wrap ((↑i : Int) + (1 : Int)) := by clear k92 k91 k90 k89 k88 k87 k86; (rw [wrapk _ (by simp at *; omega)]; simp; done)
                  have k94 : n * (4 : Nat) ≤ n * (4 : Nat) := by clear k93 k92 k91 k90 k89 k88 k87 k86; omega
                  have k95 : ∀ (k : Nat), k < n * (4 : Nat) → f k = f k := fun _ _ => rfl
                  have k96 : ∀ (k : Nat), k < (634 : Nat) → Go.Ideal.A2.arF f i g k = g k := by clear k95 k94 k93 k92 k91 k90 k89 k88 k87 k86; ((have hin : ¬ arIn f i := by (simp [arIn] at *; omega)); (intro k hk; simp [arF, hin]))
                  have k97 : Go.Ideal.A2.arL f i g t (0 : Nat) = t (0 : Nat) := by clear k96 k95 k94 k93 k92 k91 k90 k89 k88 k87 k86; ((have hin : ¬ arIn f i := by (simp [arIn] at *; omega)); simp [arB', arL, hin])
                  have k98 : Go.Ideal.A2.arL f i g t (1 : Nat) = t (1 : Nat) := by clear k97 k96 k95 k94 k93 k92 k91 k90 k89 k88 k87 k86; ((have hin : ¬ arIn f i := by (simp [arIn] at *; omega)); simp [arB', arL, hin])
                  have k99 : Go.Ideal.A2.arL f i g t (2 : Nat) = t (2 : Nat) := by clear k98 k97 k96 k95 k94 k93 k92 k91 k90 k89 k88 k87 k86; ((have hin : ¬ arIn f i := by (simp [arIn] at *; omega)); simp [arB', arL, hin])
                  have k100 : Go.Ideal.A2.arL f i g t (3 : Nat) = t (3 : Nat) := by clear k99 k98 k97 k96 k95 k94 k93 k92 k91 k90 k89 k88 k87 k86; ((have hin : ¬ arIn f i := by (simp [arIn] at *; omega)); simp [arB', arL, hin])
                  have k101 : Go.Ideal.A2.arL f i g t (4 : Nat) = t (4 : Nat) := by clear k100 k99 k98 k97 k96 k95 k94 k93 k92 k91 k90 k89 k88 k87 k86; ((have hin : ¬ arIn f i := by (simp [arIn] at *; omega)); simp [arB', arL, hin])
                  have k102 : Go.Ideal.A2.arL f i g t (5 : Nat) = t (5 : Nat) := by clear k101 k100 k99 k98 k97 k96 k95 k94 k93 k92 k91 k90 k89 k88 k87 k86; ((have hin : ¬ arIn f i := by (simp [arIn] at *; omega)); simp [arB', arL, hin])
                  have k103 : Go.Ideal.A2.arL f i g t (6 : Nat) = t (6 : Nat) := by clear k102 k101 k100 k99 k98 k97 k96 k95 k94 k93 k92 k91 k90 k89 k88 k87 k86; ((have hin : ¬ arIn f i := by (simp [arIn] at *; omega)); simp [arB', arL, hin])
                  have k104 : Go.Ideal.A2.arL f i g t (7 : Nat) = t (7 : Nat) := by clear k103 k102 k101 k100 k99 k98 k97 k96 k95 k94 k93 k92 k91 k90 k89 k88 k87 k86; ((have hin : ¬ arIn f i := by (simp [arIn] at *; omega)); simp [arB', arL, hin])
                  have k105 : Go.Ideal.A2.arB' f i b = b := by clear k104 k103 k102 k101 k100 k99 k98 k97 k96 k95 k94 k93 k92 k91 k90 k89 k88 k87 k86; ((have hin : ¬ arIn f i := by (simp [arIn] at *; omega)); simp [arB', arL, hin])
                  have k106 : i.succ ≤ n := by clear k105 k104 k103 k102 k101 k100 k99 k98 k97 k96 k95 k94 k93 k92 k91 k90 k89 k88 k87 k86; (simp at *; omega)
                  refine vcIntro [true, true, false, true, true, true, false, false] (And.intro (And.intro h85 (And.intro h84 (And.intro h83 (And.intro h82 (And.intro h81 (And.intro h2 (And.intro k91 (And.intro k90 (And.intro k89 (And.intro k88 (And.intro (And.intro k86 k87) (And.intro h1 (And.intro h0 True.intro))))))))))))) (And.intro (And.intro (And.intro (And.intro True.intro (And.intro (@Eq.refl (Nat) (n)) k92)) (And.intro True.intro (And.intro True.intro (And.intro k93 True.intro)))) (And.intro (And.intro k94 k95) (And.intro (And.intro (@Eq.refl (Nat) ((634 : Nat))) (And.intro k96 (And.intro k97 (And.intro k98 (And.intro k99 (And.intro k100 (And.intro k101 (And.intro k102 (And.intro k103 (And.intro k104 k105)))))))))) (And.intro (And.intro (@Eq.refl (Nat) ((634 : Nat))) (And.intro k96 (And.intro k97 (And.intro k98 (And.intro k99 (And.intro k100 (And.intro k101 (And.intro k102 (And.intro k103 (And.intro k104 k105)))))))))) True.intro)))) k106)) ?_
                  kernel_rfl
            ·
              rcases Bool.eq_false_or_eq_true (Decidable.decide (f (i * (4 : Nat) + (1 : Nat)) ≥ (634 : Int))) with h107 | h107
              ·
                rcases Bool.eq_false_or_eq_true (!(t (0 : Nat) == t (0 : Nat) && (t (1 : Nat) == t (1 : Nat) && (t (2 : Nat) == t (2 : Nat) && (t (3 : Nat) == t (3 : Nat) && (t (4 : Nat) == t (4 : Nat) && (t (5 : Nat) == t (5 : Nat) && (t (6 : Nat) == t (6 : Nat) && t (7 : Nat) == t (7 : Nat))))))))) with h108 | h108
                · exact False.elim (by (simp_all; done))
                ·
                  rcases Bool.eq_false_or_eq_true (!b == b) with h109 | h109
                  · exact False.elim (by (simp_all; done))
                  ·
                    have k110 : (0 : Int) ≤ (↑i : Int) := by omega
                    have k111 : (↑i : Int) + (1 : Int) ≤ (↑n : Int) := by clear k110; (simp at *; omega)
                    have k112 : (i * (4 : Nat) + (1 : Nat) + (1 : Nat) + (1 : Nat)).succ ≤ n * (4 : Nat) := by clear k111 k110; (simp at *; omega)
                    have k113 : (i * (4 : Nat) + (1 : Nat) + (1 : Nat)).succ ≤ n * (4 : Nat) := by clear k112 k111 k110; (simp at *; omega)
                    have k114 : (i * (4 : Nat) + (1 : Nat)).succ ≤ n * (4 : Nat) := by clear k113 k112 k111 k110; (simp at *; omega)
                    have k115 : (i * (4 : Nat)).succ ≤ n * (4 : Nat) := by clear k114 k113 k112 k111 k110; (simp at *; omega)
                    have k116 : n ≤ n := by clear k115 k114 k113 k112 k111 k110; omega
                    have k117 : (↑(i + (1 : Nat)) : Int) = Go.IntKind.i64.wrap ((↑i : Int) + (1 : Int)) := by clear k116 k115 k114 k113 k112 k111 k110; (rw [wrapk _ (by simp at *; omega)]; simp; done)
                    have k118 : n * (4 : Nat) ≤ n * (4 : Nat) := by clear k117 k116 k115 k114 k113 k112 k111 k110; omega
                    have k119 : ∀ (k : Nat), k < n * (4 : Nat) → f k = f k := fun _ _ => rfl
                    have k120 : ∀ (k : Nat), k < (634 : Nat) → Go.Ideal.A2.arF f i g k = g k := by clear k119 k118 k117 k116 k115 k114 k113 k112 k111 k110; ((have hin : ¬ arIn f i := by (simp [arIn] at *; omega)); (intro k hk; simp [arF, hin]))
                    have k121 : Go.Ideal.A2.arL f i g t (0 : Nat) = t (0 : Nat) := by clear k120 k119 k118 k117 k116 k115 k114 k113 k112 k111 k110; ((have hin : ¬ arIn f i := by (simp [arIn] at *; omega)); simp [arB', arL, hin])
                    have k122 : Go.Ideal.A2.arL f i g t (1 : Nat) = t (1 : Nat) := by clear k121 k120 k119 k118 k117 k116 k115 k114 k113 k112 k111 k110; ((have hin : ¬ arIn f i := by (simp [arIn] at *; omega)); simp [arB', arL, hin])
                    have k123 : Go.Ideal.A2.arL f i g t (2 : Nat) = t (2 : Nat) := by clear k122 k121 k120 k119 k118 k117 k116 k115 k114 k113 k112 k111 k110; ((have hin : ¬ arIn f i := by (simp [arIn] at *; omega)); simp [arB', arL, hin])
                    have k124 : Go.Ideal.A2.arL f i g t (3 : Nat) = t (3 : Nat) := by clear k123 k122 k121 k120 k119 k118 k117 k116 k115 k114 k113 k112 k111 k110; ((have hin : ¬ arIn f i := by (simp [arIn] at *; omega)); simp [arB', arL, hin])
                    have k125 : Go.Ideal.A2.arL f i g t (4 : Nat) = t (4 : Nat) := by clear k124 k123 k122 k121 k120 k119 k118 k117 k116 k115 k114 k113 k112 k111 k110; ((have hin : ¬ arIn f i := by (simp [arIn] at *; omega)); simp [arB', arL, hin])
                    have k126 : Go.Ideal.A2.arL f i g t (5 : Nat) = t (5 : Nat) := by clear k125 k124 k123 k122 k121 k120 k119 k118 k117 k116 k115 k114 k113 k112 k111 k110; ((have hin : ¬ arIn f i := by (simp [arIn] at *; omega)); simp [arB', arL, hin])
                    have k127 : Go.Ideal.A2.arL f i g t (6 : Nat) = t (6 : Nat) := by clear k126 k125 k124 k123 k122 k121 k120 k119 k118 k117 k116 k115 k114 k113 k112 k111 k110; ((have hin : ¬ arIn f i := by (simp [arIn] at *; omega)); simp [arB', arL, hin])
                    have k128 : Go.Ideal.A2.arL f i g t (7 : Nat) = t (7 : Nat) := by clear k127 k126 k125 k124 k123 k122 k121 k120 k119 k118 k117 k116 k115 k114 k113 k112 k111 k110; ((have hin : ¬ arIn f i := by (simp [arIn] at *; omega)); simp [arB', arL, hin])
                    have k129 : Go.Ideal.A2.arB' f i b = b := by clear k128 k127 k126 k125 k124 k123 k122 k121 k120 k119 k118 k117 k116 k115 k114 k113 k112 k111 k110; ((have hin : ¬ arIn f i := by (simp [arIn] at *; omega)); simp [arB', arL, hin])
                    have k130 : i.succ ≤ n := by clear k129 k128 k127 k126 k125 k124 k123 k122 k121 k120 k119 k118 k117 k116 k115 k114 k113 k112 k111 k110; (simp at *; omega)
                    refine vcIntro [true, true, false, true, true, false, true, false, false] (And.intro (And.intro h109 (And.intro h108 (And.intro h107 (And.intro h83 (And.intro h82 (And.intro h81 (And.intro h2 (And.intro k115 (And.intro k114 (And.intro k113 (And.intro k112 (And.intro (And.intro k110 k111) (And.intro h1 (And.intro h0 True.intro)))))))))))))) (And.intro (And.intro (And.intro (And.intro True.intro (And.intro (@Eq.refl (Nat) (n)) k116)) (And.intro True.intro (And.intro True.intro (And.intro k117 True.intro)))) (And.intro (And.intro k118 k119) (And.intro (And.intro (@Eq.refl (Nat) ((634 : Nat))) (And.intro k120 (And.intro k121 (And.intro k122 (And.intro k123 (And.intro k124 (And.intro k125 (And.intro k126 (And.intro k127 (And.intro k128 k129)))))))))) (And.intro (And.intro (@Eq.refl (Nat) ((634 : Nat))) (And.intro k120 (And.intro k121 (And.intro k122 (And.intro k123 (And.intro k124 (And.intro k125 (And.intro k126 (And.intro k127 (And.intro k128 k129)))))))))) True.intro)))) k130)) ?_
                    kernel_rfl
              · exact False.elim (by (simp at *; omega))
          ·
            rcases Bool.eq_false_or_eq_true (Decidable.decide (f (i * (4 : Nat) + (1 : Nat)) < (0 : Int))) with h131 | h131
            · exact False.elim (by (simp at *; omega))
            ·
              rcases Bool.eq_false_or_eq_true (Decidable.decide (f (i * (4 : Nat) + (1 : Nat)) ≥ (634 : Int))) with h132 | h132
              · exact False.elim (by (simp at *; omega))
              ·
                rcases Bool.eq_false_or_eq_true (g (f (i * (4 : Nat) + (1 : Nat))).toNat != g (f (i * (4 : Nat) + (1 : Nat))).toNat) with h133 | h133
                · exact False.elim (by (simp_all; done))
                ·
                  rcases Bool.eq_false_or_eq_true (!(f (i * (4 : Nat) + (1 : Nat)) == f (i * (4 : Nat) + (1 : Nat)) && (g (f (i * (4 : Nat) + (1 : Nat))).toNat == g (f (i * (4 : Nat) + (1 : Nat))).toNat && (if (f (i * (4 : Nat) + (1 : Nat))).toNat = (f (i * (4 : Nat) + (1 : Nat))).toNat then f (i * (4 : Nat) + (1 : Nat) + (1 : Nat) + (1 : Nat)) else g (f (i * (4 : Nat) + (1 : Nat))).toNat) == f (i * (4 : Nat) + (1 : Nat) + (1 : Nat) + (1 : Nat))))) with h134 | h134
                  · exact False.elim (by (simp_all; done))
                  ·
                    have k135 : (0 : Int) ≤ (↑i : Int) := by omega
                    have k136 : (↑i : Int) + (1 : Int) ≤ (↑n : Int) := by clear k135; (simp at *; omega)
                    have k137 : (i * (4 : Nat) + (1 : Nat) + (1 : Nat) + (1 : Nat)).succ ≤ n * (4 : Nat) := by clear k136 k135; (simp at *; omega)
                    have k138 : (i * (4 : Nat) + (1 : Nat) + (1 : Nat)).succ ≤ n * (4 : Nat) := by clear k137 k136 k135; (simp at *; omega)
                    have k139 : (i * (4 : Nat) + (1 : Nat)).succ ≤ n * (4 : Nat) := by clear k138 k137 k136 k135; (simp at *; omega)
                    have k140 : (i * (4 : Nat)).succ ≤ n * (4 : Nat) := by clear k139 k138 k137 k136 k135; (simp at *; omega)
                    have k141 : (0 : Int) ≤ f (i * (4 : Nat) + (1 : Nat)) := by clear k140 k139 k138 k137 k136 k135; (simp at *; omega)
                    have k142 : f (i * (4 : Nat) + (1 : Nat)) + (1 : Int) ≤ (634 : Int) := by clear k141 k140 k139 k138 k137 k136 k135; (simp at *; omega)
                    have k143 : (f (i * (4 : Nat) + (1 : Nat))).toNat.succ ≤ (634 : Nat) := by clear k142 k141 k140 k139 k138 k137 k136 k135; (simp at *; omega)
                    have k144 : n ≤ n := by clear k143 k142 k141 k140 k139 k138 k137 k136 k135; omega
                    have k145 : (↑(i + (1 : Nat)) : Int) = Go.IntKind.i64.wrap ((↑i : Int) + (1 : Int)) := by clear k144 k143 k142 k141 k140 k139 k138 k137 k136 k135; (rw [wrapk _ (by simp at *; omega)]; simp; done)
                    have k146 : n * (4 : Nat) ≤ n * (4 : Nat) := by clear k145 k144 k143 k142 k141 k140 k139 k138 k137 k136 k135; omega
                    have k147 : ∀ (k : Nat), k < n * (4 : Nat) → f k = f k := fun _ _ => rfl
                    have k148 : ∀ (k : Nat), k < (634 : Nat) → Go.Ideal.A2.arF f i g k = if k = (f (i * (4 : Nat) + (1 : Nat))).toNat then f (i * (4 : Nat) + (1 : Nat) + (1 : Nat) + (1 : Nat)) else g k := by clear k147 k146 k145 k144 k143 k142 k141 k140 k139 k138 k137 k136 k135; ((have hin : arIn f i := by (simp [arIn] at *; omega)); (intro k hk; simp [arF, hin, arNow, arKind] at *; simp [*]))
                    have k149 : Go.Ideal.A2.arL f i g t (0 : Nat) = (0 : Int) := by clear k148 k147 k146 k145 k144 k143 k142 k141 k140 k139 k138 k137 k136 k135; ((have hin : arIn f i := by (simp [arIn] at *; omega)); simp at h2; simp [arB', arL, hin, arNow, arKind, *])
                    have k150 : Go.Ideal.A2.arL f i g t (1 : Nat) = (1 : Int) := by clear k149 k148 k147 k146 k145 k144 k143 k142 k141 k140 k139 k138 k137 k136 k135; ((have hin : arIn f i := by (simp [arIn] at *; omega)); simp [arB', arL, hin, arNow, arKind] at *; simp [*])
                    have k151 : Go.Ideal.A2.arL f i g t (2 : Nat) = f (i * (4 : Nat) + (1 : Nat)) := by clear k150 k149 k148 k147 k146 k145 k144 k143 k142 k141 k140 k139 k138 k137 k136 k135; ((have hin : arIn f i := by (simp [arIn] at *; omega)); simp at h2; simp [arB', arL, hin, arNow, arKind, *])
                    have k152 : Go.Ideal.A2.arL f i g t (3 : Nat) = g (f (i * (4 : Nat) + (1 : Nat))).toNat := by clear k151 k150 k149 k148 k147 k146 k145 k144 k143 k142 k141 k140 k139 k138 k137 k136 k135; ((have hin : arIn f i := by (simp [arIn] at *; omega)); simp at h2; simp [arB', arL, hin, arNow, arKind, *])
                    have k153 : Go.Ideal.A2.arL f i g t (4 : Nat) = if (f (i * (4 : Nat) + (1 : Nat))).toNat = (f (i * (4 : Nat) + (1 : Nat))).toNat then f (i * (4 : Nat) + (1 : Nat) + (1 : Nat) + (1 : Nat)) else g (f (i * (4 : Nat) + (1 : Nat))).toNat := by clear k152 k151 k150 k149 k148 k147 k146 k145 k144 k143 k142 k141 k140 k139 k138 k137 k136 k135; ((have hin : arIn f i := by (simp [arIn] at *; omega)); simp [arB', arL, hin, arNow, arKind] at *; simp [*])
                    have k154 : Go.Ideal.A2.arL f i g t (5 : Nat) = (0 : Int) := by clear k153 k152 k151 k150 k149 k148 k147 k146 k145 k144 k143 k142 k141 k140 k139 k138 k137 k136 k135; ((have hin : arIn f i := by (simp [arIn] at *; omega)); simp at h2; simp [arB', arL, hin, arNow, arKind, *])
                    have k155 : Go.Ideal.A2.arL f i g t (6 : Nat) = (0 : Int) := by clear k154 k153 k152 k151 k150 k149 k148 k147 k146 k145 k144 k143 k142 k141 k140 k139 k138 k137 k136 k135; ((have hin : arIn f i := by (simp [arIn] at *; omega)); simp at h2; simp [arB', arL, hin, arNow, arKind, *])
                    have k156 : Go.Ideal.A2.arL f i g t (7 : Nat) = (0 : Int) := by clear k155 k154 k153 k152 k151 k150 k149 k148 k147 k146 k145 k144 k143 k142 k141 k140 k139 k138 k137 k136 k135; ((have hin : arIn f i := by (simp [arIn] at *; omega)); simp at h2; simp [arB', arL, hin, arNow, arKind, *])
                    have k157 : Go.Ideal.A2.arB' f i b = Bool.true := by clear k156 k155 k154 k153 k152 k151 k150 k149 k148 k147 k146 k145 k144 k143 k142 k141 k140 k139 k138 k137 k136 k135; ((have hin : arIn f i := by (simp [arIn] at *; omega)); simp at h2; simp [arB', arL, hin, arNow, arKind, *])
                    have k158 : Go.Ideal.A2.arL f i g t (4 : Nat) = f (i * (4 : Nat) + (1 : Nat) + (1 : Nat) + (1 : Nat)) := by clear k157 k156 k155 k154 k153 k152 k151 k150 k149 k148 k147 k146 k145 k144 k143 k142 k141 k140 k139 k138 k137 k136 k135; ((have hin : arIn f i := by (simp [arIn] at *; omega)); simp [arB', arL, hin, arNow, arKind] at *; simp [*])
                    have k159 : i.succ ≤ n := by clear k158 k157 k156 k155 k154 k153 k152 k151 k150 k149 k148 k147 k146 k145 k144 k143 k142 k141 k140 k139 k138 k137 k136 k135; (simp at *; omega)
                    refine vcIntro [true, true, false, true, false, false, false, false, false] (And.intro (And.intro h134 (And.intro h133 (And.intro k143 (And.intro (And.intro k141 k142) (And.intro k143 (And.intro (And.intro k141 k142) (And.intro h132 (And.intro h131 (And.intro k143 (And.intro (And.intro k141 k142) (And.intro k143 (And.intro (And.intro k141 k142) (And.intro k143 (And.intro (And.intro k141 k142) (And.intro h82 (And.intro h81 (And.intro h2 (And.intro k140 (And.intro k139 (And.intro k138 (And.intro k137 (And.intro (And.intro k135 k136) (And.intro h1 (And.intro h0 True.intro)))))))))))))))))))))))) (And.intro (And.intro (And.intro (And.intro True.intro (And.intro (@Eq.refl (Nat) (n)) k144)) (And.intro True.intro (And.intro True.intro (And.intro k145 True.intro)))) (And.intro (And.intro k146 k147) (And.intro (And.intro (@Eq.refl (Nat) ((634 : Nat))) (And.intro k148 (And.intro k149 (And.intro k150 (And.intro k151 (And.intro k152 (And.intro k153 (And.intro k154 (And.intro k155 (And.intro k156 k157)))))))))) (And.intro (And.intro (@Eq.refl (Nat) ((634 : Nat))) (And.intro k148 (And.intro k149 (And.intro k150 (And.intro k151 (And.intro k152 (And.intro k158 (And.intro k154 (And.intro k155 (And.intro k156 k157)))))))))) True.intro)))) k159)) ?_
                    kernel_rfl
        ·
          rcases Bool.eq_false_or_eq_true (!(Decidable.decide ((0 : Int) ≤ f (i * (4 : Nat) + (1 : Nat))) && Decidable.decide (f (i * (4 : Nat) + (1 : Nat)) < (634 : Int)))) with h160 | h160
          ·
            rcases Bool.eq_false_or_eq_true (Decidable.decide (f (i * (4 : Nat) + (1 : Nat)) < (0 : Int))) with h161 | h161
            ·
              rcases Bool.eq_false_or_eq_true (!(t (0 : Nat) == t (0 : Nat) && (t (1 : Nat) == t (1 : Nat) && (t (2 : Nat) == t (2 : Nat) && (t (3 : Nat) == t (3 : Nat) && (t (4 : Nat) == t (4 : Nat) && (t (5 : Nat) == t (5 : Nat) && (t (6 : Nat) == t (6 : Nat) && t (7 : Nat) == t (7 : Nat))))))))) with h162 | h162
              · exact False.elim (by (simp_all; done))
              ·
                rcases Bool.eq_false_or_eq_true (!b == b) with h163 | h163
                · exact False.elim (by (simp_all; done))
                ·
                  have k164 : (0 : Int) ≤ (↑i : Int) := by omega
                  have k165 : (↑i : Int) + (1 : Int) ≤ (↑n : Int) := by clear k164; (simp at *; omega)
                  have k166 : (i * (4 : Nat) + (1 : Nat) + (1 : Nat) + (1 : Nat)).succ ≤ n * (4 : Nat) := by clear k165 k164; (simp at *; omega)
                  have k167 : (i * (4 : Nat) + (1 : Nat) + (1 : Nat)).succ ≤ n * (4 : Nat) := by clear k166 k165 k164; (simp at *; omega)
                  have k168 : (i * (4 : Nat) + (1 : Nat)).succ ≤ n * (4 : Nat) := by clear k167 k166 k165 k164; (simp at *; omega)
                  have k169 : (i * (4 : Nat)).succ ≤ n * (4 : Nat) := by clear k168 k167 k166 k165 k164; (simp at *; omega)
                  have k170 : n ≤ n := by clear k169 k168 k167 k166 k165 k164; omega
                  have k171 : (↑(i + (1 : Nat)) : Int) = Go.IntKind.i64.wrap ((↑i : Int) + (1 : Int)) := by clear k170 k169 k168 k167 k166 k165 k164; (rw [wrapk _ (by simp at *; omega)]; simp; done)
                  have k172 : n * (4 : Nat) ≤ n * (4 : Nat) := by clear k171 k170 k169 k168 k167 k166 k165 k164; omega
                  have k173 : ∀ (k : Nat), k < n * (4 : Nat) → f k = f k := fun _ _ => rfl
                  have k174 : ∀ (k : Nat), k < (634 : Nat) → Go.Ideal.A2.arF f i g k = g k := by clear k173 k172 k171 k170 k169 k168 k167 k166 k165 k164; ((have hin : ¬ arIn f i := by (simp [arIn] at *; omega)); (intro k hk; simp [arF, hin]))
                  have k175 : Go.Ideal.A2.arL f i g t (0 : Nat) = t (0 : Nat) := by clear k174 k173 k172 k171 k170 k169 k168 k167 k166 k165 k164; ((have hin : ¬ arIn f i := by (simp [arIn] at *; omega)); simp [arB', arL, hin])
                  have k176 : Go.Ideal.A2.arL f i g t (1 : Nat) = t (1 : Nat) := by clear k175 k174 k173 k172 k171 k170 k169 k168 k167 k166 k165 k164; ((have hin : ¬ arIn f i := by (simp [arIn] at *; omega)); simp [arB', arL, hin])
                  have k177 : Go.Ideal.A2.arL f i g t (2 : Nat) = t (2 : Nat) := by clear k176 k175 k174 k173 k172 k171 k170 k169 k168 k167 k166 k165 k164; ((have hin : ¬ arIn f i := by (simp [arIn] at *; omega)); simp [arB', arL, hin])
                  have k178 : Go.Ideal.A2.arL f i g t (3 : Nat) = t (3 : Nat) := by clear k177 k176 k175 k174 k173 k172 k171 k170 k169 k168 k167 k166 k165 k164; ((have hin : ¬ arIn f i := by (simp [arIn] at *; omega)); simp [arB', arL, hin])
                  have k179 : Go.Ideal.A2.arL f i g t (4 : Nat) = t (4 : Nat) := by clear k178 k177 k176 k175 k174 k173 k172 k171 k170 k169 k168 k167 k166 k165 k164; ((have hin : ¬ arIn f i := by (simp [arIn] at *; omega)); simp [arB', arL, hin])
                  have k180 : Go.Ideal.A2.arL f i g t (5 : Nat) = t (5 : Nat) := by clear k179 k178 k177 k176 k175 k174 k173 k172 k171 k170 k169 k168 k167 k166 k165 k164; ((have hin : ¬ arIn f i := by (simp [arIn] at *; omega)); simp [arB', arL, hin])
                  have k181 : Go.Ideal.A2.arL f i g t (6 : Nat) = t (6 : Nat) := by clear k180 k179 k178 k177 k176 k175 k174 k173 k172 k171 k170 k169 k168 k167 k166 k165 k164; ((have hin : ¬ arIn f i := by (simp [arIn] at *; omega)); simp [arB', arL, hin])
                  have k182 : Go.Ideal.A2.arL f i g t (7 : Nat) = t (7 : Nat) := by clear k181 k180 k179 k178 k177 k176 k175 k174 k173 k172 k171 k170 k169 k168 k167 k166 k165 k164; ((have hin : ¬ arIn f i := by (simp [arIn] at *; omega)); simp [arB', arL, hin])
                  have k183 : Go.Ideal.A2.arB' f i b = b := by clear k182 k181 k180 k179 k178 k177 k176 k175 k174 k173 k172 k171 k170 k169 k168 k167 k166 k165 k164; ((have hin : ¬ arIn f i := by (simp [arIn] at *; omega)); simp [arB', arL, hin])
                  have k184 : i.succ ≤ n := by clear k183 k182 k181 k180 k179 k178 k177 k176 k175 k174 k173 k172 k171 k170 k169 k168 k167 k166 k165 k164; (simp at *; omega)
                  refine vcIntro [true, true, false, false, true, true, false, false] (And.intro (And.intro h163 (And.intro h162 (And.intro h161 (And.intro h160 (And.intro h81 (And.intro h2 (And.intro k169 (And.intro k168 (And.intro k167 (And.intro k166 (And.intro (And.intro k164 k165) (And.intro h1 (And.intro h0 True.intro))))))))))))) (And.intro (And.intro (And.intro (And.intro True.intro (And.intro (@Eq.refl (Nat) (n)) k170)) (And.intro True.intro (And.intro True.intro (And.intro k171 True.intro)))) (And.intro (And.intro k172 k173) (And.intro (And.intro (@Eq.refl (Nat) ((634 : Nat))) (And.intro k174 (And.intro k175 (And.intro k176 (And.intro k177 (And.intro k178 (And.intro k179 (And.intro k180 (And.intro k181 (And.intro k182 k183)))))))))) (And.intro (And.intro (@Eq.refl (Nat) ((634 : Nat))) (And.intro k174 (And.intro k175 (And.intro k176 (And.intro k177 (And.intro k178 (And.intro k179 (And.intro k180 (And.intro k181 (And.intro k182 k183)))))))))) True.intro)))) k184)) ?_
                  kernel_rfl
            ·
              rcases Bool.eq_false_or_eq_true (Decidable.decide (f (i * (4 : Nat) + (1 : Nat)) ≥ (634 : Int))) with h185 | h185
              ·
                rcases Bool.eq_false_or_eq_true (!(t (0 : Nat) == t (0 : Nat) && (t (1 : Nat) == t (1 : Nat) && (t (2 : Nat) == t (2 : Nat) && (t (3 : Nat) == t (3 : Nat) && (t (4 : Nat) == t (4 : Nat) && (t (5 : Nat) == t (5 : Nat) && (t (6 : Nat) == t (6 : Nat) && t (7 : Nat) == t (7 : Nat))))))))) with h186 | h186
                · exact False.elim (by (simp_all; done))
                ·
                  rcases Bool.eq_false_or_eq_true (!b == b) with h187 | h187
                  · exact False.elim (by (simp_all; done))
                  ·
                    have k188 : (0 : Int) ≤ (↑i : Int) := by omega
                    have k189 : (↑i : Int) + (1 : Int) ≤ (↑n : Int) := by clear k188; (simp at *; omega)
                    have k190 : (i * (4 : Nat) + (1 : Nat) + (1 : Nat) + (1 : Nat)).succ ≤ n * (4 : Nat) := by clear k189 k188; (simp at *; omega)
                    have k191 : (i * (4 : Nat) + (1 : Nat) + (1 : Nat)).succ ≤ n * (4 : Nat) := by clear k190 k189 k188; (simp at *; omega)
                    have k192 : (i * (4 : Nat) + (1 : Nat)).succ ≤ n * (4 : Nat) := by clear k191 k190 k189 k188; (simp at *; omega)
                    have k193 : (i * (4 : Nat)).succ ≤ n * (4 : Nat) := by clear k192 k191 k190 k189 k188; (simp at *; omega)
                    have k194 : n ≤ n := by clear k193 k192 k191 k190 k189 k188; omega
                    have k195 : (↑(i + (1 : Nat)) : Int) = Go.IntKind.i64.wrap ((↑i : Int) + (1 : Int)) := by clear k194 k193 k192 k191 k190 k189 k188; (rw [wrapk _ (by simp at *; omega)]; simp; done)
                    have k196 : n * (4 : Nat) ≤ n * (4 : Nat) := by clear k195 k194 k193 k192 k191 k190 k189 k188; omega
                    have k197 : ∀ (k : Nat), k < n * (4 : Nat) → f k = f k := fun _ _ => rfl
                    have k198 : ∀ (k : Nat), k < (634 : Nat) → Go.Ideal.A2.arF f i g k = g k := by clear k197 k196 k195 k194 k193 k192 k191 k190 k189 k188; ((have hin : ¬ arIn f i := by (simp [arIn] at *; omega)); (intro k hk; simp [arF, hin]))
                    have k199 : Go.Ideal.A2.arL f i g t (0 : Nat) = t (0 : Nat) := by clear k198 k197 k196 k195 k194 k193 k192 k191 k190 k189 k188; ((have hin : ¬ arIn f i := by (simp [arIn] at *; omega)); simp [arB', arL, hin])
                    have k200 : Go.Ideal.A2.arL f i g t (1 : Nat) = t (1 : Nat) := by clear k199 k198 k197 k196 k195 k194 k193 k192 k191 k190 k189 k188; ((have hin : ¬ arIn f i := by (simp [arIn] at *; omega)); simp [arB', arL, hin])
                    have k201 : Go.Ideal.A2.arL f i g t (2 : Nat) = t (2 : Nat) := by clear k200 k199 k198 k197 k196 k195 k194 k193 k192 k191 k190 k189 k188; ((have hin : ¬ arIn f i := by (simp [arIn] at *; omega)); simp [arB', arL, hin])
                    have k202 : Go.Ideal.A2.arL f i g t (3 : Nat) = t (3 : Nat) := by clear k201 k200 k199 k198 k197 k196 k195 k194 k193 k192 k191 k190 k189 k188; ((have hin : ¬ arIn f i := by (simp [arIn] at *; omega)); simp [arB', arL, hin])
                    have k203 : Go.Ideal.A2.arL f i g t (4 : Nat) = t (4 : Nat) := by clear k202 k201 k200 k199 k198 k197 k196 k195 k194 k193 k192 k191 k190 k189 k188; ((have hin : ¬ arIn f i := by (simp [arIn] at *; omega)); simp [arB', arL, hin])
                    have k204 : Go.Ideal.A2.arL f i g t (5 : Nat) = t (5 : Nat) := by clear k203 k202 k201 k200 k199 k198 k197 k196 k195 k194 k193 k192 k191 k190 k189 k188; ((have hin : ¬ arIn f i := by (simp [arIn] at *; omega)); simp [arB', arL, hin])
                    have k205 : Go.Ideal.A2.arL f i g t (6 : Nat) = t (6 : Nat) := by clear k204 k203 k202 k201 k200 k199 k198 k197 k196 k195 k194 k193 k192 k191 k190 k189 k188; ((have hin : ¬ arIn f i := by (simp [arIn] at *; omega)); simp [arB', arL, hin])
                    have k206 : Go.Ideal.A2.arL f i g t (7 : Nat) = t (7 : Nat) := by clear k205 k204 k203 k202 k201 k200 k199 k198 k197 k196 k195 k194 k193 k192 k191 k190 k189 k188; ((have hin : ¬ arIn f i := by (simp [arIn] at *; omega)); simp [arB', arL, hin])
                    have k207 : Go.Ideal.A2.arB' f i b = b := by clear k206 k205 k204 k203 k202 k201 k200 k199 k198 k197 k196 k195 k194 k193 k192 k191 k190 k189 k188; ((have hin : ¬ arIn f i := by (simp [arIn] at *; omega)); simp [arB', arL, hin])
                    have k208 : i.succ ≤ n := by clear k207 k206 k205 k204 k203 k202 k201 k200 k199 k198 k197 k196 k195 k194 k193 k192 k191 k190 k189 k188; (simp at *; omega)
                    refine vcIntro [true, true, false, false, true, false, true, false, false] (And.intro (And.intro h187 (And.intro h186 (And.intro h185 (And.intro h161 (And.intro h160 (And.intro h81 (And.intro h2 (And.intro k193 (And.intro k192 (And.intro k191 (And.intro k190 (And.intro (And.intro k188 k189) (And.intro h1 (And.intro h0 True.intro)))))))))))))) (And.intro (And.intro (And.intro (And.intro True.intro (And.intro (@Eq.refl (Nat) (n)) k194)) (And.intro True.intro (And.intro True.intro (And.intro k195 True.intro)))) (And.intro (And.intro k196 k197) (And.intro (And.intro (@Eq.refl (Nat) ((634 : Nat))) (And.intro k198 (And.intro k199 (And.intro k200 (And.intro k201 (And.intro k202 (And.intro k203 (And.intro k204 (And.intro k205 (And.intro k206 k207)))))))))) (And.intro (And.intro (@Eq.refl (Nat) ((634 : Nat))) (And.intro k198 (And.intro k199 (And.intro k200 (And.intro k201 (And.intro k202 (And.intro k203 (And.intro k204 (And.intro k205 (And.intro k206 k207)))))))))) True.intro)))) k208)) ?_
                    kernel_rfl
              · exact False.elim (by (simp at *; omega))
          ·
            rcases Bool.eq_false_or_eq_true (g (f (i * (4 : Nat) + (1 : Nat))).toNat == f (i * (4 : Nat) + (1 : Nat) + (1 : Nat))) with h209 | h209
            ·
              rcases Bool.eq_false_or_eq_true (Decidable.decide (f (i * (4 : Nat) + (1 : Nat)) < (0 : Int))) with h210 | h210
              · exact False.elim (by (simp at *; omega))
              ·
                rcases Bool.eq_false_or_eq_true (Decidable.decide (f (i * (4 : Nat) + (1 : Nat)) ≥ (634 : Int))) with h211 | h211
                · exact False.elim (by (simp at *; omega))
                ·
                  rcases Bool.eq_false_or_eq_true (g (f (i * (4 : Nat) + (1 : Nat))).toNat != f (i * (4 : Nat) + (1 : Nat) + (1 : Nat))) with h212 | h212
                  · exact False.elim (by (simp at *; omega))
                  ·
                    rcases Bool.eq_false_or_eq_true (g (f (i * (4 : Nat) + (1 : Nat))).toNat != g (f (i * (4 : Nat) + (1 : Nat))).toNat) with h213 | h213
                    · exact False.elim (by (simp_all; done))
                    ·
                      rcases Bool.eq_false_or_eq_true (!(f (i * (4 : Nat) + (1 : Nat)) == f (i * (4 : Nat) + (1 : Nat)) && (g (f (i * (4 : Nat) + (1 : Nat))).toNat == g (f (i * (4 : Nat) + (1 : Nat))).toNat && (if (f (i * (4 : Nat) + (1 : Nat))).toNat = (f (i * (4 : Nat) + (1 : Nat))).toNat then f (i * (4 : Nat) + (1 : Nat) + (1 : Nat) + (1 : Nat)) else g (f (i * (4 : Nat) + (1 : Nat))).toNat) == f (i * (4 : Nat) + (1 : Nat) + (1 : Nat) + (1 : Nat))))) with h214 | h214
                      · exact False.elim (by (simp_all; done))
                      ·
                        have k215 : (0 : Int) ≤ (↑i : Int) := by omega
                        have k216 : (↑i : Int) + (1 : Int) ≤ (↑n : Int) := by clear k215; (simp at *; omega)
                        have k217 : (i * (4 : Nat) + (1 : Nat) + (1 : Nat) + (1 : Nat)).succ ≤ n * (4 : Nat) := by clear k216 k215; (simp at *; omega)
                        have k218 : (i * (4 : Nat) + (1 : Nat) + (1 : Nat)).succ ≤ n * (4 : Nat) := by clear k217 k216 k215; (simp at *; omega)
                        have k219 : (i * (4 : Nat) + (1 : Nat)).succ ≤ n * (4 : Nat) := by clear k218 k217 k216 k215; (simp at *; omega)
                        have k220 : (i * (4 : Nat)).succ ≤ n * (4 : Nat) := by clear k219 k218 k217 k216 k215; (simp at *; omega)
                        have k221 : (0 : Int) ≤ f (i * (4 : Nat) + (1 : Nat)) := by clear k220 k219 k218 k217 k216 k215; (simp at *; omega)
                        have k222 : f (i * (4 : Nat) + (1 : Nat)) + (1 : Int) ≤ (634 : Int) := by clear k221 k220 k219 k218 k217 k216 k215; (simp at *; omega)
                        have k223 : (f (i * (4 : Nat) + (1 : Nat))).toNat.succ ≤ (634 : Nat) := by clear k222 k221 k220 k219 k218 k217 k216 k215; (simp at *; omega)
                        have k224 : n ≤ n := by clear k223 k222 k221 k220 k219 k218 k217 k216 k215; omega
                        have k225 : (↑(i + (1 : Nat)) : Int) = Go.IntKind.i64.wrap ((↑i : Int) + (1 : Int)) := by clear k224 k223 k222 k221 k220 k219 k218 k217 k216 k215; (rw [wrapk _ (by simp at *; omega)]; simp; done)
                        have k226 : n * (4 : Nat) ≤ n * (4 : Nat) := by clear k225 k224 k223 k222 k221 k220 k219 k218 k217 k216 k215; omega
                        have k227 : ∀ (k : Nat), k < n * (4 : Nat) → f k = f k := fun _ _ => rfl
                        have k228 : ∀ (k : Nat), k < (634 : Nat) → Go.Ideal.A2.arF f i g k = if k = (f (i * (4 : Nat) + (1 : Nat))).toNat then f (i * (4 : Nat) + (1 : Nat) + (1 : Nat) + (1 : Nat)) else g k := by clear k227 k226 k225 k224 k223 k222 k221 k220 k219 k218 k217 k216 k215; ((have hin : arIn f i := by (simp [arIn] at *; omega)); (intro k hk; simp [arF, hin, arNow, arKind] at *; simp [*]))
                        have k229 : Go.Ideal.A2.arL f i g t (0 : Nat) = (0 : Int) := by clear k228 k227 k226 k225 k224 k223 k222 k221 k220 k219 k218 k217 k216 k215; ((have hin : arIn f i := by (simp [arIn] at *; omega)); simp at h2; simp [arB', arL, hin, arNow, arKind, *])
                        have k230 : Go.Ideal.A2.arL f i g t (1 : Nat) = (2 : Int) := by clear k229 k228 k227 k226 k225 k224 k223 k222 k221 k220 k219 k218 k217 k216 k215; ((have hin : arIn f i := by (simp [arIn] at *; omega)); simp [arB', arL, hin, arNow, arKind] at *; simp [*])
                        have k231 : Go.Ideal.A2.arL f i g t (2 : Nat) = f (i * (4 : Nat) + (1 : Nat)) := by clear k230 k229 k228 k227 k226 k225 k224 k223 k222 k221 k220 k219 k218 k217 k216 k215; ((have hin : arIn f i := by (simp [arIn] at *; omega)); simp at h2; simp [arB', arL, hin, arNow, arKind, *])
                        have k232 : Go.Ideal.A2.arL f i g t (3 : Nat) = g (f (i * (4 : Nat) + (1 : Nat))).toNat := by clear k231 k230 k229 k228 k227 k226 k225 k224 k223 k222 k221 k220 k219 k218 k217 k216 k215; ((have hin : arIn f i := by (simp [arIn] at *; omega)); simp at h2; simp [arB', arL, hin, arNow, arKind, *])
                        have k233 : Go.Ideal.A2.arL f i g t (4 : Nat) = if (f (i * (4 : Nat) + (1 : Nat))).toNat = (f (i * (4 : Nat) + (1 : Nat))).toNat then f (i * (4 : Nat) + (1 : Nat) + (1 : Nat) + (1 : Nat)) else g (f (i * (4 : Nat) + (1 : Nat))).toNat := by clear k232 k231 k230 k229 k228 k227 k226 k225 k224 k223 k222 k221 k220 k219 k218 k217 k216 k215; ((have hin : arIn f i := by (simp [arIn] at *; omega)); simp [arB', arL, hin, arNow, arKind] at *; simp [*])
                        have k234 : Go.Ideal.A2.arL f i g t (5 : Nat) = (0 : Int) := by clear k233 k232 k231 k230 k229 k228 k227 k226 k225 k224 k223 k222 k221 k220 k219 k218 k217 k216 k215; ((have hin : arIn f i := by (simp [arIn] at *; omega)); simp at h2; simp [arB', arL, hin, arNow, arKind, *])
                        have k235 : Go.Ideal.A2.arL f i g t (6 : Nat) = (0 : Int) := by clear k234 k233 k232 k231 k230 k229 k228 k227 k226 k225 k224 k223 k222 k221 k220 k219 k218 k217 k216 k215; ((have hin : arIn f i := by (simp [arIn] at *; omega)); simp at h2; simp [arB', arL, hin, arNow, arKind, *])
                        have k236 : Go.Ideal.A2.arL f i g t (7 : Nat) = (0 : Int) := by clear k235 k234 k233 k232 k231 k230 k229 k228 k227 k226 k225 k224 k223 k222 k221 k220 k219 k218 k217 k216 k215; ((have hin : arIn f i := by (simp [arIn] at *; omega)); simp at h2; simp [arB', arL, hin, arNow, arKind, *])
                        have k237 : Go.Ideal.A2.arB' f i b = Bool.true := by clear k236 k235 k234 k233 k232 k231 k230 k229 k228 k227 k226 k225 k224 k223 k222 k221 k220 k219 k218 k217 k216 k215; ((have hin : arIn f i := by (simp [arIn] at *; omega)); simp at h2; simp [arB', arL, hin, arNow, arKind, *])
                        have k238 : Go.Ideal.A2.arL f i g t (4 : Nat) = f (i * (4 : Nat) + (1 : Nat) + (1 : Nat) + (1 : Nat)) := by clear k237 k236 k235 k234 k233 k232 k231 k230 k229 k228 k227 k226 k225 k224 k223 k222 k221 k220 k219 k218 k217 k216 k215; ((have hin : arIn f i := by (simp [arIn] at *; omega)); simp [arB', arL, hin, arNow, arKind] at *; simp [*])
                        have k239 : i.succ ≤ n := by clear k238 k237 k236 k235 k234 k233 k232 k231 k230 k229 k228 k227 k226 k225 k224 k223 k222 k221 k220 k219 k218 k217 k216 k215; (simp at *; omega)
                        refine vcIntro [true, true, false, false, false, true, false, false, false, false, false, false, false] (And.intro (And.intro h214 (And.intro h213 (And.intro k223 (And.intro (And.intro k221 k222) (And.intro k223 (And.intro (And.intro k221 k222) (And.intro h211 (And.intro h210 (And.intro h212 (And.intro k223 (And.intro (And.intro k221 k222) (And.intro h211 (And.intro h210 (And.intro k223 (And.intro (And.intro k221 k222) (And.intro k223 (And.intro (And.intro k221 k222) (And.intro h209 (And.intro k223 (And.intro (And.intro k221 k222) (And.intro h160 (And.intro h81 (And.intro h2 (And.intro k220 (And.intro k219 (And.intro k218 (And.intro k217 (And.intro (And.intro k215 k216) (And.intro h1 (And.intro h0 True.intro)))))))))))))))))))))))))))))) (And.intro (And.intro (And.intro (And.intro True.intro (And.intro (@Eq.refl (Nat) (n)) k224)) (And.intro True.intro (And.intro True.intro (And.intro k225 True.intro)))) (And.intro (And.intro k226 k227) (And.intro (And.intro (@Eq.refl (Nat) ((634 : Nat))) (And.intro k228 (And.intro k229 (And.intro k230 (And.intro k231 (And.intro k232 (And.intro k233 (And.intro k234 (And.intro k235 (And.intro k236 k237)))))))))) (And.intro (And.intro (@Eq.refl (Nat) ((634 : Nat))) (And.intro k228 (And.intro k229 (And.intro k230 (And.intro k231 (And.intro k232 (And.intro k238 (And.intro k234 (And.intro k235 (And.intro k236 k237)))))))))) True.intro)))) k239)) ?_
                        kernel_rfl
            ·
              rcases Bool.eq_false_or_eq_true (Decidable.decide (f (i * (4 : Nat) + (1 : Nat)) < (0 : Int))) with h240 | h240
              · exact False.elim (by (simp at *; omega))
              ·
                rcases Bool.eq_false_or_eq_true (Decidable.decide (f (i * (4 : Nat) + (1 : Nat)) ≥ (634 : Int))) with h241 | h241
                · exact False.elim (by (simp at *; omega))
                ·
                  rcases Bool.eq_false_or_eq_true (g (f (i * (4 : Nat) + (1 : Nat))).toNat != f (i * (4 : Nat) + (1 : Nat) + (1 : Nat))) with h242 | h242
                  ·
                    rcases Bool.eq_false_or_eq_true (g (f (i * (4 : Nat) + (1 : Nat))).toNat != g (f (i * (4 : Nat) + (1 : Nat))).toNat) with h243 | h243
                    · exact False.elim (by (simp_all; done))
                    ·
                      rcases Bool.eq_false_or_eq_true (!(f (i * (4 : Nat) + (1 : Nat)) == f (i * (4 : Nat) + (1 : Nat)) && (g (f (i * (4 : Nat) + (1 : Nat))).toNat == g (f (i * (4 : Nat) + (1 : Nat))).toNat && (if (f (i * (4 : Nat) + (1 : Nat))).toNat = (f (i * (4 : Nat) + (1 : Nat))).toNat then g (f (i * (4 : Nat) + (1 : Nat))).toNat else g (f (i * (4 : Nat) + (1 : Nat))).toNat) == g (f (i * (4 : Nat) + (1 : Nat))).toNat))) with h244 | h244
                      · exact False.elim (by (simp_all; done))
                      ·
                        have k245 : (0 : Int) ≤ (↑i : Int) := by omega
                        have k246 : (↑i : Int) + (1 : Int) ≤ (↑n : Int) := by clear k245; (simp at *; omega)
                        have k247 : (i * (4 : Nat) + (1 : Nat) + (1 : Nat) + (1 : Nat)).succ ≤ n * (4 : Nat) := by clear k246 k245; (simp at *; omega)
                        have k248 : (i * (4 : Nat) + (1 : Nat) + (1 : Nat)).succ ≤ n * (4 : Nat) := by clear k247 k246 k245; (simp at *; omega)
                        have k249 : (i * (4 : Nat) + (1 : Nat)).succ ≤ n * (4 : Nat) := by clear k248 k247 k246 k245; (simp at *; omega)
                        have k250 : (i * (4 : Nat)).succ ≤ n * (4 : Nat) := by clear k249 k248 k247 k246 k245; (simp at *; omega)
                        have k251 : (0 : Int) ≤ f (i * (4 : Nat) + (1 : Nat)) := by clear k250 k249 k248 k247 k246 k245; (simp at *; omega)
                        have k252 : f (i * (4 : Nat) + (1 : Nat)) + (1 : Int) ≤ (634 : Int) := by clear k251 k250 k249 k248 k247 k246 k245; (simp at *; omega)
                        have k253 : (f (i * (4 : Nat) + (1 : Nat))).toNat.succ ≤ (634 : Nat) := by clear k252 k251 k250 k249 k248 k247 k246 k245; (simp at *; omega)
                        have k254 : n ≤ n := by clear k253 k252 k251 k250 k249 k248 k247 k246 k245; omega
                        have k255 : (↑(i + (1 : Nat)) : Int) = Go.IntKind.i64.wrap ((↑i : Int) + (1 : Int)) := by clear k254 k253 k252 k251 k250 k249 k248 k247 k246 k245; (rw [wrapk _ (by simp at *; omega)]; simp; done)
                        have k256 : n * (4 : Nat) ≤ n * (4 : Nat) := by clear k255 k254 k253 k252 k251 k250 k249 k248 k247 k246 k245; omega
                        have k257 : ∀ (k : Nat), k < n * (4 : Nat) → f k = f k := fun _ _ => rfl
                        have k258 : ∀ (k : Nat), k < (634 : Nat) → Go.Ideal.A2.arF f i g k = if k = (f (i * (4 : Nat) + (1 : Nat))).toNat then g (f (i * (4 : Nat) + (1 : Nat))).toNat else g k := by clear k257 k256 k255 k254 k253 k252 k251 k250 k249 k248 k247 k246 k245; ((have hin : arIn f i := by (simp [arIn] at *; omega)); (intro k hk; simp [arF, hin, arNow, arKind] at *; simp [*]))
                        have k259 : Go.Ideal.A2.arL f i g t (0 : Nat) = (0 : Int) := by clear k258 k257 k256 k255 k254 k253 k252 k251 k250 k249 k248 k247 k246 k245; ((have hin : arIn f i := by (simp [arIn] at *; omega)); simp at h2; simp [arB', arL, hin, arNow, arKind, *])
                        have k260 : Go.Ideal.A2.arL f i g t (1 : Nat) = (2 : Int) := by clear k259 k258 k257 k256 k255 k254 k253 k252 k251 k250 k249 k248 k247 k246 k245; ((have hin : arIn f i := by (simp [arIn] at *; omega)); simp [arB', arL, hin, arNow, arKind] at *; simp [*])
                        have k261 : Go.Ideal.A2.arL f i g t (2 : Nat) = f (i * (4 : Nat) + (1 : Nat)) := by clear k260 k259 k258 k257 k256 k255 k254 k253 k252 k251 k250 k249 k248 k247 k246 k245; ((have hin : arIn f i := by (simp [arIn] at *; omega)); simp at h2; simp [arB', arL, hin, arNow, arKind, *])
                        have k262 : Go.Ideal.A2.arL f i g t (3 : Nat) = g (f (i * (4 : Nat) + (1 : Nat))).toNat := by clear k261 k260 k259 k258 k257 k256 k255 k254 k253 k252 k251 k250 k249 k248 k247 k246 k245; ((have hin : arIn f i := by (simp [arIn] at *; omega)); simp at h2; simp [arB', arL, hin, arNow, arKind, *])
                        have k263 : Go.Ideal.A2.arL f i g t (4 : Nat) = if (f (i * (4 : Nat) + (1 : Nat))).toNat = (f (i * (4 : Nat) + (1 : Nat))).toNat then g (f (i * (4 : Nat) + (1 : Nat))).toNat else g (f (i * (4 : Nat) + (1 : Nat))).toNat := by clear k262 k261 k260 k259 k258 k257 k256 k255 k254 k253 k252 k251 k250 k249 k248 k247 k246 k245; ((have hin : arIn f i := by (simp [arIn] at *; omega)); simp [arB', arL, hin, arNow, arKind] at *; simp [*])
                        have k264 : Go.Ideal.A2.arL f i g t (5 : Nat) = (0 : Int) := by clear k263 k262 k261 k260 k259 k258 k257 k256 k255 k254 k253 k252 k251 k250 k249 k248 k247 k246 k245; ((have hin : arIn f i := by (simp [arIn] at *; omega)); simp at h2; simp [arB', arL, hin, arNow, arKind, *])
                        have k265 : Go.Ideal.A2.arL f i g t (6 : Nat) = (0 : Int) := by clear k264 k263 k262 k261 k260 k259 k258 k257 k256 k255 k254 k253 k252 k251 k250 k249 k248 k247 k246 k245; ((have hin : arIn f i := by (simp [arIn] at *; omega)); simp at h2; simp [arB', arL, hin, arNow, arKind, *])
                        have k266 : Go.Ideal.A2.arL f i g t (7 : Nat) = (0 : Int) := by clear k265 k264 k263 k262 k261 k260 k259 k258 k257 k256 k255 k254 k253 k252 k251 k250 k249 k248 k247 k246 k245; ((have hin : arIn f i := by (simp [arIn] at *; omega)); simp at h2; simp [arB', arL, hin, arNow, arKind, *])
                        have k267 : Go.Ideal.A2.arB' f i b = Bool.true := by clear k266 k265 k264 k263 k262 k261 k260 k259 k258 k257 k256 k255 k254 k253 k252 k251 k250 k249 k248 k247 k246 k245; ((have hin : arIn f i := by (simp [arIn] at *; omega)); simp at h2; simp [arB', arL, hin, arNow, arKind, *])
                        have k268 : Go.Ideal.A2.arL f i g t (4 : Nat) = g (f (i * (4 : Nat) + (1 : Nat))).toNat := by clear k267 k266 k265 k264 k263 k262 k261 k260 k259 k258 k257 k256 k255 k254 k253 k252 k251 k250 k249 k248 k247 k246 k245; ((have hin : arIn f i := by (simp [arIn] at *; omega)); simp [arB', arL, hin, arNow, arKind] at *; simp [*])
                        have k269 : i.succ ≤ n := by clear k268 k267 k266 k265 k264 k263 k262 k261 k260 k259 k258 k257 k256 k255 k254 k253 k252 k251 k250 k249 k248 k247 k246 k245; (simp at *; omega)
                        refine vcIntro [true, true, false, false, false, false, false, false, true, false, false, false, false] (And.intro (And.intro h244 (And.intro h243 (And.intro k253 (And.intro (And.intro k251 k252) (And.intro k253 (And.intro (And.intro k251 k252) (And.intro h241 (And.intro h240 (And.intro k253 (And.intro (And.intro k251 k252) (And.intro h242 (And.intro k253 (And.intro (And.intro k251 k252) (And.intro h241 (And.intro h240 (And.intro k253 (And.intro (And.intro k251 k252) (And.intro k253 (And.intro (And.intro k251 k252) (And.intro h209 (And.intro k253 (And.intro (And.intro k251 k252) (And.intro h160 (And.intro h81 (And.intro h2 (And.intro k250 (And.intro k249 (And.intro k248 (And.intro k247 (And.intro (And.intro k245 k246) (And.intro h1 (And.intro h0 True.intro)))))))))))))))))))))))))))))))) (And.intro (And.intro (And.intro (And.intro True.intro (And.intro (@Eq.refl (Nat) (n)) k254)) (And.intro True.intro (And.intro True.intro (And.intro k255 True.intro)))) (And.intro (And.intro k256 k257) (And.intro (And.intro (@Eq.refl (Nat) ((634 : Nat))) (And.intro k258 (And.intro k259 (And.intro k260 (And.intro k261 (And.intro k262 (And.intro k263 (And.intro k264 (And.intro k265 (And.intro k266 k267)))))))))) (And.intro (And.intro (@Eq.refl (Nat) ((634 : Nat))) (And.intro k258 (And.intro k259 (And.intro k260 (And.intro k261 (And.intro k262 (And.intro k268 (And.intro k264 (And.intro k265 (And.intro k266 k267)))))))))) True.intro)))) k269)) ?_
                        kernel_rfl
                  · exact False.elim (by (simp at *; omega))
    ·
      have k270 : n ≤ n := by omega
      have k271 : n * (4 : Nat) ≤ n * (4 : Nat) := by clear k270; omega
      have k272 : ∀ (k : Nat), k < n * (4 : Nat) → f k = f k := fun _ _ => rfl
      have k273 : ∀ (k : Nat), k < (634 : Nat) → g k = g k := fun _ _ => rfl
      refine vcIntro [true, false] (And.intro (And.intro h1 (And.intro h0 True.intro)) (And.intro (And.intro (And.intro (And.intro True.intro (And.intro (@Eq.refl (Nat) (n)) k270)) (And.intro True.intro (And.intro True.intro (And.intro (@Eq.refl (Int) ((↑i : Int))) True.intro)))) (And.intro (And.intro k271 k272) (And.intro (And.intro (@Eq.refl (Nat) ((634 : Nat))) (And.intro k273 (And.intro (@Eq.refl (Int) (t (0 : Nat))) (And.intro (@Eq.refl (Int) (t (1 : Nat))) (And.intro (@Eq.refl (Int) (t (2 : Nat))) (And.intro (@Eq.refl (Int) (t (3 : Nat))) (And.intro (@Eq.refl (Int) (t (4 : Nat))) (And.intro (@Eq.refl (Int) (t (5 : Nat))) (And.intro (@Eq.refl (Int) (t (6 : Nat))) (And.intro (@Eq.refl (Int) (t (7 : Nat))) (@Eq.refl (Bool) (b)))))))))))) (And.intro (And.intro (@Eq.refl (Nat) ((634 : Nat))) (And.intro k273 (And.intro (@Eq.refl (Int) (t (0 : Nat))) (And.intro (@Eq.refl (Int) (t (1 : Nat))) (And.intro (@Eq.refl (Int) (t (2 : Nat))) (And.intro (@Eq.refl (Int) (t (3 : Nat))) (And.intro (@Eq.refl (Int) (t (4 : Nat))) (And.intro (@Eq.refl (Int) (t (5 : Nat))) (And.intro (@Eq.refl (Int) (t (6 : Nat))) (And.intro (@Eq.refl (Int) (t (7 : Nat))) (@Eq.refl (Bool) (b)))))))))))) True.intro)))) True.intro)) ?_
      kernel_rfl
  ·
    have k274 : n ≤ n := by omega
    have k275 : n * (4 : Nat) ≤ n * (4 : Nat) := by clear k274; omega
    have k276 : ∀ (k : Nat), k < n * (4 : Nat) → f k = f k := fun _ _ => rfl
    have k277 : ∀ (k : Nat), k < (634 : Nat) → g k = g k := fun _ _ => rfl
    refine vcIntro [false] (And.intro (And.intro h0 True.intro) (And.intro (And.intro (And.intro (And.intro True.intro (And.intro (@Eq.refl (Nat) (n)) k274)) (And.intro True.intro (And.intro True.intro (And.intro (@Eq.refl (Int) ((↑i : Int))) True.intro)))) (And.intro (And.intro k275 k276) (And.intro (And.intro (@Eq.refl (Nat) ((634 : Nat))) (And.intro k277 (And.intro (@Eq.refl (Int) (t (0 : Nat))) (And.intro (@Eq.refl (Int) (t (1 : Nat))) (And.intro (@Eq.refl (Int) (t (2 : Nat))) (And.intro (@Eq.refl (Int) (t (3 : Nat))) (And.intro (@Eq.refl (Int) (t (4 : Nat))) (And.intro (@Eq.refl (Int) (t (5 : Nat))) (And.intro (@Eq.refl (Int) (t (6 : Nat))) (And.intro (@Eq.refl (Int) (t (7 : Nat))) (@Eq.refl (Bool) (b)))))))))))) (And.intro (And.intro (@Eq.refl (Nat) ((634 : Nat))) (And.intro k277 (And.intro (@Eq.refl (Int) (t (0 : Nat))) (And.intro (@Eq.refl (Int) (t (1 : Nat))) (And.intro (@Eq.refl (Int) (t (2 : Nat))) (And.intro (@Eq.refl (Int) (t (3 : Nat))) (And.intro (@Eq.refl (Int) (t (4 : Nat))) (And.intro (@Eq.refl (Int) (t (5 : Nat))) (And.intro (@Eq.refl (Int) (t (6 : Nat))) (And.intro (@Eq.refl (Int) (t (7 : Nat))) (@Eq.refl (Bool) (b)))))))))))) True.intro)))) True.intro)) ?_
    kernel_rfl
theorem arenas_end (f : Nat → Int) (n i : Nat) (g t : Nat → Int) (b : Bool) : ∃ hh, vcOf (runRet Try.prog specs2 noL 3000 9 [1,1,1,1,0,1,0] (.exit 0) (Tr.ofPairs (arT n i)) (Hm (arBs f n g t b) 3) hh) (fun v _ => isT v) := by

  rcases Bool.eq_false_or_eq_true (!Go.Ideal.L1.sameF (634 : Nat) g g) with h0 | h0
  · exact False.elim (by (simp [sameF] at *; done))
  ·
    rcases Bool.eq_false_or_eq_true (Go.Ideal.L1.sameF (634 : Nat) g g) with h1 | h1
    ·
      refine vcIntro [false, true] (And.intro (And.intro h1 (And.intro h0 True.intro)) True.intro) ?_
      kernel_rfl
    · exact False.elim (by (simp [sameF] at *; done))

theorem arenas_q (f : Nat → Int) (n : Nat) (_ : ∀ i, i < n * 4 → -9223372036854775808 ≤ f i ∧ f i ≤ 9223372036854775807) (hn : n ≤ maxLen) :
    CallQ Try.prog 9 [.slice 0 (.c 0) (.s n) 4 (.s n)] (Hx [.ext f (.s (n * 4))]) (fun v _ => isT v) :=
  CallQ.loop1 (n := 3000) specs2_ok mixed (fun a : Nat × (Nat → Int) × (Nat → Int) × Bool => arT n a.1) (fun a => arBs f n a.2.1 a.2.2.1 a.2.2.2) 3 [0, 1, 2] (fun a => n - a.1) (fun a => a.1 ≤ n)
    (fun a => (a.1 + 1, arF f a.1 a.2.1, arL f a.1 a.2.1 a.2.2.1, arB' f a.1 a.2.2.2)) (fun a => a.1 < n) 0 (fun a => arT n a.1) (fun a => arBs f n a.2.1 a.2.2.1 a.2.2.2) (fun _ => True) (by kernel_rfl) (by kernel_rfl)
    (0, arena0, (fun _ => 0), false) (Nat.zero_le _) (arenas_go f n) (fun a ha => arenas_body f n a.1 a.2.1 a.2.2.1 a.2.2.2 hn ha)
    (fun a ha hc => ⟨hc, by have h : a.1 < n := hc; show n - (a.1 + 1) < n - a.1; omega⟩) (fun a ha _ => arenas_end f n a.1 a.2.1 a.2.2.1 a.2.2.2)
end Go.Ideal.A2
