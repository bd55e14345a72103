/- Chapter 2: ArenaApart. Own text. -/
import Derived.Test.YtchgfecghackdaaA2c
namespace Go.Ideal.A2
open Go.Proofs Go.Ideal Go.Ideal.L1
set_option linter.unusedSimpArgs false
set_option linter.unusedVariables false
set_option maxRecDepth 100000
set_option maxHeartbeats 4000000

def apT (n i : Nat) : List (Nat × V) := [(0, .slice 0 (.c 0) (.s n) 4 (.s n)), (3, .ptr 1 (.c 0)), (4, .int .i64 (.s i))]
def apB (f : Nat → Int) (n : Nat) (g : Nat → Int) : List (Option Blk) := [some (.ext f (.s (n * 4))), some (arB g)]
def apAt (f : Nat → Int) (i : Nat) : Int := IntKind.i64.wrap ((IntKind.u64.wrap (f (i * 4 + 1))).tmod 634)
def apF (f : Nat → Int) (i : Nat) (g : Nat → Int) (k : Nat) : Int := if k = (apAt f i).toNat then (if f (i * 4) % 4 = 0 then g k else if f (i * 4) % 4 = 1 then f (i * 4 + 3) else if g k = f (i * 4 + 2) then f (i * 4 + 3) else g k) else g k
theorem apAt_lt (f : Nat → Int) (i : Nat) : 0 ≤ apAt f i ∧ apAt f i < 634 := by
  have h : 0 ≤ IntKind.u64.wrap (f (i * 4 + 1)) := by simp [IntKind.wrap, IntKind.bits, IntKind.signed]; omega
  have h1 : (IntKind.u64.wrap (f (i * 4 + 1))).tmod 634 = IntKind.u64.wrap (f (i * 4 + 1)) % 634 := Int.tmod_eq_emod_of_nonneg h
  unfold apAt
  rw [h1, wrapk _ (by omega)]
  omega

theorem apart_go (f : Nat → Int) (n : Nat) : ∃ hh, vcOf (runGo Try.prog specs2 noL 3000 12 [] [1,1,1,1,0,1,0] (Tr.ofList [.slice 0 (.c 0) (.s n) 4 (.s n)]) (Hx [.ext f (.s (n * 4))]) hh)
    (reached fun T1 H1 => weakP T1 H1 (apT n 0) (apB f n arena0) 2) := by

  have k0 : n ≤ n := by (simp; done)
  have k1 : n * (4 : Nat) ≤ n * (4 : Nat) := by clear k0; (simp; done)
  have k2 : ∀ (k : Nat), k < n * (4 : Nat) → f k = f k := fun _ _ => rfl
  have k3 : ∀ (k : Nat), k < (634 : Nat) → Go.Ideal.A2.arena0 k = Go.Ideal.A2.arena0 k := fun _ _ => rfl
  refine vcIntro [] (And.intro True.intro (And.intro (And.intro (And.intro True.intro (And.intro (@Eq.refl (Nat) (n)) k0)) (And.intro True.intro (And.intro (@Eq.refl (Int) ((0 : Int))) True.intro))) (And.intro (And.intro k1 k2) (And.intro (And.intro (@Eq.refl (Nat) ((634 : Nat))) (And.intro k3 (And.intro True.intro (And.intro True.intro (And.intro True.intro (And.intro True.intro (And.intro True.intro (And.intro True.intro (And.intro True.intro (And.intro True.intro True.intro)))))))))) True.intro)))) ?_
  kernel_rfl
theorem apart_body (f : Nat → Int) (n i : Nat) (g : Nat → Int) (hn : n ≤ 9223372036854775807) (hi : i ≤ n) :
    ∃ hh, vcOf (runAt Try.prog specs2 noL 3000 12 [1,1,1,1,0,1,0,0] (Tr.ofPairs (apT n i)) (Hm (apB f n g) 2) hh)
    (roundK 2 [0, 1] (apT n (i + 1)) (apB f n (apF f i g)) (i < n) 0 (apT n i) (apB f n g) True) := by
  have hx := apAt_lt f i

  rcases Bool.eq_false_or_eq_true (Decidable.decide ((↑i : Int) < (↑n : Int))) with h0 | h0
  ·
    rcases Bool.eq_false_or_eq_true (Decidable.decide ((↑i : Int) < (20 : Int))) with h1 | h1
    ·
      rcases Bool.eq_false_or_eq_true (f (i * (4 : Nat) + (0 : Nat)) % (4 : Int) == (0 : Int)) with h2 | h2
      ·
        rcases Bool.eq_false_or_eq_true (!(Decidable.decide ((0 : Int) ≤ Go.IntKind.i64.wrap ((Go.IntKind.u64.wrap (f (i * (4 : Nat) + (1 : Nat)))).tmod (634 : Int))) && Decidable.decide (Go.IntKind.i64.wrap ((Go.IntKind.u64.wrap (f (i * (4 : Nat) + (1 : Nat)))).tmod (634 : Int)) < (634 : Int)))) with h3 | h3
        · exact False.elim (by (simp [apAt] at *; omega))
        ·
          rcases Bool.eq_false_or_eq_true (Go.IntKind.i64.wrap ((Go.IntKind.u64.wrap (f (i * (4 : Nat) + (1 : Nat)))).tmod (634 : Int)) != Go.IntKind.i64.wrap ((Go.IntKind.u64.wrap (f (i * (4 : Nat) + (1 : Nat)))).tmod (634 : Int))) with h4 | h4
          · exact False.elim (by (simp_all; done))
          ·
            rcases Bool.eq_false_or_eq_true (g (Go.IntKind.i64.wrap ((Go.IntKind.u64.wrap (f (i * (4 : Nat) + (1 : Nat)))).tmod (634 : Int))).toNat != g (Go.IntKind.i64.wrap ((Go.IntKind.u64.wrap (f (i * (4 : Nat) + (1 : Nat)))).tmod (634 : Int))).toNat) with h5 | h5
            · exact False.elim (by (simp_all; done))
            ·
              rcases Bool.eq_false_or_eq_true ((if (Go.IntKind.i64.wrap ((Go.IntKind.u64.wrap (f (i * (4 : Nat) + (1 : Nat)))).tmod (634 : Int))).toNat = (Go.IntKind.i64.wrap ((Go.IntKind.u64.wrap (f (i * (4 : Nat) + (1 : Nat)))).tmod (634 : Int))).toNat then g (Go.IntKind.i64.wrap ((Go.IntKind.u64.wrap (f (i * (4 : Nat) + (1 : Nat)))).tmod (634 : Int))).toNat else g (Go.IntKind.i64.wrap ((Go.IntKind.u64.wrap (f (i * (4 : Nat) + (1 : Nat)))).tmod (634 : Int))).toNat) != if (Go.IntKind.i64.wrap ((Go.IntKind.u64.wrap (f (i * (4 : Nat) + (1 : Nat)))).tmod (634 : Int))).toNat = (Go.IntKind.i64.wrap ((Go.IntKind.u64.wrap (f (i * (4 : Nat) + (1 : Nat)))).tmod (634 : Int))).toNat then g (Go.IntKind.i64.wrap ((Go.IntKind.u64.wrap (f (i * (4 : Nat) + (1 : Nat)))).tmod (634 : Int))).toNat else g (Go.IntKind.i64.wrap ((Go.IntKind.u64.wrap (f (i * (4 : Nat) + (1 : Nat)))).tmod (634 : Int))).toNat) with h6 | h6
              · exact False.elim (by (simp_all; done))
              ·
                rcases Bool.eq_false_or_eq_true (!Go.Ideal.L1.sameF (634 : Nat) (fun k ↦ if k = (Go.IntKind.i64.wrap ((Go.IntKind.u64.wrap (f (i * (4 : Nat) + (1 : Nat)))).tmod (634 : Int))).toNat then if (Go.IntKind.i64.wrap ((Go.IntKind.u64.wrap (f (i * (4 : Nat) + (1 : Nat)))).tmod (634 : Int))).toNat = (Go.IntKind.i64.wrap ((Go.IntKind.u64.wrap (f (i * (4 : Nat) + (1 : Nat)))).tmod (634 : Int))).toNat then g (Go.IntKind.i64.wrap ((Go.IntKind.u64.wrap (f (i * (4 : Nat) + (1 : Nat)))).tmod (634 : Int))).toNat else g (Go.IntKind.i64.wrap ((Go.IntKind.u64.wrap (f (i * (4 : Nat) + (1 : Nat)))).tmod (634 : Int))).toNat else g k) fun k ↦ if k = (Go.IntKind.i64.wrap ((Go.IntKind.u64.wrap (f (i * (4 : Nat) + (1 : Nat)))).tmod (634 : Int))).toNat then g (Go.IntKind.i64.wrap ((Go.IntKind.u64.wrap (f (i * (4 : Nat) + (1 : Nat)))).tmod (634 : Int))).toNat else g k) with h7 | h7
                · exact False.elim (by (simp [sameF] at *; done))
                ·
                  have k8 : (0 : Int) ≤ (↑i : Int) := by omega
                  have k9 : (↑i : Int) + (1 : Int) ≤ (↑n : Int) := by clear k8; (simp [apAt] at *; omega)
                  have k10 : (i * (4 : Nat) + (1 : Nat)).succ ≤ n * (4 : Nat) := by clear k9 k8; (simp [apAt] at *; omega)
                  have k11 : (i * (4 : Nat) + (0 : Nat)).succ ≤ n * (4 : Nat) := by clear k10 k9 k8; (simp [apAt] at *; omega)
                  have k12 : (0 : Int) ≤ Go.IntKind.i64.wrap ((Go.IntKind.u64.wrap (f (i * (4 : Nat) + (1 : Nat)))).tmod (634 : Int)) := by clear k11 k10 k9 k8; (simp [apAt] at *; omega)
                  have k13 : Go.IntKind.i64.wrap ((Go.IntKind.u64.wrap (f (i * (4 : Nat) + (1 : Nat)))).tmod (634 : Int)) + (1 : Int) ≤ (634 : Int) := by clear k12 k11 k10 k9 k8; (simp [apAt] at *; omega)
                  have k14 : (Go.IntKind.i64.wrap ((Go.IntKind.u64.wrap (f (i * (4 : Nat) + (1 : Nat)))).tmod (634 : Int))).toNat.succ ≤ (634 : Nat) := by clear k13 k12 k11 k10 k9 k8; (simp [apAt] at *; omega)
                  have k15 : n ≤ n := by clear k14 k13 k12 k11 k10 k9 k8; omega
                  have k16 : (↑(i + (1 : Nat)) : Int) = Go.IntKind.i64.wrap ((↑i : Int) + (1 : Int)) := by clear k15 k14 k13 k12 k11 k10 k9 k8; (rw [wrapk _ (by simp at *; omega)]; simp; done)
                  have k17 : n * (4 : Nat) ≤ n * (4 : Nat) := by clear k16 k15 k14 k13 k12 k11 k10 k9 k8; omega
                  have k18 : ∀ (k : Nat), k < n * (4 : Nat) → f k = f k := fun _ _ => rfl
                  have k19 : ∀ (k : Nat), k < (634 : Nat) → Go.Ideal.A2.apF f i g k = if k = (Go.IntKind.i64.wrap ((Go.IntKind.u64.wrap (f (i * (4 : Nat) + (1 : Nat)))).tmod (634 : Int))).toNat then g (Go.IntKind.i64.wrap ((Go.IntKind.u64.wrap (f (i * (4 : Nat) + (1 : Nat)))).tmod (634 : Int))).toNat else g k := by clear k18 k17 k16 k15 k14 k13 k12 k11 k10 k9 k8; (intro k hk; simp [apF, apAt] at *; (repeat' split) <;> simp_all <;> omega)
                  have k20 : i.succ ≤ n := by clear k19 k18 k17 k16 k15 k14 k13 k12 k11 k10 k9 k8; (simp [apAt] at *; omega)
                  refine vcIntro [true, true, true, false, false, false, false, false] (And.intro (And.intro h7 (And.intro k14 (And.intro (And.intro k12 k13) (And.intro k14 (And.intro (And.intro k12 k13) (And.intro h6 (And.intro k14 (And.intro (And.intro k12 k13) (And.intro h5 (And.intro k14 (And.intro (And.intro k12 k13) (And.intro h4 (And.intro k14 (And.intro (And.intro k12 k13) (And.intro k14 (And.intro (And.intro k12 k13) (And.intro k14 (And.intro (And.intro k12 k13) (And.intro h3 (And.intro h2 (And.intro k11 (And.intro (And.intro k8 k9) (And.intro k10 (And.intro (And.intro k8 k9) (And.intro h1 (And.intro h0 True.intro)))))))))))))))))))))))))) (And.intro (And.intro (And.intro (And.intro True.intro (And.intro (@Eq.refl (Nat) (n)) k15)) (And.intro True.intro (And.intro k16 True.intro))) (And.intro (And.intro k17 k18) (And.intro (And.intro (@Eq.refl (Nat) ((634 : Nat))) (And.intro k19 (And.intro True.intro (And.intro True.intro (And.intro True.intro (And.intro True.intro (And.intro True.intro (And.intro True.intro (And.intro True.intro (And.intro True.intro True.intro)))))))))) True.intro))) k20)) ?_
                  kernel_rfl
      ·
        rcases Bool.eq_false_or_eq_true (f (i * (4 : Nat) + (0 : Nat)) % (4 : Int) == (1 : Int)) with h21 | h21
        ·
          rcases Bool.eq_false_or_eq_true (!(Decidable.decide ((0 : Int) ≤ Go.IntKind.i64.wrap ((Go.IntKind.u64.wrap (f (i * (4 : Nat) + (1 : Nat)))).tmod (634 : Int))) && Decidable.decide (Go.IntKind.i64.wrap ((Go.IntKind.u64.wrap (f (i * (4 : Nat) + (1 : Nat)))).tmod (634 : Int)) < (634 : Int)))) with h22 | h22
          · exact False.elim (by (simp [apAt] at *; omega))
          ·
            rcases Bool.eq_false_or_eq_true (Go.IntKind.i64.wrap ((Go.IntKind.u64.wrap (f (i * (4 : Nat) + (1 : Nat)))).tmod (634 : Int)) != Go.IntKind.i64.wrap ((Go.IntKind.u64.wrap (f (i * (4 : Nat) + (1 : Nat)))).tmod (634 : Int))) with h23 | h23
            · exact False.elim (by (simp_all; done))
            ·
              rcases Bool.eq_false_or_eq_true (g (Go.IntKind.i64.wrap ((Go.IntKind.u64.wrap (f (i * (4 : Nat) + (1 : Nat)))).tmod (634 : Int))).toNat != g (Go.IntKind.i64.wrap ((Go.IntKind.u64.wrap (f (i * (4 : Nat) + (1 : Nat)))).tmod (634 : Int))).toNat) with h24 | h24
              · exact False.elim (by (simp_all; done))
              ·
                rcases Bool.eq_false_or_eq_true ((if (Go.IntKind.i64.wrap ((Go.IntKind.u64.wrap (f (i * (4 : Nat) + (1 : Nat)))).tmod (634 : Int))).toNat = (Go.IntKind.i64.wrap ((Go.IntKind.u64.wrap (f (i * (4 : Nat) + (1 : Nat)))).tmod (634 : Int))).toNat then f (i * (4 : Nat) + (3 : Nat)) else g (Go.IntKind.i64.wrap ((Go.IntKind.u64.wrap (f (i * (4 : Nat) + (1 : Nat)))).tmod (634 : Int))).toNat) != if (Go.IntKind.i64.wrap ((Go.IntKind.u64.wrap (f (i * (4 : Nat) + (1 : Nat)))).tmod (634 : Int))).toNat = (Go.IntKind.i64.wrap ((Go.IntKind.u64.wrap (f (i * (4 : Nat) + (1 : Nat)))).tmod (634 : Int))).toNat then f (i * (4 : Nat) + (3 : Nat)) else g (Go.IntKind.i64.wrap ((Go.IntKind.u64.wrap (f (i * (4 : Nat) + (1 : Nat)))).tmod (634 : Int))).toNat) with h25 | h25
                · exact False.elim (by (simp_all; done))
                ·
                  rcases Bool.eq_false_or_eq_true (!Go.Ideal.L1.sameF (634 : Nat) (fun k ↦ if k = (Go.IntKind.i64.wrap ((Go.IntKind.u64.wrap (f (i * (4 : Nat) + (1 : Nat)))).tmod (634 : Int))).toNat then if (Go.IntKind.i64.wrap ((Go.IntKind.u64.wrap (f (i * (4 : Nat) + (1 : Nat)))).tmod (634 : Int))).toNat = (Go.IntKind.i64.wrap ((Go.IntKind.u64.wrap (f (i * (4 : Nat) + (1 : Nat)))).tmod (634 : Int))).toNat then f (i * (4 : Nat) + (3 : Nat)) else g (Go.IntKind.i64.wrap ((Go.IntKind.u64.wrap (f (i * (4 : Nat) + (1 : Nat)))).tmod (634 : Int))).toNat else g k) fun k ↦ if k = (Go.IntKind.i64.wrap ((Go.IntKind.u64.wrap (f (i * (4 : Nat) + (1 : Nat)))).tmod (634 : Int))).toNat then f (i * (4 : Nat) + (3 : Nat)) else g k) with h26 | h26
                  · exact False.elim (by (simp [sameF] at *; done))
                  ·
                    have k27 : (0 : Int) ≤ (↑i : Int) := by omega
                    have k28 : (↑i : Int) + (1 : Int) ≤ (↑n : Int) := by clear k27; (simp [apAt] at *; omega)
                    have k29 : (i * (4 : Nat) + (1 : Nat)).succ ≤ n * (4 : Nat) := by clear k28 k27; (simp [apAt] at *; omega)
                    have k30 : (i * (4 : Nat) + (0 : Nat)).succ ≤ n * (4 : Nat) := by clear k29 k28 k27; (simp [apAt] at *; omega)
                    have k31 : (i * (4 : Nat) + (3 : Nat)).succ ≤ n * (4 : Nat) := by clear k30 k29 k28 k27; (simp [apAt] at *; omega)
                    have k32 : (0 : Int) ≤ Go.IntKind.i64.wrap ((Go.IntKind.u64.wrap (f (i * (4 : Nat) + (1 : Nat)))).tmod (634 : Int)) := by clear k31 k30 k29 k28 k27; (simp [apAt] at *; omega)
                    have k33 : Go.IntKind.i64.wrap ((Go.IntKind.u64.wrap (f (i * (4 : Nat) + (1 : Nat)))).tmod (634 : Int)) + (1 : Int) ≤ (634 : Int) := by clear k32 k31 k30 k29 k28 k27; (simp [apAt] at *; omega)
                    have k34 : (Go.IntKind.i64.wrap ((Go.IntKind.u64.wrap (f (i * (4 : Nat) + (1 : Nat)))).tmod (634 : Int))).toNat.succ ≤ (634 : Nat) := by clear k33 k32 k31 k30 k29 k28 k27; (simp [apAt] at *; omega)
                    have k35 : n ≤ n := by clear k34 k33 k32 k31 k30 k29 k28 k27; omega
                    have k36 : (↑(i + (1 : Nat)) : Int) = Go.IntKind.i64.wrap ((↑i : Int) + (1 : Int)) := by clear k35 k34 k33 k32 k31 k30 k29 k28 k27; (rw [wrapk _ (by simp at *; omega)]; simp; done)
                    have k37 : n * (4 : Nat) ≤ n * (4 : Nat) := by clear k36 k35 k34 k33 k32 k31 k30 k29 k28 k27; omega
                    have k38 : ∀ (k : Nat), k < n * (4 : Nat) → f k = f k := fun _ _ => rfl
                    have k39 : ∀ (k : Nat), k < (634 : Nat) → Go.Ideal.A2.apF f i g k = if k = (Go.IntKind.i64.wrap ((Go.IntKind.u64.wrap (f (i * (4 : Nat) + (1 : Nat)))).tmod (634 : Int))).toNat then f (i * (4 : Nat) + (3 : Nat)) else g k := by clear k38 k37 k36 k35 k34 k33 k32 k31 k30 k29 k28 k27; (intro k hk; simp [apF, apAt] at *; (repeat' split) <;> simp_all <;> omega)
                    have k40 : i.succ ≤ n := by clear k39 k38 k37 k36 k35 k34 k33 k32 k31 k30 k29 k28 k27; (simp [apAt] at *; omega)
                    refine vcIntro [true, true, false, true, false, false, false, false, false] (And.intro (And.intro h26 (And.intro k34 (And.intro (And.intro k32 k33) (And.intro k34 (And.intro (And.intro k32 k33) (And.intro h25 (And.intro k34 (And.intro (And.intro k32 k33) (And.intro h24 (And.intro k34 (And.intro (And.intro k32 k33) (And.intro h23 (And.intro k34 (And.intro (And.intro k32 k33) (And.intro k34 (And.intro (And.intro k32 k33) (And.intro k34 (And.intro (And.intro k32 k33) (And.intro h22 (And.intro k31 (And.intro (And.intro k27 k28) (And.intro h21 (And.intro h2 (And.intro k30 (And.intro (And.intro k27 k28) (And.intro k29 (And.intro (And.intro k27 k28) (And.intro h1 (And.intro h0 True.intro))))))))))))))))))))))))))))) (And.intro (And.intro (And.intro (And.intro True.intro (And.intro (@Eq.refl (Nat) (n)) k35)) (And.intro True.intro (And.intro k36 True.intro))) (And.intro (And.intro k37 k38) (And.intro (And.intro (@Eq.refl (Nat) ((634 : Nat))) (And.intro k39 (And.intro True.intro (And.intro True.intro (And.intro True.intro (And.intro True.intro (And.intro True.intro (And.intro True.intro (And.intro True.intro (And.intro True.intro True.intro)))))))))) True.intro))) k40)) ?_
                    kernel_rfl
        ·
          rcases Bool.eq_false_or_eq_true (!(Decidable.decide ((0 : Int) ≤ Go.IntKind.i64.wrap ((Go.IntKind.u64.wrap (f (i * (4 : Nat) + (1 : Nat)))).tmod (634 : Int))) && Decidable.decide (Go.IntKind.i64.wrap ((Go.IntKind.u64.wrap (f (i * (4 : Nat) + (1 : Nat)))).tmod (634 : Int)) < (634 : Int)))) with h41 | h41
          · exact False.elim (by (simp [apAt] at *; omega))
          ·
            rcases Bool.eq_false_or_eq_true (g (Go.IntKind.i64.wrap ((Go.IntKind.u64.wrap (f (i * (4 : Nat) + (1 : Nat)))).tmod (634 : Int))).toNat == f (i * (4 : Nat) + (2 : Nat))) with h42 | h42
            ·
              rcases Bool.eq_false_or_eq_true (Go.IntKind.i64.wrap ((Go.IntKind.u64.wrap (f (i * (4 : Nat) + (1 : Nat)))).tmod (634 : Int)) != Go.IntKind.i64.wrap ((Go.IntKind.u64.wrap (f (i * (4 : Nat) + (1 : Nat)))).tmod (634 : Int))) with h43 | h43
              · exact False.elim (by (simp_all; done))
              ·
                rcases Bool.eq_false_or_eq_true (g (Go.IntKind.i64.wrap ((Go.IntKind.u64.wrap (f (i * (4 : Nat) + (1 : Nat)))).tmod (634 : Int))).toNat != g (Go.IntKind.i64.wrap ((Go.IntKind.u64.wrap (f (i * (4 : Nat) + (1 : Nat)))).tmod (634 : Int))).toNat) with h44 | h44
                · exact False.elim (by (simp_all; done))
                ·
                  rcases Bool.eq_false_or_eq_true ((if (Go.IntKind.i64.wrap ((Go.IntKind.u64.wrap (f (i * (4 : Nat) + (1 : Nat)))).tmod (634 : Int))).toNat = (Go.IntKind.i64.wrap ((Go.IntKind.u64.wrap (f (i * (4 : Nat) + (1 : Nat)))).tmod (634 : Int))).toNat then f (i * (4 : Nat) + (3 : Nat)) else g (Go.IntKind.i64.wrap ((Go.IntKind.u64.wrap (f (i * (4 : Nat) + (1 : Nat)))).tmod (634 : Int))).toNat) != if (Go.IntKind.i64.wrap ((Go.IntKind.u64.wrap (f (i * (4 : Nat) + (1 : Nat)))).tmod (634 : Int))).toNat = (Go.IntKind.i64.wrap ((Go.IntKind.u64.wrap (f (i * (4 : Nat) + (1 : Nat)))).tmod (634 : Int))).toNat then f (i * (4 : Nat) + (3 : Nat)) else g (Go.IntKind.i64.wrap ((Go.IntKind.u64.wrap (f (i * (4 : Nat) + (1 : Nat)))).tmod (634 : Int))).toNat) with h45 | h45
                  · exact False.elim (by (simp_all; done))
                  ·
                    rcases Bool.eq_false_or_eq_true (!Go.Ideal.L1.sameF (634 : Nat) (fun k ↦ if k = (Go.IntKind.i64.wrap ((Go.IntKind.u64.wrap (f (i * (4 : Nat) + (1 : Nat)))).tmod (634 : Int))).toNat then if (Go.IntKind.i64.wrap ((Go.IntKind.u64.wrap (f (i * (4 : Nat) + (1 : Nat)))).tmod (634 : Int))).toNat = (Go.IntKind.i64.wrap ((Go.IntKind.u64.wrap (f (i * (4 : Nat) + (1 : Nat)))).tmod (634 : Int))).toNat then f (i * (4 : Nat) + (3 : Nat)) else g (Go.IntKind.i64.wrap ((Go.IntKind.u64.wrap (f (i * (4 : Nat) + (1 : Nat)))).tmod (634 : Int))).toNat else g k) fun k ↦ if k = (Go.IntKind.i64.wrap ((Go.IntKind.u64.wrap (f (i * (4 : Nat) + (1 : Nat)))).tmod (634 : Int))).toNat then f (i * (4 : Nat) + (3 : Nat)) else g k) with h46 | h46
                    · exact False.elim (by (simp [sameF] at *; done))
                    ·
                      have k47 : (0 : Int) ≤ (↑i : Int) := by omega
                      have k48 : (↑i : Int) + (1 : Int) ≤ (↑n : Int) := by clear k47; (simp [apAt] at *; omega)
                      have k49 : (i * (4 : Nat) + (1 : Nat)).succ ≤ n * (4 : Nat) := by clear k48 k47; (simp [apAt] at *; omega)
                      have k50 : (i * (4 : Nat) + (0 : Nat)).succ ≤ n * (4 : Nat) := by clear k49 k48 k47; (simp [apAt] at *; omega)
                      have k51 : (i * (4 : Nat) + (2 : Nat)).succ ≤ n * (4 : Nat) := by clear k50 k49 k48 k47; (simp [apAt] at *; omega)
                      have k52 : (i * (4 : Nat) + (3 : Nat)).succ ≤ n * (4 : Nat) := by clear k51 k50 k49 k48 k47; (simp [apAt] at *; omega)
                      have k53 : (0 : Int) ≤ Go.IntKind.i64.wrap ((Go.IntKind.u64.wrap (f (i * (4 : Nat) + (1 : Nat)))).tmod (634 : Int)) := by clear k52 k51 k50 k49 k48 k47; (simp [apAt] at *; omega)
                      have k54 : Go.IntKind.i64.wrap ((Go.IntKind.u64.wrap (f (i * (4 : Nat) + (1 : Nat)))).tmod (634 : Int)) + (1 : Int) ≤ (634 : Int) := by clear k53 k52 k51 k50 k49 k48 k47; (simp [apAt] at *; omega)
                      have k55 : (Go.IntKind.i64.wrap ((Go.IntKind.u64.wrap (f (i * (4 : Nat) + (1 : Nat)))).tmod (634 : Int))).toNat.succ ≤ (634 : Nat) := by clear k54 k53 k52 k51 k50 k49 k48 k47; (simp [apAt] at *; omega)
                      have k56 : n ≤ n := by clear k55 k54 k53 k52 k51 k50 k49 k48 k47; omega
                      have k57 : (↑(i + (1 : Nat)) : Int) = Go.IntKind.i64.wrap ((↑i : Int) + (1 : Int)) := by clear k56 k55 k54 k53 k52 k51 k50 k49 k48 k47; (rw [wrapk _ (by simp at *; omega)]; simp; done)
                      have k58 : n * (4 : Nat) ≤ n * (4 : Nat) := by clear k57 k56 k55 k54 k53 k52 k51 k50 k49 k48 k47; omega
                      have k59 : ∀ (k : Nat), k < n * (4 : Nat) → f k = f k := fun _ _ => rfl
                      have k60 : ∀ (k : Nat), k < (634 : Nat) → Go.Ideal.A2.apF f i g k = if k = (Go.IntKind.i64.wrap ((Go.IntKind.u64.wrap (f (i * (4 : Nat) + (1 : Nat)))).tmod (634 : Int))).toNat then f (i * (4 : Nat) + (3 : Nat)) else g k := by clear k59 k58 k57 k56 k55 k54 k53 k52 k51 k50 k49 k48 k47; (intro k hk; simp [apF, apAt] at *; (repeat' split) <;> simp_all <;> omega)
                      have k61 : i.succ ≤ n := by clear k60 k59 k58 k57 k56 k55 k54 k53 k52 k51 k50 k49 k48 k47; (simp [apAt] at *; omega)
                      refine vcIntro [true, true, false, false, false, true, false, false, false, false] (And.intro (And.intro h46 (And.intro k55 (And.intro (And.intro k53 k54) (And.intro k55 (And.intro (And.intro k53 k54) (And.intro h45 (And.intro k55 (And.intro (And.intro k53 k54) (And.intro h44 (And.intro k55 (And.intro (And.intro k53 k54) (And.intro h43 (And.intro k55 (And.intro (And.intro k53 k54) (And.intro k55 (And.intro (And.intro k53 k54) (And.intro h42 (And.intro k55 (And.intro (And.intro k53 k54) (And.intro h41 (And.intro k52 (And.intro (And.intro k47 k48) (And.intro k51 (And.intro (And.intro k47 k48) (And.intro h21 (And.intro h2 (And.intro k50 (And.intro (And.intro k47 k48) (And.intro k49 (And.intro (And.intro k47 k48) (And.intro h1 (And.intro h0 True.intro)))))))))))))))))))))))))))))))) (And.intro (And.intro (And.intro (And.intro True.intro (And.intro (@Eq.refl (Nat) (n)) k56)) (And.intro True.intro (And.intro k57 True.intro))) (And.intro (And.intro k58 k59) (And.intro (And.intro (@Eq.refl (Nat) ((634 : Nat))) (And.intro k60 (And.intro True.intro (And.intro True.intro (And.intro True.intro (And.intro True.intro (And.intro True.intro (And.intro True.intro (And.intro True.intro (And.intro True.intro True.intro)))))))))) True.intro))) k61)) ?_
                      kernel_rfl
            ·
              rcases Bool.eq_false_or_eq_true (Go.IntKind.i64.wrap ((Go.IntKind.u64.wrap (f (i * (4 : Nat) + (1 : Nat)))).tmod (634 : Int)) != Go.IntKind.i64.wrap ((Go.IntKind.u64.wrap (f (i * (4 : Nat) + (1 : Nat)))).tmod (634 : Int))) with h62 | h62
              · exact False.elim (by (simp_all; done))
              ·
                rcases Bool.eq_false_or_eq_true (g (Go.IntKind.i64.wrap ((Go.IntKind.u64.wrap (f (i * (4 : Nat) + (1 : Nat)))).tmod (634 : Int))).toNat != g (Go.IntKind.i64.wrap ((Go.IntKind.u64.wrap (f (i * (4 : Nat) + (1 : Nat)))).tmod (634 : Int))).toNat) with h63 | h63
                · exact False.elim (by (simp_all; done))
                ·
                  rcases Bool.eq_false_or_eq_true ((if (Go.IntKind.i64.wrap ((Go.IntKind.u64.wrap (f (i * (4 : Nat) + (1 : Nat)))).tmod (634 : Int))).toNat = (Go.IntKind.i64.wrap ((Go.IntKind.u64.wrap (f (i * (4 : Nat) + (1 : Nat)))).tmod (634 : Int))).toNat then g (Go.IntKind.i64.wrap ((Go.IntKind.u64.wrap (f (i * (4 : Nat) + (1 : Nat)))).tmod (634 : Int))).toNat else g (Go.IntKind.i64.wrap ((Go.IntKind.u64.wrap (f (i * (4 : Nat) + (1 : Nat)))).tmod (634 : Int))).toNat) != if (Go.IntKind.i64.wrap ((Go.IntKind.u64.wrap (f (i * (4 : Nat) + (1 : Nat)))).tmod (634 : Int))).toNat = (Go.IntKind.i64.wrap ((Go.IntKind.u64.wrap (f (i * (4 : Nat) + (1 : Nat)))).tmod (634 : Int))).toNat then g (Go.IntKind.i64.wrap ((Go.IntKind.u64.wrap (f (i * (4 : Nat) + (1 : Nat)))).tmod (634 : Int))).toNat else g (Go.IntKind.i64.wrap ((Go.IntKind.u64.wrap (f (i * (4 : Nat) + (1 : Nat)))).tmod (634 : Int))).toNat) with h64 | h64
                  · exact False.elim (by (simp_all; done))
                  ·
                    rcases Bool.eq_false_or_eq_true (!Go.Ideal.L1.sameF (634 : Nat) (fun k ↦ if k = (Go.IntKind.i64.wrap ((Go.IntKind.u64.wrap (f (i * (4 : Nat) + (1 : Nat)))).tmod (634 : Int))).toNat then if (Go.IntKind.i64.wrap ((Go.IntKind.u64.wrap (f (i * (4 : Nat) + (1 : Nat)))).tmod (634 : Int))).toNat = (Go.IntKind.i64.wrap ((Go.IntKind.u64.wrap (f (i * (4 : Nat) + (1 : Nat)))).tmod (634 : Int))).toNat then g (Go.IntKind.i64.wrap ((Go.IntKind.u64.wrap (f (i * (4 : Nat) + (1 : Nat)))).tmod (634 : Int))).toNat else g (Go.IntKind.i64.wrap ((Go.IntKind.u64.wrap (f (i * (4 : Nat) + (1 : Nat)))).tmod (634 : Int))).toNat else g k) fun k ↦ if k = (Go.IntKind.i64.wrap ((Go.IntKind.u64.wrap (f (i * (4 : Nat) + (1 : Nat)))).tmod (634 : Int))).toNat then g (Go.IntKind.i64.wrap ((Go.IntKind.u64.wrap (f (i * (4 : Nat) + (1 : Nat)))).tmod (634 : Int))).toNat else g k) with h65 | h65
                    · exact False.elim (by (simp [sameF] at *; done))
                    ·
                      have k66 : (0 : Int) ≤ (↑i : Int) := by omega
                      have k67 : (↑i : Int) + (1 : Int) ≤ (↑n : Int) := by clear k66; (simp [apAt] at *; omega)
                      have k68 : (i * (4 : Nat) + (1 : Nat)).succ ≤ n * (4 : Nat) := by clear k67 k66; (simp [apAt] at *; omega)
                      have k69 : (i * (4 : Nat) + (0 : Nat)).succ ≤ n * (4 : Nat) := by clear k68 k67 k66; (simp [apAt] at *; omega)
                      have k70 : (i * (4 : Nat) + (2 : Nat)).succ ≤ n * (4 : Nat) := by clear k69 k68 k67 k66; (simp [apAt] at *; omega)
                      have k71 : (i * (4 : Nat) + (3 : Nat)).succ ≤ n * (4 : Nat) := by clear k70 k69 k68 k67 k66; (simp [apAt] at *; omega)
                      have k72 : (0 : Int) ≤ Go.IntKind.i64.wrap ((Go.IntKind.u64.wrap (f (i * (4 : Nat) + (1 : Nat)))).tmod (634 : Int)) := by clear k71 k70 k69 k68 k67 k66; (simp [apAt] at *; omega)
                      have k73 : Go.IntKind.i64.wrap ((Go.IntKind.u64.wrap (f (i * (4 : Nat) + (1 : Nat)))).tmod (634 : Int)) + (1 : Int) ≤ (634 : Int) := by clear k72 k71 k70 k69 k68 k67 k66; (simp [apAt] at *; omega)
                      have k74 : (Go.IntKind.i64.wrap ((Go.IntKind.u64.wrap (f (i * (4 : Nat) + (1 : Nat)))).tmod (634 : Int))).toNat.succ ≤ (634 : Nat) := by clear k73 k72 k71 k70 k69 k68 k67 k66; (simp [apAt] at *; omega)
                      have k75 : n ≤ n := by clear k74 k73 k72 k71 k70 k69 k68 k67 k66; omega
                      have k76 : (↑(i + (1 : Nat)) : Int) = Go.IntKind.i64.wrap ((↑i : Int) + (1 : Int)) := by clear k75 k74 k73 k72 k71 k70 k69 k68 k67 k66; (rw [wrapk _ (by simp at *; omega)]; simp; done)
                      have k77 : n * (4 : Nat) ≤ n * (4 : Nat) := by clear k76 k75 k74 k73 k72 k71 k70 k69 k68 k67 k66; omega
                      have k78 : ∀ (k : Nat), k < n * (4 : Nat) → f k = f k := fun _ _ => rfl
                      have k79 : ∀ (k : Nat), k < (634 : Nat) → Go.Ideal.A2.apF f i g k = if k = (Go.IntKind.i64.wrap ((Go.IntKind.u64.wrap (f (i * (4 : Nat) + (1 : Nat)))).tmod (634 : Int))).toNat then g (Go.IntKind.i64.wrap ((Go.IntKind.u64.wrap (f (i * (4 : Nat) + (1 : Nat)))).tmod (634 : Int))).toNat else g k := by clear k78 k77 k76 k75 k74 k73 k72 k71 k70 k69 k68 k67 k66; (intro k hk; simp [apF, apAt] at *; (repeat' split) <;> simp_all <;> omega)
                      have k80 : i.succ ≤ n := by clear k79 k78 k77 k76 k75 k74 k73 k72 k71 k70 k69 k68 k67 k66; (simp [apAt] at *; omega)
                      refine vcIntro [true, true, false, false, false, false, false, false, false, false] (And.intro (And.intro h65 (And.intro k74 (And.intro (And.intro k72 k73) (And.intro k74 (And.intro (And.intro k72 k73) (And.intro h64 (And.intro k74 (And.intro (And.intro k72 k73) (And.intro h63 (And.intro k74 (And.intro (And.intro k72 k73) (And.intro h62 (And.intro k74 (And.intro (And.intro k72 k73) (And.intro k74 (And.intro (And.intro k72 k73) (And.intro h42 (And.intro k74 (And.intro (And.intro k72 k73) (And.intro h41 (And.intro k71 (And.intro (And.intro k66 k67) (And.intro k70 (And.intro (And.intro k66 k67) (And.intro h21 (And.intro h2 (And.intro k69 (And.intro (And.intro k66 k67) (And.intro k68 (And.intro (And.intro k66 k67) (And.intro h1 (And.intro h0 True.intro)))))))))))))))))))))))))))))))) (And.intro (And.intro (And.intro (And.intro True.intro (And.intro (@Eq.refl (Nat) (n)) k75)) (And.intro True.intro (And.intro k76 True.intro))) (And.intro (And.intro k77 k78) (And.intro (And.intro (@Eq.refl (Nat) ((634 : Nat))) (And.intro k79 (And.intro True.intro (And.intro True.intro (And.intro True.intro (And.intro True.intro (And.intro True.intro (And.intro True.intro (And.intro True.intro (And.intro True.intro True.intro)))))))))) True.intro))) k80)) ?_
                      kernel_rfl
    ·
      have k81 : n ≤ n := by omega
      have k82 : n * (4 : Nat) ≤ n * (4 : Nat) := by clear k81; omega
      have k83 : ∀ (k : Nat), k < n * (4 : Nat) → f k = f k := fun _ _ => rfl
      have k84 : ∀ (k : Nat), k < (634 : Nat) → g k = g k := fun _ _ => rfl
      refine vcIntro [true, false] (And.intro (And.intro h1 (And.intro h0 True.intro)) (And.intro (And.intro (And.intro (And.intro True.intro (And.intro (@Eq.refl (Nat) (n)) k81)) (And.intro True.intro (And.intro (@Eq.refl (Int) ((↑i : Int))) True.intro))) (And.intro (And.intro k82 k83) (And.intro (And.intro (@Eq.refl (Nat) ((634 : Nat))) (And.intro k84 (And.intro True.intro (And.intro True.intro (And.intro True.intro (And.intro True.intro (And.intro True.intro (And.intro True.intro (And.intro True.intro (And.intro True.intro True.intro)))))))))) True.intro))) True.intro)) ?_
      kernel_rfl
  ·
    have k85 : n ≤ n := by omega
    have k86 : n * (4 : Nat) ≤ n * (4 : Nat) := by clear k85; omega
    have k87 : ∀ (k : Nat), k < n * (4 : Nat) → f k = f k := fun _ _ => rfl
    have k88 : ∀ (k : Nat), k < (634 : Nat) → g k = g k := fun _ _ => rfl
    refine vcIntro [false] (And.intro (And.intro h0 True.intro) (And.intro (And.intro (And.intro (And.intro True.intro (And.intro (@Eq.refl (Nat) (n)) k85)) (And.intro True.intro (And.intro (@Eq.refl (Int) ((↑i : Int))) True.intro))) (And.intro (And.intro k86 k87) (And.intro (And.intro (@Eq.refl (Nat) ((634 : Nat))) (And.intro k88 (And.intro True.intro (And.intro True.intro (And.intro True.intro (And.intro True.intro (And.intro True.intro (And.intro True.intro (And.intro True.intro (And.intro True.intro True.intro)))))))))) True.intro))) True.intro)) ?_
    kernel_rfl
theorem apart_end (f : Nat → Int) (n i : Nat) (g : Nat → Int) : ∃ hh, vcOf (runRet Try.prog specs2 noL 3000 12 [1,1,1,1,0,1,0] (.exit 0) (Tr.ofPairs (apT n i)) (Hm (apB f n g) 2) hh) (fun v _ => isT v) := by

  refine vcIntro [] (And.intro True.intro True.intro) ?_
  kernel_rfl

theorem apart_q (f : Nat → Int) (n : Nat) (_ : ∀ i, i < n * 4 → -9223372036854775808 ≤ f i ∧ f i ≤ 9223372036854775807) (hn : n ≤ maxLen) :
    CallQ Try.prog 12 [.slice 0 (.c 0) (.s n) 4 (.s n)] (Hx [.ext f (.s (n * 4))]) (fun v _ => isT v) :=
  CallQ.loop1 (n := 3000) specs2_ok mixed (fun a : Nat × (Nat → Int) => apT n a.1) (fun a => apB f n a.2) 2 [0, 1] (fun a => n - a.1) (fun a => a.1 ≤ n)
    (fun a => (a.1 + 1, apF f a.1 a.2)) (fun a => a.1 < n) 0 (fun a => apT n a.1) (fun a => apB f n a.2) (fun _ => True) (by kernel_rfl) (by kernel_rfl)
    (0, arena0) (Nat.zero_le _) (apart_go f n) (fun a ha => apart_body f n a.1 a.2 hn ha)
    (fun a ha hc => ⟨hc, by have h : a.1 < n := hc; show n - (a.1 + 1) < n - a.1; omega⟩) (fun a ha _ => apart_end f n a.1 a.2)
end Go.Ideal.A2
