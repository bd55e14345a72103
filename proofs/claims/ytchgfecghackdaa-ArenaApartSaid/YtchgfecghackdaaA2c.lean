/- Chapter 2: ArenaSwaps. Own text. -/
import Derived.Test.YtchgfecghackdaaA2b
namespace Go.Ideal.A2
open Go.Proofs Go.Ideal Go.Ideal.L1
set_option linter.unusedSimpArgs false
set_option linter.unusedVariables false
set_option maxRecDepth 100000
set_option maxHeartbeats 4000000

/-- An arena whose last access does not matter. -/
def arB (g : Nat → Int) : Blk := .own false 67 g 634 (List.replicate 9 .any)
def swT (n i : Nat) : List (Nat × V) := [(0, .slice 0 (.c 0) (.s n) 4 (.s n)), (3, .ptr 1 (.c 0)), (4, .slice 3 (.c 0) (.c 634) 1 (.c 634)), (5, .int .i64 (.s i))]
def swB (f : Nat → Int) (n : Nat) (g w : Nat → Int) : List (Option Blk) := [some (.ext f (.s (n * 4))), some (arB g), none, some (.own false 3 w 634 [])]
def swF (f : Nat → Int) (i : Nat) (g : Nat → Int) (k : Nat) : Int := if k = (f (i * 4 + 1) % 16).toNat ∧ g k = f (i * 4 + 2) % 4 then f (i * 4 + 3) % 4 else g k


theorem swaps_go (f : Nat → Int) (n : Nat) : ∃ hh, vcOf (runGo Try.prog specs2 noL 3000 10 [] [1,1,1,1,1,1,0,1,0] (Tr.ofList [.slice 0 (.c 0) (.s n) 4 (.s n)]) (Hx [.ext f (.s (n * 4))]) hh)
    (reached fun T1 H1 => weakP T1 H1 (swT n 0) (swB f n arena0 arena0) 4) := by

  have k0 : n ≤ n := by (simp; done)
  have k1 : n * (4 : Nat) ≤ n * (4 : Nat) := by clear k0; (simp; done)
  have k2 : ∀ (k : Nat), k < n * (4 : Nat) → f k = f k := fun _ _ => rfl
  have k3 : ∀ (k : Nat), k < (634 : Nat) → Go.Ideal.A2.arena0 k = Go.Ideal.A2.arena0 k := fun _ _ => rfl
  have k4 : ∀ (k : Nat), k < (634 : Nat) → Go.Ideal.A2.arena0 k = if k = (16 : Nat) then (4 : Int) else if (17 : Nat) ≤ k ∧ k < (28 : Nat) then (4 : Int) * ((↑k : Int) - (15 : Int)) else (0 : Int) := by clear k3 k2 k1 k0; (intro _ _; rfl)
  refine vcIntro [] (And.intro True.intro (And.intro (And.intro (And.intro True.intro (And.intro (@Eq.refl (Nat) (n)) k0)) (And.intro True.intro (And.intro (And.intro True.intro (And.intro True.intro True.intro)) (And.intro (@Eq.refl (Int) ((0 : Int))) True.intro)))) (And.intro (And.intro k1 k2) (And.intro (And.intro (@Eq.refl (Nat) ((634 : Nat))) (And.intro k3 (And.intro True.intro (And.intro True.intro (And.intro True.intro (And.intro True.intro (And.intro True.intro (And.intro True.intro (And.intro True.intro (And.intro True.intro True.intro)))))))))) (And.intro (And.intro (@Eq.refl (Nat) ((634 : Nat))) (And.intro k4 True.intro)) True.intro))))) ?_
  kernel_rfl
theorem swaps_body (f : Nat → Int) (n i : Nat) (g w : Nat → Int) (hn : n ≤ 9223372036854775807) (hi : i ≤ n) (hw : ∀ k, k < 634 → g k = w k) :
    ∃ hh, vcOf (runAt Try.prog specs2 noL 3000 10 [1,1,1,1,1,1,0,1,0,0] (Tr.ofPairs (swT n i)) (Hm (swB f n g w) 4) hh)
    (roundK 4 [0, 1, 2, 3] (swT n (i + 1)) (swB f n (swF f i g) (swF f i w)) (i < n) 0 (swT n i) (swB f n g w) True) := by
  have hx : 0 ≤ f (i * 4 + 1) % 16 ∧ f (i * 4 + 1) % 16 < 16 := by omega
  have hg := hw (f (i * 4 + 1) % 16).toNat (by omega)

  rcases Bool.eq_false_or_eq_true (Decidable.decide ((↑i : Int) < (↑n : Int))) with h0 | h0
  ·
    rcases Bool.eq_false_or_eq_true (Decidable.decide ((↑i : Int) < (60 : Int))) with h1 | h1
    ·
      rcases Bool.eq_false_or_eq_true (!(Decidable.decide ((0 : Int) ≤ f (i * (4 : Nat) + (1 : Nat)) % (16 : Int)) && Decidable.decide (f (i * (4 : Nat) + (1 : Nat)) % (16 : Int) < (634 : Int)))) with h2 | h2
      · exact False.elim (by (simp at *; omega))
      ·
        rcases Bool.eq_false_or_eq_true (g (f (i * (4 : Nat) + (1 : Nat)) % (16 : Int)).toNat == f (i * (4 : Nat) + (2 : Nat)) % (4 : Int)) with h3 | h3
        ·
          rcases Bool.eq_false_or_eq_true (g (f (i * (4 : Nat) + (1 : Nat)) % (16 : Int)).toNat != w (f (i * (4 : Nat) + (1 : Nat)) % (16 : Int)).toNat) with h4 | h4
          · exact False.elim (by (simp at *; omega))
          ·
            rcases Bool.eq_false_or_eq_true ((if (f (i * (4 : Nat) + (1 : Nat)) % (16 : Int)).toNat = (f (i * (4 : Nat) + (1 : Nat)) % (16 : Int)).toNat then f (i * (4 : Nat) + (3 : Nat)) % (4 : Int) else g (f (i * (4 : Nat) + (1 : Nat)) % (16 : Int)).toNat) != if (f (i * (4 : Nat) + (1 : Nat)) % (16 : Int)).toNat = (f (i * (4 : Nat) + (1 : Nat)) % (16 : Int)).toNat then f (i * (4 : Nat) + (3 : Nat)) % (4 : Int) else w (f (i * (4 : Nat) + (1 : Nat)) % (16 : Int)).toNat) with h5 | h5
            · exact False.elim (by (simp_all; done))
            ·
              have k6 : (0 : Int) ≤ (↑i : Int) := by omega
              have k7 : (↑i : Int) + (1 : Int) ≤ (↑n : Int) := by clear k6; (simp at *; omega)
              have k8 : (i * (4 : Nat) + (1 : Nat)).succ ≤ n * (4 : Nat) := by clear k7 k6; (simp at *; omega)
              have k9 : (i * (4 : Nat) + (2 : Nat)).succ ≤ n * (4 : Nat) := by clear k8 k7 k6; (simp at *; omega)
              have k10 : (i * (4 : Nat) + (3 : Nat)).succ ≤ n * (4 : Nat) := by clear k9 k8 k7 k6; (simp at *; omega)
              have k11 : (0 : Int) ≤ f (i * (4 : Nat) + (1 : Nat)) % (16 : Int) := by clear k10 k9 k8 k7 k6; omega
              have k12 : f (i * (4 : Nat) + (1 : Nat)) % (16 : Int) + (1 : Int) ≤ (634 : Int) := by clear k11 k10 k9 k8 k7 k6; omega
              have k13 : (f (i * (4 : Nat) + (1 : Nat)) % (16 : Int)).toNat.succ ≤ (634 : Nat) := by clear k12 k11 k10 k9 k8 k7 k6; omega
              have k14 : n ≤ n := by clear k13 k12 k11 k10 k9 k8 k7 k6; omega
              have k15 : (↑(i + (1 : Nat)) : Int) = Go.IntKind.i64.wrap ((↑i : Int) + (1 : Int)) := by clear k14 k13 k12 k11 k10 k9 k8 k7 k6; (rw [wrapk _ (by simp at *; omega)]; simp; done)
              have k16 : n * (4 : Nat) ≤ n * (4 : Nat) := by clear k15 k14 k13 k12 k11 k10 k9 k8 k7 k6; omega
              have k17 : ∀ (k : Nat), k < n * (4 : Nat) → f k = f k := fun _ _ => rfl
              have k18 : ∀ (k : Nat), k < (634 : Nat) → Go.Ideal.A2.swF f i g k = if k = (f (i * (4 : Nat) + (1 : Nat)) % (16 : Int)).toNat then if (f (i * (4 : Nat) + (1 : Nat)) % (16 : Int)).toNat = (f (i * (4 : Nat) + (1 : Nat)) % (16 : Int)).toNat then f (i * (4 : Nat) + (3 : Nat)) % (4 : Int) else g (f (i * (4 : Nat) + (1 : Nat)) % (16 : Int)).toNat else if k = (f (i * (4 : Nat) + (1 : Nat)) % (16 : Int)).toNat then f (i * (4 : Nat) + (3 : Nat)) % (4 : Int) else g k := by clear k17 k16 k15 k14 k13 k12 k11 k10 k9 k8 k7 k6; (intro k hk; simp [swF] at *; (repeat' split) <;> simp_all <;> omega)
              have k19 : ∀ (k : Nat), k < (634 : Nat) → Go.Ideal.A2.swF f i w k = if k = (f (i * (4 : Nat) + (1 : Nat)) % (16 : Int)).toNat then f (i * (4 : Nat) + (3 : Nat)) % (4 : Int) else w k := by clear k18 k17 k16 k15 k14 k13 k12 k11 k10 k9 k8 k7 k6; (intro k hk; simp [swF] at *; (repeat' split) <;> simp_all <;> omega)
              have k20 : i.succ ≤ n := by clear k19 k18 k17 k16 k15 k14 k13 k12 k11 k10 k9 k8 k7 k6; (simp at *; omega)
              refine vcIntro [true, true, false, true, false, true, false, false] (And.intro (And.intro h5 (And.intro k13 (And.intro (And.intro k11 k12) (And.intro k13 (And.intro (And.intro k11 k12) (And.intro k13 (And.intro (And.intro k11 k12) (And.intro k13 (And.intro (And.intro k11 k12) (And.intro h2 (And.intro k13 (And.intro (And.intro k11 k12) (And.intro k10 (And.intro (And.intro k6 k7) (And.intro h3 (And.intro k9 (And.intro (And.intro k6 k7) (And.intro h4 (And.intro k13 (And.intro (And.intro k11 k12) (And.intro k13 (And.intro (And.intro k11 k12) (And.intro k13 (And.intro (And.intro k11 k12) (And.intro h3 (And.intro k13 (And.intro (And.intro k11 k12) (And.intro h2 (And.intro k10 (And.intro (And.intro k6 k7) (And.intro k9 (And.intro (And.intro k6 k7) (And.intro k8 (And.intro (And.intro k6 k7) (And.intro h1 (And.intro h0 True.intro)))))))))))))))))))))))))))))))))))) (And.intro (And.intro (And.intro (And.intro True.intro (And.intro (@Eq.refl (Nat) (n)) k14)) (And.intro True.intro (And.intro (And.intro True.intro (And.intro True.intro True.intro)) (And.intro k15 True.intro)))) (And.intro (And.intro k16 k17) (And.intro (And.intro (@Eq.refl (Nat) ((634 : Nat))) (And.intro k18 (And.intro True.intro (And.intro True.intro (And.intro True.intro (And.intro True.intro (And.intro True.intro (And.intro True.intro (And.intro True.intro (And.intro True.intro True.intro)))))))))) (And.intro (And.intro (@Eq.refl (Nat) ((634 : Nat))) (And.intro k19 True.intro)) True.intro)))) k20)) ?_
              kernel_rfl
        ·
          rcases Bool.eq_false_or_eq_true (g (f (i * (4 : Nat) + (1 : Nat)) % (16 : Int)).toNat != w (f (i * (4 : Nat) + (1 : Nat)) % (16 : Int)).toNat) with h21 | h21
          · exact False.elim (by (simp at *; omega))
          ·
            rcases Bool.eq_false_or_eq_true ((if (f (i * (4 : Nat) + (1 : Nat)) % (16 : Int)).toNat = (f (i * (4 : Nat) + (1 : Nat)) % (16 : Int)).toNat then g (f (i * (4 : Nat) + (1 : Nat)) % (16 : Int)).toNat else g (f (i * (4 : Nat) + (1 : Nat)) % (16 : Int)).toNat) != w (f (i * (4 : Nat) + (1 : Nat)) % (16 : Int)).toNat) with h22 | h22
            · exact False.elim (by (simp at *; omega))
            ·
              have k23 : (0 : Int) ≤ (↑i : Int) := by omega
              have k24 : (↑i : Int) + (1 : Int) ≤ (↑n : Int) := by clear k23; (simp at *; omega)
              have k25 : (i * (4 : Nat) + (1 : Nat)).succ ≤ n * (4 : Nat) := by clear k24 k23; (simp at *; omega)
              have k26 : (i * (4 : Nat) + (2 : Nat)).succ ≤ n * (4 : Nat) := by clear k25 k24 k23; (simp at *; omega)
              have k27 : (i * (4 : Nat) + (3 : Nat)).succ ≤ n * (4 : Nat) := by clear k26 k25 k24 k23; (simp at *; omega)
              have k28 : (0 : Int) ≤ f (i * (4 : Nat) + (1 : Nat)) % (16 : Int) := by clear k27 k26 k25 k24 k23; omega
              have k29 : f (i * (4 : Nat) + (1 : Nat)) % (16 : Int) + (1 : Int) ≤ (634 : Int) := by clear k28 k27 k26 k25 k24 k23; omega
              have k30 : (f (i * (4 : Nat) + (1 : Nat)) % (16 : Int)).toNat.succ ≤ (634 : Nat) := by clear k29 k28 k27 k26 k25 k24 k23; omega
              have k31 : n ≤ n := by clear k30 k29 k28 k27 k26 k25 k24 k23; omega
              have k32 : (↑(i + (1 : Nat)) : Int) = Go.IntKind.i64.wrap ((↑i : Int) + (1 : Int)) := by clear k31 k30 k29 k28 k27 k26 k25 k24 k23; (rw [wrapk _ (by simp at *; omega)]; simp; done)
              have k33 : n * (4 : Nat) ≤ n * (4 : Nat) := by clear k32 k31 k30 k29 k28 k27 k26 k25 k24 k23; omega
              have k34 : ∀ (k : Nat), k < n * (4 : Nat) → f k = f k := fun _ _ => rfl
              have k35 : ∀ (k : Nat), k < (634 : Nat) → Go.Ideal.A2.swF f i g k = if k = (f (i * (4 : Nat) + (1 : Nat)) % (16 : Int)).toNat then if (f (i * (4 : Nat) + (1 : Nat)) % (16 : Int)).toNat = (f (i * (4 : Nat) + (1 : Nat)) % (16 : Int)).toNat then g (f (i * (4 : Nat) + (1 : Nat)) % (16 : Int)).toNat else g (f (i * (4 : Nat) + (1 : Nat)) % (16 : Int)).toNat else if k = (f (i * (4 : Nat) + (1 : Nat)) % (16 : Int)).toNat then g (f (i * (4 : Nat) + (1 : Nat)) % (16 : Int)).toNat else g k := by clear k34 k33 k32 k31 k30 k29 k28 k27 k26 k25 k24 k23; (intro k hk; simp [swF] at *; (repeat' split) <;> simp_all <;> omega)
              have k36 : ∀ (k : Nat), k < (634 : Nat) → Go.Ideal.A2.swF f i w k = w k := by clear k35 k34 k33 k32 k31 k30 k29 k28 k27 k26 k25 k24 k23; (intro k hk; simp [swF] at *; (repeat' split) <;> simp_all <;> omega)
              have k37 : i.succ ≤ n := by clear k36 k35 k34 k33 k32 k31 k30 k29 k28 k27 k26 k25 k24 k23; (simp at *; omega)
              refine vcIntro [true, true, false, false, false, false, false, false] (And.intro (And.intro h22 (And.intro k30 (And.intro (And.intro k28 k29) (And.intro k30 (And.intro (And.intro k28 k29) (And.intro k30 (And.intro (And.intro k28 k29) (And.intro k30 (And.intro (And.intro k28 k29) (And.intro h2 (And.intro h3 (And.intro k26 (And.intro (And.intro k23 k24) (And.intro h21 (And.intro k30 (And.intro (And.intro k28 k29) (And.intro k30 (And.intro (And.intro k28 k29) (And.intro k30 (And.intro (And.intro k28 k29) (And.intro h3 (And.intro k30 (And.intro (And.intro k28 k29) (And.intro h2 (And.intro k27 (And.intro (And.intro k23 k24) (And.intro k26 (And.intro (And.intro k23 k24) (And.intro k25 (And.intro (And.intro k23 k24) (And.intro h1 (And.intro h0 True.intro)))))))))))))))))))))))))))))))) (And.intro (And.intro (And.intro (And.intro True.intro (And.intro (@Eq.refl (Nat) (n)) k31)) (And.intro True.intro (And.intro (And.intro True.intro (And.intro True.intro True.intro)) (And.intro k32 True.intro)))) (And.intro (And.intro k33 k34) (And.intro (And.intro (@Eq.refl (Nat) ((634 : Nat))) (And.intro k35 (And.intro True.intro (And.intro True.intro (And.intro True.intro (And.intro True.intro (And.intro True.intro (And.intro True.intro (And.intro True.intro (And.intro True.intro True.intro)))))))))) (And.intro (And.intro (@Eq.refl (Nat) ((634 : Nat))) (And.intro k36 True.intro)) True.intro)))) k37)) ?_
              kernel_rfl
    ·
      have k38 : n ≤ n := by omega
      have k39 : n * (4 : Nat) ≤ n * (4 : Nat) := by clear k38; omega
      have k40 : ∀ (k : Nat), k < n * (4 : Nat) → f k = f k := fun _ _ => rfl
      have k41 : ∀ (k : Nat), k < (634 : Nat) → g k = g k := fun _ _ => rfl
      have k42 : ∀ (k : Nat), k < (634 : Nat) → w k = w k := fun _ _ => rfl
      refine vcIntro [true, false] (And.intro (And.intro h1 (And.intro h0 True.intro)) (And.intro (And.intro (And.intro (And.intro True.intro (And.intro (@Eq.refl (Nat) (n)) k38)) (And.intro True.intro (And.intro (And.intro True.intro (And.intro True.intro True.intro)) (And.intro (@Eq.refl (Int) ((↑i : Int))) True.intro)))) (And.intro (And.intro k39 k40) (And.intro (And.intro (@Eq.refl (Nat) ((634 : Nat))) (And.intro k41 (And.intro True.intro (And.intro True.intro (And.intro True.intro (And.intro True.intro (And.intro True.intro (And.intro True.intro (And.intro True.intro (And.intro True.intro True.intro)))))))))) (And.intro (And.intro (@Eq.refl (Nat) ((634 : Nat))) (And.intro k42 True.intro)) True.intro)))) True.intro)) ?_
      kernel_rfl
  ·
    have k43 : n ≤ n := by omega
    have k44 : n * (4 : Nat) ≤ n * (4 : Nat) := by clear k43; omega
    have k45 : ∀ (k : Nat), k < n * (4 : Nat) → f k = f k := fun _ _ => rfl
    have k46 : ∀ (k : Nat), k < (634 : Nat) → g k = g k := fun _ _ => rfl
    have k47 : ∀ (k : Nat), k < (634 : Nat) → w k = w k := fun _ _ => rfl
    refine vcIntro [false] (And.intro (And.intro h0 True.intro) (And.intro (And.intro (And.intro (And.intro True.intro (And.intro (@Eq.refl (Nat) (n)) k43)) (And.intro True.intro (And.intro (And.intro True.intro (And.intro True.intro True.intro)) (And.intro (@Eq.refl (Int) ((↑i : Int))) True.intro)))) (And.intro (And.intro k44 k45) (And.intro (And.intro (@Eq.refl (Nat) ((634 : Nat))) (And.intro k46 (And.intro True.intro (And.intro True.intro (And.intro True.intro (And.intro True.intro (And.intro True.intro (And.intro True.intro (And.intro True.intro (And.intro True.intro True.intro)))))))))) (And.intro (And.intro (@Eq.refl (Nat) ((634 : Nat))) (And.intro k47 True.intro)) True.intro)))) True.intro)) ?_
    kernel_rfl
theorem swaps_end (f : Nat → Int) (n i : Nat) (g w : Nat → Int) (hw : ∀ k, k < 634 → g k = w k) :
    ∃ hh, vcOf (runRet Try.prog specs2 noL 3000 10 [1,1,1,1,1,1,0,1,0] (.exit 0) (Tr.ofPairs (swT n i)) (Hm (swB f n g w) 4) hh) (fun v _ => isT v) := by

  have k0 : Go.Ideal.L1.sameF (634 : Nat) g w = Bool.true := by (simp [sameF]; exact hw)
  refine vcIntro [] (And.intro True.intro k0) ?_
  kernel_rfl

theorem swaps_q (f : Nat → Int) (n : Nat) (_ : ∀ i, i < n * 4 → -9223372036854775808 ≤ f i ∧ f i ≤ 9223372036854775807) (hn : n ≤ maxLen) :
    CallQ Try.prog 10 [.slice 0 (.c 0) (.s n) 4 (.s n)] (Hx [.ext f (.s (n * 4))]) (fun v _ => isT v) := by
  have hn' : n ≤ 9223372036854775807 := hn
  exact CallQ.loop1 (n := 3000) specs2_ok mixed (fun a : Nat × (Nat → Int) × (Nat → Int) => swT n a.1) (fun a => swB f n a.2.1 a.2.2) 4 [0, 1, 2, 3] (fun a => n - a.1) (fun a => a.1 ≤ n ∧ ∀ k, k < 634 → a.2.1 k = a.2.2 k)
    (fun a => (a.1 + 1, swF f a.1 a.2.1, swF f a.1 a.2.2)) (fun a => a.1 < n) 0 (fun a => swT n a.1) (fun a => swB f n a.2.1 a.2.2) (fun _ => True) (by kernel_rfl) (by kernel_rfl)
    (0, arena0, arena0) ⟨Nat.zero_le _, fun _ _ => rfl⟩ (swaps_go f n) (fun a ha => swaps_body f n a.1 a.2.1 a.2.2 hn' ha.1 ha.2)
    (fun a ha hc => ⟨⟨hc, fun k hk => by simp only [swF, ha.2 k hk]⟩, by have h : a.1 < n := hc; show n - (a.1 + 1) < n - a.1; omega⟩) (fun a ha _ => swaps_end f n a.1 a.2.1 a.2.2 ha.2)
end Go.Ideal.A2
