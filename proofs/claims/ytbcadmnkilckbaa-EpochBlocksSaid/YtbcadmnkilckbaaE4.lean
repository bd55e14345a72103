/- Chapter 11: EpochBlocks, the advance. Own text. -/
import Derived.Test.YtbcadmnkilckbaaE3
namespace Go.Ideal.E1
open Go.Proofs Go.Ideal Go.Ideal.L1
set_option linter.unusedSimpArgs false
set_option linter.unusedVariables false
set_option maxRecDepth 100000
set_option maxHeartbeats 80000000

def ecT (e : Int) (fr : Bool) (mn : Int) (j : Nat) (ov : Bool) : List (Nat × V) := [(7, .ptr 1 (.c 0)), (9, .int .i64 (.s e)), (11, .bool (.s fr)), (12, .int .i64 (.s mn)), (15, .ptr 5 (.c 0)), (17, .int .i64 (.s j)), (18, .bool (.s ov))]
def ecB (f : Nat → Int) (n : Nat) (W : Nat → Int) (k : Int) (q : Int) (ep : Int) (mv ov : Bool) : List (Option Blk) := [some (.ext f (.s (n * 1))), some (.own false 110 W 634 (List.replicate 9 .any)), none, none, none, some (.own false 119 (fun _ => 0) 0 [.int .i64 (.s k), .int .i64 (.s q), .int .i64 (.s ep), .bool (.s mv), .bool (.s ov)])]
theorem eb_mid (f : Nat → Int) (n : Nat) (e k mn : Int) (fr : Bool) (W : Nat → Int) (hk : 1 ≤ k ∧ k ≤ 4) (hm : 1 ≤ mn ∧ mn ≤ 5) (t : Nat) :
    ∃ hh, vcOf (runFrom Try.prog specs noL 6000 10 [] [1,1,1,1,1,1,1,1,1,0,1,0] [1, 1, 1, 1, 1, 1, 1, 1, 1, 1, 1, 1, 1, 1, 1, 0, 0] (.exit 0) (Tr.ofPairs (ebT n e k fr mn t)) (Hm (ebB f n W) 5) hh)
    (reached fun T1 H1 => weakP T1 H1 (ecT e fr (if fr = true then mn + 1 else mn) 0 false) (ecB f n W k (-1) 0 false false) 6) := by
  have w8 : IntKind.i64.wrap (mn + 1) = mn + 1 := wrapk _ (by omega)

  rcases Bool.eq_false_or_eq_true (fr) with h0 | h0
  ·
   rcases Bool.eq_false_or_eq_true (decide (k < (1 : Int))) with h1 | h1
   · exact ff (by (simp at *; omega))
   ·
    rcases Bool.eq_false_or_eq_true (decide (k > (4 : Int))) with h2 | h2
    · exact ff (by (simp at *; omega))
    ·
     refine vcIntro [true, false, false] (an (an h2 (an h1 (an h0 tt))) (an (an tt (an (ri e) (an (rb fr) (an (show (if fr = true then mn + (1 : Int) else mn) = IntKind.i64.wrap (mn + (1 : Int)) by (simp at *; simp [w8, *]; done)) (an tt (an (ri ((0 : Int))) (an (rb false) tt))))))) (an (an (show n * (1 : Nat) ≤ n * (1 : Nat) by (simp; done)) (show ∀ (k : Nat), k < n * (1 : Nat) → f k = f k from fun _ _ => rfl)) (an (an (@Eq.refl (Nat) ((634 : Nat))) (an (show ∀ (k : Nat), k < (634 : Nat) → W k = W k from fun _ _ => rfl) (an tt (an tt (an tt (an tt (an tt (an tt (an tt (an tt tt)))))))))) (an (an (@Eq.refl (Nat) ((0 : Nat))) (an (show ∀ (k : Nat), k < (0 : Nat) → (0 : Int) = (0 : Int) from fun _ _ => rfl) (an (ri k) (an (ri ((-1 : Int))) (an (ri ((0 : Int))) (an (rb false) (rb false))))))) tt))))) ?_
     kernel_rfl
  ·
   rcases Bool.eq_false_or_eq_true (decide (k < (1 : Int))) with h3 | h3
   · exact ff (by (simp at *; omega))
   ·
    rcases Bool.eq_false_or_eq_true (decide (k > (4 : Int))) with h4 | h4
    · exact ff (by (simp at *; omega))
    ·
     refine vcIntro [false, false, false] (an (an h4 (an h3 (an h0 tt))) (an (an tt (an (ri e) (an (rb fr) (an (show (if fr = true then mn + (1 : Int) else mn) = mn by (simp at *; simp [w8, *]; done)) (an tt (an (ri ((0 : Int))) (an (rb false) tt))))))) (an (an (show n * (1 : Nat) ≤ n * (1 : Nat) by (simp; done)) (show ∀ (k : Nat), k < n * (1 : Nat) → f k = f k from fun _ _ => rfl)) (an (an (@Eq.refl (Nat) ((634 : Nat))) (an (show ∀ (k : Nat), k < (634 : Nat) → W k = W k from fun _ _ => rfl) (an tt (an tt (an tt (an tt (an tt (an tt (an tt (an tt tt)))))))))) (an (an (@Eq.refl (Nat) ((0 : Nat))) (an (show ∀ (k : Nat), k < (0 : Nat) → (0 : Int) = (0 : Int) from fun _ _ => rfl) (an (ri k) (an (ri ((-1 : Int))) (an (ri ((0 : Int))) (an (rb false) (rb false))))))) tt))))) ?_
     kernel_rfl
variable (f : Nat → Int) (n : Nat) (W : Nat → Int) (e k mn : Int) (fr : Bool)
theorem ec_0 (he : 0 ≤ e ∧ e < 65536) (hk : 1 ≤ k ∧ k ≤ 4) (hW : W 29 = 4 * e) :
    ∃ hh, vcOf (runAt Try.prog specs noL 6000 10 [1, 1, 1, 1, 1, 1, 1, 1, 1, 1, 1, 1, 1, 1, 1, 0, 0, 0] (Tr.ofPairs (ecT e fr mn 0 false)) (Hm (ecB f n W k (-1) 0 false false) 6) hh)
    (roundK 6 [0, 1, 2, 3, 4, 5] (ecT e fr mn 1 false) (ecB f n W k 0 e false false) True 3 [] [] False) := by
  have g1 := Wd.isVal_mk (x := 4 * e) (by omega) (by omega) (by omega)
  have g2 : Wd.plV (4 * e) = e := by rw [g1.2]; omega
  have g3 : e < 1048576 := by omega

  have h0 : (!false) = true := by decide +kernel
  have h1 : (decide ((0 : Int) < (9 : Int))) = true := by decide +kernel
  have h2 : (false) = false := by decide +kernel
  have h3 : (decide ((-1 : Int) < (0 : Int))) = true := by decide +kernel
  rcases Bool.eq_false_or_eq_true (Wd.isVal (W (29 : Nat))) with h4 | h4
  ·
   rcases Bool.eq_false_or_eq_true (!decide (Wd.plV (W (29 : Nat)) < (1073741823 : Int))) with h5 | h5
   · exact ff (by (simp [hW, g1.1, g2] at *; omega))
   ·
    refine vcIntro [true, true, false, true, true, false] (an (an h5 (an h4 (an h3 (an h2 (an h1 (an h0 tt)))))) (an (an (an tt (an (ri e) (an (rb fr) (an (ri mn) (an tt (an (ri ((1 : Int))) (an (rb false) tt))))))) (an (an (show n * (1 : Nat) ≤ n * (1 : Nat) by (simp; done)) (show ∀ (k : Nat), k < n * (1 : Nat) → f k = f k from fun _ _ => rfl)) (an (an (@Eq.refl (Nat) ((634 : Nat))) (an (show ∀ (k : Nat), k < (634 : Nat) → W k = if k = (29 : Nat) then W (29 : Nat) else W k by (intro i hi; simp; intro h; simp [h]; done)) (an tt (an tt (an tt (an tt (an tt (an tt (an tt (an tt tt)))))))))) (an (an (@Eq.refl (Nat) ((0 : Nat))) (an (show ∀ (k : Nat), k < (0 : Nat) → (0 : Int) = (0 : Int) from fun _ _ => rfl) (an (ri k) (an (ri ((0 : Int))) (an (show e = Wd.plV (W (29 : Nat)) by (simp [hW, g1.1, g2]; done)) (an (rb false) (rb false))))))) tt)))) tt)) ?_
    kernel_rfl
  · exact ff (by (simp [hW, g1.1, g2] at *; done))
theorem ec_1 (he : 0 ≤ e ∧ e < 65536) (hk : 1 ≤ k ∧ k ≤ 4) (j : Nat) (hj : 1 ≤ j ∧ (j : Int) ≤ k) (s : Int) (hs : 0 ≤ s ∧ s < 65537) (hW : W (29 + j) = 4 * s) (ho : eOk e s = true) :
    ∃ hh, vcOf (runAt Try.prog specs noL 6000 10 [1, 1, 1, 1, 1, 1, 1, 1, 1, 1, 1, 1, 1, 1, 1, 0, 0, 0] (Tr.ofPairs (ecT e fr mn j false)) (Hm (ecB f n W k ((j : Int) - 1) e false false) 6) hh)
    (roundK 6 [0, 1, 2, 3, 4, 5] (ecT e fr mn (j + 1) false) (ecB f n W k j e false false) True 3 [] [] False) := by
  have g1 := Wd.isVal_mk (x := 4 * s) (by omega) (by omega) (by omega)
  have g2 : Wd.plV (4 * s) = s := by rw [g1.2]; omega
  have g4 : IntKind.i64.wrap (30 + ((j : Int) - 1)) = 29 + j := by rw [wrapk _ (by omega)]; omega
  have g5 : (29 + (j : Int)).toNat = 29 + j := by omega
  have g6 : IntKind.i64.wrap (e + 1) = e + 1 := wrapk _ (by omega)
  have g7 : IntKind.i64.wrap ((j : Int) - 1 + 1) = j := by rw [wrapk _ (by omega)]; omega
  have g8 : IntKind.i64.wrap ((j : Int) + 1) = j + 1 := wrapk _ (by omega)
  simp only [eOk, Bool.or_eq_true, decide_eq_true_eq] at ho

  have h0 : (!false) = true := by decide +kernel
  rcases Bool.eq_false_or_eq_true (decide ((↑j : Int) < (9 : Int))) with h1 | h1
  ·
   have h2 : (false) = false := by decide +kernel
   rcases Bool.eq_false_or_eq_true (decide ((↑j : Int) - (1 : Int) < (0 : Int))) with h3 | h3
   · exact ff (by (simp [g4, g5, hW, g1.1, g2, g6] at *; omega))
   ·
    rcases Bool.eq_false_or_eq_true (decide ((↑j : Int) - (1 : Int) < k)) with h4 | h4
    ·
     rcases Bool.eq_false_or_eq_true (Wd.plV (W (IntKind.i64.wrap ((30 : Int) + ((↑j : Int) - (1 : Int)))).toNat) != (0 : Int)) with h5 | h5
     ·
      rcases Bool.eq_false_or_eq_true (!Wd.isVal (W (IntKind.i64.wrap ((30 : Int) + ((↑j : Int) - (1 : Int)))).toNat)) with h6 | h6
      · exact ff (by (simp [g4, g5, hW, g1.1, g2, g6] at *; done))
      ·
       refine vcIntro [true, true, false, false, true, true, false] (an (an h6 (an h5 (an (an (show (0 : Int) ≤ IntKind.i64.wrap ((30 : Int) + ((↑j : Int) - (1 : Int))) by omega) (show IntKind.i64.wrap ((30 : Int) + ((↑j : Int) - (1 : Int))) + (1 : Int) ≤ (634 : Int) by omega)) (an h4 (an h3 (an h2 (an h1 (an h0 tt)))))))) (an (an (an tt (an (ri e) (an (rb fr) (an (ri mn) (an tt (an (show (↑(j + (1 : Nat)) : Int) = IntKind.i64.wrap ((↑j : Int) + (1 : Int)) by omega) (an (show false = (Wd.plV (W (IntKind.i64.wrap ((30 : Int) + ((↑j : Int) - (1 : Int)))).toNat) != IntKind.i64.wrap (e + (1 : Int))) by (simp [g4, g5, hW, g1.1, g2, g6, g7, g8] at *; omega)) tt))))))) (an (an (show n * (1 : Nat) ≤ n * (1 : Nat) by (simp; done)) (show ∀ (k : Nat), k < n * (1 : Nat) → f k = f k from fun _ _ => rfl)) (an (an (@Eq.refl (Nat) ((634 : Nat))) (an (show ∀ (k : Nat), k < (634 : Nat) → W k = if k = (IntKind.i64.wrap ((30 : Int) + ((↑j : Int) - (1 : Int)))).toNat then W (IntKind.i64.wrap ((30 : Int) + ((↑j : Int) - (1 : Int)))).toNat else W k by (intro i hi; simp [g4, g5]; intro h; simp [h]; done)) (an tt (an tt (an tt (an tt (an tt (an tt (an tt (an tt tt)))))))))) (an (an (@Eq.refl (Nat) ((0 : Nat))) (an (show ∀ (k : Nat), k < (0 : Nat) → (0 : Int) = (0 : Int) from fun _ _ => rfl) (an (ri k) (an (show (↑j : Int) = IntKind.i64.wrap ((↑j : Int) - (1 : Int) + (1 : Int)) by omega) (an (ri e) (an (rb false) (show false = (Wd.plV (W (IntKind.i64.wrap ((30 : Int) + ((↑j : Int) - (1 : Int)))).toNat) != IntKind.i64.wrap (e + (1 : Int))) by (simp [g4, g5, hW, g1.1, g2, g6, g7, g8] at *; omega)))))))) tt)))) tt)) ?_
       kernel_rfl
     ·
      rcases Bool.eq_false_or_eq_true (!Wd.isVal (W (IntKind.i64.wrap ((30 : Int) + ((↑j : Int) - (1 : Int)))).toNat)) with h7 | h7
      · exact ff (by (simp [g4, g5, hW, g1.1, g2, g6] at *; done))
      ·
       refine vcIntro [true, true, false, false, true, false, false] (an (an h7 (an h5 (an (an (show (0 : Int) ≤ IntKind.i64.wrap ((30 : Int) + ((↑j : Int) - (1 : Int))) by omega) (show IntKind.i64.wrap ((30 : Int) + ((↑j : Int) - (1 : Int))) + (1 : Int) ≤ (634 : Int) by omega)) (an h4 (an h3 (an h2 (an h1 (an h0 tt)))))))) (an (an (an tt (an (ri e) (an (rb fr) (an (ri mn) (an tt (an (show (↑(j + (1 : Nat)) : Int) = IntKind.i64.wrap ((↑j : Int) + (1 : Int)) by omega) (an (rb false) tt))))))) (an (an (show n * (1 : Nat) ≤ n * (1 : Nat) by (simp; done)) (show ∀ (k : Nat), k < n * (1 : Nat) → f k = f k from fun _ _ => rfl)) (an (an (@Eq.refl (Nat) ((634 : Nat))) (an (show ∀ (k : Nat), k < (634 : Nat) → W k = if k = (IntKind.i64.wrap ((30 : Int) + ((↑j : Int) - (1 : Int)))).toNat then W (IntKind.i64.wrap ((30 : Int) + ((↑j : Int) - (1 : Int)))).toNat else W k by (intro i hi; simp [g4, g5]; intro h; simp [h]; done)) (an tt (an tt (an tt (an tt (an tt (an tt (an tt (an tt tt)))))))))) (an (an (@Eq.refl (Nat) ((0 : Nat))) (an (show ∀ (k : Nat), k < (0 : Nat) → (0 : Int) = (0 : Int) from fun _ _ => rfl) (an (ri k) (an (show (↑j : Int) = IntKind.i64.wrap ((↑j : Int) - (1 : Int) + (1 : Int)) by omega) (an (ri e) (an (rb false) (rb false))))))) tt)))) tt)) ?_
       kernel_rfl
    · exact ff (by (simp [g4, g5, hW, g1.1, g2, g6] at *; omega))
  · exact ff (by (simp [g4, g5, hW, g1.1, g2, g6] at *; omega))
theorem ec_2 (he : 0 ≤ e ∧ e < 65536) (hk : 1 ≤ k ∧ k ≤ 4) (j : Nat) (hj : 1 ≤ j ∧ (j : Int) ≤ k) (s : Int) (hs : 0 ≤ s ∧ s < 65537) (hW : W (29 + j) = 4 * s) (ho : eOk e s = false) :
    ∃ hh, vcOf (runAt Try.prog specs noL 6000 10 [1, 1, 1, 1, 1, 1, 1, 1, 1, 1, 1, 1, 1, 1, 1, 0, 0, 0] (Tr.ofPairs (ecT e fr mn j false)) (Hm (ecB f n W k ((j : Int) - 1) e false false) 6) hh)
    (roundK 6 [0, 1, 2, 3, 4, 5] (ecT e fr mn (j + 1) true) (ecB f n W k j e false true) True 3 [] [] False) := by
  have g1 := Wd.isVal_mk (x := 4 * s) (by omega) (by omega) (by omega)
  have g2 : Wd.plV (4 * s) = s := by rw [g1.2]; omega
  have g4 : IntKind.i64.wrap (30 + ((j : Int) - 1)) = 29 + j := by rw [wrapk _ (by omega)]; omega
  have g5 : (29 + (j : Int)).toNat = 29 + j := by omega
  have g6 : IntKind.i64.wrap (e + 1) = e + 1 := wrapk _ (by omega)
  have g7 : IntKind.i64.wrap ((j : Int) - 1 + 1) = j := by rw [wrapk _ (by omega)]; omega
  have g8 : IntKind.i64.wrap ((j : Int) + 1) = j + 1 := wrapk _ (by omega)
  simp only [eOk, Bool.or_eq_false_iff, decide_eq_false_iff_not] at ho

  have h0 : (!false) = true := by decide +kernel
  rcases Bool.eq_false_or_eq_true (decide ((↑j : Int) < (9 : Int))) with h1 | h1
  ·
   have h2 : (false) = false := by decide +kernel
   rcases Bool.eq_false_or_eq_true (decide ((↑j : Int) - (1 : Int) < (0 : Int))) with h3 | h3
   · exact ff (by (simp [g4, g5, hW, g1.1, g2, g6] at *; omega))
   ·
    rcases Bool.eq_false_or_eq_true (decide ((↑j : Int) - (1 : Int) < k)) with h4 | h4
    ·
     rcases Bool.eq_false_or_eq_true (Wd.plV (W (IntKind.i64.wrap ((30 : Int) + ((↑j : Int) - (1 : Int)))).toNat) != (0 : Int)) with h5 | h5
     ·
      rcases Bool.eq_false_or_eq_true (!Wd.isVal (W (IntKind.i64.wrap ((30 : Int) + ((↑j : Int) - (1 : Int)))).toNat)) with h6 | h6
      · exact ff (by (simp [g4, g5, hW, g1.1, g2, g6] at *; done))
      ·
       refine vcIntro [true, true, false, false, true, true, false] (an (an h6 (an h5 (an (an (show (0 : Int) ≤ IntKind.i64.wrap ((30 : Int) + ((↑j : Int) - (1 : Int))) by omega) (show IntKind.i64.wrap ((30 : Int) + ((↑j : Int) - (1 : Int))) + (1 : Int) ≤ (634 : Int) by omega)) (an h4 (an h3 (an h2 (an h1 (an h0 tt)))))))) (an (an (an tt (an (ri e) (an (rb fr) (an (ri mn) (an tt (an (show (↑(j + (1 : Nat)) : Int) = IntKind.i64.wrap ((↑j : Int) + (1 : Int)) by omega) (an (show true = (Wd.plV (W (IntKind.i64.wrap ((30 : Int) + ((↑j : Int) - (1 : Int)))).toNat) != IntKind.i64.wrap (e + (1 : Int))) by (simp [g4, g5, hW, g1.1, g2, g6, g7, g8] at *; omega)) tt))))))) (an (an (show n * (1 : Nat) ≤ n * (1 : Nat) by (simp; done)) (show ∀ (k : Nat), k < n * (1 : Nat) → f k = f k from fun _ _ => rfl)) (an (an (@Eq.refl (Nat) ((634 : Nat))) (an (show ∀ (k : Nat), k < (634 : Nat) → W k = if k = (IntKind.i64.wrap ((30 : Int) + ((↑j : Int) - (1 : Int)))).toNat then W (IntKind.i64.wrap ((30 : Int) + ((↑j : Int) - (1 : Int)))).toNat else W k by (intro i hi; simp [g4, g5]; intro h; simp [h]; done)) (an tt (an tt (an tt (an tt (an tt (an tt (an tt (an tt tt)))))))))) (an (an (@Eq.refl (Nat) ((0 : Nat))) (an (show ∀ (k : Nat), k < (0 : Nat) → (0 : Int) = (0 : Int) from fun _ _ => rfl) (an (ri k) (an (show (↑j : Int) = IntKind.i64.wrap ((↑j : Int) - (1 : Int) + (1 : Int)) by omega) (an (ri e) (an (rb false) (show true = (Wd.plV (W (IntKind.i64.wrap ((30 : Int) + ((↑j : Int) - (1 : Int)))).toNat) != IntKind.i64.wrap (e + (1 : Int))) by (simp [g4, g5, hW, g1.1, g2, g6, g7, g8] at *; omega)))))))) tt)))) tt)) ?_
       kernel_rfl
     · exact ff (by (simp [g4, g5, hW, g1.1, g2, g6] at *; omega))
    · exact ff (by (simp [g4, g5, hW, g1.1, g2, g6] at *; omega))
  · exact ff (by (simp [g4, g5, hW, g1.1, g2, g6] at *; omega))
theorem ec_3 (he : 0 ≤ e ∧ e < 65536) (hk : 1 ≤ k ∧ k ≤ 4) (j : Nat) (hj : (j : Int) = k + 1) (hW : W 29 = 4 * e) :
    ∃ hh, vcOf (runAt Try.prog specs noL 6000 10 [1, 1, 1, 1, 1, 1, 1, 1, 1, 1, 1, 1, 1, 1, 1, 0, 0, 0] (Tr.ofPairs (ecT e fr mn j false)) (Hm (ecB f n W k ((j : Int) - 1) e false false) 6) hh)
    (roundK 6 [0, 1, 2, 3, 4, 5] (ecT e fr mn (j + 1) true) (ecB f n (A2.upd W 29 (4 * (e + 1))) k j e true true) True 3 [] [] False) := by
  have g6 : IntKind.i64.wrap (e + 1) = e + 1 := wrapk _ (by omega)
  have g3 : IntKind.i64.wrap (e * 4) = 4 * e := by rw [wrapk _ (by omega)]; omega
  have g5 : IntKind.i64.wrap ((e + 1) * 4) = 4 * (e + 1) := by rw [wrapk _ (by omega)]; omega
  have g10 : IntKind.i64.wrap (4 * e) = 4 * e := wrapk _ (by omega)
  have g11 : IntKind.i64.wrap (4 * (e + 1)) = 4 * (e + 1) := wrapk _ (by omega)
  have g7 : IntKind.i64.wrap ((j : Int) - 1 + 1) = j := by rw [wrapk _ (by omega)]; omega
  have g8 : IntKind.i64.wrap ((j : Int) + 1) = j + 1 := wrapk _ (by omega)

  have h0 : (!false) = true := by decide +kernel
  rcases Bool.eq_false_or_eq_true (decide ((↑j : Int) < (9 : Int))) with h1 | h1
  ·
   have h2 : (false) = false := by decide +kernel
   rcases Bool.eq_false_or_eq_true (decide ((↑j : Int) - (1 : Int) < (0 : Int))) with h3 | h3
   · exact ff (by (simp [g3, g5, g10, g11, hW, g6] at *; omega))
   ·
    rcases Bool.eq_false_or_eq_true (decide ((↑j : Int) - (1 : Int) < k)) with h4 | h4
    · exact ff (by (simp [g3, g5, g10, g11, hW, g6] at *; omega))
    ·
     refine vcIntro [true, true, false, false, false] (an (an h4 (an h3 (an h2 (an h1 (an h0 tt))))) (an (an (an tt (an (ri e) (an (rb fr) (an (ri mn) (an tt (an (show (↑(j + (1 : Nat)) : Int) = IntKind.i64.wrap ((↑j : Int) + (1 : Int)) by omega) (an (rb true) tt))))))) (an (an (show n * (1 : Nat) ≤ n * (1 : Nat) by (simp; done)) (show ∀ (k : Nat), k < n * (1 : Nat) → f k = f k from fun _ _ => rfl)) (an (an (@Eq.refl (Nat) ((634 : Nat))) (an (show ∀ (k : Nat), k < (634 : Nat) → (if k = (29 : Nat) then (4 : Int) * (e + (1 : Int)) else W k) = if k = (29 : Nat) then if W (29 : Nat) = IntKind.i64.wrap (IntKind.i64.wrap (e * (4 : Int)) + (0 : Int)) then IntKind.i64.wrap (IntKind.i64.wrap (IntKind.i64.wrap (e + (1 : Int)) * (4 : Int)) + (0 : Int)) else W (29 : Nat) else W k by (simp [g3, g5, g10, g11, hW, g6, g7, g8]; done)) (an tt (an tt (an tt (an tt (an tt (an tt (an tt (an tt tt)))))))))) (an (an (@Eq.refl (Nat) ((0 : Nat))) (an (show ∀ (k : Nat), k < (0 : Nat) → (0 : Int) = (0 : Int) from fun _ _ => rfl) (an (ri k) (an (show (↑j : Int) = IntKind.i64.wrap ((↑j : Int) - (1 : Int) + (1 : Int)) by omega) (an (ri e) (an (show true = (W (29 : Nat) == IntKind.i64.wrap (IntKind.i64.wrap (e * (4 : Int)) + (0 : Int))) by (simp [g3, g5, g10, g11, hW, g6, g7, g8]; done)) (rb true))))))) tt)))) tt)) ?_
     kernel_rfl
  · exact ff (by (simp [g3, g5, g10, g11, hW, g6] at *; omega))
theorem ec_x (j : Nat) (q ep : Int) (mv : Bool) :
    ∃ hh, vcOf (runAt Try.prog specs noL 6000 10 [1, 1, 1, 1, 1, 1, 1, 1, 1, 1, 1, 1, 1, 1, 1, 0, 0, 0] (Tr.ofPairs (ecT e fr mn j true)) (Hm (ecB f n W k q ep mv true) 6) hh)
    (roundK 6 [0, 1, 2, 3, 4, 5] [] [] False 3 (ecT e fr mn j true) (ecB f n W k q ep mv true) True) := by

  have h0 : (!true) = false := by decide +kernel
  refine vcIntro [false] (an (an h0 tt) (an (an (an tt (an (ri e) (an (rb fr) (an (ri mn) (an tt (an (ri ((↑j : Int))) (an (rb true) tt))))))) (an (an (show n * (1 : Nat) ≤ n * (1 : Nat) by (simp; done)) (show ∀ (k : Nat), k < n * (1 : Nat) → f k = f k from fun _ _ => rfl)) (an (an (@Eq.refl (Nat) ((634 : Nat))) (an (show ∀ (k : Nat), k < (634 : Nat) → W k = W k from fun _ _ => rfl) (an tt (an tt (an tt (an tt (an tt (an tt (an tt (an tt tt)))))))))) (an (an (@Eq.refl (Nat) ((0 : Nat))) (an (show ∀ (k : Nat), k < (0 : Nat) → (0 : Int) = (0 : Int) from fun _ _ => rfl) (an (ri k) (an (ri q) (an (ri ep) (an (rb mv) (rb true))))))) tt)))) tt)) ?_
  kernel_rfl
theorem ec_endT (he : 0 ≤ e ∧ e < 65536) (j : Nat) (q ep : Int) (hj : (j : Int) = mn) (hW : W 29 = 4 * (e + 1)) :
    ∃ hh, vcOf (runRet Try.prog specs noL 6000 10 [1, 1, 1, 1, 1, 1, 1, 1, 1, 1, 1, 1, 1, 1, 1, 0, 0] (.exit 3) (Tr.ofPairs (ecT e true mn j true)) (Hm (ecB f n W k q ep true true) 6) hh) (fun v _ => isT v) := by
  have g6 : IntKind.i64.wrap (e + 1) = e + 1 := wrapk _ (by omega)
  have g3 : IntKind.i64.wrap (4 * e) = 4 * e := wrapk _ (by omega)
  have g5 : IntKind.i64.wrap (4 * (e + 1)) = 4 * (e + 1) := wrapk _ (by omega)

  have h0 : (true) = true := by decide +kernel
  have h1 : (true == true) = true := by decide +kernel
  rcases Bool.eq_false_or_eq_true ((↑j : Int) == mn) with h2 | h2
  ·
   refine vcIntro [true, true, true] (an (an h2 (an h1 (an h0 tt))) (show (W (29 : Nat) == IntKind.i64.wrap ((4 : Int) * IntKind.i64.wrap (e + (1 : Int)))) = true by (simp [g3, g5, hW, g6]; done))) ?_
   kernel_rfl
  · exact ff (by (simp [g3, g5, hW, g6] at *; omega))
theorem ec_endF (he : 0 ≤ e ∧ e < 65536) (j : Nat) (q ep : Int) (hj : (j : Int) = mn) (hW : W 29 = 4 * e) :
    ∃ hh, vcOf (runRet Try.prog specs noL 6000 10 [1, 1, 1, 1, 1, 1, 1, 1, 1, 1, 1, 1, 1, 1, 1, 0, 0] (.exit 3) (Tr.ofPairs (ecT e false mn j true)) (Hm (ecB f n W k q ep false true) 6) hh) (fun v _ => isT v) := by
  have g6 : IntKind.i64.wrap (e + 1) = e + 1 := wrapk _ (by omega)
  have g3 : IntKind.i64.wrap (4 * e) = 4 * e := wrapk _ (by omega)
  have g5 : IntKind.i64.wrap (4 * (e + 1)) = 4 * (e + 1) := wrapk _ (by omega)

  have h0 : (false) = false := by decide +kernel
  have h1 : (false == false) = true := by decide +kernel
  rcases Bool.eq_false_or_eq_true ((↑j : Int) == mn) with h2 | h2
  ·
   refine vcIntro [false, true, true] (an (an h2 (an h1 (an h0 tt))) (show (W (29 : Nat) == IntKind.i64.wrap ((4 : Int) * e)) = true by (simp [g3, g5, hW, g6]; done))) ?_
   kernel_rfl
  · exact ff (by (simp [g3, g5, hW, g6] at *; omega))
end Go.Ideal.E1
