/- Chapter 13: DescForms. Own text. -/
import Derived.Test.YtbcadmnkilckbaaD1b
namespace Go.Ideal.D1
open Go.Proofs Go.Ideal Go.Ideal.L1
set_option linter.unusedSimpArgs false
set_option linter.unusedVariables false
set_option maxRecDepth 100000
set_option maxHeartbeats 80000000

theorem forms_c1 (w x : Int) (hq : IntKind.i64.wrap ((IntKind.u64.wrap w).tmod 11) = 1 ∧ (IntKind.u64.wrap w).tmod 11 = 1) : ∃ hh, vcOf (runCall Try.prog specs noL 6000 3 [.int .i64 (.s w), .int .i64 (.s x)] H0 hh) (fun v _ => isT v) := by
  have hm4 := modU w 4 (by omega) (by omega)
  have hx : 0 ≤ x % 1024 ∧ x % 1024 < 1024 := by omega
  have hw := hW w x
  have ha := hA x
  have hb := hB x

  rcases Bool.eq_false_or_eq_true ((IntKind.u64.wrap w).tmod (11 : Int) == (0 : Int)) with h0 | h0
  · exact ff (by (simp only [hq] at *; simp at *; done))
  ·
   rcases Bool.eq_false_or_eq_true ((IntKind.u64.wrap w).tmod (11 : Int) == (1 : Int)) with h1 | h1
   ·
    rcases Bool.eq_false_or_eq_true (decide ((0 : Int) ≤ IntKind.i64.wrap ((0 : Int) - IntKind.i64.wrap ((1 : Int) + x % (1024 : Int)))) && decide (IntKind.i64.wrap ((0 : Int) - IntKind.i64.wrap ((1 : Int) + x % (1024 : Int))) < (12 : Int))) with h2 | h2
    · exact ff (by (clear hw; simp only [ha, hb] at *; simp (disch := omega) only [Int.tdiv_eq_ediv_of_nonneg, Int.tmod_eq_emod_of_nonneg, wrapk] at *; simp at *; omega))
    ·
     rcases Bool.eq_false_or_eq_true (Wd.isVal ([(12 : Int), (1 : Int), IntKind.i64.wrap ((4 : Int) * IntKind.i64.wrap ((262143 : Int) + IntKind.i64.wrap ((1 : Int) + x % (1024 : Int)))), (2 : Int)].getD (IntKind.i64.wrap ((IntKind.u64.wrap w).tmod (4 : Int))).toNat (0 : Int))) with h3 | h3
     ·
      have h4 : (!Wd.isVal (0 : Int)) = false := by decide +kernel
      rcases Bool.eq_false_or_eq_true (decide ((Wd.plV ([(12 : Int), (1 : Int), IntKind.i64.wrap ((4 : Int) * IntKind.i64.wrap ((262143 : Int) + IntKind.i64.wrap ((1 : Int) + x % (1024 : Int)))), (2 : Int)].getD (IntKind.i64.wrap ((IntKind.u64.wrap w).tmod (4 : Int))).toNat (0 : Int))).tmod (4 : Int) > (2 : Int))) with h5 | h5
      ·
       have h6 : (Wd.isVal (0 : Int)) = true := by decide +kernel
       rcases Bool.eq_false_or_eq_true (!Wd.isVal (IntKind.i64.wrap ((4 : Int) * IntKind.i64.wrap ((16 : Int) + IntKind.i64.wrap ((1 : Int) + x % (1024 : Int)))))) with h7 | h7
       ·
        have h8 : (!Wd.isVal (4 : Int)) = false := by decide +kernel
        have h9 : (decide ((Wd.plV (0 : Int)).tmod (4 : Int) > (2 : Int))) = false := by decide +kernel
        have h10 : (decide (IntKind.i64.wrap ((Wd.plV (0 : Int)).tdiv (4 : Int)) > (65535 : Int))) = false := by decide +kernel
        have h11 : (decide (Wd.plV (4 : Int) > (16 : Int))) = false := by decide +kernel
        have h12 : (decide ((0 : Int) < Wd.plV (4 : Int))) = true := by decide +kernel
        have h13 : (Wd.isVal (4 : Int)) = true := by decide +kernel
        rcases Bool.eq_false_or_eq_true (Wd.isVal (IntKind.i64.wrap ((4 : Int) * IntKind.i64.wrap ((15 : Int) + IntKind.i64.wrap ((1 : Int) + x % (1024 : Int)))))) with h14 | h14
        ·
         have h15 : (decide ((1 : Int) < Wd.plV (4 : Int))) = false := by decide +kernel
         rcases Bool.eq_false_or_eq_true (decide (Wd.plV (IntKind.i64.wrap ((4 : Int) * IntKind.i64.wrap ((15 : Int) + IntKind.i64.wrap ((1 : Int) + x % (1024 : Int))))) ≤ (-1 : Int))) with h16 | h16
         ·
          refine vcIntro [false, true, false, true, false, true, true, true, true, false, false, false, false, true, true, true, true, false, false, true] (an (an h16 (an h4 (an h15 (an h6 (an h14 (an h13 (an h12 (an h11 (an h10 (an h9 (an h8 (an h6 (an h7 (an h6 (an h5 (an h4 (an h3 (an (show (IntKind.i64.wrap ((IntKind.u64.wrap w).tmod (4 : Int))).toNat.succ ≤ (0 : Nat) + ([(1 : Int), IntKind.i64.wrap ((4 : Int) * IntKind.i64.wrap ((262143 : Int) + IntKind.i64.wrap ((1 : Int) + x % (1024 : Int)))), (2 : Int)].length + (1 : Nat)) by (simp; omega)) (an (an (show (0 : Int) ≤ IntKind.i64.wrap ((IntKind.u64.wrap w).tmod (4 : Int)) by omega) (show IntKind.i64.wrap ((IntKind.u64.wrap w).tmod (4 : Int)) + (1 : Int) ≤ (4 : Int) by omega)) (an h2 (an h1 (an h0 tt)))))))))))))))))))))) tt) ?_
          kernel_rfl
         ·
          rcases Bool.eq_false_or_eq_true (decide (Wd.plV (IntKind.i64.wrap ((4 : Int) * IntKind.i64.wrap ((15 : Int) + IntKind.i64.wrap ((1 : Int) + x % (1024 : Int))))) ≥ (16 : Int))) with h17 | h17
          ·
           refine vcIntro [false, true, false, true, false, true, true, true, true, false, false, false, false, true, true, true, true, false, false, false, true] (an (an h17 (an h16 (an h4 (an h15 (an h6 (an h14 (an h13 (an h12 (an h11 (an h10 (an h9 (an h8 (an h6 (an h7 (an h6 (an h5 (an h4 (an h3 (an (show (IntKind.i64.wrap ((IntKind.u64.wrap w).tmod (4 : Int))).toNat.succ ≤ (0 : Nat) + ([(1 : Int), IntKind.i64.wrap ((4 : Int) * IntKind.i64.wrap ((262143 : Int) + IntKind.i64.wrap ((1 : Int) + x % (1024 : Int)))), (2 : Int)].length + (1 : Nat)) by (simp; omega)) (an (an (show (0 : Int) ≤ IntKind.i64.wrap ((IntKind.u64.wrap w).tmod (4 : Int)) by omega) (show IntKind.i64.wrap ((IntKind.u64.wrap w).tmod (4 : Int)) + (1 : Int) ≤ (4 : Int) by omega)) (an h2 (an h1 (an h0 tt))))))))))))))))))))))) tt) ?_
           kernel_rfl
          ·
           have h18 : (!(decide ((0 : Int) ≤ Wd.plV (0 : Int)) && decide (Wd.plV (0 : Int) < (1099511627776 : Int)))) = false := by decide +kernel
           refine vcIntro [false, true, false, true, false, true, true, true, true, false, false, false, false, true, true, true, true, false, false, false, false, false, false] (an (an h18 (an h18 (an h17 (an h16 (an h4 (an h15 (an h6 (an h14 (an h13 (an h12 (an h11 (an h10 (an h9 (an h8 (an h6 (an h7 (an h6 (an h5 (an h4 (an h3 (an (show (IntKind.i64.wrap ((IntKind.u64.wrap w).tmod (4 : Int))).toNat.succ ≤ (0 : Nat) + ([(1 : Int), IntKind.i64.wrap ((4 : Int) * IntKind.i64.wrap ((262143 : Int) + IntKind.i64.wrap ((1 : Int) + x % (1024 : Int)))), (2 : Int)].length + (1 : Nat)) by (simp; omega)) (an (an (show (0 : Int) ≤ IntKind.i64.wrap ((IntKind.u64.wrap w).tmod (4 : Int)) by omega) (show IntKind.i64.wrap ((IntKind.u64.wrap w).tmod (4 : Int)) + (1 : Int) ≤ (4 : Int) by omega)) (an h2 (an h1 (an h0 tt))))))))))))))))))))))))) (show False by (simp (disch := omega) only [w1, wrapk] at *; simp at *; omega))) ?_
           kernel_rfl
        ·
         have h19 : (decide ((1 : Int) < Wd.plV (4 : Int))) = false := by decide +kernel
         refine vcIntro [false, true, false, true, false, true, true, true, true, false, false, false, false, true, true, false, false] (an (an h19 (an h14 (an h13 (an h12 (an h11 (an h10 (an h9 (an h8 (an h6 (an h7 (an h6 (an h5 (an h4 (an h3 (an (show (IntKind.i64.wrap ((IntKind.u64.wrap w).tmod (4 : Int))).toNat.succ ≤ (0 : Nat) + ([(1 : Int), IntKind.i64.wrap ((4 : Int) * IntKind.i64.wrap ((262143 : Int) + IntKind.i64.wrap ((1 : Int) + x % (1024 : Int)))), (2 : Int)].length + (1 : Nat)) by (simp; omega)) (an (an (show (0 : Int) ≤ IntKind.i64.wrap ((IntKind.u64.wrap w).tmod (4 : Int)) by omega) (show IntKind.i64.wrap ((IntKind.u64.wrap w).tmod (4 : Int)) + (1 : Int) ≤ (4 : Int) by omega)) (an h2 (an h1 (an h0 tt))))))))))))))))))) tt) ?_
         kernel_rfl
       ·
        have h20 : (decide ((Wd.plV (0 : Int)).tmod (4 : Int) > (2 : Int))) = false := by decide +kernel
        have h21 : (decide (IntKind.i64.wrap ((Wd.plV (0 : Int)).tdiv (4 : Int)) > (65535 : Int))) = false := by decide +kernel
        rcases Bool.eq_false_or_eq_true (decide (Wd.plV (IntKind.i64.wrap ((4 : Int) * IntKind.i64.wrap ((16 : Int) + IntKind.i64.wrap ((1 : Int) + x % (1024 : Int))))) > (16 : Int))) with h22 | h22
        ·
         have h23 : (!Wd.isVal (4 : Int)) = false := by decide +kernel
         have h24 : (decide (Wd.plV (4 : Int) > (16 : Int))) = false := by decide +kernel
         have h25 : (decide ((0 : Int) < Wd.plV (4 : Int))) = true := by decide +kernel
         have h26 : (Wd.isVal (4 : Int)) = true := by decide +kernel
         rcases Bool.eq_false_or_eq_true (Wd.isVal (IntKind.i64.wrap ((4 : Int) * IntKind.i64.wrap ((15 : Int) + IntKind.i64.wrap ((1 : Int) + x % (1024 : Int)))))) with h27 | h27
         ·
          have h28 : (decide ((1 : Int) < Wd.plV (4 : Int))) = false := by decide +kernel
          rcases Bool.eq_false_or_eq_true (decide (Wd.plV (IntKind.i64.wrap ((4 : Int) * IntKind.i64.wrap ((15 : Int) + IntKind.i64.wrap ((1 : Int) + x % (1024 : Int))))) ≤ (-1 : Int))) with h29 | h29
          · exact ff (by (clear hw; simp only [ha, hb] at *; simp (disch := omega) only [Int.tdiv_eq_ediv_of_nonneg, Int.tmod_eq_emod_of_nonneg, wrapk] at *; simp at *; omega))
          ·
           rcases Bool.eq_false_or_eq_true (decide (Wd.plV (IntKind.i64.wrap ((4 : Int) * IntKind.i64.wrap ((15 : Int) + IntKind.i64.wrap ((1 : Int) + x % (1024 : Int))))) ≥ (16 : Int))) with h30 | h30
           ·
            refine vcIntro [false, true, false, true, false, true, true, false, false, false, true, true, false, false, false, false, true, true, true, true, false, false, false, true] (an (an h30 (an h29 (an h4 (an h28 (an h6 (an h27 (an h26 (an h25 (an h24 (an h21 (an h20 (an h23 (an h6 (an h22 (an h21 (an h20 (an h7 (an h6 (an h5 (an h4 (an h3 (an (show (IntKind.i64.wrap ((IntKind.u64.wrap w).tmod (4 : Int))).toNat.succ ≤ (0 : Nat) + ([(1 : Int), IntKind.i64.wrap ((4 : Int) * IntKind.i64.wrap ((262143 : Int) + IntKind.i64.wrap ((1 : Int) + x % (1024 : Int)))), (2 : Int)].length + (1 : Nat)) by (simp; omega)) (an (an (show (0 : Int) ≤ IntKind.i64.wrap ((IntKind.u64.wrap w).tmod (4 : Int)) by omega) (show IntKind.i64.wrap ((IntKind.u64.wrap w).tmod (4 : Int)) + (1 : Int) ≤ (4 : Int) by omega)) (an h2 (an h1 (an h0 tt)))))))))))))))))))))))))) tt) ?_
            kernel_rfl
           · exact ff (by (clear hw; simp only [ha, hb] at *; simp (disch := omega) only [Int.tdiv_eq_ediv_of_nonneg, Int.tmod_eq_emod_of_nonneg, wrapk] at *; simp at *; omega))
         ·
          have h31 : (decide ((1 : Int) < Wd.plV (4 : Int))) = false := by decide +kernel
          refine vcIntro [false, true, false, true, false, true, true, false, false, false, true, true, false, false, false, false, true, true, false, false] (an (an h31 (an h27 (an h26 (an h25 (an h24 (an h21 (an h20 (an h23 (an h6 (an h22 (an h21 (an h20 (an h7 (an h6 (an h5 (an h4 (an h3 (an (show (IntKind.i64.wrap ((IntKind.u64.wrap w).tmod (4 : Int))).toNat.succ ≤ (0 : Nat) + ([(1 : Int), IntKind.i64.wrap ((4 : Int) * IntKind.i64.wrap ((262143 : Int) + IntKind.i64.wrap ((1 : Int) + x % (1024 : Int)))), (2 : Int)].length + (1 : Nat)) by (simp; omega)) (an (an (show (0 : Int) ≤ IntKind.i64.wrap ((IntKind.u64.wrap w).tmod (4 : Int)) by omega) (show IntKind.i64.wrap ((IntKind.u64.wrap w).tmod (4 : Int)) + (1 : Int) ≤ (4 : Int) by omega)) (an h2 (an h1 (an h0 tt)))))))))))))))))))))) tt) ?_
          kernel_rfl
        · exact ff (by (clear hw; simp only [ha, hb] at *; simp (disch := omega) only [Int.tdiv_eq_ediv_of_nonneg, Int.tmod_eq_emod_of_nonneg, wrapk] at *; simp at *; omega))
      ·
       rcases Bool.eq_false_or_eq_true (decide (IntKind.i64.wrap ((Wd.plV ([(12 : Int), (1 : Int), IntKind.i64.wrap ((4 : Int) * IntKind.i64.wrap ((262143 : Int) + IntKind.i64.wrap ((1 : Int) + x % (1024 : Int)))), (2 : Int)].getD (IntKind.i64.wrap ((IntKind.u64.wrap w).tmod (4 : Int))).toNat (0 : Int))).tdiv (4 : Int)) > (65535 : Int))) with h32 | h32
       ·
        have h33 : (Wd.isVal (0 : Int)) = true := by decide +kernel
        rcases Bool.eq_false_or_eq_true (!Wd.isVal (IntKind.i64.wrap ((4 : Int) * IntKind.i64.wrap ((16 : Int) + IntKind.i64.wrap ((1 : Int) + x % (1024 : Int)))))) with h34 | h34
        ·
         have h35 : (!Wd.isVal (4 : Int)) = false := by decide +kernel
         have h36 : (decide ((Wd.plV (0 : Int)).tmod (4 : Int) > (2 : Int))) = false := by decide +kernel
         have h37 : (decide (IntKind.i64.wrap ((Wd.plV (0 : Int)).tdiv (4 : Int)) > (65535 : Int))) = false := by decide +kernel
         have h38 : (decide (Wd.plV (4 : Int) > (16 : Int))) = false := by decide +kernel
         have h39 : (decide ((0 : Int) < Wd.plV (4 : Int))) = true := by decide +kernel
         have h40 : (Wd.isVal (4 : Int)) = true := by decide +kernel
         rcases Bool.eq_false_or_eq_true (Wd.isVal (IntKind.i64.wrap ((4 : Int) * IntKind.i64.wrap ((15 : Int) + IntKind.i64.wrap ((1 : Int) + x % (1024 : Int)))))) with h41 | h41
         ·
          have h42 : (decide ((1 : Int) < Wd.plV (4 : Int))) = false := by decide +kernel
          rcases Bool.eq_false_or_eq_true (decide (Wd.plV (IntKind.i64.wrap ((4 : Int) * IntKind.i64.wrap ((15 : Int) + IntKind.i64.wrap ((1 : Int) + x % (1024 : Int))))) ≤ (-1 : Int))) with h43 | h43
          ·
           refine vcIntro [false, true, false, true, false, false, true, true, true, true, false, false, false, false, true, true, true, true, false, false, true] (an (an h43 (an h4 (an h42 (an h33 (an h41 (an h40 (an h39 (an h38 (an h37 (an h36 (an h35 (an h33 (an h34 (an h33 (an h32 (an h5 (an h4 (an h3 (an (show (IntKind.i64.wrap ((IntKind.u64.wrap w).tmod (4 : Int))).toNat.succ ≤ (0 : Nat) + ([(1 : Int), IntKind.i64.wrap ((4 : Int) * IntKind.i64.wrap ((262143 : Int) + IntKind.i64.wrap ((1 : Int) + x % (1024 : Int)))), (2 : Int)].length + (1 : Nat)) by (simp; omega)) (an (an (show (0 : Int) ≤ IntKind.i64.wrap ((IntKind.u64.wrap w).tmod (4 : Int)) by omega) (show IntKind.i64.wrap ((IntKind.u64.wrap w).tmod (4 : Int)) + (1 : Int) ≤ (4 : Int) by omega)) (an h2 (an h1 (an h0 tt))))))))))))))))))))))) tt) ?_
           kernel_rfl
          ·
           rcases Bool.eq_false_or_eq_true (decide (Wd.plV (IntKind.i64.wrap ((4 : Int) * IntKind.i64.wrap ((15 : Int) + IntKind.i64.wrap ((1 : Int) + x % (1024 : Int))))) ≥ (16 : Int))) with h44 | h44
           ·
            refine vcIntro [false, true, false, true, false, false, true, true, true, true, false, false, false, false, true, true, true, true, false, false, false, true] (an (an h44 (an h43 (an h4 (an h42 (an h33 (an h41 (an h40 (an h39 (an h38 (an h37 (an h36 (an h35 (an h33 (an h34 (an h33 (an h32 (an h5 (an h4 (an h3 (an (show (IntKind.i64.wrap ((IntKind.u64.wrap w).tmod (4 : Int))).toNat.succ ≤ (0 : Nat) + ([(1 : Int), IntKind.i64.wrap ((4 : Int) * IntKind.i64.wrap ((262143 : Int) + IntKind.i64.wrap ((1 : Int) + x % (1024 : Int)))), (2 : Int)].length + (1 : Nat)) by (simp; omega)) (an (an (show (0 : Int) ≤ IntKind.i64.wrap ((IntKind.u64.wrap w).tmod (4 : Int)) by omega) (show IntKind.i64.wrap ((IntKind.u64.wrap w).tmod (4 : Int)) + (1 : Int) ≤ (4 : Int) by omega)) (an h2 (an h1 (an h0 tt)))))))))))))))))))))))) tt) ?_
            kernel_rfl
           ·
            have h45 : (!(decide ((0 : Int) ≤ Wd.plV (0 : Int)) && decide (Wd.plV (0 : Int) < (1099511627776 : Int)))) = false := by decide +kernel
            refine vcIntro [false, true, false, true, false, false, true, true, true, true, false, false, false, false, true, true, true, true, false, false, false, false, false, false] (an (an h45 (an h45 (an h44 (an h43 (an h4 (an h42 (an h33 (an h41 (an h40 (an h39 (an h38 (an h37 (an h36 (an h35 (an h33 (an h34 (an h33 (an h32 (an h5 (an h4 (an h3 (an (show (IntKind.i64.wrap ((IntKind.u64.wrap w).tmod (4 : Int))).toNat.succ ≤ (0 : Nat) + ([(1 : Int), IntKind.i64.wrap ((4 : Int) * IntKind.i64.wrap ((262143 : Int) + IntKind.i64.wrap ((1 : Int) + x % (1024 : Int)))), (2 : Int)].length + (1 : Nat)) by (simp; omega)) (an (an (show (0 : Int) ≤ IntKind.i64.wrap ((IntKind.u64.wrap w).tmod (4 : Int)) by omega) (show IntKind.i64.wrap ((IntKind.u64.wrap w).tmod (4 : Int)) + (1 : Int) ≤ (4 : Int) by omega)) (an h2 (an h1 (an h0 tt)))))))))))))))))))))))))) (show False by (simp (disch := omega) only [w1, wrapk] at *; simp at *; omega))) ?_
            kernel_rfl
         ·
          have h46 : (decide ((1 : Int) < Wd.plV (4 : Int))) = false := by decide +kernel
          refine vcIntro [false, true, false, true, false, false, true, true, true, true, false, false, false, false, true, true, false, false] (an (an h46 (an h41 (an h40 (an h39 (an h38 (an h37 (an h36 (an h35 (an h33 (an h34 (an h33 (an h32 (an h5 (an h4 (an h3 (an (show (IntKind.i64.wrap ((IntKind.u64.wrap w).tmod (4 : Int))).toNat.succ ≤ (0 : Nat) + ([(1 : Int), IntKind.i64.wrap ((4 : Int) * IntKind.i64.wrap ((262143 : Int) + IntKind.i64.wrap ((1 : Int) + x % (1024 : Int)))), (2 : Int)].length + (1 : Nat)) by (simp; omega)) (an (an (show (0 : Int) ≤ IntKind.i64.wrap ((IntKind.u64.wrap w).tmod (4 : Int)) by omega) (show IntKind.i64.wrap ((IntKind.u64.wrap w).tmod (4 : Int)) + (1 : Int) ≤ (4 : Int) by omega)) (an h2 (an h1 (an h0 tt)))))))))))))))))))) tt) ?_
          kernel_rfl
        ·
         have h47 : (decide ((Wd.plV (0 : Int)).tmod (4 : Int) > (2 : Int))) = false := by decide +kernel
         have h48 : (decide (IntKind.i64.wrap ((Wd.plV (0 : Int)).tdiv (4 : Int)) > (65535 : Int))) = false := by decide +kernel
         rcases Bool.eq_false_or_eq_true (decide (Wd.plV (IntKind.i64.wrap ((4 : Int) * IntKind.i64.wrap ((16 : Int) + IntKind.i64.wrap ((1 : Int) + x % (1024 : Int))))) > (16 : Int))) with h49 | h49
         ·
          have h50 : (!Wd.isVal (4 : Int)) = false := by decide +kernel
          have h51 : (decide (Wd.plV (4 : Int) > (16 : Int))) = false := by decide +kernel
          have h52 : (decide ((0 : Int) < Wd.plV (4 : Int))) = true := by decide +kernel
          have h53 : (Wd.isVal (4 : Int)) = true := by decide +kernel
          rcases Bool.eq_false_or_eq_true (Wd.isVal (IntKind.i64.wrap ((4 : Int) * IntKind.i64.wrap ((15 : Int) + IntKind.i64.wrap ((1 : Int) + x % (1024 : Int)))))) with h54 | h54
          ·
           have h55 : (decide ((1 : Int) < Wd.plV (4 : Int))) = false := by decide +kernel
           rcases Bool.eq_false_or_eq_true (decide (Wd.plV (IntKind.i64.wrap ((4 : Int) * IntKind.i64.wrap ((15 : Int) + IntKind.i64.wrap ((1 : Int) + x % (1024 : Int))))) ≤ (-1 : Int))) with h56 | h56
           · exact ff (by (clear hw; simp only [ha, hb] at *; simp (disch := omega) only [Int.tdiv_eq_ediv_of_nonneg, Int.tmod_eq_emod_of_nonneg, wrapk] at *; simp at *; omega))
           ·
            rcases Bool.eq_false_or_eq_true (decide (Wd.plV (IntKind.i64.wrap ((4 : Int) * IntKind.i64.wrap ((15 : Int) + IntKind.i64.wrap ((1 : Int) + x % (1024 : Int))))) ≥ (16 : Int))) with h57 | h57
            ·
             refine vcIntro [false, true, false, true, false, false, true, true, false, false, false, true, true, false, false, false, false, true, true, true, true, false, false, false, true] (an (an h57 (an h56 (an h4 (an h55 (an h33 (an h54 (an h53 (an h52 (an h51 (an h48 (an h47 (an h50 (an h33 (an h49 (an h48 (an h47 (an h34 (an h33 (an h32 (an h5 (an h4 (an h3 (an (show (IntKind.i64.wrap ((IntKind.u64.wrap w).tmod (4 : Int))).toNat.succ ≤ (0 : Nat) + ([(1 : Int), IntKind.i64.wrap ((4 : Int) * IntKind.i64.wrap ((262143 : Int) + IntKind.i64.wrap ((1 : Int) + x % (1024 : Int)))), (2 : Int)].length + (1 : Nat)) by (simp; omega)) (an (an (show (0 : Int) ≤ IntKind.i64.wrap ((IntKind.u64.wrap w).tmod (4 : Int)) by omega) (show IntKind.i64.wrap ((IntKind.u64.wrap w).tmod (4 : Int)) + (1 : Int) ≤ (4 : Int) by omega)) (an h2 (an h1 (an h0 tt))))))))))))))))))))))))))) tt) ?_
             kernel_rfl
            · exact ff (by (clear hw; simp only [ha, hb] at *; simp (disch := omega) only [Int.tdiv_eq_ediv_of_nonneg, Int.tmod_eq_emod_of_nonneg, wrapk] at *; simp at *; omega))
          ·
           have h58 : (decide ((1 : Int) < Wd.plV (4 : Int))) = false := by decide +kernel
           refine vcIntro [false, true, false, true, false, false, true, true, false, false, false, true, true, false, false, false, false, true, true, false, false] (an (an h58 (an h54 (an h53 (an h52 (an h51 (an h48 (an h47 (an h50 (an h33 (an h49 (an h48 (an h47 (an h34 (an h33 (an h32 (an h5 (an h4 (an h3 (an (show (IntKind.i64.wrap ((IntKind.u64.wrap w).tmod (4 : Int))).toNat.succ ≤ (0 : Nat) + ([(1 : Int), IntKind.i64.wrap ((4 : Int) * IntKind.i64.wrap ((262143 : Int) + IntKind.i64.wrap ((1 : Int) + x % (1024 : Int)))), (2 : Int)].length + (1 : Nat)) by (simp; omega)) (an (an (show (0 : Int) ≤ IntKind.i64.wrap ((IntKind.u64.wrap w).tmod (4 : Int)) by omega) (show IntKind.i64.wrap ((IntKind.u64.wrap w).tmod (4 : Int)) + (1 : Int) ≤ (4 : Int) by omega)) (an h2 (an h1 (an h0 tt))))))))))))))))))))))) tt) ?_
           kernel_rfl
         · exact ff (by (clear hw; simp only [ha, hb] at *; simp (disch := omega) only [Int.tdiv_eq_ediv_of_nonneg, Int.tmod_eq_emod_of_nonneg, wrapk] at *; simp at *; omega))
       · exact ff (by (have hh9 := hw (by assumption); clear hw ha hb; generalize ([12, 1, IntKind.i64.wrap (4 * IntKind.i64.wrap (262143 + IntKind.i64.wrap (1 + x % 1024))), 2].getD (IntKind.i64.wrap ((IntKind.u64.wrap w).tmod 4)).toNat 0) = q at *; simp (disch := omega) only [Int.tdiv_eq_ediv_of_nonneg, Int.tmod_eq_emod_of_nonneg, wrapk] at *; simp at *; omega))
     ·
      have h59 : (Wd.isVal (0 : Int)) = true := by decide +kernel
      rcases Bool.eq_false_or_eq_true (!Wd.isVal (IntKind.i64.wrap ((4 : Int) * IntKind.i64.wrap ((16 : Int) + IntKind.i64.wrap ((1 : Int) + x % (1024 : Int)))))) with h60 | h60
      ·
       have h61 : (!Wd.isVal (4 : Int)) = false := by decide +kernel
       have h62 : (decide ((Wd.plV (0 : Int)).tmod (4 : Int) > (2 : Int))) = false := by decide +kernel
       have h63 : (decide (IntKind.i64.wrap ((Wd.plV (0 : Int)).tdiv (4 : Int)) > (65535 : Int))) = false := by decide +kernel
       have h64 : (decide (Wd.plV (4 : Int) > (16 : Int))) = false := by decide +kernel
       have h65 : (decide ((0 : Int) < Wd.plV (4 : Int))) = true := by decide +kernel
       have h66 : (Wd.isVal (4 : Int)) = true := by decide +kernel
       rcases Bool.eq_false_or_eq_true (Wd.isVal (IntKind.i64.wrap ((4 : Int) * IntKind.i64.wrap ((15 : Int) + IntKind.i64.wrap ((1 : Int) + x % (1024 : Int)))))) with h67 | h67
       ·
        have h68 : (decide ((1 : Int) < Wd.plV (4 : Int))) = false := by decide +kernel
        have h69 : (!Wd.isVal (0 : Int)) = false := by decide +kernel
        rcases Bool.eq_false_or_eq_true (decide (Wd.plV (IntKind.i64.wrap ((4 : Int) * IntKind.i64.wrap ((15 : Int) + IntKind.i64.wrap ((1 : Int) + x % (1024 : Int))))) ≤ (-1 : Int))) with h70 | h70
        ·
         refine vcIntro [false, true, false, false, true, true, true, false, false, false, false, true, true, true, true, false, false, true] (an (an h70 (an h69 (an h68 (an h59 (an h67 (an h66 (an h65 (an h64 (an h63 (an h62 (an h61 (an h59 (an h60 (an h59 (an h3 (an (show (IntKind.i64.wrap ((IntKind.u64.wrap w).tmod (4 : Int))).toNat.succ ≤ (0 : Nat) + ([(1 : Int), IntKind.i64.wrap ((4 : Int) * IntKind.i64.wrap ((262143 : Int) + IntKind.i64.wrap ((1 : Int) + x % (1024 : Int)))), (2 : Int)].length + (1 : Nat)) by (simp; omega)) (an (an (show (0 : Int) ≤ IntKind.i64.wrap ((IntKind.u64.wrap w).tmod (4 : Int)) by omega) (show IntKind.i64.wrap ((IntKind.u64.wrap w).tmod (4 : Int)) + (1 : Int) ≤ (4 : Int) by omega)) (an h2 (an h1 (an h0 tt)))))))))))))))))))) tt) ?_
         kernel_rfl
        ·
         rcases Bool.eq_false_or_eq_true (decide (Wd.plV (IntKind.i64.wrap ((4 : Int) * IntKind.i64.wrap ((15 : Int) + IntKind.i64.wrap ((1 : Int) + x % (1024 : Int))))) ≥ (16 : Int))) with h71 | h71
         ·
          refine vcIntro [false, true, false, false, true, true, true, false, false, false, false, true, true, true, true, false, false, false, true] (an (an h71 (an h70 (an h69 (an h68 (an h59 (an h67 (an h66 (an h65 (an h64 (an h63 (an h62 (an h61 (an h59 (an h60 (an h59 (an h3 (an (show (IntKind.i64.wrap ((IntKind.u64.wrap w).tmod (4 : Int))).toNat.succ ≤ (0 : Nat) + ([(1 : Int), IntKind.i64.wrap ((4 : Int) * IntKind.i64.wrap ((262143 : Int) + IntKind.i64.wrap ((1 : Int) + x % (1024 : Int)))), (2 : Int)].length + (1 : Nat)) by (simp; omega)) (an (an (show (0 : Int) ≤ IntKind.i64.wrap ((IntKind.u64.wrap w).tmod (4 : Int)) by omega) (show IntKind.i64.wrap ((IntKind.u64.wrap w).tmod (4 : Int)) + (1 : Int) ≤ (4 : Int) by omega)) (an h2 (an h1 (an h0 tt))))))))))))))))))))) tt) ?_
          kernel_rfl
         ·
          have h72 : (!(decide ((0 : Int) ≤ Wd.plV (0 : Int)) && decide (Wd.plV (0 : Int) < (1099511627776 : Int)))) = false := by decide +kernel
          refine vcIntro [false, true, false, false, true, true, true, false, false, false, false, true, true, true, true, false, false, false, false, false, false] (an (an h72 (an h72 (an h71 (an h70 (an h69 (an h68 (an h59 (an h67 (an h66 (an h65 (an h64 (an h63 (an h62 (an h61 (an h59 (an h60 (an h59 (an h3 (an (show (IntKind.i64.wrap ((IntKind.u64.wrap w).tmod (4 : Int))).toNat.succ ≤ (0 : Nat) + ([(1 : Int), IntKind.i64.wrap ((4 : Int) * IntKind.i64.wrap ((262143 : Int) + IntKind.i64.wrap ((1 : Int) + x % (1024 : Int)))), (2 : Int)].length + (1 : Nat)) by (simp; omega)) (an (an (show (0 : Int) ≤ IntKind.i64.wrap ((IntKind.u64.wrap w).tmod (4 : Int)) by omega) (show IntKind.i64.wrap ((IntKind.u64.wrap w).tmod (4 : Int)) + (1 : Int) ≤ (4 : Int) by omega)) (an h2 (an h1 (an h0 tt))))))))))))))))))))))) (show False by (simp (disch := omega) only [w1, wrapk] at *; simp at *; omega))) ?_
          kernel_rfl
       ·
        have h73 : (decide ((1 : Int) < Wd.plV (4 : Int))) = false := by decide +kernel
        refine vcIntro [false, true, false, false, true, true, true, false, false, false, false, true, true, false, false] (an (an h73 (an h67 (an h66 (an h65 (an h64 (an h63 (an h62 (an h61 (an h59 (an h60 (an h59 (an h3 (an (show (IntKind.i64.wrap ((IntKind.u64.wrap w).tmod (4 : Int))).toNat.succ ≤ (0 : Nat) + ([(1 : Int), IntKind.i64.wrap ((4 : Int) * IntKind.i64.wrap ((262143 : Int) + IntKind.i64.wrap ((1 : Int) + x % (1024 : Int)))), (2 : Int)].length + (1 : Nat)) by (simp; omega)) (an (an (show (0 : Int) ≤ IntKind.i64.wrap ((IntKind.u64.wrap w).tmod (4 : Int)) by omega) (show IntKind.i64.wrap ((IntKind.u64.wrap w).tmod (4 : Int)) + (1 : Int) ≤ (4 : Int) by omega)) (an h2 (an h1 (an h0 tt))))))))))))))))) tt) ?_
        kernel_rfl
      ·
       have h74 : (decide ((Wd.plV (0 : Int)).tmod (4 : Int) > (2 : Int))) = false := by decide +kernel
       have h75 : (decide (IntKind.i64.wrap ((Wd.plV (0 : Int)).tdiv (4 : Int)) > (65535 : Int))) = false := by decide +kernel
       rcases Bool.eq_false_or_eq_true (decide (Wd.plV (IntKind.i64.wrap ((4 : Int) * IntKind.i64.wrap ((16 : Int) + IntKind.i64.wrap ((1 : Int) + x % (1024 : Int))))) > (16 : Int))) with h76 | h76
       ·
        have h77 : (!Wd.isVal (4 : Int)) = false := by decide +kernel
        have h78 : (decide (Wd.plV (4 : Int) > (16 : Int))) = false := by decide +kernel
        have h79 : (decide ((0 : Int) < Wd.plV (4 : Int))) = true := by decide +kernel
        have h80 : (Wd.isVal (4 : Int)) = true := by decide +kernel
        rcases Bool.eq_false_or_eq_true (Wd.isVal (IntKind.i64.wrap ((4 : Int) * IntKind.i64.wrap ((15 : Int) + IntKind.i64.wrap ((1 : Int) + x % (1024 : Int)))))) with h81 | h81
        ·
         have h82 : (decide ((1 : Int) < Wd.plV (4 : Int))) = false := by decide +kernel
         have h83 : (!Wd.isVal (0 : Int)) = false := by decide +kernel
         rcases Bool.eq_false_or_eq_true (decide (Wd.plV (IntKind.i64.wrap ((4 : Int) * IntKind.i64.wrap ((15 : Int) + IntKind.i64.wrap ((1 : Int) + x % (1024 : Int))))) ≤ (-1 : Int))) with h84 | h84
         · exact ff (by (clear hw; simp only [ha, hb] at *; simp (disch := omega) only [Int.tdiv_eq_ediv_of_nonneg, Int.tmod_eq_emod_of_nonneg, wrapk] at *; simp at *; omega))
         ·
          rcases Bool.eq_false_or_eq_true (decide (Wd.plV (IntKind.i64.wrap ((4 : Int) * IntKind.i64.wrap ((15 : Int) + IntKind.i64.wrap ((1 : Int) + x % (1024 : Int))))) ≥ (16 : Int))) with h85 | h85
          ·
           refine vcIntro [false, true, false, false, true, false, false, false, true, true, false, false, false, false, true, true, true, true, false, false, false, true] (an (an h85 (an h84 (an h83 (an h82 (an h59 (an h81 (an h80 (an h79 (an h78 (an h75 (an h74 (an h77 (an h59 (an h76 (an h75 (an h74 (an h60 (an h59 (an h3 (an (show (IntKind.i64.wrap ((IntKind.u64.wrap w).tmod (4 : Int))).toNat.succ ≤ (0 : Nat) + ([(1 : Int), IntKind.i64.wrap ((4 : Int) * IntKind.i64.wrap ((262143 : Int) + IntKind.i64.wrap ((1 : Int) + x % (1024 : Int)))), (2 : Int)].length + (1 : Nat)) by (simp; omega)) (an (an (show (0 : Int) ≤ IntKind.i64.wrap ((IntKind.u64.wrap w).tmod (4 : Int)) by omega) (show IntKind.i64.wrap ((IntKind.u64.wrap w).tmod (4 : Int)) + (1 : Int) ≤ (4 : Int) by omega)) (an h2 (an h1 (an h0 tt)))))))))))))))))))))))) tt) ?_
           kernel_rfl
          · exact ff (by (clear hw; simp only [ha, hb] at *; simp (disch := omega) only [Int.tdiv_eq_ediv_of_nonneg, Int.tmod_eq_emod_of_nonneg, wrapk] at *; simp at *; omega))
        ·
         have h86 : (decide ((1 : Int) < Wd.plV (4 : Int))) = false := by decide +kernel
         refine vcIntro [false, true, false, false, true, false, false, false, true, true, false, false, false, false, true, true, false, false] (an (an h86 (an h81 (an h80 (an h79 (an h78 (an h75 (an h74 (an h77 (an h59 (an h76 (an h75 (an h74 (an h60 (an h59 (an h3 (an (show (IntKind.i64.wrap ((IntKind.u64.wrap w).tmod (4 : Int))).toNat.succ ≤ (0 : Nat) + ([(1 : Int), IntKind.i64.wrap ((4 : Int) * IntKind.i64.wrap ((262143 : Int) + IntKind.i64.wrap ((1 : Int) + x % (1024 : Int)))), (2 : Int)].length + (1 : Nat)) by (simp; omega)) (an (an (show (0 : Int) ≤ IntKind.i64.wrap ((IntKind.u64.wrap w).tmod (4 : Int)) by omega) (show IntKind.i64.wrap ((IntKind.u64.wrap w).tmod (4 : Int)) + (1 : Int) ≤ (4 : Int) by omega)) (an h2 (an h1 (an h0 tt)))))))))))))))))))) tt) ?_
         kernel_rfl
       · exact ff (by (clear hw; simp only [ha, hb] at *; simp (disch := omega) only [Int.tdiv_eq_ediv_of_nonneg, Int.tmod_eq_emod_of_nonneg, wrapk] at *; simp at *; omega))
   · exact ff (by (simp only [hq] at *; simp at *; done))
end Go.Ideal.D1
