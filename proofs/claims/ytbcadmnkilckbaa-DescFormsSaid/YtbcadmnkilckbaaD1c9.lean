/- Chapter 13: DescForms. Own text. -/
import Derived.Test.YtbcadmnkilckbaaD1b
namespace Go.Ideal.D1
open Go.Proofs Go.Ideal Go.Ideal.L1
set_option linter.unusedSimpArgs false
set_option linter.unusedVariables false
set_option maxRecDepth 100000
set_option maxHeartbeats 80000000

theorem forms_c9 (w x : Int) (hq : IntKind.i64.wrap ((IntKind.u64.wrap w).tmod 11) = 9 ∧ (IntKind.u64.wrap w).tmod 11 = 9) : ∃ hh, vcOf (runCall Try.prog specs noL 6000 3 [.int .i64 (.s w), .int .i64 (.s x)] H0 hh) (fun v _ => isT v) := by
  have hm4 := modU w 4 (by omega) (by omega)
  have hx : 0 ≤ x % 1024 ∧ x % 1024 < 1024 := by omega
  have hw := hW w x
  have ha := hA x
  have hb := hB x

  rcases Bool.eq_false_or_eq_true ((IntKind.u64.wrap w).tmod (11 : Int) == (0 : Int)) with h0 | h0
  · exact ff (by (simp only [hq] at *; simp at *; done))
  ·
   rcases Bool.eq_false_or_eq_true ((IntKind.u64.wrap w).tmod (11 : Int) == (1 : Int)) with h1 | h1
   · exact ff (by (simp only [hq] at *; simp at *; done))
   ·
    rcases Bool.eq_false_or_eq_true ((IntKind.u64.wrap w).tmod (11 : Int) == (2 : Int)) with h2 | h2
    · exact ff (by (simp only [hq] at *; simp at *; done))
    ·
     rcases Bool.eq_false_or_eq_true ((IntKind.u64.wrap w).tmod (11 : Int) == (3 : Int)) with h3 | h3
     · exact ff (by (simp only [hq] at *; simp at *; done))
     ·
      rcases Bool.eq_false_or_eq_true ((IntKind.u64.wrap w).tmod (11 : Int) == (4 : Int)) with h4 | h4
      · exact ff (by (simp only [hq] at *; simp at *; done))
      ·
       rcases Bool.eq_false_or_eq_true ((IntKind.u64.wrap w).tmod (11 : Int) == (5 : Int)) with h5 | h5
       · exact ff (by (simp only [hq] at *; simp at *; done))
       ·
        rcases Bool.eq_false_or_eq_true ((IntKind.u64.wrap w).tmod (11 : Int) == (6 : Int)) with h6 | h6
        · exact ff (by (simp only [hq] at *; simp at *; done))
        ·
         rcases Bool.eq_false_or_eq_true ((IntKind.u64.wrap w).tmod (11 : Int) == (7 : Int)) with h7 | h7
         · exact ff (by (simp only [hq] at *; simp at *; done))
         ·
          rcases Bool.eq_false_or_eq_true ((IntKind.u64.wrap w).tmod (11 : Int) == (8 : Int)) with h8 | h8
          · exact ff (by (simp only [hq] at *; simp at *; done))
          ·
           rcases Bool.eq_false_or_eq_true ((IntKind.u64.wrap w).tmod (11 : Int) == (9 : Int)) with h9 | h9
           ·
            rcases Bool.eq_false_or_eq_true (Wd.isVal ([(12 : Int), (1 : Int), IntKind.i64.wrap ((4 : Int) * IntKind.i64.wrap ((262143 : Int) + IntKind.i64.wrap ((1 : Int) + x % (1024 : Int)))), (2 : Int)].getD (IntKind.i64.wrap ((IntKind.u64.wrap w).tmod (4 : Int))).toNat (0 : Int))) with h10 | h10
            ·
             have h11 : (!Wd.isVal (0 : Int)) = false := by decide +kernel
             rcases Bool.eq_false_or_eq_true (decide ((Wd.plV ([(12 : Int), (1 : Int), IntKind.i64.wrap ((4 : Int) * IntKind.i64.wrap ((262143 : Int) + IntKind.i64.wrap ((1 : Int) + x % (1024 : Int)))), (2 : Int)].getD (IntKind.i64.wrap ((IntKind.u64.wrap w).tmod (4 : Int))).toNat (0 : Int))).tmod (4 : Int) > (2 : Int))) with h12 | h12
             ·
              have h13 : (Wd.isVal (0 : Int)) = true := by decide +kernel
              rcases Bool.eq_false_or_eq_true (!Wd.isVal (IntKind.i64.wrap ((4 : Int) * IntKind.i64.wrap ((16 : Int) + IntKind.i64.wrap ((1 : Int) + x % (1024 : Int)))))) with h14 | h14
              ·
               have h15 : (!Wd.isVal (4 : Int)) = false := by decide +kernel
               have h16 : (decide ((Wd.plV (0 : Int)).tmod (4 : Int) > (2 : Int))) = false := by decide +kernel
               have h17 : (decide (IntKind.i64.wrap ((Wd.plV (0 : Int)).tdiv (4 : Int)) > (65535 : Int))) = false := by decide +kernel
               have h18 : (decide (Wd.plV (4 : Int) > (16 : Int))) = false := by decide +kernel
               have h19 : (decide ((0 : Int) < Wd.plV (4 : Int))) = true := by decide +kernel
               have h20 : (Wd.isVal (4 : Int)) = true := by decide +kernel
               rcases Bool.eq_false_or_eq_true (Wd.isVal (IntKind.i64.wrap ((4 : Int) * IntKind.i64.wrap ((15 : Int) + IntKind.i64.wrap ((1 : Int) + x % (1024 : Int)))))) with h21 | h21
               ·
                have h22 : (decide ((1 : Int) < Wd.plV (4 : Int))) = false := by decide +kernel
                rcases Bool.eq_false_or_eq_true (decide (Wd.plV (IntKind.i64.wrap ((4 : Int) * IntKind.i64.wrap ((15 : Int) + IntKind.i64.wrap ((1 : Int) + x % (1024 : Int))))) ≤ (-1 : Int))) with h23 | h23
                ·
                 refine vcIntro [false, false, false, false, false, false, false, false, false, true, true, false, true, true, true, true, false, false, false, false, true, true, true, true, false, false, true] (an (an h23 (an h11 (an h22 (an h13 (an h21 (an h20 (an h19 (an h18 (an h17 (an h16 (an h15 (an h13 (an h14 (an h13 (an h12 (an h11 (an h10 (an (show (IntKind.i64.wrap ((IntKind.u64.wrap w).tmod (4 : Int))).toNat.succ ≤ (0 : Nat) + ([(1 : Int), IntKind.i64.wrap ((4 : Int) * IntKind.i64.wrap ((262143 : Int) + IntKind.i64.wrap ((1 : Int) + x % (1024 : Int)))), (2 : Int)].length + (1 : Nat)) by (simp; omega)) (an (an (show (0 : Int) ≤ IntKind.i64.wrap ((IntKind.u64.wrap w).tmod (4 : Int)) by omega) (show IntKind.i64.wrap ((IntKind.u64.wrap w).tmod (4 : Int)) + (1 : Int) ≤ (4 : Int) by omega)) (an h9 (an h8 (an h7 (an h6 (an h5 (an h4 (an h3 (an h2 (an h1 (an h0 tt))))))))))))))))))))))))))))) tt) ?_
                 kernel_rfl
                ·
                 rcases Bool.eq_false_or_eq_true (decide (Wd.plV (IntKind.i64.wrap ((4 : Int) * IntKind.i64.wrap ((15 : Int) + IntKind.i64.wrap ((1 : Int) + x % (1024 : Int))))) ≥ (16 : Int))) with h24 | h24
                 ·
                  refine vcIntro [false, false, false, false, false, false, false, false, false, true, true, false, true, true, true, true, false, false, false, false, true, true, true, true, false, false, false, true] (an (an h24 (an h23 (an h11 (an h22 (an h13 (an h21 (an h20 (an h19 (an h18 (an h17 (an h16 (an h15 (an h13 (an h14 (an h13 (an h12 (an h11 (an h10 (an (show (IntKind.i64.wrap ((IntKind.u64.wrap w).tmod (4 : Int))).toNat.succ ≤ (0 : Nat) + ([(1 : Int), IntKind.i64.wrap ((4 : Int) * IntKind.i64.wrap ((262143 : Int) + IntKind.i64.wrap ((1 : Int) + x % (1024 : Int)))), (2 : Int)].length + (1 : Nat)) by (simp; omega)) (an (an (show (0 : Int) ≤ IntKind.i64.wrap ((IntKind.u64.wrap w).tmod (4 : Int)) by omega) (show IntKind.i64.wrap ((IntKind.u64.wrap w).tmod (4 : Int)) + (1 : Int) ≤ (4 : Int) by omega)) (an h9 (an h8 (an h7 (an h6 (an h5 (an h4 (an h3 (an h2 (an h1 (an h0 tt)))))))))))))))))))))))))))))) tt) ?_
                  kernel_rfl
                 ·
                  have h25 : (!(decide ((0 : Int) ≤ Wd.plV (0 : Int)) && decide (Wd.plV (0 : Int) < (1099511627776 : Int)))) = false := by decide +kernel
                  refine vcIntro [false, false, false, false, false, false, false, false, false, true, true, false, true, true, true, true, false, false, false, false, true, true, true, true, false, false, false, false, false, false] (an (an h25 (an h25 (an h24 (an h23 (an h11 (an h22 (an h13 (an h21 (an h20 (an h19 (an h18 (an h17 (an h16 (an h15 (an h13 (an h14 (an h13 (an h12 (an h11 (an h10 (an (show (IntKind.i64.wrap ((IntKind.u64.wrap w).tmod (4 : Int))).toNat.succ ≤ (0 : Nat) + ([(1 : Int), IntKind.i64.wrap ((4 : Int) * IntKind.i64.wrap ((262143 : Int) + IntKind.i64.wrap ((1 : Int) + x % (1024 : Int)))), (2 : Int)].length + (1 : Nat)) by (simp; omega)) (an (an (show (0 : Int) ≤ IntKind.i64.wrap ((IntKind.u64.wrap w).tmod (4 : Int)) by omega) (show IntKind.i64.wrap ((IntKind.u64.wrap w).tmod (4 : Int)) + (1 : Int) ≤ (4 : Int) by omega)) (an h9 (an h8 (an h7 (an h6 (an h5 (an h4 (an h3 (an h2 (an h1 (an h0 tt)))))))))))))))))))))))))))))))) (show False by (simp (disch := omega) only [w1, wrapk] at *; simp at *; omega))) ?_
                  kernel_rfl
               ·
                have h26 : (decide ((1 : Int) < Wd.plV (4 : Int))) = false := by decide +kernel
                refine vcIntro [false, false, false, false, false, false, false, false, false, true, true, false, true, true, true, true, false, false, false, false, true, true, false, false] (an (an h26 (an h21 (an h20 (an h19 (an h18 (an h17 (an h16 (an h15 (an h13 (an h14 (an h13 (an h12 (an h11 (an h10 (an (show (IntKind.i64.wrap ((IntKind.u64.wrap w).tmod (4 : Int))).toNat.succ ≤ (0 : Nat) + ([(1 : Int), IntKind.i64.wrap ((4 : Int) * IntKind.i64.wrap ((262143 : Int) + IntKind.i64.wrap ((1 : Int) + x % (1024 : Int)))), (2 : Int)].length + (1 : Nat)) by (simp; omega)) (an (an (show (0 : Int) ≤ IntKind.i64.wrap ((IntKind.u64.wrap w).tmod (4 : Int)) by omega) (show IntKind.i64.wrap ((IntKind.u64.wrap w).tmod (4 : Int)) + (1 : Int) ≤ (4 : Int) by omega)) (an h9 (an h8 (an h7 (an h6 (an h5 (an h4 (an h3 (an h2 (an h1 (an h0 tt)))))))))))))))))))))))))) tt) ?_
                kernel_rfl
              ·
               have h27 : (decide ((Wd.plV (0 : Int)).tmod (4 : Int) > (2 : Int))) = false := by decide +kernel
               have h28 : (decide (IntKind.i64.wrap ((Wd.plV (0 : Int)).tdiv (4 : Int)) > (65535 : Int))) = false := by decide +kernel
               rcases Bool.eq_false_or_eq_true (decide (Wd.plV (IntKind.i64.wrap ((4 : Int) * IntKind.i64.wrap ((16 : Int) + IntKind.i64.wrap ((1 : Int) + x % (1024 : Int))))) > (16 : Int))) with h29 | h29
               ·
                have h30 : (!Wd.isVal (4 : Int)) = false := by decide +kernel
                have h31 : (decide (Wd.plV (4 : Int) > (16 : Int))) = false := by decide +kernel
                have h32 : (decide ((0 : Int) < Wd.plV (4 : Int))) = true := by decide +kernel
                have h33 : (Wd.isVal (4 : Int)) = true := by decide +kernel
                rcases Bool.eq_false_or_eq_true (Wd.isVal (IntKind.i64.wrap ((4 : Int) * IntKind.i64.wrap ((15 : Int) + IntKind.i64.wrap ((1 : Int) + x % (1024 : Int)))))) with h34 | h34
                ·
                 have h35 : (decide ((1 : Int) < Wd.plV (4 : Int))) = false := by decide +kernel
                 rcases Bool.eq_false_or_eq_true (decide (Wd.plV (IntKind.i64.wrap ((4 : Int) * IntKind.i64.wrap ((15 : Int) + IntKind.i64.wrap ((1 : Int) + x % (1024 : Int))))) ≤ (-1 : Int))) with h36 | h36
                 · exact ff (by (clear hw; simp only [ha, hb] at *; simp (disch := omega) only [Int.tdiv_eq_ediv_of_nonneg, Int.tmod_eq_emod_of_nonneg, wrapk] at *; simp at *; omega))
                 ·
                  rcases Bool.eq_false_or_eq_true (decide (Wd.plV (IntKind.i64.wrap ((4 : Int) * IntKind.i64.wrap ((15 : Int) + IntKind.i64.wrap ((1 : Int) + x % (1024 : Int))))) ≥ (16 : Int))) with h37 | h37
                  ·
                   refine vcIntro [false, false, false, false, false, false, false, false, false, true, true, false, true, true, false, false, false, true, true, false, false, false, false, true, true, true, true, false, false, false, true] (an (an h37 (an h36 (an h11 (an h35 (an h13 (an h34 (an h33 (an h32 (an h31 (an h28 (an h27 (an h30 (an h13 (an h29 (an h28 (an h27 (an h14 (an h13 (an h12 (an h11 (an h10 (an (show (IntKind.i64.wrap ((IntKind.u64.wrap w).tmod (4 : Int))).toNat.succ ≤ (0 : Nat) + ([(1 : Int), IntKind.i64.wrap ((4 : Int) * IntKind.i64.wrap ((262143 : Int) + IntKind.i64.wrap ((1 : Int) + x % (1024 : Int)))), (2 : Int)].length + (1 : Nat)) by (simp; omega)) (an (an (show (0 : Int) ≤ IntKind.i64.wrap ((IntKind.u64.wrap w).tmod (4 : Int)) by omega) (show IntKind.i64.wrap ((IntKind.u64.wrap w).tmod (4 : Int)) + (1 : Int) ≤ (4 : Int) by omega)) (an h9 (an h8 (an h7 (an h6 (an h5 (an h4 (an h3 (an h2 (an h1 (an h0 tt))))))))))))))))))))))))))))))))) tt) ?_
                   kernel_rfl
                  · exact ff (by (clear hw; simp only [ha, hb] at *; simp (disch := omega) only [Int.tdiv_eq_ediv_of_nonneg, Int.tmod_eq_emod_of_nonneg, wrapk] at *; simp at *; omega))
                ·
                 have h38 : (decide ((1 : Int) < Wd.plV (4 : Int))) = false := by decide +kernel
                 refine vcIntro [false, false, false, false, false, false, false, false, false, true, true, false, true, true, false, false, false, true, true, false, false, false, false, true, true, false, false] (an (an h38 (an h34 (an h33 (an h32 (an h31 (an h28 (an h27 (an h30 (an h13 (an h29 (an h28 (an h27 (an h14 (an h13 (an h12 (an h11 (an h10 (an (show (IntKind.i64.wrap ((IntKind.u64.wrap w).tmod (4 : Int))).toNat.succ ≤ (0 : Nat) + ([(1 : Int), IntKind.i64.wrap ((4 : Int) * IntKind.i64.wrap ((262143 : Int) + IntKind.i64.wrap ((1 : Int) + x % (1024 : Int)))), (2 : Int)].length + (1 : Nat)) by (simp; omega)) (an (an (show (0 : Int) ≤ IntKind.i64.wrap ((IntKind.u64.wrap w).tmod (4 : Int)) by omega) (show IntKind.i64.wrap ((IntKind.u64.wrap w).tmod (4 : Int)) + (1 : Int) ≤ (4 : Int) by omega)) (an h9 (an h8 (an h7 (an h6 (an h5 (an h4 (an h3 (an h2 (an h1 (an h0 tt))))))))))))))))))))))))))))) tt) ?_
                 kernel_rfl
               · exact ff (by (clear hw; simp only [ha, hb] at *; simp (disch := omega) only [Int.tdiv_eq_ediv_of_nonneg, Int.tmod_eq_emod_of_nonneg, wrapk] at *; simp at *; omega))
             ·
              rcases Bool.eq_false_or_eq_true (decide (IntKind.i64.wrap ((Wd.plV ([(12 : Int), (1 : Int), IntKind.i64.wrap ((4 : Int) * IntKind.i64.wrap ((262143 : Int) + IntKind.i64.wrap ((1 : Int) + x % (1024 : Int)))), (2 : Int)].getD (IntKind.i64.wrap ((IntKind.u64.wrap w).tmod (4 : Int))).toNat (0 : Int))).tdiv (4 : Int)) > (65535 : Int))) with h39 | h39
              ·
               have h40 : (Wd.isVal (0 : Int)) = true := by decide +kernel
               rcases Bool.eq_false_or_eq_true (!Wd.isVal (IntKind.i64.wrap ((4 : Int) * IntKind.i64.wrap ((16 : Int) + IntKind.i64.wrap ((1 : Int) + x % (1024 : Int)))))) with h41 | h41
               ·
                have h42 : (!Wd.isVal (4 : Int)) = false := by decide +kernel
                have h43 : (decide ((Wd.plV (0 : Int)).tmod (4 : Int) > (2 : Int))) = false := by decide +kernel
                have h44 : (decide (IntKind.i64.wrap ((Wd.plV (0 : Int)).tdiv (4 : Int)) > (65535 : Int))) = false := by decide +kernel
                have h45 : (decide (Wd.plV (4 : Int) > (16 : Int))) = false := by decide +kernel
                have h46 : (decide ((0 : Int) < Wd.plV (4 : Int))) = true := by decide +kernel
                have h47 : (Wd.isVal (4 : Int)) = true := by decide +kernel
                rcases Bool.eq_false_or_eq_true (Wd.isVal (IntKind.i64.wrap ((4 : Int) * IntKind.i64.wrap ((15 : Int) + IntKind.i64.wrap ((1 : Int) + x % (1024 : Int)))))) with h48 | h48
                ·
                 have h49 : (decide ((1 : Int) < Wd.plV (4 : Int))) = false := by decide +kernel
                 rcases Bool.eq_false_or_eq_true (decide (Wd.plV (IntKind.i64.wrap ((4 : Int) * IntKind.i64.wrap ((15 : Int) + IntKind.i64.wrap ((1 : Int) + x % (1024 : Int))))) ≤ (-1 : Int))) with h50 | h50
                 ·
                  refine vcIntro [false, false, false, false, false, false, false, false, false, true, true, false, false, true, true, true, true, false, false, false, false, true, true, true, true, false, false, true] (an (an h50 (an h11 (an h49 (an h40 (an h48 (an h47 (an h46 (an h45 (an h44 (an h43 (an h42 (an h40 (an h41 (an h40 (an h39 (an h12 (an h11 (an h10 (an (show (IntKind.i64.wrap ((IntKind.u64.wrap w).tmod (4 : Int))).toNat.succ ≤ (0 : Nat) + ([(1 : Int), IntKind.i64.wrap ((4 : Int) * IntKind.i64.wrap ((262143 : Int) + IntKind.i64.wrap ((1 : Int) + x % (1024 : Int)))), (2 : Int)].length + (1 : Nat)) by (simp; omega)) (an (an (show (0 : Int) ≤ IntKind.i64.wrap ((IntKind.u64.wrap w).tmod (4 : Int)) by omega) (show IntKind.i64.wrap ((IntKind.u64.wrap w).tmod (4 : Int)) + (1 : Int) ≤ (4 : Int) by omega)) (an h9 (an h8 (an h7 (an h6 (an h5 (an h4 (an h3 (an h2 (an h1 (an h0 tt)))))))))))))))))))))))))))))) tt) ?_
                  kernel_rfl
                 ·
                  rcases Bool.eq_false_or_eq_true (decide (Wd.plV (IntKind.i64.wrap ((4 : Int) * IntKind.i64.wrap ((15 : Int) + IntKind.i64.wrap ((1 : Int) + x % (1024 : Int))))) ≥ (16 : Int))) with h51 | h51
                  ·
                   refine vcIntro [false, false, false, false, false, false, false, false, false, true, true, false, false, true, true, true, true, false, false, false, false, true, true, true, true, false, false, false, true] (an (an h51 (an h50 (an h11 (an h49 (an h40 (an h48 (an h47 (an h46 (an h45 (an h44 (an h43 (an h42 (an h40 (an h41 (an h40 (an h39 (an h12 (an h11 (an h10 (an (show (IntKind.i64.wrap ((IntKind.u64.wrap w).tmod (4 : Int))).toNat.succ ≤ (0 : Nat) + ([(1 : Int), IntKind.i64.wrap ((4 : Int) * IntKind.i64.wrap ((262143 : Int) + IntKind.i64.wrap ((1 : Int) + x % (1024 : Int)))), (2 : Int)].length + (1 : Nat)) by (simp; omega)) (an (an (show (0 : Int) ≤ IntKind.i64.wrap ((IntKind.u64.wrap w).tmod (4 : Int)) by omega) (show IntKind.i64.wrap ((IntKind.u64.wrap w).tmod (4 : Int)) + (1 : Int) ≤ (4 : Int) by omega)) (an h9 (an h8 (an h7 (an h6 (an h5 (an h4 (an h3 (an h2 (an h1 (an h0 tt))))))))))))))))))))))))))))))) tt) ?_
                   kernel_rfl
                  ·
                   have h52 : (!(decide ((0 : Int) ≤ Wd.plV (0 : Int)) && decide (Wd.plV (0 : Int) < (1099511627776 : Int)))) = false := by decide +kernel
                   refine vcIntro [false, false, false, false, false, false, false, false, false, true, true, false, false, true, true, true, true, false, false, false, false, true, true, true, true, false, false, false, false, false, false] (an (an h52 (an h52 (an h51 (an h50 (an h11 (an h49 (an h40 (an h48 (an h47 (an h46 (an h45 (an h44 (an h43 (an h42 (an h40 (an h41 (an h40 (an h39 (an h12 (an h11 (an h10 (an (show (IntKind.i64.wrap ((IntKind.u64.wrap w).tmod (4 : Int))).toNat.succ ≤ (0 : Nat) + ([(1 : Int), IntKind.i64.wrap ((4 : Int) * IntKind.i64.wrap ((262143 : Int) + IntKind.i64.wrap ((1 : Int) + x % (1024 : Int)))), (2 : Int)].length + (1 : Nat)) by (simp; omega)) (an (an (show (0 : Int) ≤ IntKind.i64.wrap ((IntKind.u64.wrap w).tmod (4 : Int)) by omega) (show IntKind.i64.wrap ((IntKind.u64.wrap w).tmod (4 : Int)) + (1 : Int) ≤ (4 : Int) by omega)) (an h9 (an h8 (an h7 (an h6 (an h5 (an h4 (an h3 (an h2 (an h1 (an h0 tt))))))))))))))))))))))))))))))))) (show False by (simp (disch := omega) only [w1, wrapk] at *; simp at *; omega))) ?_
                   kernel_rfl
                ·
                 have h53 : (decide ((1 : Int) < Wd.plV (4 : Int))) = false := by decide +kernel
                 refine vcIntro [false, false, false, false, false, false, false, false, false, true, true, false, false, true, true, true, true, false, false, false, false, true, true, false, false] (an (an h53 (an h48 (an h47 (an h46 (an h45 (an h44 (an h43 (an h42 (an h40 (an h41 (an h40 (an h39 (an h12 (an h11 (an h10 (an (show (IntKind.i64.wrap ((IntKind.u64.wrap w).tmod (4 : Int))).toNat.succ ≤ (0 : Nat) + ([(1 : Int), IntKind.i64.wrap ((4 : Int) * IntKind.i64.wrap ((262143 : Int) + IntKind.i64.wrap ((1 : Int) + x % (1024 : Int)))), (2 : Int)].length + (1 : Nat)) by (simp; omega)) (an (an (show (0 : Int) ≤ IntKind.i64.wrap ((IntKind.u64.wrap w).tmod (4 : Int)) by omega) (show IntKind.i64.wrap ((IntKind.u64.wrap w).tmod (4 : Int)) + (1 : Int) ≤ (4 : Int) by omega)) (an h9 (an h8 (an h7 (an h6 (an h5 (an h4 (an h3 (an h2 (an h1 (an h0 tt))))))))))))))))))))))))))) tt) ?_
                 kernel_rfl
               ·
                have h54 : (decide ((Wd.plV (0 : Int)).tmod (4 : Int) > (2 : Int))) = false := by decide +kernel
                have h55 : (decide (IntKind.i64.wrap ((Wd.plV (0 : Int)).tdiv (4 : Int)) > (65535 : Int))) = false := by decide +kernel
                rcases Bool.eq_false_or_eq_true (decide (Wd.plV (IntKind.i64.wrap ((4 : Int) * IntKind.i64.wrap ((16 : Int) + IntKind.i64.wrap ((1 : Int) + x % (1024 : Int))))) > (16 : Int))) with h56 | h56
                ·
                 have h57 : (!Wd.isVal (4 : Int)) = false := by decide +kernel
                 have h58 : (decide (Wd.plV (4 : Int) > (16 : Int))) = false := by decide +kernel
                 have h59 : (decide ((0 : Int) < Wd.plV (4 : Int))) = true := by decide +kernel
                 have h60 : (Wd.isVal (4 : Int)) = true := by decide +kernel
                 rcases Bool.eq_false_or_eq_true (Wd.isVal (IntKind.i64.wrap ((4 : Int) * IntKind.i64.wrap ((15 : Int) + IntKind.i64.wrap ((1 : Int) + x % (1024 : Int)))))) with h61 | h61
                 ·
                  have h62 : (decide ((1 : Int) < Wd.plV (4 : Int))) = false := by decide +kernel
                  rcases Bool.eq_false_or_eq_true (decide (Wd.plV (IntKind.i64.wrap ((4 : Int) * IntKind.i64.wrap ((15 : Int) + IntKind.i64.wrap ((1 : Int) + x % (1024 : Int))))) ≤ (-1 : Int))) with h63 | h63
                  · exact ff (by (clear hw; simp only [ha, hb] at *; simp (disch := omega) only [Int.tdiv_eq_ediv_of_nonneg, Int.tmod_eq_emod_of_nonneg, wrapk] at *; simp at *; omega))
                  ·
                   rcases Bool.eq_false_or_eq_true (decide (Wd.plV (IntKind.i64.wrap ((4 : Int) * IntKind.i64.wrap ((15 : Int) + IntKind.i64.wrap ((1 : Int) + x % (1024 : Int))))) ≥ (16 : Int))) with h64 | h64
                   ·
                    refine vcIntro [false, false, false, false, false, false, false, false, false, true, true, false, false, true, true, false, false, false, true, true, false, false, false, false, true, true, true, true, false, false, false, true] (an (an h64 (an h63 (an h11 (an h62 (an h40 (an h61 (an h60 (an h59 (an h58 (an h55 (an h54 (an h57 (an h40 (an h56 (an h55 (an h54 (an h41 (an h40 (an h39 (an h12 (an h11 (an h10 (an (show (IntKind.i64.wrap ((IntKind.u64.wrap w).tmod (4 : Int))).toNat.succ ≤ (0 : Nat) + ([(1 : Int), IntKind.i64.wrap ((4 : Int) * IntKind.i64.wrap ((262143 : Int) + IntKind.i64.wrap ((1 : Int) + x % (1024 : Int)))), (2 : Int)].length + (1 : Nat)) by (simp; omega)) (an (an (show (0 : Int) ≤ IntKind.i64.wrap ((IntKind.u64.wrap w).tmod (4 : Int)) by omega) (show IntKind.i64.wrap ((IntKind.u64.wrap w).tmod (4 : Int)) + (1 : Int) ≤ (4 : Int) by omega)) (an h9 (an h8 (an h7 (an h6 (an h5 (an h4 (an h3 (an h2 (an h1 (an h0 tt)))))))))))))))))))))))))))))))))) tt) ?_
                    kernel_rfl
                   · exact ff (by (clear hw; simp only [ha, hb] at *; simp (disch := omega) only [Int.tdiv_eq_ediv_of_nonneg, Int.tmod_eq_emod_of_nonneg, wrapk] at *; simp at *; omega))
                 ·
                  have h65 : (decide ((1 : Int) < Wd.plV (4 : Int))) = false := by decide +kernel
                  refine vcIntro [false, false, false, false, false, false, false, false, false, true, true, false, false, true, true, false, false, false, true, true, false, false, false, false, true, true, false, false] (an (an h65 (an h61 (an h60 (an h59 (an h58 (an h55 (an h54 (an h57 (an h40 (an h56 (an h55 (an h54 (an h41 (an h40 (an h39 (an h12 (an h11 (an h10 (an (show (IntKind.i64.wrap ((IntKind.u64.wrap w).tmod (4 : Int))).toNat.succ ≤ (0 : Nat) + ([(1 : Int), IntKind.i64.wrap ((4 : Int) * IntKind.i64.wrap ((262143 : Int) + IntKind.i64.wrap ((1 : Int) + x % (1024 : Int)))), (2 : Int)].length + (1 : Nat)) by (simp; omega)) (an (an (show (0 : Int) ≤ IntKind.i64.wrap ((IntKind.u64.wrap w).tmod (4 : Int)) by omega) (show IntKind.i64.wrap ((IntKind.u64.wrap w).tmod (4 : Int)) + (1 : Int) ≤ (4 : Int) by omega)) (an h9 (an h8 (an h7 (an h6 (an h5 (an h4 (an h3 (an h2 (an h1 (an h0 tt)))))))))))))))))))))))))))))) tt) ?_
                  kernel_rfl
                · exact ff (by (clear hw; simp only [ha, hb] at *; simp (disch := omega) only [Int.tdiv_eq_ediv_of_nonneg, Int.tmod_eq_emod_of_nonneg, wrapk] at *; simp at *; omega))
              · exact ff (by (have hh9 := hw (by assumption); clear hw ha hb; generalize ([12, 1, IntKind.i64.wrap (4 * IntKind.i64.wrap (262143 + IntKind.i64.wrap (1 + x % 1024))), 2].getD (IntKind.i64.wrap ((IntKind.u64.wrap w).tmod 4)).toNat 0) = q at *; simp (disch := omega) only [Int.tdiv_eq_ediv_of_nonneg, Int.tmod_eq_emod_of_nonneg, wrapk] at *; simp at *; omega))
            ·
             have h66 : (Wd.isVal (0 : Int)) = true := by decide +kernel
             rcases Bool.eq_false_or_eq_true (!Wd.isVal (IntKind.i64.wrap ((4 : Int) * IntKind.i64.wrap ((16 : Int) + IntKind.i64.wrap ((1 : Int) + x % (1024 : Int)))))) with h67 | h67
             ·
              have h68 : (!Wd.isVal (4 : Int)) = false := by decide +kernel
              have h69 : (decide ((Wd.plV (0 : Int)).tmod (4 : Int) > (2 : Int))) = false := by decide +kernel
              have h70 : (decide (IntKind.i64.wrap ((Wd.plV (0 : Int)).tdiv (4 : Int)) > (65535 : Int))) = false := by decide +kernel
              have h71 : (decide (Wd.plV (4 : Int) > (16 : Int))) = false := by decide +kernel
              have h72 : (decide ((0 : Int) < Wd.plV (4 : Int))) = true := by decide +kernel
              have h73 : (Wd.isVal (4 : Int)) = true := by decide +kernel
              rcases Bool.eq_false_or_eq_true (Wd.isVal (IntKind.i64.wrap ((4 : Int) * IntKind.i64.wrap ((15 : Int) + IntKind.i64.wrap ((1 : Int) + x % (1024 : Int)))))) with h74 | h74
              ·
               have h75 : (decide ((1 : Int) < Wd.plV (4 : Int))) = false := by decide +kernel
               have h76 : (!Wd.isVal (0 : Int)) = false := by decide +kernel
               rcases Bool.eq_false_or_eq_true (decide (Wd.plV (IntKind.i64.wrap ((4 : Int) * IntKind.i64.wrap ((15 : Int) + IntKind.i64.wrap ((1 : Int) + x % (1024 : Int))))) ≤ (-1 : Int))) with h77 | h77
               ·
                refine vcIntro [false, false, false, false, false, false, false, false, false, true, false, true, true, true, false, false, false, false, true, true, true, true, false, false, true] (an (an h77 (an h76 (an h75 (an h66 (an h74 (an h73 (an h72 (an h71 (an h70 (an h69 (an h68 (an h66 (an h67 (an h66 (an h10 (an (show (IntKind.i64.wrap ((IntKind.u64.wrap w).tmod (4 : Int))).toNat.succ ≤ (0 : Nat) + ([(1 : Int), IntKind.i64.wrap ((4 : Int) * IntKind.i64.wrap ((262143 : Int) + IntKind.i64.wrap ((1 : Int) + x % (1024 : Int)))), (2 : Int)].length + (1 : Nat)) by (simp; omega)) (an (an (show (0 : Int) ≤ IntKind.i64.wrap ((IntKind.u64.wrap w).tmod (4 : Int)) by omega) (show IntKind.i64.wrap ((IntKind.u64.wrap w).tmod (4 : Int)) + (1 : Int) ≤ (4 : Int) by omega)) (an h9 (an h8 (an h7 (an h6 (an h5 (an h4 (an h3 (an h2 (an h1 (an h0 tt))))))))))))))))))))))))))) tt) ?_
                kernel_rfl
               ·
                rcases Bool.eq_false_or_eq_true (decide (Wd.plV (IntKind.i64.wrap ((4 : Int) * IntKind.i64.wrap ((15 : Int) + IntKind.i64.wrap ((1 : Int) + x % (1024 : Int))))) ≥ (16 : Int))) with h78 | h78
                ·
                 refine vcIntro [false, false, false, false, false, false, false, false, false, true, false, true, true, true, false, false, false, false, true, true, true, true, false, false, false, true] (an (an h78 (an h77 (an h76 (an h75 (an h66 (an h74 (an h73 (an h72 (an h71 (an h70 (an h69 (an h68 (an h66 (an h67 (an h66 (an h10 (an (show (IntKind.i64.wrap ((IntKind.u64.wrap w).tmod (4 : Int))).toNat.succ ≤ (0 : Nat) + ([(1 : Int), IntKind.i64.wrap ((4 : Int) * IntKind.i64.wrap ((262143 : Int) + IntKind.i64.wrap ((1 : Int) + x % (1024 : Int)))), (2 : Int)].length + (1 : Nat)) by (simp; omega)) (an (an (show (0 : Int) ≤ IntKind.i64.wrap ((IntKind.u64.wrap w).tmod (4 : Int)) by omega) (show IntKind.i64.wrap ((IntKind.u64.wrap w).tmod (4 : Int)) + (1 : Int) ≤ (4 : Int) by omega)) (an h9 (an h8 (an h7 (an h6 (an h5 (an h4 (an h3 (an h2 (an h1 (an h0 tt)))))))))))))))))))))))))))) tt) ?_
                 kernel_rfl
                ·
                 have h79 : (!(decide ((0 : Int) ≤ Wd.plV (0 : Int)) && decide (Wd.plV (0 : Int) < (1099511627776 : Int)))) = false := by decide +kernel
                 refine vcIntro [false, false, false, false, false, false, false, false, false, true, false, true, true, true, false, false, false, false, true, true, true, true, false, false, false, false, false, false] (an (an h79 (an h79 (an h78 (an h77 (an h76 (an h75 (an h66 (an h74 (an h73 (an h72 (an h71 (an h70 (an h69 (an h68 (an h66 (an h67 (an h66 (an h10 (an (show (IntKind.i64.wrap ((IntKind.u64.wrap w).tmod (4 : Int))).toNat.succ ≤ (0 : Nat) + ([(1 : Int), IntKind.i64.wrap ((4 : Int) * IntKind.i64.wrap ((262143 : Int) + IntKind.i64.wrap ((1 : Int) + x % (1024 : Int)))), (2 : Int)].length + (1 : Nat)) by (simp; omega)) (an (an (show (0 : Int) ≤ IntKind.i64.wrap ((IntKind.u64.wrap w).tmod (4 : Int)) by omega) (show IntKind.i64.wrap ((IntKind.u64.wrap w).tmod (4 : Int)) + (1 : Int) ≤ (4 : Int) by omega)) (an h9 (an h8 (an h7 (an h6 (an h5 (an h4 (an h3 (an h2 (an h1 (an h0 tt)))))))))))))))))))))))))))))) (show False by (simp (disch := omega) only [w1, wrapk] at *; simp at *; omega))) ?_
                 kernel_rfl
              ·
               have h80 : (decide ((1 : Int) < Wd.plV (4 : Int))) = false := by decide +kernel
               refine vcIntro [false, false, false, false, false, false, false, false, false, true, false, true, true, true, false, false, false, false, true, true, false, false] (an (an h80 (an h74 (an h73 (an h72 (an h71 (an h70 (an h69 (an h68 (an h66 (an h67 (an h66 (an h10 (an (show (IntKind.i64.wrap ((IntKind.u64.wrap w).tmod (4 : Int))).toNat.succ ≤ (0 : Nat) + ([(1 : Int), IntKind.i64.wrap ((4 : Int) * IntKind.i64.wrap ((262143 : Int) + IntKind.i64.wrap ((1 : Int) + x % (1024 : Int)))), (2 : Int)].length + (1 : Nat)) by (simp; omega)) (an (an (show (0 : Int) ≤ IntKind.i64.wrap ((IntKind.u64.wrap w).tmod (4 : Int)) by omega) (show IntKind.i64.wrap ((IntKind.u64.wrap w).tmod (4 : Int)) + (1 : Int) ≤ (4 : Int) by omega)) (an h9 (an h8 (an h7 (an h6 (an h5 (an h4 (an h3 (an h2 (an h1 (an h0 tt)))))))))))))))))))))))) tt) ?_
               kernel_rfl
             ·
              have h81 : (decide ((Wd.plV (0 : Int)).tmod (4 : Int) > (2 : Int))) = false := by decide +kernel
              have h82 : (decide (IntKind.i64.wrap ((Wd.plV (0 : Int)).tdiv (4 : Int)) > (65535 : Int))) = false := by decide +kernel
              rcases Bool.eq_false_or_eq_true (decide (Wd.plV (IntKind.i64.wrap ((4 : Int) * IntKind.i64.wrap ((16 : Int) + IntKind.i64.wrap ((1 : Int) + x % (1024 : Int))))) > (16 : Int))) with h83 | h83
              ·
               have h84 : (!Wd.isVal (4 : Int)) = false := by decide +kernel
               have h85 : (decide (Wd.plV (4 : Int) > (16 : Int))) = false := by decide +kernel
               have h86 : (decide ((0 : Int) < Wd.plV (4 : Int))) = true := by decide +kernel
               have h87 : (Wd.isVal (4 : Int)) = true := by decide +kernel
               rcases Bool.eq_false_or_eq_true (Wd.isVal (IntKind.i64.wrap ((4 : Int) * IntKind.i64.wrap ((15 : Int) + IntKind.i64.wrap ((1 : Int) + x % (1024 : Int)))))) with h88 | h88
               ·
                have h89 : (decide ((1 : Int) < Wd.plV (4 : Int))) = false := by decide +kernel
                have h90 : (!Wd.isVal (0 : Int)) = false := by decide +kernel
                rcases Bool.eq_false_or_eq_true (decide (Wd.plV (IntKind.i64.wrap ((4 : Int) * IntKind.i64.wrap ((15 : Int) + IntKind.i64.wrap ((1 : Int) + x % (1024 : Int))))) ≤ (-1 : Int))) with h91 | h91
                · exact ff (by (clear hw; simp only [ha, hb] at *; simp (disch := omega) only [Int.tdiv_eq_ediv_of_nonneg, Int.tmod_eq_emod_of_nonneg, wrapk] at *; simp at *; omega))
                ·
                 rcases Bool.eq_false_or_eq_true (decide (Wd.plV (IntKind.i64.wrap ((4 : Int) * IntKind.i64.wrap ((15 : Int) + IntKind.i64.wrap ((1 : Int) + x % (1024 : Int))))) ≥ (16 : Int))) with h92 | h92
                 ·
                  refine vcIntro [false, false, false, false, false, false, false, false, false, true, false, true, false, false, false, true, true, false, false, false, false, true, true, true, true, false, false, false, true] (an (an h92 (an h91 (an h90 (an h89 (an h66 (an h88 (an h87 (an h86 (an h85 (an h82 (an h81 (an h84 (an h66 (an h83 (an h82 (an h81 (an h67 (an h66 (an h10 (an (show (IntKind.i64.wrap ((IntKind.u64.wrap w).tmod (4 : Int))).toNat.succ ≤ (0 : Nat) + ([(1 : Int), IntKind.i64.wrap ((4 : Int) * IntKind.i64.wrap ((262143 : Int) + IntKind.i64.wrap ((1 : Int) + x % (1024 : Int)))), (2 : Int)].length + (1 : Nat)) by (simp; omega)) (an (an (show (0 : Int) ≤ IntKind.i64.wrap ((IntKind.u64.wrap w).tmod (4 : Int)) by omega) (show IntKind.i64.wrap ((IntKind.u64.wrap w).tmod (4 : Int)) + (1 : Int) ≤ (4 : Int) by omega)) (an h9 (an h8 (an h7 (an h6 (an h5 (an h4 (an h3 (an h2 (an h1 (an h0 tt))))))))))))))))))))))))))))))) tt) ?_
                  kernel_rfl
                 · exact ff (by (clear hw; simp only [ha, hb] at *; simp (disch := omega) only [Int.tdiv_eq_ediv_of_nonneg, Int.tmod_eq_emod_of_nonneg, wrapk] at *; simp at *; omega))
               ·
                have h93 : (decide ((1 : Int) < Wd.plV (4 : Int))) = false := by decide +kernel
                refine vcIntro [false, false, false, false, false, false, false, false, false, true, false, true, false, false, false, true, true, false, false, false, false, true, true, false, false] (an (an h93 (an h88 (an h87 (an h86 (an h85 (an h82 (an h81 (an h84 (an h66 (an h83 (an h82 (an h81 (an h67 (an h66 (an h10 (an (show (IntKind.i64.wrap ((IntKind.u64.wrap w).tmod (4 : Int))).toNat.succ ≤ (0 : Nat) + ([(1 : Int), IntKind.i64.wrap ((4 : Int) * IntKind.i64.wrap ((262143 : Int) + IntKind.i64.wrap ((1 : Int) + x % (1024 : Int)))), (2 : Int)].length + (1 : Nat)) by (simp; omega)) (an (an (show (0 : Int) ≤ IntKind.i64.wrap ((IntKind.u64.wrap w).tmod (4 : Int)) by omega) (show IntKind.i64.wrap ((IntKind.u64.wrap w).tmod (4 : Int)) + (1 : Int) ≤ (4 : Int) by omega)) (an h9 (an h8 (an h7 (an h6 (an h5 (an h4 (an h3 (an h2 (an h1 (an h0 tt))))))))))))))))))))))))))) tt) ?_
                kernel_rfl
              · exact ff (by (clear hw; simp only [ha, hb] at *; simp (disch := omega) only [Int.tdiv_eq_ediv_of_nonneg, Int.tmod_eq_emod_of_nonneg, wrapk] at *; simp at *; omega))
           · exact ff (by (simp only [hq] at *; simp at *; done))
end Go.Ideal.D1
