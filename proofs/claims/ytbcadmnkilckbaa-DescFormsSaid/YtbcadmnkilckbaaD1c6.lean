/- Chapter 13: DescForms. Own text. -/
import Derived.Test.YtbcadmnkilckbaaD1b
namespace Go.Ideal.D1
open Go.Proofs Go.Ideal Go.Ideal.L1
set_option linter.unusedSimpArgs false
set_option linter.unusedVariables false
set_option maxRecDepth 100000
set_option maxHeartbeats 80000000

theorem forms_c6 (w x : Int) (hq : IntKind.i64.wrap ((IntKind.u64.wrap w).tmod 11) = 6 ∧ (IntKind.u64.wrap w).tmod 11 = 6) : ∃ hh, vcOf (runCall Try.prog specs noL 6000 3 [.int .i64 (.s w), .int .i64 (.s x)] H0 hh) (fun v _ => isT v) := by
  have hm4 := modU w 4 (by omega) (by omega)
  have hx : 0 ≤ x % 1024 ∧ x % 1024 < 1024 := by omega
  have hw := hW w x
  have ha := hA x
  have hb := hB x

  rcases Bool.eq_false_or_eq_true ((IntKind.u64.wrap w).tmod (11 : Int) == (0 : Int)) with h0 | h0
  · exact ff (by (simp only [hq] at *; simp at *; done))
  ·
   rcases Bool.eq_false_or_eq_true ((IntKind.u64.wrap w).tmod (11 : Int) == (1 : Int)) with h1 | h1
   · exact ff (by (simp only [hq] at *; simp at *; done))
   ·
    rcases Bool.eq_false_or_eq_true ((IntKind.u64.wrap w).tmod (11 : Int) == (2 : Int)) with h2 | h2
    · exact ff (by (simp only [hq] at *; simp at *; done))
    ·
     rcases Bool.eq_false_or_eq_true ((IntKind.u64.wrap w).tmod (11 : Int) == (3 : Int)) with h3 | h3
     · exact ff (by (simp only [hq] at *; simp at *; done))
     ·
      rcases Bool.eq_false_or_eq_true ((IntKind.u64.wrap w).tmod (11 : Int) == (4 : Int)) with h4 | h4
      · exact ff (by (simp only [hq] at *; simp at *; done))
      ·
       rcases Bool.eq_false_or_eq_true ((IntKind.u64.wrap w).tmod (11 : Int) == (5 : Int)) with h5 | h5
       · exact ff (by (simp only [hq] at *; simp at *; done))
       ·
        rcases Bool.eq_false_or_eq_true ((IntKind.u64.wrap w).tmod (11 : Int) == (6 : Int)) with h6 | h6
        ·
         rcases Bool.eq_false_or_eq_true (Wd.isVal ([(12 : Int), (1 : Int), IntKind.i64.wrap ((4 : Int) * IntKind.i64.wrap ((262143 : Int) + IntKind.i64.wrap ((1 : Int) + x % (1024 : Int)))), (2 : Int)].getD (IntKind.i64.wrap ((IntKind.u64.wrap w).tmod (4 : Int))).toNat (0 : Int))) with h7 | h7
         ·
          have h8 : (!Wd.isVal (0 : Int)) = false := by decide +kernel
          rcases Bool.eq_false_or_eq_true (decide ((Wd.plV ([(12 : Int), (1 : Int), IntKind.i64.wrap ((4 : Int) * IntKind.i64.wrap ((262143 : Int) + IntKind.i64.wrap ((1 : Int) + x % (1024 : Int)))), (2 : Int)].getD (IntKind.i64.wrap ((IntKind.u64.wrap w).tmod (4 : Int))).toNat (0 : Int))).tmod (4 : Int) > (2 : Int))) with h9 | h9
          ·
           have h10 : (Wd.isVal (0 : Int)) = true := by decide +kernel
           rcases Bool.eq_false_or_eq_true (!Wd.isVal (IntKind.i64.wrap ((4 : Int) * IntKind.i64.wrap ((16 : Int) + IntKind.i64.wrap ((1 : Int) + x % (1024 : Int)))))) with h11 | h11
           ·
            have h12 : (!Wd.isVal (4 : Int)) = false := by decide +kernel
            have h13 : (decide ((Wd.plV (0 : Int)).tmod (4 : Int) > (2 : Int))) = false := by decide +kernel
            have h14 : (decide (IntKind.i64.wrap ((Wd.plV (0 : Int)).tdiv (4 : Int)) > (65535 : Int))) = false := by decide +kernel
            have h15 : (decide (Wd.plV (4 : Int) > (16 : Int))) = false := by decide +kernel
            have h16 : (decide ((0 : Int) < Wd.plV (4 : Int))) = true := by decide +kernel
            have h17 : (Wd.isVal (4 : Int)) = true := by decide +kernel
            rcases Bool.eq_false_or_eq_true (Wd.isVal (IntKind.i64.wrap ((4 : Int) * IntKind.i64.wrap ((15 : Int) + IntKind.i64.wrap ((1 : Int) + x % (1024 : Int)))))) with h18 | h18
            ·
             have h19 : (decide ((1 : Int) < Wd.plV (4 : Int))) = false := by decide +kernel
             rcases Bool.eq_false_or_eq_true (decide (Wd.plV (IntKind.i64.wrap ((4 : Int) * IntKind.i64.wrap ((15 : Int) + IntKind.i64.wrap ((1 : Int) + x % (1024 : Int))))) ≤ (-1 : Int))) with h20 | h20
             ·
              refine vcIntro [false, false, false, false, false, false, true, true, false, true, true, true, true, false, false, false, false, true, true, true, true, false, false, true] (an (an h20 (an h8 (an h19 (an h10 (an h18 (an h17 (an h16 (an h15 (an h14 (an h13 (an h12 (an h10 (an h11 (an h10 (an h9 (an h8 (an h7 (an (show (IntKind.i64.wrap ((IntKind.u64.wrap w).tmod (4 : Int))).toNat.succ ≤ (0 : Nat) + ([(1 : Int), IntKind.i64.wrap ((4 : Int) * IntKind.i64.wrap ((262143 : Int) + IntKind.i64.wrap ((1 : Int) + x % (1024 : Int)))), (2 : Int)].length + (1 : Nat)) by (simp; omega)) (an (an (show (0 : Int) ≤ IntKind.i64.wrap ((IntKind.u64.wrap w).tmod (4 : Int)) by omega) (show IntKind.i64.wrap ((IntKind.u64.wrap w).tmod (4 : Int)) + (1 : Int) ≤ (4 : Int) by omega)) (an h6 (an h5 (an h4 (an h3 (an h2 (an h1 (an h0 tt)))))))))))))))))))))))))) tt) ?_
              kernel_rfl
             ·
              rcases Bool.eq_false_or_eq_true (decide (Wd.plV (IntKind.i64.wrap ((4 : Int) * IntKind.i64.wrap ((15 : Int) + IntKind.i64.wrap ((1 : Int) + x % (1024 : Int))))) ≥ (16 : Int))) with h21 | h21
              ·
               refine vcIntro [false, false, false, false, false, false, true, true, false, true, true, true, true, false, false, false, false, true, true, true, true, false, false, false, true] (an (an h21 (an h20 (an h8 (an h19 (an h10 (an h18 (an h17 (an h16 (an h15 (an h14 (an h13 (an h12 (an h10 (an h11 (an h10 (an h9 (an h8 (an h7 (an (show (IntKind.i64.wrap ((IntKind.u64.wrap w).tmod (4 : Int))).toNat.succ ≤ (0 : Nat) + ([(1 : Int), IntKind.i64.wrap ((4 : Int) * IntKind.i64.wrap ((262143 : Int) + IntKind.i64.wrap ((1 : Int) + x % (1024 : Int)))), (2 : Int)].length + (1 : Nat)) by (simp; omega)) (an (an (show (0 : Int) ≤ IntKind.i64.wrap ((IntKind.u64.wrap w).tmod (4 : Int)) by omega) (show IntKind.i64.wrap ((IntKind.u64.wrap w).tmod (4 : Int)) + (1 : Int) ≤ (4 : Int) by omega)) (an h6 (an h5 (an h4 (an h3 (an h2 (an h1 (an h0 tt))))))))))))))))))))))))))) tt) ?_
               kernel_rfl
              ·
               have h22 : (!(decide ((0 : Int) ≤ Wd.plV (0 : Int)) && decide (Wd.plV (0 : Int) < (1099511627776 : Int)))) = false := by decide +kernel
               refine vcIntro [false, false, false, false, false, false, true, true, false, true, true, true, true, false, false, false, false, true, true, true, true, false, false, false, false, false, false] (an (an h22 (an h22 (an h21 (an h20 (an h8 (an h19 (an h10 (an h18 (an h17 (an h16 (an h15 (an h14 (an h13 (an h12 (an h10 (an h11 (an h10 (an h9 (an h8 (an h7 (an (show (IntKind.i64.wrap ((IntKind.u64.wrap w).tmod (4 : Int))).toNat.succ ≤ (0 : Nat) + ([(1 : Int), IntKind.i64.wrap ((4 : Int) * IntKind.i64.wrap ((262143 : Int) + IntKind.i64.wrap ((1 : Int) + x % (1024 : Int)))), (2 : Int)].length + (1 : Nat)) by (simp; omega)) (an (an (show (0 : Int) ≤ IntKind.i64.wrap ((IntKind.u64.wrap w).tmod (4 : Int)) by omega) (show IntKind.i64.wrap ((IntKind.u64.wrap w).tmod (4 : Int)) + (1 : Int) ≤ (4 : Int) by omega)) (an h6 (an h5 (an h4 (an h3 (an h2 (an h1 (an h0 tt))))))))))))))))))))))))))))) (show False by (simp (disch := omega) only [w1, wrapk] at *; simp at *; omega))) ?_
               kernel_rfl
            ·
             have h23 : (decide ((1 : Int) < Wd.plV (4 : Int))) = false := by decide +kernel
             refine vcIntro [false, false, false, false, false, false, true, true, false, true, true, true, true, false, false, false, false, true, true, false, false] (an (an h23 (an h18 (an h17 (an h16 (an h15 (an h14 (an h13 (an h12 (an h10 (an h11 (an h10 (an h9 (an h8 (an h7 (an (show (IntKind.i64.wrap ((IntKind.u64.wrap w).tmod (4 : Int))).toNat.succ ≤ (0 : Nat) + ([(1 : Int), IntKind.i64.wrap ((4 : Int) * IntKind.i64.wrap ((262143 : Int) + IntKind.i64.wrap ((1 : Int) + x % (1024 : Int)))), (2 : Int)].length + (1 : Nat)) by (simp; omega)) (an (an (show (0 : Int) ≤ IntKind.i64.wrap ((IntKind.u64.wrap w).tmod (4 : Int)) by omega) (show IntKind.i64.wrap ((IntKind.u64.wrap w).tmod (4 : Int)) + (1 : Int) ≤ (4 : Int) by omega)) (an h6 (an h5 (an h4 (an h3 (an h2 (an h1 (an h0 tt))))))))))))))))))))))) tt) ?_
             kernel_rfl
           ·
            have h24 : (decide ((Wd.plV (0 : Int)).tmod (4 : Int) > (2 : Int))) = false := by decide +kernel
            have h25 : (decide (IntKind.i64.wrap ((Wd.plV (0 : Int)).tdiv (4 : Int)) > (65535 : Int))) = false := by decide +kernel
            rcases Bool.eq_false_or_eq_true (decide (Wd.plV (IntKind.i64.wrap ((4 : Int) * IntKind.i64.wrap ((16 : Int) + IntKind.i64.wrap ((1 : Int) + x % (1024 : Int))))) > (16 : Int))) with h26 | h26
            ·
             have h27 : (!Wd.isVal (4 : Int)) = false := by decide +kernel
             have h28 : (decide (Wd.plV (4 : Int) > (16 : Int))) = false := by decide +kernel
             have h29 : (decide ((0 : Int) < Wd.plV (4 : Int))) = true := by decide +kernel
             have h30 : (Wd.isVal (4 : Int)) = true := by decide +kernel
             rcases Bool.eq_false_or_eq_true (Wd.isVal (IntKind.i64.wrap ((4 : Int) * IntKind.i64.wrap ((15 : Int) + IntKind.i64.wrap ((1 : Int) + x % (1024 : Int)))))) with h31 | h31
             ·
              have h32 : (decide ((1 : Int) < Wd.plV (4 : Int))) = false := by decide +kernel
              rcases Bool.eq_false_or_eq_true (decide (Wd.plV (IntKind.i64.wrap ((4 : Int) * IntKind.i64.wrap ((15 : Int) + IntKind.i64.wrap ((1 : Int) + x % (1024 : Int))))) ≤ (-1 : Int))) with h33 | h33
              · exact ff (by (clear hw; simp only [ha, hb] at *; simp (disch := omega) only [Int.tdiv_eq_ediv_of_nonneg, Int.tmod_eq_emod_of_nonneg, wrapk] at *; simp at *; omega))
              ·
               rcases Bool.eq_false_or_eq_true (decide (Wd.plV (IntKind.i64.wrap ((4 : Int) * IntKind.i64.wrap ((15 : Int) + IntKind.i64.wrap ((1 : Int) + x % (1024 : Int))))) ≥ (16 : Int))) with h34 | h34
               ·
                refine vcIntro [false, false, false, false, false, false, true, true, false, true, true, false, false, false, true, true, false, false, false, false, true, true, true, true, false, false, false, true] (an (an h34 (an h33 (an h8 (an h32 (an h10 (an h31 (an h30 (an h29 (an h28 (an h25 (an h24 (an h27 (an h10 (an h26 (an h25 (an h24 (an h11 (an h10 (an h9 (an h8 (an h7 (an (show (IntKind.i64.wrap ((IntKind.u64.wrap w).tmod (4 : Int))).toNat.succ ≤ (0 : Nat) + ([(1 : Int), IntKind.i64.wrap ((4 : Int) * IntKind.i64.wrap ((262143 : Int) + IntKind.i64.wrap ((1 : Int) + x % (1024 : Int)))), (2 : Int)].length + (1 : Nat)) by (simp; omega)) (an (an (show (0 : Int) ≤ IntKind.i64.wrap ((IntKind.u64.wrap w).tmod (4 : Int)) by omega) (show IntKind.i64.wrap ((IntKind.u64.wrap w).tmod (4 : Int)) + (1 : Int) ≤ (4 : Int) by omega)) (an h6 (an h5 (an h4 (an h3 (an h2 (an h1 (an h0 tt)))))))))))))))))))))))))))))) tt) ?_
                kernel_rfl
               · exact ff (by (clear hw; simp only [ha, hb] at *; simp (disch := omega) only [Int.tdiv_eq_ediv_of_nonneg, Int.tmod_eq_emod_of_nonneg, wrapk] at *; simp at *; omega))
             ·
              have h35 : (decide ((1 : Int) < Wd.plV (4 : Int))) = false := by decide +kernel
              refine vcIntro [false, false, false, false, false, false, true, true, false, true, true, false, false, false, true, true, false, false, false, false, true, true, false, false] (an (an h35 (an h31 (an h30 (an h29 (an h28 (an h25 (an h24 (an h27 (an h10 (an h26 (an h25 (an h24 (an h11 (an h10 (an h9 (an h8 (an h7 (an (show (IntKind.i64.wrap ((IntKind.u64.wrap w).tmod (4 : Int))).toNat.succ ≤ (0 : Nat) + ([(1 : Int), IntKind.i64.wrap ((4 : Int) * IntKind.i64.wrap ((262143 : Int) + IntKind.i64.wrap ((1 : Int) + x % (1024 : Int)))), (2 : Int)].length + (1 : Nat)) by (simp; omega)) (an (an (show (0 : Int) ≤ IntKind.i64.wrap ((IntKind.u64.wrap w).tmod (4 : Int)) by omega) (show IntKind.i64.wrap ((IntKind.u64.wrap w).tmod (4 : Int)) + (1 : Int) ≤ (4 : Int) by omega)) (an h6 (an h5 (an h4 (an h3 (an h2 (an h1 (an h0 tt)))))))))))))))))))))))))) tt) ?_
              kernel_rfl
            · exact ff (by (clear hw; simp only [ha, hb] at *; simp (disch := omega) only [Int.tdiv_eq_ediv_of_nonneg, Int.tmod_eq_emod_of_nonneg, wrapk] at *; simp at *; omega))
          ·
           rcases Bool.eq_false_or_eq_true (decide (IntKind.i64.wrap ((Wd.plV ([(12 : Int), (1 : Int), IntKind.i64.wrap ((4 : Int) * IntKind.i64.wrap ((262143 : Int) + IntKind.i64.wrap ((1 : Int) + x % (1024 : Int)))), (2 : Int)].getD (IntKind.i64.wrap ((IntKind.u64.wrap w).tmod (4 : Int))).toNat (0 : Int))).tdiv (4 : Int)) > (65535 : Int))) with h36 | h36
           ·
            have h37 : (Wd.isVal (0 : Int)) = true := by decide +kernel
            rcases Bool.eq_false_or_eq_true (!Wd.isVal (IntKind.i64.wrap ((4 : Int) * IntKind.i64.wrap ((16 : Int) + IntKind.i64.wrap ((1 : Int) + x % (1024 : Int)))))) with h38 | h38
            ·
             have h39 : (!Wd.isVal (4 : Int)) = false := by decide +kernel
             have h40 : (decide ((Wd.plV (0 : Int)).tmod (4 : Int) > (2 : Int))) = false := by decide +kernel
             have h41 : (decide (IntKind.i64.wrap ((Wd.plV (0 : Int)).tdiv (4 : Int)) > (65535 : Int))) = false := by decide +kernel
             have h42 : (decide (Wd.plV (4 : Int) > (16 : Int))) = false := by decide +kernel
             have h43 : (decide ((0 : Int) < Wd.plV (4 : Int))) = true := by decide +kernel
             have h44 : (Wd.isVal (4 : Int)) = true := by decide +kernel
             rcases Bool.eq_false_or_eq_true (Wd.isVal (IntKind.i64.wrap ((4 : Int) * IntKind.i64.wrap ((15 : Int) + IntKind.i64.wrap ((1 : Int) + x % (1024 : Int)))))) with h45 | h45
             ·
              have h46 : (decide ((1 : Int) < Wd.plV (4 : Int))) = false := by decide +kernel
              rcases Bool.eq_false_or_eq_true (decide (Wd.plV (IntKind.i64.wrap ((4 : Int) * IntKind.i64.wrap ((15 : Int) + IntKind.i64.wrap ((1 : Int) + x % (1024 : Int))))) ≤ (-1 : Int))) with h47 | h47
              ·
               refine vcIntro [false, false, false, false, false, false, true, true, false, false, true, true, true, true, false, false, false, false, true, true, true, true, false, false, true] (an (an h47 (an h8 (an h46 (an h37 (an h45 (an h44 (an h43 (an h42 (an h41 (an h40 (an h39 (an h37 (an h38 (an h37 (an h36 (an h9 (an h8 (an h7 (an (show (IntKind.i64.wrap ((IntKind.u64.wrap w).tmod (4 : Int))).toNat.succ ≤ (0 : Nat) + ([(1 : Int), IntKind.i64.wrap ((4 : Int) * IntKind.i64.wrap ((262143 : Int) + IntKind.i64.wrap ((1 : Int) + x % (1024 : Int)))), (2 : Int)].length + (1 : Nat)) by (simp; omega)) (an (an (show (0 : Int) ≤ IntKind.i64.wrap ((IntKind.u64.wrap w).tmod (4 : Int)) by omega) (show IntKind.i64.wrap ((IntKind.u64.wrap w).tmod (4 : Int)) + (1 : Int) ≤ (4 : Int) by omega)) (an h6 (an h5 (an h4 (an h3 (an h2 (an h1 (an h0 tt))))))))))))))))))))))))))) tt) ?_
               kernel_rfl
              ·
               rcases Bool.eq_false_or_eq_true (decide (Wd.plV (IntKind.i64.wrap ((4 : Int) * IntKind.i64.wrap ((15 : Int) + IntKind.i64.wrap ((1 : Int) + x % (1024 : Int))))) ≥ (16 : Int))) with h48 | h48
               ·
                refine vcIntro [false, false, false, false, false, false, true, true, false, false, true, true, true, true, false, false, false, false, true, true, true, true, false, false, false, true] (an (an h48 (an h47 (an h8 (an h46 (an h37 (an h45 (an h44 (an h43 (an h42 (an h41 (an h40 (an h39 (an h37 (an h38 (an h37 (an h36 (an h9 (an h8 (an h7 (an (show (IntKind.i64.wrap ((IntKind.u64.wrap w).tmod (4 : Int))).toNat.succ ≤ (0 : Nat) + ([(1 : Int), IntKind.i64.wrap ((4 : Int) * IntKind.i64.wrap ((262143 : Int) + IntKind.i64.wrap ((1 : Int) + x % (1024 : Int)))), (2 : Int)].length + (1 : Nat)) by (simp; omega)) (an (an (show (0 : Int) ≤ IntKind.i64.wrap ((IntKind.u64.wrap w).tmod (4 : Int)) by omega) (show IntKind.i64.wrap ((IntKind.u64.wrap w).tmod (4 : Int)) + (1 : Int) ≤ (4 : Int) by omega)) (an h6 (an h5 (an h4 (an h3 (an h2 (an h1 (an h0 tt)))))))))))))))))))))))))))) tt) ?_
                kernel_rfl
               ·
                have h49 : (!(decide ((0 : Int) ≤ Wd.plV (0 : Int)) && decide (Wd.plV (0 : Int) < (1099511627776 : Int)))) = false := by decide +kernel
                refine vcIntro [false, false, false, false, false, false, true, true, false, false, true, true, true, true, false, false, false, false, true, true, true, true, false, false, false, false, false, false] (an (an h49 (an h49 (an h48 (an h47 (an h8 (an h46 (an h37 (an h45 (an h44 (an h43 (an h42 (an h41 (an h40 (an h39 (an h37 (an h38 (an h37 (an h36 (an h9 (an h8 (an h7 (an (show (IntKind.i64.wrap ((IntKind.u64.wrap w).tmod (4 : Int))).toNat.succ ≤ (0 : Nat) + ([(1 : Int), IntKind.i64.wrap ((4 : Int) * IntKind.i64.wrap ((262143 : Int) + IntKind.i64.wrap ((1 : Int) + x % (1024 : Int)))), (2 : Int)].length + (1 : Nat)) by (simp; omega)) (an (an (show (0 : Int) ≤ IntKind.i64.wrap ((IntKind.u64.wrap w).tmod (4 : Int)) by omega) (show IntKind.i64.wrap ((IntKind.u64.wrap w).tmod (4 : Int)) + (1 : Int) ≤ (4 : Int) by omega)) (an h6 (an h5 (an h4 (an h3 (an h2 (an h1 (an h0 tt)))))))))))))))))))))))))))))) (show False by (simp (disch := omega) only [w1, wrapk] at *; simp at *; omega))) ?_
                kernel_rfl
             ·
              have h50 : (decide ((1 : Int) < Wd.plV (4 : Int))) = false := by decide +kernel
              refine vcIntro [false, false, false, false, false, false, true, true, false, false, true, true, true, true, false, false, false, false, true, true, false, false] (an (an h50 (an h45 (an h44 (an h43 (an h42 (an h41 (an h40 (an h39 (an h37 (an h38 (an h37 (an h36 (an h9 (an h8 (an h7 (an (show (IntKind.i64.wrap ((IntKind.u64.wrap w).tmod (4 : Int))).toNat.succ ≤ (0 : Nat) + ([(1 : Int), IntKind.i64.wrap ((4 : Int) * IntKind.i64.wrap ((262143 : Int) + IntKind.i64.wrap ((1 : Int) + x % (1024 : Int)))), (2 : Int)].length + (1 : Nat)) by (simp; omega)) (an (an (show (0 : Int) ≤ IntKind.i64.wrap ((IntKind.u64.wrap w).tmod (4 : Int)) by omega) (show IntKind.i64.wrap ((IntKind.u64.wrap w).tmod (4 : Int)) + (1 : Int) ≤ (4 : Int) by omega)) (an h6 (an h5 (an h4 (an h3 (an h2 (an h1 (an h0 tt)))))))))))))))))))))))) tt) ?_
              kernel_rfl
            ·
             have h51 : (decide ((Wd.plV (0 : Int)).tmod (4 : Int) > (2 : Int))) = false := by decide +kernel
             have h52 : (decide (IntKind.i64.wrap ((Wd.plV (0 : Int)).tdiv (4 : Int)) > (65535 : Int))) = false := by decide +kernel
             rcases Bool.eq_false_or_eq_true (decide (Wd.plV (IntKind.i64.wrap ((4 : Int) * IntKind.i64.wrap ((16 : Int) + IntKind.i64.wrap ((1 : Int) + x % (1024 : Int))))) > (16 : Int))) with h53 | h53
             ·
              have h54 : (!Wd.isVal (4 : Int)) = false := by decide +kernel
              have h55 : (decide (Wd.plV (4 : Int) > (16 : Int))) = false := by decide +kernel
              have h56 : (decide ((0 : Int) < Wd.plV (4 : Int))) = true := by decide +kernel
              have h57 : (Wd.isVal (4 : Int)) = true := by decide +kernel
              rcases Bool.eq_false_or_eq_true (Wd.isVal (IntKind.i64.wrap ((4 : Int) * IntKind.i64.wrap ((15 : Int) + IntKind.i64.wrap ((1 : Int) + x % (1024 : Int)))))) with h58 | h58
              ·
               have h59 : (decide ((1 : Int) < Wd.plV (4 : Int))) = false := by decide +kernel
               rcases Bool.eq_false_or_eq_true (decide (Wd.plV (IntKind.i64.wrap ((4 : Int) * IntKind.i64.wrap ((15 : Int) + IntKind.i64.wrap ((1 : Int) + x % (1024 : Int))))) ≤ (-1 : Int))) with h60 | h60
               · exact ff (by (clear hw; simp only [ha, hb] at *; simp (disch := omega) only [Int.tdiv_eq_ediv_of_nonneg, Int.tmod_eq_emod_of_nonneg, wrapk] at *; simp at *; omega))
               ·
                rcases Bool.eq_false_or_eq_true (decide (Wd.plV (IntKind.i64.wrap ((4 : Int) * IntKind.i64.wrap ((15 : Int) + IntKind.i64.wrap ((1 : Int) + x % (1024 : Int))))) ≥ (16 : Int))) with h61 | h61
                ·
                 refine vcIntro [false, false, false, false, false, false, true, true, false, false, true, true, false, false, false, true, true, false, false, false, false, true, true, true, true, false, false, false, true] (an (an h61 (an h60 (an h8 (an h59 (an h37 (an h58 (an h57 (an h56 (an h55 (an h52 (an h51 (an h54 (an h37 (an h53 (an h52 (an h51 (an h38 (an h37 (an h36 (an h9 (an h8 (an h7 (an (show (IntKind.i64.wrap ((IntKind.u64.wrap w).tmod (4 : Int))).toNat.succ ≤ (0 : Nat) + ([(1 : Int), IntKind.i64.wrap ((4 : Int) * IntKind.i64.wrap ((262143 : Int) + IntKind.i64.wrap ((1 : Int) + x % (1024 : Int)))), (2 : Int)].length + (1 : Nat)) by (simp; omega)) (an (an (show (0 : Int) ≤ IntKind.i64.wrap ((IntKind.u64.wrap w).tmod (4 : Int)) by omega) (show IntKind.i64.wrap ((IntKind.u64.wrap w).tmod (4 : Int)) + (1 : Int) ≤ (4 : Int) by omega)) (an h6 (an h5 (an h4 (an h3 (an h2 (an h1 (an h0 tt))))))))))))))))))))))))))))))) tt) ?_
                 kernel_rfl
                · exact ff (by (clear hw; simp only [ha, hb] at *; simp (disch := omega) only [Int.tdiv_eq_ediv_of_nonneg, Int.tmod_eq_emod_of_nonneg, wrapk] at *; simp at *; omega))
              ·
               have h62 : (decide ((1 : Int) < Wd.plV (4 : Int))) = false := by decide +kernel
               refine vcIntro [false, false, false, false, false, false, true, true, false, false, true, true, false, false, false, true, true, false, false, false, false, true, true, false, false] (an (an h62 (an h58 (an h57 (an h56 (an h55 (an h52 (an h51 (an h54 (an h37 (an h53 (an h52 (an h51 (an h38 (an h37 (an h36 (an h9 (an h8 (an h7 (an (show (IntKind.i64.wrap ((IntKind.u64.wrap w).tmod (4 : Int))).toNat.succ ≤ (0 : Nat) + ([(1 : Int), IntKind.i64.wrap ((4 : Int) * IntKind.i64.wrap ((262143 : Int) + IntKind.i64.wrap ((1 : Int) + x % (1024 : Int)))), (2 : Int)].length + (1 : Nat)) by (simp; omega)) (an (an (show (0 : Int) ≤ IntKind.i64.wrap ((IntKind.u64.wrap w).tmod (4 : Int)) by omega) (show IntKind.i64.wrap ((IntKind.u64.wrap w).tmod (4 : Int)) + (1 : Int) ≤ (4 : Int) by omega)) (an h6 (an h5 (an h4 (an h3 (an h2 (an h1 (an h0 tt))))))))))))))))))))))))))) tt) ?_
               kernel_rfl
             · exact ff (by (clear hw; simp only [ha, hb] at *; simp (disch := omega) only [Int.tdiv_eq_ediv_of_nonneg, Int.tmod_eq_emod_of_nonneg, wrapk] at *; simp at *; omega))
           · exact ff (by (have hh9 := hw (by assumption); clear hw ha hb; generalize ([12, 1, IntKind.i64.wrap (4 * IntKind.i64.wrap (262143 + IntKind.i64.wrap (1 + x % 1024))), 2].getD (IntKind.i64.wrap ((IntKind.u64.wrap w).tmod 4)).toNat 0) = q at *; simp (disch := omega) only [Int.tdiv_eq_ediv_of_nonneg, Int.tmod_eq_emod_of_nonneg, wrapk] at *; simp at *; omega))
         ·
          have h63 : (Wd.isVal (0 : Int)) = true := by decide +kernel
          rcases Bool.eq_false_or_eq_true (!Wd.isVal (IntKind.i64.wrap ((4 : Int) * IntKind.i64.wrap ((16 : Int) + IntKind.i64.wrap ((1 : Int) + x % (1024 : Int)))))) with h64 | h64
          ·
           have h65 : (!Wd.isVal (4 : Int)) = false := by decide +kernel
           have h66 : (decide ((Wd.plV (0 : Int)).tmod (4 : Int) > (2 : Int))) = false := by decide +kernel
           have h67 : (decide (IntKind.i64.wrap ((Wd.plV (0 : Int)).tdiv (4 : Int)) > (65535 : Int))) = false := by decide +kernel
           have h68 : (decide (Wd.plV (4 : Int) > (16 : Int))) = false := by decide +kernel
           have h69 : (decide ((0 : Int) < Wd.plV (4 : Int))) = true := by decide +kernel
           have h70 : (Wd.isVal (4 : Int)) = true := by decide +kernel
           rcases Bool.eq_false_or_eq_true (Wd.isVal (IntKind.i64.wrap ((4 : Int) * IntKind.i64.wrap ((15 : Int) + IntKind.i64.wrap ((1 : Int) + x % (1024 : Int)))))) with h71 | h71
           ·
            have h72 : (decide ((1 : Int) < Wd.plV (4 : Int))) = false := by decide +kernel
            have h73 : (!Wd.isVal (0 : Int)) = false := by decide +kernel
            rcases Bool.eq_false_or_eq_true (decide (Wd.plV (IntKind.i64.wrap ((4 : Int) * IntKind.i64.wrap ((15 : Int) + IntKind.i64.wrap ((1 : Int) + x % (1024 : Int))))) ≤ (-1 : Int))) with h74 | h74
            ·
             refine vcIntro [false, false, false, false, false, false, true, false, true, true, true, false, false, false, false, true, true, true, true, false, false, true] (an (an h74 (an h73 (an h72 (an h63 (an h71 (an h70 (an h69 (an h68 (an h67 (an h66 (an h65 (an h63 (an h64 (an h63 (an h7 (an (show (IntKind.i64.wrap ((IntKind.u64.wrap w).tmod (4 : Int))).toNat.succ ≤ (0 : Nat) + ([(1 : Int), IntKind.i64.wrap ((4 : Int) * IntKind.i64.wrap ((262143 : Int) + IntKind.i64.wrap ((1 : Int) + x % (1024 : Int)))), (2 : Int)].length + (1 : Nat)) by (simp; omega)) (an (an (show (0 : Int) ≤ IntKind.i64.wrap ((IntKind.u64.wrap w).tmod (4 : Int)) by omega) (show IntKind.i64.wrap ((IntKind.u64.wrap w).tmod (4 : Int)) + (1 : Int) ≤ (4 : Int) by omega)) (an h6 (an h5 (an h4 (an h3 (an h2 (an h1 (an h0 tt)))))))))))))))))))))))) tt) ?_
             kernel_rfl
            ·
             rcases Bool.eq_false_or_eq_true (decide (Wd.plV (IntKind.i64.wrap ((4 : Int) * IntKind.i64.wrap ((15 : Int) + IntKind.i64.wrap ((1 : Int) + x % (1024 : Int))))) ≥ (16 : Int))) with h75 | h75
             ·
              refine vcIntro [false, false, false, false, false, false, true, false, true, true, true, false, false, false, false, true, true, true, true, false, false, false, true] (an (an h75 (an h74 (an h73 (an h72 (an h63 (an h71 (an h70 (an h69 (an h68 (an h67 (an h66 (an h65 (an h63 (an h64 (an h63 (an h7 (an (show (IntKind.i64.wrap ((IntKind.u64.wrap w).tmod (4 : Int))).toNat.succ ≤ (0 : Nat) + ([(1 : Int), IntKind.i64.wrap ((4 : Int) * IntKind.i64.wrap ((262143 : Int) + IntKind.i64.wrap ((1 : Int) + x % (1024 : Int)))), (2 : Int)].length + (1 : Nat)) by (simp; omega)) (an (an (show (0 : Int) ≤ IntKind.i64.wrap ((IntKind.u64.wrap w).tmod (4 : Int)) by omega) (show IntKind.i64.wrap ((IntKind.u64.wrap w).tmod (4 : Int)) + (1 : Int) ≤ (4 : Int) by omega)) (an h6 (an h5 (an h4 (an h3 (an h2 (an h1 (an h0 tt))))))))))))))))))))))))) tt) ?_
              kernel_rfl
             ·
              have h76 : (!(decide ((0 : Int) ≤ Wd.plV (0 : Int)) && decide (Wd.plV (0 : Int) < (1099511627776 : Int)))) = false := by decide +kernel
              refine vcIntro [false, false, false, false, false, false, true, false, true, true, true, false, false, false, false, true, true, true, true, false, false, false, false, false, false] (an (an h76 (an h76 (an h75 (an h74 (an h73 (an h72 (an h63 (an h71 (an h70 (an h69 (an h68 (an h67 (an h66 (an h65 (an h63 (an h64 (an h63 (an h7 (an (show (IntKind.i64.wrap ((IntKind.u64.wrap w).tmod (4 : Int))).toNat.succ ≤ (0 : Nat) + ([(1 : Int), IntKind.i64.wrap ((4 : Int) * IntKind.i64.wrap ((262143 : Int) + IntKind.i64.wrap ((1 : Int) + x % (1024 : Int)))), (2 : Int)].length + (1 : Nat)) by (simp; omega)) (an (an (show (0 : Int) ≤ IntKind.i64.wrap ((IntKind.u64.wrap w).tmod (4 : Int)) by omega) (show IntKind.i64.wrap ((IntKind.u64.wrap w).tmod (4 : Int)) + (1 : Int) ≤ (4 : Int) by omega)) (an h6 (an h5 (an h4 (an h3 (an h2 (an h1 (an h0 tt))))))))))))))))))))))))))) (show False by (simp (disch := omega) only [w1, wrapk] at *; simp at *; omega))) ?_
              kernel_rfl
           ·
            have h77 : (decide ((1 : Int) < Wd.plV (4 : Int))) = false := by decide +kernel
            refine vcIntro [false, false, false, false, false, false, true, false, true, true, true, false, false, false, false, true, true, false, false] (an (an h77 (an h71 (an h70 (an h69 (an h68 (an h67 (an h66 (an h65 (an h63 (an h64 (an h63 (an h7 (an (show (IntKind.i64.wrap ((IntKind.u64.wrap w).tmod (4 : Int))).toNat.succ ≤ (0 : Nat) + ([(1 : Int), IntKind.i64.wrap ((4 : Int) * IntKind.i64.wrap ((262143 : Int) + IntKind.i64.wrap ((1 : Int) + x % (1024 : Int)))), (2 : Int)].length + (1 : Nat)) by (simp; omega)) (an (an (show (0 : Int) ≤ IntKind.i64.wrap ((IntKind.u64.wrap w).tmod (4 : Int)) by omega) (show IntKind.i64.wrap ((IntKind.u64.wrap w).tmod (4 : Int)) + (1 : Int) ≤ (4 : Int) by omega)) (an h6 (an h5 (an h4 (an h3 (an h2 (an h1 (an h0 tt))))))))))))))))))))) tt) ?_
            kernel_rfl
          ·
           have h78 : (decide ((Wd.plV (0 : Int)).tmod (4 : Int) > (2 : Int))) = false := by decide +kernel
           have h79 : (decide (IntKind.i64.wrap ((Wd.plV (0 : Int)).tdiv (4 : Int)) > (65535 : Int))) = false := by decide +kernel
           rcases Bool.eq_false_or_eq_true (decide (Wd.plV (IntKind.i64.wrap ((4 : Int) * IntKind.i64.wrap ((16 : Int) + IntKind.i64.wrap ((1 : Int) + x % (1024 : Int))))) > (16 : Int))) with h80 | h80
           ·
            have h81 : (!Wd.isVal (4 : Int)) = false := by decide +kernel
            have h82 : (decide (Wd.plV (4 : Int) > (16 : Int))) = false := by decide +kernel
            have h83 : (decide ((0 : Int) < Wd.plV (4 : Int))) = true := by decide +kernel
            have h84 : (Wd.isVal (4 : Int)) = true := by decide +kernel
            rcases Bool.eq_false_or_eq_true (Wd.isVal (IntKind.i64.wrap ((4 : Int) * IntKind.i64.wrap ((15 : Int) + IntKind.i64.wrap ((1 : Int) + x % (1024 : Int)))))) with h85 | h85
            ·
             have h86 : (decide ((1 : Int) < Wd.plV (4 : Int))) = false := by decide +kernel
             have h87 : (!Wd.isVal (0 : Int)) = false := by decide +kernel
             rcases Bool.eq_false_or_eq_true (decide (Wd.plV (IntKind.i64.wrap ((4 : Int) * IntKind.i64.wrap ((15 : Int) + IntKind.i64.wrap ((1 : Int) + x % (1024 : Int))))) ≤ (-1 : Int))) with h88 | h88
             · exact ff (by (clear hw; simp only [ha, hb] at *; simp (disch := omega) only [Int.tdiv_eq_ediv_of_nonneg, Int.tmod_eq_emod_of_nonneg, wrapk] at *; simp at *; omega))
             ·
              rcases Bool.eq_false_or_eq_true (decide (Wd.plV (IntKind.i64.wrap ((4 : Int) * IntKind.i64.wrap ((15 : Int) + IntKind.i64.wrap ((1 : Int) + x % (1024 : Int))))) ≥ (16 : Int))) with h89 | h89
              ·
               refine vcIntro [false, false, false, false, false, false, true, false, true, false, false, false, true, true, false, false, false, false, true, true, true, true, false, false, false, true] (an (an h89 (an h88 (an h87 (an h86 (an h63 (an h85 (an h84 (an h83 (an h82 (an h79 (an h78 (an h81 (an h63 (an h80 (an h79 (an h78 (an h64 (an h63 (an h7 (an (show (IntKind.i64.wrap ((IntKind.u64.wrap w).tmod (4 : Int))).toNat.succ ≤ (0 : Nat) + ([(1 : Int), IntKind.i64.wrap ((4 : Int) * IntKind.i64.wrap ((262143 : Int) + IntKind.i64.wrap ((1 : Int) + x % (1024 : Int)))), (2 : Int)].length + (1 : Nat)) by (simp; omega)) (an (an (show (0 : Int) ≤ IntKind.i64.wrap ((IntKind.u64.wrap w).tmod (4 : Int)) by omega) (show IntKind.i64.wrap ((IntKind.u64.wrap w).tmod (4 : Int)) + (1 : Int) ≤ (4 : Int) by omega)) (an h6 (an h5 (an h4 (an h3 (an h2 (an h1 (an h0 tt)))))))))))))))))))))))))))) tt) ?_
               kernel_rfl
              · exact ff (by (clear hw; simp only [ha, hb] at *; simp (disch := omega) only [Int.tdiv_eq_ediv_of_nonneg, Int.tmod_eq_emod_of_nonneg, wrapk] at *; simp at *; omega))
            ·
             have h90 : (decide ((1 : Int) < Wd.plV (4 : Int))) = false := by decide +kernel
             refine vcIntro [false, false, false, false, false, false, true, false, true, false, false, false, true, true, false, false, false, false, true, true, false, false] (an (an h90 (an h85 (an h84 (an h83 (an h82 (an h79 (an h78 (an h81 (an h63 (an h80 (an h79 (an h78 (an h64 (an h63 (an h7 (an (show (IntKind.i64.wrap ((IntKind.u64.wrap w).tmod (4 : Int))).toNat.succ ≤ (0 : Nat) + ([(1 : Int), IntKind.i64.wrap ((4 : Int) * IntKind.i64.wrap ((262143 : Int) + IntKind.i64.wrap ((1 : Int) + x % (1024 : Int)))), (2 : Int)].length + (1 : Nat)) by (simp; omega)) (an (an (show (0 : Int) ≤ IntKind.i64.wrap ((IntKind.u64.wrap w).tmod (4 : Int)) by omega) (show IntKind.i64.wrap ((IntKind.u64.wrap w).tmod (4 : Int)) + (1 : Int) ≤ (4 : Int) by omega)) (an h6 (an h5 (an h4 (an h3 (an h2 (an h1 (an h0 tt)))))))))))))))))))))))) tt) ?_
             kernel_rfl
           · exact ff (by (clear hw; simp only [ha, hb] at *; simp (disch := omega) only [Int.tdiv_eq_ediv_of_nonneg, Int.tmod_eq_emod_of_nonneg, wrapk] at *; simp at *; omega))
        · exact ff (by (simp only [hq] at *; simp at *; done))
end Go.Ideal.D1
