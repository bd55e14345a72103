/- Chapter 13: DescForms. Own text. -/
import Derived.Test.YtbcadmnkilckbaaD1b
namespace Go.Ideal.D1
open Go.Proofs Go.Ideal Go.Ideal.L1
set_option linter.unusedSimpArgs false
set_option linter.unusedVariables false
set_option maxRecDepth 100000
set_option maxHeartbeats 80000000

theorem forms_c2 (w x : Int) (hq : IntKind.i64.wrap ((IntKind.u64.wrap w).tmod 11) = 2 ∧ (IntKind.u64.wrap w).tmod 11 = 2) : ∃ hh, vcOf (runCall Try.prog specs noL 6000 3 [.int .i64 (.s w), .int .i64 (.s x)] H0 hh) (fun v _ => isT v) := by
  have hm4 := modU w 4 (by omega) (by omega)
  have hx : 0 ≤ x % 1024 ∧ x % 1024 < 1024 := by omega
  have hw := hW w x
  have ha := hA x
  have hb := hB x

  rcases Bool.eq_false_or_eq_true ((IntKind.u64.wrap w).tmod (11 : Int) == (0 : Int)) with h0 | h0
  · exact ff (by (simp only [hq] at *; simp at *; done))
  ·
   rcases Bool.eq_false_or_eq_true ((IntKind.u64.wrap w).tmod (11 : Int) == (1 : Int)) with h1 | h1
   · exact ff (by (simp only [hq] at *; simp at *; done))
   ·
    rcases Bool.eq_false_or_eq_true ((IntKind.u64.wrap w).tmod (11 : Int) == (2 : Int)) with h2 | h2
    ·
     rcases Bool.eq_false_or_eq_true (!(decide ((0 : Int) ≤ IntKind.i64.wrap ((65535 : Int) + IntKind.i64.wrap ((1 : Int) + x % (1024 : Int)))) && decide (IntKind.i64.wrap ((65535 : Int) + IntKind.i64.wrap ((1 : Int) + x % (1024 : Int))) < (65536 : Int)))) with h3 | h3
     ·
      rcases Bool.eq_false_or_eq_true (Wd.isVal ([(12 : Int), (1 : Int), IntKind.i64.wrap ((4 : Int) * IntKind.i64.wrap ((262143 : Int) + IntKind.i64.wrap ((1 : Int) + x % (1024 : Int)))), (2 : Int)].getD (IntKind.i64.wrap ((IntKind.u64.wrap w).tmod (4 : Int))).toNat (0 : Int))) with h4 | h4
      ·
       have h5 : (!Wd.isVal (0 : Int)) = false := by decide +kernel
       rcases Bool.eq_false_or_eq_true (decide ((Wd.plV ([(12 : Int), (1 : Int), IntKind.i64.wrap ((4 : Int) * IntKind.i64.wrap ((262143 : Int) + IntKind.i64.wrap ((1 : Int) + x % (1024 : Int)))), (2 : Int)].getD (IntKind.i64.wrap ((IntKind.u64.wrap w).tmod (4 : Int))).toNat (0 : Int))).tmod (4 : Int) > (2 : Int))) with h6 | h6
       ·
        have h7 : (Wd.isVal (0 : Int)) = true := by decide +kernel
        rcases Bool.eq_false_or_eq_true (!Wd.isVal (IntKind.i64.wrap ((4 : Int) * IntKind.i64.wrap ((16 : Int) + IntKind.i64.wrap ((1 : Int) + x % (1024 : Int)))))) with h8 | h8
        ·
         have h9 : (!Wd.isVal (4 : Int)) = false := by decide +kernel
         have h10 : (decide ((Wd.plV (0 : Int)).tmod (4 : Int) > (2 : Int))) = false := by decide +kernel
         have h11 : (decide (IntKind.i64.wrap ((Wd.plV (0 : Int)).tdiv (4 : Int)) > (65535 : Int))) = false := by decide +kernel
         have h12 : (decide (Wd.plV (4 : Int) > (16 : Int))) = false := by decide +kernel
         have h13 : (decide ((0 : Int) < Wd.plV (4 : Int))) = true := by decide +kernel
         have h14 : (Wd.isVal (4 : Int)) = true := by decide +kernel
         rcases Bool.eq_false_or_eq_true (Wd.isVal (IntKind.i64.wrap ((4 : Int) * IntKind.i64.wrap ((15 : Int) + IntKind.i64.wrap ((1 : Int) + x % (1024 : Int)))))) with h15 | h15
         ·
          have h16 : (decide ((1 : Int) < Wd.plV (4 : Int))) = false := by decide +kernel
          rcases Bool.eq_false_or_eq_true (decide (Wd.plV (IntKind.i64.wrap ((4 : Int) * IntKind.i64.wrap ((15 : Int) + IntKind.i64.wrap ((1 : Int) + x % (1024 : Int))))) ≤ (-1 : Int))) with h17 | h17
          ·
           refine vcIntro [false, false, true, true, true, false, true, true, true, true, false, false, false, false, true, true, true, true, false, false, true] (an (an h17 (an h5 (an h16 (an h7 (an h15 (an h14 (an h13 (an h12 (an h11 (an h10 (an h9 (an h7 (an h8 (an h7 (an h6 (an h5 (an h4 (an (show (IntKind.i64.wrap ((IntKind.u64.wrap w).tmod (4 : Int))).toNat.succ ≤ (0 : Nat) + ([(1 : Int), IntKind.i64.wrap ((4 : Int) * IntKind.i64.wrap ((262143 : Int) + IntKind.i64.wrap ((1 : Int) + x % (1024 : Int)))), (2 : Int)].length + (1 : Nat)) by (simp; omega)) (an (an (show (0 : Int) ≤ IntKind.i64.wrap ((IntKind.u64.wrap w).tmod (4 : Int)) by omega) (show IntKind.i64.wrap ((IntKind.u64.wrap w).tmod (4 : Int)) + (1 : Int) ≤ (4 : Int) by omega)) (an h3 (an h2 (an h1 (an h0 tt))))))))))))))))))))))) tt) ?_
           kernel_rfl
          ·
           rcases Bool.eq_false_or_eq_true (decide (Wd.plV (IntKind.i64.wrap ((4 : Int) * IntKind.i64.wrap ((15 : Int) + IntKind.i64.wrap ((1 : Int) + x % (1024 : Int))))) ≥ (16 : Int))) with h18 | h18
           ·
            refine vcIntro [false, false, true, true, true, false, true, true, true, true, false, false, false, false, true, true, true, true, false, false, false, true] (an (an h18 (an h17 (an h5 (an h16 (an h7 (an h15 (an h14 (an h13 (an h12 (an h11 (an h10 (an h9 (an h7 (an h8 (an h7 (an h6 (an h5 (an h4 (an (show (IntKind.i64.wrap ((IntKind.u64.wrap w).tmod (4 : Int))).toNat.succ ≤ (0 : Nat) + ([(1 : Int), IntKind.i64.wrap ((4 : Int) * IntKind.i64.wrap ((262143 : Int) + IntKind.i64.wrap ((1 : Int) + x % (1024 : Int)))), (2 : Int)].length + (1 : Nat)) by (simp; omega)) (an (an (show (0 : Int) ≤ IntKind.i64.wrap ((IntKind.u64.wrap w).tmod (4 : Int)) by omega) (show IntKind.i64.wrap ((IntKind.u64.wrap w).tmod (4 : Int)) + (1 : Int) ≤ (4 : Int) by omega)) (an h3 (an h2 (an h1 (an h0 tt)))))))))))))))))))))))) tt) ?_
            kernel_rfl
           ·
            have h19 : (!(decide ((0 : Int) ≤ Wd.plV (0 : Int)) && decide (Wd.plV (0 : Int) < (1099511627776 : Int)))) = false := by decide +kernel
            refine vcIntro [false, false, true, true, true, false, true, true, true, true, false, false, false, false, true, true, true, true, false, false, false, false, false, false] (an (an h19 (an h19 (an h18 (an h17 (an h5 (an h16 (an h7 (an h15 (an h14 (an h13 (an h12 (an h11 (an h10 (an h9 (an h7 (an h8 (an h7 (an h6 (an h5 (an h4 (an (show (IntKind.i64.wrap ((IntKind.u64.wrap w).tmod (4 : Int))).toNat.succ ≤ (0 : Nat) + ([(1 : Int), IntKind.i64.wrap ((4 : Int) * IntKind.i64.wrap ((262143 : Int) + IntKind.i64.wrap ((1 : Int) + x % (1024 : Int)))), (2 : Int)].length + (1 : Nat)) by (simp; omega)) (an (an (show (0 : Int) ≤ IntKind.i64.wrap ((IntKind.u64.wrap w).tmod (4 : Int)) by omega) (show IntKind.i64.wrap ((IntKind.u64.wrap w).tmod (4 : Int)) + (1 : Int) ≤ (4 : Int) by omega)) (an h3 (an h2 (an h1 (an h0 tt)))))))))))))))))))))))))) (show False by (simp (disch := omega) only [w1, wrapk] at *; simp at *; omega))) ?_
            kernel_rfl
         ·
          have h20 : (decide ((1 : Int) < Wd.plV (4 : Int))) = false := by decide +kernel
          refine vcIntro [false, false, true, true, true, false, true, true, true, true, false, false, false, false, true, true, false, false] (an (an h20 (an h15 (an h14 (an h13 (an h12 (an h11 (an h10 (an h9 (an h7 (an h8 (an h7 (an h6 (an h5 (an h4 (an (show (IntKind.i64.wrap ((IntKind.u64.wrap w).tmod (4 : Int))).toNat.succ ≤ (0 : Nat) + ([(1 : Int), IntKind.i64.wrap ((4 : Int) * IntKind.i64.wrap ((262143 : Int) + IntKind.i64.wrap ((1 : Int) + x % (1024 : Int)))), (2 : Int)].length + (1 : Nat)) by (simp; omega)) (an (an (show (0 : Int) ≤ IntKind.i64.wrap ((IntKind.u64.wrap w).tmod (4 : Int)) by omega) (show IntKind.i64.wrap ((IntKind.u64.wrap w).tmod (4 : Int)) + (1 : Int) ≤ (4 : Int) by omega)) (an h3 (an h2 (an h1 (an h0 tt)))))))))))))))))))) tt) ?_
          kernel_rfl
        ·
         have h21 : (decide ((Wd.plV (0 : Int)).tmod (4 : Int) > (2 : Int))) = false := by decide +kernel
         have h22 : (decide (IntKind.i64.wrap ((Wd.plV (0 : Int)).tdiv (4 : Int)) > (65535 : Int))) = false := by decide +kernel
         rcases Bool.eq_false_or_eq_true (decide (Wd.plV (IntKind.i64.wrap ((4 : Int) * IntKind.i64.wrap ((16 : Int) + IntKind.i64.wrap ((1 : Int) + x % (1024 : Int))))) > (16 : Int))) with h23 | h23
         ·
          have h24 : (!Wd.isVal (4 : Int)) = false := by decide +kernel
          have h25 : (decide (Wd.plV (4 : Int) > (16 : Int))) = false := by decide +kernel
          have h26 : (decide ((0 : Int) < Wd.plV (4 : Int))) = true := by decide +kernel
          have h27 : (Wd.isVal (4 : Int)) = true := by decide +kernel
          rcases Bool.eq_false_or_eq_true (Wd.isVal (IntKind.i64.wrap ((4 : Int) * IntKind.i64.wrap ((15 : Int) + IntKind.i64.wrap ((1 : Int) + x % (1024 : Int)))))) with h28 | h28
          ·
           have h29 : (decide ((1 : Int) < Wd.plV (4 : Int))) = false := by decide +kernel
           rcases Bool.eq_false_or_eq_true (decide (Wd.plV (IntKind.i64.wrap ((4 : Int) * IntKind.i64.wrap ((15 : Int) + IntKind.i64.wrap ((1 : Int) + x % (1024 : Int))))) ≤ (-1 : Int))) with h30 | h30
           · exact ff (by (clear hw; simp only [ha, hb] at *; simp (disch := omega) only [Int.tdiv_eq_ediv_of_nonneg, Int.tmod_eq_emod_of_nonneg, wrapk] at *; simp at *; omega))
           ·
            rcases Bool.eq_false_or_eq_true (decide (Wd.plV (IntKind.i64.wrap ((4 : Int) * IntKind.i64.wrap ((15 : Int) + IntKind.i64.wrap ((1 : Int) + x % (1024 : Int))))) ≥ (16 : Int))) with h31 | h31
            ·
             refine vcIntro [false, false, true, true, true, false, true, true, false, false, false, true, true, false, false, false, false, true, true, true, true, false, false, false, true] (an (an h31 (an h30 (an h5 (an h29 (an h7 (an h28 (an h27 (an h26 (an h25 (an h22 (an h21 (an h24 (an h7 (an h23 (an h22 (an h21 (an h8 (an h7 (an h6 (an h5 (an h4 (an (show (IntKind.i64.wrap ((IntKind.u64.wrap w).tmod (4 : Int))).toNat.succ ≤ (0 : Nat) + ([(1 : Int), IntKind.i64.wrap ((4 : Int) * IntKind.i64.wrap ((262143 : Int) + IntKind.i64.wrap ((1 : Int) + x % (1024 : Int)))), (2 : Int)].length + (1 : Nat)) by (simp; omega)) (an (an (show (0 : Int) ≤ IntKind.i64.wrap ((IntKind.u64.wrap w).tmod (4 : Int)) by omega) (show IntKind.i64.wrap ((IntKind.u64.wrap w).tmod (4 : Int)) + (1 : Int) ≤ (4 : Int) by omega)) (an h3 (an h2 (an h1 (an h0 tt))))))))))))))))))))))))))) tt) ?_
             kernel_rfl
            · exact ff (by (clear hw; simp only [ha, hb] at *; simp (disch := omega) only [Int.tdiv_eq_ediv_of_nonneg, Int.tmod_eq_emod_of_nonneg, wrapk] at *; simp at *; omega))
          ·
           have h32 : (decide ((1 : Int) < Wd.plV (4 : Int))) = false := by decide +kernel
           refine vcIntro [false, false, true, true, true, false, true, true, false, false, false, true, true, false, false, false, false, true, true, false, false] (an (an h32 (an h28 (an h27 (an h26 (an h25 (an h22 (an h21 (an h24 (an h7 (an h23 (an h22 (an h21 (an h8 (an h7 (an h6 (an h5 (an h4 (an (show (IntKind.i64.wrap ((IntKind.u64.wrap w).tmod (4 : Int))).toNat.succ ≤ (0 : Nat) + ([(1 : Int), IntKind.i64.wrap ((4 : Int) * IntKind.i64.wrap ((262143 : Int) + IntKind.i64.wrap ((1 : Int) + x % (1024 : Int)))), (2 : Int)].length + (1 : Nat)) by (simp; omega)) (an (an (show (0 : Int) ≤ IntKind.i64.wrap ((IntKind.u64.wrap w).tmod (4 : Int)) by omega) (show IntKind.i64.wrap ((IntKind.u64.wrap w).tmod (4 : Int)) + (1 : Int) ≤ (4 : Int) by omega)) (an h3 (an h2 (an h1 (an h0 tt))))))))))))))))))))))) tt) ?_
           kernel_rfl
         · exact ff (by (clear hw; simp only [ha, hb] at *; simp (disch := omega) only [Int.tdiv_eq_ediv_of_nonneg, Int.tmod_eq_emod_of_nonneg, wrapk] at *; simp at *; omega))
       ·
        rcases Bool.eq_false_or_eq_true (decide (IntKind.i64.wrap ((Wd.plV ([(12 : Int), (1 : Int), IntKind.i64.wrap ((4 : Int) * IntKind.i64.wrap ((262143 : Int) + IntKind.i64.wrap ((1 : Int) + x % (1024 : Int)))), (2 : Int)].getD (IntKind.i64.wrap ((IntKind.u64.wrap w).tmod (4 : Int))).toNat (0 : Int))).tdiv (4 : Int)) > (65535 : Int))) with h33 | h33
        ·
         have h34 : (Wd.isVal (0 : Int)) = true := by decide +kernel
         rcases Bool.eq_false_or_eq_true (!Wd.isVal (IntKind.i64.wrap ((4 : Int) * IntKind.i64.wrap ((16 : Int) + IntKind.i64.wrap ((1 : Int) + x % (1024 : Int)))))) with h35 | h35
         ·
          have h36 : (!Wd.isVal (4 : Int)) = false := by decide +kernel
          have h37 : (decide ((Wd.plV (0 : Int)).tmod (4 : Int) > (2 : Int))) = false := by decide +kernel
          have h38 : (decide (IntKind.i64.wrap ((Wd.plV (0 : Int)).tdiv (4 : Int)) > (65535 : Int))) = false := by decide +kernel
          have h39 : (decide (Wd.plV (4 : Int) > (16 : Int))) = false := by decide +kernel
          have h40 : (decide ((0 : Int) < Wd.plV (4 : Int))) = true := by decide +kernel
          have h41 : (Wd.isVal (4 : Int)) = true := by decide +kernel
          rcases Bool.eq_false_or_eq_true (Wd.isVal (IntKind.i64.wrap ((4 : Int) * IntKind.i64.wrap ((15 : Int) + IntKind.i64.wrap ((1 : Int) + x % (1024 : Int)))))) with h42 | h42
          ·
           have h43 : (decide ((1 : Int) < Wd.plV (4 : Int))) = false := by decide +kernel
           rcases Bool.eq_false_or_eq_true (decide (Wd.plV (IntKind.i64.wrap ((4 : Int) * IntKind.i64.wrap ((15 : Int) + IntKind.i64.wrap ((1 : Int) + x % (1024 : Int))))) ≤ (-1 : Int))) with h44 | h44
           ·
            refine vcIntro [false, false, true, true, true, false, false, true, true, true, true, false, false, false, false, true, true, true, true, false, false, true] (an (an h44 (an h5 (an h43 (an h34 (an h42 (an h41 (an h40 (an h39 (an h38 (an h37 (an h36 (an h34 (an h35 (an h34 (an h33 (an h6 (an h5 (an h4 (an (show (IntKind.i64.wrap ((IntKind.u64.wrap w).tmod (4 : Int))).toNat.succ ≤ (0 : Nat) + ([(1 : Int), IntKind.i64.wrap ((4 : Int) * IntKind.i64.wrap ((262143 : Int) + IntKind.i64.wrap ((1 : Int) + x % (1024 : Int)))), (2 : Int)].length + (1 : Nat)) by (simp; omega)) (an (an (show (0 : Int) ≤ IntKind.i64.wrap ((IntKind.u64.wrap w).tmod (4 : Int)) by omega) (show IntKind.i64.wrap ((IntKind.u64.wrap w).tmod (4 : Int)) + (1 : Int) ≤ (4 : Int) by omega)) (an h3 (an h2 (an h1 (an h0 tt)))))))))))))))))))))))) tt) ?_
            kernel_rfl
           ·
            rcases Bool.eq_false_or_eq_true (decide (Wd.plV (IntKind.i64.wrap ((4 : Int) * IntKind.i64.wrap ((15 : Int) + IntKind.i64.wrap ((1 : Int) + x % (1024 : Int))))) ≥ (16 : Int))) with h45 | h45
            ·
             refine vcIntro [false, false, true, true, true, false, false, true, true, true, true, false, false, false, false, true, true, true, true, false, false, false, true] (an (an h45 (an h44 (an h5 (an h43 (an h34 (an h42 (an h41 (an h40 (an h39 (an h38 (an h37 (an h36 (an h34 (an h35 (an h34 (an h33 (an h6 (an h5 (an h4 (an (show (IntKind.i64.wrap ((IntKind.u64.wrap w).tmod (4 : Int))).toNat.succ ≤ (0 : Nat) + ([(1 : Int), IntKind.i64.wrap ((4 : Int) * IntKind.i64.wrap ((262143 : Int) + IntKind.i64.wrap ((1 : Int) + x % (1024 : Int)))), (2 : Int)].length + (1 : Nat)) by (simp; omega)) (an (an (show (0 : Int) ≤ IntKind.i64.wrap ((IntKind.u64.wrap w).tmod (4 : Int)) by omega) (show IntKind.i64.wrap ((IntKind.u64.wrap w).tmod (4 : Int)) + (1 : Int) ≤ (4 : Int) by omega)) (an h3 (an h2 (an h1 (an h0 tt))))))))))))))))))))))))) tt) ?_
             kernel_rfl
            ·
             have h46 : (!(decide ((0 : Int) ≤ Wd.plV (0 : Int)) && decide (Wd.plV (0 : Int) < (1099511627776 : Int)))) = false := by decide +kernel
             refine vcIntro [false, false, true, true, true, false, false, true, true, true, true, false, false, false, false, true, true, true, true, false, false, false, false, false, false] (an (an h46 (an h46 (an h45 (an h44 (an h5 (an h43 (an h34 (an h42 (an h41 (an h40 (an h39 (an h38 (an h37 (an h36 (an h34 (an h35 (an h34 (an h33 (an h6 (an h5 (an h4 (an (show (IntKind.i64.wrap ((IntKind.u64.wrap w).tmod (4 : Int))).toNat.succ ≤ (0 : Nat) + ([(1 : Int), IntKind.i64.wrap ((4 : Int) * IntKind.i64.wrap ((262143 : Int) + IntKind.i64.wrap ((1 : Int) + x % (1024 : Int)))), (2 : Int)].length + (1 : Nat)) by (simp; omega)) (an (an (show (0 : Int) ≤ IntKind.i64.wrap ((IntKind.u64.wrap w).tmod (4 : Int)) by omega) (show IntKind.i64.wrap ((IntKind.u64.wrap w).tmod (4 : Int)) + (1 : Int) ≤ (4 : Int) by omega)) (an h3 (an h2 (an h1 (an h0 tt))))))))))))))))))))))))))) (show False by (simp (disch := omega) only [w1, wrapk] at *; simp at *; omega))) ?_
             kernel_rfl
          ·
           have h47 : (decide ((1 : Int) < Wd.plV (4 : Int))) = false := by decide +kernel
           refine vcIntro [false, false, true, true, true, false, false, true, true, true, true, false, false, false, false, true, true, false, false] (an (an h47 (an h42 (an h41 (an h40 (an h39 (an h38 (an h37 (an h36 (an h34 (an h35 (an h34 (an h33 (an h6 (an h5 (an h4 (an (show (IntKind.i64.wrap ((IntKind.u64.wrap w).tmod (4 : Int))).toNat.succ ≤ (0 : Nat) + ([(1 : Int), IntKind.i64.wrap ((4 : Int) * IntKind.i64.wrap ((262143 : Int) + IntKind.i64.wrap ((1 : Int) + x % (1024 : Int)))), (2 : Int)].length + (1 : Nat)) by (simp; omega)) (an (an (show (0 : Int) ≤ IntKind.i64.wrap ((IntKind.u64.wrap w).tmod (4 : Int)) by omega) (show IntKind.i64.wrap ((IntKind.u64.wrap w).tmod (4 : Int)) + (1 : Int) ≤ (4 : Int) by omega)) (an h3 (an h2 (an h1 (an h0 tt))))))))))))))))))))) tt) ?_
           kernel_rfl
         ·
          have h48 : (decide ((Wd.plV (0 : Int)).tmod (4 : Int) > (2 : Int))) = false := by decide +kernel
          have h49 : (decide (IntKind.i64.wrap ((Wd.plV (0 : Int)).tdiv (4 : Int)) > (65535 : Int))) = false := by decide +kernel
          rcases Bool.eq_false_or_eq_true (decide (Wd.plV (IntKind.i64.wrap ((4 : Int) * IntKind.i64.wrap ((16 : Int) + IntKind.i64.wrap ((1 : Int) + x % (1024 : Int))))) > (16 : Int))) with h50 | h50
          ·
           have h51 : (!Wd.isVal (4 : Int)) = false := by decide +kernel
           have h52 : (decide (Wd.plV (4 : Int) > (16 : Int))) = false := by decide +kernel
           have h53 : (decide ((0 : Int) < Wd.plV (4 : Int))) = true := by decide +kernel
           have h54 : (Wd.isVal (4 : Int)) = true := by decide +kernel
           rcases Bool.eq_false_or_eq_true (Wd.isVal (IntKind.i64.wrap ((4 : Int) * IntKind.i64.wrap ((15 : Int) + IntKind.i64.wrap ((1 : Int) + x % (1024 : Int)))))) with h55 | h55
           ·
            have h56 : (decide ((1 : Int) < Wd.plV (4 : Int))) = false := by decide +kernel
            rcases Bool.eq_false_or_eq_true (decide (Wd.plV (IntKind.i64.wrap ((4 : Int) * IntKind.i64.wrap ((15 : Int) + IntKind.i64.wrap ((1 : Int) + x % (1024 : Int))))) ≤ (-1 : Int))) with h57 | h57
            · exact ff (by (clear hw; simp only [ha, hb] at *; simp (disch := omega) only [Int.tdiv_eq_ediv_of_nonneg, Int.tmod_eq_emod_of_nonneg, wrapk] at *; simp at *; omega))
            ·
             rcases Bool.eq_false_or_eq_true (decide (Wd.plV (IntKind.i64.wrap ((4 : Int) * IntKind.i64.wrap ((15 : Int) + IntKind.i64.wrap ((1 : Int) + x % (1024 : Int))))) ≥ (16 : Int))) with h58 | h58
             ·
              refine vcIntro [false, false, true, true, true, false, false, true, true, false, false, false, true, true, false, false, false, false, true, true, true, true, false, false, false, true] (an (an h58 (an h57 (an h5 (an h56 (an h34 (an h55 (an h54 (an h53 (an h52 (an h49 (an h48 (an h51 (an h34 (an h50 (an h49 (an h48 (an h35 (an h34 (an h33 (an h6 (an h5 (an h4 (an (show (IntKind.i64.wrap ((IntKind.u64.wrap w).tmod (4 : Int))).toNat.succ ≤ (0 : Nat) + ([(1 : Int), IntKind.i64.wrap ((4 : Int) * IntKind.i64.wrap ((262143 : Int) + IntKind.i64.wrap ((1 : Int) + x % (1024 : Int)))), (2 : Int)].length + (1 : Nat)) by (simp; omega)) (an (an (show (0 : Int) ≤ IntKind.i64.wrap ((IntKind.u64.wrap w).tmod (4 : Int)) by omega) (show IntKind.i64.wrap ((IntKind.u64.wrap w).tmod (4 : Int)) + (1 : Int) ≤ (4 : Int) by omega)) (an h3 (an h2 (an h1 (an h0 tt)))))))))))))))))))))))))))) tt) ?_
              kernel_rfl
             · exact ff (by (clear hw; simp only [ha, hb] at *; simp (disch := omega) only [Int.tdiv_eq_ediv_of_nonneg, Int.tmod_eq_emod_of_nonneg, wrapk] at *; simp at *; omega))
           ·
            have h59 : (decide ((1 : Int) < Wd.plV (4 : Int))) = false := by decide +kernel
            refine vcIntro [false, false, true, true, true, false, false, true, true, false, false, false, true, true, false, false, false, false, true, true, false, false] (an (an h59 (an h55 (an h54 (an h53 (an h52 (an h49 (an h48 (an h51 (an h34 (an h50 (an h49 (an h48 (an h35 (an h34 (an h33 (an h6 (an h5 (an h4 (an (show (IntKind.i64.wrap ((IntKind.u64.wrap w).tmod (4 : Int))).toNat.succ ≤ (0 : Nat) + ([(1 : Int), IntKind.i64.wrap ((4 : Int) * IntKind.i64.wrap ((262143 : Int) + IntKind.i64.wrap ((1 : Int) + x % (1024 : Int)))), (2 : Int)].length + (1 : Nat)) by (simp; omega)) (an (an (show (0 : Int) ≤ IntKind.i64.wrap ((IntKind.u64.wrap w).tmod (4 : Int)) by omega) (show IntKind.i64.wrap ((IntKind.u64.wrap w).tmod (4 : Int)) + (1 : Int) ≤ (4 : Int) by omega)) (an h3 (an h2 (an h1 (an h0 tt)))))))))))))))))))))))) tt) ?_
            kernel_rfl
          · exact ff (by (clear hw; simp only [ha, hb] at *; simp (disch := omega) only [Int.tdiv_eq_ediv_of_nonneg, Int.tmod_eq_emod_of_nonneg, wrapk] at *; simp at *; omega))
        · exact ff (by (have hh9 := hw (by assumption); clear hw ha hb; generalize ([12, 1, IntKind.i64.wrap (4 * IntKind.i64.wrap (262143 + IntKind.i64.wrap (1 + x % 1024))), 2].getD (IntKind.i64.wrap ((IntKind.u64.wrap w).tmod 4)).toNat 0) = q at *; simp (disch := omega) only [Int.tdiv_eq_ediv_of_nonneg, Int.tmod_eq_emod_of_nonneg, wrapk] at *; simp at *; omega))
      ·
       have h60 : (Wd.isVal (0 : Int)) = true := by decide +kernel
       rcases Bool.eq_false_or_eq_true (!Wd.isVal (IntKind.i64.wrap ((4 : Int) * IntKind.i64.wrap ((16 : Int) + IntKind.i64.wrap ((1 : Int) + x % (1024 : Int)))))) with h61 | h61
       ·
        have h62 : (!Wd.isVal (4 : Int)) = false := by decide +kernel
        have h63 : (decide ((Wd.plV (0 : Int)).tmod (4 : Int) > (2 : Int))) = false := by decide +kernel
        have h64 : (decide (IntKind.i64.wrap ((Wd.plV (0 : Int)).tdiv (4 : Int)) > (65535 : Int))) = false := by decide +kernel
        have h65 : (decide (Wd.plV (4 : Int) > (16 : Int))) = false := by decide +kernel
        have h66 : (decide ((0 : Int) < Wd.plV (4 : Int))) = true := by decide +kernel
        have h67 : (Wd.isVal (4 : Int)) = true := by decide +kernel
        rcases Bool.eq_false_or_eq_true (Wd.isVal (IntKind.i64.wrap ((4 : Int) * IntKind.i64.wrap ((15 : Int) + IntKind.i64.wrap ((1 : Int) + x % (1024 : Int)))))) with h68 | h68
        ·
         have h69 : (decide ((1 : Int) < Wd.plV (4 : Int))) = false := by decide +kernel
         have h70 : (!Wd.isVal (0 : Int)) = false := by decide +kernel
         rcases Bool.eq_false_or_eq_true (decide (Wd.plV (IntKind.i64.wrap ((4 : Int) * IntKind.i64.wrap ((15 : Int) + IntKind.i64.wrap ((1 : Int) + x % (1024 : Int))))) ≤ (-1 : Int))) with h71 | h71
         ·
          refine vcIntro [false, false, true, true, false, true, true, true, false, false, false, false, true, true, true, true, false, false, true] (an (an h71 (an h70 (an h69 (an h60 (an h68 (an h67 (an h66 (an h65 (an h64 (an h63 (an h62 (an h60 (an h61 (an h60 (an h4 (an (show (IntKind.i64.wrap ((IntKind.u64.wrap w).tmod (4 : Int))).toNat.succ ≤ (0 : Nat) + ([(1 : Int), IntKind.i64.wrap ((4 : Int) * IntKind.i64.wrap ((262143 : Int) + IntKind.i64.wrap ((1 : Int) + x % (1024 : Int)))), (2 : Int)].length + (1 : Nat)) by (simp; omega)) (an (an (show (0 : Int) ≤ IntKind.i64.wrap ((IntKind.u64.wrap w).tmod (4 : Int)) by omega) (show IntKind.i64.wrap ((IntKind.u64.wrap w).tmod (4 : Int)) + (1 : Int) ≤ (4 : Int) by omega)) (an h3 (an h2 (an h1 (an h0 tt))))))))))))))))))))) tt) ?_
          kernel_rfl
         ·
          rcases Bool.eq_false_or_eq_true (decide (Wd.plV (IntKind.i64.wrap ((4 : Int) * IntKind.i64.wrap ((15 : Int) + IntKind.i64.wrap ((1 : Int) + x % (1024 : Int))))) ≥ (16 : Int))) with h72 | h72
          ·
           refine vcIntro [false, false, true, true, false, true, true, true, false, false, false, false, true, true, true, true, false, false, false, true] (an (an h72 (an h71 (an h70 (an h69 (an h60 (an h68 (an h67 (an h66 (an h65 (an h64 (an h63 (an h62 (an h60 (an h61 (an h60 (an h4 (an (show (IntKind.i64.wrap ((IntKind.u64.wrap w).tmod (4 : Int))).toNat.succ ≤ (0 : Nat) + ([(1 : Int), IntKind.i64.wrap ((4 : Int) * IntKind.i64.wrap ((262143 : Int) + IntKind.i64.wrap ((1 : Int) + x % (1024 : Int)))), (2 : Int)].length + (1 : Nat)) by (simp; omega)) (an (an (show (0 : Int) ≤ IntKind.i64.wrap ((IntKind.u64.wrap w).tmod (4 : Int)) by omega) (show IntKind.i64.wrap ((IntKind.u64.wrap w).tmod (4 : Int)) + (1 : Int) ≤ (4 : Int) by omega)) (an h3 (an h2 (an h1 (an h0 tt)))))))))))))))))))))) tt) ?_
           kernel_rfl
          ·
           have h73 : (!(decide ((0 : Int) ≤ Wd.plV (0 : Int)) && decide (Wd.plV (0 : Int) < (1099511627776 : Int)))) = false := by decide +kernel
           refine vcIntro [false, false, true, true, false, true, true, true, false, false, false, false, true, true, true, true, false, false, false, false, false, false] (an (an h73 (an h73 (an h72 (an h71 (an h70 (an h69 (an h60 (an h68 (an h67 (an h66 (an h65 (an h64 (an h63 (an h62 (an h60 (an h61 (an h60 (an h4 (an (show (IntKind.i64.wrap ((IntKind.u64.wrap w).tmod (4 : Int))).toNat.succ ≤ (0 : Nat) + ([(1 : Int), IntKind.i64.wrap ((4 : Int) * IntKind.i64.wrap ((262143 : Int) + IntKind.i64.wrap ((1 : Int) + x % (1024 : Int)))), (2 : Int)].length + (1 : Nat)) by (simp; omega)) (an (an (show (0 : Int) ≤ IntKind.i64.wrap ((IntKind.u64.wrap w).tmod (4 : Int)) by omega) (show IntKind.i64.wrap ((IntKind.u64.wrap w).tmod (4 : Int)) + (1 : Int) ≤ (4 : Int) by omega)) (an h3 (an h2 (an h1 (an h0 tt)))))))))))))))))))))))) (show False by (simp (disch := omega) only [w1, wrapk] at *; simp at *; omega))) ?_
           kernel_rfl
        ·
         have h74 : (decide ((1 : Int) < Wd.plV (4 : Int))) = false := by decide +kernel
         refine vcIntro [false, false, true, true, false, true, true, true, false, false, false, false, true, true, false, false] (an (an h74 (an h68 (an h67 (an h66 (an h65 (an h64 (an h63 (an h62 (an h60 (an h61 (an h60 (an h4 (an (show (IntKind.i64.wrap ((IntKind.u64.wrap w).tmod (4 : Int))).toNat.succ ≤ (0 : Nat) + ([(1 : Int), IntKind.i64.wrap ((4 : Int) * IntKind.i64.wrap ((262143 : Int) + IntKind.i64.wrap ((1 : Int) + x % (1024 : Int)))), (2 : Int)].length + (1 : Nat)) by (simp; omega)) (an (an (show (0 : Int) ≤ IntKind.i64.wrap ((IntKind.u64.wrap w).tmod (4 : Int)) by omega) (show IntKind.i64.wrap ((IntKind.u64.wrap w).tmod (4 : Int)) + (1 : Int) ≤ (4 : Int) by omega)) (an h3 (an h2 (an h1 (an h0 tt)))))))))))))))))) tt) ?_
         kernel_rfl
       ·
        have h75 : (decide ((Wd.plV (0 : Int)).tmod (4 : Int) > (2 : Int))) = false := by decide +kernel
        have h76 : (decide (IntKind.i64.wrap ((Wd.plV (0 : Int)).tdiv (4 : Int)) > (65535 : Int))) = false := by decide +kernel
        rcases Bool.eq_false_or_eq_true (decide (Wd.plV (IntKind.i64.wrap ((4 : Int) * IntKind.i64.wrap ((16 : Int) + IntKind.i64.wrap ((1 : Int) + x % (1024 : Int))))) > (16 : Int))) with h77 | h77
        ·
         have h78 : (!Wd.isVal (4 : Int)) = false := by decide +kernel
         have h79 : (decide (Wd.plV (4 : Int) > (16 : Int))) = false := by decide +kernel
         have h80 : (decide ((0 : Int) < Wd.plV (4 : Int))) = true := by decide +kernel
         have h81 : (Wd.isVal (4 : Int)) = true := by decide +kernel
         rcases Bool.eq_false_or_eq_true (Wd.isVal (IntKind.i64.wrap ((4 : Int) * IntKind.i64.wrap ((15 : Int) + IntKind.i64.wrap ((1 : Int) + x % (1024 : Int)))))) with h82 | h82
         ·
          have h83 : (decide ((1 : Int) < Wd.plV (4 : Int))) = false := by decide +kernel
          have h84 : (!Wd.isVal (0 : Int)) = false := by decide +kernel
          rcases Bool.eq_false_or_eq_true (decide (Wd.plV (IntKind.i64.wrap ((4 : Int) * IntKind.i64.wrap ((15 : Int) + IntKind.i64.wrap ((1 : Int) + x % (1024 : Int))))) ≤ (-1 : Int))) with h85 | h85
          · exact ff (by (clear hw; simp only [ha, hb] at *; simp (disch := omega) only [Int.tdiv_eq_ediv_of_nonneg, Int.tmod_eq_emod_of_nonneg, wrapk] at *; simp at *; omega))
          ·
           rcases Bool.eq_false_or_eq_true (decide (Wd.plV (IntKind.i64.wrap ((4 : Int) * IntKind.i64.wrap ((15 : Int) + IntKind.i64.wrap ((1 : Int) + x % (1024 : Int))))) ≥ (16 : Int))) with h86 | h86
           ·
            refine vcIntro [false, false, true, true, false, true, false, false, false, true, true, false, false, false, false, true, true, true, true, false, false, false, true] (an (an h86 (an h85 (an h84 (an h83 (an h60 (an h82 (an h81 (an h80 (an h79 (an h76 (an h75 (an h78 (an h60 (an h77 (an h76 (an h75 (an h61 (an h60 (an h4 (an (show (IntKind.i64.wrap ((IntKind.u64.wrap w).tmod (4 : Int))).toNat.succ ≤ (0 : Nat) + ([(1 : Int), IntKind.i64.wrap ((4 : Int) * IntKind.i64.wrap ((262143 : Int) + IntKind.i64.wrap ((1 : Int) + x % (1024 : Int)))), (2 : Int)].length + (1 : Nat)) by (simp; omega)) (an (an (show (0 : Int) ≤ IntKind.i64.wrap ((IntKind.u64.wrap w).tmod (4 : Int)) by omega) (show IntKind.i64.wrap ((IntKind.u64.wrap w).tmod (4 : Int)) + (1 : Int) ≤ (4 : Int) by omega)) (an h3 (an h2 (an h1 (an h0 tt))))))))))))))))))))))))) tt) ?_
            kernel_rfl
           · exact ff (by (clear hw; simp only [ha, hb] at *; simp (disch := omega) only [Int.tdiv_eq_ediv_of_nonneg, Int.tmod_eq_emod_of_nonneg, wrapk] at *; simp at *; omega))
         ·
          have h87 : (decide ((1 : Int) < Wd.plV (4 : Int))) = false := by decide +kernel
          refine vcIntro [false, false, true, true, false, true, false, false, false, true, true, false, false, false, false, true, true, false, false] (an (an h87 (an h82 (an h81 (an h80 (an h79 (an h76 (an h75 (an h78 (an h60 (an h77 (an h76 (an h75 (an h61 (an h60 (an h4 (an (show (IntKind.i64.wrap ((IntKind.u64.wrap w).tmod (4 : Int))).toNat.succ ≤ (0 : Nat) + ([(1 : Int), IntKind.i64.wrap ((4 : Int) * IntKind.i64.wrap ((262143 : Int) + IntKind.i64.wrap ((1 : Int) + x % (1024 : Int)))), (2 : Int)].length + (1 : Nat)) by (simp; omega)) (an (an (show (0 : Int) ≤ IntKind.i64.wrap ((IntKind.u64.wrap w).tmod (4 : Int)) by omega) (show IntKind.i64.wrap ((IntKind.u64.wrap w).tmod (4 : Int)) + (1 : Int) ≤ (4 : Int) by omega)) (an h3 (an h2 (an h1 (an h0 tt))))))))))))))))))))) tt) ?_
          kernel_rfl
        · exact ff (by (clear hw; simp only [ha, hb] at *; simp (disch := omega) only [Int.tdiv_eq_ediv_of_nonneg, Int.tmod_eq_emod_of_nonneg, wrapk] at *; simp at *; omega))
     · exact ff (by (clear hw; simp only [ha, hb] at *; simp (disch := omega) only [Int.tdiv_eq_ediv_of_nonneg, Int.tmod_eq_emod_of_nonneg, wrapk] at *; simp at *; omega))
    · exact ff (by (simp only [hq] at *; simp at *; done))
end Go.Ideal.D1
