/- Chapter 13: DescForms. Own text. -/
import Derived.Test.YtbcadmnkilckbaaD1b
namespace Go.Ideal.D1
open Go.Proofs Go.Ideal Go.Ideal.L1
set_option linter.unusedSimpArgs false
set_option linter.unusedVariables false
set_option maxRecDepth 100000
set_option maxHeartbeats 80000000

theorem forms_c0 (w x : Int) (hq : IntKind.i64.wrap ((IntKind.u64.wrap w).tmod 11) = 0 ∧ (IntKind.u64.wrap w).tmod 11 = 0) : ∃ hh, vcOf (runCall Try.prog specs noL 6000 3 [.int .i64 (.s w), .int .i64 (.s x)] H0 hh) (fun v _ => isT v) := by
  have hm4 := modU w 4 (by omega) (by omega)
  have hx : 0 ≤ x % 1024 ∧ x % 1024 < 1024 := by omega
  have hw := hW w x
  have ha := hA x
  have hb := hB x

  rcases Bool.eq_false_or_eq_true ((IntKind.u64.wrap w).tmod (11 : Int) == (0 : Int)) with h0 | h0
  ·
   rcases Bool.eq_false_or_eq_true (decide ((0 : Int) ≤ IntKind.i64.wrap ((11 : Int) + IntKind.i64.wrap ((1 : Int) + x % (1024 : Int)))) && decide (IntKind.i64.wrap ((11 : Int) + IntKind.i64.wrap ((1 : Int) + x % (1024 : Int))) < (12 : Int))) with h1 | h1
   · exact ff (by (clear hw; simp only [ha, hb] at *; simp (disch := omega) only [Int.tdiv_eq_ediv_of_nonneg, Int.tmod_eq_emod_of_nonneg, wrapk] at *; simp at *; omega))
   ·
    rcases Bool.eq_false_or_eq_true (Wd.isVal ([(12 : Int), (1 : Int), IntKind.i64.wrap ((4 : Int) * IntKind.i64.wrap ((262143 : Int) + IntKind.i64.wrap ((1 : Int) + x % (1024 : Int)))), (2 : Int)].getD (IntKind.i64.wrap ((IntKind.u64.wrap w).tmod (4 : Int))).toNat (0 : Int))) with h2 | h2
    ·
     have h3 : (!Wd.isVal (0 : Int)) = false := by decide +kernel
     rcases Bool.eq_false_or_eq_true (decide ((Wd.plV ([(12 : Int), (1 : Int), IntKind.i64.wrap ((4 : Int) * IntKind.i64.wrap ((262143 : Int) + IntKind.i64.wrap ((1 : Int) + x % (1024 : Int)))), (2 : Int)].getD (IntKind.i64.wrap ((IntKind.u64.wrap w).tmod (4 : Int))).toNat (0 : Int))).tmod (4 : Int) > (2 : Int))) with h4 | h4
     ·
      have h5 : (Wd.isVal (0 : Int)) = true := by decide +kernel
      rcases Bool.eq_false_or_eq_true (!Wd.isVal (IntKind.i64.wrap ((4 : Int) * IntKind.i64.wrap ((16 : Int) + IntKind.i64.wrap ((1 : Int) + x % (1024 : Int)))))) with h6 | h6
      ·
       have h7 : (!Wd.isVal (4 : Int)) = false := by decide +kernel
       have h8 : (decide ((Wd.plV (0 : Int)).tmod (4 : Int) > (2 : Int))) = false := by decide +kernel
       have h9 : (decide (IntKind.i64.wrap ((Wd.plV (0 : Int)).tdiv (4 : Int)) > (65535 : Int))) = false := by decide +kernel
       have h10 : (decide (Wd.plV (4 : Int) > (16 : Int))) = false := by decide +kernel
       have h11 : (decide ((0 : Int) < Wd.plV (4 : Int))) = true := by decide +kernel
       have h12 : (Wd.isVal (4 : Int)) = true := by decide +kernel
       rcases Bool.eq_false_or_eq_true (Wd.isVal (IntKind.i64.wrap ((4 : Int) * IntKind.i64.wrap ((15 : Int) + IntKind.i64.wrap ((1 : Int) + x % (1024 : Int)))))) with h13 | h13
       ·
        have h14 : (decide ((1 : Int) < Wd.plV (4 : Int))) = false := by decide +kernel
        rcases Bool.eq_false_or_eq_true (decide (Wd.plV (IntKind.i64.wrap ((4 : Int) * IntKind.i64.wrap ((15 : Int) + IntKind.i64.wrap ((1 : Int) + x % (1024 : Int))))) ≤ (-1 : Int))) with h15 | h15
        ·
         refine vcIntro [true, false, true, false, true, true, true, true, false, false, false, false, true, true, true, true, false, false, true] (an (an h15 (an h3 (an h14 (an h5 (an h13 (an h12 (an h11 (an h10 (an h9 (an h8 (an h7 (an h5 (an h6 (an h5 (an h4 (an h3 (an h2 (an (show (IntKind.i64.wrap ((IntKind.u64.wrap w).tmod (4 : Int))).toNat.succ ≤ (0 : Nat) + ([(1 : Int), IntKind.i64.wrap ((4 : Int) * IntKind.i64.wrap ((262143 : Int) + IntKind.i64.wrap ((1 : Int) + x % (1024 : Int)))), (2 : Int)].length + (1 : Nat)) by (simp; omega)) (an (an (show (0 : Int) ≤ IntKind.i64.wrap ((IntKind.u64.wrap w).tmod (4 : Int)) by omega) (show IntKind.i64.wrap ((IntKind.u64.wrap w).tmod (4 : Int)) + (1 : Int) ≤ (4 : Int) by omega)) (an h1 (an h0 tt))))))))))))))))))))) tt) ?_
         kernel_rfl
        ·
         rcases Bool.eq_false_or_eq_true (decide (Wd.plV (IntKind.i64.wrap ((4 : Int) * IntKind.i64.wrap ((15 : Int) + IntKind.i64.wrap ((1 : Int) + x % (1024 : Int))))) ≥ (16 : Int))) with h16 | h16
         ·
          refine vcIntro [true, false, true, false, true, true, true, true, false, false, false, false, true, true, true, true, false, false, false, true] (an (an h16 (an h15 (an h3 (an h14 (an h5 (an h13 (an h12 (an h11 (an h10 (an h9 (an h8 (an h7 (an h5 (an h6 (an h5 (an h4 (an h3 (an h2 (an (show (IntKind.i64.wrap ((IntKind.u64.wrap w).tmod (4 : Int))).toNat.succ ≤ (0 : Nat) + ([(1 : Int), IntKind.i64.wrap ((4 : Int) * IntKind.i64.wrap ((262143 : Int) + IntKind.i64.wrap ((1 : Int) + x % (1024 : Int)))), (2 : Int)].length + (1 : Nat)) by (simp; omega)) (an (an (show (0 : Int) ≤ IntKind.i64.wrap ((IntKind.u64.wrap w).tmod (4 : Int)) by omega) (show IntKind.i64.wrap ((IntKind.u64.wrap w).tmod (4 : Int)) + (1 : Int) ≤ (4 : Int) by omega)) (an h1 (an h0 tt)))))))))))))))))))))) tt) ?_
          kernel_rfl
         ·
          have h17 : (!(decide ((0 : Int) ≤ Wd.plV (0 : Int)) && decide (Wd.plV (0 : Int) < (1099511627776 : Int)))) = false := by decide +kernel
          refine vcIntro [true, false, true, false, true, true, true, true, false, false, false, false, true, true, true, true, false, false, false, false, false, false] (an (an h17 (an h17 (an h16 (an h15 (an h3 (an h14 (an h5 (an h13 (an h12 (an h11 (an h10 (an h9 (an h8 (an h7 (an h5 (an h6 (an h5 (an h4 (an h3 (an h2 (an (show (IntKind.i64.wrap ((IntKind.u64.wrap w).tmod (4 : Int))).toNat.succ ≤ (0 : Nat) + ([(1 : Int), IntKind.i64.wrap ((4 : Int) * IntKind.i64.wrap ((262143 : Int) + IntKind.i64.wrap ((1 : Int) + x % (1024 : Int)))), (2 : Int)].length + (1 : Nat)) by (simp; omega)) (an (an (show (0 : Int) ≤ IntKind.i64.wrap ((IntKind.u64.wrap w).tmod (4 : Int)) by omega) (show IntKind.i64.wrap ((IntKind.u64.wrap w).tmod (4 : Int)) + (1 : Int) ≤ (4 : Int) by omega)) (an h1 (an h0 tt)))))))))))))))))))))))) (show False by (simp (disch := omega) only [w1, wrapk] at *; simp at *; omega))) ?_
          kernel_rfl
       ·
        have h18 : (decide ((1 : Int) < Wd.plV (4 : Int))) = false := by decide +kernel
        refine vcIntro [true, false, true, false, true, true, true, true, false, false, false, false, true, true, false, false] (an (an h18 (an h13 (an h12 (an h11 (an h10 (an h9 (an h8 (an h7 (an h5 (an h6 (an h5 (an h4 (an h3 (an h2 (an (show (IntKind.i64.wrap ((IntKind.u64.wrap w).tmod (4 : Int))).toNat.succ ≤ (0 : Nat) + ([(1 : Int), IntKind.i64.wrap ((4 : Int) * IntKind.i64.wrap ((262143 : Int) + IntKind.i64.wrap ((1 : Int) + x % (1024 : Int)))), (2 : Int)].length + (1 : Nat)) by (simp; omega)) (an (an (show (0 : Int) ≤ IntKind.i64.wrap ((IntKind.u64.wrap w).tmod (4 : Int)) by omega) (show IntKind.i64.wrap ((IntKind.u64.wrap w).tmod (4 : Int)) + (1 : Int) ≤ (4 : Int) by omega)) (an h1 (an h0 tt)))))))))))))))))) tt) ?_
        kernel_rfl
      ·
       have h19 : (decide ((Wd.plV (0 : Int)).tmod (4 : Int) > (2 : Int))) = false := by decide +kernel
       have h20 : (decide (IntKind.i64.wrap ((Wd.plV (0 : Int)).tdiv (4 : Int)) > (65535 : Int))) = false := by decide +kernel
       rcases Bool.eq_false_or_eq_true (decide (Wd.plV (IntKind.i64.wrap ((4 : Int) * IntKind.i64.wrap ((16 : Int) + IntKind.i64.wrap ((1 : Int) + x % (1024 : Int))))) > (16 : Int))) with h21 | h21
       ·
        have h22 : (!Wd.isVal (4 : Int)) = false := by decide +kernel
        have h23 : (decide (Wd.plV (4 : Int) > (16 : Int))) = false := by decide +kernel
        have h24 : (decide ((0 : Int) < Wd.plV (4 : Int))) = true := by decide +kernel
        have h25 : (Wd.isVal (4 : Int)) = true := by decide +kernel
        rcases Bool.eq_false_or_eq_true (Wd.isVal (IntKind.i64.wrap ((4 : Int) * IntKind.i64.wrap ((15 : Int) + IntKind.i64.wrap ((1 : Int) + x % (1024 : Int)))))) with h26 | h26
        ·
         have h27 : (decide ((1 : Int) < Wd.plV (4 : Int))) = false := by decide +kernel
         rcases Bool.eq_false_or_eq_true (decide (Wd.plV (IntKind.i64.wrap ((4 : Int) * IntKind.i64.wrap ((15 : Int) + IntKind.i64.wrap ((1 : Int) + x % (1024 : Int))))) ≤ (-1 : Int))) with h28 | h28
         · exact ff (by (clear hw; simp only [ha, hb] at *; simp (disch := omega) only [Int.tdiv_eq_ediv_of_nonneg, Int.tmod_eq_emod_of_nonneg, wrapk] at *; simp at *; omega))
         ·
          rcases Bool.eq_false_or_eq_true (decide (Wd.plV (IntKind.i64.wrap ((4 : Int) * IntKind.i64.wrap ((15 : Int) + IntKind.i64.wrap ((1 : Int) + x % (1024 : Int))))) ≥ (16 : Int))) with h29 | h29
          ·
           refine vcIntro [true, false, true, false, true, true, false, false, false, true, true, false, false, false, false, true, true, true, true, false, false, false, true] (an (an h29 (an h28 (an h3 (an h27 (an h5 (an h26 (an h25 (an h24 (an h23 (an h20 (an h19 (an h22 (an h5 (an h21 (an h20 (an h19 (an h6 (an h5 (an h4 (an h3 (an h2 (an (show (IntKind.i64.wrap ((IntKind.u64.wrap w).tmod (4 : Int))).toNat.succ ≤ (0 : Nat) + ([(1 : Int), IntKind.i64.wrap ((4 : Int) * IntKind.i64.wrap ((262143 : Int) + IntKind.i64.wrap ((1 : Int) + x % (1024 : Int)))), (2 : Int)].length + (1 : Nat)) by (simp; omega)) (an (an (show (0 : Int) ≤ IntKind.i64.wrap ((IntKind.u64.wrap w).tmod (4 : Int)) by omega) (show IntKind.i64.wrap ((IntKind.u64.wrap w).tmod (4 : Int)) + (1 : Int) ≤ (4 : Int) by omega)) (an h1 (an h0 tt))))))))))))))))))))))))) tt) ?_
           kernel_rfl
          · exact ff (by (clear hw; simp only [ha, hb] at *; simp (disch := omega) only [Int.tdiv_eq_ediv_of_nonneg, Int.tmod_eq_emod_of_nonneg, wrapk] at *; simp at *; omega))
        ·
         have h30 : (decide ((1 : Int) < Wd.plV (4 : Int))) = false := by decide +kernel
         refine vcIntro [true, false, true, false, true, true, false, false, false, true, true, false, false, false, false, true, true, false, false] (an (an h30 (an h26 (an h25 (an h24 (an h23 (an h20 (an h19 (an h22 (an h5 (an h21 (an h20 (an h19 (an h6 (an h5 (an h4 (an h3 (an h2 (an (show (IntKind.i64.wrap ((IntKind.u64.wrap w).tmod (4 : Int))).toNat.succ ≤ (0 : Nat) + ([(1 : Int), IntKind.i64.wrap ((4 : Int) * IntKind.i64.wrap ((262143 : Int) + IntKind.i64.wrap ((1 : Int) + x % (1024 : Int)))), (2 : Int)].length + (1 : Nat)) by (simp; omega)) (an (an (show (0 : Int) ≤ IntKind.i64.wrap ((IntKind.u64.wrap w).tmod (4 : Int)) by omega) (show IntKind.i64.wrap ((IntKind.u64.wrap w).tmod (4 : Int)) + (1 : Int) ≤ (4 : Int) by omega)) (an h1 (an h0 tt))))))))))))))))))))) tt) ?_
         kernel_rfl
       · exact ff (by (clear hw; simp only [ha, hb] at *; simp (disch := omega) only [Int.tdiv_eq_ediv_of_nonneg, Int.tmod_eq_emod_of_nonneg, wrapk] at *; simp at *; omega))
     ·
      rcases Bool.eq_false_or_eq_true (decide (IntKind.i64.wrap ((Wd.plV ([(12 : Int), (1 : Int), IntKind.i64.wrap ((4 : Int) * IntKind.i64.wrap ((262143 : Int) + IntKind.i64.wrap ((1 : Int) + x % (1024 : Int)))), (2 : Int)].getD (IntKind.i64.wrap ((IntKind.u64.wrap w).tmod (4 : Int))).toNat (0 : Int))).tdiv (4 : Int)) > (65535 : Int))) with h31 | h31
      ·
       have h32 : (Wd.isVal (0 : Int)) = true := by decide +kernel
       rcases Bool.eq_false_or_eq_true (!Wd.isVal (IntKind.i64.wrap ((4 : Int) * IntKind.i64.wrap ((16 : Int) + IntKind.i64.wrap ((1 : Int) + x % (1024 : Int)))))) with h33 | h33
       ·
        have h34 : (!Wd.isVal (4 : Int)) = false := by decide +kernel
        have h35 : (decide ((Wd.plV (0 : Int)).tmod (4 : Int) > (2 : Int))) = false := by decide +kernel
        have h36 : (decide (IntKind.i64.wrap ((Wd.plV (0 : Int)).tdiv (4 : Int)) > (65535 : Int))) = false := by decide +kernel
        have h37 : (decide (Wd.plV (4 : Int) > (16 : Int))) = false := by decide +kernel
        have h38 : (decide ((0 : Int) < Wd.plV (4 : Int))) = true := by decide +kernel
        have h39 : (Wd.isVal (4 : Int)) = true := by decide +kernel
        rcases Bool.eq_false_or_eq_true (Wd.isVal (IntKind.i64.wrap ((4 : Int) * IntKind.i64.wrap ((15 : Int) + IntKind.i64.wrap ((1 : Int) + x % (1024 : Int)))))) with h40 | h40
        ·
         have h41 : (decide ((1 : Int) < Wd.plV (4 : Int))) = false := by decide +kernel
         rcases Bool.eq_false_or_eq_true (decide (Wd.plV (IntKind.i64.wrap ((4 : Int) * IntKind.i64.wrap ((15 : Int) + IntKind.i64.wrap ((1 : Int) + x % (1024 : Int))))) ≤ (-1 : Int))) with h42 | h42
         ·
          refine vcIntro [true, false, true, false, false, true, true, true, true, false, false, false, false, true, true, true, true, false, false, true] (an (an h42 (an h3 (an h41 (an h32 (an h40 (an h39 (an h38 (an h37 (an h36 (an h35 (an h34 (an h32 (an h33 (an h32 (an h31 (an h4 (an h3 (an h2 (an (show (IntKind.i64.wrap ((IntKind.u64.wrap w).tmod (4 : Int))).toNat.succ ≤ (0 : Nat) + ([(1 : Int), IntKind.i64.wrap ((4 : Int) * IntKind.i64.wrap ((262143 : Int) + IntKind.i64.wrap ((1 : Int) + x % (1024 : Int)))), (2 : Int)].length + (1 : Nat)) by (simp; omega)) (an (an (show (0 : Int) ≤ IntKind.i64.wrap ((IntKind.u64.wrap w).tmod (4 : Int)) by omega) (show IntKind.i64.wrap ((IntKind.u64.wrap w).tmod (4 : Int)) + (1 : Int) ≤ (4 : Int) by omega)) (an h1 (an h0 tt)))))))))))))))))))))) tt) ?_
          kernel_rfl
         ·
          rcases Bool.eq_false_or_eq_true (decide (Wd.plV (IntKind.i64.wrap ((4 : Int) * IntKind.i64.wrap ((15 : Int) + IntKind.i64.wrap ((1 : Int) + x % (1024 : Int))))) ≥ (16 : Int))) with h43 | h43
          ·
           refine vcIntro [true, false, true, false, false, true, true, true, true, false, false, false, false, true, true, true, true, false, false, false, true] (an (an h43 (an h42 (an h3 (an h41 (an h32 (an h40 (an h39 (an h38 (an h37 (an h36 (an h35 (an h34 (an h32 (an h33 (an h32 (an h31 (an h4 (an h3 (an h2 (an (show (IntKind.i64.wrap ((IntKind.u64.wrap w).tmod (4 : Int))).toNat.succ ≤ (0 : Nat) + ([(1 : Int), IntKind.i64.wrap ((4 : Int) * IntKind.i64.wrap ((262143 : Int) + IntKind.i64.wrap ((1 : Int) + x % (1024 : Int)))), (2 : Int)].length + (1 : Nat)) by (simp; omega)) (an (an (show (0 : Int) ≤ IntKind.i64.wrap ((IntKind.u64.wrap w).tmod (4 : Int)) by omega) (show IntKind.i64.wrap ((IntKind.u64.wrap w).tmod (4 : Int)) + (1 : Int) ≤ (4 : Int) by omega)) (an h1 (an h0 tt))))))))))))))))))))))) tt) ?_
           kernel_rfl
          ·
           have h44 : (!(decide ((0 : Int) ≤ Wd.plV (0 : Int)) && decide (Wd.plV (0 : Int) < (1099511627776 : Int)))) = false := by decide +kernel
           refine vcIntro [true, false, true, false, false, true, true, true, true, false, false, false, false, true, true, true, true, false, false, false, false, false, false] (an (an h44 (an h44 (an h43 (an h42 (an h3 (an h41 (an h32 (an h40 (an h39 (an h38 (an h37 (an h36 (an h35 (an h34 (an h32 (an h33 (an h32 (an h31 (an h4 (an h3 (an h2 (an (show (IntKind.i64.wrap ((IntKind.u64.wrap w).tmod (4 : Int))).toNat.succ ≤ (0 : Nat) + ([(1 : Int), IntKind.i64.wrap ((4 : Int) * IntKind.i64.wrap ((262143 : Int) + IntKind.i64.wrap ((1 : Int) + x % (1024 : Int)))), (2 : Int)].length + (1 : Nat)) by (simp; omega)) (an (an (show (0 : Int) ≤ IntKind.i64.wrap ((IntKind.u64.wrap w).tmod (4 : Int)) by omega) (show IntKind.i64.wrap ((IntKind.u64.wrap w).tmod (4 : Int)) + (1 : Int) ≤ (4 : Int) by omega)) (an h1 (an h0 tt))))))))))))))))))))))))) (show False by (simp (disch := omega) only [w1, wrapk] at *; simp at *; omega))) ?_
           kernel_rfl
        ·
         have h45 : (decide ((1 : Int) < Wd.plV (4 : Int))) = false := by decide +kernel
         refine vcIntro [true, false, true, false, false, true, true, true, true, false, false, false, false, true, true, false, false] (an (an h45 (an h40 (an h39 (an h38 (an h37 (an h36 (an h35 (an h34 (an h32 (an h33 (an h32 (an h31 (an h4 (an h3 (an h2 (an (show (IntKind.i64.wrap ((IntKind.u64.wrap w).tmod (4 : Int))).toNat.succ ≤ (0 : Nat) + ([(1 : Int), IntKind.i64.wrap ((4 : Int) * IntKind.i64.wrap ((262143 : Int) + IntKind.i64.wrap ((1 : Int) + x % (1024 : Int)))), (2 : Int)].length + (1 : Nat)) by (simp; omega)) (an (an (show (0 : Int) ≤ IntKind.i64.wrap ((IntKind.u64.wrap w).tmod (4 : Int)) by omega) (show IntKind.i64.wrap ((IntKind.u64.wrap w).tmod (4 : Int)) + (1 : Int) ≤ (4 : Int) by omega)) (an h1 (an h0 tt))))))))))))))))))) tt) ?_
         kernel_rfl
       ·
        have h46 : (decide ((Wd.plV (0 : Int)).tmod (4 : Int) > (2 : Int))) = false := by decide +kernel
        have h47 : (decide (IntKind.i64.wrap ((Wd.plV (0 : Int)).tdiv (4 : Int)) > (65535 : Int))) = false := by decide +kernel
        rcases Bool.eq_false_or_eq_true (decide (Wd.plV (IntKind.i64.wrap ((4 : Int) * IntKind.i64.wrap ((16 : Int) + IntKind.i64.wrap ((1 : Int) + x % (1024 : Int))))) > (16 : Int))) with h48 | h48
        ·
         have h49 : (!Wd.isVal (4 : Int)) = false := by decide +kernel
         have h50 : (decide (Wd.plV (4 : Int) > (16 : Int))) = false := by decide +kernel
         have h51 : (decide ((0 : Int) < Wd.plV (4 : Int))) = true := by decide +kernel
         have h52 : (Wd.isVal (4 : Int)) = true := by decide +kernel
         rcases Bool.eq_false_or_eq_true (Wd.isVal (IntKind.i64.wrap ((4 : Int) * IntKind.i64.wrap ((15 : Int) + IntKind.i64.wrap ((1 : Int) + x % (1024 : Int)))))) with h53 | h53
         ·
          have h54 : (decide ((1 : Int) < Wd.plV (4 : Int))) = false := by decide +kernel
          rcases Bool.eq_false_or_eq_true (decide (Wd.plV (IntKind.i64.wrap ((4 : Int) * IntKind.i64.wrap ((15 : Int) + IntKind.i64.wrap ((1 : Int) + x % (1024 : Int))))) ≤ (-1 : Int))) with h55 | h55
          · exact ff (by (clear hw; simp only [ha, hb] at *; simp (disch := omega) only [Int.tdiv_eq_ediv_of_nonneg, Int.tmod_eq_emod_of_nonneg, wrapk] at *; simp at *; omega))
          ·
           rcases Bool.eq_false_or_eq_true (decide (Wd.plV (IntKind.i64.wrap ((4 : Int) * IntKind.i64.wrap ((15 : Int) + IntKind.i64.wrap ((1 : Int) + x % (1024 : Int))))) ≥ (16 : Int))) with h56 | h56
           ·
            refine vcIntro [true, false, true, false, false, true, true, false, false, false, true, true, false, false, false, false, true, true, true, true, false, false, false, true] (an (an h56 (an h55 (an h3 (an h54 (an h32 (an h53 (an h52 (an h51 (an h50 (an h47 (an h46 (an h49 (an h32 (an h48 (an h47 (an h46 (an h33 (an h32 (an h31 (an h4 (an h3 (an h2 (an (show (IntKind.i64.wrap ((IntKind.u64.wrap w).tmod (4 : Int))).toNat.succ ≤ (0 : Nat) + ([(1 : Int), IntKind.i64.wrap ((4 : Int) * IntKind.i64.wrap ((262143 : Int) + IntKind.i64.wrap ((1 : Int) + x % (1024 : Int)))), (2 : Int)].length + (1 : Nat)) by (simp; omega)) (an (an (show (0 : Int) ≤ IntKind.i64.wrap ((IntKind.u64.wrap w).tmod (4 : Int)) by omega) (show IntKind.i64.wrap ((IntKind.u64.wrap w).tmod (4 : Int)) + (1 : Int) ≤ (4 : Int) by omega)) (an h1 (an h0 tt)))))))))))))))))))))))))) tt) ?_
            kernel_rfl
           · exact ff (by (clear hw; simp only [ha, hb] at *; simp (disch := omega) only [Int.tdiv_eq_ediv_of_nonneg, Int.tmod_eq_emod_of_nonneg, wrapk] at *; simp at *; omega))
         ·
          have h57 : (decide ((1 : Int) < Wd.plV (4 : Int))) = false := by decide +kernel
          refine vcIntro [true, false, true, false, false, true, true, false, false, false, true, true, false, false, false, false, true, true, false, false] (an (an h57 (an h53 (an h52 (an h51 (an h50 (an h47 (an h46 (an h49 (an h32 (an h48 (an h47 (an h46 (an h33 (an h32 (an h31 (an h4 (an h3 (an h2 (an (show (IntKind.i64.wrap ((IntKind.u64.wrap w).tmod (4 : Int))).toNat.succ ≤ (0 : Nat) + ([(1 : Int), IntKind.i64.wrap ((4 : Int) * IntKind.i64.wrap ((262143 : Int) + IntKind.i64.wrap ((1 : Int) + x % (1024 : Int)))), (2 : Int)].length + (1 : Nat)) by (simp; omega)) (an (an (show (0 : Int) ≤ IntKind.i64.wrap ((IntKind.u64.wrap w).tmod (4 : Int)) by omega) (show IntKind.i64.wrap ((IntKind.u64.wrap w).tmod (4 : Int)) + (1 : Int) ≤ (4 : Int) by omega)) (an h1 (an h0 tt)))))))))))))))))))))) tt) ?_
          kernel_rfl
        · exact ff (by (clear hw; simp only [ha, hb] at *; simp (disch := omega) only [Int.tdiv_eq_ediv_of_nonneg, Int.tmod_eq_emod_of_nonneg, wrapk] at *; simp at *; omega))
      · exact ff (by (have hh9 := hw (by assumption); clear hw ha hb; generalize ([12, 1, IntKind.i64.wrap (4 * IntKind.i64.wrap (262143 + IntKind.i64.wrap (1 + x % 1024))), 2].getD (IntKind.i64.wrap ((IntKind.u64.wrap w).tmod 4)).toNat 0) = q at *; simp (disch := omega) only [Int.tdiv_eq_ediv_of_nonneg, Int.tmod_eq_emod_of_nonneg, wrapk] at *; simp at *; omega))
    ·
     have h58 : (Wd.isVal (0 : Int)) = true := by decide +kernel
     rcases Bool.eq_false_or_eq_true (!Wd.isVal (IntKind.i64.wrap ((4 : Int) * IntKind.i64.wrap ((16 : Int) + IntKind.i64.wrap ((1 : Int) + x % (1024 : Int)))))) with h59 | h59
     ·
      have h60 : (!Wd.isVal (4 : Int)) = false := by decide +kernel
      have h61 : (decide ((Wd.plV (0 : Int)).tmod (4 : Int) > (2 : Int))) = false := by decide +kernel
      have h62 : (decide (IntKind.i64.wrap ((Wd.plV (0 : Int)).tdiv (4 : Int)) > (65535 : Int))) = false := by decide +kernel
      have h63 : (decide (Wd.plV (4 : Int) > (16 : Int))) = false := by decide +kernel
      have h64 : (decide ((0 : Int) < Wd.plV (4 : Int))) = true := by decide +kernel
      have h65 : (Wd.isVal (4 : Int)) = true := by decide +kernel
      rcases Bool.eq_false_or_eq_true (Wd.isVal (IntKind.i64.wrap ((4 : Int) * IntKind.i64.wrap ((15 : Int) + IntKind.i64.wrap ((1 : Int) + x % (1024 : Int)))))) with h66 | h66
      ·
       have h67 : (decide ((1 : Int) < Wd.plV (4 : Int))) = false := by decide +kernel
       have h68 : (!Wd.isVal (0 : Int)) = false := by decide +kernel
       rcases Bool.eq_false_or_eq_true (decide (Wd.plV (IntKind.i64.wrap ((4 : Int) * IntKind.i64.wrap ((15 : Int) + IntKind.i64.wrap ((1 : Int) + x % (1024 : Int))))) ≤ (-1 : Int))) with h69 | h69
       ·
        refine vcIntro [true, false, false, true, true, true, false, false, false, false, true, true, true, true, false, false, true] (an (an h69 (an h68 (an h67 (an h58 (an h66 (an h65 (an h64 (an h63 (an h62 (an h61 (an h60 (an h58 (an h59 (an h58 (an h2 (an (show (IntKind.i64.wrap ((IntKind.u64.wrap w).tmod (4 : Int))).toNat.succ ≤ (0 : Nat) + ([(1 : Int), IntKind.i64.wrap ((4 : Int) * IntKind.i64.wrap ((262143 : Int) + IntKind.i64.wrap ((1 : Int) + x % (1024 : Int)))), (2 : Int)].length + (1 : Nat)) by (simp; omega)) (an (an (show (0 : Int) ≤ IntKind.i64.wrap ((IntKind.u64.wrap w).tmod (4 : Int)) by omega) (show IntKind.i64.wrap ((IntKind.u64.wrap w).tmod (4 : Int)) + (1 : Int) ≤ (4 : Int) by omega)) (an h1 (an h0 tt))))))))))))))))))) tt) ?_
        kernel_rfl
       ·
        rcases Bool.eq_false_or_eq_true (decide (Wd.plV (IntKind.i64.wrap ((4 : Int) * IntKind.i64.wrap ((15 : Int) + IntKind.i64.wrap ((1 : Int) + x % (1024 : Int))))) ≥ (16 : Int))) with h70 | h70
        ·
         refine vcIntro [true, false, false, true, true, true, false, false, false, false, true, true, true, true, false, false, false, true] (an (an h70 (an h69 (an h68 (an h67 (an h58 (an h66 (an h65 (an h64 (an h63 (an h62 (an h61 (an h60 (an h58 (an h59 (an h58 (an h2 (an (show (IntKind.i64.wrap ((IntKind.u64.wrap w).tmod (4 : Int))).toNat.succ ≤ (0 : Nat) + ([(1 : Int), IntKind.i64.wrap ((4 : Int) * IntKind.i64.wrap ((262143 : Int) + IntKind.i64.wrap ((1 : Int) + x % (1024 : Int)))), (2 : Int)].length + (1 : Nat)) by (simp; omega)) (an (an (show (0 : Int) ≤ IntKind.i64.wrap ((IntKind.u64.wrap w).tmod (4 : Int)) by omega) (show IntKind.i64.wrap ((IntKind.u64.wrap w).tmod (4 : Int)) + (1 : Int) ≤ (4 : Int) by omega)) (an h1 (an h0 tt)))))))))))))))))))) tt) ?_
         kernel_rfl
        ·
         have h71 : (!(decide ((0 : Int) ≤ Wd.plV (0 : Int)) && decide (Wd.plV (0 : Int) < (1099511627776 : Int)))) = false := by decide +kernel
         refine vcIntro [true, false, false, true, true, true, false, false, false, false, true, true, true, true, false, false, false, false, false, false] (an (an h71 (an h71 (an h70 (an h69 (an h68 (an h67 (an h58 (an h66 (an h65 (an h64 (an h63 (an h62 (an h61 (an h60 (an h58 (an h59 (an h58 (an h2 (an (show (IntKind.i64.wrap ((IntKind.u64.wrap w).tmod (4 : Int))).toNat.succ ≤ (0 : Nat) + ([(1 : Int), IntKind.i64.wrap ((4 : Int) * IntKind.i64.wrap ((262143 : Int) + IntKind.i64.wrap ((1 : Int) + x % (1024 : Int)))), (2 : Int)].length + (1 : Nat)) by (simp; omega)) (an (an (show (0 : Int) ≤ IntKind.i64.wrap ((IntKind.u64.wrap w).tmod (4 : Int)) by omega) (show IntKind.i64.wrap ((IntKind.u64.wrap w).tmod (4 : Int)) + (1 : Int) ≤ (4 : Int) by omega)) (an h1 (an h0 tt)))))))))))))))))))))) (show False by (simp (disch := omega) only [w1, wrapk] at *; simp at *; omega))) ?_
         kernel_rfl
      ·
       have h72 : (decide ((1 : Int) < Wd.plV (4 : Int))) = false := by decide +kernel
       refine vcIntro [true, false, false, true, true, true, false, false, false, false, true, true, false, false] (an (an h72 (an h66 (an h65 (an h64 (an h63 (an h62 (an h61 (an h60 (an h58 (an h59 (an h58 (an h2 (an (show (IntKind.i64.wrap ((IntKind.u64.wrap w).tmod (4 : Int))).toNat.succ ≤ (0 : Nat) + ([(1 : Int), IntKind.i64.wrap ((4 : Int) * IntKind.i64.wrap ((262143 : Int) + IntKind.i64.wrap ((1 : Int) + x % (1024 : Int)))), (2 : Int)].length + (1 : Nat)) by (simp; omega)) (an (an (show (0 : Int) ≤ IntKind.i64.wrap ((IntKind.u64.wrap w).tmod (4 : Int)) by omega) (show IntKind.i64.wrap ((IntKind.u64.wrap w).tmod (4 : Int)) + (1 : Int) ≤ (4 : Int) by omega)) (an h1 (an h0 tt)))))))))))))))) tt) ?_
       kernel_rfl
     ·
      have h73 : (decide ((Wd.plV (0 : Int)).tmod (4 : Int) > (2 : Int))) = false := by decide +kernel
      have h74 : (decide (IntKind.i64.wrap ((Wd.plV (0 : Int)).tdiv (4 : Int)) > (65535 : Int))) = false := by decide +kernel
      rcases Bool.eq_false_or_eq_true (decide (Wd.plV (IntKind.i64.wrap ((4 : Int) * IntKind.i64.wrap ((16 : Int) + IntKind.i64.wrap ((1 : Int) + x % (1024 : Int))))) > (16 : Int))) with h75 | h75
      ·
       have h76 : (!Wd.isVal (4 : Int)) = false := by decide +kernel
       have h77 : (decide (Wd.plV (4 : Int) > (16 : Int))) = false := by decide +kernel
       have h78 : (decide ((0 : Int) < Wd.plV (4 : Int))) = true := by decide +kernel
       have h79 : (Wd.isVal (4 : Int)) = true := by decide +kernel
       rcases Bool.eq_false_or_eq_true (Wd.isVal (IntKind.i64.wrap ((4 : Int) * IntKind.i64.wrap ((15 : Int) + IntKind.i64.wrap ((1 : Int) + x % (1024 : Int)))))) with h80 | h80
       ·
        have h81 : (decide ((1 : Int) < Wd.plV (4 : Int))) = false := by decide +kernel
        have h82 : (!Wd.isVal (0 : Int)) = false := by decide +kernel
        rcases Bool.eq_false_or_eq_true (decide (Wd.plV (IntKind.i64.wrap ((4 : Int) * IntKind.i64.wrap ((15 : Int) + IntKind.i64.wrap ((1 : Int) + x % (1024 : Int))))) ≤ (-1 : Int))) with h83 | h83
        · exact ff (by (clear hw; simp only [ha, hb] at *; simp (disch := omega) only [Int.tdiv_eq_ediv_of_nonneg, Int.tmod_eq_emod_of_nonneg, wrapk] at *; simp at *; omega))
        ·
         rcases Bool.eq_false_or_eq_true (decide (Wd.plV (IntKind.i64.wrap ((4 : Int) * IntKind.i64.wrap ((15 : Int) + IntKind.i64.wrap ((1 : Int) + x % (1024 : Int))))) ≥ (16 : Int))) with h84 | h84
         ·
          refine vcIntro [true, false, false, true, false, false, false, true, true, false, false, false, false, true, true, true, true, false, false, false, true] (an (an h84 (an h83 (an h82 (an h81 (an h58 (an h80 (an h79 (an h78 (an h77 (an h74 (an h73 (an h76 (an h58 (an h75 (an h74 (an h73 (an h59 (an h58 (an h2 (an (show (IntKind.i64.wrap ((IntKind.u64.wrap w).tmod (4 : Int))).toNat.succ ≤ (0 : Nat) + ([(1 : Int), IntKind.i64.wrap ((4 : Int) * IntKind.i64.wrap ((262143 : Int) + IntKind.i64.wrap ((1 : Int) + x % (1024 : Int)))), (2 : Int)].length + (1 : Nat)) by (simp; omega)) (an (an (show (0 : Int) ≤ IntKind.i64.wrap ((IntKind.u64.wrap w).tmod (4 : Int)) by omega) (show IntKind.i64.wrap ((IntKind.u64.wrap w).tmod (4 : Int)) + (1 : Int) ≤ (4 : Int) by omega)) (an h1 (an h0 tt))))))))))))))))))))))) tt) ?_
          kernel_rfl
         · exact ff (by (clear hw; simp only [ha, hb] at *; simp (disch := omega) only [Int.tdiv_eq_ediv_of_nonneg, Int.tmod_eq_emod_of_nonneg, wrapk] at *; simp at *; omega))
       ·
        have h85 : (decide ((1 : Int) < Wd.plV (4 : Int))) = false := by decide +kernel
        refine vcIntro [true, false, false, true, false, false, false, true, true, false, false, false, false, true, true, false, false] (an (an h85 (an h80 (an h79 (an h78 (an h77 (an h74 (an h73 (an h76 (an h58 (an h75 (an h74 (an h73 (an h59 (an h58 (an h2 (an (show (IntKind.i64.wrap ((IntKind.u64.wrap w).tmod (4 : Int))).toNat.succ ≤ (0 : Nat) + ([(1 : Int), IntKind.i64.wrap ((4 : Int) * IntKind.i64.wrap ((262143 : Int) + IntKind.i64.wrap ((1 : Int) + x % (1024 : Int)))), (2 : Int)].length + (1 : Nat)) by (simp; omega)) (an (an (show (0 : Int) ≤ IntKind.i64.wrap ((IntKind.u64.wrap w).tmod (4 : Int)) by omega) (show IntKind.i64.wrap ((IntKind.u64.wrap w).tmod (4 : Int)) + (1 : Int) ≤ (4 : Int) by omega)) (an h1 (an h0 tt))))))))))))))))))) tt) ?_
        kernel_rfl
      · exact ff (by (clear hw; simp only [ha, hb] at *; simp (disch := omega) only [Int.tdiv_eq_ediv_of_nonneg, Int.tmod_eq_emod_of_nonneg, wrapk] at *; simp at *; omega))
  · exact ff (by (simp only [hq] at *; simp at *; done))
end Go.Ideal.D1
