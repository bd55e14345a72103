/- Chapter 13: DescForms. Own text. -/
import Derived.Test.YtbcadmnkilckbaaD1b
namespace Go.Ideal.D1
open Go.Proofs Go.Ideal Go.Ideal.L1
set_option linter.unusedSimpArgs false
set_option linter.unusedVariables false
set_option maxRecDepth 100000
set_option maxHeartbeats 80000000

theorem forms_c3 (w x : Int) (hq : IntKind.i64.wrap ((IntKind.u64.wrap w).tmod 11) = 3 ∧ (IntKind.u64.wrap w).tmod 11 = 3) : ∃ hh, vcOf (runCall Try.prog specs noL 6000 3 [.int .i64 (.s w), .int .i64 (.s x)] H0 hh) (fun v _ => isT v) := by
  have hm4 := modU w 4 (by omega) (by omega)
  have hx : 0 ≤ x % 1024 ∧ x % 1024 < 1024 := by omega
  have hw := hW w x
  have ha := hA x
  have hb := hB x

  rcases Bool.eq_false_or_eq_true ((IntKind.u64.wrap w).tmod (11 : Int) == (0 : Int)) with h0 | h0
  · exact ff (by (simp only [hq] at *; simp at *; done))
  ·
   rcases Bool.eq_false_or_eq_true ((IntKind.u64.wrap w).tmod (11 : Int) == (1 : Int)) with h1 | h1
   · exact ff (by (simp only [hq] at *; simp at *; done))
   ·
    rcases Bool.eq_false_or_eq_true ((IntKind.u64.wrap w).tmod (11 : Int) == (2 : Int)) with h2 | h2
    · exact ff (by (simp only [hq] at *; simp at *; done))
    ·
     rcases Bool.eq_false_or_eq_true ((IntKind.u64.wrap w).tmod (11 : Int) == (3 : Int)) with h3 | h3
     ·
      rcases Bool.eq_false_or_eq_true (!(decide ((0 : Int) ≤ IntKind.i64.wrap ((0 : Int) - IntKind.i64.wrap ((1 : Int) + x % (1024 : Int)))) && decide (IntKind.i64.wrap ((0 : Int) - IntKind.i64.wrap ((1 : Int) + x % (1024 : Int))) < (65536 : Int)))) with h4 | h4
      ·
       rcases Bool.eq_false_or_eq_true (Wd.isVal ([(12 : Int), (1 : Int), IntKind.i64.wrap ((4 : Int) * IntKind.i64.wrap ((262143 : Int) + IntKind.i64.wrap ((1 : Int) + x % (1024 : Int)))), (2 : Int)].getD (IntKind.i64.wrap ((IntKind.u64.wrap w).tmod (4 : Int))).toNat (0 : Int))) with h5 | h5
       ·
        have h6 : (!Wd.isVal (0 : Int)) = false := by decide +kernel
        rcases Bool.eq_false_or_eq_true (decide ((Wd.plV ([(12 : Int), (1 : Int), IntKind.i64.wrap ((4 : Int) * IntKind.i64.wrap ((262143 : Int) + IntKind.i64.wrap ((1 : Int) + x % (1024 : Int)))), (2 : Int)].getD (IntKind.i64.wrap ((IntKind.u64.wrap w).tmod (4 : Int))).toNat (0 : Int))).tmod (4 : Int) > (2 : Int))) with h7 | h7
        ·
         have h8 : (Wd.isVal (0 : Int)) = true := by decide +kernel
         rcases Bool.eq_false_or_eq_true (!Wd.isVal (IntKind.i64.wrap ((4 : Int) * IntKind.i64.wrap ((16 : Int) + IntKind.i64.wrap ((1 : Int) + x % (1024 : Int)))))) with h9 | h9
         ·
          have h10 : (!Wd.isVal (4 : Int)) = false := by decide +kernel
          have h11 : (decide ((Wd.plV (0 : Int)).tmod (4 : Int) > (2 : Int))) = false := by decide +kernel
          have h12 : (decide (IntKind.i64.wrap ((Wd.plV (0 : Int)).tdiv (4 : Int)) > (65535 : Int))) = false := by decide +kernel
          have h13 : (decide (Wd.plV (4 : Int) > (16 : Int))) = false := by decide +kernel
          have h14 : (decide ((0 : Int) < Wd.plV (4 : Int))) = true := by decide +kernel
          have h15 : (Wd.isVal (4 : Int)) = true := by decide +kernel
          rcases Bool.eq_false_or_eq_true (Wd.isVal (IntKind.i64.wrap ((4 : Int) * IntKind.i64.wrap ((15 : Int) + IntKind.i64.wrap ((1 : Int) + x % (1024 : Int)))))) with h16 | h16
          ·
           have h17 : (decide ((1 : Int) < Wd.plV (4 : Int))) = false := by decide +kernel
           rcases Bool.eq_false_or_eq_true (decide (Wd.plV (IntKind.i64.wrap ((4 : Int) * IntKind.i64.wrap ((15 : Int) + IntKind.i64.wrap ((1 : Int) + x % (1024 : Int))))) ≤ (-1 : Int))) with h18 | h18
           ·
            refine vcIntro [false, false, false, true, true, true, false, true, true, true, true, false, false, false, false, true, true, true, true, false, false, true] (an (an h18 (an h6 (an h17 (an h8 (an h16 (an h15 (an h14 (an h13 (an h12 (an h11 (an h10 (an h8 (an h9 (an h8 (an h7 (an h6 (an h5 (an (show (IntKind.i64.wrap ((IntKind.u64.wrap w).tmod (4 : Int))).toNat.succ ≤ (0 : Nat) + ([(1 : Int), IntKind.i64.wrap ((4 : Int) * IntKind.i64.wrap ((262143 : Int) + IntKind.i64.wrap ((1 : Int) + x % (1024 : Int)))), (2 : Int)].length + (1 : Nat)) by (simp; omega)) (an (an (show (0 : Int) ≤ IntKind.i64.wrap ((IntKind.u64.wrap w).tmod (4 : Int)) by omega) (show IntKind.i64.wrap ((IntKind.u64.wrap w).tmod (4 : Int)) + (1 : Int) ≤ (4 : Int) by omega)) (an h4 (an h3 (an h2 (an h1 (an h0 tt)))))))))))))))))))))))) tt) ?_
            kernel_rfl
           ·
            rcases Bool.eq_false_or_eq_true (decide (Wd.plV (IntKind.i64.wrap ((4 : Int) * IntKind.i64.wrap ((15 : Int) + IntKind.i64.wrap ((1 : Int) + x % (1024 : Int))))) ≥ (16 : Int))) with h19 | h19
            ·
             refine vcIntro [false, false, false, true, true, true, false, true, true, true, true, false, false, false, false, true, true, true, true, false, false, false, true] (an (an h19 (an h18 (an h6 (an h17 (an h8 (an h16 (an h15 (an h14 (an h13 (an h12 (an h11 (an h10 (an h8 (an h9 (an h8 (an h7 (an h6 (an h5 (an (show (IntKind.i64.wrap ((IntKind.u64.wrap w).tmod (4 : Int))).toNat.succ ≤ (0 : Nat) + ([(1 : Int), IntKind.i64.wrap ((4 : Int) * IntKind.i64.wrap ((262143 : Int) + IntKind.i64.wrap ((1 : Int) + x % (1024 : Int)))), (2 : Int)].length + (1 : Nat)) by (simp; omega)) (an (an (show (0 : Int) ≤ IntKind.i64.wrap ((IntKind.u64.wrap w).tmod (4 : Int)) by omega) (show IntKind.i64.wrap ((IntKind.u64.wrap w).tmod (4 : Int)) + (1 : Int) ≤ (4 : Int) by omega)) (an h4 (an h3 (an h2 (an h1 (an h0 tt))))))))))))))))))))))))) tt) ?_
             kernel_rfl
            ·
             have h20 : (!(decide ((0 : Int) ≤ Wd.plV (0 : Int)) && decide (Wd.plV (0 : Int) < (1099511627776 : Int)))) = false := by decide +kernel
             refine vcIntro [false, false, false, true, true, true, false, true, true, true, true, false, false, false, false, true, true, true, true, false, false, false, false, false, false] (an (an h20 (an h20 (an h19 (an h18 (an h6 (an h17 (an h8 (an h16 (an h15 (an h14 (an h13 (an h12 (an h11 (an h10 (an h8 (an h9 (an h8 (an h7 (an h6 (an h5 (an (show (IntKind.i64.wrap ((IntKind.u64.wrap w).tmod (4 : Int))).toNat.succ ≤ (0 : Nat) + ([(1 : Int), IntKind.i64.wrap ((4 : Int) * IntKind.i64.wrap ((262143 : Int) + IntKind.i64.wrap ((1 : Int) + x % (1024 : Int)))), (2 : Int)].length + (1 : Nat)) by (simp; omega)) (an (an (show (0 : Int) ≤ IntKind.i64.wrap ((IntKind.u64.wrap w).tmod (4 : Int)) by omega) (show IntKind.i64.wrap ((IntKind.u64.wrap w).tmod (4 : Int)) + (1 : Int) ≤ (4 : Int) by omega)) (an h4 (an h3 (an h2 (an h1 (an h0 tt))))))))))))))))))))))))))) (show False by (simp (disch := omega) only [w1, wrapk] at *; simp at *; omega))) ?_
             kernel_rfl
          ·
           have h21 : (decide ((1 : Int) < Wd.plV (4 : Int))) = false := by decide +kernel
           refine vcIntro [false, false, false, true, true, true, false, true, true, true, true, false, false, false, false, true, true, false, false] (an (an h21 (an h16 (an h15 (an h14 (an h13 (an h12 (an h11 (an h10 (an h8 (an h9 (an h8 (an h7 (an h6 (an h5 (an (show (IntKind.i64.wrap ((IntKind.u64.wrap w).tmod (4 : Int))).toNat.succ ≤ (0 : Nat) + ([(1 : Int), IntKind.i64.wrap ((4 : Int) * IntKind.i64.wrap ((262143 : Int) + IntKind.i64.wrap ((1 : Int) + x % (1024 : Int)))), (2 : Int)].length + (1 : Nat)) by (simp; omega)) (an (an (show (0 : Int) ≤ IntKind.i64.wrap ((IntKind.u64.wrap w).tmod (4 : Int)) by omega) (show IntKind.i64.wrap ((IntKind.u64.wrap w).tmod (4 : Int)) + (1 : Int) ≤ (4 : Int) by omega)) (an h4 (an h3 (an h2 (an h1 (an h0 tt))))))))))))))))))))) tt) ?_
           kernel_rfl
         ·
          have h22 : (decide ((Wd.plV (0 : Int)).tmod (4 : Int) > (2 : Int))) = false := by decide +kernel
          have h23 : (decide (IntKind.i64.wrap ((Wd.plV (0 : Int)).tdiv (4 : Int)) > (65535 : Int))) = false := by decide +kernel
          rcases Bool.eq_false_or_eq_true (decide (Wd.plV (IntKind.i64.wrap ((4 : Int) * IntKind.i64.wrap ((16 : Int) + IntKind.i64.wrap ((1 : Int) + x % (1024 : Int))))) > (16 : Int))) with h24 | h24
          ·
           have h25 : (!Wd.isVal (4 : Int)) = false := by decide +kernel
           have h26 : (decide (Wd.plV (4 : Int) > (16 : Int))) = false := by decide +kernel
           have h27 : (decide ((0 : Int) < Wd.plV (4 : Int))) = true := by decide +kernel
           have h28 : (Wd.isVal (4 : Int)) = true := by decide +kernel
           rcases Bool.eq_false_or_eq_true (Wd.isVal (IntKind.i64.wrap ((4 : Int) * IntKind.i64.wrap ((15 : Int) + IntKind.i64.wrap ((1 : Int) + x % (1024 : Int)))))) with h29 | h29
           ·
            have h30 : (decide ((1 : Int) < Wd.plV (4 : Int))) = false := by decide +kernel
            rcases Bool.eq_false_or_eq_true (decide (Wd.plV (IntKind.i64.wrap ((4 : Int) * IntKind.i64.wrap ((15 : Int) + IntKind.i64.wrap ((1 : Int) + x % (1024 : Int))))) ≤ (-1 : Int))) with h31 | h31
            · exact ff (by (clear hw; simp only [ha, hb] at *; simp (disch := omega) only [Int.tdiv_eq_ediv_of_nonneg, Int.tmod_eq_emod_of_nonneg, wrapk] at *; simp at *; omega))
            ·
             rcases Bool.eq_false_or_eq_true (decide (Wd.plV (IntKind.i64.wrap ((4 : Int) * IntKind.i64.wrap ((15 : Int) + IntKind.i64.wrap ((1 : Int) + x % (1024 : Int))))) ≥ (16 : Int))) with h32 | h32
             ·
              refine vcIntro [false, false, false, true, true, true, false, true, true, false, false, false, true, true, false, false, false, false, true, true, true, true, false, false, false, true] (an (an h32 (an h31 (an h6 (an h30 (an h8 (an h29 (an h28 (an h27 (an h26 (an h23 (an h22 (an h25 (an h8 (an h24 (an h23 (an h22 (an h9 (an h8 (an h7 (an h6 (an h5 (an (show (IntKind.i64.wrap ((IntKind.u64.wrap w).tmod (4 : Int))).toNat.succ ≤ (0 : Nat) + ([(1 : Int), IntKind.i64.wrap ((4 : Int) * IntKind.i64.wrap ((262143 : Int) + IntKind.i64.wrap ((1 : Int) + x % (1024 : Int)))), (2 : Int)].length + (1 : Nat)) by (simp; omega)) (an (an (show (0 : Int) ≤ IntKind.i64.wrap ((IntKind.u64.wrap w).tmod (4 : Int)) by omega) (show IntKind.i64.wrap ((IntKind.u64.wrap w).tmod (4 : Int)) + (1 : Int) ≤ (4 : Int) by omega)) (an h4 (an h3 (an h2 (an h1 (an h0 tt)))))))))))))))))))))))))))) tt) ?_
              kernel_rfl
             · exact ff (by (clear hw; simp only [ha, hb] at *; simp (disch := omega) only [Int.tdiv_eq_ediv_of_nonneg, Int.tmod_eq_emod_of_nonneg, wrapk] at *; simp at *; omega))
           ·
            have h33 : (decide ((1 : Int) < Wd.plV (4 : Int))) = false := by decide +kernel
            refine vcIntro [false, false, false, true, true, true, false, true, true, false, false, false, true, true, false, false, false, false, true, true, false, false] (an (an h33 (an h29 (an h28 (an h27 (an h26 (an h23 (an h22 (an h25 (an h8 (an h24 (an h23 (an h22 (an h9 (an h8 (an h7 (an h6 (an h5 (an (show (IntKind.i64.wrap ((IntKind.u64.wrap w).tmod (4 : Int))).toNat.succ ≤ (0 : Nat) + ([(1 : Int), IntKind.i64.wrap ((4 : Int) * IntKind.i64.wrap ((262143 : Int) + IntKind.i64.wrap ((1 : Int) + x % (1024 : Int)))), (2 : Int)].length + (1 : Nat)) by (simp; omega)) (an (an (show (0 : Int) ≤ IntKind.i64.wrap ((IntKind.u64.wrap w).tmod (4 : Int)) by omega) (show IntKind.i64.wrap ((IntKind.u64.wrap w).tmod (4 : Int)) + (1 : Int) ≤ (4 : Int) by omega)) (an h4 (an h3 (an h2 (an h1 (an h0 tt)))))))))))))))))))))))) tt) ?_
            kernel_rfl
          · exact ff (by (clear hw; simp only [ha, hb] at *; simp (disch := omega) only [Int.tdiv_eq_ediv_of_nonneg, Int.tmod_eq_emod_of_nonneg, wrapk] at *; simp at *; omega))
        ·
         rcases Bool.eq_false_or_eq_true (decide (IntKind.i64.wrap ((Wd.plV ([(12 : Int), (1 : Int), IntKind.i64.wrap ((4 : Int) * IntKind.i64.wrap ((262143 : Int) + IntKind.i64.wrap ((1 : Int) + x % (1024 : Int)))), (2 : Int)].getD (IntKind.i64.wrap ((IntKind.u64.wrap w).tmod (4 : Int))).toNat (0 : Int))).tdiv (4 : Int)) > (65535 : Int))) with h34 | h34
         ·
          have h35 : (Wd.isVal (0 : Int)) = true := by decide +kernel
          rcases Bool.eq_false_or_eq_true (!Wd.isVal (IntKind.i64.wrap ((4 : Int) * IntKind.i64.wrap ((16 : Int) + IntKind.i64.wrap ((1 : Int) + x % (1024 : Int)))))) with h36 | h36
          ·
           have h37 : (!Wd.isVal (4 : Int)) = false := by decide +kernel
           have h38 : (decide ((Wd.plV (0 : Int)).tmod (4 : Int) > (2 : Int))) = false := by decide +kernel
           have h39 : (decide (IntKind.i64.wrap ((Wd.plV (0 : Int)).tdiv (4 : Int)) > (65535 : Int))) = false := by decide +kernel
           have h40 : (decide (Wd.plV (4 : Int) > (16 : Int))) = false := by decide +kernel
           have h41 : (decide ((0 : Int) < Wd.plV (4 : Int))) = true := by decide +kernel
           have h42 : (Wd.isVal (4 : Int)) = true := by decide +kernel
           rcases Bool.eq_false_or_eq_true (Wd.isVal (IntKind.i64.wrap ((4 : Int) * IntKind.i64.wrap ((15 : Int) + IntKind.i64.wrap ((1 : Int) + x % (1024 : Int)))))) with h43 | h43
           ·
            have h44 : (decide ((1 : Int) < Wd.plV (4 : Int))) = false := by decide +kernel
            rcases Bool.eq_false_or_eq_true (decide (Wd.plV (IntKind.i64.wrap ((4 : Int) * IntKind.i64.wrap ((15 : Int) + IntKind.i64.wrap ((1 : Int) + x % (1024 : Int))))) ≤ (-1 : Int))) with h45 | h45
            ·
             refine vcIntro [false, false, false, true, true, true, false, false, true, true, true, true, false, false, false, false, true, true, true, true, false, false, true] (an (an h45 (an h6 (an h44 (an h35 (an h43 (an h42 (an h41 (an h40 (an h39 (an h38 (an h37 (an h35 (an h36 (an h35 (an h34 (an h7 (an h6 (an h5 (an (show (IntKind.i64.wrap ((IntKind.u64.wrap w).tmod (4 : Int))).toNat.succ ≤ (0 : Nat) + ([(1 : Int), IntKind.i64.wrap ((4 : Int) * IntKind.i64.wrap ((262143 : Int) + IntKind.i64.wrap ((1 : Int) + x % (1024 : Int)))), (2 : Int)].length + (1 : Nat)) by (simp; omega)) (an (an (show (0 : Int) ≤ IntKind.i64.wrap ((IntKind.u64.wrap w).tmod (4 : Int)) by omega) (show IntKind.i64.wrap ((IntKind.u64.wrap w).tmod (4 : Int)) + (1 : Int) ≤ (4 : Int) by omega)) (an h4 (an h3 (an h2 (an h1 (an h0 tt))))))))))))))))))))))))) tt) ?_
             kernel_rfl
            ·
             rcases Bool.eq_false_or_eq_true (decide (Wd.plV (IntKind.i64.wrap ((4 : Int) * IntKind.i64.wrap ((15 : Int) + IntKind.i64.wrap ((1 : Int) + x % (1024 : Int))))) ≥ (16 : Int))) with h46 | h46
             ·
              refine vcIntro [false, false, false, true, true, true, false, false, true, true, true, true, false, false, false, false, true, true, true, true, false, false, false, true] (an (an h46 (an h45 (an h6 (an h44 (an h35 (an h43 (an h42 (an h41 (an h40 (an h39 (an h38 (an h37 (an h35 (an h36 (an h35 (an h34 (an h7 (an h6 (an h5 (an (show (IntKind.i64.wrap ((IntKind.u64.wrap w).tmod (4 : Int))).toNat.succ ≤ (0 : Nat) + ([(1 : Int), IntKind.i64.wrap ((4 : Int) * IntKind.i64.wrap ((262143 : Int) + IntKind.i64.wrap ((1 : Int) + x % (1024 : Int)))), (2 : Int)].length + (1 : Nat)) by (simp; omega)) (an (an (show (0 : Int) ≤ IntKind.i64.wrap ((IntKind.u64.wrap w).tmod (4 : Int)) by omega) (show IntKind.i64.wrap ((IntKind.u64.wrap w).tmod (4 : Int)) + (1 : Int) ≤ (4 : Int) by omega)) (an h4 (an h3 (an h2 (an h1 (an h0 tt)))))))))))))))))))))))))) tt) ?_
              kernel_rfl
             ·
              have h47 : (!(decide ((0 : Int) ≤ Wd.plV (0 : Int)) && decide (Wd.plV (0 : Int) < (1099511627776 : Int)))) = false := by decide +kernel
              refine vcIntro [false, false, false, true, true, true, false, false, true, true, true, true, false, false, false, false, true, true, true, true, false, false, false, false, false, false] (an (an h47 (an h47 (an h46 (an h45 (an h6 (an h44 (an h35 (an h43 (an h42 (an h41 (an h40 (an h39 (an h38 (an h37 (an h35 (an h36 (an h35 (an h34 (an h7 (an h6 (an h5 (an (show (IntKind.i64.wrap ((IntKind.u64.wrap w).tmod (4 : Int))).toNat.succ ≤ (0 : Nat) + ([(1 : Int), IntKind.i64.wrap ((4 : Int) * IntKind.i64.wrap ((262143 : Int) + IntKind.i64.wrap ((1 : Int) + x % (1024 : Int)))), (2 : Int)].length + (1 : Nat)) by (simp; omega)) (an (an (show (0 : Int) ≤ IntKind.i64.wrap ((IntKind.u64.wrap w).tmod (4 : Int)) by omega) (show IntKind.i64.wrap ((IntKind.u64.wrap w).tmod (4 : Int)) + (1 : Int) ≤ (4 : Int) by omega)) (an h4 (an h3 (an h2 (an h1 (an h0 tt)))))))))))))))))))))))))))) (show False by (simp (disch := omega) only [w1, wrapk] at *; simp at *; omega))) ?_
              kernel_rfl
           ·
            have h48 : (decide ((1 : Int) < Wd.plV (4 : Int))) = false := by decide +kernel
            refine vcIntro [false, false, false, true, true, true, false, false, true, true, true, true, false, false, false, false, true, true, false, false] (an (an h48 (an h43 (an h42 (an h41 (an h40 (an h39 (an h38 (an h37 (an h35 (an h36 (an h35 (an h34 (an h7 (an h6 (an h5 (an (show (IntKind.i64.wrap ((IntKind.u64.wrap w).tmod (4 : Int))).toNat.succ ≤ (0 : Nat) + ([(1 : Int), IntKind.i64.wrap ((4 : Int) * IntKind.i64.wrap ((262143 : Int) + IntKind.i64.wrap ((1 : Int) + x % (1024 : Int)))), (2 : Int)].length + (1 : Nat)) by (simp; omega)) (an (an (show (0 : Int) ≤ IntKind.i64.wrap ((IntKind.u64.wrap w).tmod (4 : Int)) by omega) (show IntKind.i64.wrap ((IntKind.u64.wrap w).tmod (4 : Int)) + (1 : Int) ≤ (4 : Int) by omega)) (an h4 (an h3 (an h2 (an h1 (an h0 tt)))))))))))))))))))))) tt) ?_
            kernel_rfl
          ·
           have h49 : (decide ((Wd.plV (0 : Int)).tmod (4 : Int) > (2 : Int))) = false := by decide +kernel
           have h50 : (decide (IntKind.i64.wrap ((Wd.plV (0 : Int)).tdiv (4 : Int)) > (65535 : Int))) = false := by decide +kernel
           rcases Bool.eq_false_or_eq_true (decide (Wd.plV (IntKind.i64.wrap ((4 : Int) * IntKind.i64.wrap ((16 : Int) + IntKind.i64.wrap ((1 : Int) + x % (1024 : Int))))) > (16 : Int))) with h51 | h51
           ·
            have h52 : (!Wd.isVal (4 : Int)) = false := by decide +kernel
            have h53 : (decide (Wd.plV (4 : Int) > (16 : Int))) = false := by decide +kernel
            have h54 : (decide ((0 : Int) < Wd.plV (4 : Int))) = true := by decide +kernel
            have h55 : (Wd.isVal (4 : Int)) = true := by decide +kernel
            rcases Bool.eq_false_or_eq_true (Wd.isVal (IntKind.i64.wrap ((4 : Int) * IntKind.i64.wrap ((15 : Int) + IntKind.i64.wrap ((1 : Int) + x % (1024 : Int)))))) with h56 | h56
            ·
             have h57 : (decide ((1 : Int) < Wd.plV (4 : Int))) = false := by decide +kernel
             rcases Bool.eq_false_or_eq_true (decide (Wd.plV (IntKind.i64.wrap ((4 : Int) * IntKind.i64.wrap ((15 : Int) + IntKind.i64.wrap ((1 : Int) + x % (1024 : Int))))) ≤ (-1 : Int))) with h58 | h58
             · exact ff (by (clear hw; simp only [ha, hb] at *; simp (disch := omega) only [Int.tdiv_eq_ediv_of_nonneg, Int.tmod_eq_emod_of_nonneg, wrapk] at *; simp at *; omega))
             ·
              rcases Bool.eq_false_or_eq_true (decide (Wd.plV (IntKind.i64.wrap ((4 : Int) * IntKind.i64.wrap ((15 : Int) + IntKind.i64.wrap ((1 : Int) + x % (1024 : Int))))) ≥ (16 : Int))) with h59 | h59
              ·
               refine vcIntro [false, false, false, true, true, true, false, false, true, true, false, false, false, true, true, false, false, false, false, true, true, true, true, false, false, false, true] (an (an h59 (an h58 (an h6 (an h57 (an h35 (an h56 (an h55 (an h54 (an h53 (an h50 (an h49 (an h52 (an h35 (an h51 (an h50 (an h49 (an h36 (an h35 (an h34 (an h7 (an h6 (an h5 (an (show (IntKind.i64.wrap ((IntKind.u64.wrap w).tmod (4 : Int))).toNat.succ ≤ (0 : Nat) + ([(1 : Int), IntKind.i64.wrap ((4 : Int) * IntKind.i64.wrap ((262143 : Int) + IntKind.i64.wrap ((1 : Int) + x % (1024 : Int)))), (2 : Int)].length + (1 : Nat)) by (simp; omega)) (an (an (show (0 : Int) ≤ IntKind.i64.wrap ((IntKind.u64.wrap w).tmod (4 : Int)) by omega) (show IntKind.i64.wrap ((IntKind.u64.wrap w).tmod (4 : Int)) + (1 : Int) ≤ (4 : Int) by omega)) (an h4 (an h3 (an h2 (an h1 (an h0 tt))))))))))))))))))))))))))))) tt) ?_
               kernel_rfl
              · exact ff (by (clear hw; simp only [ha, hb] at *; simp (disch := omega) only [Int.tdiv_eq_ediv_of_nonneg, Int.tmod_eq_emod_of_nonneg, wrapk] at *; simp at *; omega))
            ·
             have h60 : (decide ((1 : Int) < Wd.plV (4 : Int))) = false := by decide +kernel
             refine vcIntro [false, false, false, true, true, true, false, false, true, true, false, false, false, true, true, false, false, false, false, true, true, false, false] (an (an h60 (an h56 (an h55 (an h54 (an h53 (an h50 (an h49 (an h52 (an h35 (an h51 (an h50 (an h49 (an h36 (an h35 (an h34 (an h7 (an h6 (an h5 (an (show (IntKind.i64.wrap ((IntKind.u64.wrap w).tmod (4 : Int))).toNat.succ ≤ (0 : Nat) + ([(1 : Int), IntKind.i64.wrap ((4 : Int) * IntKind.i64.wrap ((262143 : Int) + IntKind.i64.wrap ((1 : Int) + x % (1024 : Int)))), (2 : Int)].length + (1 : Nat)) by (simp; omega)) (an (an (show (0 : Int) ≤ IntKind.i64.wrap ((IntKind.u64.wrap w).tmod (4 : Int)) by omega) (show IntKind.i64.wrap ((IntKind.u64.wrap w).tmod (4 : Int)) + (1 : Int) ≤ (4 : Int) by omega)) (an h4 (an h3 (an h2 (an h1 (an h0 tt))))))))))))))))))))))))) tt) ?_
             kernel_rfl
           · exact ff (by (clear hw; simp only [ha, hb] at *; simp (disch := omega) only [Int.tdiv_eq_ediv_of_nonneg, Int.tmod_eq_emod_of_nonneg, wrapk] at *; simp at *; omega))
         · exact ff (by (have hh9 := hw (by assumption); clear hw ha hb; generalize ([12, 1, IntKind.i64.wrap (4 * IntKind.i64.wrap (262143 + IntKind.i64.wrap (1 + x % 1024))), 2].getD (IntKind.i64.wrap ((IntKind.u64.wrap w).tmod 4)).toNat 0) = q at *; simp (disch := omega) only [Int.tdiv_eq_ediv_of_nonneg, Int.tmod_eq_emod_of_nonneg, wrapk] at *; simp at *; omega))
       ·
        have h61 : (Wd.isVal (0 : Int)) = true := by decide +kernel
        rcases Bool.eq_false_or_eq_true (!Wd.isVal (IntKind.i64.wrap ((4 : Int) * IntKind.i64.wrap ((16 : Int) + IntKind.i64.wrap ((1 : Int) + x % (1024 : Int)))))) with h62 | h62
        ·
         have h63 : (!Wd.isVal (4 : Int)) = false := by decide +kernel
         have h64 : (decide ((Wd.plV (0 : Int)).tmod (4 : Int) > (2 : Int))) = false := by decide +kernel
         have h65 : (decide (IntKind.i64.wrap ((Wd.plV (0 : Int)).tdiv (4 : Int)) > (65535 : Int))) = false := by decide +kernel
         have h66 : (decide (Wd.plV (4 : Int) > (16 : Int))) = false := by decide +kernel
         have h67 : (decide ((0 : Int) < Wd.plV (4 : Int))) = true := by decide +kernel
         have h68 : (Wd.isVal (4 : Int)) = true := by decide +kernel
         rcases Bool.eq_false_or_eq_true (Wd.isVal (IntKind.i64.wrap ((4 : Int) * IntKind.i64.wrap ((15 : Int) + IntKind.i64.wrap ((1 : Int) + x % (1024 : Int)))))) with h69 | h69
         ·
          have h70 : (decide ((1 : Int) < Wd.plV (4 : Int))) = false := by decide +kernel
          have h71 : (!Wd.isVal (0 : Int)) = false := by decide +kernel
          rcases Bool.eq_false_or_eq_true (decide (Wd.plV (IntKind.i64.wrap ((4 : Int) * IntKind.i64.wrap ((15 : Int) + IntKind.i64.wrap ((1 : Int) + x % (1024 : Int))))) ≤ (-1 : Int))) with h72 | h72
          ·
           refine vcIntro [false, false, false, true, true, false, true, true, true, false, false, false, false, true, true, true, true, false, false, true] (an (an h72 (an h71 (an h70 (an h61 (an h69 (an h68 (an h67 (an h66 (an h65 (an h64 (an h63 (an h61 (an h62 (an h61 (an h5 (an (show (IntKind.i64.wrap ((IntKind.u64.wrap w).tmod (4 : Int))).toNat.succ ≤ (0 : Nat) + ([(1 : Int), IntKind.i64.wrap ((4 : Int) * IntKind.i64.wrap ((262143 : Int) + IntKind.i64.wrap ((1 : Int) + x % (1024 : Int)))), (2 : Int)].length + (1 : Nat)) by (simp; omega)) (an (an (show (0 : Int) ≤ IntKind.i64.wrap ((IntKind.u64.wrap w).tmod (4 : Int)) by omega) (show IntKind.i64.wrap ((IntKind.u64.wrap w).tmod (4 : Int)) + (1 : Int) ≤ (4 : Int) by omega)) (an h4 (an h3 (an h2 (an h1 (an h0 tt)))))))))))))))))))))) tt) ?_
           kernel_rfl
          ·
           rcases Bool.eq_false_or_eq_true (decide (Wd.plV (IntKind.i64.wrap ((4 : Int) * IntKind.i64.wrap ((15 : Int) + IntKind.i64.wrap ((1 : Int) + x % (1024 : Int))))) ≥ (16 : Int))) with h73 | h73
           ·
            refine vcIntro [false, false, false, true, true, false, true, true, true, false, false, false, false, true, true, true, true, false, false, false, true] (an (an h73 (an h72 (an h71 (an h70 (an h61 (an h69 (an h68 (an h67 (an h66 (an h65 (an h64 (an h63 (an h61 (an h62 (an h61 (an h5 (an (show (IntKind.i64.wrap ((IntKind.u64.wrap w).tmod (4 : Int))).toNat.succ ≤ (0 : Nat) + ([(1 : Int), IntKind.i64.wrap ((4 : Int) * IntKind.i64.wrap ((262143 : Int) + IntKind.i64.wrap ((1 : Int) + x % (1024 : Int)))), (2 : Int)].length + (1 : Nat)) by (simp; omega)) (an (an (show (0 : Int) ≤ IntKind.i64.wrap ((IntKind.u64.wrap w).tmod (4 : Int)) by omega) (show IntKind.i64.wrap ((IntKind.u64.wrap w).tmod (4 : Int)) + (1 : Int) ≤ (4 : Int) by omega)) (an h4 (an h3 (an h2 (an h1 (an h0 tt))))))))))))))))))))))) tt) ?_
            kernel_rfl
           ·
            have h74 : (!(decide ((0 : Int) ≤ Wd.plV (0 : Int)) && decide (Wd.plV (0 : Int) < (1099511627776 : Int)))) = false := by decide +kernel
            refine vcIntro [false, false, false, true, true, false, true, true, true, false, false, false, false, true, true, true, true, false, false, false, false, false, false] (an (an h74 (an h74 (an h73 (an h72 (an h71 (an h70 (an h61 (an h69 (an h68 (an h67 (an h66 (an h65 (an h64 (an h63 (an h61 (an h62 (an h61 (an h5 (an (show (IntKind.i64.wrap ((IntKind.u64.wrap w).tmod (4 : Int))).toNat.succ ≤ (0 : Nat) + ([(1 : Int), IntKind.i64.wrap ((4 : Int) * IntKind.i64.wrap ((262143 : Int) + IntKind.i64.wrap ((1 : Int) + x % (1024 : Int)))), (2 : Int)].length + (1 : Nat)) by (simp; omega)) (an (an (show (0 : Int) ≤ IntKind.i64.wrap ((IntKind.u64.wrap w).tmod (4 : Int)) by omega) (show IntKind.i64.wrap ((IntKind.u64.wrap w).tmod (4 : Int)) + (1 : Int) ≤ (4 : Int) by omega)) (an h4 (an h3 (an h2 (an h1 (an h0 tt))))))))))))))))))))))))) (show False by (simp (disch := omega) only [w1, wrapk] at *; simp at *; omega))) ?_
            kernel_rfl
         ·
          have h75 : (decide ((1 : Int) < Wd.plV (4 : Int))) = false := by decide +kernel
          refine vcIntro [false, false, false, true, true, false, true, true, true, false, false, false, false, true, true, false, false] (an (an h75 (an h69 (an h68 (an h67 (an h66 (an h65 (an h64 (an h63 (an h61 (an h62 (an h61 (an h5 (an (show (IntKind.i64.wrap ((IntKind.u64.wrap w).tmod (4 : Int))).toNat.succ ≤ (0 : Nat) + ([(1 : Int), IntKind.i64.wrap ((4 : Int) * IntKind.i64.wrap ((262143 : Int) + IntKind.i64.wrap ((1 : Int) + x % (1024 : Int)))), (2 : Int)].length + (1 : Nat)) by (simp; omega)) (an (an (show (0 : Int) ≤ IntKind.i64.wrap ((IntKind.u64.wrap w).tmod (4 : Int)) by omega) (show IntKind.i64.wrap ((IntKind.u64.wrap w).tmod (4 : Int)) + (1 : Int) ≤ (4 : Int) by omega)) (an h4 (an h3 (an h2 (an h1 (an h0 tt))))))))))))))))))) tt) ?_
          kernel_rfl
        ·
         have h76 : (decide ((Wd.plV (0 : Int)).tmod (4 : Int) > (2 : Int))) = false := by decide +kernel
         have h77 : (decide (IntKind.i64.wrap ((Wd.plV (0 : Int)).tdiv (4 : Int)) > (65535 : Int))) = false := by decide +kernel
         rcases Bool.eq_false_or_eq_true (decide (Wd.plV (IntKind.i64.wrap ((4 : Int) * IntKind.i64.wrap ((16 : Int) + IntKind.i64.wrap ((1 : Int) + x % (1024 : Int))))) > (16 : Int))) with h78 | h78
         ·
          have h79 : (!Wd.isVal (4 : Int)) = false := by decide +kernel
          have h80 : (decide (Wd.plV (4 : Int) > (16 : Int))) = false := by decide +kernel
          have h81 : (decide ((0 : Int) < Wd.plV (4 : Int))) = true := by decide +kernel
          have h82 : (Wd.isVal (4 : Int)) = true := by decide +kernel
          rcases Bool.eq_false_or_eq_true (Wd.isVal (IntKind.i64.wrap ((4 : Int) * IntKind.i64.wrap ((15 : Int) + IntKind.i64.wrap ((1 : Int) + x % (1024 : Int)))))) with h83 | h83
          ·
           have h84 : (decide ((1 : Int) < Wd.plV (4 : Int))) = false := by decide +kernel
           have h85 : (!Wd.isVal (0 : Int)) = false := by decide +kernel
           rcases Bool.eq_false_or_eq_true (decide (Wd.plV (IntKind.i64.wrap ((4 : Int) * IntKind.i64.wrap ((15 : Int) + IntKind.i64.wrap ((1 : Int) + x % (1024 : Int))))) ≤ (-1 : Int))) with h86 | h86
           · exact ff (by (clear hw; simp only [ha, hb] at *; simp (disch := omega) only [Int.tdiv_eq_ediv_of_nonneg, Int.tmod_eq_emod_of_nonneg, wrapk] at *; simp at *; omega))
           ·
            rcases Bool.eq_false_or_eq_true (decide (Wd.plV (IntKind.i64.wrap ((4 : Int) * IntKind.i64.wrap ((15 : Int) + IntKind.i64.wrap ((1 : Int) + x % (1024 : Int))))) ≥ (16 : Int))) with h87 | h87
            ·
             refine vcIntro [false, false, false, true, true, false, true, false, false, false, true, true, false, false, false, false, true, true, true, true, false, false, false, true] (an (an h87 (an h86 (an h85 (an h84 (an h61 (an h83 (an h82 (an h81 (an h80 (an h77 (an h76 (an h79 (an h61 (an h78 (an h77 (an h76 (an h62 (an h61 (an h5 (an (show (IntKind.i64.wrap ((IntKind.u64.wrap w).tmod (4 : Int))).toNat.succ ≤ (0 : Nat) + ([(1 : Int), IntKind.i64.wrap ((4 : Int) * IntKind.i64.wrap ((262143 : Int) + IntKind.i64.wrap ((1 : Int) + x % (1024 : Int)))), (2 : Int)].length + (1 : Nat)) by (simp; omega)) (an (an (show (0 : Int) ≤ IntKind.i64.wrap ((IntKind.u64.wrap w).tmod (4 : Int)) by omega) (show IntKind.i64.wrap ((IntKind.u64.wrap w).tmod (4 : Int)) + (1 : Int) ≤ (4 : Int) by omega)) (an h4 (an h3 (an h2 (an h1 (an h0 tt)))))))))))))))))))))))))) tt) ?_
             kernel_rfl
            · exact ff (by (clear hw; simp only [ha, hb] at *; simp (disch := omega) only [Int.tdiv_eq_ediv_of_nonneg, Int.tmod_eq_emod_of_nonneg, wrapk] at *; simp at *; omega))
          ·
           have h88 : (decide ((1 : Int) < Wd.plV (4 : Int))) = false := by decide +kernel
           refine vcIntro [false, false, false, true, true, false, true, false, false, false, true, true, false, false, false, false, true, true, false, false] (an (an h88 (an h83 (an h82 (an h81 (an h80 (an h77 (an h76 (an h79 (an h61 (an h78 (an h77 (an h76 (an h62 (an h61 (an h5 (an (show (IntKind.i64.wrap ((IntKind.u64.wrap w).tmod (4 : Int))).toNat.succ ≤ (0 : Nat) + ([(1 : Int), IntKind.i64.wrap ((4 : Int) * IntKind.i64.wrap ((262143 : Int) + IntKind.i64.wrap ((1 : Int) + x % (1024 : Int)))), (2 : Int)].length + (1 : Nat)) by (simp; omega)) (an (an (show (0 : Int) ≤ IntKind.i64.wrap ((IntKind.u64.wrap w).tmod (4 : Int)) by omega) (show IntKind.i64.wrap ((IntKind.u64.wrap w).tmod (4 : Int)) + (1 : Int) ≤ (4 : Int) by omega)) (an h4 (an h3 (an h2 (an h1 (an h0 tt)))))))))))))))))))))) tt) ?_
           kernel_rfl
         · exact ff (by (clear hw; simp only [ha, hb] at *; simp (disch := omega) only [Int.tdiv_eq_ediv_of_nonneg, Int.tmod_eq_emod_of_nonneg, wrapk] at *; simp at *; omega))
      · exact ff (by (clear hw; simp only [ha, hb] at *; simp (disch := omega) only [Int.tdiv_eq_ediv_of_nonneg, Int.tmod_eq_emod_of_nonneg, wrapk] at *; simp at *; omega))
     · exact ff (by (simp only [hq] at *; simp at *; done))
end Go.Ideal.D1
