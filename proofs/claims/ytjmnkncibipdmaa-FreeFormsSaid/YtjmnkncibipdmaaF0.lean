/- Chapter 10: awake. Own text. -/
import Derived.Test.YtjmnkncibipdmaaA5
import Derived.Test.YtjmnkncibipdmaaWd
namespace Go.Ideal.F1
open Go.Proofs Go.Ideal Go.Ideal.L1
set_option linter.unusedSimpArgs false
set_option linter.unusedVariables false
set_option maxRecDepth 100000
set_option maxHeartbeats 4000000

def spec0 : Spec := orS Wd.plainS (orS A2.accp (orS A2.accr A2.specsC))
theorem spec0_ok : SpecOk Try.prog spec0 := orS_ok Wd.plainS_ok (orS_ok A2.accp_ok (orS_ok A2.accr_ok A2.specsC_ok))
theorem awake1 : ∃ hh, vcOf (runCall Try.prog spec0 noL 6000 13 [] H0 hh) (fun v _ => isT v) := by

  have h0 : (Wd.isVal (4 : Int)) = true := by decide +kernel
  have h1 : (decide ((1 : Int) ≤ (12 : Int))) = true := by decide +kernel
  have h2 : (!decide ((0 : Int) ≤ (1073741823 : Int))) = false := by decide +kernel
  have h3 : ((1 : Int) == (0 : Int)) = false := by decide +kernel
  have h4 : (Wd.isVal (8 : Int)) = true := by decide +kernel
  have h5 : (!decide ((2 : Int) ≤ (12 : Int))) = false := by decide +kernel
  have h6 : ((4 : Int) == (4 : Int)) = true := by decide +kernel
  have h7 : (Wd.isVal (72 : Int)) = true := by decide +kernel
  have h8 : (decide ((2 : Int) ≤ (12 : Int))) = true := by decide +kernel
  have h9 : (decide ((1 : Int) ≤ (1073741823 : Int))) = true := by decide +kernel
  have h10 : (decide ((2 : Int) > (0 : Int))) = true := by decide +kernel
  have h11 : (Wd.isVal (12 : Int)) = true := by decide +kernel
  have h12 : (decide ((3 : Int) ≤ (12 : Int))) = true := by decide +kernel
  have h13 : (decide ((3 : Int) > (0 : Int))) = true := by decide +kernel
  have h14 : (Wd.isVal (16 : Int)) = true := by decide +kernel
  have h15 : (decide ((4 : Int) ≤ (12 : Int))) = true := by decide +kernel
  have h16 : (decide ((4 : Int) > (0 : Int))) = true := by decide +kernel
  have h17 : (Wd.isVal (20 : Int)) = true := by decide +kernel
  have h18 : (decide ((5 : Int) ≤ (12 : Int))) = true := by decide +kernel
  have h19 : (decide ((5 : Int) > (0 : Int))) = true := by decide +kernel
  have h20 : (Wd.isVal (24 : Int)) = true := by decide +kernel
  have h21 : (decide ((6 : Int) ≤ (12 : Int))) = true := by decide +kernel
  have h22 : (decide ((6 : Int) > (0 : Int))) = true := by decide +kernel
  have h23 : (Wd.isVal (28 : Int)) = true := by decide +kernel
  have h24 : (decide ((7 : Int) ≤ (12 : Int))) = true := by decide +kernel
  have h25 : (decide ((7 : Int) > (0 : Int))) = true := by decide +kernel
  have h26 : (Wd.isVal (32 : Int)) = true := by decide +kernel
  have h27 : (decide ((8 : Int) ≤ (12 : Int))) = true := by decide +kernel
  have h28 : (decide ((8 : Int) > (0 : Int))) = true := by decide +kernel
  have h29 : (Wd.isVal (36 : Int)) = true := by decide +kernel
  have h30 : (decide ((9 : Int) ≤ (12 : Int))) = true := by decide +kernel
  have h31 : (decide ((9 : Int) > (0 : Int))) = true := by decide +kernel
  have h32 : (Wd.isVal (40 : Int)) = true := by decide +kernel
  have h33 : (decide ((10 : Int) ≤ (12 : Int))) = true := by decide +kernel
  have h34 : (decide ((10 : Int) > (0 : Int))) = true := by decide +kernel
  have h35 : (Wd.isVal (44 : Int)) = true := by decide +kernel
  have h36 : (decide ((11 : Int) ≤ (12 : Int))) = true := by decide +kernel
  have h37 : (decide ((11 : Int) > (0 : Int))) = true := by decide +kernel
  have h38 : (Wd.isVal (48 : Int)) = true := by decide +kernel
  have h39 : (decide ((12 : Int) ≤ (12 : Int))) = true := by decide +kernel
  have h40 : (decide ((12 : Int) > (0 : Int))) = true := by decide +kernel
  have h41 : (Wd.isVal (0 : Int)) = true := by decide +kernel
  have h42 : (decide ((0 : Int) ≤ (12 : Int))) = true := by decide +kernel
  have h43 : (decide ((0 : Int) > (0 : Int))) = false := by decide +kernel
  have h44 : (!decide ((0 : Int) ≤ (12 : Int))) = false := by decide +kernel
  have h45 : (!decide ((1 : Int) ≤ (1073741823 : Int))) = false := by decide +kernel
  have h46 : ((72 : Int) == (72 : Int)) = true := by decide +kernel
  have h47 : (Wd.isVal (132 : Int)) = true := by decide +kernel
  have h48 : (decide ((2 : Int) ≤ (1073741823 : Int))) = true := by decide +kernel
  have h49 : (decide ((1 : Int) > (0 : Int))) = true := by decide +kernel
  have h50 : ((0 : Int) == (0 : Int)) = true := by decide +kernel
  refine vcIntro [true, true, false, false, true, false, true, true, true, true, true, true, true, true, true, true, true, true, true, true, true, true, true, true, true, true, true, true, true, true, true, true, true, true, true, true, true, true, true, true, true, true, true, false, false, true, true, false, true, true, true, true, true, true, true, true, true, true, true, true, true, true, true, true, true, true, true, true, true, true, true, true, true, true, true, true, true, true, true, true, true, true, true, true, true, true, true, true, false, false, true, true] (an (an h50 (an h50 (an h44 (an h43 (an h42 (an h41 (an (show (29 : Nat) ≤ (634 : Nat) by decide) (an (an (show (0 : Int) ≤ (28 : Int) by decide) (show (29 : Int) ≤ (634 : Int) by decide)) (an h40 (an h39 (an h38 (an (show (28 : Nat) ≤ (634 : Nat) by decide) (an (an (show (0 : Int) ≤ (27 : Int) by decide) (show (28 : Int) ≤ (634 : Int) by decide)) (an h37 (an h36 (an h35 (an (show (27 : Nat) ≤ (634 : Nat) by decide) (an (an (show (0 : Int) ≤ (26 : Int) by decide) (show (27 : Int) ≤ (634 : Int) by decide)) (an h34 (an h33 (an h32 (an (show (26 : Nat) ≤ (634 : Nat) by decide) (an (an (show (0 : Int) ≤ (25 : Int) by decide) (show (26 : Int) ≤ (634 : Int) by decide)) (an h31 (an h30 (an h29 (an (show (25 : Nat) ≤ (634 : Nat) by decide) (an (an (show (0 : Int) ≤ (24 : Int) by decide) (show (25 : Int) ≤ (634 : Int) by decide)) (an h28 (an h27 (an h26 (an (show (24 : Nat) ≤ (634 : Nat) by decide) (an (an (show (0 : Int) ≤ (23 : Int) by decide) (show (24 : Int) ≤ (634 : Int) by decide)) (an h25 (an h24 (an h23 (an (show (23 : Nat) ≤ (634 : Nat) by decide) (an (an (show (0 : Int) ≤ (22 : Int) by decide) (show (23 : Int) ≤ (634 : Int) by decide)) (an h22 (an h21 (an h20 (an (show (22 : Nat) ≤ (634 : Nat) by decide) (an (an (show (0 : Int) ≤ (21 : Int) by decide) (show (22 : Int) ≤ (634 : Int) by decide)) (an h19 (an h18 (an h17 (an (show (21 : Nat) ≤ (634 : Nat) by decide) (an (an (show (0 : Int) ≤ (20 : Int) by decide) (show (21 : Int) ≤ (634 : Int) by decide)) (an h16 (an h15 (an h14 (an (show (20 : Nat) ≤ (634 : Nat) by decide) (an (an (show (0 : Int) ≤ (19 : Int) by decide) (show (20 : Int) ≤ (634 : Int) by decide)) (an h13 (an h12 (an h11 (an (show (19 : Nat) ≤ (634 : Nat) by decide) (an (an (show (0 : Int) ≤ (18 : Int) by decide) (show (19 : Int) ≤ (634 : Int) by decide)) (an h10 (an h8 (an h4 (an (show (18 : Nat) ≤ (634 : Nat) by decide) (an (an (show (0 : Int) ≤ (17 : Int) by decide) (show (18 : Int) ≤ (634 : Int) by decide)) (an h49 (an h48 (an h1 (an h47 (an h46 (an h45 (an h8 (an h7 (an h44 (an h43 (an h42 (an h41 (an (show (29 : Nat) ≤ (634 : Nat) by decide) (an (an (show (0 : Int) ≤ (28 : Int) by decide) (show (29 : Int) ≤ (634 : Int) by decide)) (an h40 (an h39 (an h38 (an (show (28 : Nat) ≤ (634 : Nat) by decide) (an (an (show (0 : Int) ≤ (27 : Int) by decide) (show (28 : Int) ≤ (634 : Int) by decide)) (an h37 (an h36 (an h35 (an (show (27 : Nat) ≤ (634 : Nat) by decide) (an (an (show (0 : Int) ≤ (26 : Int) by decide) (show (27 : Int) ≤ (634 : Int) by decide)) (an h34 (an h33 (an h32 (an (show (26 : Nat) ≤ (634 : Nat) by decide) (an (an (show (0 : Int) ≤ (25 : Int) by decide) (show (26 : Int) ≤ (634 : Int) by decide)) (an h31 (an h30 (an h29 (an (show (25 : Nat) ≤ (634 : Nat) by decide) (an (an (show (0 : Int) ≤ (24 : Int) by decide) (show (25 : Int) ≤ (634 : Int) by decide)) (an h28 (an h27 (an h26 (an (show (24 : Nat) ≤ (634 : Nat) by decide) (an (an (show (0 : Int) ≤ (23 : Int) by decide) (show (24 : Int) ≤ (634 : Int) by decide)) (an h25 (an h24 (an h23 (an (show (23 : Nat) ≤ (634 : Nat) by decide) (an (an (show (0 : Int) ≤ (22 : Int) by decide) (show (23 : Int) ≤ (634 : Int) by decide)) (an h22 (an h21 (an h20 (an (show (22 : Nat) ≤ (634 : Nat) by decide) (an (an (show (0 : Int) ≤ (21 : Int) by decide) (show (22 : Int) ≤ (634 : Int) by decide)) (an h19 (an h18 (an h17 (an (show (21 : Nat) ≤ (634 : Nat) by decide) (an (an (show (0 : Int) ≤ (20 : Int) by decide) (show (21 : Int) ≤ (634 : Int) by decide)) (an h16 (an h15 (an h14 (an (show (20 : Nat) ≤ (634 : Nat) by decide) (an (an (show (0 : Int) ≤ (19 : Int) by decide) (show (20 : Int) ≤ (634 : Int) by decide)) (an h13 (an h12 (an h11 (an (show (19 : Nat) ≤ (634 : Nat) by decide) (an (an (show (0 : Int) ≤ (18 : Int) by decide) (show (19 : Int) ≤ (634 : Int) by decide)) (an h10 (an h9 (an h8 (an h7 (an h6 (an h5 (an h4 (an (an (show (0 : Int) ≤ (17 : Int) by decide) (show (18 : Int) ≤ (634 : Int) by decide)) (an h3 (an h2 (an h1 (an h0 tt))))))))))))))))))))))))))))))))))))))))))))))))))))))))))))))))))))))))))))))))))))))))))))))))))))))))))))))))))))))))))))))))))))))))))) tt) ?_
  kernel_rfl
def awake : Spec := sp 13 fun xs => match xs with | [] => some (.bool (.s true)) | _ => none
theorem isT_le {v : V} (h : isT v) : V.leP (.bool (.s true)) v := by
  unfold isT at h
  split at h
  · simp [V.leP, B.eqP, B.val]
  · subst h; simp [V.leP, B.eqP, B.val]
  · exact h.elim
theorem awake_ok : SpecOk Try.prog awake := closed_ok (CallQ.run spec0_ok noL_ok mixed ⟨awake1.choose, vcOf_mono awake1.choose_spec fun v _ h => isT_le h⟩) rfl
def specs : Spec := orS awake spec0
theorem specs_ok : SpecOk Try.prog specs := orS_ok awake_ok spec0_ok
theorem w1 (x : Int) : IntKind.i64.wrap (1 + x % 1024) = 1 + x % 1024 := by exact wrapk _ (by omega)
theorem modU (w : Int) (n : Int) (hn : 0 < n) (hn' : n < 1000) : 0 ≤ IntKind.i64.wrap ((IntKind.u64.wrap w).tmod n) ∧ IntKind.i64.wrap ((IntKind.u64.wrap w).tmod n) < n := by
  have h : 0 ≤ IntKind.u64.wrap w := by simp [IntKind.wrap, IntKind.bits, IntKind.signed]; omega
  rw [Int.tmod_eq_emod_of_nonneg h]
  have h1 := Int.emod_nonneg (IntKind.u64.wrap w) (show n ≠ 0 by omega)
  have h2 := Int.emod_lt_of_pos (IntKind.u64.wrap w) hn
  rw [wrapk _ (by omega)]
  omega
end Go.Ideal.F1
