/- The law BoundRises over numbers alone: of more threads the bound is greater. Conditions: none. -/
import Derived.Test.YtchgfecghackdaaPBoundRisesx1
namespace Go.Proofs.Ytchgfecghackdaa.Pure
open Go.RowKit Go.Proofs.Ytchgfecghackdaa.PBoundRises Go.Proofs.YtchgfecghackdaaW.PrintWords Go.Proofs.YtchgfecghackdaaW.PrintLast

theorem rises_and1023 (n : Int) : Go.bits .and .i64 n 1023 = n % 1024 := by
  have h127 : (BitVec.ofInt 64 1023).toNat = 2 ^ 10 - 1 := by decide +kernel
  have key : (BitVec.ofInt 64 n &&& BitVec.ofInt 64 1023).toNat = (n % ((2 ^ 64 : Nat) : Int)).toNat % 2 ^ 10 := by
    rw [BitVec.toNat_and, BitVec.toNat_ofInt, h127, Nat.and_two_pow_sub_one_eq_mod]
  show IntKind.i64.wrap ((BitVec.ofInt 64 n &&& BitVec.ofInt 64 1023).toNat : Nat) = n % 1024
  rw [key, IntKind.wrap_i64]
  omega

theorem rises_awake : pawllaw23_awake.f = some true := by decide +kernel

theorem rises_last (d : Int) (h0 : 0 ≤ d) (h1 : d < 1024) :
    ((bound_Solo.f (wrap64 (4 + (wrap64 (1 + d))))).bind fun bt114 => ((bound_Solo.f (wrap64 (1 - (wrap64 (1 + d))))).bind fun bt116 => ((pawllaw0_Num.f bt114.2).bind fun t118 => (if t118 = 2300 then ((pawllaw0_Num.f bt116.2).bind fun t119 => (some (t119 == 2300))) else (some false))))) = some true := by
  have e1 : wrap64 (1 + d) = 1 + d := by unfold wrap64; omega
  rw [e1]
  have e2 : wrap64 (4 + (1 + d)) = 5 + d := by unfold wrap64; omega
  have e3 : wrap64 (1 - (1 + d)) = -d := by unfold wrap64; omega
  rw [e2, e3]
  unfold bound_Solo.f
  rw [if_neg (by omega), if_pos (by omega), if_pos (by omega)]
  rfl

theorem rises_step (k : Nat) (a was i y j : Int) (h4 : i ≤ 4) (hs : bound_Solo.f i = some (y, 0)) (h1 : was < y) (h2 : y ≤ 65536) (hj : wrap64 (i + 1) = j) :
    pawllaw23_BoundRises.l0 (k + 1) a was i = pawllaw23_BoundRises.l0 k a y j := by
  simp only [pawllaw23_BoundRises.l0]
  rw [if_pos h4, hs, hj]
  simp only [Option.bind_some, pawllaw0_Num.f, if_true]
  rw [if_neg (by omega), if_neg (by omega)]

theorem BoundRises : pawllaw23_BoundRises.Pure := by
  intro a _
  refine ⟨5, ?_⟩
  unfold pawllaw23_BoundRises.f
  rw [rises_awake]
  simp only [Option.bind_some, if_true]
  rw [rises_step 4 a 0 1 1024 2 (by omega) (by decide +kernel) (by omega) (by omega) (by decide +kernel),
    rises_step 3 a 1024 2 2048 3 (by omega) (by decide +kernel) (by omega) (by omega) (by decide +kernel),
    rises_step 2 a 2048 3 3072 4 (by omega) (by decide +kernel) (by omega) (by omega) (by decide +kernel),
    rises_step 1 a 3072 4 4096 5 (by omega) (by decide +kernel) (by omega) (by omega) (by decide +kernel)]
  simp only [pawllaw23_BoundRises.l0]
  rw [if_neg (by omega), rises_and1023 a]
  exact rises_last (a % 1024) (by omega) (by omega)

end Go.Proofs.Ytchgfecghackdaa.Pure
