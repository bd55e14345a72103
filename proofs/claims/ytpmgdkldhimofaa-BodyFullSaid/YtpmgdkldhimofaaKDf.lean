/- Chapter 6: a view over functions. Own text. -/
import Derived.Test.YtpmgdkldhimofaaKD
namespace Go.Ideal.K6
open Go.Proofs Go.Ideal Go.Ideal.L1
set_option maxRecDepth 100000
abbrev bl (b : Nat → Bool) : List Bool := [b 0, b 1, b 2, b 3, b 4, b 5, b 6, b 7, b 8, b 9, b 10, b 11, b 12, b 13, b 14, b 15]
abbrev zl (z : Nat → Int) : List Int := [z 0, z 1, z 2, z 3, z 4, z 5, z 6, z 7, z 8, z 9, z 10, z 11, z 12, z 13, z 14, z 15, z 16, z 17, z 18, z 19, z 20, z 21, z 22, z 23, z 24, z 25, z 26, z 27, z 28, z 29, z 30, z 31]
theorem zsOk_f (z : Nat → Int) (hv : B1.allMay (zl z) = true) : zsOk (zl z) := zsOk_of (z 0) (z 1) (z 2) (z 3) (z 4) (z 5) (z 6) (z 7) (z 8) (z 9) (z 10) (z 11) (z 12) (z 13) (z 14) (z 15) (z 16) (z 17) (z 18) (z 19) (z 20) (z 21) (z 22) (z 23) (z 24) (z 25) (z 26) (z 27) (z 28) (z 29) (z 30) (z 31) hv
theorem del_f (z : Nat → Int) (A lo hi : Int) : nwOk (zl z) (lk hi 1) → -1 ≤ hi ∧ hi < 5 → nwOk (delZ (zl z) A lo 0) (lk hi 1) := del_nw (z 0) (z 1) (z 2) (z 3) (z 4) (z 5) (z 6) (z 7) (z 8) (z 9) (z 10) (z 11) (z 12) (z 13) (z 14) (z 15) (z 16) (z 17) (z 18) (z 19) (z 20) (z 21) (z 22) (z 23) (z 24) (z 25) (z 26) (z 27) (z 28) (z 29) (z 30) (z 31) A lo hi
theorem bl_of {bs : List Bool} (h : bs.length = 16) : ∃ f, bs = bl f := ⟨fun j => bs.getD j false, by
  match bs, h with
  | [b0, b1, b2, b3, b4, b5, b6, b7, b8, b9, b10, b11, b12, b13, b14, b15], _ => rfl⟩
theorem zl_of {zs : List Int} (h : zs.length = 32) : ∃ f, zs = zl f := ⟨fun j => zs.getD j 0, by
  match zs, h with
  | [z0, z1, z2, z3, z4, z5, z6, z7, z8, z9, z10, z11, z12, z13, z14, z15, z16, z17, z18, z19, z20, z21, z22, z23, z24, z25, z26, z27, z28, z29, z30, z31], _ => rfl⟩
end Go.Ideal.K6
