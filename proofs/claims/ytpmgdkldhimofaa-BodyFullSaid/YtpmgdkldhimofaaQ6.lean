/- Chapter 7: the contract of bank.Do, over KB. Put together of B5, B6 by gen/q7.py. Own text. -/
import Derived.Test.YtpmgdkldhimofaaQ4
namespace Go.Ideal.B1
section
open Go.Proofs Go.Ideal Go.Ideal.L1
set_option linter.unusedSimpArgs false
set_option linter.unusedVariables false
set_option maxRecDepth 100000
set_option maxHeartbeats 8000000

theorem bkx (b0 b1 b2 b3 b4 b5 b6 b7 b8 b9 b10 b11 b12 b13 b14 b15:Bool) (z0 z1 z2 z3 z4 z5 z6 z7 z8 z9 z10 z11 z12 z13 z14 z15 z16 z17 z18 z19 z20 z21 z22 z23 z24 z25 z26 z27 z28 z29 z30 z31 x:Int) (k a b:Int) : BadRun 46 [b0, b1, b2, b3, b4, b5, b6, b7, b8, b9, b10, b11, b12, b13, b14, b15] [z0, z1, z2, z3, z4, z5, z6, z7, z8, z9, z10, z11, z12, z13, z14, z15, z16, z17, z18, z19, z20, z21, z22, z23, z24, z25, z26, z27, z28, z29, z30, z31] k a b x := by
 intro h
 simp only [bkMay, Bool.and_eq_false_iff] at h

 rcases eb (!allMay [z0, z1, z2, z3, z4, z5, z6, z7, z8, z9, z10, z11, z12, z13, z14, z15, z16, z17, z18, z19, z20, z21, z22, z23, z24, z25, z26, z27, z28, z29, z30, z31]) with h0 | h0
 ·
  refine vcIntro [true] (an (an h0 tt) (an (an (an tt (an tt (an tt (an tt (an tt (an tt (an tt (an tt (an tt (an tt (an tt (an tt (an tt (an tt (an tt (an tt (an tt (an tt (an tt (an tt (an tt (an tt (an tt (an tt (an tt (an tt (an tt (an tt (an tt (an tt (an tt (an tt (an tt (an tt (an tt (an tt (an tt (an tt (an tt (an tt (an tt (an tt (an tt (an tt (an tt (an tt (an tt (an tt (an tt tt))))))))))))))))))))))))))))))))))))))))))))))))) tt) tt)) ?_
  kernel_rfl
 ·
  rcases eb (!opMayL [k, a, b, x]) with h1 | h1
  ·
   refine vcIntro (hx2 2 2) (an (u2 h1 h0) (an (an (an tt (an tt (an tt (an tt (an tt (an tt (an tt (an tt (an tt (an tt (an tt (an tt (an tt (an tt (an tt (an tt (an tt (an tt (an tt (an tt (an tt (an tt (an tt (an tt (an tt (an tt (an tt (an tt (an tt (an tt (an tt (an tt (an tt (an tt (an tt (an tt (an tt (an tt (an tt (an tt (an tt (an tt (an tt (an tt (an tt (an tt (an tt (an tt (an tt tt))))))))))))))))))))))))))))))))))))))))))))))))) tt) tt)) ?_
   kernel_rfl
  ·
   rcases eb (decide (k ≥ (0:Int))) with h2 | h2
   ·
    rcases eb (!decide (k ≤ (5:Int))) with h3 | h3
    ·
     refine vcIntro (hx2 4 12) (an (u4 h3 h2 h1 h0) (an (an (an tt (an tt (an tt (an tt (an tt (an tt (an tt (an tt (an tt (an tt (an tt (an tt (an tt (an tt (an tt (an tt (an tt (an tt (an tt (an tt (an tt (an tt (an tt (an tt (an tt (an tt (an tt (an tt (an tt (an tt (an tt (an tt (an tt (an tt (an tt (an tt (an tt (an tt (an tt (an tt (an tt (an tt (an tt (an tt (an tt (an tt (an tt (an tt (an tt tt))))))))))))))))))))))))))))))))))))))))))))))))) tt) tt)) ?_
     kernel_rfl
    · exact ff (by simp [opMayL, opMay] at *; simp_all; omega)
   · exact ff (by simp [opMayL, opMay] at *; simp_all; omega)
end
end Go.Ideal.B1
namespace Go.Ideal.B1
section
open Go.Proofs Go.Ideal Go.Ideal.L1
set_option linter.unusedSimpArgs false
set_option linter.unusedVariables false
set_option maxRecDepth 100000
set_option maxHeartbeats 8000000

theorem bkMay_of {zs : List Int} {k a b x : Int} (h : bkMay zs k a b x = true) : allMay zs = true ∧ opMay k a b x = true ∧ (k = 0 ∨ k = 1 ∨ k = 2 ∨ k = 3 ∨ k = 4 ∨ k = 5) := by
  simp only [bkMay, Bool.and_eq_true, decide_eq_true_eq] at h
  refine ⟨h.1.1, h.1.2, ?_⟩
  have := h.1.2
  simp [opMay] at this
  omega
theorem bkS_ok : SpecOk Try.prog (spC 46 (viewG bkSh)) := spC_ok fun xs cl z h => by
  obtain ⟨vs, os, bs, zs, k, a, b, x, rfl, hbs, hzs, hle, e⟩ := viewG_some h
  match bs, hbs, zs, hzs with
  | [b0, b1, b2, b3, b4, b5, b6, b7, b8, b9, b10, b11, b12, b13, b14, b15], _, [z0, z1, z2, z3, z4, z5, z6, z7, z8, z9, z10, z11, z12, z13, z14, z15, z16, z17, z18, z19, z20, z21, z22, z23, z24, z25, z26, z27, z28, z29, z30, z31], _ =>
  obtain ⟨rfl, rfl⟩ : cl = _ ∧ z = _ := by simpa [Prod.ext_iff, eq_comm] using e
  refine ⟨fun h1 => ?_, fun h1 => ?_⟩
  · exact ShOk.run lastBlk maysP_ok (by simp) rfl hle (bkx b0 b1 b2 b3 b4 b5 b6 b7 b8 b9 b10 b11 b12 b13 b14 b15 z0 z1 z2 z3 z4 z5 z6 z7 z8 z9 z10 z11 z12 z13 z14 z15 z16 z17 z18 z19 z20 z21 z22 z23 z24 z25 z26 z27 z28 z29 z30 z31 x k a b (by simpa using h1))
  · obtain ⟨hv, ho, hk⟩ := bkMay_of (by simpa using h1)
    clear h h1 e
    have writ : ∀ (c n:Int) (j:Nat) (b : Blk), (ansB c n)[j]? = some (some b) → b.writable = true := fun c n j b hj => by
      match j with
      | 0 => simp only [ansB, List.getElem?_cons_zero, Option.some.injEq] at hj; subst hj; rfl
      | j + 1 => simp [ansB] at hj
    let fb : Nat → Bool := fun j => ([b0, b1, b2, b3, b4, b5, b6, b7, b8, b9, b10, b11, b12, b13, b14, b15] : List Bool).getD j false
    let fz : Nat → Int := fun j => ([z0, z1, z2, z3, z4, z5, z6, z7, z8, z9, z10, z11, z12, z13, z14, z15, z16, z17, z18, z19, z20, z21, z22, z23, z24, z25, z26, z27, z28, z29, z30, z31] : List Int).getD j 0
    suffices hND : NeedRun 46 (bl fb) (zl fz) k a b x ∧ DoneRun 46 (bl fb) (zl fz) k a b x by
      have hN : NeedRun 46 [b0, b1, b2, b3, b4, b5, b6, b7, b8, b9, b10, b11, b12, b13, b14, b15] [z0, z1, z2, z3, z4, z5, z6, z7, z8, z9, z10, z11, z12, z13, z14, z15, z16, z17, z18, z19, z20, z21, z22, z23, z24, z25, z26, z27, z28, z29, z30, z31] k a b x := hND.1
      have hD : DoneRun 46 [b0, b1, b2, b3, b4, b5, b6, b7, b8, b9, b10, b11, b12, b13, b14, b15] [z0, z1, z2, z3, z4, z5, z6, z7, z8, z9, z10, z11, z12, z13, z14, z15, z16, z17, z18, z19, z20, z21, z22, z23, z24, z25, z26, z27, z28, z29, z30, z31] k a b x := hND.2
      exact ⟨fun h2 => ShOk.run lastBlk maysP_ok (by simp) rfl (fun r ys hy => by simpa only [argL, VRs, VR, E.val] using hle r ys hy) (hN hv ho (of_decide_eq_true h2)), fun h2 => ShOk.run lastBlk maysP_ok (writ _ _) rfl (fun r ys hy => by simpa only [argL, VRs, VR, E.val] using hle r ys hy) (hD hv ho (of_decide_eq_false h2))⟩
    rcases hk with rfl | rfl | rfl | rfl | rfl | rfl
    · obtain rfl : b = 0 := by simp [opMay] at ho; omega
      rcases (by simp [opMay] at ho; omega : a = 0 ∨ a = 1 ∨ a = 2 ∨ a = 3) with rfl | rfl | rfl | rfl
      · exact ⟨nbk_000 fb fz x, dbk_000 fb fz x⟩
      · exact ⟨nbk_010 fb fz x, dbk_010 fb fz x⟩
      · exact ⟨nbk_020 fb fz x, dbk_020 fb fz x⟩
      · exact ⟨nbk_030 fb fz x, dbk_030 fb fz x⟩
    · obtain rfl : b = 0 := by simp [opMay] at ho; omega
      rcases (by simp [opMay] at ho; omega : a = 0 ∨ a = 1 ∨ a = 2 ∨ a = 3) with rfl | rfl | rfl | rfl
      · exact ⟨nbk_100 fb fz x, dbk_100 fb fz x⟩
      · exact ⟨nbk_110 fb fz x, dbk_110 fb fz x⟩
      · exact ⟨nbk_120 fb fz x, dbk_120 fb fz x⟩
      · exact ⟨nbk_130 fb fz x, dbk_130 fb fz x⟩
    · obtain rfl : b = 0 := by simp [opMay] at ho; omega
      rcases (by simp [opMay] at ho; omega : a = 0 ∨ a = 1 ∨ a = 2 ∨ a = 3) with rfl | rfl | rfl | rfl
      · exact ⟨nbk_200 fb fz x, dbk_200 fb fz x⟩
      · exact ⟨nbk_210 fb fz x, dbk_210 fb fz x⟩
      · exact ⟨nbk_220 fb fz x, dbk_220 fb fz x⟩
      · exact ⟨nbk_230 fb fz x, dbk_230 fb fz x⟩
    · obtain rfl : b = 0 := by simp [opMay] at ho; omega
      rcases (by simp [opMay] at ho; omega : a = 0 ∨ a = 1 ∨ a = 2 ∨ a = 3) with rfl | rfl | rfl | rfl
      · exact ⟨nbk_300 fb fz x, dbk_300 fb fz x⟩
      · exact ⟨nbk_310 fb fz x, dbk_310 fb fz x⟩
      · exact ⟨nbk_320 fb fz x, dbk_320 fb fz x⟩
      · exact ⟨nbk_330 fb fz x, dbk_330 fb fz x⟩
    · rcases (by simp [opMay] at ho; omega : a = 0 ∨ a = 1 ∨ a = 2 ∨ a = 3) with rfl | rfl | rfl | rfl
      · rcases (by simp [opMay] at ho; omega : b = 0 ∨ b = 1 ∨ b = 2 ∨ b = 3) with rfl | rfl | rfl | rfl
        · exact ⟨nbk_400 fb fz x, dbk_400 fb fz x⟩
        · exact ⟨nbk_401 fb fz x, dbk_401 fb fz x⟩
        · exact ⟨nbk_402 fb fz x, dbk_402 fb fz x⟩
        · exact ⟨nbk_403 fb fz x, dbk_403 fb fz x⟩
      · rcases (by simp [opMay] at ho; omega : b = 0 ∨ b = 1 ∨ b = 2 ∨ b = 3) with rfl | rfl | rfl | rfl
        · exact ⟨nbk_410 fb fz x, dbk_410 fb fz x⟩
        · exact ⟨nbk_411 fb fz x, dbk_411 fb fz x⟩
        · exact ⟨nbk_412 fb fz x, dbk_412 fb fz x⟩
        · exact ⟨nbk_413 fb fz x, dbk_413 fb fz x⟩
      · rcases (by simp [opMay] at ho; omega : b = 0 ∨ b = 1 ∨ b = 2 ∨ b = 3) with rfl | rfl | rfl | rfl
        · exact ⟨nbk_420 fb fz x, dbk_420 fb fz x⟩
        · exact ⟨nbk_421 fb fz x, dbk_421 fb fz x⟩
        · exact ⟨nbk_422 fb fz x, dbk_422 fb fz x⟩
        · exact ⟨nbk_423 fb fz x, dbk_423 fb fz x⟩
      · rcases (by simp [opMay] at ho; omega : b = 0 ∨ b = 1 ∨ b = 2 ∨ b = 3) with rfl | rfl | rfl | rfl
        · exact ⟨nbk_430 fb fz x, dbk_430 fb fz x⟩
        · exact ⟨nbk_431 fb fz x, dbk_431 fb fz x⟩
        · exact ⟨nbk_432 fb fz x, dbk_432 fb fz x⟩
        · exact ⟨nbk_433 fb fz x, dbk_433 fb fz x⟩
    · obtain ⟨rfl, rfl⟩ : a = 0 ∧ b = 0 := by simp [opMay] at ho; omega
      exact ⟨nbk_500 fb fz x, dbk_500 fb fz x⟩

def bankS : Spec := spC 46 (viewG bkSh)
end
end Go.Ideal.B1
