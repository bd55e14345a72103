/- Put together of: K5 K5q K5r K410. Own text; nothing here is trusted. -/
import Derived.Test.YtpmgdkldhimofaaKDf
namespace Go.Ideal.K6
section
open Go.Proofs Go.Ideal Go.Ideal.L1
set_option linter.unusedSimpArgs false
set_option linter.unusedVariables false
set_option maxRecDepth 100000
set_option maxHeartbeats 80000000

def btT (out:Int) (x : E) : List (Nat × V) := [(0, .ptr 1 (.c 0)), (1, .ptr 2 (.c 0)), (4, .ptr 3 (.c 0)), (5, .int .i64 (.s out)), (6, .int .i64 x)]
def plB (hi lo at_:Int) : Blk := .own true 92 (fun _ => 0) 0 [.ptr 0 (.c 0), .int .i64 (.s hi), .int .i64 (.s lo), .int .i64 (.s at_)]
def opB (k A B x:Int) : Blk := .own true 27 (fun _ => 0) 0 [.int .i64 (.s k), .int .i64 (.s A), .int .i64 (.s B), .int .i64 (.s x)]
def bt3 (bs : List Bool) (zs : List Int) (a : V) (hi lo at_ k A B x:Int) : List (Option Blk) := [some (wkB bs zs a), some (plB hi lo at_), some (opB k A B x)]
def btB (bs : List Bool) (zs : List Int) (a : V) (hi lo at_ k A B x:Int) : List (Option Blk) := bt3 bs zs a hi lo at_ k A B x ++ [some (.own false 48 (fun _ => 0) 0 [.int .i64 (.c 0), .int .i64 (.c 0)])]
theorem cKG_0 (b0:Bool) (b1:Bool) (b2:Bool) (b3:Bool) (b4:Bool) (b5:Bool) (b6:Bool) (b7:Bool) (b8:Bool) (b9:Bool) (b10:Bool) (b11:Bool) (b12:Bool) (b13:Bool) (b14:Bool) (b15:Bool) (z0:Int) (z1:Int) (z2:Int) (z3:Int) (z4:Int) (z5:Int) (z6:Int) (z7:Int) (z8:Int) (z9:Int) (z10:Int) (z11:Int) (z12:Int) (z13:Int) (z14:Int) (z15:Int) (z16:Int) (z17:Int) (z18:Int) (z19:Int) (z20:Int) (z21:Int) (z22:Int) (z23:Int) (z24:Int) (z25:Int) (z26:Int) (z27:Int) (z28:Int) (z29:Int) (z30:Int) {R : Prop} (h : R) : (b0:Bool) = b0 ∧ ((b1:Bool) = b1 ∧ ((b2:Bool) = b2 ∧ ((b3:Bool) = b3 ∧ ((b4:Bool) = b4 ∧ ((b5:Bool) = b5 ∧ ((b6:Bool) = b6 ∧ ((b7:Bool) = b7 ∧ ((b8:Bool) = b8 ∧ ((b9:Bool) = b9 ∧ ((b10:Bool) = b10 ∧ ((b11:Bool) = b11 ∧ ((b12:Bool) = b12 ∧ ((b13:Bool) = b13 ∧ ((b14:Bool) = b14 ∧ ((b15:Bool) = b15 ∧ ((z0:Int) = z0 ∧ ((z1:Int) = z1 ∧ ((z2:Int) = z2 ∧ ((z3:Int) = z3 ∧ ((z4:Int) = z4 ∧ ((z5:Int) = z5 ∧ ((z6:Int) = z6 ∧ ((z7:Int) = z7 ∧ ((z8:Int) = z8 ∧ ((z9:Int) = z9 ∧ ((z10:Int) = z10 ∧ ((z11:Int) = z11 ∧ ((z12:Int) = z12 ∧ ((z13:Int) = z13 ∧ ((z14:Int) = z14 ∧ ((z15:Int) = z15 ∧ ((z16:Int) = z16 ∧ ((z17:Int) = z17 ∧ ((z18:Int) = z18 ∧ ((z19:Int) = z19 ∧ ((z20:Int) = z20 ∧ ((z21:Int) = z21 ∧ ((z22:Int) = z22 ∧ ((z23:Int) = z23 ∧ ((z24:Int) = z24 ∧ ((z25:Int) = z25 ∧ ((z26:Int) = z26 ∧ ((z27:Int) = z27 ∧ ((z28:Int) = z28 ∧ ((z29:Int) = z29 ∧ ((z30:Int) = z30 ∧ (R))))))))))))))))))))))))))))))))))))))))))))))) := ⟨rfl, ⟨rfl, ⟨rfl, ⟨rfl, ⟨rfl, ⟨rfl, ⟨rfl, ⟨rfl, ⟨rfl, ⟨rfl, ⟨rfl, ⟨rfl, ⟨rfl, ⟨rfl, ⟨rfl, ⟨rfl, ⟨rfl, ⟨rfl, ⟨rfl, ⟨rfl, ⟨rfl, ⟨rfl, ⟨rfl, ⟨rfl, ⟨rfl, ⟨rfl, ⟨rfl, ⟨rfl, ⟨rfl, ⟨rfl, ⟨rfl, ⟨rfl, ⟨rfl, ⟨rfl, ⟨rfl, ⟨rfl, ⟨rfl, ⟨rfl, ⟨rfl, ⟨rfl, ⟨rfl, ⟨rfl, ⟨rfl, ⟨rfl, ⟨rfl, ⟨rfl, ⟨rfl, h⟩⟩⟩⟩⟩⟩⟩⟩⟩⟩⟩⟩⟩⟩⟩⟩⟩⟩⟩⟩⟩⟩⟩⟩⟩⟩⟩⟩⟩⟩⟩⟩⟩⟩⟩⟩⟩⟩⟩⟩⟩⟩⟩⟩⟩⟩⟩
variable (b0 b1 b2 b3 b4 b5 b6 b7 b8 b9 b10 b11 b12 b13 b14 b15:Bool) (z0 z1 z2 z3 z4 z5 z6 z7 z8 z9 z10 z11 z12 z13 z14 z15 z16 z17 z18 z19 z20 z21 z22 z23 z24 z25 z26 z27 z28 z29 z30 z31:Int) (hi lo at_ k A B x0 x out q:Int)
theorem bt_g : ∃ hh, vcOf (runGo Try.prog lkS noL 3000 39 [] [1, 1, 0, 1, 0] (Tr.ofList [.ptr 1 (.c 0), .ptr 2 (.c 0)]) (Hm (bt3 [b0, b1, b2, b3, b4, b5, b6, b7, b8, b9, b10, b11, b12, b13, b14, b15] [z0, z1, z2, z3, z4, z5, z6, z7, z8, z9, z10, z11, z12, z13, z14, z15, z16, z17, z18, z19, z20, z21, z22, z23, z24, z25, z26, z27, z28, z29, z30, z31] .nili hi lo at_ k A B x0) 3) hh)
    (reached fun T1 H1 => weakP T1 H1 (btT 0 (.s at_)) (btB [b0, b1, b2, b3, b4, b5, b6, b7, b8, b9, b10, b11, b12, b13, b14, b15] [z0, z1, z2, z3, z4, z5, z6, z7, z8, z9, z10, z11, z12, z13, z14, z15, z16, z17, z18, z19, z20, z21, z22, z23, z24, z25, z26, z27, z28, z29, z30, z31] .nili hi lo at_ k A B x0) 4) := by

  refine vcIntro [] (an tt (an (an tt (an tt (an tt (an (ri ((0:Int))) (an (ri at_) tt))))) (an (zo (cKG_0 b0 b1 b2 b3 b4 b5 b6 b7 b8 b9 b10 b11 b12 b13 b14 b15 z0 z1 z2 z3 z4 z5 z6 z7 z8 z9 z10 z11 z12 z13 z14 z15 z16 z17 z18 z19 z20 z21 z22 z23 z24 z25 z26 z27 z28 z29 z30 (an (ri z31) tt))) (an (zo (an tt (an (ri hi) (an (ri lo) (ri at_))))) (an (zo (an (ri k) (an (ri A) (an (ri B) (ri x0))))) (an (zo (an tt tt)) tt)))))) ?_
  kernel_rfl
theorem bt_n (hx : x ≠ -1) (hy : x ≤ B) (ho : lkOk x 0) (g0 : 0 ≤ x) (hz : nwOk [z0, z1, z2, z3, z4, z5, z6, z7, z8, z9, z10, z11, z12, z13, z14, z15, z16, z17, z18, z19, z20, z21, z22, z23, z24, z25, z26, z27, z28, z29, z30, z31] (lk x 0)) (hk : kn [b0, b1, b2, b3, b4, b5, b6, b7, b8, b9, b10, b11, b12, b13, b14, b15] (lk x 0) = true) : ∃ hh, vcOf (runAt Try.prog lkS noL 3000 39 [1, 1, 0, 1, 0, 0] (Tr.ofPairs (btT out (.s x))) (Hm (btB [b0, b1, b2, b3, b4, b5, b6, b7, b8, b9, b10, b11, b12, b13, b14, b15] [z0, z1, z2, z3, z4, z5, z6, z7, z8, z9, z10, z11, z12, z13, z14, z15, z16, z17, z18, z19, z20, z21, z22, z23, z24, z25, z26, z27, z28, z29, z30, z31] .nili hi lo at_ k A B x0) 4) hh)
    (roundK 4 [0, 1, 2, 3] (btT (bits .or .i64 out (shl .i64 1 x)) (.s (nxV x (nw [z0, z1, z2, z3, z4, z5, z6, z7, z8, z9, z10, z11, z12, z13, z14, z15, z16, z17, z18, z19, z20, z21, z22, z23, z24, z25, z26, z27, z28, z29, z30, z31] (lk x 0))))) (btB [b0, b1, b2, b3, b4, b5, b6, b7, b8, b9, b10, b11, b12, b13, b14, b15] [z0, z1, z2, z3, z4, z5, z6, z7, z8, z9, z10, z11, z12, z13, z14, z15, z16, z17, z18, z19, z20, z21, z22, z23, z24, z25, z26, z27, z28, z29, z30, z31] .nili hi lo at_ k A B x0) True 0 [] [] False) := by

  rcases eb (x != (-1:Int)) with h0 | h0
  ·
   rcases eb (decide (x ≤ B)) with h1 | h1
   ·
    rcases eb (kn [b0, b1, b2, b3, b4, b5, b6, b7, b8, b9, b10, b11, b12, b13, b14, b15] (lk x 0)) with h2 | h2
    ·
     refine vcIntro (hx2 3 7) (an (an (an (show (-1:Int) ≤ x by unfold lkOk at ho; omega) (an (show x + (1:Int) ≤ (5:Int) by unfold lkOk at ho; omega) (an (show (0:Int) ≤ (0:Int) by simp) (show (1:Int) ≤ (2:Int) by simp)))) (an (an (show (0:Int) ≤ nw [z0, z1, z2, z3, z4, z5, z6, z7, z8, z9, z10, z11, z12, z13, z14, z15, z16, z17, z18, z19, z20, z21, z22, z23, z24, z25, z26, z27, z28, z29, z30, z31] (lk x 0) by unfold nwOk at hz; omega) (show nw [z0, z1, z2, z3, z4, z5, z6, z7, z8, z9, z10, z11, z12, z13, z14, z15, z16, z17, z18, z19, z20, z21, z22, z23, z24, z25, z26, z27, z28, z29, z30, z31] (lk x 0) + (1:Int) ≤ (1099511627776:Int) by unfold nwOk at hz; omega)) (an h2 (an (show (0:Int) ≤ x by unfold lkOk at ho; omega) (u2 h1 h0))))) (an (an (an tt (an tt (an tt (an (ri (bits BinOp.or IntKind.i64 out (shl IntKind.i64 1 x))) (an (ri (nxV x (nw [z0, z1, z2, z3, z4, z5, z6, z7, z8, z9, z10, z11, z12, z13, z14, z15, z16, z17, z18, z19, z20, z21, z22, z23, z24, z25, z26, z27, z28, z29, z30, z31] (lk x 0)))) tt))))) (an (zo (cKG_0 b0 b1 b2 b3 b4 b5 b6 b7 b8 b9 b10 b11 b12 b13 b14 b15 z0 z1 z2 z3 z4 z5 z6 z7 z8 z9 z10 z11 z12 z13 z14 z15 z16 z17 z18 z19 z20 z21 z22 z23 z24 z25 z26 z27 z28 z29 z30 (an (ri z31) tt))) (an (zo (an tt (an (ri hi) (an (ri lo) (ri at_))))) (an (zo (an (ri k) (an (ri A) (an (ri B) (ri x0))))) (an (zo (an tt tt)) tt))))) tt)) ?_
     kernel_rfl
    · exact ff (by rw [hk] at *; simp at *)
   · exact ff (by simp at *; omega)
  · exact ff (by simp at *; omega)
theorem bt_m (hx : x ≠ -1) (hy : x ≤ B) (ho : lkOk x 0) (g0 : 0 ≤ x) (hk : kn [b0, b1, b2, b3, b4, b5, b6, b7, b8, b9, b10, b11, b12, b13, b14, b15] (lk x 0) = false) : ∃ hh, vcOf (runAt Try.prog lkS noL 3000 39 [1, 1, 0, 1, 0, 0] (Tr.ofPairs (btT out (.s x))) (Hm (btB [b0, b1, b2, b3, b4, b5, b6, b7, b8, b9, b10, b11, b12, b13, b14, b15] [z0, z1, z2, z3, z4, z5, z6, z7, z8, z9, z10, z11, z12, z13, z14, z15, z16, z17, z18, z19, z20, z21, z22, z23, z24, z25, z26, z27, z28, z29, z30, z31] .nili hi lo at_ k A B x0) 4) hh)
    (roundK 4 [0, 1, 2, 3] (btT (bits .or .i64 out (shl .i64 1 x)) (.s (-1))) (btB [b0, b1, b2, b3, b4, b5, b6, b7, b8, b9, b10, b11, b12, b13, b14, b15] [z0, z1, z2, z3, z4, z5, z6, z7, z8, z9, z10, z11, z12, z13, z14, z15, z16, z17, z18, z19, z20, z21, z22, z23, z24, z25, z26, z27, z28, z29, z30, z31] (askV (lk x 0)) hi lo at_ k A B x0) True 0 [] [] False) := by

  rcases eb (x != (-1:Int)) with h0 | h0
  ·
   rcases eb (decide (x ≤ B)) with h1 | h1
   ·
    rcases eb (kn [b0, b1, b2, b3, b4, b5, b6, b7, b8, b9, b10, b11, b12, b13, b14, b15] (lk x 0)) with h2 | h2
    · exact ff (by rw [hk] at *; simp at *)
    ·
     refine vcIntro (hx2 3 3) (an (an (an (show (-1:Int) ≤ x by unfold lkOk at ho; omega) (an (show x + (1:Int) ≤ (5:Int) by unfold lkOk at ho; omega) (an (show (0:Int) ≤ (0:Int) by simp) (show (1:Int) ≤ (2:Int) by simp)))) (an h2 (an (show (0:Int) ≤ x by unfold lkOk at ho; omega) (u2 h1 h0)))) (an (an (an tt (an tt (an tt (an (ri (bits BinOp.or IntKind.i64 out (shl IntKind.i64 1 x))) (an (ri ((-1:Int))) tt))))) (an (zo (cKG_0 b0 b1 b2 b3 b4 b5 b6 b7 b8 b9 b10 b11 b12 b13 b14 b15 z0 z1 z2 z3 z4 z5 z6 z7 z8 z9 z10 z11 z12 z13 z14 z15 z16 z17 z18 z19 z20 z21 z22 z23 z24 z25 z26 z27 z28 z29 z30 (an (ri z31) (ri (lk x 0))))) (an (zo (an tt (an (ri hi) (an (ri lo) (ri at_))))) (an (zo (an (ri k) (an (ri A) (an (ri B) (ri x0))))) (an (zo (an tt tt)) tt))))) tt)) ?_
     kernel_rfl
   · exact ff (by simp at *; omega)
  · exact ff (by simp at *; omega)
theorem bt_x (hk : ¬ (x ≠ -1 ∧ x ≤ B)) : ∃ hh, vcOf (runAt Try.prog lkS noL 3000 39 [1, 1, 0, 1, 0, 0] (Tr.ofPairs (btT out (.s x))) (Hm (btB [b0, b1, b2, b3, b4, b5, b6, b7, b8, b9, b10, b11, b12, b13, b14, b15] [z0, z1, z2, z3, z4, z5, z6, z7, z8, z9, z10, z11, z12, z13, z14, z15, z16, z17, z18, z19, z20, z21, z22, z23, z24, z25, z26, z27, z28, z29, z30, z31] .nili hi lo at_ k A B x0) 4) hh)
    (roundK 4 [0, 1, 2, 3] [] [] False 0 (btT out (.s x)) (btB [b0, b1, b2, b3, b4, b5, b6, b7, b8, b9, b10, b11, b12, b13, b14, b15] [z0, z1, z2, z3, z4, z5, z6, z7, z8, z9, z10, z11, z12, z13, z14, z15, z16, z17, z18, z19, z20, z21, z22, z23, z24, z25, z26, z27, z28, z29, z30, z31] .nili hi lo at_ k A B x0) True) := by

  rcases eb (x != (-1:Int)) with h0 | h0
  ·
   rcases eb (decide (x ≤ B)) with h1 | h1
   · exact ff (by simp at *; omega)
   ·
    refine vcIntro (hx2 2 1) (an (u2 h1 h0) (an (an (an tt (an tt (an tt (an (ri out) (an (ri x) tt))))) (an (zo (cKG_0 b0 b1 b2 b3 b4 b5 b6 b7 b8 b9 b10 b11 b12 b13 b14 b15 z0 z1 z2 z3 z4 z5 z6 z7 z8 z9 z10 z11 z12 z13 z14 z15 z16 z17 z18 z19 z20 z21 z22 z23 z24 z25 z26 z27 z28 z29 z30 (an (ri z31) tt))) (an (zo (an tt (an (ri hi) (an (ri lo) (ri at_))))) (an (zo (an (ri k) (an (ri A) (an (ri B) (ri x0))))) (an (zo (an tt tt)) tt))))) tt)) ?_
    kernel_rfl
  ·
   refine vcIntro [false] (an (an h0 tt) (an (an (an tt (an tt (an tt (an (ri out) (an (ri x) tt))))) (an (zo (cKG_0 b0 b1 b2 b3 b4 b5 b6 b7 b8 b9 b10 b11 b12 b13 b14 b15 z0 z1 z2 z3 z4 z5 z6 z7 z8 z9 z10 z11 z12 z13 z14 z15 z16 z17 z18 z19 z20 z21 z22 z23 z24 z25 z26 z27 z28 z29 z30 (an (ri z31) tt))) (an (zo (an tt (an (ri hi) (an (ri lo) (ri at_))))) (an (zo (an (ri k) (an (ri A) (an (ri B) (ri x0))))) (an (zo (an tt tt)) tt))))) tt)) ?_
   kernel_rfl
theorem bt_y (hk : x = -1) : ∃ hh, vcOf (runAt Try.prog lkS noL 3000 39 [1, 1, 0, 1, 0, 0] (Tr.ofPairs (btT out (.s x))) (Hm (btB [b0, b1, b2, b3, b4, b5, b6, b7, b8, b9, b10, b11, b12, b13, b14, b15] [z0, z1, z2, z3, z4, z5, z6, z7, z8, z9, z10, z11, z12, z13, z14, z15, z16, z17, z18, z19, z20, z21, z22, z23, z24, z25, z26, z27, z28, z29, z30, z31] (askV q) hi lo at_ k A B x0) 4) hh)
    (roundK 4 [0, 1, 2, 3] [] [] False 0 (btT out (.s x)) (btB [b0, b1, b2, b3, b4, b5, b6, b7, b8, b9, b10, b11, b12, b13, b14, b15] [z0, z1, z2, z3, z4, z5, z6, z7, z8, z9, z10, z11, z12, z13, z14, z15, z16, z17, z18, z19, z20, z21, z22, z23, z24, z25, z26, z27, z28, z29, z30, z31] (askV q) hi lo at_ k A B x0) True) := by

  rcases eb (x != (-1:Int)) with h0 | h0
  · exact ff (by rw [hk] at *; simp at *)
  ·
   refine vcIntro [false] (an (an h0 tt) (an (an (an tt (an tt (an tt (an (ri out) (an (ri x) tt))))) (an (zo (cKG_0 b0 b1 b2 b3 b4 b5 b6 b7 b8 b9 b10 b11 b12 b13 b14 b15 z0 z1 z2 z3 z4 z5 z6 z7 z8 z9 z10 z11 z12 z13 z14 z15 z16 z17 z18 z19 z20 z21 z22 z23 z24 z25 z26 z27 z28 z29 z30 (an (ri z31) (ri q)))) (an (zo (an tt (an (ri hi) (an (ri lo) (ri at_))))) (an (zo (an (ri k) (an (ri A) (an (ri B) (ri x0))))) (an (zo (an tt tt)) tt))))) tt)) ?_
   kernel_rfl
theorem bt_en : ∃ hh, vcOf (runRet Try.prog lkS noL 3000 39 [1, 1, 0, 1, 0] (.exit 0) (Tr.ofPairs (btT out (.s x))) (Hm (btB [b0, b1, b2, b3, b4, b5, b6, b7, b8, b9, b10, b11, b12, b13, b14, b15] [z0, z1, z2, z3, z4, z5, z6, z7, z8, z9, z10, z11, z12, z13, z14, z15, z16, z17, z18, z19, z20, z21, z22, z23, z24, z25, z26, z27, z28, z29, z30, z31] .nili hi lo at_ k A B x0) 4) hh)
    (fun v H1 => retP 3 [0, 1, 2] v H1 (.agg [.int .i64 (.c 0), .int .i64 (.s out)]) [some (wkB [b0, b1, b2, b3, b4, b5, b6, b7, b8, b9, b10, b11, b12, b13, b14, b15] [z0, z1, z2, z3, z4, z5, z6, z7, z8, z9, z10, z11, z12, z13, z14, z15, z16, z17, z18, z19, z20, z21, z22, z23, z24, z25, z26, z27, z28, z29, z30, z31] .nili), none, none] 3) := by

  refine vcIntro [] (an tt (an (an tt (ri out)) (an (zo (cKG_0 b0 b1 b2 b3 b4 b5 b6 b7 b8 b9 b10 b11 b12 b13 b14 b15 z0 z1 z2 z3 z4 z5 z6 z7 z8 z9 z10 z11 z12 z13 z14 z15 z16 z17 z18 z19 z20 z21 z22 z23 z24 z25 z26 z27 z28 z29 z30 (an (ri z31) tt))) tt))) ?_
  kernel_rfl
theorem bt_ea : ∃ hh, vcOf (runRet Try.prog lkS noL 3000 39 [1, 1, 0, 1, 0] (.exit 0) (Tr.ofPairs (btT out (.s x))) (Hm (btB [b0, b1, b2, b3, b4, b5, b6, b7, b8, b9, b10, b11, b12, b13, b14, b15] [z0, z1, z2, z3, z4, z5, z6, z7, z8, z9, z10, z11, z12, z13, z14, z15, z16, z17, z18, z19, z20, z21, z22, z23, z24, z25, z26, z27, z28, z29, z30, z31] (askV q) hi lo at_ k A B x0) 4) hh)
    (fun v H1 => retP 3 [0, 1, 2] v H1 (.agg [.int .i64 (.c 0), .int .i64 (.s out)]) [some (wkB [b0, b1, b2, b3, b4, b5, b6, b7, b8, b9, b10, b11, b12, b13, b14, b15] [z0, z1, z2, z3, z4, z5, z6, z7, z8, z9, z10, z11, z12, z13, z14, z15, z16, z17, z18, z19, z20, z21, z22, z23, z24, z25, z26, z27, z28, z29, z30, z31] (askV q)), none, none] 3) := by

  refine vcIntro [] (an tt (an (an tt (ri out)) (an (zo (cKG_0 b0 b1 b2 b3 b4 b5 b6 b7 b8 b9 b10 b11 b12 b13 b14 b15 z0 z1 z2 z3 z4 z5 z6 z7 z8 z9 z10 z11 z12 z13 z14 z15 z16 z17 z18 z19 z20 z21 z22 z23 z24 z25 z26 z27 z28 z29 z30 (an (ri z31) (ri q)))) tt))) ?_
  kernel_rfl
end
end Go.Ideal.K6

namespace Go.Ideal.K6
section
open Go.Proofs Go.Ideal Go.Ideal.L1
set_option linter.unusedSimpArgs false
set_option linter.unusedVariables false
set_option maxRecDepth 100000
set_option maxHeartbeats 8000000

structure Bt where
  out : Int
  x : Int
  a : Option Int
def btI (bs : List Bool) (zs : List Int) (B at0:Int) (s : Bt) : Prop := (match s.a with
  | none => ∃ m : Nat, ((s.x = -1 ∧ 1 ≤ m) ∨ (0 ≤ s.x ∧ s.x < 5 ∧ 6 - s.x ≤ (m:Int))) ∧ btG bs zs B 6 at0 0 = btG bs zs B m s.x s.out
  | some q => s.x = -1 ∧ btG bs zs B 6 at0 0 = (q, s.out) ∧ 2 ≤ q)
def btC (B:Int) (s : Bt) : Prop := s.a = none ∧ s.x ≠ -1 ∧ s.x ≤ B
def btO (s : Bt) : Int := bits .or .i64 s.out (shl .i64 1 s.x)
def btN (bs : List Bool) (zs : List Int) (s : Bt) : Bt := if kn bs (lk s.x 0) = true then ⟨btO s, nxV s.x (nw zs (lk s.x 0)), none⟩ else ⟨btO s, -1, some (lk s.x 0)⟩
def btM (s : Bt) : Nat := if s.a = none then (if s.x = -1 then 0 else (6 - s.x).toNat) else 0
theorem btI_next {bs : List Bool} {zs : List Int} {B at0 : Int} {s : Bt} (h : btI bs zs B at0 s) (hc : btC B s) : btI bs zs B at0 (btN bs zs s) ∧ btM (btN bs zs s) < btM s := by
  obtain ⟨out, x, a⟩ := s
  obtain ⟨rfl, c2, c3⟩ := hc
  obtain ⟨m, g1, g2⟩ := h
  simp only at c2 c3 g1 g2
  have g1 := g1.resolve_left (fun h => c2 h.1)
  obtain ⟨m', rfl⟩ : ∃ m', m = m' + 1 := ⟨m - 1, by omega⟩
  have hx := nxV_ok x (nw zs (lk x 0))
  unfold btN btM
  by_cases hk : kn bs (lk x 0) = true
  · simp only [hk, if_true, c2, if_false]
    refine ⟨⟨m', ?_, ?_⟩, ?_⟩
    · simp only; omega
    · rw [g2]
      show (if x ≠ -1 ∧ x ≤ B then (if kn bs (lk x 0) = true then btG bs zs B m' (nxV x (nw zs (lk x 0))) (bits .or .i64 out (shl .i64 1 x)) else _) else _) = _
      rw [if_pos ⟨c2, c3⟩, if_pos hk]; rfl
    · split <;> omega
  · simp only [hk, if_false, c2, if_true, Bool.false_eq_true]
    refine ⟨⟨rfl, ?_, by unfold lk; omega⟩, by simp; omega⟩
    rw [g2]
    show (if x ≠ -1 ∧ x ≤ B then (if kn bs (lk x 0) = true then _ else (lk x 0, bits .or .i64 out (shl .i64 1 x))) else _) = _
    rw [if_pos ⟨c2, c3⟩, if_neg hk]; rfl
theorem btI_end {bs : List Bool} {zs : List Int} {B at0 : Int} {s : Bt} (h : btI bs zs B at0 s) (hc : ¬ btC B s) : (s.a = none → btG bs zs B 6 at0 0 = (-1, s.out)) ∧ ∀ q, s.a = some q → btG bs zs B 6 at0 0 = (q, s.out) ∧ q ≠ -1 := by
  obtain ⟨out, x, a⟩ := s
  cases a with
  | none =>
    obtain ⟨m, g1, g2⟩ := h
    refine ⟨fun _ => ?_, fun q hq => by simp at hq⟩
    simp only at g1 g2
    obtain ⟨m', rfl⟩ : ∃ m', m = m' + 1 := ⟨m - 1, by omega⟩
    rw [g2]
    show (if x ≠ -1 ∧ x ≤ B then _ else (-1, out)) = _
    rw [if_neg (fun hh => hc ⟨rfl, hh.1, hh.2⟩)]
  | some q =>
    obtain ⟨g1, g2, g3⟩ := h
    refine ⟨fun hq => by simp at hq, fun q' hq => ?_⟩
    simp only [Option.some.injEq] at hq
    subst hq
    exact ⟨g2, by omega⟩
theorem bt_q (b0 b1 b2 b3 b4 b5 b6 b7 b8 b9 b10 b11 b12 b13 b14 b15:Bool) (z0 z1 z2 z3 z4 z5 z6 z7 z8 z9 z10 z11 z12 z13 z14 z15 z16 z17 z18 z19 z20 z21 z22 z23 z24 z25 z26 z27 z28 z29 z30 z31:Int) (hi lo at_ k A B x0:Int) (ha : -1 ≤ at_ ∧ at_ < 5) (hz : zsOk [z0, z1, z2, z3, z4, z5, z6, z7, z8, z9, z10, z11, z12, z13, z14, z15, z16, z17, z18, z19, z20, z21, z22, z23, z24, z25, z26, z27, z28, z29, z30, z31]) :
    CallQ Try.prog 39 [.ptr 1 (.c 0), .ptr 2 (.c 0)] (Hm (bt3 [b0, b1, b2, b3, b4, b5, b6, b7, b8, b9, b10, b11, b12, b13, b14, b15] [z0, z1, z2, z3, z4, z5, z6, z7, z8, z9, z10, z11, z12, z13, z14, z15, z16, z17, z18, z19, z20, z21, z22, z23, z24, z25, z26, z27, z28, z29, z30, z31] .nili hi lo at_ k A B x0) 3)
      (fun v H1 => retP 3 [0, 1, 2] v H1 (.agg [.int .i64 (.c 0), .int .i64 (.s (btG [b0, b1, b2, b3, b4, b5, b6, b7, b8, b9, b10, b11, b12, b13, b14, b15] [z0, z1, z2, z3, z4, z5, z6, z7, z8, z9, z10, z11, z12, z13, z14, z15, z16, z17, z18, z19, z20, z21, z22, z23, z24, z25, z26, z27, z28, z29, z30, z31] B 6 at_ 0).2)]) [some (wkB [b0, b1, b2, b3, b4, b5, b6, b7, b8, b9, b10, b11, b12, b13, b14, b15] [z0, z1, z2, z3, z4, z5, z6, z7, z8, z9, z10, z11, z12, z13, z14, z15, z16, z17, z18, z19, z20, z21, z22, z23, z24, z25, z26, z27, z28, z29, z30, z31] (if (btG [b0, b1, b2, b3, b4, b5, b6, b7, b8, b9, b10, b11, b12, b13, b14, b15] [z0, z1, z2, z3, z4, z5, z6, z7, z8, z9, z10, z11, z12, z13, z14, z15, z16, z17, z18, z19, z20, z21, z22, z23, z24, z25, z26, z27, z28, z29, z30, z31] B 6 at_ 0).1 = -1 then .nili else askV (btG [b0, b1, b2, b3, b4, b5, b6, b7, b8, b9, b10, b11, b12, b13, b14, b15] [z0, z1, z2, z3, z4, z5, z6, z7, z8, z9, z10, z11, z12, z13, z14, z15, z16, z17, z18, z19, z20, z21, z22, z23, z24, z25, z26, z27, z28, z29, z30, z31] B 6 at_ 0).1)), none, none] 3) := by
  refine CallQ.loop1 (n := 3000) lkS_ok mixed (fun s : Bt => btT s.out (.s s.x)) (fun s => btB [b0, b1, b2, b3, b4, b5, b6, b7, b8, b9, b10, b11, b12, b13, b14, b15] [z0, z1, z2, z3, z4, z5, z6, z7, z8, z9, z10, z11, z12, z13, z14, z15, z16, z17, z18, z19, z20, z21, z22, z23, z24, z25, z26, z27, z28, z29, z30, z31] (aV s.a) hi lo at_ k A B x0) 4 [0, 1, 2, 3] btM (btI [b0, b1, b2, b3, b4, b5, b6, b7, b8, b9, b10, b11, b12, b13, b14, b15] [z0, z1, z2, z3, z4, z5, z6, z7, z8, z9, z10, z11, z12, z13, z14, z15, z16, z17, z18, z19, z20, z21, z22, z23, z24, z25, z26, z27, z28, z29, z30, z31] B at_) (btN [b0, b1, b2, b3, b4, b5, b6, b7, b8, b9, b10, b11, b12, b13, b14, b15] [z0, z1, z2, z3, z4, z5, z6, z7, z8, z9, z10, z11, z12, z13, z14, z15, z16, z17, z18, z19, z20, z21, z22, z23, z24, z25, z26, z27, z28, z29, z30, z31]) (btC B) 0
    (fun s => btT s.out (.s s.x)) (fun s => btB [b0, b1, b2, b3, b4, b5, b6, b7, b8, b9, b10, b11, b12, b13, b14, b15] [z0, z1, z2, z3, z4, z5, z6, z7, z8, z9, z10, z11, z12, z13, z14, z15, z16, z17, z18, z19, z20, z21, z22, z23, z24, z25, z26, z27, z28, z29, z30, z31] (aV s.a) hi lo at_ k A B x0) (fun s => ¬ btC B s) (by kernel_rfl) (by kernel_rfl) ⟨0, at_, none⟩ ⟨6, by simp only; omega, rfl⟩ (bt_g b0 b1 b2 b3 b4 b5 b6 b7 b8 b9 b10 b11 b12 b13 b14 b15 z0 z1 z2 z3 z4 z5 z6 z7 z8 z9 z10 z11 z12 z13 z14 z15 z16 z17 z18 z19 z20 z21 z22 z23 z24 z25 z26 z27 z28 z29 z30 z31 hi lo at_ k A B x0) (fun s hs => ?_) (fun s hs hc => btI_next hs hc) (fun s hs hc => ?_)
  · obtain ⟨out, x, a⟩ := s
    have upn : ∀ {ts : List (Nat × V)} {bs : List (Option Blk)} {tx : List (Nat × V)} {bx : List (Option Blk)} {c fin : Prop} {x : Out × Tr V} {H : Hp}, c → roundK 4 [0, 1, 2, 3] ts bs True 0 [] [] False x H → roundK 4 [0, 1, 2, 3] ts bs c 0 tx bx fin x H := by
      intro ts bs tx bx c fin x H hc h
      obtain ⟨oo, T⟩ := x
      cases oo with
      | norm => exact ⟨h.1, hc⟩
      | exit k =>
        simp only [roundK] at h
        split at h
        · exact h.2.elim
        · exact h.elim
      | ret => exact h.elim
    have upx : ∀ {ts : List (Nat × V)} {bs : List (Option Blk)} {tx : List (Nat × V)} {bx : List (Option Blk)} {c fin : Prop} {x : Out × Tr V} {H : Hp}, fin → roundK 4 [0, 1, 2, 3] [] [] False 0 tx bx True x H → roundK 4 [0, 1, 2, 3] ts bs c 0 tx bx fin x H := by
      intro ts bs tx bx c fin x H hf h
      obtain ⟨oo, T⟩ := x
      cases oo with
      | norm => exact h.2.elim
      | exit k =>
        simp only [roundK] at h ⊢
        by_cases hi : Nat.beq k 0 = true
        · rw [if_pos hi] at h ⊢; exact ⟨h.1, hf⟩
        · rw [if_neg hi] at h; exact h.elim
      | ret => exact h.elim
    cases a with
    | some q =>
      obtain ⟨hh, hb⟩ := bt_y b0 b1 b2 b3 b4 b5 b6 b7 b8 b9 b10 b11 b12 b13 b14 b15 z0 z1 z2 z3 z4 z5 z6 z7 z8 z9 z10 z11 z12 z13 z14 z15 z16 z17 z18 z19 z20 z21 z22 z23 z24 z25 z26 z27 z28 z29 z30 z31 hi lo at_ k A B x0 x out q hs.1
      exact ⟨hh, vcOf_mono hb fun y H hy => upx (fun hc => by simp [btC] at hc) hy⟩
    | none =>
      by_cases hc : x ≠ -1 ∧ x ≤ B
      · obtain ⟨m, g1, g2⟩ := hs
        simp only at g1
        have g1 := g1.resolve_left (fun h => hc.1 h.1)
        have hox : lkOk x 0 := by unfold lkOk; omega
        by_cases hk : kn [b0, b1, b2, b3, b4, b5, b6, b7, b8, b9, b10, b11, b12, b13, b14, b15] (lk x 0) = true
        · obtain ⟨hh, hb⟩ := bt_n b0 b1 b2 b3 b4 b5 b6 b7 b8 b9 b10 b11 b12 b13 b14 b15 z0 z1 z2 z3 z4 z5 z6 z7 z8 z9 z10 z11 z12 z13 z14 z15 z16 z17 z18 z19 z20 z21 z22 z23 z24 z25 z26 z27 z28 z29 z30 z31 hi lo at_ k A B x0 x out hc.1 hc.2 hox g1.1 (hz _ _ hox) hk
          refine ⟨hh, vcOf_mono hb fun y H hy => upn ⟨rfl, hc.1, hc.2⟩ ?_⟩
          simp only [btN, hk, if_true]; exact hy
        · obtain ⟨hh, hb⟩ := bt_m b0 b1 b2 b3 b4 b5 b6 b7 b8 b9 b10 b11 b12 b13 b14 b15 z0 z1 z2 z3 z4 z5 z6 z7 z8 z9 z10 z11 z12 z13 z14 z15 z16 z17 z18 z19 z20 z21 z22 z23 z24 z25 z26 z27 z28 z29 z30 z31 hi lo at_ k A B x0 x out hc.1 hc.2 hox g1.1 (by simpa using hk)
          refine ⟨hh, vcOf_mono hb fun y H hy => upn ⟨rfl, hc.1, hc.2⟩ ?_⟩
          simp only [btN, hk, if_false, Bool.false_eq_true]; exact hy
      · obtain ⟨hh, hb⟩ := bt_x b0 b1 b2 b3 b4 b5 b6 b7 b8 b9 b10 b11 b12 b13 b14 b15 z0 z1 z2 z3 z4 z5 z6 z7 z8 z9 z10 z11 z12 z13 z14 z15 z16 z17 z18 z19 z20 z21 z22 z23 z24 z25 z26 z27 z28 z29 z30 z31 hi lo at_ k A B x0 x out hc
        exact ⟨hh, vcOf_mono hb fun y H hy => upx (fun h => hc ⟨h.2.1, h.2.2⟩) hy⟩
  · obtain ⟨e1, e2⟩ := btI_end hs hc
    obtain ⟨out, x, a⟩ := s
    cases a with
    | none =>
      obtain ⟨hh, hb⟩ := bt_en b0 b1 b2 b3 b4 b5 b6 b7 b8 b9 b10 b11 b12 b13 b14 b15 z0 z1 z2 z3 z4 z5 z6 z7 z8 z9 z10 z11 z12 z13 z14 z15 z16 z17 z18 z19 z20 z21 z22 z23 z24 z25 z26 z27 z28 z29 z30 z31 hi lo at_ k A B x0 x out
      refine ⟨hh, vcOf_mono hb fun v H1 hv => ?_⟩
      rw [e1 rfl]
      simp only [if_true]
      exact hv
    | some q =>
      obtain ⟨hh, hb⟩ := bt_ea b0 b1 b2 b3 b4 b5 b6 b7 b8 b9 b10 b11 b12 b13 b14 b15 z0 z1 z2 z3 z4 z5 z6 z7 z8 z9 z10 z11 z12 z13 z14 z15 z16 z17 z18 z19 z20 z21 z22 z23 z24 z25 z26 z27 z28 z29 z30 z31 hi lo at_ k A B x0 x out q
      refine ⟨hh, vcOf_mono hb fun v H1 hv => ?_⟩
      obtain ⟨e3, e4⟩ := e2 q rfl
      rw [e3]
      simp only [e4, if_false]
      exact hv

def btMk (w p o:Nat) (bs : List Bool) (zs : List Int) (at_ B:Int) : List (Bool × Ct) × Ct :=
  ([(decide ((btG bs zs B 6 at_ 0).1 = -1), ⟨[w, p, o], [0], .agg [.int .i64 (.c 0), .int .i64 (.s (btG bs zs B 6 at_ 0).2)], [some (wkB bs zs .nili), none, none], 3, [-1 ≤ at_ ∧ at_ < 5, zsOk zs]⟩)],
   ⟨[w, p, o], [0], .agg [.int .i64 (.c 0), .int .i64 (.s (btG bs zs B 6 at_ 0).2)], [some (wkB bs zs (askV (btG bs zs B 6 at_ 0).1)), none, none], 3, [-1 ≤ at_ ∧ at_ < 5, zsOk zs]⟩)
def btCt : List V → Hp → Option (List (Bool × Ct) × Ct)
  | [.ptr p (.c 0), .ptr o (.c 0)], H => match H.tr.get p, H.tr.get o with
    | some (.own false e _ 0 (.ptr w (.c 0) :: ps)), some (.own false e2 _ 0 os) => if Nat.beq e 92 && (Nat.beq e2 27 && (Nat.beq ps.length 3 && (Nat.beq os.length 4 && nodupB [w, p, o]))) then match H.tr.get w with
      | some (.own false e3 _ 0 cells) => if Nat.beq e3 72 && Nat.beq cells.length 49 then intsK ps fun us => intsK os fun ws => boolsK (cells.take 16) fun bs => intsK ((cells.drop 16).take 32) fun zs =>
        if Nat.beq bs.length 16 && Nat.beq zs.length 32 then match us, ws, cells.drop 48 with
          | [hi, lo, at_], [k, A, B, x], [.nili] => some (btMk w p o bs zs at_ B)
          | _, _, _ => none
        else none
        else none
      | _ => none
      else none
    | _, _ => none
  | _, _ => none
def bitsS : Spec := spN 39 btCt
theorem bits_key {w p o : Nat} {H : Hp} {f1 f2 f3 : Nat → Int} {ps os cells : List V} {bs : List Bool} {zs : List Int} {hi lo at_ k A B x : Int} {v : V} {a : V} {qs : List Prop} (hb : ∀ i B, H.tr.get i = some B → i < H.n)
    (hp : H.tr.get p = some (.own false 92 f1 0 (.ptr w (.c 0) :: ps))) (ho : H.tr.get o = some (.own false 27 f2 0 os)) (hw : H.tr.get w = some (.own false 72 f3 0 cells)) (hnd : nodupB [w, p, o] = true)
    (hps : intsOf ps = [hi, lo, at_]) (hpl : ps.length = 3) (hos : intsOf os = [k, A, B, x]) (hol : os.length = 4) (hle : V.lePs (wkL bs zs .nili) cells)
    (hcall : CallOk Try.prog 39 [.ptr 1 (.c 0), .ptr 2 (.c 0)] (St (Hm (bt3 bs zs .nili hi lo at_ k A B x) 3)) v (St (Hm [some (wkB bs zs a), none, none] 3))) :
    ∃ xs0 bs0, CtOk Try.prog 39 [.ptr p (.c 0), .ptr o (.c 0)] H ⟨[w, p, o], [0], v, [some (wkB bs zs a), none, none], 3, qs⟩ xs0 bs0 := by
  have hpl0 : place [w, p, o] H.n 0 = w := rfl
  have hpl1 : place [w, p, o] H.n 1 = p := rfl
  have hpl2 : place [w, p, o] H.n 2 = o := rfl
  refine ⟨[.ptr 1 (.c 0), .ptr 2 (.c 0)], bt3 bs zs .nili hi lo at_ k A B x, hnd, by simp [blt_of (hb _ _ hw), blt_of (hb _ _ hp), blt_of (hb _ _ ho)], rfl, rfl, rfl, ?_, ?_, ?_, ?_, hcall⟩
  · intro j b hj
    match j with
    | 0 =>
      simp only [bt3, wkB, List.getElem?_cons_zero, Option.some.injEq] at hj; subst hj
      refine ⟨by simp, _, hw, ?_⟩
      show Wk (.own false _ _ 0 (V.renL _ (wkL bs zs .nili))) _
      rw [wkL_ren fun σ => rfl]
      exact Wk.ownLe rfl (.inl rfl) hle
    | 1 =>
      simp only [bt3, plB, List.getElem?_cons_succ, List.getElem?_cons_zero, Option.some.injEq] at hj; subst hj
      refine ⟨by simp, _, hp, ?_⟩
      have h1 := intsOf_lePs ps (by rw [hps, hpl]; rfl)
      rw [hps] at h1
      exact Wk.ownLe rfl (.inl rfl) (V.lePs_cons (by simp [V.leP, N.leP, N.eqP, N.val, V.ren, hpl0]) h1)
    | 2 =>
      simp only [bt3, opB, List.getElem?_cons_succ, List.getElem?_cons_zero, Option.some.injEq] at hj; subst hj
      refine ⟨by simp, _, ho, ?_⟩
      have h1 := intsOf_lePs os (by rw [hos, hol]; rfl)
      rw [hos] at h1
      exact Wk.ownLe rfl (.inl rfl) h1
    | j + 3 => simp [bt3] at hj
  · intro j b hj' hj
    match j with
    | 0 => simp at hj'
    | 1 => simp only [bt3, plB, List.getElem?_cons_succ, List.getElem?_cons_zero, Option.some.injEq] at hj; subst hj; rfl
    | 2 => simp only [bt3, opB, List.getElem?_cons_succ, List.getElem?_cons_zero, Option.some.injEq] at hj; subst hj; rfl
    | j + 3 => simp [bt3] at hj
  · intro j b _ hj
    match j with
    | 0 => simp only [List.getElem?_cons_zero, Option.some.injEq] at hj; subst hj; rfl
    | 1 => simp at hj
    | 2 => simp at hj
    | j + 3 => simp at hj
  · intro r ys hy
    simp only [V.renL, V.ren, hpl1, hpl2]
    exact hy
theorem bitsS_ok : SpecOk Try.prog bitsS := spN_ok fun xs H cl z hc hb => by
  unfold btCt at hc
  split at hc
  · rename_i p o
    split at hc
    · rename_i e f1 w ps e2 f2 os hp ho
      split at hc
      · rename_i hl
        simp only [Bool.and_eq_true] at hl
        have t1 := Nat.eq_of_beq_eq_true hl.1
        have t2 := Nat.eq_of_beq_eq_true hl.2.1
        have t3 := Nat.eq_of_beq_eq_true hl.2.2.1
        have t4 := Nat.eq_of_beq_eq_true hl.2.2.2.1
        have t5 := hl.2.2.2.2
        subst t1 t2
        split at hc
        · rename_i e3 f3 cells hw
          split at hc
          · rename_i hl2
            simp only [Bool.and_eq_true] at hl2
            have t6 := Nat.eq_of_beq_eq_true hl2.1
            have t7 := Nat.eq_of_beq_eq_true hl2.2
            subst t6
            simp only [intsK_eq, boolsK_eq] at hc
            split at hc
            · rename_i hn
              simp only [Bool.and_eq_true] at hn
              have n1 := Nat.eq_of_beq_eq_true hn.1
              have n2 := Nat.eq_of_beq_eq_true hn.2
              split at hc
              · rename_i hi lo at_ k A B x g1 g2 g3
                have hle : V.lePs (wkL (boolsOf (cells.take 16)) (intsOf ((cells.drop 16).take 32)) .nili) cells := wk_lePs t7 rfl rfl n1 n2 (by rw [g3]; simp [V.lePs, V.leP])
                generalize boolsOf (cells.take 16) = bs at *
                generalize intsOf ((cells.drop 16).take 32) = zs at *
                simp only [Option.some.injEq, Prod.mk.injEq, btMk] at hc
                obtain ⟨rfl, rfl⟩ := hc
                match bs, n1, zs, n2 with
                | [b0, b1, b2, b3, b4, b5, b6, b7, b8, b9, b10, b11, b12, b13, b14, b15], _, [z0, z1, z2, z3, z4, z5, z6, z7, z8, z9, z10, z11, z12, z13, z14, z15, z16, z17, z18, z19, z20, z21, z22, z23, z24, z25, z26, z27, z28, z29, z30, z31], _ =>
                refine ⟨fun hk hcs => bits_key hb hp ho hw t5 g1 t3 g2 t4 hle ?_, fun hk hcs => bits_key hb hp ho hw t5 g1 t3 g2 t4 hle ?_⟩
                · refine CallQ.keep (callQ_mono (bt_q b0 b1 b2 b3 b4 b5 b6 b7 b8 b9 b10 b11 b12 b13 b14 b15 z0 z1 z2 z3 z4 z5 z6 z7 z8 z9 z10 z11 z12 z13 z14 z15 z16 z17 z18 z19 z20 z21 z22 z23 z24 z25 z26 z27 z28 z29 z30 z31 hi lo at_ k A B x (hcs (-1 ≤ at_ ∧ at_ < 5) (by simp)) (hcs (zsOk _) (by simp))) fun v H1 hv => ⟨[0, 1, 2], ?_⟩)
                  rw [if_pos (of_decide_eq_true hk)] at hv
                  exact hv
                · refine CallQ.keep (callQ_mono (bt_q b0 b1 b2 b3 b4 b5 b6 b7 b8 b9 b10 b11 b12 b13 b14 b15 z0 z1 z2 z3 z4 z5 z6 z7 z8 z9 z10 z11 z12 z13 z14 z15 z16 z17 z18 z19 z20 z21 z22 z23 z24 z25 z26 z27 z28 z29 z30 z31 hi lo at_ k A B x (hcs (-1 ≤ at_ ∧ at_ < 5) (by simp)) (hcs (zsOk _) (by simp))) fun v H1 hv => ⟨[0, 1, 2], ?_⟩)
                  rw [if_neg (of_decide_eq_false hk)] at hv
                  exact hv
              · simp at hc
            · simp at hc
          · simp at hc
        · simp at hc
      · simp at hc
    · simp at hc
  · simp at hc
end
end Go.Ideal.K6

namespace Go.Ideal.K6
section
open Go.Proofs Go.Ideal Go.Ideal.L1
def doT : Spec := orS B1.maysP (orS bitsS bkS)
theorem doT_ok : SpecOk Try.prog doT := orS_ok B1.maysP_ok (orS_ok bitsS_ok bkS_ok)
end
end Go.Ideal.K6

namespace Go.Ideal.K6
section
open Go.Proofs Go.Ideal Go.Ideal.L1
set_option linter.unusedSimpArgs false
set_option linter.unusedVariables false
set_option maxRecDepth 100000
set_option maxHeartbeats 80000000
theorem cKGf_0 (b : Nat → Bool) (z : Nat → Int) {R : Prop} (h : R) : ((b 0):Bool) = (b 0) ∧ (((b 1):Bool) = (b 1) ∧ (((b 2):Bool) = (b 2) ∧ (((b 3):Bool) = (b 3) ∧ (((b 4):Bool) = (b 4) ∧ (((b 5):Bool) = (b 5) ∧ (((b 6):Bool) = (b 6) ∧ (((b 7):Bool) = (b 7) ∧ (((b 8):Bool) = (b 8) ∧ (((b 9):Bool) = (b 9) ∧ (((b 10):Bool) = (b 10) ∧ (((b 11):Bool) = (b 11) ∧ (((b 12):Bool) = (b 12) ∧ (((b 13):Bool) = (b 13) ∧ (((b 14):Bool) = (b 14) ∧ (((b 15):Bool) = (b 15) ∧ (((z 0):Int) = (z 0) ∧ (((z 1):Int) = (z 1) ∧ (((z 2):Int) = (z 2) ∧ (((z 3):Int) = (z 3) ∧ (((z 4):Int) = (z 4) ∧ (((z 5):Int) = (z 5) ∧ (((z 6):Int) = (z 6) ∧ (((z 7):Int) = (z 7) ∧ (((z 8):Int) = (z 8) ∧ (((z 9):Int) = (z 9) ∧ (((z 10):Int) = (z 10) ∧ (((z 11):Int) = (z 11) ∧ (((z 12):Int) = (z 12) ∧ (((z 13):Int) = (z 13) ∧ (((z 14):Int) = (z 14) ∧ (((z 15):Int) = (z 15) ∧ (((z 16):Int) = (z 16) ∧ (((z 17):Int) = (z 17) ∧ (((z 18):Int) = (z 18) ∧ (((z 19):Int) = (z 19) ∧ (((z 20):Int) = (z 20) ∧ (((z 21):Int) = (z 21) ∧ (((z 22):Int) = (z 22) ∧ (((z 23):Int) = (z 23) ∧ (((z 24):Int) = (z 24) ∧ (((z 25):Int) = (z 25) ∧ (((z 26):Int) = (z 26) ∧ (((z 27):Int) = (z 27) ∧ (((z 28):Int) = (z 28) ∧ (((z 29):Int) = (z 29) ∧ (((z 30):Int) = (z 30) ∧ (R))))))))))))))))))))))))))))))))))))))))))))))) := ⟨rfl, ⟨rfl, ⟨rfl, ⟨rfl, ⟨rfl, ⟨rfl, ⟨rfl, ⟨rfl, ⟨rfl, ⟨rfl, ⟨rfl, ⟨rfl, ⟨rfl, ⟨rfl, ⟨rfl, ⟨rfl, ⟨rfl, ⟨rfl, ⟨rfl, ⟨rfl, ⟨rfl, ⟨rfl, ⟨rfl, ⟨rfl, ⟨rfl, ⟨rfl, ⟨rfl, ⟨rfl, ⟨rfl, ⟨rfl, ⟨rfl, ⟨rfl, ⟨rfl, ⟨rfl, ⟨rfl, ⟨rfl, ⟨rfl, ⟨rfl, ⟨rfl, ⟨rfl, ⟨rfl, ⟨rfl, ⟨rfl, ⟨rfl, ⟨rfl, ⟨rfl, ⟨rfl, h⟩⟩⟩⟩⟩⟩⟩⟩⟩⟩⟩⟩⟩⟩⟩⟩⟩⟩⟩⟩⟩⟩⟩⟩⟩⟩⟩⟩⟩⟩⟩⟩⟩⟩⟩⟩⟩⟩⟩⟩⟩⟩⟩⟩⟩⟩⟩
variable (b : Nat → Bool) (z : Nat → Int) (A B x:Int)

theorem sn10 (hv : B1.allMay (zl z) = true) (ho : B1.opMayL [10, A, B, x] = true) (hn : ¬ skN (bl b) (zl z) 10 A B x = -1) :
    ∃ hh, vcOf (runCall Try.prog doT noL 6000 13 [.agg (viewOf (bl b) (zl z)), .agg [.int .i64 (.c 10), .int .i64 (.s A), .int .i64 (.s B), .int .i64 (.s x)]] H0 hh) (fun v H1 => retP 0 (lastBlk v) v H1 (needAsk (skN (bl b) (zl z) 10 A B x) (bl b) (zl z)) [] 0) := by
  have hz := zsOk_f z hv
  have oA : 0 ≤ A ∧ A < 5 ∧ 0 ≤ x ∧ x < 2 ∧ 0 ≤ B ∧ B < 5 := by have := ho; simp [B1.opMayL, B1.opMay] at this; omega
  obtain ⟨p1, p2, p3, p4, p5⟩ := bfG_ok (bl b) (zl z) A 1 (by omega) 6 (-1) (by omega) (by omega) (by omega)
  have p3 := p3 (by omega)
  obtain ⟨q1, q2, q3, q4, q5⟩ := bfG_ok (bl b) (zl z) A 0 (by omega) 6 (bfG (bl b) (zl z) A 1 6 (-1)).2 p1 p2 (by have := p1; show 5 - (bfG (bl b) (zl z) A 1 6 (-1)).2 ≤ ((6:Nat):Int); omega)
  have q3 := q3 p3
  have y1 := hz (bfG (bl b) (zl z) A 1 6 (-1)).2 1 ⟨p1, p2, by omega, by omega⟩
  have y2 := hz (bfG (bl b) (zl z) A 0 6 (bfG (bl b) (zl z) A 1 6 (-1)).2).2 0 ⟨q1, q2, by omega, by omega⟩
  have y9 := hz (-1) 0 ⟨by omega, by omega, by omega, by omega⟩
  have y3 := del_f z A (bfG (bl b) (zl z) A 0 6 (bfG (bl b) (zl z) A 1 6 (-1)).2).2 (bfG (bl b) (zl z) A 1 6 (-1)).2 y1 ⟨p1, p2⟩
  simp only [skN, skF, skHi, skLo, skAt] at hn
  simp at hn
  have y10 := nxV_ok (bfG (bl b) (zl z) A 0 6 (bfG (bl b) (zl z) A 1 6 (-1)).2).2 (nw (zl z) (lk (bfG (bl b) (zl z) A 0 6 (bfG (bl b) (zl z) A 1 6 (-1)).2).2 0))

  let bL : List Bool := (bl b)
  let zL : List Int := (zl z)
  let q1_ := (bfG bL zL A 0 6 (bfG bL zL A 1 6 (-1)).snd)
  rcases eb (!B1.allMay zL) with h0 | h0
  · exact ff (by (try dsimp only [q1_, bL, zL] at *); clear y1 y2 y3 y9 p5 q5 hz; simp only [hv, ho] at *; simp at *)
  ·
   rcases eb (!B1.opMayL [(10:Int), A, B, x]) with h1 | h1
   · exact ff (by (try dsimp only [q1_, bL, zL] at *); clear y1 y2 y3 y9 p5 q5 hz; simp only [hv, ho] at *; simp at *)
   ·
    rcases eb (decide ((bfG bL zL A 1 6 (-1)).fst = (-1:Int))) with h2 | h2
    ·
     rcases eb (decide (q1_.fst = (-1:Int))) with h3 | h3
     ·
      rcases eb (kn bL (lk q1_.snd 0)) with h4 | h4
      ·
       rcases eb (decide ((btG bL zL B 6 (nxV q1_.snd (nw zL (lk q1_.snd 0))) 0).fst = (-1:Int))) with h5 | h5
       · exact ff (by ((try dsimp only [q1_, bL, zL] at *); clear y1 y2 y3 y9 p5 q5 hz hv; first | (simp at *; omega) | (simp_all; done)))
       ·
        refine vcIntro (hx2 6 28) (an (an (an (show (-1:Int) ≤ nxV q1_.snd (nw zL (lk q1_.snd 0)) by (try dsimp only [q1_, bL, zL] at *); omega) (show nxV q1_.snd (nw zL (lk q1_.snd 0)) + (1:Int) ≤ (5:Int) by (try dsimp only [q1_, bL, zL] at *); omega)) (an (show ∀ (key lv:Int), lkOk key lv → nwOk zL (lk key lv) by exact hz) (an h5 (an (an (show (-1:Int) ≤ q1_.snd by (try dsimp only [q1_, bL, zL] at *); omega) (an (show q1_.snd + (1:Int) ≤ (5:Int) by (try dsimp only [q1_, bL, zL] at *); omega) (an (show (0:Int) ≤ (0:Int) by (try dsimp only [q1_, bL, zL] at *); omega) (show (1:Int) ≤ (2:Int) by (try dsimp only [q1_, bL, zL] at *); omega)))) (an (an (show (0:Int) ≤ nw zL (lk q1_.snd 0) by (try dsimp only [q1_, bL, zL] at *); unfold nwOk at *; omega) (show nw zL (lk q1_.snd 0) + (1:Int) ≤ (1099511627776:Int) by (try dsimp only [q1_, bL, zL] at *); unfold nwOk at *; omega)) (an h4 (an (an (show (-1:Int) ≤ (bfG bL zL A 1 6 (-1)).snd by (try dsimp only [q1_, bL, zL] at *); omega) (an (show (bfG bL zL A 1 6 (-1)).snd + (1:Int) ≤ (5:Int) by (try dsimp only [q1_, bL, zL] at *); omega) (an (show (0:Int) ≤ (0:Int) by (try dsimp only [q1_, bL, zL] at *); omega) (show (1:Int) ≤ (2:Int) by (try dsimp only [q1_, bL, zL] at *); omega)))) (an (show ∀ (key lv:Int), lkOk key lv → nwOk zL (lk key lv) by exact hz) (an h3 (an (an (show (-1:Int) ≤ (-1:Int) by (try dsimp only [q1_, bL, zL] at *); omega) (an (show (0:Int) ≤ (5:Int) by (try dsimp only [q1_, bL, zL] at *); omega) (an (show (0:Int) ≤ (1:Int) by (try dsimp only [q1_, bL, zL] at *); omega) (show (2:Int) ≤ (2:Int) by (try dsimp only [q1_, bL, zL] at *); omega)))) (an (show ∀ (key lv:Int), lkOk key lv → nwOk zL (lk key lv) by exact hz) (u3 h2 h1 h0)))))))))))) (an (an (an (show skN bL zL 10 A B x = (btG bL zL B 6 (nxV q1_.snd (nw zL (lk q1_.snd 0))) 0).fst by (try dsimp only [q1_, bL, zL] at *); clear y1 y2 y3 y9 p5 q5 hz hv; simp at *; simp_all [skN, skF, skHi, skLo, skAt, skCode, skNum]) (cKGf_0 b z (an (ri (z 31)) tt))) tt) tt)) ?_
        kernel_rfl
      · exact ff (by ((try dsimp only [q1_, bL, zL] at *); clear y1 y2 y3 y9 p5 q5 hz hv; simp at * <;> simp_all <;> done))
     ·
      have h6 : ((-1:Int) != (-1:Int)) = false := by decide +kernel
      refine vcIntro (hx2 5 4) (an (an h6 (an (an (show (-1:Int) ≤ q1_.snd by (try dsimp only [q1_, bL, zL] at *); omega) (an (show q1_.snd + (1:Int) ≤ (5:Int) by (try dsimp only [q1_, bL, zL] at *); omega) (an (show (0:Int) ≤ (0:Int) by (try dsimp only [q1_, bL, zL] at *); omega) (show (1:Int) ≤ (2:Int) by (try dsimp only [q1_, bL, zL] at *); omega)))) (an (an (show (-1:Int) ≤ (bfG bL zL A 1 6 (-1)).snd by (try dsimp only [q1_, bL, zL] at *); omega) (an (show (bfG bL zL A 1 6 (-1)).snd + (1:Int) ≤ (5:Int) by (try dsimp only [q1_, bL, zL] at *); omega) (an (show (0:Int) ≤ (0:Int) by (try dsimp only [q1_, bL, zL] at *); omega) (show (1:Int) ≤ (2:Int) by (try dsimp only [q1_, bL, zL] at *); omega)))) (an (show ∀ (key lv:Int), lkOk key lv → nwOk zL (lk key lv) by exact hz) (an h3 (an (an (show (-1:Int) ≤ (-1:Int) by (try dsimp only [q1_, bL, zL] at *); omega) (an (show (0:Int) ≤ (5:Int) by (try dsimp only [q1_, bL, zL] at *); omega) (an (show (0:Int) ≤ (1:Int) by (try dsimp only [q1_, bL, zL] at *); omega) (show (2:Int) ≤ (2:Int) by (try dsimp only [q1_, bL, zL] at *); omega)))) (an (show ∀ (key lv:Int), lkOk key lv → nwOk zL (lk key lv) by exact hz) (u3 h2 h1 h0)))))))) (an (an (an (show skN bL zL 10 A B x = q1_.fst by (try dsimp only [q1_, bL, zL] at *); clear y1 y2 y3 y9 p5 q5 hz hv; simp at *; simp_all [skN, skF, skHi, skLo, skAt, skCode, skNum]) (cKGf_0 b z (an (ri (z 31)) tt))) tt) tt)) ?_
      kernel_rfl
    ·
     have h7 : ((-1:Int) != (-1:Int)) = false := by decide +kernel
     refine vcIntro (hx2 4 0) (an (an h7 (an (an (show (-1:Int) ≤ (bfG bL zL A 1 6 (-1)).snd by (try dsimp only [q1_, bL, zL] at *); omega) (an (show (bfG bL zL A 1 6 (-1)).snd + (1:Int) ≤ (5:Int) by (try dsimp only [q1_, bL, zL] at *); omega) (an (show (0:Int) ≤ (0:Int) by (try dsimp only [q1_, bL, zL] at *); omega) (show (1:Int) ≤ (2:Int) by (try dsimp only [q1_, bL, zL] at *); omega)))) (an (an (show (-1:Int) ≤ (bfG bL zL A 1 6 (-1)).snd by (try dsimp only [q1_, bL, zL] at *); omega) (an (show (bfG bL zL A 1 6 (-1)).snd + (1:Int) ≤ (5:Int) by (try dsimp only [q1_, bL, zL] at *); omega) (an (show (0:Int) ≤ (0:Int) by (try dsimp only [q1_, bL, zL] at *); omega) (show (1:Int) ≤ (2:Int) by (try dsimp only [q1_, bL, zL] at *); omega)))) (an (an (show (-1:Int) ≤ (-1:Int) by (try dsimp only [q1_, bL, zL] at *); omega) (an (show (0:Int) ≤ (5:Int) by (try dsimp only [q1_, bL, zL] at *); omega) (an (show (0:Int) ≤ (1:Int) by (try dsimp only [q1_, bL, zL] at *); omega) (show (2:Int) ≤ (2:Int) by (try dsimp only [q1_, bL, zL] at *); omega)))) (an (show ∀ (key lv:Int), lkOk key lv → nwOk zL (lk key lv) by exact hz) (u3 h2 h1 h0)))))) (an (an (an (show skN bL zL 10 A B x = (bfG bL zL A 1 6 (-1)).fst by (try dsimp only [q1_, bL, zL] at *); clear y1 y2 y3 y9 p5 q5 hz hv; simp at *; simp_all [skN, skF, skHi, skLo, skAt, skCode, skNum]) (cKGf_0 b z (an (ri (z 31)) tt))) tt) tt)) ?_
     kernel_rfl
theorem sd10 (hv : B1.allMay (zl z) = true) (ho : B1.opMayL [10, A, B, x] = true) (hn : skN (bl b) (zl z) 10 A B x = -1) :
    ∃ hh, vcOf (runCall Try.prog doT noL 6000 13 [.agg (viewOf (bl b) (zl z)), .agg [.int .i64 (.c 10), .int .i64 (.s A), .int .i64 (.s B), .int .i64 (.s x)]] H0 hh) (fun v H1 => retP 0 (lastBlk v) v H1 (doneAsk (bl b) (zl z)) (ansB (0) ((btG (bl b) (zl z) B 6 (nxV (bfG (bl b) (zl z) A 0 6 (bfG (bl b) (zl z) A 1 6 (-1)).2).2 (nw (zl z) (lk (bfG (bl b) (zl z) A 0 6 (bfG (bl b) (zl z) A 1 6 (-1)).2).2 0))) 0).2)) 1) := by
  have hz := zsOk_f z hv
  have oA : 0 ≤ A ∧ A < 5 ∧ 0 ≤ x ∧ x < 2 ∧ 0 ≤ B ∧ B < 5 := by have := ho; simp [B1.opMayL, B1.opMay] at this; omega
  obtain ⟨p1, p2, p3, p4, p5⟩ := bfG_ok (bl b) (zl z) A 1 (by omega) 6 (-1) (by omega) (by omega) (by omega)
  have p3 := p3 (by omega)
  obtain ⟨q1, q2, q3, q4, q5⟩ := bfG_ok (bl b) (zl z) A 0 (by omega) 6 (bfG (bl b) (zl z) A 1 6 (-1)).2 p1 p2 (by have := p1; show 5 - (bfG (bl b) (zl z) A 1 6 (-1)).2 ≤ ((6:Nat):Int); omega)
  have q3 := q3 p3
  have y1 := hz (bfG (bl b) (zl z) A 1 6 (-1)).2 1 ⟨p1, p2, by omega, by omega⟩
  have y2 := hz (bfG (bl b) (zl z) A 0 6 (bfG (bl b) (zl z) A 1 6 (-1)).2).2 0 ⟨q1, q2, by omega, by omega⟩
  have y9 := hz (-1) 0 ⟨by omega, by omega, by omega, by omega⟩
  have y3 := del_f z A (bfG (bl b) (zl z) A 0 6 (bfG (bl b) (zl z) A 1 6 (-1)).2).2 (bfG (bl b) (zl z) A 1 6 (-1)).2 y1 ⟨p1, p2⟩
  simp only [skN, skF, skHi, skLo, skAt] at hn
  simp at hn
  have y10 := nxV_ok (bfG (bl b) (zl z) A 0 6 (bfG (bl b) (zl z) A 1 6 (-1)).2).2 (nw (zl z) (lk (bfG (bl b) (zl z) A 0 6 (bfG (bl b) (zl z) A 1 6 (-1)).2).2 0))

  let bL : List Bool := (bl b)
  let zL : List Int := (zl z)
  let q1_ := (bfG bL zL A 0 6 (bfG bL zL A 1 6 (-1)).snd)
  rcases eb (!B1.allMay zL) with h0 | h0
  · exact ff (by (try dsimp only [q1_, bL, zL] at *); clear y1 y2 y3 y9 p5 q5 hz; simp only [hv, ho] at *; simp at *)
  ·
   rcases eb (!B1.opMayL [(10:Int), A, B, x]) with h1 | h1
   · exact ff (by (try dsimp only [q1_, bL, zL] at *); clear y1 y2 y3 y9 p5 q5 hz; simp only [hv, ho] at *; simp at *)
   ·
    rcases eb (decide ((bfG bL zL A 1 6 (-1)).fst = (-1:Int))) with h2 | h2
    ·
     rcases eb (decide (q1_.fst = (-1:Int))) with h3 | h3
     ·
      rcases eb (kn bL (lk q1_.snd 0)) with h4 | h4
      ·
       rcases eb (decide ((btG bL zL B 6 (nxV q1_.snd (nw zL (lk q1_.snd 0))) 0).fst = (-1:Int))) with h5 | h5
       ·
        refine vcIntro (hx2 6 60) (an (an (an (show (-1:Int) ≤ nxV q1_.snd (nw zL (lk q1_.snd 0)) by (try dsimp only [q1_, bL, zL] at *); omega) (show nxV q1_.snd (nw zL (lk q1_.snd 0)) + (1:Int) ≤ (5:Int) by (try dsimp only [q1_, bL, zL] at *); omega)) (an (show ∀ (key lv:Int), lkOk key lv → nwOk zL (lk key lv) by exact hz) (an h5 (an (an (show (-1:Int) ≤ q1_.snd by (try dsimp only [q1_, bL, zL] at *); omega) (an (show q1_.snd + (1:Int) ≤ (5:Int) by (try dsimp only [q1_, bL, zL] at *); omega) (an (show (0:Int) ≤ (0:Int) by (try dsimp only [q1_, bL, zL] at *); omega) (show (1:Int) ≤ (2:Int) by (try dsimp only [q1_, bL, zL] at *); omega)))) (an (an (show (0:Int) ≤ nw zL (lk q1_.snd 0) by (try dsimp only [q1_, bL, zL] at *); unfold nwOk at *; omega) (show nw zL (lk q1_.snd 0) + (1:Int) ≤ (1099511627776:Int) by (try dsimp only [q1_, bL, zL] at *); unfold nwOk at *; omega)) (an h4 (an (an (show (-1:Int) ≤ (bfG bL zL A 1 6 (-1)).snd by (try dsimp only [q1_, bL, zL] at *); omega) (an (show (bfG bL zL A 1 6 (-1)).snd + (1:Int) ≤ (5:Int) by (try dsimp only [q1_, bL, zL] at *); omega) (an (show (0:Int) ≤ (0:Int) by (try dsimp only [q1_, bL, zL] at *); omega) (show (1:Int) ≤ (2:Int) by (try dsimp only [q1_, bL, zL] at *); omega)))) (an (show ∀ (key lv:Int), lkOk key lv → nwOk zL (lk key lv) by exact hz) (an h3 (an (an (show (-1:Int) ≤ (-1:Int) by (try dsimp only [q1_, bL, zL] at *); omega) (an (show (0:Int) ≤ (5:Int) by (try dsimp only [q1_, bL, zL] at *); omega) (an (show (0:Int) ≤ (1:Int) by (try dsimp only [q1_, bL, zL] at *); omega) (show (2:Int) ≤ (2:Int) by (try dsimp only [q1_, bL, zL] at *); omega)))) (an (show ∀ (key lv:Int), lkOk key lv → nwOk zL (lk key lv) by exact hz) (u3 h2 h1 h0)))))))))))) (an (an (an tt (cKGf_0 b z (an (ri (z 31)) (an tt (an tt tt))))) tt) (an (zo (an (ri ((0:Int))) (ri ((btG bL zL B 6 (nxV q1_.snd (nw zL (lk q1_.snd 0))) 0).snd)))) tt))) ?_
        kernel_rfl
       · exact ff (by ((try dsimp only [q1_, bL, zL] at *); clear y1 y2 y3 y9 p5 q5 hz hv; first | (simp at *; omega) | (simp_all; done)))
      · exact ff (by ((try dsimp only [q1_, bL, zL] at *); clear y1 y2 y3 y9 p5 q5 hz hv; simp at * <;> simp_all <;> done))
     · exact ff (by ((try dsimp only [q1_, bL, zL] at *); clear y1 y2 y3 y9 p5 q5 hz hv; first | (simp at *; omega) | (simp_all; done)))
    · exact ff (by ((try dsimp only [q1_, bL, zL] at *); clear y1 y2 y3 y9 p5 q5 hz hv; first | (simp at *; omega) | (simp_all; done)))
end
end Go.Ideal.K6
