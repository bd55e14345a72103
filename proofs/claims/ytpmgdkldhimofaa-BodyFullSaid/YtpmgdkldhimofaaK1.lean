/- Chapter 6: the links of a walk. Written by gen/skip1.py. Own text. -/
import Derived.Test.YtpmgdkldhimofaaR8
namespace Go.Ideal.K6
open Go.Proofs Go.Ideal Go.Ideal.L1
set_option linter.unusedSimpArgs false
set_option linter.unusedVariables false
set_option maxRecDepth 100000
set_option maxHeartbeats 80000000

/-- A walk's cells. -/
def wkL (bs : List Bool) (zs : List Int) (a : V) : List V := bs.map (fun b => .bool (.s b)) ++ zs.map (fun z => .int .i64 (.s z)) ++ [a]
def wkB (bs : List Bool) (zs : List Int) (a : V) : Blk := .own false 72 (fun _ => 0) 0 (wkL bs zs a)
def wkR (bs : List Bool) (zs : List Int) (a : V) : List (Option Blk) := [some (.own true 72 (fun _ => 0) 0 (wkL bs zs a))]
def wk1 (bs : List Bool) (zs : List Int) (a : V) : List (Option Blk) := [some (wkB bs zs a)]
def askV (c:Int) : V := .iface 89 (.int .i64 (.s c))
def kn (bs : List Bool) (c:Int) : Bool := bs.getD c.toNat false
def nw (zs : List Int) (c:Int) : Int := zs.getD (16 + c.toNat) 0
def lk (key level:Int) : Int := 4 + 2 * (key + 1) + level
def nxV (key z:Int) : Int := if z - 1 ≤ key ∨ 5 ≤ z - 1 then -1 else z - 1
def upz (zs : List Int) (c x:Int) : List Int := match zs.drop 16 with
  | [m0, m1, m2, m3, m4, m5, m6, m7, m8, m9, m10, m11, m12, m13, m14, m15] => zs.take 16 ++ [if c = 0 then x else m0, if c = 1 then x else m1, if c = 2 then x else m2, if c = 3 then x else m3, if c = 4 then x else m4, if c = 5 then x else m5, if c = 6 then x else m6, if c = 7 then x else m7, if c = 8 then x else m8, if c = 9 then x else m9, if c = 10 then x else m10, if c = 11 then x else m11, if c = 12 then x else m12, if c = 13 then x else m13, if c = 14 then x else m14, if c = 15 then x else m15]
  | _ => zs
def lkOk (key level:Int) : Prop := -1 ≤ key ∧ key < 5 ∧ 0 ≤ level ∧ level < 2
theorem cK1_0 (b0:Bool) (b1:Bool) (b2:Bool) (b3:Bool) (b4:Bool) (b5:Bool) (b6:Bool) (b7:Bool) (b8:Bool) (b9:Bool) (b10:Bool) (b11:Bool) (b12:Bool) (b13:Bool) (b14:Bool) (b15:Bool) (z0:Int) (z1:Int) (z2:Int) (z3:Int) (z4:Int) (z5:Int) (z6:Int) (z7:Int) (z8:Int) (z9:Int) (z10:Int) (z11:Int) (z12:Int) (z13:Int) (z14:Int) (z15:Int) (z16:Int) (z17:Int) (z18:Int) (z19:Int) (z20:Int) (z21:Int) (z22:Int) (z23:Int) (z24:Int) (z25:Int) (z26:Int) (z27:Int) (z28:Int) (z29:Int) (z30:Int) (z31:Int) {R : Prop} (h : R) : (b0:Bool) = b0 ∧ ((b1:Bool) = b1 ∧ ((b2:Bool) = b2 ∧ ((b3:Bool) = b3 ∧ ((b4:Bool) = b4 ∧ ((b5:Bool) = b5 ∧ ((b6:Bool) = b6 ∧ ((b7:Bool) = b7 ∧ ((b8:Bool) = b8 ∧ ((b9:Bool) = b9 ∧ ((b10:Bool) = b10 ∧ ((b11:Bool) = b11 ∧ ((b12:Bool) = b12 ∧ ((b13:Bool) = b13 ∧ ((b14:Bool) = b14 ∧ ((b15:Bool) = b15 ∧ ((z0:Int) = z0 ∧ ((z1:Int) = z1 ∧ ((z2:Int) = z2 ∧ ((z3:Int) = z3 ∧ ((z4:Int) = z4 ∧ ((z5:Int) = z5 ∧ ((z6:Int) = z6 ∧ ((z7:Int) = z7 ∧ ((z8:Int) = z8 ∧ ((z9:Int) = z9 ∧ ((z10:Int) = z10 ∧ ((z11:Int) = z11 ∧ ((z12:Int) = z12 ∧ ((z13:Int) = z13 ∧ ((z14:Int) = z14 ∧ ((z15:Int) = z15 ∧ ((z16:Int) = z16 ∧ ((z17:Int) = z17 ∧ ((z18:Int) = z18 ∧ ((z19:Int) = z19 ∧ ((z20:Int) = z20 ∧ ((z21:Int) = z21 ∧ ((z22:Int) = z22 ∧ ((z23:Int) = z23 ∧ ((z24:Int) = z24 ∧ ((z25:Int) = z25 ∧ ((z26:Int) = z26 ∧ ((z27:Int) = z27 ∧ ((z28:Int) = z28 ∧ ((z29:Int) = z29 ∧ ((z30:Int) = z30 ∧ ((z31:Int) = z31 ∧ (R)))))))))))))))))))))))))))))))))))))))))))))))) := ⟨rfl, ⟨rfl, ⟨rfl, ⟨rfl, ⟨rfl, ⟨rfl, ⟨rfl, ⟨rfl, ⟨rfl, ⟨rfl, ⟨rfl, ⟨rfl, ⟨rfl, ⟨rfl, ⟨rfl, ⟨rfl, ⟨rfl, ⟨rfl, ⟨rfl, ⟨rfl, ⟨rfl, ⟨rfl, ⟨rfl, ⟨rfl, ⟨rfl, ⟨rfl, ⟨rfl, ⟨rfl, ⟨rfl, ⟨rfl, ⟨rfl, ⟨rfl, ⟨rfl, ⟨rfl, ⟨rfl, ⟨rfl, ⟨rfl, ⟨rfl, ⟨rfl, ⟨rfl, ⟨rfl, ⟨rfl, ⟨rfl, ⟨rfl, ⟨rfl, ⟨rfl, ⟨rfl, ⟨rfl, h⟩⟩⟩⟩⟩⟩⟩⟩⟩⟩⟩⟩⟩⟩⟩⟩⟩⟩⟩⟩⟩⟩⟩⟩⟩⟩⟩⟩⟩⟩⟩⟩⟩⟩⟩⟩⟩⟩⟩⟩⟩⟩⟩⟩⟩⟩⟩⟩
theorem cK1_1 (b0:Bool) (b1:Bool) (b2:Bool) (b3:Bool) (b4:Bool) (b5:Bool) (b6:Bool) (b7:Bool) (b8:Bool) (b9:Bool) (b10:Bool) (b11:Bool) (b12:Bool) (b13:Bool) (b14:Bool) (b15:Bool) (z0:Int) (z1:Int) (z2:Int) (z3:Int) (z4:Int) (z5:Int) (z6:Int) (z7:Int) (z8:Int) (z9:Int) (z10:Int) (z11:Int) (z12:Int) (z13:Int) (z14:Int) (z15:Int) {R : Prop} (h : R) : (b0:Bool) = b0 ∧ ((b1:Bool) = b1 ∧ ((b2:Bool) = b2 ∧ ((b3:Bool) = b3 ∧ ((b4:Bool) = b4 ∧ ((b5:Bool) = b5 ∧ ((b6:Bool) = b6 ∧ ((b7:Bool) = b7 ∧ ((b8:Bool) = b8 ∧ ((b9:Bool) = b9 ∧ ((b10:Bool) = b10 ∧ ((b11:Bool) = b11 ∧ ((b12:Bool) = b12 ∧ ((b13:Bool) = b13 ∧ ((b14:Bool) = b14 ∧ ((b15:Bool) = b15 ∧ ((z0:Int) = z0 ∧ ((z1:Int) = z1 ∧ ((z2:Int) = z2 ∧ ((z3:Int) = z3 ∧ ((z4:Int) = z4 ∧ ((z5:Int) = z5 ∧ ((z6:Int) = z6 ∧ ((z7:Int) = z7 ∧ ((z8:Int) = z8 ∧ ((z9:Int) = z9 ∧ ((z10:Int) = z10 ∧ ((z11:Int) = z11 ∧ ((z12:Int) = z12 ∧ ((z13:Int) = z13 ∧ ((z14:Int) = z14 ∧ ((z15:Int) = z15 ∧ (R)))))))))))))))))))))))))))))))) := ⟨rfl, ⟨rfl, ⟨rfl, ⟨rfl, ⟨rfl, ⟨rfl, ⟨rfl, ⟨rfl, ⟨rfl, ⟨rfl, ⟨rfl, ⟨rfl, ⟨rfl, ⟨rfl, ⟨rfl, ⟨rfl, ⟨rfl, ⟨rfl, ⟨rfl, ⟨rfl, ⟨rfl, ⟨rfl, ⟨rfl, ⟨rfl, ⟨rfl, ⟨rfl, ⟨rfl, ⟨rfl, ⟨rfl, ⟨rfl, ⟨rfl, ⟨rfl, h⟩⟩⟩⟩⟩⟩⟩⟩⟩⟩⟩⟩⟩⟩⟩⟩⟩⟩⟩⟩⟩⟩⟩⟩⟩⟩⟩⟩⟩⟩⟩⟩
variable (b0 b1 b2 b3 b4 b5 b6 b7 b8 b9 b10 b11 b12 b13 b14 b15:Bool) (z0 z1 z2 z3 z4 z5 z6 z7 z8 z9 z10 z11 z12 z13 z14 z15 z16 z17 z18 z19 z20 z21 z22 z23 z24 z25 z26 z27 z28 z29 z30 z31:Int) (key level x:Int)
theorem lk_k (ho : lkOk key level) (hk : kn [b0, b1, b2, b3, b4, b5, b6, b7, b8, b9, b10, b11, b12, b13, b14, b15] (lk key level) = true) :
    ∃ hh, vcOf (runCall Try.prog noSpec noL 3000 50 [.agg [.ptr 0 (.c 0)], .int .i64 (.s key), .int .i64 (.s level)] (Hm (wkR [b0, b1, b2, b3, b4, b5, b6, b7, b8, b9, b10, b11, b12, b13, b14, b15] [z0, z1, z2, z3, z4, z5, z6, z7, z8, z9, z10, z11, z12, z13, z14, z15, z16, z17, z18, z19, z20, z21, z22, z23, z24, z25, z26, z27, z28, z29, z30, z31] .nili) 1) hh) (fun v H1 => retP 1 [0] v H1 (.int .i64 (.s (nw [z0, z1, z2, z3, z4, z5, z6, z7, z8, z9, z10, z11, z12, z13, z14, z15, z16, z17, z18, z19, z20, z21, z22, z23, z24, z25, z26, z27, z28, z29, z30, z31] (lk key level)))) [none] 1) := by
  have w1 : IntKind.i64.wrap (key - (-1)) = key + 1 := by unfold lkOk at ho; rw [wrapk _ (by omega)]; omega
  have w2 : IntKind.i64.wrap (2 * (key + 1)) = 2 * (key + 1) := by unfold lkOk at ho; exact wrapk _ (by omega)
  have w3 : IntKind.i64.wrap (4 + 2 * (key + 1)) = 4 + 2 * (key + 1) := by unfold lkOk at ho; exact wrapk _ (by omega)
  have w4 : IntKind.i64.wrap (4 + 2 * (key + 1) + level) = lk key level := by unfold lkOk at ho; unfold lk; exact wrapk _ (by omega)
  have w5 : 4 ≤ lk key level ∧ lk key level < 16 := by unfold lkOk at ho; unfold lk; omega

  let L : Int := IntKind.i64.wrap (IntKind.i64.wrap ((4:Int) + IntKind.i64.wrap ((2:Int) * IntKind.i64.wrap (key - (-1:Int)))) + level)
  let N : Int := nw [z0, z1, z2, z3, z4, z5, z6, z7, z8, z9, z10, z11, z12, z13, z14, z15, z16, z17, z18, z19, z20, z21, z22, z23, z24, z25, z26, z27, z28, z29, z30, z31] (lk key level)
  rcases eb (decide (L = (0:Int))) with h0 | h0
  · exact ff (by simp only [L, N, w1, w2, w3, w4] at *; simp at *; omega)
  ·
   rcases eb (decide (L = (1:Int))) with h1 | h1
   · exact ff (by simp only [L, N, w1, w2, w3, w4] at *; simp at *; omega)
   ·
    rcases eb (decide (L = (2:Int))) with h2 | h2
    · exact ff (by simp only [L, N, w1, w2, w3, w4] at *; simp at *; omega)
    ·
     rcases eb (decide (L = (3:Int))) with h3 | h3
     · exact ff (by simp only [L, N, w1, w2, w3, w4] at *; simp at *; omega)
     ·
      rcases eb (decide (L = (4:Int))) with h4 | h4
      ·
       rcases eb (!b4) with h5 | h5
       · exact ff (by simp only [L, N, w1, w2, w3, w4] at *; simp at *; simp_all [kn])
       ·
        refine vcIntro (hx2 11 1040) (an (u11 h4 h3 h2 h1 h0 h5 h4 h3 h2 h1 h0) (an (show N = z20 by simp only [L, N, w1, w2, w3, w4] at *; simp at *; simp [kn, nw, *]) tt)) ?_
        kernel_rfl
      ·
       rcases eb (decide (L = (5:Int))) with h6 | h6
       ·
        rcases eb (!b5) with h7 | h7
        · exact ff (by simp only [L, N, w1, w2, w3, w4] at *; simp at *; simp_all [kn])
        ·
         refine vcIntro (hx2 13 4128) (an (u13 h6 h4 h3 h2 h1 h0 h7 h6 h4 h3 h2 h1 h0) (an (show N = z21 by simp only [L, N, w1, w2, w3, w4] at *; simp at *; simp [kn, nw, *]) tt)) ?_
         kernel_rfl
       ·
        rcases eb (decide (L = (6:Int))) with h8 | h8
        ·
         rcases eb (!b6) with h9 | h9
         · exact ff (by simp only [L, N, w1, w2, w3, w4] at *; simp at *; simp_all [kn])
         ·
          refine vcIntro (hx2 15 16448) (an (u15 h8 h6 h4 h3 h2 h1 h0 h9 h8 h6 h4 h3 h2 h1 h0) (an (show N = z22 by simp only [L, N, w1, w2, w3, w4] at *; simp at *; simp [kn, nw, *]) tt)) ?_
          kernel_rfl
        ·
         rcases eb (decide (L = (7:Int))) with h10 | h10
         ·
          rcases eb (!b7) with h11 | h11
          · exact ff (by simp only [L, N, w1, w2, w3, w4] at *; simp at *; simp_all [kn])
          ·
           refine vcIntro (hx2 17 65664) (an (u17 h10 h8 h6 h4 h3 h2 h1 h0 h11 h10 h8 h6 h4 h3 h2 h1 h0) (an (show N = z23 by simp only [L, N, w1, w2, w3, w4] at *; simp at *; simp [kn, nw, *]) tt)) ?_
           kernel_rfl
         ·
          rcases eb (decide (L = (8:Int))) with h12 | h12
          ·
           rcases eb (!b8) with h13 | h13
           · exact ff (by simp only [L, N, w1, w2, w3, w4] at *; simp at *; simp_all [kn])
           ·
            refine vcIntro (hx2 19 262400) (an (u19 h12 h10 h8 h6 h4 h3 h2 h1 h0 h13 h12 h10 h8 h6 h4 h3 h2 h1 h0) (an (show N = z24 by simp only [L, N, w1, w2, w3, w4] at *; simp at *; simp [kn, nw, *]) tt)) ?_
            kernel_rfl
          ·
           rcases eb (decide (L = (9:Int))) with h14 | h14
           ·
            rcases eb (!b9) with h15 | h15
            · exact ff (by simp only [L, N, w1, w2, w3, w4] at *; simp at *; simp_all [kn])
            ·
             refine vcIntro (hx2 21 1049088) (an (u21 h14 h12 h10 h8 h6 h4 h3 h2 h1 h0 h15 h14 h12 h10 h8 h6 h4 h3 h2 h1 h0) (an (show N = z25 by simp only [L, N, w1, w2, w3, w4] at *; simp at *; simp [kn, nw, *]) tt)) ?_
             kernel_rfl
           ·
            rcases eb (decide (L = (10:Int))) with h16 | h16
            ·
             rcases eb (!b10) with h17 | h17
             · exact ff (by simp only [L, N, w1, w2, w3, w4] at *; simp at *; simp_all [kn])
             ·
              refine vcIntro (hx2 23 4195328) (an (u23 h16 h14 h12 h10 h8 h6 h4 h3 h2 h1 h0 h17 h16 h14 h12 h10 h8 h6 h4 h3 h2 h1 h0) (an (show N = z26 by simp only [L, N, w1, w2, w3, w4] at *; simp at *; simp [kn, nw, *]) tt)) ?_
              kernel_rfl
            ·
             rcases eb (decide (L = (11:Int))) with h18 | h18
             ·
              rcases eb (!b11) with h19 | h19
              · exact ff (by simp only [L, N, w1, w2, w3, w4] at *; simp at *; simp_all [kn])
              ·
               refine vcIntro (hx2 25 16779264) (an (u25 h18 h16 h14 h12 h10 h8 h6 h4 h3 h2 h1 h0 h19 h18 h16 h14 h12 h10 h8 h6 h4 h3 h2 h1 h0) (an (show N = z27 by simp only [L, N, w1, w2, w3, w4] at *; simp at *; simp [kn, nw, *]) tt)) ?_
               kernel_rfl
             ·
              rcases eb (decide (L = (12:Int))) with h20 | h20
              ·
               rcases eb (!b12) with h21 | h21
               · exact ff (by simp only [L, N, w1, w2, w3, w4] at *; simp at *; simp_all [kn])
               ·
                refine vcIntro (hx2 27 67112960) (an (u27 h20 h18 h16 h14 h12 h10 h8 h6 h4 h3 h2 h1 h0 h21 h20 h18 h16 h14 h12 h10 h8 h6 h4 h3 h2 h1 h0) (an (show N = z28 by simp only [L, N, w1, w2, w3, w4] at *; simp at *; simp [kn, nw, *]) tt)) ?_
                kernel_rfl
              ·
               rcases eb (decide (L = (13:Int))) with h22 | h22
               ·
                rcases eb (!b13) with h23 | h23
                · exact ff (by simp only [L, N, w1, w2, w3, w4] at *; simp at *; simp_all [kn])
                ·
                 refine vcIntro (hx2 29 268443648) (an (u29 h22 h20 h18 h16 h14 h12 h10 h8 h6 h4 h3 h2 h1 h0 h23 h22 h20 h18 h16 h14 h12 h10 h8 h6 h4 h3 h2 h1 h0) (an (show N = z29 by simp only [L, N, w1, w2, w3, w4] at *; simp at *; simp [kn, nw, *]) tt)) ?_
                 kernel_rfl
               ·
                rcases eb (decide (L = (14:Int))) with h24 | h24
                ·
                 rcases eb (!b14) with h25 | h25
                 · exact ff (by simp only [L, N, w1, w2, w3, w4] at *; simp at *; simp_all [kn])
                 ·
                  refine vcIntro (hx2 31 1073758208) (an (an h24 (an h22 (an h20 (an h18 (an h16 (an h14 (an h12 (an h10 (an h8 (an h6 (an h4 (an h3 (an h2 (an h1 (an h0 (an h25 (an h24 (an h22 (an h20 (an h18 (an h16 (an h14 (an h12 (an h10 (an h8 (an h6 (an h4 (an h3 (an h2 (an h1 (an h0 tt))))))))))))))))))))))))))))))) (an (show N = z30 by simp only [L, N, w1, w2, w3, w4] at *; simp at *; simp [kn, nw, *]) tt)) ?_
                  kernel_rfl
                ·
                 rcases eb (decide (L = (15:Int))) with h26 | h26
                 ·
                  rcases eb (!b15) with h27 | h27
                  · exact ff (by simp only [L, N, w1, w2, w3, w4] at *; simp at *; simp_all [kn])
                  ·
                   refine vcIntro (hx2 33 4295000064) (an (an h26 (an h24 (an h22 (an h20 (an h18 (an h16 (an h14 (an h12 (an h10 (an h8 (an h6 (an h4 (an h3 (an h2 (an h1 (an h0 (an h27 (an h26 (an h24 (an h22 (an h20 (an h18 (an h16 (an h14 (an h12 (an h10 (an h8 (an h6 (an h4 (an h3 (an h2 (an h1 (an h0 tt))))))))))))))))))))))))))))))))) (an (show N = z31 by simp only [L, N, w1, w2, w3, w4] at *; simp at *; simp [kn, nw, *]) tt)) ?_
                   kernel_rfl
                 · exact ff (by simp only [L, N, w1, w2, w3, w4] at *; simp at *; omega)
theorem lk_u (ho : lkOk key level) (hk : kn [b0, b1, b2, b3, b4, b5, b6, b7, b8, b9, b10, b11, b12, b13, b14, b15] (lk key level) = false) :
    ∃ hh, vcOf (runCall Try.prog noSpec noL 3000 50 [.agg [.ptr 0 (.c 0)], .int .i64 (.s key), .int .i64 (.s level)] (Hm (wk1 [b0, b1, b2, b3, b4, b5, b6, b7, b8, b9, b10, b11, b12, b13, b14, b15] [z0, z1, z2, z3, z4, z5, z6, z7, z8, z9, z10, z11, z12, z13, z14, z15, z16, z17, z18, z19, z20, z21, z22, z23, z24, z25, z26, z27, z28, z29, z30, z31] .nili) 1) hh) (fun v H1 => retP 1 [0] v H1 (.int .i64 (.c 0)) (wk1 [b0, b1, b2, b3, b4, b5, b6, b7, b8, b9, b10, b11, b12, b13, b14, b15] [z0, z1, z2, z3, z4, z5, z6, z7, z8, z9, z10, z11, z12, z13, z14, z15, z16, z17, z18, z19, z20, z21, z22, z23, z24, z25, z26, z27, z28, z29, z30, z31] (askV (lk key level))) 1) := by
  have w1 : IntKind.i64.wrap (key - (-1)) = key + 1 := by unfold lkOk at ho; rw [wrapk _ (by omega)]; omega
  have w2 : IntKind.i64.wrap (2 * (key + 1)) = 2 * (key + 1) := by unfold lkOk at ho; exact wrapk _ (by omega)
  have w3 : IntKind.i64.wrap (4 + 2 * (key + 1)) = 4 + 2 * (key + 1) := by unfold lkOk at ho; exact wrapk _ (by omega)
  have w4 : IntKind.i64.wrap (4 + 2 * (key + 1) + level) = lk key level := by unfold lkOk at ho; unfold lk; exact wrapk _ (by omega)
  have w5 : 4 ≤ lk key level ∧ lk key level < 16 := by unfold lkOk at ho; unfold lk; omega

  let L : Int := IntKind.i64.wrap (IntKind.i64.wrap ((4:Int) + IntKind.i64.wrap ((2:Int) * IntKind.i64.wrap (key - (-1:Int)))) + level)
  rcases eb (decide (L = (0:Int))) with h0 | h0
  · exact ff (by simp only [L, w1, w2, w3, w4] at *; simp at *; omega)
  ·
   rcases eb (decide (L = (1:Int))) with h1 | h1
   · exact ff (by simp only [L, w1, w2, w3, w4] at *; simp at *; omega)
   ·
    rcases eb (decide (L = (2:Int))) with h2 | h2
    · exact ff (by simp only [L, w1, w2, w3, w4] at *; simp at *; omega)
    ·
     rcases eb (decide (L = (3:Int))) with h3 | h3
     · exact ff (by simp only [L, w1, w2, w3, w4] at *; simp at *; omega)
     ·
      rcases eb (decide (L = (4:Int))) with h4 | h4
      ·
       rcases eb (!b4) with h5 | h5
       ·
        refine vcIntro (hx2 6 48) (an (u6 h5 h4 h3 h2 h1 h0) (an tt (an (zo (cK1_0 b0 b1 b2 b3 b4 b5 b6 b7 b8 b9 b10 b11 b12 b13 b14 b15 z0 z1 z2 z3 z4 z5 z6 z7 z8 z9 z10 z11 z12 z13 z14 z15 z16 z17 z18 z19 z20 z21 z22 z23 z24 z25 z26 z27 z28 z29 z30 z31 (show lk key level = L by simp only [L, w1, w2, w3, w4]))) tt))) ?_
        kernel_rfl
       · exact ff (by simp only [L, w1, w2, w3, w4] at *; simp at *; simp_all [kn])
      ·
       rcases eb (decide (L = (5:Int))) with h6 | h6
       ·
        rcases eb (!b5) with h7 | h7
        ·
         refine vcIntro (hx2 7 96) (an (u7 h7 h6 h4 h3 h2 h1 h0) (an tt (an (zo (cK1_0 b0 b1 b2 b3 b4 b5 b6 b7 b8 b9 b10 b11 b12 b13 b14 b15 z0 z1 z2 z3 z4 z5 z6 z7 z8 z9 z10 z11 z12 z13 z14 z15 z16 z17 z18 z19 z20 z21 z22 z23 z24 z25 z26 z27 z28 z29 z30 z31 (show lk key level = L by simp only [L, w1, w2, w3, w4]))) tt))) ?_
         kernel_rfl
        · exact ff (by simp only [L, w1, w2, w3, w4] at *; simp at *; simp_all [kn])
       ·
        rcases eb (decide (L = (6:Int))) with h8 | h8
        ·
         rcases eb (!b6) with h9 | h9
         ·
          refine vcIntro (hx2 8 192) (an (u8 h9 h8 h6 h4 h3 h2 h1 h0) (an tt (an (zo (cK1_0 b0 b1 b2 b3 b4 b5 b6 b7 b8 b9 b10 b11 b12 b13 b14 b15 z0 z1 z2 z3 z4 z5 z6 z7 z8 z9 z10 z11 z12 z13 z14 z15 z16 z17 z18 z19 z20 z21 z22 z23 z24 z25 z26 z27 z28 z29 z30 z31 (show lk key level = L by simp only [L, w1, w2, w3, w4]))) tt))) ?_
          kernel_rfl
         · exact ff (by simp only [L, w1, w2, w3, w4] at *; simp at *; simp_all [kn])
        ·
         rcases eb (decide (L = (7:Int))) with h10 | h10
         ·
          rcases eb (!b7) with h11 | h11
          ·
           refine vcIntro (hx2 9 384) (an (u9 h11 h10 h8 h6 h4 h3 h2 h1 h0) (an tt (an (zo (cK1_0 b0 b1 b2 b3 b4 b5 b6 b7 b8 b9 b10 b11 b12 b13 b14 b15 z0 z1 z2 z3 z4 z5 z6 z7 z8 z9 z10 z11 z12 z13 z14 z15 z16 z17 z18 z19 z20 z21 z22 z23 z24 z25 z26 z27 z28 z29 z30 z31 (show lk key level = L by simp only [L, w1, w2, w3, w4]))) tt))) ?_
           kernel_rfl
          · exact ff (by simp only [L, w1, w2, w3, w4] at *; simp at *; simp_all [kn])
         ·
          rcases eb (decide (L = (8:Int))) with h12 | h12
          ·
           rcases eb (!b8) with h13 | h13
           ·
            refine vcIntro (hx2 10 768) (an (u10 h13 h12 h10 h8 h6 h4 h3 h2 h1 h0) (an tt (an (zo (cK1_0 b0 b1 b2 b3 b4 b5 b6 b7 b8 b9 b10 b11 b12 b13 b14 b15 z0 z1 z2 z3 z4 z5 z6 z7 z8 z9 z10 z11 z12 z13 z14 z15 z16 z17 z18 z19 z20 z21 z22 z23 z24 z25 z26 z27 z28 z29 z30 z31 (show lk key level = L by simp only [L, w1, w2, w3, w4]))) tt))) ?_
            kernel_rfl
           · exact ff (by simp only [L, w1, w2, w3, w4] at *; simp at *; simp_all [kn])
          ·
           rcases eb (decide (L = (9:Int))) with h14 | h14
           ·
            rcases eb (!b9) with h15 | h15
            ·
             refine vcIntro (hx2 11 1536) (an (u11 h15 h14 h12 h10 h8 h6 h4 h3 h2 h1 h0) (an tt (an (zo (cK1_0 b0 b1 b2 b3 b4 b5 b6 b7 b8 b9 b10 b11 b12 b13 b14 b15 z0 z1 z2 z3 z4 z5 z6 z7 z8 z9 z10 z11 z12 z13 z14 z15 z16 z17 z18 z19 z20 z21 z22 z23 z24 z25 z26 z27 z28 z29 z30 z31 (show lk key level = L by simp only [L, w1, w2, w3, w4]))) tt))) ?_
             kernel_rfl
            · exact ff (by simp only [L, w1, w2, w3, w4] at *; simp at *; simp_all [kn])
           ·
            rcases eb (decide (L = (10:Int))) with h16 | h16
            ·
             rcases eb (!b10) with h17 | h17
             ·
              refine vcIntro (hx2 12 3072) (an (u12 h17 h16 h14 h12 h10 h8 h6 h4 h3 h2 h1 h0) (an tt (an (zo (cK1_0 b0 b1 b2 b3 b4 b5 b6 b7 b8 b9 b10 b11 b12 b13 b14 b15 z0 z1 z2 z3 z4 z5 z6 z7 z8 z9 z10 z11 z12 z13 z14 z15 z16 z17 z18 z19 z20 z21 z22 z23 z24 z25 z26 z27 z28 z29 z30 z31 (show lk key level = L by simp only [L, w1, w2, w3, w4]))) tt))) ?_
              kernel_rfl
             · exact ff (by simp only [L, w1, w2, w3, w4] at *; simp at *; simp_all [kn])
            ·
             rcases eb (decide (L = (11:Int))) with h18 | h18
             ·
              rcases eb (!b11) with h19 | h19
              ·
               refine vcIntro (hx2 13 6144) (an (u13 h19 h18 h16 h14 h12 h10 h8 h6 h4 h3 h2 h1 h0) (an tt (an (zo (cK1_0 b0 b1 b2 b3 b4 b5 b6 b7 b8 b9 b10 b11 b12 b13 b14 b15 z0 z1 z2 z3 z4 z5 z6 z7 z8 z9 z10 z11 z12 z13 z14 z15 z16 z17 z18 z19 z20 z21 z22 z23 z24 z25 z26 z27 z28 z29 z30 z31 (show lk key level = L by simp only [L, w1, w2, w3, w4]))) tt))) ?_
               kernel_rfl
              · exact ff (by simp only [L, w1, w2, w3, w4] at *; simp at *; simp_all [kn])
             ·
              rcases eb (decide (L = (12:Int))) with h20 | h20
              ·
               rcases eb (!b12) with h21 | h21
               ·
                refine vcIntro (hx2 14 12288) (an (u14 h21 h20 h18 h16 h14 h12 h10 h8 h6 h4 h3 h2 h1 h0) (an tt (an (zo (cK1_0 b0 b1 b2 b3 b4 b5 b6 b7 b8 b9 b10 b11 b12 b13 b14 b15 z0 z1 z2 z3 z4 z5 z6 z7 z8 z9 z10 z11 z12 z13 z14 z15 z16 z17 z18 z19 z20 z21 z22 z23 z24 z25 z26 z27 z28 z29 z30 z31 (show lk key level = L by simp only [L, w1, w2, w3, w4]))) tt))) ?_
                kernel_rfl
               · exact ff (by simp only [L, w1, w2, w3, w4] at *; simp at *; simp_all [kn])
              ·
               rcases eb (decide (L = (13:Int))) with h22 | h22
               ·
                rcases eb (!b13) with h23 | h23
                ·
                 refine vcIntro (hx2 15 24576) (an (u15 h23 h22 h20 h18 h16 h14 h12 h10 h8 h6 h4 h3 h2 h1 h0) (an tt (an (zo (cK1_0 b0 b1 b2 b3 b4 b5 b6 b7 b8 b9 b10 b11 b12 b13 b14 b15 z0 z1 z2 z3 z4 z5 z6 z7 z8 z9 z10 z11 z12 z13 z14 z15 z16 z17 z18 z19 z20 z21 z22 z23 z24 z25 z26 z27 z28 z29 z30 z31 (show lk key level = L by simp only [L, w1, w2, w3, w4]))) tt))) ?_
                 kernel_rfl
                · exact ff (by simp only [L, w1, w2, w3, w4] at *; simp at *; simp_all [kn])
               ·
                rcases eb (decide (L = (14:Int))) with h24 | h24
                ·
                 rcases eb (!b14) with h25 | h25
                 ·
                  refine vcIntro (hx2 16 49152) (an (u16 h25 h24 h22 h20 h18 h16 h14 h12 h10 h8 h6 h4 h3 h2 h1 h0) (an tt (an (zo (cK1_0 b0 b1 b2 b3 b4 b5 b6 b7 b8 b9 b10 b11 b12 b13 b14 b15 z0 z1 z2 z3 z4 z5 z6 z7 z8 z9 z10 z11 z12 z13 z14 z15 z16 z17 z18 z19 z20 z21 z22 z23 z24 z25 z26 z27 z28 z29 z30 z31 (show lk key level = L by simp only [L, w1, w2, w3, w4]))) tt))) ?_
                  kernel_rfl
                 · exact ff (by simp only [L, w1, w2, w3, w4] at *; simp at *; simp_all [kn])
                ·
                 rcases eb (decide (L = (15:Int))) with h26 | h26
                 ·
                  rcases eb (!b15) with h27 | h27
                  ·
                   refine vcIntro (hx2 17 98304) (an (u17 h27 h26 h24 h22 h20 h18 h16 h14 h12 h10 h8 h6 h4 h3 h2 h1 h0) (an tt (an (zo (cK1_0 b0 b1 b2 b3 b4 b5 b6 b7 b8 b9 b10 b11 b12 b13 b14 b15 z0 z1 z2 z3 z4 z5 z6 z7 z8 z9 z10 z11 z12 z13 z14 z15 z16 z17 z18 z19 z20 z21 z22 z23 z24 z25 z26 z27 z28 z29 z30 z31 (show lk key level = L by simp only [L, w1, w2, w3, w4]))) tt))) ?_
                   kernel_rfl
                  · exact ff (by simp only [L, w1, w2, w3, w4] at *; simp at *; simp_all [kn])
                 · exact ff (by simp only [L, w1, w2, w3, w4] at *; simp at *; omega)
theorem lk_a (q:Int) :
    ∃ hh, vcOf (runCall Try.prog noSpec noL 3000 50 [.agg [.ptr 0 (.c 0)], .int .i64 (.s key), .int .i64 (.s level)] (Hm (wkR [b0, b1, b2, b3, b4, b5, b6, b7, b8, b9, b10, b11, b12, b13, b14, b15] [z0, z1, z2, z3, z4, z5, z6, z7, z8, z9, z10, z11, z12, z13, z14, z15, z16, z17, z18, z19, z20, z21, z22, z23, z24, z25, z26, z27, z28, z29, z30, z31] (askV q)) 1) hh) (fun v H1 => retP 1 [0] v H1 (.int .i64 (.c 0)) [none] 1) := by

  refine vcIntro [] (an tt (an tt tt)) ?_
  kernel_rfl
theorem nx_k (ho : lkOk key level) (hz : 0 ≤ nw [z0, z1, z2, z3, z4, z5, z6, z7, z8, z9, z10, z11, z12, z13, z14, z15, z16, z17, z18, z19, z20, z21, z22, z23, z24, z25, z26, z27, z28, z29, z30, z31] (lk key level) ∧ nw [z0, z1, z2, z3, z4, z5, z6, z7, z8, z9, z10, z11, z12, z13, z14, z15, z16, z17, z18, z19, z20, z21, z22, z23, z24, z25, z26, z27, z28, z29, z30, z31] (lk key level) < 1099511627776) (hk : kn [b0, b1, b2, b3, b4, b5, b6, b7, b8, b9, b10, b11, b12, b13, b14, b15] (lk key level) = true) :
    ∃ hh, vcOf (runCall Try.prog noSpec noL 3000 33 [.agg [.ptr 0 (.c 0)], .int .i64 (.s key), .int .i64 (.s level)] (Hm (wkR [b0, b1, b2, b3, b4, b5, b6, b7, b8, b9, b10, b11, b12, b13, b14, b15] [z0, z1, z2, z3, z4, z5, z6, z7, z8, z9, z10, z11, z12, z13, z14, z15, z16, z17, z18, z19, z20, z21, z22, z23, z24, z25, z26, z27, z28, z29, z30, z31] .nili) 1) hh) (fun v H1 => retP 1 [0] v H1 (.int .i64 (.s (nxV key (nw [z0, z1, z2, z3, z4, z5, z6, z7, z8, z9, z10, z11, z12, z13, z14, z15, z16, z17, z18, z19, z20, z21, z22, z23, z24, z25, z26, z27, z28, z29, z30, z31] (lk key level))))) [none] 1) := by
  have w1 : IntKind.i64.wrap (key - (-1)) = key + 1 := by unfold lkOk at ho; rw [wrapk _ (by omega)]; omega
  have w2 : IntKind.i64.wrap (2 * (key + 1)) = 2 * (key + 1) := by unfold lkOk at ho; exact wrapk _ (by omega)
  have w3 : IntKind.i64.wrap (4 + 2 * (key + 1)) = 4 + 2 * (key + 1) := by unfold lkOk at ho; exact wrapk _ (by omega)
  have w4 : IntKind.i64.wrap (4 + 2 * (key + 1) + level) = lk key level := by unfold lkOk at ho; unfold lk; exact wrapk _ (by omega)
  have w5 : 4 ≤ lk key level ∧ lk key level < 16 := by unfold lkOk at ho; unfold lk; omega
  have w6 : IntKind.i64.wrap (nw [z0, z1, z2, z3, z4, z5, z6, z7, z8, z9, z10, z11, z12, z13, z14, z15, z16, z17, z18, z19, z20, z21, z22, z23, z24, z25, z26, z27, z28, z29, z30, z31] (lk key level) - 1) = nw [z0, z1, z2, z3, z4, z5, z6, z7, z8, z9, z10, z11, z12, z13, z14, z15, z16, z17, z18, z19, z20, z21, z22, z23, z24, z25, z26, z27, z28, z29, z30, z31] (lk key level) - 1 := wrapk _ (by omega)

  let L : Int := IntKind.i64.wrap (IntKind.i64.wrap ((4:Int) + IntKind.i64.wrap ((2:Int) * IntKind.i64.wrap (key - (-1:Int)))) + level)
  let N : Int := nw [z0, z1, z2, z3, z4, z5, z6, z7, z8, z9, z10, z11, z12, z13, z14, z15, z16, z17, z18, z19, z20, z21, z22, z23, z24, z25, z26, z27, z28, z29, z30, z31] (lk key level)
  rcases eb (decide (L = (0:Int))) with h0 | h0
  · exact ff (by simp only [L, N, w1, w2, w3, w4] at *; simp at *; omega)
  ·
   rcases eb (decide (L = (1:Int))) with h1 | h1
   · exact ff (by simp only [L, N, w1, w2, w3, w4] at *; simp at *; omega)
   ·
    rcases eb (decide (L = (2:Int))) with h2 | h2
    · exact ff (by simp only [L, N, w1, w2, w3, w4] at *; simp at *; omega)
    ·
     rcases eb (decide (L = (3:Int))) with h3 | h3
     · exact ff (by simp only [L, N, w1, w2, w3, w4] at *; simp at *; omega)
     ·
      rcases eb (decide (L = (4:Int))) with h4 | h4
      ·
       rcases eb (!b4) with h5 | h5
       · exact ff (by simp only [L, N, w1, w2, w3, w4] at *; simp at *; simp_all [kn])
       ·
        rcases eb (decide (IntKind.i64.wrap (z20 - (1:Int)) ≤ key)) with h6 | h6
        ·
         refine vcIntro (hx2 12 3088) (an (u12 h6 h4 h3 h2 h1 h0 h5 h4 h3 h2 h1 h0) (an (show nxV key N = (-1:Int) by simp only [L, N, w1, w2, w3, w4] at *; simp at *; simp [nw, *] at w6 hz; simp only [w6] at *; simp [nxV, nw, *]) tt)) ?_
         kernel_rfl
        ·
         rcases eb (decide (IntKind.i64.wrap (z20 - (1:Int)) ≥ (5:Int))) with h7 | h7
         ·
          refine vcIntro (hx2 13 5136) (an (u13 h7 h6 h4 h3 h2 h1 h0 h5 h4 h3 h2 h1 h0) (an (show nxV key N = (-1:Int) by simp only [L, N, w1, w2, w3, w4] at *; simp at *; simp [nw, *] at w6 hz; simp only [w6] at *; simp [nxV, nw, *]) tt)) ?_
          kernel_rfl
         ·
          refine vcIntro (hx2 13 1040) (an (u13 h7 h6 h4 h3 h2 h1 h0 h5 h4 h3 h2 h1 h0) (an (show nxV key N = IntKind.i64.wrap (z20 - (1:Int)) by (simp only [L, N, w1, w2, w3, w4] at *; simp at *; simp [nw, *] at w6 hz; simp only [w6] at *; simp [nxV, nw, *] <;> (repeat' split) <;> omega)) tt)) ?_
          kernel_rfl
      ·
       rcases eb (decide (L = (5:Int))) with h8 | h8
       ·
        rcases eb (!b5) with h9 | h9
        · exact ff (by simp only [L, N, w1, w2, w3, w4] at *; simp at *; simp_all [kn])
        ·
         rcases eb (decide (IntKind.i64.wrap (z21 - (1:Int)) ≤ key)) with h10 | h10
         ·
          refine vcIntro (hx2 14 12320) (an (u14 h10 h8 h4 h3 h2 h1 h0 h9 h8 h4 h3 h2 h1 h0) (an (show nxV key N = (-1:Int) by simp only [L, N, w1, w2, w3, w4] at *; simp at *; simp [nw, *] at w6 hz; simp only [w6] at *; simp [nxV, nw, *]) tt)) ?_
          kernel_rfl
         ·
          rcases eb (decide (IntKind.i64.wrap (z21 - (1:Int)) ≥ (5:Int))) with h11 | h11
          ·
           refine vcIntro (hx2 15 20512) (an (u15 h11 h10 h8 h4 h3 h2 h1 h0 h9 h8 h4 h3 h2 h1 h0) (an (show nxV key N = (-1:Int) by simp only [L, N, w1, w2, w3, w4] at *; simp at *; simp [nw, *] at w6 hz; simp only [w6] at *; simp [nxV, nw, *]) tt)) ?_
           kernel_rfl
          ·
           refine vcIntro (hx2 15 4128) (an (u15 h11 h10 h8 h4 h3 h2 h1 h0 h9 h8 h4 h3 h2 h1 h0) (an (show nxV key N = IntKind.i64.wrap (z21 - (1:Int)) by (simp only [L, N, w1, w2, w3, w4] at *; simp at *; simp [nw, *] at w6 hz; simp only [w6] at *; simp [nxV, nw, *] <;> (repeat' split) <;> omega)) tt)) ?_
           kernel_rfl
       ·
        rcases eb (decide (L = (6:Int))) with h12 | h12
        ·
         rcases eb (!b6) with h13 | h13
         · exact ff (by simp only [L, N, w1, w2, w3, w4] at *; simp at *; simp_all [kn])
         ·
          rcases eb (decide (IntKind.i64.wrap (z22 - (1:Int)) ≤ key)) with h14 | h14
          ·
           refine vcIntro (hx2 16 49216) (an (u16 h14 h12 h8 h4 h3 h2 h1 h0 h13 h12 h8 h4 h3 h2 h1 h0) (an (show nxV key N = (-1:Int) by simp only [L, N, w1, w2, w3, w4] at *; simp at *; simp [nw, *] at w6 hz; simp only [w6] at *; simp [nxV, nw, *]) tt)) ?_
           kernel_rfl
          ·
           rcases eb (decide (IntKind.i64.wrap (z22 - (1:Int)) ≥ (5:Int))) with h15 | h15
           ·
            refine vcIntro (hx2 17 81984) (an (u17 h15 h14 h12 h8 h4 h3 h2 h1 h0 h13 h12 h8 h4 h3 h2 h1 h0) (an (show nxV key N = (-1:Int) by simp only [L, N, w1, w2, w3, w4] at *; simp at *; simp [nw, *] at w6 hz; simp only [w6] at *; simp [nxV, nw, *]) tt)) ?_
            kernel_rfl
           ·
            refine vcIntro (hx2 17 16448) (an (u17 h15 h14 h12 h8 h4 h3 h2 h1 h0 h13 h12 h8 h4 h3 h2 h1 h0) (an (show nxV key N = IntKind.i64.wrap (z22 - (1:Int)) by (simp only [L, N, w1, w2, w3, w4] at *; simp at *; simp [nw, *] at w6 hz; simp only [w6] at *; simp [nxV, nw, *] <;> (repeat' split) <;> omega)) tt)) ?_
            kernel_rfl
        ·
         rcases eb (decide (L = (7:Int))) with h16 | h16
         ·
          rcases eb (!b7) with h17 | h17
          · exact ff (by simp only [L, N, w1, w2, w3, w4] at *; simp at *; simp_all [kn])
          ·
           rcases eb (decide (IntKind.i64.wrap (z23 - (1:Int)) ≤ key)) with h18 | h18
           ·
            refine vcIntro (hx2 18 196736) (an (u18 h18 h16 h12 h8 h4 h3 h2 h1 h0 h17 h16 h12 h8 h4 h3 h2 h1 h0) (an (show nxV key N = (-1:Int) by simp only [L, N, w1, w2, w3, w4] at *; simp at *; simp [nw, *] at w6 hz; simp only [w6] at *; simp [nxV, nw, *]) tt)) ?_
            kernel_rfl
           ·
            rcases eb (decide (IntKind.i64.wrap (z23 - (1:Int)) ≥ (5:Int))) with h19 | h19
            ·
             refine vcIntro (hx2 19 327808) (an (u19 h19 h18 h16 h12 h8 h4 h3 h2 h1 h0 h17 h16 h12 h8 h4 h3 h2 h1 h0) (an (show nxV key N = (-1:Int) by simp only [L, N, w1, w2, w3, w4] at *; simp at *; simp [nw, *] at w6 hz; simp only [w6] at *; simp [nxV, nw, *]) tt)) ?_
             kernel_rfl
            ·
             refine vcIntro (hx2 19 65664) (an (u19 h19 h18 h16 h12 h8 h4 h3 h2 h1 h0 h17 h16 h12 h8 h4 h3 h2 h1 h0) (an (show nxV key N = IntKind.i64.wrap (z23 - (1:Int)) by (simp only [L, N, w1, w2, w3, w4] at *; simp at *; simp [nw, *] at w6 hz; simp only [w6] at *; simp [nxV, nw, *] <;> (repeat' split) <;> omega)) tt)) ?_
             kernel_rfl
         ·
          rcases eb (decide (L = (8:Int))) with h20 | h20
          ·
           rcases eb (!b8) with h21 | h21
           · exact ff (by simp only [L, N, w1, w2, w3, w4] at *; simp at *; simp_all [kn])
           ·
            rcases eb (decide (IntKind.i64.wrap (z24 - (1:Int)) ≤ key)) with h22 | h22
            ·
             refine vcIntro (hx2 20 786688) (an (u20 h22 h20 h16 h12 h8 h4 h3 h2 h1 h0 h21 h20 h16 h12 h8 h4 h3 h2 h1 h0) (an (show nxV key N = (-1:Int) by simp only [L, N, w1, w2, w3, w4] at *; simp at *; simp [nw, *] at w6 hz; simp only [w6] at *; simp [nxV, nw, *]) tt)) ?_
             kernel_rfl
            ·
             rcases eb (decide (IntKind.i64.wrap (z24 - (1:Int)) ≥ (5:Int))) with h23 | h23
             ·
              refine vcIntro (hx2 21 1310976) (an (u21 h23 h22 h20 h16 h12 h8 h4 h3 h2 h1 h0 h21 h20 h16 h12 h8 h4 h3 h2 h1 h0) (an (show nxV key N = (-1:Int) by simp only [L, N, w1, w2, w3, w4] at *; simp at *; simp [nw, *] at w6 hz; simp only [w6] at *; simp [nxV, nw, *]) tt)) ?_
              kernel_rfl
             ·
              refine vcIntro (hx2 21 262400) (an (u21 h23 h22 h20 h16 h12 h8 h4 h3 h2 h1 h0 h21 h20 h16 h12 h8 h4 h3 h2 h1 h0) (an (show nxV key N = IntKind.i64.wrap (z24 - (1:Int)) by (simp only [L, N, w1, w2, w3, w4] at *; simp at *; simp [nw, *] at w6 hz; simp only [w6] at *; simp [nxV, nw, *] <;> (repeat' split) <;> omega)) tt)) ?_
              kernel_rfl
          ·
           rcases eb (decide (L = (9:Int))) with h24 | h24
           ·
            rcases eb (!b9) with h25 | h25
            · exact ff (by simp only [L, N, w1, w2, w3, w4] at *; simp at *; simp_all [kn])
            ·
             rcases eb (decide (IntKind.i64.wrap (z25 - (1:Int)) ≤ key)) with h26 | h26
             ·
              refine vcIntro (hx2 22 3146240) (an (u22 h26 h24 h20 h16 h12 h8 h4 h3 h2 h1 h0 h25 h24 h20 h16 h12 h8 h4 h3 h2 h1 h0) (an (show nxV key N = (-1:Int) by simp only [L, N, w1, w2, w3, w4] at *; simp at *; simp [nw, *] at w6 hz; simp only [w6] at *; simp [nxV, nw, *]) tt)) ?_
              kernel_rfl
             ·
              rcases eb (decide (IntKind.i64.wrap (z25 - (1:Int)) ≥ (5:Int))) with h27 | h27
              ·
               refine vcIntro (hx2 23 5243392) (an (u23 h27 h26 h24 h20 h16 h12 h8 h4 h3 h2 h1 h0 h25 h24 h20 h16 h12 h8 h4 h3 h2 h1 h0) (an (show nxV key N = (-1:Int) by simp only [L, N, w1, w2, w3, w4] at *; simp at *; simp [nw, *] at w6 hz; simp only [w6] at *; simp [nxV, nw, *]) tt)) ?_
               kernel_rfl
              ·
               refine vcIntro (hx2 23 1049088) (an (u23 h27 h26 h24 h20 h16 h12 h8 h4 h3 h2 h1 h0 h25 h24 h20 h16 h12 h8 h4 h3 h2 h1 h0) (an (show nxV key N = IntKind.i64.wrap (z25 - (1:Int)) by (simp only [L, N, w1, w2, w3, w4] at *; simp at *; simp [nw, *] at w6 hz; simp only [w6] at *; simp [nxV, nw, *] <;> (repeat' split) <;> omega)) tt)) ?_
               kernel_rfl
           ·
            rcases eb (decide (L = (10:Int))) with h28 | h28
            ·
             rcases eb (!b10) with h29 | h29
             · exact ff (by simp only [L, N, w1, w2, w3, w4] at *; simp at *; simp_all [kn])
             ·
              rcases eb (decide (IntKind.i64.wrap (z26 - (1:Int)) ≤ key)) with h30 | h30
              ·
               refine vcIntro (hx2 24 12583936) (an (u24 h30 h28 h24 h20 h16 h12 h8 h4 h3 h2 h1 h0 h29 h28 h24 h20 h16 h12 h8 h4 h3 h2 h1 h0) (an (show nxV key N = (-1:Int) by simp only [L, N, w1, w2, w3, w4] at *; simp at *; simp [nw, *] at w6 hz; simp only [w6] at *; simp [nxV, nw, *]) tt)) ?_
               kernel_rfl
              ·
               rcases eb (decide (IntKind.i64.wrap (z26 - (1:Int)) ≥ (5:Int))) with h31 | h31
               ·
                refine vcIntro (hx2 25 20972544) (an (u25 h31 h30 h28 h24 h20 h16 h12 h8 h4 h3 h2 h1 h0 h29 h28 h24 h20 h16 h12 h8 h4 h3 h2 h1 h0) (an (show nxV key N = (-1:Int) by simp only [L, N, w1, w2, w3, w4] at *; simp at *; simp [nw, *] at w6 hz; simp only [w6] at *; simp [nxV, nw, *]) tt)) ?_
                kernel_rfl
               ·
                refine vcIntro (hx2 25 4195328) (an (u25 h31 h30 h28 h24 h20 h16 h12 h8 h4 h3 h2 h1 h0 h29 h28 h24 h20 h16 h12 h8 h4 h3 h2 h1 h0) (an (show nxV key N = IntKind.i64.wrap (z26 - (1:Int)) by (simp only [L, N, w1, w2, w3, w4] at *; simp at *; simp [nw, *] at w6 hz; simp only [w6] at *; simp [nxV, nw, *] <;> (repeat' split) <;> omega)) tt)) ?_
                kernel_rfl
            ·
             rcases eb (decide (L = (11:Int))) with h32 | h32
             ·
              rcases eb (!b11) with h33 | h33
              · exact ff (by simp only [L, N, w1, w2, w3, w4] at *; simp at *; simp_all [kn])
              ·
               rcases eb (decide (IntKind.i64.wrap (z27 - (1:Int)) ≤ key)) with h34 | h34
               ·
                refine vcIntro (hx2 26 50333696) (an (u26 h34 h32 h28 h24 h20 h16 h12 h8 h4 h3 h2 h1 h0 h33 h32 h28 h24 h20 h16 h12 h8 h4 h3 h2 h1 h0) (an (show nxV key N = (-1:Int) by simp only [L, N, w1, w2, w3, w4] at *; simp at *; simp [nw, *] at w6 hz; simp only [w6] at *; simp [nxV, nw, *]) tt)) ?_
                kernel_rfl
               ·
                rcases eb (decide (IntKind.i64.wrap (z27 - (1:Int)) ≥ (5:Int))) with h35 | h35
                ·
                 refine vcIntro (hx2 27 83888128) (an (u27 h35 h34 h32 h28 h24 h20 h16 h12 h8 h4 h3 h2 h1 h0 h33 h32 h28 h24 h20 h16 h12 h8 h4 h3 h2 h1 h0) (an (show nxV key N = (-1:Int) by simp only [L, N, w1, w2, w3, w4] at *; simp at *; simp [nw, *] at w6 hz; simp only [w6] at *; simp [nxV, nw, *]) tt)) ?_
                 kernel_rfl
                ·
                 refine vcIntro (hx2 27 16779264) (an (u27 h35 h34 h32 h28 h24 h20 h16 h12 h8 h4 h3 h2 h1 h0 h33 h32 h28 h24 h20 h16 h12 h8 h4 h3 h2 h1 h0) (an (show nxV key N = IntKind.i64.wrap (z27 - (1:Int)) by (simp only [L, N, w1, w2, w3, w4] at *; simp at *; simp [nw, *] at w6 hz; simp only [w6] at *; simp [nxV, nw, *] <;> (repeat' split) <;> omega)) tt)) ?_
                 kernel_rfl
             ·
              rcases eb (decide (L = (12:Int))) with h36 | h36
              ·
               rcases eb (!b12) with h37 | h37
               · exact ff (by simp only [L, N, w1, w2, w3, w4] at *; simp at *; simp_all [kn])
               ·
                rcases eb (decide (IntKind.i64.wrap (z28 - (1:Int)) ≤ key)) with h38 | h38
                ·
                 refine vcIntro (hx2 28 201330688) (an (u28 h38 h36 h32 h28 h24 h20 h16 h12 h8 h4 h3 h2 h1 h0 h37 h36 h32 h28 h24 h20 h16 h12 h8 h4 h3 h2 h1 h0) (an (show nxV key N = (-1:Int) by simp only [L, N, w1, w2, w3, w4] at *; simp at *; simp [nw, *] at w6 hz; simp only [w6] at *; simp [nxV, nw, *]) tt)) ?_
                 kernel_rfl
                ·
                 rcases eb (decide (IntKind.i64.wrap (z28 - (1:Int)) ≥ (5:Int))) with h39 | h39
                 ·
                  refine vcIntro (hx2 29 335548416) (an (u29 h39 h38 h36 h32 h28 h24 h20 h16 h12 h8 h4 h3 h2 h1 h0 h37 h36 h32 h28 h24 h20 h16 h12 h8 h4 h3 h2 h1 h0) (an (show nxV key N = (-1:Int) by simp only [L, N, w1, w2, w3, w4] at *; simp at *; simp [nw, *] at w6 hz; simp only [w6] at *; simp [nxV, nw, *]) tt)) ?_
                  kernel_rfl
                 ·
                  refine vcIntro (hx2 29 67112960) (an (u29 h39 h38 h36 h32 h28 h24 h20 h16 h12 h8 h4 h3 h2 h1 h0 h37 h36 h32 h28 h24 h20 h16 h12 h8 h4 h3 h2 h1 h0) (an (show nxV key N = IntKind.i64.wrap (z28 - (1:Int)) by (simp only [L, N, w1, w2, w3, w4] at *; simp at *; simp [nw, *] at w6 hz; simp only [w6] at *; simp [nxV, nw, *] <;> (repeat' split) <;> omega)) tt)) ?_
                  kernel_rfl
              ·
               rcases eb (decide (L = (13:Int))) with h40 | h40
               ·
                rcases eb (!b13) with h41 | h41
                · exact ff (by simp only [L, N, w1, w2, w3, w4] at *; simp at *; simp_all [kn])
                ·
                 rcases eb (decide (IntKind.i64.wrap (z29 - (1:Int)) ≤ key)) with h42 | h42
                 ·
                  refine vcIntro (hx2 30 805314560) (an (u30 h42 h40 h36 h32 h28 h24 h20 h16 h12 h8 h4 h3 h2 h1 h0 h41 h40 h36 h32 h28 h24 h20 h16 h12 h8 h4 h3 h2 h1 h0) (an (show nxV key N = (-1:Int) by simp only [L, N, w1, w2, w3, w4] at *; simp at *; simp [nw, *] at w6 hz; simp only [w6] at *; simp [nxV, nw, *]) tt)) ?_
                  kernel_rfl
                 ·
                  rcases eb (decide (IntKind.i64.wrap (z29 - (1:Int)) ≥ (5:Int))) with h43 | h43
                  ·
                   refine vcIntro (hx2 31 1342185472) (an (an h43 (an h42 (an h40 (an h36 (an h32 (an h28 (an h24 (an h20 (an h16 (an h12 (an h8 (an h4 (an h3 (an h2 (an h1 (an h0 (an h41 (an h40 (an h36 (an h32 (an h28 (an h24 (an h20 (an h16 (an h12 (an h8 (an h4 (an h3 (an h2 (an h1 (an h0 tt))))))))))))))))))))))))))))))) (an (show nxV key N = (-1:Int) by simp only [L, N, w1, w2, w3, w4] at *; simp at *; simp [nw, *] at w6 hz; simp only [w6] at *; simp [nxV, nw, *]) tt)) ?_
                   kernel_rfl
                  ·
                   refine vcIntro (hx2 31 268443648) (an (an h43 (an h42 (an h40 (an h36 (an h32 (an h28 (an h24 (an h20 (an h16 (an h12 (an h8 (an h4 (an h3 (an h2 (an h1 (an h0 (an h41 (an h40 (an h36 (an h32 (an h28 (an h24 (an h20 (an h16 (an h12 (an h8 (an h4 (an h3 (an h2 (an h1 (an h0 tt))))))))))))))))))))))))))))))) (an (show nxV key N = IntKind.i64.wrap (z29 - (1:Int)) by (simp only [L, N, w1, w2, w3, w4] at *; simp at *; simp [nw, *] at w6 hz; simp only [w6] at *; simp [nxV, nw, *] <;> (repeat' split) <;> omega)) tt)) ?_
                   kernel_rfl
               ·
                rcases eb (decide (L = (14:Int))) with h44 | h44
                ·
                 rcases eb (!b14) with h45 | h45
                 · exact ff (by simp only [L, N, w1, w2, w3, w4] at *; simp at *; simp_all [kn])
                 ·
                  rcases eb (decide (IntKind.i64.wrap (z30 - (1:Int)) ≤ key)) with h46 | h46
                  ·
                   refine vcIntro (hx2 32 3221241856) (an (an h46 (an h44 (an h40 (an h36 (an h32 (an h28 (an h24 (an h20 (an h16 (an h12 (an h8 (an h4 (an h3 (an h2 (an h1 (an h0 (an h45 (an h44 (an h40 (an h36 (an h32 (an h28 (an h24 (an h20 (an h16 (an h12 (an h8 (an h4 (an h3 (an h2 (an h1 (an h0 tt)))))))))))))))))))))))))))))))) (an (show nxV key N = (-1:Int) by simp only [L, N, w1, w2, w3, w4] at *; simp at *; simp [nw, *] at w6 hz; simp only [w6] at *; simp [nxV, nw, *]) tt)) ?_
                   kernel_rfl
                  ·
                   rcases eb (decide (IntKind.i64.wrap (z30 - (1:Int)) ≥ (5:Int))) with h47 | h47
                   ·
                    refine vcIntro (hx2 33 5368725504) (an (an h47 (an h46 (an h44 (an h40 (an h36 (an h32 (an h28 (an h24 (an h20 (an h16 (an h12 (an h8 (an h4 (an h3 (an h2 (an h1 (an h0 (an h45 (an h44 (an h40 (an h36 (an h32 (an h28 (an h24 (an h20 (an h16 (an h12 (an h8 (an h4 (an h3 (an h2 (an h1 (an h0 tt))))))))))))))))))))))))))))))))) (an (show nxV key N = (-1:Int) by simp only [L, N, w1, w2, w3, w4] at *; simp at *; simp [nw, *] at w6 hz; simp only [w6] at *; simp [nxV, nw, *]) tt)) ?_
                    kernel_rfl
                   ·
                    refine vcIntro (hx2 33 1073758208) (an (an h47 (an h46 (an h44 (an h40 (an h36 (an h32 (an h28 (an h24 (an h20 (an h16 (an h12 (an h8 (an h4 (an h3 (an h2 (an h1 (an h0 (an h45 (an h44 (an h40 (an h36 (an h32 (an h28 (an h24 (an h20 (an h16 (an h12 (an h8 (an h4 (an h3 (an h2 (an h1 (an h0 tt))))))))))))))))))))))))))))))))) (an (show nxV key N = IntKind.i64.wrap (z30 - (1:Int)) by (simp only [L, N, w1, w2, w3, w4] at *; simp at *; simp [nw, *] at w6 hz; simp only [w6] at *; simp [nxV, nw, *] <;> (repeat' split) <;> omega)) tt)) ?_
                    kernel_rfl
                ·
                 rcases eb (decide (L = (15:Int))) with h48 | h48
                 ·
                  rcases eb (!b15) with h49 | h49
                  · exact ff (by simp only [L, N, w1, w2, w3, w4] at *; simp at *; simp_all [kn])
                  ·
                   rcases eb (decide (IntKind.i64.wrap (z31 - (1:Int)) ≤ key)) with h50 | h50
                   ·
                    refine vcIntro (hx2 34 12884934656) (an (an h50 (an h48 (an h44 (an h40 (an h36 (an h32 (an h28 (an h24 (an h20 (an h16 (an h12 (an h8 (an h4 (an h3 (an h2 (an h1 (an h0 (an h49 (an h48 (an h44 (an h40 (an h36 (an h32 (an h28 (an h24 (an h20 (an h16 (an h12 (an h8 (an h4 (an h3 (an h2 (an h1 (an h0 tt)))))))))))))))))))))))))))))))))) (an (show nxV key N = (-1:Int) by simp only [L, N, w1, w2, w3, w4] at *; simp at *; simp [nw, *] at w6 hz; simp only [w6] at *; simp [nxV, nw, *]) tt)) ?_
                    kernel_rfl
                   ·
                    rcases eb (decide (IntKind.i64.wrap (z31 - (1:Int)) ≥ (5:Int))) with h51 | h51
                    ·
                     refine vcIntro (hx2 35 21474869248) (an (an h51 (an h50 (an h48 (an h44 (an h40 (an h36 (an h32 (an h28 (an h24 (an h20 (an h16 (an h12 (an h8 (an h4 (an h3 (an h2 (an h1 (an h0 (an h49 (an h48 (an h44 (an h40 (an h36 (an h32 (an h28 (an h24 (an h20 (an h16 (an h12 (an h8 (an h4 (an h3 (an h2 (an h1 (an h0 tt))))))))))))))))))))))))))))))))))) (an (show nxV key N = (-1:Int) by simp only [L, N, w1, w2, w3, w4] at *; simp at *; simp [nw, *] at w6 hz; simp only [w6] at *; simp [nxV, nw, *]) tt)) ?_
                     kernel_rfl
                    ·
                     refine vcIntro (hx2 35 4295000064) (an (an h51 (an h50 (an h48 (an h44 (an h40 (an h36 (an h32 (an h28 (an h24 (an h20 (an h16 (an h12 (an h8 (an h4 (an h3 (an h2 (an h1 (an h0 (an h49 (an h48 (an h44 (an h40 (an h36 (an h32 (an h28 (an h24 (an h20 (an h16 (an h12 (an h8 (an h4 (an h3 (an h2 (an h1 (an h0 tt))))))))))))))))))))))))))))))))))) (an (show nxV key N = IntKind.i64.wrap (z31 - (1:Int)) by (simp only [L, N, w1, w2, w3, w4] at *; simp at *; simp [nw, *] at w6 hz; simp only [w6] at *; simp [nxV, nw, *] <;> (repeat' split) <;> omega)) tt)) ?_
                     kernel_rfl
                 · exact ff (by simp only [L, N, w1, w2, w3, w4] at *; simp at *; omega)
theorem nx_u (ho : lkOk key level) (hk : kn [b0, b1, b2, b3, b4, b5, b6, b7, b8, b9, b10, b11, b12, b13, b14, b15] (lk key level) = false) :
    ∃ hh, vcOf (runCall Try.prog noSpec noL 3000 33 [.agg [.ptr 0 (.c 0)], .int .i64 (.s key), .int .i64 (.s level)] (Hm (wk1 [b0, b1, b2, b3, b4, b5, b6, b7, b8, b9, b10, b11, b12, b13, b14, b15] [z0, z1, z2, z3, z4, z5, z6, z7, z8, z9, z10, z11, z12, z13, z14, z15, z16, z17, z18, z19, z20, z21, z22, z23, z24, z25, z26, z27, z28, z29, z30, z31] .nili) 1) hh) (fun v H1 => retP 1 [0] v H1 (.int .i64 (.s (-1))) (wk1 [b0, b1, b2, b3, b4, b5, b6, b7, b8, b9, b10, b11, b12, b13, b14, b15] [z0, z1, z2, z3, z4, z5, z6, z7, z8, z9, z10, z11, z12, z13, z14, z15, z16, z17, z18, z19, z20, z21, z22, z23, z24, z25, z26, z27, z28, z29, z30, z31] (askV (lk key level))) 1) := by
  have w1 : IntKind.i64.wrap (key - (-1)) = key + 1 := by unfold lkOk at ho; rw [wrapk _ (by omega)]; omega
  have w2 : IntKind.i64.wrap (2 * (key + 1)) = 2 * (key + 1) := by unfold lkOk at ho; exact wrapk _ (by omega)
  have w3 : IntKind.i64.wrap (4 + 2 * (key + 1)) = 4 + 2 * (key + 1) := by unfold lkOk at ho; exact wrapk _ (by omega)
  have w4 : IntKind.i64.wrap (4 + 2 * (key + 1) + level) = lk key level := by unfold lkOk at ho; unfold lk; exact wrapk _ (by omega)
  have w5 : 4 ≤ lk key level ∧ lk key level < 16 := by unfold lkOk at ho; unfold lk; omega

  let L : Int := IntKind.i64.wrap (IntKind.i64.wrap ((4:Int) + IntKind.i64.wrap ((2:Int) * IntKind.i64.wrap (key - (-1:Int)))) + level)
  rcases eb (decide (L = (0:Int))) with h0 | h0
  · exact ff (by simp only [L, w1, w2, w3, w4] at *; simp at *; omega)
  ·
   rcases eb (decide (L = (1:Int))) with h1 | h1
   · exact ff (by simp only [L, w1, w2, w3, w4] at *; simp at *; omega)
   ·
    rcases eb (decide (L = (2:Int))) with h2 | h2
    · exact ff (by simp only [L, w1, w2, w3, w4] at *; simp at *; omega)
    ·
     rcases eb (decide (L = (3:Int))) with h3 | h3
     · exact ff (by simp only [L, w1, w2, w3, w4] at *; simp at *; omega)
     ·
      rcases eb (decide (L = (4:Int))) with h4 | h4
      ·
       rcases eb (!b4) with h5 | h5
       ·
        rcases eb (decide ((-1:Int) ≤ key)) with h6 | h6
        ·
         refine vcIntro (hx2 7 112) (an (u7 h6 h5 h4 h3 h2 h1 h0) (an (ri ((-1:Int))) (an (zo (cK1_0 b0 b1 b2 b3 b4 b5 b6 b7 b8 b9 b10 b11 b12 b13 b14 b15 z0 z1 z2 z3 z4 z5 z6 z7 z8 z9 z10 z11 z12 z13 z14 z15 z16 z17 z18 z19 z20 z21 z22 z23 z24 z25 z26 z27 z28 z29 z30 z31 (show lk key level = L by simp only [L, w1, w2, w3, w4]))) tt))) ?_
         kernel_rfl
        ·
         refine vcIntro (hx2 7 48) (an (u7 h6 h5 h4 h3 h2 h1 h0) (an (ri ((-1:Int))) (an (zo (cK1_0 b0 b1 b2 b3 b4 b5 b6 b7 b8 b9 b10 b11 b12 b13 b14 b15 z0 z1 z2 z3 z4 z5 z6 z7 z8 z9 z10 z11 z12 z13 z14 z15 z16 z17 z18 z19 z20 z21 z22 z23 z24 z25 z26 z27 z28 z29 z30 z31 (show lk key level = L by simp only [L, w1, w2, w3, w4]))) tt))) ?_
         kernel_rfl
       · exact ff (by simp only [L, w1, w2, w3, w4] at *; simp at *; simp_all [kn])
      ·
       rcases eb (decide (L = (5:Int))) with h7 | h7
       ·
        rcases eb (!b5) with h8 | h8
        ·
         rcases eb (decide ((-1:Int) ≤ key)) with h9 | h9
         ·
          refine vcIntro (hx2 8 224) (an (u8 h9 h8 h7 h4 h3 h2 h1 h0) (an (ri ((-1:Int))) (an (zo (cK1_0 b0 b1 b2 b3 b4 b5 b6 b7 b8 b9 b10 b11 b12 b13 b14 b15 z0 z1 z2 z3 z4 z5 z6 z7 z8 z9 z10 z11 z12 z13 z14 z15 z16 z17 z18 z19 z20 z21 z22 z23 z24 z25 z26 z27 z28 z29 z30 z31 (show lk key level = L by simp only [L, w1, w2, w3, w4]))) tt))) ?_
          kernel_rfl
         ·
          refine vcIntro (hx2 8 96) (an (u8 h9 h8 h7 h4 h3 h2 h1 h0) (an (ri ((-1:Int))) (an (zo (cK1_0 b0 b1 b2 b3 b4 b5 b6 b7 b8 b9 b10 b11 b12 b13 b14 b15 z0 z1 z2 z3 z4 z5 z6 z7 z8 z9 z10 z11 z12 z13 z14 z15 z16 z17 z18 z19 z20 z21 z22 z23 z24 z25 z26 z27 z28 z29 z30 z31 (show lk key level = L by simp only [L, w1, w2, w3, w4]))) tt))) ?_
          kernel_rfl
        · exact ff (by simp only [L, w1, w2, w3, w4] at *; simp at *; simp_all [kn])
       ·
        rcases eb (decide (L = (6:Int))) with h10 | h10
        ·
         rcases eb (!b6) with h11 | h11
         ·
          rcases eb (decide ((-1:Int) ≤ key)) with h12 | h12
          ·
           refine vcIntro (hx2 9 448) (an (u9 h12 h11 h10 h7 h4 h3 h2 h1 h0) (an (ri ((-1:Int))) (an (zo (cK1_0 b0 b1 b2 b3 b4 b5 b6 b7 b8 b9 b10 b11 b12 b13 b14 b15 z0 z1 z2 z3 z4 z5 z6 z7 z8 z9 z10 z11 z12 z13 z14 z15 z16 z17 z18 z19 z20 z21 z22 z23 z24 z25 z26 z27 z28 z29 z30 z31 (show lk key level = L by simp only [L, w1, w2, w3, w4]))) tt))) ?_
           kernel_rfl
          ·
           refine vcIntro (hx2 9 192) (an (u9 h12 h11 h10 h7 h4 h3 h2 h1 h0) (an (ri ((-1:Int))) (an (zo (cK1_0 b0 b1 b2 b3 b4 b5 b6 b7 b8 b9 b10 b11 b12 b13 b14 b15 z0 z1 z2 z3 z4 z5 z6 z7 z8 z9 z10 z11 z12 z13 z14 z15 z16 z17 z18 z19 z20 z21 z22 z23 z24 z25 z26 z27 z28 z29 z30 z31 (show lk key level = L by simp only [L, w1, w2, w3, w4]))) tt))) ?_
           kernel_rfl
         · exact ff (by simp only [L, w1, w2, w3, w4] at *; simp at *; simp_all [kn])
        ·
         rcases eb (decide (L = (7:Int))) with h13 | h13
         ·
          rcases eb (!b7) with h14 | h14
          ·
           rcases eb (decide ((-1:Int) ≤ key)) with h15 | h15
           ·
            refine vcIntro (hx2 10 896) (an (u10 h15 h14 h13 h10 h7 h4 h3 h2 h1 h0) (an (ri ((-1:Int))) (an (zo (cK1_0 b0 b1 b2 b3 b4 b5 b6 b7 b8 b9 b10 b11 b12 b13 b14 b15 z0 z1 z2 z3 z4 z5 z6 z7 z8 z9 z10 z11 z12 z13 z14 z15 z16 z17 z18 z19 z20 z21 z22 z23 z24 z25 z26 z27 z28 z29 z30 z31 (show lk key level = L by simp only [L, w1, w2, w3, w4]))) tt))) ?_
            kernel_rfl
           ·
            refine vcIntro (hx2 10 384) (an (u10 h15 h14 h13 h10 h7 h4 h3 h2 h1 h0) (an (ri ((-1:Int))) (an (zo (cK1_0 b0 b1 b2 b3 b4 b5 b6 b7 b8 b9 b10 b11 b12 b13 b14 b15 z0 z1 z2 z3 z4 z5 z6 z7 z8 z9 z10 z11 z12 z13 z14 z15 z16 z17 z18 z19 z20 z21 z22 z23 z24 z25 z26 z27 z28 z29 z30 z31 (show lk key level = L by simp only [L, w1, w2, w3, w4]))) tt))) ?_
            kernel_rfl
          · exact ff (by simp only [L, w1, w2, w3, w4] at *; simp at *; simp_all [kn])
         ·
          rcases eb (decide (L = (8:Int))) with h16 | h16
          ·
           rcases eb (!b8) with h17 | h17
           ·
            rcases eb (decide ((-1:Int) ≤ key)) with h18 | h18
            ·
             refine vcIntro (hx2 11 1792) (an (u11 h18 h17 h16 h13 h10 h7 h4 h3 h2 h1 h0) (an (ri ((-1:Int))) (an (zo (cK1_0 b0 b1 b2 b3 b4 b5 b6 b7 b8 b9 b10 b11 b12 b13 b14 b15 z0 z1 z2 z3 z4 z5 z6 z7 z8 z9 z10 z11 z12 z13 z14 z15 z16 z17 z18 z19 z20 z21 z22 z23 z24 z25 z26 z27 z28 z29 z30 z31 (show lk key level = L by simp only [L, w1, w2, w3, w4]))) tt))) ?_
             kernel_rfl
            ·
             refine vcIntro (hx2 11 768) (an (u11 h18 h17 h16 h13 h10 h7 h4 h3 h2 h1 h0) (an (ri ((-1:Int))) (an (zo (cK1_0 b0 b1 b2 b3 b4 b5 b6 b7 b8 b9 b10 b11 b12 b13 b14 b15 z0 z1 z2 z3 z4 z5 z6 z7 z8 z9 z10 z11 z12 z13 z14 z15 z16 z17 z18 z19 z20 z21 z22 z23 z24 z25 z26 z27 z28 z29 z30 z31 (show lk key level = L by simp only [L, w1, w2, w3, w4]))) tt))) ?_
             kernel_rfl
           · exact ff (by simp only [L, w1, w2, w3, w4] at *; simp at *; simp_all [kn])
          ·
           rcases eb (decide (L = (9:Int))) with h19 | h19
           ·
            rcases eb (!b9) with h20 | h20
            ·
             rcases eb (decide ((-1:Int) ≤ key)) with h21 | h21
             ·
              refine vcIntro (hx2 12 3584) (an (u12 h21 h20 h19 h16 h13 h10 h7 h4 h3 h2 h1 h0) (an (ri ((-1:Int))) (an (zo (cK1_0 b0 b1 b2 b3 b4 b5 b6 b7 b8 b9 b10 b11 b12 b13 b14 b15 z0 z1 z2 z3 z4 z5 z6 z7 z8 z9 z10 z11 z12 z13 z14 z15 z16 z17 z18 z19 z20 z21 z22 z23 z24 z25 z26 z27 z28 z29 z30 z31 (show lk key level = L by simp only [L, w1, w2, w3, w4]))) tt))) ?_
              kernel_rfl
             ·
              refine vcIntro (hx2 12 1536) (an (u12 h21 h20 h19 h16 h13 h10 h7 h4 h3 h2 h1 h0) (an (ri ((-1:Int))) (an (zo (cK1_0 b0 b1 b2 b3 b4 b5 b6 b7 b8 b9 b10 b11 b12 b13 b14 b15 z0 z1 z2 z3 z4 z5 z6 z7 z8 z9 z10 z11 z12 z13 z14 z15 z16 z17 z18 z19 z20 z21 z22 z23 z24 z25 z26 z27 z28 z29 z30 z31 (show lk key level = L by simp only [L, w1, w2, w3, w4]))) tt))) ?_
              kernel_rfl
            · exact ff (by simp only [L, w1, w2, w3, w4] at *; simp at *; simp_all [kn])
           ·
            rcases eb (decide (L = (10:Int))) with h22 | h22
            ·
             rcases eb (!b10) with h23 | h23
             ·
              rcases eb (decide ((-1:Int) ≤ key)) with h24 | h24
              ·
               refine vcIntro (hx2 13 7168) (an (u13 h24 h23 h22 h19 h16 h13 h10 h7 h4 h3 h2 h1 h0) (an (ri ((-1:Int))) (an (zo (cK1_0 b0 b1 b2 b3 b4 b5 b6 b7 b8 b9 b10 b11 b12 b13 b14 b15 z0 z1 z2 z3 z4 z5 z6 z7 z8 z9 z10 z11 z12 z13 z14 z15 z16 z17 z18 z19 z20 z21 z22 z23 z24 z25 z26 z27 z28 z29 z30 z31 (show lk key level = L by simp only [L, w1, w2, w3, w4]))) tt))) ?_
               kernel_rfl
              ·
               refine vcIntro (hx2 13 3072) (an (u13 h24 h23 h22 h19 h16 h13 h10 h7 h4 h3 h2 h1 h0) (an (ri ((-1:Int))) (an (zo (cK1_0 b0 b1 b2 b3 b4 b5 b6 b7 b8 b9 b10 b11 b12 b13 b14 b15 z0 z1 z2 z3 z4 z5 z6 z7 z8 z9 z10 z11 z12 z13 z14 z15 z16 z17 z18 z19 z20 z21 z22 z23 z24 z25 z26 z27 z28 z29 z30 z31 (show lk key level = L by simp only [L, w1, w2, w3, w4]))) tt))) ?_
               kernel_rfl
             · exact ff (by simp only [L, w1, w2, w3, w4] at *; simp at *; simp_all [kn])
            ·
             rcases eb (decide (L = (11:Int))) with h25 | h25
             ·
              rcases eb (!b11) with h26 | h26
              ·
               rcases eb (decide ((-1:Int) ≤ key)) with h27 | h27
               ·
                refine vcIntro (hx2 14 14336) (an (u14 h27 h26 h25 h22 h19 h16 h13 h10 h7 h4 h3 h2 h1 h0) (an (ri ((-1:Int))) (an (zo (cK1_0 b0 b1 b2 b3 b4 b5 b6 b7 b8 b9 b10 b11 b12 b13 b14 b15 z0 z1 z2 z3 z4 z5 z6 z7 z8 z9 z10 z11 z12 z13 z14 z15 z16 z17 z18 z19 z20 z21 z22 z23 z24 z25 z26 z27 z28 z29 z30 z31 (show lk key level = L by simp only [L, w1, w2, w3, w4]))) tt))) ?_
                kernel_rfl
               ·
                refine vcIntro (hx2 14 6144) (an (u14 h27 h26 h25 h22 h19 h16 h13 h10 h7 h4 h3 h2 h1 h0) (an (ri ((-1:Int))) (an (zo (cK1_0 b0 b1 b2 b3 b4 b5 b6 b7 b8 b9 b10 b11 b12 b13 b14 b15 z0 z1 z2 z3 z4 z5 z6 z7 z8 z9 z10 z11 z12 z13 z14 z15 z16 z17 z18 z19 z20 z21 z22 z23 z24 z25 z26 z27 z28 z29 z30 z31 (show lk key level = L by simp only [L, w1, w2, w3, w4]))) tt))) ?_
                kernel_rfl
              · exact ff (by simp only [L, w1, w2, w3, w4] at *; simp at *; simp_all [kn])
             ·
              rcases eb (decide (L = (12:Int))) with h28 | h28
              ·
               rcases eb (!b12) with h29 | h29
               ·
                rcases eb (decide ((-1:Int) ≤ key)) with h30 | h30
                ·
                 refine vcIntro (hx2 15 28672) (an (u15 h30 h29 h28 h25 h22 h19 h16 h13 h10 h7 h4 h3 h2 h1 h0) (an (ri ((-1:Int))) (an (zo (cK1_0 b0 b1 b2 b3 b4 b5 b6 b7 b8 b9 b10 b11 b12 b13 b14 b15 z0 z1 z2 z3 z4 z5 z6 z7 z8 z9 z10 z11 z12 z13 z14 z15 z16 z17 z18 z19 z20 z21 z22 z23 z24 z25 z26 z27 z28 z29 z30 z31 (show lk key level = L by simp only [L, w1, w2, w3, w4]))) tt))) ?_
                 kernel_rfl
                ·
                 refine vcIntro (hx2 15 12288) (an (u15 h30 h29 h28 h25 h22 h19 h16 h13 h10 h7 h4 h3 h2 h1 h0) (an (ri ((-1:Int))) (an (zo (cK1_0 b0 b1 b2 b3 b4 b5 b6 b7 b8 b9 b10 b11 b12 b13 b14 b15 z0 z1 z2 z3 z4 z5 z6 z7 z8 z9 z10 z11 z12 z13 z14 z15 z16 z17 z18 z19 z20 z21 z22 z23 z24 z25 z26 z27 z28 z29 z30 z31 (show lk key level = L by simp only [L, w1, w2, w3, w4]))) tt))) ?_
                 kernel_rfl
               · exact ff (by simp only [L, w1, w2, w3, w4] at *; simp at *; simp_all [kn])
              ·
               rcases eb (decide (L = (13:Int))) with h31 | h31
               ·
                rcases eb (!b13) with h32 | h32
                ·
                 rcases eb (decide ((-1:Int) ≤ key)) with h33 | h33
                 ·
                  refine vcIntro (hx2 16 57344) (an (u16 h33 h32 h31 h28 h25 h22 h19 h16 h13 h10 h7 h4 h3 h2 h1 h0) (an (ri ((-1:Int))) (an (zo (cK1_0 b0 b1 b2 b3 b4 b5 b6 b7 b8 b9 b10 b11 b12 b13 b14 b15 z0 z1 z2 z3 z4 z5 z6 z7 z8 z9 z10 z11 z12 z13 z14 z15 z16 z17 z18 z19 z20 z21 z22 z23 z24 z25 z26 z27 z28 z29 z30 z31 (show lk key level = L by simp only [L, w1, w2, w3, w4]))) tt))) ?_
                  kernel_rfl
                 ·
                  refine vcIntro (hx2 16 24576) (an (u16 h33 h32 h31 h28 h25 h22 h19 h16 h13 h10 h7 h4 h3 h2 h1 h0) (an (ri ((-1:Int))) (an (zo (cK1_0 b0 b1 b2 b3 b4 b5 b6 b7 b8 b9 b10 b11 b12 b13 b14 b15 z0 z1 z2 z3 z4 z5 z6 z7 z8 z9 z10 z11 z12 z13 z14 z15 z16 z17 z18 z19 z20 z21 z22 z23 z24 z25 z26 z27 z28 z29 z30 z31 (show lk key level = L by simp only [L, w1, w2, w3, w4]))) tt))) ?_
                  kernel_rfl
                · exact ff (by simp only [L, w1, w2, w3, w4] at *; simp at *; simp_all [kn])
               ·
                rcases eb (decide (L = (14:Int))) with h34 | h34
                ·
                 rcases eb (!b14) with h35 | h35
                 ·
                  rcases eb (decide ((-1:Int) ≤ key)) with h36 | h36
                  ·
                   refine vcIntro (hx2 17 114688) (an (u17 h36 h35 h34 h31 h28 h25 h22 h19 h16 h13 h10 h7 h4 h3 h2 h1 h0) (an (ri ((-1:Int))) (an (zo (cK1_0 b0 b1 b2 b3 b4 b5 b6 b7 b8 b9 b10 b11 b12 b13 b14 b15 z0 z1 z2 z3 z4 z5 z6 z7 z8 z9 z10 z11 z12 z13 z14 z15 z16 z17 z18 z19 z20 z21 z22 z23 z24 z25 z26 z27 z28 z29 z30 z31 (show lk key level = L by simp only [L, w1, w2, w3, w4]))) tt))) ?_
                   kernel_rfl
                  ·
                   refine vcIntro (hx2 17 49152) (an (u17 h36 h35 h34 h31 h28 h25 h22 h19 h16 h13 h10 h7 h4 h3 h2 h1 h0) (an (ri ((-1:Int))) (an (zo (cK1_0 b0 b1 b2 b3 b4 b5 b6 b7 b8 b9 b10 b11 b12 b13 b14 b15 z0 z1 z2 z3 z4 z5 z6 z7 z8 z9 z10 z11 z12 z13 z14 z15 z16 z17 z18 z19 z20 z21 z22 z23 z24 z25 z26 z27 z28 z29 z30 z31 (show lk key level = L by simp only [L, w1, w2, w3, w4]))) tt))) ?_
                   kernel_rfl
                 · exact ff (by simp only [L, w1, w2, w3, w4] at *; simp at *; simp_all [kn])
                ·
                 rcases eb (decide (L = (15:Int))) with h37 | h37
                 ·
                  rcases eb (!b15) with h38 | h38
                  ·
                   rcases eb (decide ((-1:Int) ≤ key)) with h39 | h39
                   ·
                    refine vcIntro (hx2 18 229376) (an (u18 h39 h38 h37 h34 h31 h28 h25 h22 h19 h16 h13 h10 h7 h4 h3 h2 h1 h0) (an (ri ((-1:Int))) (an (zo (cK1_0 b0 b1 b2 b3 b4 b5 b6 b7 b8 b9 b10 b11 b12 b13 b14 b15 z0 z1 z2 z3 z4 z5 z6 z7 z8 z9 z10 z11 z12 z13 z14 z15 z16 z17 z18 z19 z20 z21 z22 z23 z24 z25 z26 z27 z28 z29 z30 z31 (show lk key level = L by simp only [L, w1, w2, w3, w4]))) tt))) ?_
                    kernel_rfl
                   ·
                    refine vcIntro (hx2 18 98304) (an (u18 h39 h38 h37 h34 h31 h28 h25 h22 h19 h16 h13 h10 h7 h4 h3 h2 h1 h0) (an (ri ((-1:Int))) (an (zo (cK1_0 b0 b1 b2 b3 b4 b5 b6 b7 b8 b9 b10 b11 b12 b13 b14 b15 z0 z1 z2 z3 z4 z5 z6 z7 z8 z9 z10 z11 z12 z13 z14 z15 z16 z17 z18 z19 z20 z21 z22 z23 z24 z25 z26 z27 z28 z29 z30 z31 (show lk key level = L by simp only [L, w1, w2, w3, w4]))) tt))) ?_
                    kernel_rfl
                  · exact ff (by simp only [L, w1, w2, w3, w4] at *; simp at *; simp_all [kn])
                 · exact ff (by simp only [L, w1, w2, w3, w4] at *; simp at *; omega)
theorem nx_a (q:Int) (ho : lkOk key level) :
    ∃ hh, vcOf (runCall Try.prog noSpec noL 3000 33 [.agg [.ptr 0 (.c 0)], .int .i64 (.s key), .int .i64 (.s level)] (Hm (wkR [b0, b1, b2, b3, b4, b5, b6, b7, b8, b9, b10, b11, b12, b13, b14, b15] [z0, z1, z2, z3, z4, z5, z6, z7, z8, z9, z10, z11, z12, z13, z14, z15, z16, z17, z18, z19, z20, z21, z22, z23, z24, z25, z26, z27, z28, z29, z30, z31] (askV q)) 1) hh) (fun v H1 => retP 1 [0] v H1 (.int .i64 (.s (-1))) [none] 1) := by

  rcases eb (decide ((-1:Int) ≤ key)) with h0 | h0
  ·
   refine vcIntro [true] (an (an h0 tt) (an (ri ((-1:Int))) tt)) ?_
   kernel_rfl
  · exact ff (by unfold lkOk at ho; simp at *; omega)
theorem ld_k (ho : lkOk key level) :
    ∃ hh, vcOf (runCall Try.prog noSpec noL 3000 64 [.agg [.ptr 0 (.c 0)], .int .i64 (.s key), .int .i64 (.s level), .int .i64 (.s x)] (Hm (wk1 [b0, b1, b2, b3, b4, b5, b6, b7, b8, b9, b10, b11, b12, b13, b14, b15] [z0, z1, z2, z3, z4, z5, z6, z7, z8, z9, z10, z11, z12, z13, z14, z15, z16, z17, z18, z19, z20, z21, z22, z23, z24, z25, z26, z27, z28, z29, z30, z31] .nili) 1) hh) (fun v H1 => retP 1 [0] v H1 (.tuple []) (wk1 [b0, b1, b2, b3, b4, b5, b6, b7, b8, b9, b10, b11, b12, b13, b14, b15] (upz [z0, z1, z2, z3, z4, z5, z6, z7, z8, z9, z10, z11, z12, z13, z14, z15, z16, z17, z18, z19, z20, z21, z22, z23, z24, z25, z26, z27, z28, z29, z30, z31] (lk key level) x) .nili) 1) := by
  have w1 : IntKind.i64.wrap (key - (-1)) = key + 1 := by unfold lkOk at ho; rw [wrapk _ (by omega)]; omega
  have w2 : IntKind.i64.wrap (2 * (key + 1)) = 2 * (key + 1) := by unfold lkOk at ho; exact wrapk _ (by omega)
  have w3 : IntKind.i64.wrap (4 + 2 * (key + 1)) = 4 + 2 * (key + 1) := by unfold lkOk at ho; exact wrapk _ (by omega)
  have w4 : IntKind.i64.wrap (4 + 2 * (key + 1) + level) = lk key level := by unfold lkOk at ho; unfold lk; exact wrapk _ (by omega)
  have w5 : 4 ≤ lk key level ∧ lk key level < 16 := by unfold lkOk at ho; unfold lk; omega

  let L : Int := IntKind.i64.wrap (IntKind.i64.wrap ((4:Int) + IntKind.i64.wrap ((2:Int) * IntKind.i64.wrap (key - (-1:Int)))) + level)
  rcases eb (decide (L = (0:Int))) with h0 | h0
  · exact ff (by simp only [L, w1, w2, w3, w4] at *; simp at *; omega)
  ·
   rcases eb (decide (L = (1:Int))) with h1 | h1
   · exact ff (by simp only [L, w1, w2, w3, w4] at *; simp at *; omega)
   ·
    rcases eb (decide (L = (2:Int))) with h2 | h2
    · exact ff (by simp only [L, w1, w2, w3, w4] at *; simp at *; omega)
    ·
     rcases eb (decide (L = (3:Int))) with h3 | h3
     · exact ff (by simp only [L, w1, w2, w3, w4] at *; simp at *; omega)
     ·
      rcases eb (decide (L = (4:Int))) with h4 | h4
      ·
       refine vcIntro (hx2 5 16) (an (u5 h4 h3 h2 h1 h0) (an tt (an (zo (cK1_1 b0 b1 b2 b3 b4 b5 b6 b7 b8 b9 b10 b11 b12 b13 b14 b15 z0 z1 z2 z3 z4 z5 z6 z7 z8 z9 z10 z11 z12 z13 z14 z15 (an (show (if lk key level = (0:Int) then x else z16) = z16 by simp only [L, w1, w2, w3, w4] at *; simp at *; simp [kn, nw, *]) (an (show (if lk key level = (1:Int) then x else z17) = z17 by simp only [L, w1, w2, w3, w4] at *; simp at *; simp [kn, nw, *]) (an (show (if lk key level = (2:Int) then x else z18) = z18 by simp only [L, w1, w2, w3, w4] at *; simp at *; simp [kn, nw, *]) (an (show (if lk key level = (3:Int) then x else z19) = z19 by simp only [L, w1, w2, w3, w4] at *; simp at *; simp [kn, nw, *]) (an (show (if lk key level = (4:Int) then x else z20) = x by simp only [L, w1, w2, w3, w4] at *; simp at *; simp [kn, nw, *]) (an (show (if lk key level = (5:Int) then x else z21) = z21 by simp only [L, w1, w2, w3, w4] at *; simp at *; simp [kn, nw, *]) (an (show (if lk key level = (6:Int) then x else z22) = z22 by simp only [L, w1, w2, w3, w4] at *; simp at *; simp [kn, nw, *]) (an (show (if lk key level = (7:Int) then x else z23) = z23 by simp only [L, w1, w2, w3, w4] at *; simp at *; simp [kn, nw, *]) (an (show (if lk key level = (8:Int) then x else z24) = z24 by simp only [L, w1, w2, w3, w4] at *; simp at *; simp [kn, nw, *]) (an (show (if lk key level = (9:Int) then x else z25) = z25 by simp only [L, w1, w2, w3, w4] at *; simp at *; simp [kn, nw, *]) (an (show (if lk key level = (10:Int) then x else z26) = z26 by simp only [L, w1, w2, w3, w4] at *; simp at *; simp [kn, nw, *]) (an (show (if lk key level = (11:Int) then x else z27) = z27 by simp only [L, w1, w2, w3, w4] at *; simp at *; simp [kn, nw, *]) (an (show (if lk key level = (12:Int) then x else z28) = z28 by simp only [L, w1, w2, w3, w4] at *; simp at *; simp [kn, nw, *]) (an (show (if lk key level = (13:Int) then x else z29) = z29 by simp only [L, w1, w2, w3, w4] at *; simp at *; simp [kn, nw, *]) (an (show (if lk key level = (14:Int) then x else z30) = z30 by simp only [L, w1, w2, w3, w4] at *; simp at *; simp [kn, nw, *]) (an (show (if lk key level = (15:Int) then x else z31) = z31 by simp only [L, w1, w2, w3, w4] at *; simp at *; simp [kn, nw, *]) tt)))))))))))))))))) tt))) ?_
       kernel_rfl
      ·
       rcases eb (decide (L = (5:Int))) with h5 | h5
       ·
        refine vcIntro (hx2 6 32) (an (u6 h5 h4 h3 h2 h1 h0) (an tt (an (zo (cK1_1 b0 b1 b2 b3 b4 b5 b6 b7 b8 b9 b10 b11 b12 b13 b14 b15 z0 z1 z2 z3 z4 z5 z6 z7 z8 z9 z10 z11 z12 z13 z14 z15 (an (show (if lk key level = (0:Int) then x else z16) = z16 by simp only [L, w1, w2, w3, w4] at *; simp at *; simp [kn, nw, *]) (an (show (if lk key level = (1:Int) then x else z17) = z17 by simp only [L, w1, w2, w3, w4] at *; simp at *; simp [kn, nw, *]) (an (show (if lk key level = (2:Int) then x else z18) = z18 by simp only [L, w1, w2, w3, w4] at *; simp at *; simp [kn, nw, *]) (an (show (if lk key level = (3:Int) then x else z19) = z19 by simp only [L, w1, w2, w3, w4] at *; simp at *; simp [kn, nw, *]) (an (show (if lk key level = (4:Int) then x else z20) = z20 by simp only [L, w1, w2, w3, w4] at *; simp at *; simp [kn, nw, *]) (an (show (if lk key level = (5:Int) then x else z21) = x by simp only [L, w1, w2, w3, w4] at *; simp at *; simp [kn, nw, *]) (an (show (if lk key level = (6:Int) then x else z22) = z22 by simp only [L, w1, w2, w3, w4] at *; simp at *; simp [kn, nw, *]) (an (show (if lk key level = (7:Int) then x else z23) = z23 by simp only [L, w1, w2, w3, w4] at *; simp at *; simp [kn, nw, *]) (an (show (if lk key level = (8:Int) then x else z24) = z24 by simp only [L, w1, w2, w3, w4] at *; simp at *; simp [kn, nw, *]) (an (show (if lk key level = (9:Int) then x else z25) = z25 by simp only [L, w1, w2, w3, w4] at *; simp at *; simp [kn, nw, *]) (an (show (if lk key level = (10:Int) then x else z26) = z26 by simp only [L, w1, w2, w3, w4] at *; simp at *; simp [kn, nw, *]) (an (show (if lk key level = (11:Int) then x else z27) = z27 by simp only [L, w1, w2, w3, w4] at *; simp at *; simp [kn, nw, *]) (an (show (if lk key level = (12:Int) then x else z28) = z28 by simp only [L, w1, w2, w3, w4] at *; simp at *; simp [kn, nw, *]) (an (show (if lk key level = (13:Int) then x else z29) = z29 by simp only [L, w1, w2, w3, w4] at *; simp at *; simp [kn, nw, *]) (an (show (if lk key level = (14:Int) then x else z30) = z30 by simp only [L, w1, w2, w3, w4] at *; simp at *; simp [kn, nw, *]) (an (show (if lk key level = (15:Int) then x else z31) = z31 by simp only [L, w1, w2, w3, w4] at *; simp at *; simp [kn, nw, *]) tt)))))))))))))))))) tt))) ?_
        kernel_rfl
       ·
        rcases eb (decide (L = (6:Int))) with h6 | h6
        ·
         refine vcIntro (hx2 7 64) (an (u7 h6 h5 h4 h3 h2 h1 h0) (an tt (an (zo (cK1_1 b0 b1 b2 b3 b4 b5 b6 b7 b8 b9 b10 b11 b12 b13 b14 b15 z0 z1 z2 z3 z4 z5 z6 z7 z8 z9 z10 z11 z12 z13 z14 z15 (an (show (if lk key level = (0:Int) then x else z16) = z16 by simp only [L, w1, w2, w3, w4] at *; simp at *; simp [kn, nw, *]) (an (show (if lk key level = (1:Int) then x else z17) = z17 by simp only [L, w1, w2, w3, w4] at *; simp at *; simp [kn, nw, *]) (an (show (if lk key level = (2:Int) then x else z18) = z18 by simp only [L, w1, w2, w3, w4] at *; simp at *; simp [kn, nw, *]) (an (show (if lk key level = (3:Int) then x else z19) = z19 by simp only [L, w1, w2, w3, w4] at *; simp at *; simp [kn, nw, *]) (an (show (if lk key level = (4:Int) then x else z20) = z20 by simp only [L, w1, w2, w3, w4] at *; simp at *; simp [kn, nw, *]) (an (show (if lk key level = (5:Int) then x else z21) = z21 by simp only [L, w1, w2, w3, w4] at *; simp at *; simp [kn, nw, *]) (an (show (if lk key level = (6:Int) then x else z22) = x by simp only [L, w1, w2, w3, w4] at *; simp at *; simp [kn, nw, *]) (an (show (if lk key level = (7:Int) then x else z23) = z23 by simp only [L, w1, w2, w3, w4] at *; simp at *; simp [kn, nw, *]) (an (show (if lk key level = (8:Int) then x else z24) = z24 by simp only [L, w1, w2, w3, w4] at *; simp at *; simp [kn, nw, *]) (an (show (if lk key level = (9:Int) then x else z25) = z25 by simp only [L, w1, w2, w3, w4] at *; simp at *; simp [kn, nw, *]) (an (show (if lk key level = (10:Int) then x else z26) = z26 by simp only [L, w1, w2, w3, w4] at *; simp at *; simp [kn, nw, *]) (an (show (if lk key level = (11:Int) then x else z27) = z27 by simp only [L, w1, w2, w3, w4] at *; simp at *; simp [kn, nw, *]) (an (show (if lk key level = (12:Int) then x else z28) = z28 by simp only [L, w1, w2, w3, w4] at *; simp at *; simp [kn, nw, *]) (an (show (if lk key level = (13:Int) then x else z29) = z29 by simp only [L, w1, w2, w3, w4] at *; simp at *; simp [kn, nw, *]) (an (show (if lk key level = (14:Int) then x else z30) = z30 by simp only [L, w1, w2, w3, w4] at *; simp at *; simp [kn, nw, *]) (an (show (if lk key level = (15:Int) then x else z31) = z31 by simp only [L, w1, w2, w3, w4] at *; simp at *; simp [kn, nw, *]) tt)))))))))))))))))) tt))) ?_
         kernel_rfl
        ·
         rcases eb (decide (L = (7:Int))) with h7 | h7
         ·
          refine vcIntro (hx2 8 128) (an (u8 h7 h6 h5 h4 h3 h2 h1 h0) (an tt (an (zo (cK1_1 b0 b1 b2 b3 b4 b5 b6 b7 b8 b9 b10 b11 b12 b13 b14 b15 z0 z1 z2 z3 z4 z5 z6 z7 z8 z9 z10 z11 z12 z13 z14 z15 (an (show (if lk key level = (0:Int) then x else z16) = z16 by simp only [L, w1, w2, w3, w4] at *; simp at *; simp [kn, nw, *]) (an (show (if lk key level = (1:Int) then x else z17) = z17 by simp only [L, w1, w2, w3, w4] at *; simp at *; simp [kn, nw, *]) (an (show (if lk key level = (2:Int) then x else z18) = z18 by simp only [L, w1, w2, w3, w4] at *; simp at *; simp [kn, nw, *]) (an (show (if lk key level = (3:Int) then x else z19) = z19 by simp only [L, w1, w2, w3, w4] at *; simp at *; simp [kn, nw, *]) (an (show (if lk key level = (4:Int) then x else z20) = z20 by simp only [L, w1, w2, w3, w4] at *; simp at *; simp [kn, nw, *]) (an (show (if lk key level = (5:Int) then x else z21) = z21 by simp only [L, w1, w2, w3, w4] at *; simp at *; simp [kn, nw, *]) (an (show (if lk key level = (6:Int) then x else z22) = z22 by simp only [L, w1, w2, w3, w4] at *; simp at *; simp [kn, nw, *]) (an (show (if lk key level = (7:Int) then x else z23) = x by simp only [L, w1, w2, w3, w4] at *; simp at *; simp [kn, nw, *]) (an (show (if lk key level = (8:Int) then x else z24) = z24 by simp only [L, w1, w2, w3, w4] at *; simp at *; simp [kn, nw, *]) (an (show (if lk key level = (9:Int) then x else z25) = z25 by simp only [L, w1, w2, w3, w4] at *; simp at *; simp [kn, nw, *]) (an (show (if lk key level = (10:Int) then x else z26) = z26 by simp only [L, w1, w2, w3, w4] at *; simp at *; simp [kn, nw, *]) (an (show (if lk key level = (11:Int) then x else z27) = z27 by simp only [L, w1, w2, w3, w4] at *; simp at *; simp [kn, nw, *]) (an (show (if lk key level = (12:Int) then x else z28) = z28 by simp only [L, w1, w2, w3, w4] at *; simp at *; simp [kn, nw, *]) (an (show (if lk key level = (13:Int) then x else z29) = z29 by simp only [L, w1, w2, w3, w4] at *; simp at *; simp [kn, nw, *]) (an (show (if lk key level = (14:Int) then x else z30) = z30 by simp only [L, w1, w2, w3, w4] at *; simp at *; simp [kn, nw, *]) (an (show (if lk key level = (15:Int) then x else z31) = z31 by simp only [L, w1, w2, w3, w4] at *; simp at *; simp [kn, nw, *]) tt)))))))))))))))))) tt))) ?_
          kernel_rfl
         ·
          rcases eb (decide (L = (8:Int))) with h8 | h8
          ·
           refine vcIntro (hx2 9 256) (an (u9 h8 h7 h6 h5 h4 h3 h2 h1 h0) (an tt (an (zo (cK1_1 b0 b1 b2 b3 b4 b5 b6 b7 b8 b9 b10 b11 b12 b13 b14 b15 z0 z1 z2 z3 z4 z5 z6 z7 z8 z9 z10 z11 z12 z13 z14 z15 (an (show (if lk key level = (0:Int) then x else z16) = z16 by simp only [L, w1, w2, w3, w4] at *; simp at *; simp [kn, nw, *]) (an (show (if lk key level = (1:Int) then x else z17) = z17 by simp only [L, w1, w2, w3, w4] at *; simp at *; simp [kn, nw, *]) (an (show (if lk key level = (2:Int) then x else z18) = z18 by simp only [L, w1, w2, w3, w4] at *; simp at *; simp [kn, nw, *]) (an (show (if lk key level = (3:Int) then x else z19) = z19 by simp only [L, w1, w2, w3, w4] at *; simp at *; simp [kn, nw, *]) (an (show (if lk key level = (4:Int) then x else z20) = z20 by simp only [L, w1, w2, w3, w4] at *; simp at *; simp [kn, nw, *]) (an (show (if lk key level = (5:Int) then x else z21) = z21 by simp only [L, w1, w2, w3, w4] at *; simp at *; simp [kn, nw, *]) (an (show (if lk key level = (6:Int) then x else z22) = z22 by simp only [L, w1, w2, w3, w4] at *; simp at *; simp [kn, nw, *]) (an (show (if lk key level = (7:Int) then x else z23) = z23 by simp only [L, w1, w2, w3, w4] at *; simp at *; simp [kn, nw, *]) (an (show (if lk key level = (8:Int) then x else z24) = x by simp only [L, w1, w2, w3, w4] at *; simp at *; simp [kn, nw, *]) (an (show (if lk key level = (9:Int) then x else z25) = z25 by simp only [L, w1, w2, w3, w4] at *; simp at *; simp [kn, nw, *]) (an (show (if lk key level = (10:Int) then x else z26) = z26 by simp only [L, w1, w2, w3, w4] at *; simp at *; simp [kn, nw, *]) (an (show (if lk key level = (11:Int) then x else z27) = z27 by simp only [L, w1, w2, w3, w4] at *; simp at *; simp [kn, nw, *]) (an (show (if lk key level = (12:Int) then x else z28) = z28 by simp only [L, w1, w2, w3, w4] at *; simp at *; simp [kn, nw, *]) (an (show (if lk key level = (13:Int) then x else z29) = z29 by simp only [L, w1, w2, w3, w4] at *; simp at *; simp [kn, nw, *]) (an (show (if lk key level = (14:Int) then x else z30) = z30 by simp only [L, w1, w2, w3, w4] at *; simp at *; simp [kn, nw, *]) (an (show (if lk key level = (15:Int) then x else z31) = z31 by simp only [L, w1, w2, w3, w4] at *; simp at *; simp [kn, nw, *]) tt)))))))))))))))))) tt))) ?_
           kernel_rfl
          ·
           rcases eb (decide (L = (9:Int))) with h9 | h9
           ·
            refine vcIntro (hx2 10 512) (an (u10 h9 h8 h7 h6 h5 h4 h3 h2 h1 h0) (an tt (an (zo (cK1_1 b0 b1 b2 b3 b4 b5 b6 b7 b8 b9 b10 b11 b12 b13 b14 b15 z0 z1 z2 z3 z4 z5 z6 z7 z8 z9 z10 z11 z12 z13 z14 z15 (an (show (if lk key level = (0:Int) then x else z16) = z16 by simp only [L, w1, w2, w3, w4] at *; simp at *; simp [kn, nw, *]) (an (show (if lk key level = (1:Int) then x else z17) = z17 by simp only [L, w1, w2, w3, w4] at *; simp at *; simp [kn, nw, *]) (an (show (if lk key level = (2:Int) then x else z18) = z18 by simp only [L, w1, w2, w3, w4] at *; simp at *; simp [kn, nw, *]) (an (show (if lk key level = (3:Int) then x else z19) = z19 by simp only [L, w1, w2, w3, w4] at *; simp at *; simp [kn, nw, *]) (an (show (if lk key level = (4:Int) then x else z20) = z20 by simp only [L, w1, w2, w3, w4] at *; simp at *; simp [kn, nw, *]) (an (show (if lk key level = (5:Int) then x else z21) = z21 by simp only [L, w1, w2, w3, w4] at *; simp at *; simp [kn, nw, *]) (an (show (if lk key level = (6:Int) then x else z22) = z22 by simp only [L, w1, w2, w3, w4] at *; simp at *; simp [kn, nw, *]) (an (show (if lk key level = (7:Int) then x else z23) = z23 by simp only [L, w1, w2, w3, w4] at *; simp at *; simp [kn, nw, *]) (an (show (if lk key level = (8:Int) then x else z24) = z24 by simp only [L, w1, w2, w3, w4] at *; simp at *; simp [kn, nw, *]) (an (show (if lk key level = (9:Int) then x else z25) = x by simp only [L, w1, w2, w3, w4] at *; simp at *; simp [kn, nw, *]) (an (show (if lk key level = (10:Int) then x else z26) = z26 by simp only [L, w1, w2, w3, w4] at *; simp at *; simp [kn, nw, *]) (an (show (if lk key level = (11:Int) then x else z27) = z27 by simp only [L, w1, w2, w3, w4] at *; simp at *; simp [kn, nw, *]) (an (show (if lk key level = (12:Int) then x else z28) = z28 by simp only [L, w1, w2, w3, w4] at *; simp at *; simp [kn, nw, *]) (an (show (if lk key level = (13:Int) then x else z29) = z29 by simp only [L, w1, w2, w3, w4] at *; simp at *; simp [kn, nw, *]) (an (show (if lk key level = (14:Int) then x else z30) = z30 by simp only [L, w1, w2, w3, w4] at *; simp at *; simp [kn, nw, *]) (an (show (if lk key level = (15:Int) then x else z31) = z31 by simp only [L, w1, w2, w3, w4] at *; simp at *; simp [kn, nw, *]) tt)))))))))))))))))) tt))) ?_
            kernel_rfl
           ·
            rcases eb (decide (L = (10:Int))) with h10 | h10
            ·
             refine vcIntro (hx2 11 1024) (an (u11 h10 h9 h8 h7 h6 h5 h4 h3 h2 h1 h0) (an tt (an (zo (cK1_1 b0 b1 b2 b3 b4 b5 b6 b7 b8 b9 b10 b11 b12 b13 b14 b15 z0 z1 z2 z3 z4 z5 z6 z7 z8 z9 z10 z11 z12 z13 z14 z15 (an (show (if lk key level = (0:Int) then x else z16) = z16 by simp only [L, w1, w2, w3, w4] at *; simp at *; simp [kn, nw, *]) (an (show (if lk key level = (1:Int) then x else z17) = z17 by simp only [L, w1, w2, w3, w4] at *; simp at *; simp [kn, nw, *]) (an (show (if lk key level = (2:Int) then x else z18) = z18 by simp only [L, w1, w2, w3, w4] at *; simp at *; simp [kn, nw, *]) (an (show (if lk key level = (3:Int) then x else z19) = z19 by simp only [L, w1, w2, w3, w4] at *; simp at *; simp [kn, nw, *]) (an (show (if lk key level = (4:Int) then x else z20) = z20 by simp only [L, w1, w2, w3, w4] at *; simp at *; simp [kn, nw, *]) (an (show (if lk key level = (5:Int) then x else z21) = z21 by simp only [L, w1, w2, w3, w4] at *; simp at *; simp [kn, nw, *]) (an (show (if lk key level = (6:Int) then x else z22) = z22 by simp only [L, w1, w2, w3, w4] at *; simp at *; simp [kn, nw, *]) (an (show (if lk key level = (7:Int) then x else z23) = z23 by simp only [L, w1, w2, w3, w4] at *; simp at *; simp [kn, nw, *]) (an (show (if lk key level = (8:Int) then x else z24) = z24 by simp only [L, w1, w2, w3, w4] at *; simp at *; simp [kn, nw, *]) (an (show (if lk key level = (9:Int) then x else z25) = z25 by simp only [L, w1, w2, w3, w4] at *; simp at *; simp [kn, nw, *]) (an (show (if lk key level = (10:Int) then x else z26) = x by simp only [L, w1, w2, w3, w4] at *; simp at *; simp [kn, nw, *]) (an (show (if lk key level = (11:Int) then x else z27) = z27 by simp only [L, w1, w2, w3, w4] at *; simp at *; simp [kn, nw, *]) (an (show (if lk key level = (12:Int) then x else z28) = z28 by simp only [L, w1, w2, w3, w4] at *; simp at *; simp [kn, nw, *]) (an (show (if lk key level = (13:Int) then x else z29) = z29 by simp only [L, w1, w2, w3, w4] at *; simp at *; simp [kn, nw, *]) (an (show (if lk key level = (14:Int) then x else z30) = z30 by simp only [L, w1, w2, w3, w4] at *; simp at *; simp [kn, nw, *]) (an (show (if lk key level = (15:Int) then x else z31) = z31 by simp only [L, w1, w2, w3, w4] at *; simp at *; simp [kn, nw, *]) tt)))))))))))))))))) tt))) ?_
             kernel_rfl
            ·
             rcases eb (decide (L = (11:Int))) with h11 | h11
             ·
              refine vcIntro (hx2 12 2048) (an (u12 h11 h10 h9 h8 h7 h6 h5 h4 h3 h2 h1 h0) (an tt (an (zo (cK1_1 b0 b1 b2 b3 b4 b5 b6 b7 b8 b9 b10 b11 b12 b13 b14 b15 z0 z1 z2 z3 z4 z5 z6 z7 z8 z9 z10 z11 z12 z13 z14 z15 (an (show (if lk key level = (0:Int) then x else z16) = z16 by simp only [L, w1, w2, w3, w4] at *; simp at *; simp [kn, nw, *]) (an (show (if lk key level = (1:Int) then x else z17) = z17 by simp only [L, w1, w2, w3, w4] at *; simp at *; simp [kn, nw, *]) (an (show (if lk key level = (2:Int) then x else z18) = z18 by simp only [L, w1, w2, w3, w4] at *; simp at *; simp [kn, nw, *]) (an (show (if lk key level = (3:Int) then x else z19) = z19 by simp only [L, w1, w2, w3, w4] at *; simp at *; simp [kn, nw, *]) (an (show (if lk key level = (4:Int) then x else z20) = z20 by simp only [L, w1, w2, w3, w4] at *; simp at *; simp [kn, nw, *]) (an (show (if lk key level = (5:Int) then x else z21) = z21 by simp only [L, w1, w2, w3, w4] at *; simp at *; simp [kn, nw, *]) (an (show (if lk key level = (6:Int) then x else z22) = z22 by simp only [L, w1, w2, w3, w4] at *; simp at *; simp [kn, nw, *]) (an (show (if lk key level = (7:Int) then x else z23) = z23 by simp only [L, w1, w2, w3, w4] at *; simp at *; simp [kn, nw, *]) (an (show (if lk key level = (8:Int) then x else z24) = z24 by simp only [L, w1, w2, w3, w4] at *; simp at *; simp [kn, nw, *]) (an (show (if lk key level = (9:Int) then x else z25) = z25 by simp only [L, w1, w2, w3, w4] at *; simp at *; simp [kn, nw, *]) (an (show (if lk key level = (10:Int) then x else z26) = z26 by simp only [L, w1, w2, w3, w4] at *; simp at *; simp [kn, nw, *]) (an (show (if lk key level = (11:Int) then x else z27) = x by simp only [L, w1, w2, w3, w4] at *; simp at *; simp [kn, nw, *]) (an (show (if lk key level = (12:Int) then x else z28) = z28 by simp only [L, w1, w2, w3, w4] at *; simp at *; simp [kn, nw, *]) (an (show (if lk key level = (13:Int) then x else z29) = z29 by simp only [L, w1, w2, w3, w4] at *; simp at *; simp [kn, nw, *]) (an (show (if lk key level = (14:Int) then x else z30) = z30 by simp only [L, w1, w2, w3, w4] at *; simp at *; simp [kn, nw, *]) (an (show (if lk key level = (15:Int) then x else z31) = z31 by simp only [L, w1, w2, w3, w4] at *; simp at *; simp [kn, nw, *]) tt)))))))))))))))))) tt))) ?_
              kernel_rfl
             ·
              rcases eb (decide (L = (12:Int))) with h12 | h12
              ·
               refine vcIntro (hx2 13 4096) (an (u13 h12 h11 h10 h9 h8 h7 h6 h5 h4 h3 h2 h1 h0) (an tt (an (zo (cK1_1 b0 b1 b2 b3 b4 b5 b6 b7 b8 b9 b10 b11 b12 b13 b14 b15 z0 z1 z2 z3 z4 z5 z6 z7 z8 z9 z10 z11 z12 z13 z14 z15 (an (show (if lk key level = (0:Int) then x else z16) = z16 by simp only [L, w1, w2, w3, w4] at *; simp at *; simp [kn, nw, *]) (an (show (if lk key level = (1:Int) then x else z17) = z17 by simp only [L, w1, w2, w3, w4] at *; simp at *; simp [kn, nw, *]) (an (show (if lk key level = (2:Int) then x else z18) = z18 by simp only [L, w1, w2, w3, w4] at *; simp at *; simp [kn, nw, *]) (an (show (if lk key level = (3:Int) then x else z19) = z19 by simp only [L, w1, w2, w3, w4] at *; simp at *; simp [kn, nw, *]) (an (show (if lk key level = (4:Int) then x else z20) = z20 by simp only [L, w1, w2, w3, w4] at *; simp at *; simp [kn, nw, *]) (an (show (if lk key level = (5:Int) then x else z21) = z21 by simp only [L, w1, w2, w3, w4] at *; simp at *; simp [kn, nw, *]) (an (show (if lk key level = (6:Int) then x else z22) = z22 by simp only [L, w1, w2, w3, w4] at *; simp at *; simp [kn, nw, *]) (an (show (if lk key level = (7:Int) then x else z23) = z23 by simp only [L, w1, w2, w3, w4] at *; simp at *; simp [kn, nw, *]) (an (show (if lk key level = (8:Int) then x else z24) = z24 by simp only [L, w1, w2, w3, w4] at *; simp at *; simp [kn, nw, *]) (an (show (if lk key level = (9:Int) then x else z25) = z25 by simp only [L, w1, w2, w3, w4] at *; simp at *; simp [kn, nw, *]) (an (show (if lk key level = (10:Int) then x else z26) = z26 by simp only [L, w1, w2, w3, w4] at *; simp at *; simp [kn, nw, *]) (an (show (if lk key level = (11:Int) then x else z27) = z27 by simp only [L, w1, w2, w3, w4] at *; simp at *; simp [kn, nw, *]) (an (show (if lk key level = (12:Int) then x else z28) = x by simp only [L, w1, w2, w3, w4] at *; simp at *; simp [kn, nw, *]) (an (show (if lk key level = (13:Int) then x else z29) = z29 by simp only [L, w1, w2, w3, w4] at *; simp at *; simp [kn, nw, *]) (an (show (if lk key level = (14:Int) then x else z30) = z30 by simp only [L, w1, w2, w3, w4] at *; simp at *; simp [kn, nw, *]) (an (show (if lk key level = (15:Int) then x else z31) = z31 by simp only [L, w1, w2, w3, w4] at *; simp at *; simp [kn, nw, *]) tt)))))))))))))))))) tt))) ?_
               kernel_rfl
              ·
               rcases eb (decide (L = (13:Int))) with h13 | h13
               ·
                refine vcIntro (hx2 14 8192) (an (u14 h13 h12 h11 h10 h9 h8 h7 h6 h5 h4 h3 h2 h1 h0) (an tt (an (zo (cK1_1 b0 b1 b2 b3 b4 b5 b6 b7 b8 b9 b10 b11 b12 b13 b14 b15 z0 z1 z2 z3 z4 z5 z6 z7 z8 z9 z10 z11 z12 z13 z14 z15 (an (show (if lk key level = (0:Int) then x else z16) = z16 by simp only [L, w1, w2, w3, w4] at *; simp at *; simp [kn, nw, *]) (an (show (if lk key level = (1:Int) then x else z17) = z17 by simp only [L, w1, w2, w3, w4] at *; simp at *; simp [kn, nw, *]) (an (show (if lk key level = (2:Int) then x else z18) = z18 by simp only [L, w1, w2, w3, w4] at *; simp at *; simp [kn, nw, *]) (an (show (if lk key level = (3:Int) then x else z19) = z19 by simp only [L, w1, w2, w3, w4] at *; simp at *; simp [kn, nw, *]) (an (show (if lk key level = (4:Int) then x else z20) = z20 by simp only [L, w1, w2, w3, w4] at *; simp at *; simp [kn, nw, *]) (an (show (if lk key level = (5:Int) then x else z21) = z21 by simp only [L, w1, w2, w3, w4] at *; simp at *; simp [kn, nw, *]) (an (show (if lk key level = (6:Int) then x else z22) = z22 by simp only [L, w1, w2, w3, w4] at *; simp at *; simp [kn, nw, *]) (an (show (if lk key level = (7:Int) then x else z23) = z23 by simp only [L, w1, w2, w3, w4] at *; simp at *; simp [kn, nw, *]) (an (show (if lk key level = (8:Int) then x else z24) = z24 by simp only [L, w1, w2, w3, w4] at *; simp at *; simp [kn, nw, *]) (an (show (if lk key level = (9:Int) then x else z25) = z25 by simp only [L, w1, w2, w3, w4] at *; simp at *; simp [kn, nw, *]) (an (show (if lk key level = (10:Int) then x else z26) = z26 by simp only [L, w1, w2, w3, w4] at *; simp at *; simp [kn, nw, *]) (an (show (if lk key level = (11:Int) then x else z27) = z27 by simp only [L, w1, w2, w3, w4] at *; simp at *; simp [kn, nw, *]) (an (show (if lk key level = (12:Int) then x else z28) = z28 by simp only [L, w1, w2, w3, w4] at *; simp at *; simp [kn, nw, *]) (an (show (if lk key level = (13:Int) then x else z29) = x by simp only [L, w1, w2, w3, w4] at *; simp at *; simp [kn, nw, *]) (an (show (if lk key level = (14:Int) then x else z30) = z30 by simp only [L, w1, w2, w3, w4] at *; simp at *; simp [kn, nw, *]) (an (show (if lk key level = (15:Int) then x else z31) = z31 by simp only [L, w1, w2, w3, w4] at *; simp at *; simp [kn, nw, *]) tt)))))))))))))))))) tt))) ?_
                kernel_rfl
               ·
                rcases eb (decide (L = (14:Int))) with h14 | h14
                ·
                 refine vcIntro (hx2 15 16384) (an (u15 h14 h13 h12 h11 h10 h9 h8 h7 h6 h5 h4 h3 h2 h1 h0) (an tt (an (zo (cK1_1 b0 b1 b2 b3 b4 b5 b6 b7 b8 b9 b10 b11 b12 b13 b14 b15 z0 z1 z2 z3 z4 z5 z6 z7 z8 z9 z10 z11 z12 z13 z14 z15 (an (show (if lk key level = (0:Int) then x else z16) = z16 by simp only [L, w1, w2, w3, w4] at *; simp at *; simp [kn, nw, *]) (an (show (if lk key level = (1:Int) then x else z17) = z17 by simp only [L, w1, w2, w3, w4] at *; simp at *; simp [kn, nw, *]) (an (show (if lk key level = (2:Int) then x else z18) = z18 by simp only [L, w1, w2, w3, w4] at *; simp at *; simp [kn, nw, *]) (an (show (if lk key level = (3:Int) then x else z19) = z19 by simp only [L, w1, w2, w3, w4] at *; simp at *; simp [kn, nw, *]) (an (show (if lk key level = (4:Int) then x else z20) = z20 by simp only [L, w1, w2, w3, w4] at *; simp at *; simp [kn, nw, *]) (an (show (if lk key level = (5:Int) then x else z21) = z21 by simp only [L, w1, w2, w3, w4] at *; simp at *; simp [kn, nw, *]) (an (show (if lk key level = (6:Int) then x else z22) = z22 by simp only [L, w1, w2, w3, w4] at *; simp at *; simp [kn, nw, *]) (an (show (if lk key level = (7:Int) then x else z23) = z23 by simp only [L, w1, w2, w3, w4] at *; simp at *; simp [kn, nw, *]) (an (show (if lk key level = (8:Int) then x else z24) = z24 by simp only [L, w1, w2, w3, w4] at *; simp at *; simp [kn, nw, *]) (an (show (if lk key level = (9:Int) then x else z25) = z25 by simp only [L, w1, w2, w3, w4] at *; simp at *; simp [kn, nw, *]) (an (show (if lk key level = (10:Int) then x else z26) = z26 by simp only [L, w1, w2, w3, w4] at *; simp at *; simp [kn, nw, *]) (an (show (if lk key level = (11:Int) then x else z27) = z27 by simp only [L, w1, w2, w3, w4] at *; simp at *; simp [kn, nw, *]) (an (show (if lk key level = (12:Int) then x else z28) = z28 by simp only [L, w1, w2, w3, w4] at *; simp at *; simp [kn, nw, *]) (an (show (if lk key level = (13:Int) then x else z29) = z29 by simp only [L, w1, w2, w3, w4] at *; simp at *; simp [kn, nw, *]) (an (show (if lk key level = (14:Int) then x else z30) = x by simp only [L, w1, w2, w3, w4] at *; simp at *; simp [kn, nw, *]) (an (show (if lk key level = (15:Int) then x else z31) = z31 by simp only [L, w1, w2, w3, w4] at *; simp at *; simp [kn, nw, *]) tt)))))))))))))))))) tt))) ?_
                 kernel_rfl
                ·
                 rcases eb (decide (L = (15:Int))) with h15 | h15
                 ·
                  refine vcIntro (hx2 16 32768) (an (u16 h15 h14 h13 h12 h11 h10 h9 h8 h7 h6 h5 h4 h3 h2 h1 h0) (an tt (an (zo (cK1_1 b0 b1 b2 b3 b4 b5 b6 b7 b8 b9 b10 b11 b12 b13 b14 b15 z0 z1 z2 z3 z4 z5 z6 z7 z8 z9 z10 z11 z12 z13 z14 z15 (an (show (if lk key level = (0:Int) then x else z16) = z16 by simp only [L, w1, w2, w3, w4] at *; simp at *; simp [kn, nw, *]) (an (show (if lk key level = (1:Int) then x else z17) = z17 by simp only [L, w1, w2, w3, w4] at *; simp at *; simp [kn, nw, *]) (an (show (if lk key level = (2:Int) then x else z18) = z18 by simp only [L, w1, w2, w3, w4] at *; simp at *; simp [kn, nw, *]) (an (show (if lk key level = (3:Int) then x else z19) = z19 by simp only [L, w1, w2, w3, w4] at *; simp at *; simp [kn, nw, *]) (an (show (if lk key level = (4:Int) then x else z20) = z20 by simp only [L, w1, w2, w3, w4] at *; simp at *; simp [kn, nw, *]) (an (show (if lk key level = (5:Int) then x else z21) = z21 by simp only [L, w1, w2, w3, w4] at *; simp at *; simp [kn, nw, *]) (an (show (if lk key level = (6:Int) then x else z22) = z22 by simp only [L, w1, w2, w3, w4] at *; simp at *; simp [kn, nw, *]) (an (show (if lk key level = (7:Int) then x else z23) = z23 by simp only [L, w1, w2, w3, w4] at *; simp at *; simp [kn, nw, *]) (an (show (if lk key level = (8:Int) then x else z24) = z24 by simp only [L, w1, w2, w3, w4] at *; simp at *; simp [kn, nw, *]) (an (show (if lk key level = (9:Int) then x else z25) = z25 by simp only [L, w1, w2, w3, w4] at *; simp at *; simp [kn, nw, *]) (an (show (if lk key level = (10:Int) then x else z26) = z26 by simp only [L, w1, w2, w3, w4] at *; simp at *; simp [kn, nw, *]) (an (show (if lk key level = (11:Int) then x else z27) = z27 by simp only [L, w1, w2, w3, w4] at *; simp at *; simp [kn, nw, *]) (an (show (if lk key level = (12:Int) then x else z28) = z28 by simp only [L, w1, w2, w3, w4] at *; simp at *; simp [kn, nw, *]) (an (show (if lk key level = (13:Int) then x else z29) = z29 by simp only [L, w1, w2, w3, w4] at *; simp at *; simp [kn, nw, *]) (an (show (if lk key level = (14:Int) then x else z30) = z30 by simp only [L, w1, w2, w3, w4] at *; simp at *; simp [kn, nw, *]) (an (show (if lk key level = (15:Int) then x else z31) = x by simp only [L, w1, w2, w3, w4] at *; simp at *; simp [kn, nw, *]) tt)))))))))))))))))) tt))) ?_
                  kernel_rfl
                 · exact ff (by simp only [L, w1, w2, w3, w4] at *; simp at *; omega)
theorem ld_a (q:Int) :
    ∃ hh, vcOf (runCall Try.prog noSpec noL 3000 64 [.agg [.ptr 0 (.c 0)], .int .i64 (.s key), .int .i64 (.s level), .int .i64 (.s x)] (Hm (wkR [b0, b1, b2, b3, b4, b5, b6, b7, b8, b9, b10, b11, b12, b13, b14, b15] [z0, z1, z2, z3, z4, z5, z6, z7, z8, z9, z10, z11, z12, z13, z14, z15, z16, z17, z18, z19, z20, z21, z22, z23, z24, z25, z26, z27, z28, z29, z30, z31] (askV q)) 1) hh) (fun v H1 => retP 1 [0] v H1 (.tuple []) [none] 1) := by

  refine vcIntro [] (an tt (an tt tt)) ?_
  kernel_rfl
end Go.Ideal.K6
