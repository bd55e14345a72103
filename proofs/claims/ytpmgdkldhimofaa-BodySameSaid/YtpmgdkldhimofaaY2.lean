/- Chapter 7: BodySame. Own text. -/
import Derived.Test.YtpmgdkldhimofaaY5
import Derived.Test.YtpmgdkldhimofaaQ6
import Derived.Test.YtpmgdkldhimofaaK11p
import Derived.Test.YtpmgdkldhimofaaI26
namespace Go.Ideal.Y1
open Go.Proofs Go.Ideal Go.Ideal.L1
set_option linter.unusedSimpArgs false
set_option linter.unusedVariables false
set_option maxRecDepth 100000
set_option maxHeartbeats 80000000

def dosS : Spec := orS awake (orS op8 (orS op4 (orS K6.skipS (orS B1.bankS B1.maysP))))
theorem dosS_ok : SpecOk Try.prog dosS := orS_ok awake_ok (orS_ok op8_ok (orS_ok op4_ok (orS_ok K6.skS_ok (orS_ok B1.bkS_ok B1.maysP_ok))))
def bL (b : Nat → Bool) : List Bool := [b 0, b 1, b 2, b 3, b 4, b 5, b 6, b 7, b 8, b 9, b 10, b 11, b 12, b 13, b 14, b 15]
def zL (z : Nat → Int) : List Int := [z 0, z 1, z 2, z 3, z 4, z 5, z 6, z 7, z 8, z 9, z 10, z 11, z 12, z 13, z 14, z 15, z 16, z 17, z 18, z 19, z 20, z 21, z 22, z 23, z 24, z 25, z 26, z 27, z 28, z 29, z 30, z 31]
theorem same1 (b : Nat → Bool) (z : Nat → Int) (k a o x l c d y : Int) : ∃ hh, vcOf (runCall Try.prog dosS noL 6000 11 [.agg (B1.viewOf (bL b) (zL z)), .agg [.int .i64 (.s k), .int .i64 (.s a), .int .i64 (.s o), .int .i64 (.s x)], .agg [.int .i64 (.s l), .int .i64 (.s c), .int .i64 (.s d), .int .i64 (.s y)]] H0 hh) (fun v _ => isT v) := by

  let B := [z (0 : Nat), z (1 : Nat), z (2 : Nat), z (3 : Nat), z (4 : Nat), z (5 : Nat), z (6 : Nat), z (7 : Nat), z (8 : Nat), z (9 : Nat), z (10 : Nat), z (11 : Nat), z (12 : Nat), z (13 : Nat), z (14 : Nat), z (15 : Nat), z (16 : Nat), z (17 : Nat), z (18 : Nat), z (19 : Nat), z (20 : Nat), z (21 : Nat), z (22 : Nat), z (23 : Nat), z (24 : Nat), z (25 : Nat), z (26 : Nat), z (27 : Nat), z (28 : Nat), z (29 : Nat), z (30 : Nat), z (31 : Nat)]
  let C := (b (0 : Nat) == b (0 : Nat) && (b (1 : Nat) == b (1 : Nat) && (b (2 : Nat) == b (2 : Nat) && (b (3 : Nat) == b (3 : Nat) && (b (4 : Nat) == b (4 : Nat) && (b (5 : Nat) == b (5 : Nat) && (b (6 : Nat) == b (6 : Nat) && (b (7 : Nat) == b (7 : Nat) && (b (8 : Nat) == b (8 : Nat) && (b (9 : Nat) == b (9 : Nat) && (b (10 : Nat) == b (10 : Nat) && (b (11 : Nat) == b (11 : Nat) && (b (12 : Nat) == b (12 : Nat) && (b (13 : Nat) == b (13 : Nat) && (b (14 : Nat) == b (14 : Nat) && b (15 : Nat) == b (15 : Nat))))))))))))))) && (z (0 : Nat) == z (0 : Nat) && (z (1 : Nat) == z (1 : Nat) && (z (2 : Nat) == z (2 : Nat) && (z (3 : Nat) == z (3 : Nat) && (z (4 : Nat) == z (4 : Nat) && (z (5 : Nat) == z (5 : Nat) && (z (6 : Nat) == z (6 : Nat) && (z (7 : Nat) == z (7 : Nat) && (z (8 : Nat) == z (8 : Nat) && (z (9 : Nat) == z (9 : Nat) && (z (10 : Nat) == z (10 : Nat) && (z (11 : Nat) == z (11 : Nat) && (z (12 : Nat) == z (12 : Nat) && (z (13 : Nat) == z (13 : Nat) && (z (14 : Nat) == z (14 : Nat) && z (15 : Nat) == z (15 : Nat))))))))))))))) && (z (16 : Nat) == z (16 : Nat) && (z (17 : Nat) == z (17 : Nat) && (z (18 : Nat) == z (18 : Nat) && (z (19 : Nat) == z (19 : Nat) && (z (20 : Nat) == z (20 : Nat) && (z (21 : Nat) == z (21 : Nat) && (z (22 : Nat) == z (22 : Nat) && (z (23 : Nat) == z (23 : Nat) && (z (24 : Nat) == z (24 : Nat) && (z (25 : Nat) == z (25 : Nat) && (z (26 : Nat) == z (26 : Nat) && (z (27 : Nat) == z (27 : Nat) && (z (28 : Nat) == z (28 : Nat) && (z (29 : Nat) == z (29 : Nat) && (z (30 : Nat) == z (30 : Nat) && z (31 : Nat) == z (31 : Nat))))))))))))))))))
  let D := [b (0 : Nat), b (1 : Nat), b (2 : Nat), b (3 : Nat), b (4 : Nat), b (5 : Nat), b (6 : Nat), b (7 : Nat), b (8 : Nat), b (9 : Nat), b (10 : Nat), b (11 : Nat), b (12 : Nat), b (13 : Nat), b (14 : Nat), b (15 : Nat)]
  let A := [z (0 : Nat), z (1 : Nat), z (2 : Nat), z (3 : Nat), z (4 : Nat), z (5 : Nat), z (6 : Nat), z (7 : Nat), z (8 : Nat), z (9 : Nat), z (10 : Nat), z (11 : Nat), z (12 : Nat), z (13 : Nat), z (14 : Nat), z (15 : Nat), K6.skC D B k a x (0 : Int), K6.skC D B k a x (1 : Int), K6.skC D B k a x (2 : Int), K6.skC D B k a x (3 : Int), K6.skC D B k a x (4 : Int), K6.skC D B k a x (5 : Int), K6.skC D B k a x (6 : Int), K6.skC D B k a x (7 : Int), K6.skC D B k a x (8 : Int), K6.skC D B k a x (9 : Int), K6.skC D B k a x (10 : Int), K6.skC D B k a x (11 : Int), K6.skC D B k a x (12 : Int), K6.skC D B k a x (13 : Int), K6.skC D B k a x (14 : Int), K6.skC D B k a x (15 : Int)]
  let E := [z (0 : Nat), z (1 : Nat), z (2 : Nat), z (3 : Nat), z (4 : Nat), z (5 : Nat), z (6 : Nat), z (7 : Nat), z (8 : Nat), z (9 : Nat), z (10 : Nat), z (11 : Nat), z (12 : Nat), z (13 : Nat), z (14 : Nat), z (15 : Nat), B1.bkNow (z (16 : Nat)) (z (17 : Nat)) (z (18 : Nat)) (z (19 : Nat)) k a o x (0 : Int), B1.bkNow (z (16 : Nat)) (z (17 : Nat)) (z (18 : Nat)) (z (19 : Nat)) k a o x (1 : Int), B1.bkNow (z (16 : Nat)) (z (17 : Nat)) (z (18 : Nat)) (z (19 : Nat)) k a o x (2 : Int), B1.bkNow (z (16 : Nat)) (z (17 : Nat)) (z (18 : Nat)) (z (19 : Nat)) k a o x (3 : Int), z (20 : Nat), z (21 : Nat), z (22 : Nat), z (23 : Nat), z (24 : Nat), z (25 : Nat), z (26 : Nat), z (27 : Nat), z (28 : Nat), z (29 : Nat), z (30 : Nat), z (31 : Nat)]
  let F := (B1.bkCode (z (16 : Nat)) (z (17 : Nat)) (z (18 : Nat)) (z (19 : Nat)) k a o x == B1.bkCode (z (16 : Nat)) (z (17 : Nat)) (z (18 : Nat)) (z (19 : Nat)) k a o x && B1.bkNum (z (16 : Nat)) (z (17 : Nat)) (z (18 : Nat)) (z (19 : Nat)) k a o x == B1.bkNum (z (16 : Nat)) (z (17 : Nat)) (z (18 : Nat)) (z (19 : Nat)) k a o x)
  let G := (K6.skCode D B k a == K6.skCode D B k a && K6.skNum D B k a o == K6.skNum D B k a o)
  let I := (B1.bkCode (z (16 : Nat)) (z (17 : Nat)) (z (18 : Nat)) (z (19 : Nat)) k a o x != (0 : Int))
  let J := (false == (K6.skCode D B k a != (0 : Int)))
  let M := (B1.bkCode (z (16 : Nat)) (z (17 : Nat)) (z (18 : Nat)) (z (19 : Nat)) k a o x == (0 : Int))
  let N := (B1.bkCode (K6.skC D B k a x (0 : Int)) (K6.skC D B k a x (1 : Int)) (K6.skC D B k a x (2 : Int)) (K6.skC D B k a x (3 : Int)) l c d y != (0 : Int))
  rcases Bool.eq_false_or_eq_true (!B1.allMay B) with h0 | h0
  ·
   refine vcIntro [true, true] (an (an h0 (an h0 tt)) tt) (by kernel_rfl)
  ·
   rcases Bool.eq_false_or_eq_true (!B1.opMayL [k, a, o, x]) with h1 | h1
   ·
    refine vcIntro [false, true, false, true] (an (an h1 (an h0 (an h1 (an h0 tt)))) tt) (by kernel_rfl)
   ·
    rcases Bool.eq_false_or_eq_true (decide (k ≥ (0 : Int))) with h2 | h2
    ·
     rcases Bool.eq_false_or_eq_true (decide (k ≤ (5 : Int))) with h3 | h3
     ·
      rcases Bool.eq_false_or_eq_true (!B1.bkMay B k a o x) with h4 | h4
      ·
       rcases Bool.eq_false_or_eq_true (!B1.opMayL [l, c, d, y]) with h5 | h5
       ·
        refine vcIntro [false, false, true, true, true, false, false, true] (an (an h5 (an h1 (an h0 (an h4 (an h3 (an h2 (an h1 (an h0 tt)))))))) tt) (by kernel_rfl)
       ·
        refine vcIntro [false, false, true, true, true, false, false, false, true, true, true] (an (an h4 (an h3 (an h2 (an h5 (an h1 (an h0 (an h4 (an h3 (an h2 (an h1 (an h0 tt))))))))))) (show C = true by ((try dsimp only [B, C, D, A, E, F, G, I, J, M, N] at *);simp; done))) (by kernel_rfl)
      ·
       rcases Bool.eq_false_or_eq_true (decide ((0 : Int) ≤ B1.bkD D k a o)) with h6 | h6
       ·
        rcases Bool.eq_false_or_eq_true (decide (B1.bkD D k a o ≥ (0 : Int))) with h7 | h7
        ·
         rcases Bool.eq_false_or_eq_true (!B1.opMayL [l, c, d, y]) with h8 | h8
         ·
          refine vcIntro [false, false, true, true, false, true, true, false, false, true] (an (an h8 (an h1 (an h0 (an h7 (an h6 (an h4 (an h3 (an h2 (an h1 (an h0 tt)))))))))) tt) (by kernel_rfl)
         ·
          rcases Bool.eq_false_or_eq_true (B1.bkD D k a o == B1.bkD D k a o) with h9 | h9
          ·
           refine vcIntro [false, false, true, true, false, true, true, false, false, false, true, true, false, true, true, true, true] (an (an h9 (an h7 (an h7 (an h6 (an h4 (an h3 (an h2 (an h8 (an h1 (an h0 (an h7 (an h6 (an h4 (an h3 (an h2 (an h1 (an h0 tt))))))))))))))))) (show C = true by ((try dsimp only [B, C, D, A, E, F, G, I, J, M, N] at *);simp; done))) (by kernel_rfl)
          · exact ff (by ((try dsimp only [B, C, D, A, E, F, G, I, J, M, N] at *);simp at *; done))
        · exact ff (by ((try dsimp only [B, C, D, A, E, F, G, I, J, M, N] at *);first | (simp at *; omega) | (simp_all; done)))
       ·
        rcases Bool.eq_false_or_eq_true I with h10 | h10
        ·
         rcases Bool.eq_false_or_eq_true (!B1.opMayL [l, c, d, y]) with h11 | h11
         ·
          refine vcIntro [false, false, true, true, false, false, true, false, false, true] (an (an h11 (an h1 (an h0 (an h10 (an h6 (an h4 (an h3 (an h2 (an h1 (an h0 tt)))))))))) tt) (by kernel_rfl)
         ·
          rcases Bool.eq_false_or_eq_true F with h12 | h12
          ·
           refine vcIntro [false, false, true, true, false, false, true, false, false, false, true, true, false, false, true, true] (an (an h12 (an h10 (an h6 (an h4 (an h3 (an h2 (an h11 (an h1 (an h0 (an h10 (an h6 (an h4 (an h3 (an h2 (an h1 (an h0 tt)))))))))))))))) (show (true == I) = true by ((try dsimp only [B, C, D, A, E, F, G, I, J, M, N] at *);first | (simp at *; omega) | (simp_all; done)))) (by kernel_rfl)
          · exact ff (by ((try dsimp only [B, C, D, A, E, F, G, I, J, M, N] at *);simp at *; done))
        ·
         rcases Bool.eq_false_or_eq_true (!B1.opMayL [l, c, d, y]) with h13 | h13
         ·
          refine vcIntro [false, false, true, true, false, false, false, false, false, true] (an (an h13 (an h1 (an h0 (an h10 (an h6 (an h4 (an h3 (an h2 (an h1 (an h0 tt)))))))))) tt) (by kernel_rfl)
         ·
          rcases Bool.eq_false_or_eq_true (decide (l ≥ (0 : Int))) with h14 | h14
          ·
           rcases Bool.eq_false_or_eq_true (decide (l ≤ (5 : Int))) with h15 | h15
           ·
            rcases Bool.eq_false_or_eq_true (!B1.bkMay E l c d y) with h16 | h16
            ·
             rcases Bool.eq_false_or_eq_true M with h17 | h17
             ·
              refine vcIntro [false, false, true, true, false, false, false, false, false, false, true, true, false, false, false, true, true, true, true] (an (an h17 (an h16 (an h15 (an h14 (an h10 (an h6 (an h4 (an h3 (an h2 (an h13 (an h1 (an h0 (an h10 (an h6 (an h4 (an h3 (an h2 (an h1 (an h0 tt))))))))))))))))))) (show C = true by ((try dsimp only [B, C, D, A, E, F, G, I, J, M, N] at *);simp; done))) (by kernel_rfl)
             · exact ff (by ((try dsimp only [B, C, D, A, E, F, G, I, J, M, N] at *);first | (simp at *; omega) | (simp_all; done)))
            ·
             rcases Bool.eq_false_or_eq_true (decide ((0 : Int) ≤ B1.bkD D l c d)) with h18 | h18
             ·
              rcases Bool.eq_false_or_eq_true (decide (B1.bkD D l c d ≥ (0 : Int))) with h19 | h19
              ·
               rcases Bool.eq_false_or_eq_true M with h20 | h20
               ·
                refine vcIntro [false, false, true, true, false, false, false, false, false, false, true, true, false, false, false, true, true, false, true, true, true, true] (an (an h20 (an h19 (an h19 (an h18 (an h16 (an h15 (an h14 (an h10 (an h6 (an h4 (an h3 (an h2 (an h13 (an h1 (an h0 (an h10 (an h6 (an h4 (an h3 (an h2 (an h1 (an h0 tt)))))))))))))))))))))) (show C = true by ((try dsimp only [B, C, D, A, E, F, G, I, J, M, N] at *);simp; done))) (by kernel_rfl)
               · exact ff (by ((try dsimp only [B, C, D, A, E, F, G, I, J, M, N] at *);first | (simp at *; omega) | (simp_all; done)))
              · exact ff (by ((try dsimp only [B, C, D, A, E, F, G, I, J, M, N] at *);first | (simp at *; omega) | (simp_all; done)))
             ·
              rcases Bool.eq_false_or_eq_true (B1.bkCode (B1.bkNow (z (16 : Nat)) (z (17 : Nat)) (z (18 : Nat)) (z (19 : Nat)) k a o x (0 : Int)) (B1.bkNow (z (16 : Nat)) (z (17 : Nat)) (z (18 : Nat)) (z (19 : Nat)) k a o x (1 : Int)) (B1.bkNow (z (16 : Nat)) (z (17 : Nat)) (z (18 : Nat)) (z (19 : Nat)) k a o x (2 : Int)) (B1.bkNow (z (16 : Nat)) (z (17 : Nat)) (z (18 : Nat)) (z (19 : Nat)) k a o x (3 : Int)) l c d y != (0 : Int)) with h21 | h21
              ·
               rcases Bool.eq_false_or_eq_true F with h22 | h22
               ·
                refine vcIntro [false, false, true, true, false, false, false, false, false, false, true, true, false, false, false, true, true, false, false, true, true] (an (an h22 (an h21 (an h18 (an h16 (an h15 (an h14 (an h10 (an h6 (an h4 (an h3 (an h2 (an h13 (an h1 (an h0 (an h10 (an h6 (an h4 (an h3 (an h2 (an h1 (an h0 tt))))))))))))))))))))) (show (false == I) = true by ((try dsimp only [B, C, D, A, E, F, G, I, J, M, N] at *);first | (simp at *; omega) | (simp_all; done)))) (by kernel_rfl)
               · exact ff (by ((try dsimp only [B, C, D, A, E, F, G, I, J, M, N] at *);simp at *; done))
              ·
               rcases Bool.eq_false_or_eq_true F with h23 | h23
               ·
                refine vcIntro [false, false, true, true, false, false, false, false, false, false, true, true, false, false, false, true, true, false, false, false, true] (an (an h23 (an h21 (an h18 (an h16 (an h15 (an h14 (an h10 (an h6 (an h4 (an h3 (an h2 (an h13 (an h1 (an h0 (an h10 (an h6 (an h4 (an h3 (an h2 (an h1 (an h0 tt))))))))))))))))))))) (show (false == I) = true by ((try dsimp only [B, C, D, A, E, F, G, I, J, M, N] at *);first | (simp at *; omega) | (simp_all; done)))) (by kernel_rfl)
               · exact ff (by ((try dsimp only [B, C, D, A, E, F, G, I, J, M, N] at *);simp at *; done))
           ·
            rcases Bool.eq_false_or_eq_true (!K6.skMay E l c d y) with h24 | h24
            ·
             rcases Bool.eq_false_or_eq_true M with h25 | h25
             ·
              refine vcIntro [false, false, true, true, false, false, false, false, false, false, true, true, false, false, false, true, false, true, true] (an (an h25 (an h24 (an h15 (an h14 (an h10 (an h6 (an h4 (an h3 (an h2 (an h13 (an h1 (an h0 (an h10 (an h6 (an h4 (an h3 (an h2 (an h1 (an h0 tt))))))))))))))))))) (show C = true by ((try dsimp only [B, C, D, A, E, F, G, I, J, M, N] at *);simp; done))) (by kernel_rfl)
             · exact ff (by ((try dsimp only [B, C, D, A, E, F, G, I, J, M, N] at *);first | (simp at *; omega) | (simp_all; done)))
            ·
             rcases Bool.eq_false_or_eq_true (!K6.skN D E l c d y == (-1 : Int)) with h26 | h26
             ·
              rcases Bool.eq_false_or_eq_true (decide (K6.skN D E l c d y ≥ (0 : Int))) with h27 | h27
              ·
               rcases Bool.eq_false_or_eq_true M with h28 | h28
               ·
                refine vcIntro [false, false, true, true, false, false, false, false, false, false, true, true, false, false, false, true, false, false, true, true, true, true] (an (an h28 (an h27 (an h27 (an h26 (an h24 (an h15 (an h14 (an h10 (an h6 (an h4 (an h3 (an h2 (an h13 (an h1 (an h0 (an h10 (an h6 (an h4 (an h3 (an h2 (an h1 (an h0 tt)))))))))))))))))))))) (show C = true by ((try dsimp only [B, C, D, A, E, F, G, I, J, M, N] at *);simp; done))) (by kernel_rfl)
               · exact ff (by ((try dsimp only [B, C, D, A, E, F, G, I, J, M, N] at *);first | (simp at *; omega) | (simp_all; done)))
              · exact ff (K6.skN_no h24 h26 h27)
             ·
              rcases Bool.eq_false_or_eq_true (K6.skCode D E l c != (0 : Int)) with h30 | h30
              ·
               rcases Bool.eq_false_or_eq_true F with h31 | h31
               ·
                refine vcIntro [false, false, true, true, false, false, false, false, false, false, true, true, false, false, false, true, false, false, false, true, true] (an (an h31 (an h30 (an h26 (an h24 (an h15 (an h14 (an h10 (an h6 (an h4 (an h3 (an h2 (an h13 (an h1 (an h0 (an h10 (an h6 (an h4 (an h3 (an h2 (an h1 (an h0 tt))))))))))))))))))))) (show (false == I) = true by ((try dsimp only [B, C, D, A, E, F, G, I, J, M, N] at *);first | (simp at *; omega) | (simp_all; done)))) (by kernel_rfl)
               · exact ff (by ((try dsimp only [B, C, D, A, E, F, G, I, J, M, N] at *);simp at *; done))
              ·
               rcases Bool.eq_false_or_eq_true F with h32 | h32
               ·
                refine vcIntro [false, false, true, true, false, false, false, false, false, false, true, true, false, false, false, true, false, false, false, false, true] (an (an h32 (an h30 (an h26 (an h24 (an h15 (an h14 (an h10 (an h6 (an h4 (an h3 (an h2 (an h13 (an h1 (an h0 (an h10 (an h6 (an h4 (an h3 (an h2 (an h1 (an h0 tt))))))))))))))))))))) (show (false == I) = true by ((try dsimp only [B, C, D, A, E, F, G, I, J, M, N] at *);first | (simp at *; omega) | (simp_all; done)))) (by kernel_rfl)
               · exact ff (by ((try dsimp only [B, C, D, A, E, F, G, I, J, M, N] at *);simp at *; done))
          ·
           rcases Bool.eq_false_or_eq_true (!K6.skMay E l c d y) with h33 | h33
           ·
            rcases Bool.eq_false_or_eq_true M with h34 | h34
            ·
             refine vcIntro [false, false, true, true, false, false, false, false, false, false, true, true, false, false, false, false, true, true] (an (an h34 (an h33 (an h14 (an h10 (an h6 (an h4 (an h3 (an h2 (an h13 (an h1 (an h0 (an h10 (an h6 (an h4 (an h3 (an h2 (an h1 (an h0 tt)))))))))))))))))) (show C = true by ((try dsimp only [B, C, D, A, E, F, G, I, J, M, N] at *);simp; done))) (by kernel_rfl)
            · exact ff (by ((try dsimp only [B, C, D, A, E, F, G, I, J, M, N] at *);first | (simp at *; omega) | (simp_all; done)))
           ·
            rcases Bool.eq_false_or_eq_true (!K6.skN D E l c d y == (-1 : Int)) with h35 | h35
            ·
             rcases Bool.eq_false_or_eq_true (decide (K6.skN D E l c d y ≥ (0 : Int))) with h36 | h36
             ·
              rcases Bool.eq_false_or_eq_true M with h37 | h37
              ·
               refine vcIntro [false, false, true, true, false, false, false, false, false, false, true, true, false, false, false, false, false, true, true, true, true] (an (an h37 (an h36 (an h36 (an h35 (an h33 (an h14 (an h10 (an h6 (an h4 (an h3 (an h2 (an h13 (an h1 (an h0 (an h10 (an h6 (an h4 (an h3 (an h2 (an h1 (an h0 tt))))))))))))))))))))) (show C = true by ((try dsimp only [B, C, D, A, E, F, G, I, J, M, N] at *);simp; done))) (by kernel_rfl)
              · exact ff (by ((try dsimp only [B, C, D, A, E, F, G, I, J, M, N] at *);first | (simp at *; omega) | (simp_all; done)))
             · exact ff (K6.skN_no h33 h35 h36)
            ·
             rcases Bool.eq_false_or_eq_true (K6.skCode D E l c != (0 : Int)) with h39 | h39
             ·
              rcases Bool.eq_false_or_eq_true F with h40 | h40
              ·
               refine vcIntro [false, false, true, true, false, false, false, false, false, false, true, true, false, false, false, false, false, false, true, true] (an (an h40 (an h39 (an h35 (an h33 (an h14 (an h10 (an h6 (an h4 (an h3 (an h2 (an h13 (an h1 (an h0 (an h10 (an h6 (an h4 (an h3 (an h2 (an h1 (an h0 tt)))))))))))))))))))) (show (false == I) = true by ((try dsimp only [B, C, D, A, E, F, G, I, J, M, N] at *);first | (simp at *; omega) | (simp_all; done)))) (by kernel_rfl)
              · exact ff (by ((try dsimp only [B, C, D, A, E, F, G, I, J, M, N] at *);simp at *; done))
             ·
              rcases Bool.eq_false_or_eq_true F with h41 | h41
              ·
               refine vcIntro [false, false, true, true, false, false, false, false, false, false, true, true, false, false, false, false, false, false, false, true] (an (an h41 (an h39 (an h35 (an h33 (an h14 (an h10 (an h6 (an h4 (an h3 (an h2 (an h13 (an h1 (an h0 (an h10 (an h6 (an h4 (an h3 (an h2 (an h1 (an h0 tt)))))))))))))))))))) (show (false == I) = true by ((try dsimp only [B, C, D, A, E, F, G, I, J, M, N] at *);first | (simp at *; omega) | (simp_all; done)))) (by kernel_rfl)
              · exact ff (by ((try dsimp only [B, C, D, A, E, F, G, I, J, M, N] at *);simp at *; done))
     ·
      rcases Bool.eq_false_or_eq_true (!K6.skMay B k a o x) with h42 | h42
      ·
       rcases Bool.eq_false_or_eq_true (!B1.opMayL [l, c, d, y]) with h43 | h43
       ·
        refine vcIntro [false, false, true, false, true, false, false, true] (an (an h43 (an h1 (an h0 (an h42 (an h3 (an h2 (an h1 (an h0 tt)))))))) tt) (by kernel_rfl)
       ·
        refine vcIntro [false, false, true, false, true, false, false, false, true, false, true] (an (an h42 (an h3 (an h2 (an h43 (an h1 (an h0 (an h42 (an h3 (an h2 (an h1 (an h0 tt))))))))))) (show C = true by ((try dsimp only [B, C, D, A, E, F, G, I, J, M, N] at *);simp; done))) (by kernel_rfl)
      ·
       rcases Bool.eq_false_or_eq_true (!K6.skN D B k a o x == (-1 : Int)) with h44 | h44
       ·
        rcases Bool.eq_false_or_eq_true (decide (K6.skN D B k a o x ≥ (0 : Int))) with h45 | h45
        ·
         rcases Bool.eq_false_or_eq_true (!B1.opMayL [l, c, d, y]) with h46 | h46
         ·
          refine vcIntro [false, false, true, false, false, true, true, false, false, true] (an (an h46 (an h1 (an h0 (an h45 (an h44 (an h42 (an h3 (an h2 (an h1 (an h0 tt)))))))))) tt) (by kernel_rfl)
         ·
          rcases Bool.eq_false_or_eq_true (K6.skN D B k a o x == K6.skN D B k a o x) with h47 | h47
          ·
           refine vcIntro [false, false, true, false, false, true, true, false, false, false, true, false, false, true, true, true, true] (an (an h47 (an h45 (an h45 (an h44 (an h42 (an h3 (an h2 (an h46 (an h1 (an h0 (an h45 (an h44 (an h42 (an h3 (an h2 (an h1 (an h0 tt))))))))))))))))) (show C = true by ((try dsimp only [B, C, D, A, E, F, G, I, J, M, N] at *);simp; done))) (by kernel_rfl)
          · exact ff (by ((try dsimp only [B, C, D, A, E, F, G, I, J, M, N] at *);simp at *; done))
        · exact ff (K6.skN_no h42 h44 h45)
       ·
        rcases Bool.eq_false_or_eq_true (K6.skCode D B k a != (0 : Int)) with h48 | h48
        ·
         rcases Bool.eq_false_or_eq_true (!B1.opMayL [l, c, d, y]) with h49 | h49
         ·
          refine vcIntro [false, false, true, false, false, false, true, false, false, true] (an (an h49 (an h1 (an h0 (an h48 (an h44 (an h42 (an h3 (an h2 (an h1 (an h0 tt)))))))))) tt) (by kernel_rfl)
         ·
          rcases Bool.eq_false_or_eq_true G with h50 | h50
          ·
           refine vcIntro [false, false, true, false, false, false, true, false, false, false, true, false, false, false, true, true] (an (an h50 (an h48 (an h44 (an h42 (an h3 (an h2 (an h49 (an h1 (an h0 (an h48 (an h44 (an h42 (an h3 (an h2 (an h1 (an h0 tt)))))))))))))))) (show (true == (K6.skCode D B k a != (0 : Int))) = true by ((try dsimp only [B, C, D, A, E, F, G, I, J, M, N] at *);first | (simp at *; omega) | (simp_all; done)))) (by kernel_rfl)
          · exact ff (by ((try dsimp only [B, C, D, A, E, F, G, I, J, M, N] at *);simp at *; done))
        ·
         rcases Bool.eq_false_or_eq_true (!B1.opMayL [l, c, d, y]) with h51 | h51
         ·
          refine vcIntro [false, false, true, false, false, false, false, false, false, true] (an (an h51 (an h1 (an h0 (an h48 (an h44 (an h42 (an h3 (an h2 (an h1 (an h0 tt)))))))))) tt) (by kernel_rfl)
         ·
          rcases Bool.eq_false_or_eq_true (decide (l ≥ (0 : Int))) with h52 | h52
          ·
           rcases Bool.eq_false_or_eq_true (decide (l ≤ (5 : Int))) with h53 | h53
           ·
            rcases Bool.eq_false_or_eq_true (!B1.bkMay A l c d y) with h54 | h54
            ·
             rcases Bool.eq_false_or_eq_true (K6.skCode D B k a == (0 : Int)) with h55 | h55
             ·
              refine vcIntro [false, false, true, false, false, false, false, false, false, false, true, false, false, false, false, true, true, true, true] (an (an h55 (an h54 (an h53 (an h52 (an h48 (an h44 (an h42 (an h3 (an h2 (an h51 (an h1 (an h0 (an h48 (an h44 (an h42 (an h3 (an h2 (an h1 (an h0 tt))))))))))))))))))) (show C = true by ((try dsimp only [B, C, D, A, E, F, G, I, J, M, N] at *);simp; done))) (by kernel_rfl)
             · exact ff (by ((try dsimp only [B, C, D, A, E, F, G, I, J, M, N] at *);first | (simp at *; omega) | (simp_all; done)))
            ·
             rcases Bool.eq_false_or_eq_true (decide ((0 : Int) ≤ B1.bkD D l c d)) with h56 | h56
             ·
              rcases Bool.eq_false_or_eq_true (decide (B1.bkD D l c d ≥ (0 : Int))) with h57 | h57
              ·
               rcases Bool.eq_false_or_eq_true (K6.skCode D B k a == (0 : Int)) with h58 | h58
               ·
                refine vcIntro [false, false, true, false, false, false, false, false, false, false, true, false, false, false, false, true, true, false, true, true, true, true] (an (an h58 (an h57 (an h57 (an h56 (an h54 (an h53 (an h52 (an h48 (an h44 (an h42 (an h3 (an h2 (an h51 (an h1 (an h0 (an h48 (an h44 (an h42 (an h3 (an h2 (an h1 (an h0 tt)))))))))))))))))))))) (show C = true by ((try dsimp only [B, C, D, A, E, F, G, I, J, M, N] at *);simp; done))) (by kernel_rfl)
               · exact ff (by ((try dsimp only [B, C, D, A, E, F, G, I, J, M, N] at *);first | (simp at *; omega) | (simp_all; done)))
              · exact ff (by ((try dsimp only [B, C, D, A, E, F, G, I, J, M, N] at *);first | (simp at *; omega) | (simp_all; done)))
             ·
              rcases Bool.eq_false_or_eq_true N with h59 | h59
              ·
               rcases Bool.eq_false_or_eq_true G with h60 | h60
               ·
                refine vcIntro [false, false, true, false, false, false, false, false, false, false, true, false, false, false, false, true, true, false, false, true, true] (an (an h60 (an h59 (an h56 (an h54 (an h53 (an h52 (an h48 (an h44 (an h42 (an h3 (an h2 (an h51 (an h1 (an h0 (an h48 (an h44 (an h42 (an h3 (an h2 (an h1 (an h0 tt))))))))))))))))))))) (show J = true by ((try dsimp only [B, C, D, A, E, F, G, I, J, M, N] at *);first | (simp at *; omega) | (simp_all; done)))) (by kernel_rfl)
               · exact ff (by ((try dsimp only [B, C, D, A, E, F, G, I, J, M, N] at *);simp at *; done))
              ·
               rcases Bool.eq_false_or_eq_true G with h61 | h61
               ·
                refine vcIntro [false, false, true, false, false, false, false, false, false, false, true, false, false, false, false, true, true, false, false, false, true] (an (an h61 (an h59 (an h56 (an h54 (an h53 (an h52 (an h48 (an h44 (an h42 (an h3 (an h2 (an h51 (an h1 (an h0 (an h48 (an h44 (an h42 (an h3 (an h2 (an h1 (an h0 tt))))))))))))))))))))) (show J = true by ((try dsimp only [B, C, D, A, E, F, G, I, J, M, N] at *);first | (simp at *; omega) | (simp_all; done)))) (by kernel_rfl)
               · exact ff (by ((try dsimp only [B, C, D, A, E, F, G, I, J, M, N] at *);simp at *; done))
           ·
            rcases Bool.eq_false_or_eq_true (!K6.skMay A l c d y) with h62 | h62
            ·
             rcases Bool.eq_false_or_eq_true (K6.skCode D B k a == (0 : Int)) with h63 | h63
             ·
              refine vcIntro [false, false, true, false, false, false, false, false, false, false, true, false, false, false, false, true, false, true, true] (an (an h63 (an h62 (an h53 (an h52 (an h48 (an h44 (an h42 (an h3 (an h2 (an h51 (an h1 (an h0 (an h48 (an h44 (an h42 (an h3 (an h2 (an h1 (an h0 tt))))))))))))))))))) (show C = true by ((try dsimp only [B, C, D, A, E, F, G, I, J, M, N] at *);simp; done))) (by kernel_rfl)
             · exact ff (by ((try dsimp only [B, C, D, A, E, F, G, I, J, M, N] at *);first | (simp at *; omega) | (simp_all; done)))
            ·
             rcases Bool.eq_false_or_eq_true (!K6.skN D A l c d y == (-1 : Int)) with h64 | h64
             ·
              rcases Bool.eq_false_or_eq_true (decide (K6.skN D A l c d y ≥ (0 : Int))) with h65 | h65
              ·
               rcases Bool.eq_false_or_eq_true (K6.skCode D B k a == (0 : Int)) with h66 | h66
               ·
                refine vcIntro [false, false, true, false, false, false, false, false, false, false, true, false, false, false, false, true, false, false, true, true, true, true] (an (an h66 (an h65 (an h65 (an h64 (an h62 (an h53 (an h52 (an h48 (an h44 (an h42 (an h3 (an h2 (an h51 (an h1 (an h0 (an h48 (an h44 (an h42 (an h3 (an h2 (an h1 (an h0 tt)))))))))))))))))))))) (show C = true by ((try dsimp only [B, C, D, A, E, F, G, I, J, M, N] at *);simp; done))) (by kernel_rfl)
               · exact ff (by ((try dsimp only [B, C, D, A, E, F, G, I, J, M, N] at *);first | (simp at *; omega) | (simp_all; done)))
              · exact ff (K6.skN_no h62 h64 h65)
             ·
              rcases Bool.eq_false_or_eq_true (K6.skCode D A l c != (0 : Int)) with h68 | h68
              ·
               rcases Bool.eq_false_or_eq_true G with h69 | h69
               ·
                refine vcIntro [false, false, true, false, false, false, false, false, false, false, true, false, false, false, false, true, false, false, false, true, true] (an (an h69 (an h68 (an h64 (an h62 (an h53 (an h52 (an h48 (an h44 (an h42 (an h3 (an h2 (an h51 (an h1 (an h0 (an h48 (an h44 (an h42 (an h3 (an h2 (an h1 (an h0 tt))))))))))))))))))))) (show J = true by ((try dsimp only [B, C, D, A, E, F, G, I, J, M, N] at *);first | (simp at *; omega) | (simp_all; done)))) (by kernel_rfl)
               · exact ff (by ((try dsimp only [B, C, D, A, E, F, G, I, J, M, N] at *);simp at *; done))
              ·
               rcases Bool.eq_false_or_eq_true G with h70 | h70
               ·
                refine vcIntro [false, false, true, false, false, false, false, false, false, false, true, false, false, false, false, true, false, false, false, false, true] (an (an h70 (an h68 (an h64 (an h62 (an h53 (an h52 (an h48 (an h44 (an h42 (an h3 (an h2 (an h51 (an h1 (an h0 (an h48 (an h44 (an h42 (an h3 (an h2 (an h1 (an h0 tt))))))))))))))))))))) (show J = true by ((try dsimp only [B, C, D, A, E, F, G, I, J, M, N] at *);first | (simp at *; omega) | (simp_all; done)))) (by kernel_rfl)
               · exact ff (by ((try dsimp only [B, C, D, A, E, F, G, I, J, M, N] at *);simp at *; done))
          ·
           rcases Bool.eq_false_or_eq_true (!K6.skMay A l c d y) with h71 | h71
           ·
            rcases Bool.eq_false_or_eq_true (K6.skCode D B k a == (0 : Int)) with h72 | h72
            ·
             refine vcIntro [false, false, true, false, false, false, false, false, false, false, true, false, false, false, false, false, true, true] (an (an h72 (an h71 (an h52 (an h48 (an h44 (an h42 (an h3 (an h2 (an h51 (an h1 (an h0 (an h48 (an h44 (an h42 (an h3 (an h2 (an h1 (an h0 tt)))))))))))))))))) (show C = true by ((try dsimp only [B, C, D, A, E, F, G, I, J, M, N] at *);simp; done))) (by kernel_rfl)
            · exact ff (by ((try dsimp only [B, C, D, A, E, F, G, I, J, M, N] at *);first | (simp at *; omega) | (simp_all; done)))
           ·
            rcases Bool.eq_false_or_eq_true (!K6.skN D A l c d y == (-1 : Int)) with h73 | h73
            ·
             rcases Bool.eq_false_or_eq_true (decide (K6.skN D A l c d y ≥ (0 : Int))) with h74 | h74
             ·
              rcases Bool.eq_false_or_eq_true (K6.skCode D B k a == (0 : Int)) with h75 | h75
              ·
               refine vcIntro [false, false, true, false, false, false, false, false, false, false, true, false, false, false, false, false, false, true, true, true, true] (an (an h75 (an h74 (an h74 (an h73 (an h71 (an h52 (an h48 (an h44 (an h42 (an h3 (an h2 (an h51 (an h1 (an h0 (an h48 (an h44 (an h42 (an h3 (an h2 (an h1 (an h0 tt))))))))))))))))))))) (show C = true by ((try dsimp only [B, C, D, A, E, F, G, I, J, M, N] at *);simp; done))) (by kernel_rfl)
              · exact ff (by ((try dsimp only [B, C, D, A, E, F, G, I, J, M, N] at *);first | (simp at *; omega) | (simp_all; done)))
             · exact ff (K6.skN_no h71 h73 h74)
            ·
             rcases Bool.eq_false_or_eq_true (K6.skCode D A l c != (0 : Int)) with h77 | h77
             ·
              rcases Bool.eq_false_or_eq_true G with h78 | h78
              ·
               refine vcIntro [false, false, true, false, false, false, false, false, false, false, true, false, false, false, false, false, false, false, true, true] (an (an h78 (an h77 (an h73 (an h71 (an h52 (an h48 (an h44 (an h42 (an h3 (an h2 (an h51 (an h1 (an h0 (an h48 (an h44 (an h42 (an h3 (an h2 (an h1 (an h0 tt)))))))))))))))))))) (show J = true by ((try dsimp only [B, C, D, A, E, F, G, I, J, M, N] at *);first | (simp at *; omega) | (simp_all; done)))) (by kernel_rfl)
              · exact ff (by ((try dsimp only [B, C, D, A, E, F, G, I, J, M, N] at *);simp at *; done))
             ·
              rcases Bool.eq_false_or_eq_true G with h79 | h79
              ·
               refine vcIntro [false, false, true, false, false, false, false, false, false, false, true, false, false, false, false, false, false, false, false, true] (an (an h79 (an h77 (an h73 (an h71 (an h52 (an h48 (an h44 (an h42 (an h3 (an h2 (an h51 (an h1 (an h0 (an h48 (an h44 (an h42 (an h3 (an h2 (an h1 (an h0 tt)))))))))))))))))))) (show J = true by ((try dsimp only [B, C, D, A, E, F, G, I, J, M, N] at *);first | (simp at *; omega) | (simp_all; done)))) (by kernel_rfl)
              · exact ff (by ((try dsimp only [B, C, D, A, E, F, G, I, J, M, N] at *);simp at *; done))
    ·
     rcases Bool.eq_false_or_eq_true (!K6.skMay B k a o x) with h80 | h80
     ·
      rcases Bool.eq_false_or_eq_true (!B1.opMayL [l, c, d, y]) with h81 | h81
      ·
       refine vcIntro [false, false, false, true, false, false, true] (an (an h81 (an h1 (an h0 (an h80 (an h2 (an h1 (an h0 tt))))))) tt) (by kernel_rfl)
      ·
       refine vcIntro [false, false, false, true, false, false, false, false, true] (an (an h80 (an h2 (an h81 (an h1 (an h0 (an h80 (an h2 (an h1 (an h0 tt))))))))) (show C = true by ((try dsimp only [B, C, D, A, E, F, G, I, J, M, N] at *);simp; done))) (by kernel_rfl)
     ·
      rcases Bool.eq_false_or_eq_true (!K6.skN D B k a o x == (-1 : Int)) with h82 | h82
      ·
       rcases Bool.eq_false_or_eq_true (decide (K6.skN D B k a o x ≥ (0 : Int))) with h83 | h83
       ·
        rcases Bool.eq_false_or_eq_true (!B1.opMayL [l, c, d, y]) with h84 | h84
        ·
         refine vcIntro [false, false, false, false, true, true, false, false, true] (an (an h84 (an h1 (an h0 (an h83 (an h82 (an h80 (an h2 (an h1 (an h0 tt))))))))) tt) (by kernel_rfl)
        ·
         rcases Bool.eq_false_or_eq_true (K6.skN D B k a o x == K6.skN D B k a o x) with h85 | h85
         ·
          refine vcIntro [false, false, false, false, true, true, false, false, false, false, false, true, true, true, true] (an (an h85 (an h83 (an h83 (an h82 (an h80 (an h2 (an h84 (an h1 (an h0 (an h83 (an h82 (an h80 (an h2 (an h1 (an h0 tt))))))))))))))) (show C = true by ((try dsimp only [B, C, D, A, E, F, G, I, J, M, N] at *);simp; done))) (by kernel_rfl)
         · exact ff (by ((try dsimp only [B, C, D, A, E, F, G, I, J, M, N] at *);simp at *; done))
       · exact ff (K6.skN_no h80 h82 h83)
      ·
       rcases Bool.eq_false_or_eq_true (K6.skCode D B k a != (0 : Int)) with h86 | h86
       ·
        rcases Bool.eq_false_or_eq_true (!B1.opMayL [l, c, d, y]) with h87 | h87
        ·
         refine vcIntro [false, false, false, false, false, true, false, false, true] (an (an h87 (an h1 (an h0 (an h86 (an h82 (an h80 (an h2 (an h1 (an h0 tt))))))))) tt) (by kernel_rfl)
        ·
         rcases Bool.eq_false_or_eq_true G with h88 | h88
         ·
          refine vcIntro [false, false, false, false, false, true, false, false, false, false, false, false, true, true] (an (an h88 (an h86 (an h82 (an h80 (an h2 (an h87 (an h1 (an h0 (an h86 (an h82 (an h80 (an h2 (an h1 (an h0 tt)))))))))))))) (show (true == (K6.skCode D B k a != (0 : Int))) = true by ((try dsimp only [B, C, D, A, E, F, G, I, J, M, N] at *);first | (simp at *; omega) | (simp_all; done)))) (by kernel_rfl)
         · exact ff (by ((try dsimp only [B, C, D, A, E, F, G, I, J, M, N] at *);simp at *; done))
       ·
        rcases Bool.eq_false_or_eq_true (!B1.opMayL [l, c, d, y]) with h89 | h89
        ·
         refine vcIntro [false, false, false, false, false, false, false, false, true] (an (an h89 (an h1 (an h0 (an h86 (an h82 (an h80 (an h2 (an h1 (an h0 tt))))))))) tt) (by kernel_rfl)
        ·
         rcases Bool.eq_false_or_eq_true (decide (l ≥ (0 : Int))) with h90 | h90
         ·
          rcases Bool.eq_false_or_eq_true (decide (l ≤ (5 : Int))) with h91 | h91
          ·
           rcases Bool.eq_false_or_eq_true (!B1.bkMay A l c d y) with h92 | h92
           ·
            rcases Bool.eq_false_or_eq_true (K6.skCode D B k a == (0 : Int)) with h93 | h93
            ·
             refine vcIntro [false, false, false, false, false, false, false, false, false, false, false, false, false, true, true, true, true] (an (an h93 (an h92 (an h91 (an h90 (an h86 (an h82 (an h80 (an h2 (an h89 (an h1 (an h0 (an h86 (an h82 (an h80 (an h2 (an h1 (an h0 tt))))))))))))))))) (show C = true by ((try dsimp only [B, C, D, A, E, F, G, I, J, M, N] at *);simp; done))) (by kernel_rfl)
            · exact ff (by ((try dsimp only [B, C, D, A, E, F, G, I, J, M, N] at *);first | (simp at *; omega) | (simp_all; done)))
           ·
            rcases Bool.eq_false_or_eq_true (decide ((0 : Int) ≤ B1.bkD D l c d)) with h94 | h94
            ·
             rcases Bool.eq_false_or_eq_true (decide (B1.bkD D l c d ≥ (0 : Int))) with h95 | h95
             ·
              rcases Bool.eq_false_or_eq_true (K6.skCode D B k a == (0 : Int)) with h96 | h96
              ·
               refine vcIntro [false, false, false, false, false, false, false, false, false, false, false, false, false, true, true, false, true, true, true, true] (an (an h96 (an h95 (an h95 (an h94 (an h92 (an h91 (an h90 (an h86 (an h82 (an h80 (an h2 (an h89 (an h1 (an h0 (an h86 (an h82 (an h80 (an h2 (an h1 (an h0 tt)))))))))))))))))))) (show C = true by ((try dsimp only [B, C, D, A, E, F, G, I, J, M, N] at *);simp; done))) (by kernel_rfl)
              · exact ff (by ((try dsimp only [B, C, D, A, E, F, G, I, J, M, N] at *);first | (simp at *; omega) | (simp_all; done)))
             · exact ff (by ((try dsimp only [B, C, D, A, E, F, G, I, J, M, N] at *);first | (simp at *; omega) | (simp_all; done)))
            ·
             rcases Bool.eq_false_or_eq_true N with h97 | h97
             ·
              rcases Bool.eq_false_or_eq_true G with h98 | h98
              ·
               refine vcIntro [false, false, false, false, false, false, false, false, false, false, false, false, false, true, true, false, false, true, true] (an (an h98 (an h97 (an h94 (an h92 (an h91 (an h90 (an h86 (an h82 (an h80 (an h2 (an h89 (an h1 (an h0 (an h86 (an h82 (an h80 (an h2 (an h1 (an h0 tt))))))))))))))))))) (show J = true by ((try dsimp only [B, C, D, A, E, F, G, I, J, M, N] at *);first | (simp at *; omega) | (simp_all; done)))) (by kernel_rfl)
              · exact ff (by ((try dsimp only [B, C, D, A, E, F, G, I, J, M, N] at *);simp at *; done))
             ·
              rcases Bool.eq_false_or_eq_true G with h99 | h99
              ·
               refine vcIntro [false, false, false, false, false, false, false, false, false, false, false, false, false, true, true, false, false, false, true] (an (an h99 (an h97 (an h94 (an h92 (an h91 (an h90 (an h86 (an h82 (an h80 (an h2 (an h89 (an h1 (an h0 (an h86 (an h82 (an h80 (an h2 (an h1 (an h0 tt))))))))))))))))))) (show J = true by ((try dsimp only [B, C, D, A, E, F, G, I, J, M, N] at *);first | (simp at *; omega) | (simp_all; done)))) (by kernel_rfl)
              · exact ff (by ((try dsimp only [B, C, D, A, E, F, G, I, J, M, N] at *);simp at *; done))
          ·
           rcases Bool.eq_false_or_eq_true (!K6.skMay A l c d y) with h100 | h100
           ·
            rcases Bool.eq_false_or_eq_true (K6.skCode D B k a == (0 : Int)) with h101 | h101
            ·
             refine vcIntro [false, false, false, false, false, false, false, false, false, false, false, false, false, true, false, true, true] (an (an h101 (an h100 (an h91 (an h90 (an h86 (an h82 (an h80 (an h2 (an h89 (an h1 (an h0 (an h86 (an h82 (an h80 (an h2 (an h1 (an h0 tt))))))))))))))))) (show C = true by ((try dsimp only [B, C, D, A, E, F, G, I, J, M, N] at *);simp; done))) (by kernel_rfl)
            · exact ff (by ((try dsimp only [B, C, D, A, E, F, G, I, J, M, N] at *);first | (simp at *; omega) | (simp_all; done)))
           ·
            rcases Bool.eq_false_or_eq_true (!K6.skN D A l c d y == (-1 : Int)) with h102 | h102
            ·
             rcases Bool.eq_false_or_eq_true (decide (K6.skN D A l c d y ≥ (0 : Int))) with h103 | h103
             ·
              rcases Bool.eq_false_or_eq_true (K6.skCode D B k a == (0 : Int)) with h104 | h104
              ·
               refine vcIntro [false, false, false, false, false, false, false, false, false, false, false, false, false, true, false, false, true, true, true, true] (an (an h104 (an h103 (an h103 (an h102 (an h100 (an h91 (an h90 (an h86 (an h82 (an h80 (an h2 (an h89 (an h1 (an h0 (an h86 (an h82 (an h80 (an h2 (an h1 (an h0 tt)))))))))))))))))))) (show C = true by ((try dsimp only [B, C, D, A, E, F, G, I, J, M, N] at *);simp; done))) (by kernel_rfl)
              · exact ff (by ((try dsimp only [B, C, D, A, E, F, G, I, J, M, N] at *);first | (simp at *; omega) | (simp_all; done)))
             · exact ff (K6.skN_no h100 h102 h103)
            ·
             rcases Bool.eq_false_or_eq_true (K6.skCode D A l c != (0 : Int)) with h106 | h106
             ·
              rcases Bool.eq_false_or_eq_true G with h107 | h107
              ·
               refine vcIntro [false, false, false, false, false, false, false, false, false, false, false, false, false, true, false, false, false, true, true] (an (an h107 (an h106 (an h102 (an h100 (an h91 (an h90 (an h86 (an h82 (an h80 (an h2 (an h89 (an h1 (an h0 (an h86 (an h82 (an h80 (an h2 (an h1 (an h0 tt))))))))))))))))))) (show J = true by ((try dsimp only [B, C, D, A, E, F, G, I, J, M, N] at *);first | (simp at *; omega) | (simp_all; done)))) (by kernel_rfl)
              · exact ff (by ((try dsimp only [B, C, D, A, E, F, G, I, J, M, N] at *);simp at *; done))
             ·
              rcases Bool.eq_false_or_eq_true G with h108 | h108
              ·
               refine vcIntro [false, false, false, false, false, false, false, false, false, false, false, false, false, true, false, false, false, false, true] (an (an h108 (an h106 (an h102 (an h100 (an h91 (an h90 (an h86 (an h82 (an h80 (an h2 (an h89 (an h1 (an h0 (an h86 (an h82 (an h80 (an h2 (an h1 (an h0 tt))))))))))))))))))) (show J = true by ((try dsimp only [B, C, D, A, E, F, G, I, J, M, N] at *);first | (simp at *; omega) | (simp_all; done)))) (by kernel_rfl)
              · exact ff (by ((try dsimp only [B, C, D, A, E, F, G, I, J, M, N] at *);simp at *; done))
         ·
          rcases Bool.eq_false_or_eq_true (!K6.skMay A l c d y) with h109 | h109
          ·
           rcases Bool.eq_false_or_eq_true (K6.skCode D B k a == (0 : Int)) with h110 | h110
           ·
            refine vcIntro [false, false, false, false, false, false, false, false, false, false, false, false, false, false, true, true] (an (an h110 (an h109 (an h90 (an h86 (an h82 (an h80 (an h2 (an h89 (an h1 (an h0 (an h86 (an h82 (an h80 (an h2 (an h1 (an h0 tt)))))))))))))))) (show C = true by ((try dsimp only [B, C, D, A, E, F, G, I, J, M, N] at *);simp; done))) (by kernel_rfl)
           · exact ff (by ((try dsimp only [B, C, D, A, E, F, G, I, J, M, N] at *);first | (simp at *; omega) | (simp_all; done)))
          ·
           rcases Bool.eq_false_or_eq_true (!K6.skN D A l c d y == (-1 : Int)) with h111 | h111
           ·
            rcases Bool.eq_false_or_eq_true (decide (K6.skN D A l c d y ≥ (0 : Int))) with h112 | h112
            ·
             rcases Bool.eq_false_or_eq_true (K6.skCode D B k a == (0 : Int)) with h113 | h113
             ·
              refine vcIntro [false, false, false, false, false, false, false, false, false, false, false, false, false, false, false, true, true, true, true] (an (an h113 (an h112 (an h112 (an h111 (an h109 (an h90 (an h86 (an h82 (an h80 (an h2 (an h89 (an h1 (an h0 (an h86 (an h82 (an h80 (an h2 (an h1 (an h0 tt))))))))))))))))))) (show C = true by ((try dsimp only [B, C, D, A, E, F, G, I, J, M, N] at *);simp; done))) (by kernel_rfl)
             · exact ff (by ((try dsimp only [B, C, D, A, E, F, G, I, J, M, N] at *);first | (simp at *; omega) | (simp_all; done)))
            · exact ff (K6.skN_no h109 h111 h112)
           ·
            rcases Bool.eq_false_or_eq_true (K6.skCode D A l c != (0 : Int)) with h115 | h115
            ·
             rcases Bool.eq_false_or_eq_true G with h116 | h116
             ·
              refine vcIntro [false, false, false, false, false, false, false, false, false, false, false, false, false, false, false, false, true, true] (an (an h116 (an h115 (an h111 (an h109 (an h90 (an h86 (an h82 (an h80 (an h2 (an h89 (an h1 (an h0 (an h86 (an h82 (an h80 (an h2 (an h1 (an h0 tt)))))))))))))))))) (show J = true by ((try dsimp only [B, C, D, A, E, F, G, I, J, M, N] at *);first | (simp at *; omega) | (simp_all; done)))) (by kernel_rfl)
             · exact ff (by ((try dsimp only [B, C, D, A, E, F, G, I, J, M, N] at *);simp at *; done))
            ·
             rcases Bool.eq_false_or_eq_true G with h117 | h117
             ·
              refine vcIntro [false, false, false, false, false, false, false, false, false, false, false, false, false, false, false, false, false, true] (an (an h117 (an h115 (an h111 (an h109 (an h90 (an h86 (an h82 (an h80 (an h2 (an h89 (an h1 (an h0 (an h86 (an h82 (an h80 (an h2 (an h1 (an h0 tt)))))))))))))))))) (show J = true by ((try dsimp only [B, C, D, A, E, F, G, I, J, M, N] at *);first | (simp at *; omega) | (simp_all; done)))) (by kernel_rfl)
             · exact ff (by ((try dsimp only [B, C, D, A, E, F, G, I, J, M, N] at *);simp at *; done))
end Go.Ideal.Y1
