/- Put together of: K48 K49 K46n K46a K46b K46c. Own text; nothing here is trusted. -/
import Derived.Test.YtpmgdkldhimofaaKDf
namespace Go.Ideal.K6
section
open Go.Proofs Go.Ideal Go.Ideal.L1
set_option linter.unusedSimpArgs false
set_option linter.unusedVariables false
set_option maxRecDepth 100000
set_option maxHeartbeats 80000000
theorem cKE_0 (b : Nat → Bool) (z : Nat → Int) {R : Prop} (h : R) : ((b 0):Bool) = (b 0) ∧ (((b 1):Bool) = (b 1) ∧ (((b 2):Bool) = (b 2) ∧ (((b 3):Bool) = (b 3) ∧ (((b 4):Bool) = (b 4) ∧ (((b 5):Bool) = (b 5) ∧ (((b 6):Bool) = (b 6) ∧ (((b 7):Bool) = (b 7) ∧ (((b 8):Bool) = (b 8) ∧ (((b 9):Bool) = (b 9) ∧ (((b 10):Bool) = (b 10) ∧ (((b 11):Bool) = (b 11) ∧ (((b 12):Bool) = (b 12) ∧ (((b 13):Bool) = (b 13) ∧ (((b 14):Bool) = (b 14) ∧ (((b 15):Bool) = (b 15) ∧ (((z 0):Int) = (z 0) ∧ (((z 1):Int) = (z 1) ∧ (((z 2):Int) = (z 2) ∧ (((z 3):Int) = (z 3) ∧ (((z 4):Int) = (z 4) ∧ (((z 5):Int) = (z 5) ∧ (((z 6):Int) = (z 6) ∧ (((z 7):Int) = (z 7) ∧ (((z 8):Int) = (z 8) ∧ (((z 9):Int) = (z 9) ∧ (((z 10):Int) = (z 10) ∧ (((z 11):Int) = (z 11) ∧ (((z 12):Int) = (z 12) ∧ (((z 13):Int) = (z 13) ∧ (((z 14):Int) = (z 14) ∧ (((z 15):Int) = (z 15) ∧ (((z 16):Int) = (z 16) ∧ (((z 17):Int) = (z 17) ∧ (((z 18):Int) = (z 18) ∧ (((z 19):Int) = (z 19) ∧ (((z 20):Int) = (z 20) ∧ (((z 21):Int) = (z 21) ∧ (((z 22):Int) = (z 22) ∧ (((z 23):Int) = (z 23) ∧ (((z 24):Int) = (z 24) ∧ (((z 25):Int) = (z 25) ∧ (((z 26):Int) = (z 26) ∧ (((z 27):Int) = (z 27) ∧ (((z 28):Int) = (z 28) ∧ (((z 29):Int) = (z 29) ∧ (((z 30):Int) = (z 30) ∧ (R))))))))))))))))))))))))))))))))))))))))))))))) := ⟨rfl, ⟨rfl, ⟨rfl, ⟨rfl, ⟨rfl, ⟨rfl, ⟨rfl, ⟨rfl, ⟨rfl, ⟨rfl, ⟨rfl, ⟨rfl, ⟨rfl, ⟨rfl, ⟨rfl, ⟨rfl, ⟨rfl, ⟨rfl, ⟨rfl, ⟨rfl, ⟨rfl, ⟨rfl, ⟨rfl, ⟨rfl, ⟨rfl, ⟨rfl, ⟨rfl, ⟨rfl, ⟨rfl, ⟨rfl, ⟨rfl, ⟨rfl, ⟨rfl, ⟨rfl, ⟨rfl, ⟨rfl, ⟨rfl, ⟨rfl, ⟨rfl, ⟨rfl, ⟨rfl, ⟨rfl, ⟨rfl, ⟨rfl, ⟨rfl, ⟨rfl, ⟨rfl, h⟩⟩⟩⟩⟩⟩⟩⟩⟩⟩⟩⟩⟩⟩⟩⟩⟩⟩⟩⟩⟩⟩⟩⟩⟩⟩⟩⟩⟩⟩⟩⟩⟩⟩⟩⟩⟩⟩⟩⟩⟩⟩⟩⟩⟩⟩⟩
theorem cKE_1 (b : Nat → Bool) (z : Nat → Int) {R : Prop} (h : R) : ((b 0):Bool) = (b 0) ∧ (((b 1):Bool) = (b 1) ∧ (((b 2):Bool) = (b 2) ∧ (((b 3):Bool) = (b 3) ∧ (((b 4):Bool) = (b 4) ∧ (((b 5):Bool) = (b 5) ∧ (((b 6):Bool) = (b 6) ∧ (((b 7):Bool) = (b 7) ∧ (((b 8):Bool) = (b 8) ∧ (((b 9):Bool) = (b 9) ∧ (((b 10):Bool) = (b 10) ∧ (((b 11):Bool) = (b 11) ∧ (((b 12):Bool) = (b 12) ∧ (((b 13):Bool) = (b 13) ∧ (((b 14):Bool) = (b 14) ∧ (((b 15):Bool) = (b 15) ∧ (((z 0):Int) = (z 0) ∧ (((z 1):Int) = (z 1) ∧ (((z 2):Int) = (z 2) ∧ (((z 3):Int) = (z 3) ∧ (((z 4):Int) = (z 4) ∧ (((z 5):Int) = (z 5) ∧ (((z 6):Int) = (z 6) ∧ (((z 7):Int) = (z 7) ∧ (((z 8):Int) = (z 8) ∧ (((z 9):Int) = (z 9) ∧ (((z 10):Int) = (z 10) ∧ (((z 11):Int) = (z 11) ∧ (((z 12):Int) = (z 12) ∧ (((z 13):Int) = (z 13) ∧ (((z 14):Int) = (z 14) ∧ (((z 15):Int) = (z 15) ∧ (R)))))))))))))))))))))))))))))))) := ⟨rfl, ⟨rfl, ⟨rfl, ⟨rfl, ⟨rfl, ⟨rfl, ⟨rfl, ⟨rfl, ⟨rfl, ⟨rfl, ⟨rfl, ⟨rfl, ⟨rfl, ⟨rfl, ⟨rfl, ⟨rfl, ⟨rfl, ⟨rfl, ⟨rfl, ⟨rfl, ⟨rfl, ⟨rfl, ⟨rfl, ⟨rfl, ⟨rfl, ⟨rfl, ⟨rfl, ⟨rfl, ⟨rfl, ⟨rfl, ⟨rfl, ⟨rfl, h⟩⟩⟩⟩⟩⟩⟩⟩⟩⟩⟩⟩⟩⟩⟩⟩⟩⟩⟩⟩⟩⟩⟩⟩⟩⟩⟩⟩⟩⟩⟩⟩
variable (b : Nat → Bool) (z : Nat → Int) (A B x:Int)

theorem sn8 (hv : B1.allMay (zl z) = true) (ho : B1.opMayL [8, A, B, x] = true) (hn : ¬ skN (bl b) (zl z) 8 A B x = -1) :
    ∃ hh, vcOf (runCall Try.prog doS noL 6000 13 [.agg (viewOf (bl b) (zl z)), .agg [.int .i64 (.c 8), .int .i64 (.s A), .int .i64 (.s B), .int .i64 (.s x)]] H0 hh) (fun v H1 => retP 0 (lastBlk v) v H1 (needAsk (skN (bl b) (zl z) 8 A B x) (bl b) (zl z)) [] 0) := by
  have hz := zsOk_f z hv
  have oA : 0 ≤ A ∧ A < 5 ∧ 0 ≤ x ∧ x < 2 ∧ 0 ≤ B ∧ B < 5 := by have := ho; simp [B1.opMayL, B1.opMay] at this; omega
  obtain ⟨p1, p2, p3, p4, p5⟩ := bfG_ok (bl b) (zl z) A 1 (by omega) 6 (-1) (by omega) (by omega) (by omega)
  have p3 := p3 (by omega)
  obtain ⟨q1, q2, q3, q4, q5⟩ := bfG_ok (bl b) (zl z) A 0 (by omega) 6 (bfG (bl b) (zl z) A 1 6 (-1)).2 p1 p2 (by have := p1; show 5 - (bfG (bl b) (zl z) A 1 6 (-1)).2 ≤ ((6:Nat):Int); omega)
  have q3 := q3 p3
  have y1 := hz (bfG (bl b) (zl z) A 1 6 (-1)).2 1 ⟨p1, p2, by omega, by omega⟩
  have y2 := hz (bfG (bl b) (zl z) A 0 6 (bfG (bl b) (zl z) A 1 6 (-1)).2).2 0 ⟨q1, q2, by omega, by omega⟩
  have y9 := hz (-1) 0 ⟨by omega, by omega, by omega, by omega⟩
  have y3 := del_f z A (bfG (bl b) (zl z) A 0 6 (bfG (bl b) (zl z) A 1 6 (-1)).2).2 (bfG (bl b) (zl z) A 1 6 (-1)).2 y1 ⟨p1, p2⟩
  simp only [skN, skF, skHi, skLo, skAt] at hn
  simp at hn

  let bL : List Bool := (bl b)
  let zL : List Int := (zl z)
  rcases eb (!B1.allMay zL) with h0 | h0
  · exact ff (by (try dsimp only [bL, zL] at *); clear y1 y2 y3 y9 p5 q5 hz; simp only [hv, ho] at *; simp at *)
  ·
   rcases eb (!B1.opMayL [(8:Int), A, B, x]) with h1 | h1
   · exact ff (by (try dsimp only [bL, zL] at *); clear y1 y2 y3 y9 p5 q5 hz; simp only [hv, ho] at *; simp at *)
   ·
    rcases eb (decide ((bfG bL zL A 1 6 (-1)).fst = (-1:Int))) with h2 | h2
    ·
     rcases eb (decide ((bfG bL zL A 0 6 (bfG bL zL A 1 6 (-1)).snd).fst = (-1:Int))) with h3 | h3
     · exact ff (by (try dsimp only [bL, zL] at *); clear y1 y2 y3 y9 p5 q5 hz hv; simp at *; omega)
     ·
      rcases eb ((-1:Int) == A) with h4 | h4
      · exact ff (by (try dsimp only [bL, zL] at *); clear y1 y2 y3 y9 p5 q5 hz hv; simp at *; omega)
      ·
       refine vcIntro (hx2 5 4) (an (an h4 (an (an (show (-1:Int) ≤ (bfG bL zL A 0 6 (bfG bL zL A 1 6 (-1)).snd).snd by (try dsimp only [bL, zL] at *); omega) (an (show (bfG bL zL A 0 6 (bfG bL zL A 1 6 (-1)).snd).snd + (1:Int) ≤ (5:Int) by (try dsimp only [bL, zL] at *); omega) (an (show (0:Int) ≤ (0:Int) by (try dsimp only [bL, zL] at *); omega) (show (1:Int) ≤ (2:Int) by (try dsimp only [bL, zL] at *); omega)))) (an (an (show (-1:Int) ≤ (bfG bL zL A 1 6 (-1)).snd by (try dsimp only [bL, zL] at *); omega) (an (show (bfG bL zL A 1 6 (-1)).snd + (1:Int) ≤ (5:Int) by (try dsimp only [bL, zL] at *); omega) (an (show (0:Int) ≤ (0:Int) by (try dsimp only [bL, zL] at *); omega) (show (1:Int) ≤ (2:Int) by (try dsimp only [bL, zL] at *); omega)))) (an (show ∀ (key lv:Int), lkOk key lv → nwOk zL (lk key lv) by exact hz) (an h3 (an (an (show (-1:Int) ≤ (-1:Int) by (try dsimp only [bL, zL] at *); omega) (an (show (0:Int) ≤ (5:Int) by (try dsimp only [bL, zL] at *); omega) (an (show (0:Int) ≤ (1:Int) by (try dsimp only [bL, zL] at *); omega) (show (2:Int) ≤ (2:Int) by (try dsimp only [bL, zL] at *); omega)))) (an (show ∀ (key lv:Int), lkOk key lv → nwOk zL (lk key lv) by exact hz) (u3 h2 h1 h0)))))))) (an (an (an (show skN bL zL 8 A B x = (bfG bL zL A 0 6 (bfG bL zL A 1 6 (-1)).snd).fst by (try dsimp only [bL, zL] at *); clear y1 y2 y3 y9 p5 q5 hz hv; simp at *; simp_all [skN, skF, skHi, skLo, skAt, skCode, skNum]) (cKE_0 b z (an (ri (z 31)) tt))) tt) tt)) ?_
       kernel_rfl
    ·
     rcases eb ((-1:Int) == A) with h5 | h5
     · exact ff (by (try dsimp only [bL, zL] at *); clear y1 y2 y3 y9 p5 q5 hz hv; simp at *; omega)
     ·
      refine vcIntro (hx2 4 0) (an (an h5 (an (an (show (-1:Int) ≤ (bfG bL zL A 1 6 (-1)).snd by (try dsimp only [bL, zL] at *); omega) (an (show (bfG bL zL A 1 6 (-1)).snd + (1:Int) ≤ (5:Int) by (try dsimp only [bL, zL] at *); omega) (an (show (0:Int) ≤ (0:Int) by (try dsimp only [bL, zL] at *); omega) (show (1:Int) ≤ (2:Int) by (try dsimp only [bL, zL] at *); omega)))) (an (an (show (-1:Int) ≤ (bfG bL zL A 1 6 (-1)).snd by (try dsimp only [bL, zL] at *); omega) (an (show (bfG bL zL A 1 6 (-1)).snd + (1:Int) ≤ (5:Int) by (try dsimp only [bL, zL] at *); omega) (an (show (0:Int) ≤ (0:Int) by (try dsimp only [bL, zL] at *); omega) (show (1:Int) ≤ (2:Int) by (try dsimp only [bL, zL] at *); omega)))) (an (an (show (-1:Int) ≤ (-1:Int) by (try dsimp only [bL, zL] at *); omega) (an (show (0:Int) ≤ (5:Int) by (try dsimp only [bL, zL] at *); omega) (an (show (0:Int) ≤ (1:Int) by (try dsimp only [bL, zL] at *); omega) (show (2:Int) ≤ (2:Int) by (try dsimp only [bL, zL] at *); omega)))) (an (show ∀ (key lv:Int), lkOk key lv → nwOk zL (lk key lv) by exact hz) (u3 h2 h1 h0)))))) (an (an (an (show skN bL zL 8 A B x = (bfG bL zL A 1 6 (-1)).fst by (try dsimp only [bL, zL] at *); clear y1 y2 y3 y9 p5 q5 hz hv; simp at *; simp_all [skN, skF, skHi, skLo, skAt, skCode, skNum]) (cKE_0 b z (an (ri (z 31)) tt))) tt) tt)) ?_
      kernel_rfl
theorem sd8 (hv : B1.allMay (zl z) = true) (ho : B1.opMayL [8, A, B, x] = true) (hn : skN (bl b) (zl z) 8 A B x = -1) :
    ∃ hh, vcOf (runCall Try.prog doS noL 6000 13 [.agg (viewOf (bl b) (zl z)), .agg [.int .i64 (.c 8), .int .i64 (.s A), .int .i64 (.s B), .int .i64 (.s x)]] H0 hh) (fun v H1 => retP 0 (lastBlk v) v H1 (doneAsk (bl b) (zl z)) (ansB (0) (if nxV (bfG (bl b) (zl z) A 0 6 (bfG (bl b) (zl z) A 1 6 (-1)).2).2 (nw (zl z) (lk (bfG (bl b) (zl z) A 0 6 (bfG (bl b) (zl z) A 1 6 (-1)).2).2 0)) = A then 1 else 0)) 1) := by
  have hz := zsOk_f z hv
  have oA : 0 ≤ A ∧ A < 5 ∧ 0 ≤ x ∧ x < 2 ∧ 0 ≤ B ∧ B < 5 := by have := ho; simp [B1.opMayL, B1.opMay] at this; omega
  obtain ⟨p1, p2, p3, p4, p5⟩ := bfG_ok (bl b) (zl z) A 1 (by omega) 6 (-1) (by omega) (by omega) (by omega)
  have p3 := p3 (by omega)
  obtain ⟨q1, q2, q3, q4, q5⟩ := bfG_ok (bl b) (zl z) A 0 (by omega) 6 (bfG (bl b) (zl z) A 1 6 (-1)).2 p1 p2 (by have := p1; show 5 - (bfG (bl b) (zl z) A 1 6 (-1)).2 ≤ ((6:Nat):Int); omega)
  have q3 := q3 p3
  have y1 := hz (bfG (bl b) (zl z) A 1 6 (-1)).2 1 ⟨p1, p2, by omega, by omega⟩
  have y2 := hz (bfG (bl b) (zl z) A 0 6 (bfG (bl b) (zl z) A 1 6 (-1)).2).2 0 ⟨q1, q2, by omega, by omega⟩
  have y9 := hz (-1) 0 ⟨by omega, by omega, by omega, by omega⟩
  have y3 := del_f z A (bfG (bl b) (zl z) A 0 6 (bfG (bl b) (zl z) A 1 6 (-1)).2).2 (bfG (bl b) (zl z) A 1 6 (-1)).2 y1 ⟨p1, p2⟩
  simp only [skN, skF, skHi, skLo, skAt] at hn
  simp at hn

  let bL : List Bool := (bl b)
  let zL : List Int := (zl z)
  rcases eb (!B1.allMay zL) with h0 | h0
  · exact ff (by (try dsimp only [bL, zL] at *); clear y1 y2 y3 y9 p5 q5 hz; simp only [hv, ho] at *; simp at *)
  ·
   rcases eb (!B1.opMayL [(8:Int), A, B, x]) with h1 | h1
   · exact ff (by (try dsimp only [bL, zL] at *); clear y1 y2 y3 y9 p5 q5 hz; simp only [hv, ho] at *; simp at *)
   ·
    rcases eb (decide ((bfG bL zL A 1 6 (-1)).fst = (-1:Int))) with h2 | h2
    ·
     rcases eb (decide ((bfG bL zL A 0 6 (bfG bL zL A 1 6 (-1)).snd).fst = (-1:Int))) with h3 | h3
     ·
      rcases eb (kn bL (lk (bfG bL zL A 0 6 (bfG bL zL A 1 6 (-1)).snd).snd (0:Int))) with h4 | h4
      ·
       rcases eb (nxV (bfG bL zL A 0 6 (bfG bL zL A 1 6 (-1)).snd).snd (nw zL (lk (bfG bL zL A 0 6 (bfG bL zL A 1 6 (-1)).snd).snd (0:Int))) == A) with h5 | h5
       ·
        refine vcIntro (hx2 6 60) (an (an h5 (an (an (show (-1:Int) ≤ (bfG bL zL A 0 6 (bfG bL zL A 1 6 (-1)).snd).snd by (try dsimp only [bL, zL] at *); omega) (an (show (bfG bL zL A 0 6 (bfG bL zL A 1 6 (-1)).snd).snd + (1:Int) ≤ (5:Int) by (try dsimp only [bL, zL] at *); omega) (an (show (0:Int) ≤ (0:Int) by (try dsimp only [bL, zL] at *); omega) (show (1:Int) ≤ (2:Int) by (try dsimp only [bL, zL] at *); omega)))) (an (an (show (0:Int) ≤ nw zL (lk (bfG bL zL A 0 6 (bfG bL zL A 1 6 (-1)).snd).snd (0:Int)) by (try dsimp only [bL, zL] at *); unfold nwOk at *; omega) (show nw zL (lk (bfG bL zL A 0 6 (bfG bL zL A 1 6 (-1)).snd).snd (0:Int)) + (1:Int) ≤ (1099511627776:Int) by (try dsimp only [bL, zL] at *); unfold nwOk at *; omega)) (an h4 (an (an (show (-1:Int) ≤ (bfG bL zL A 1 6 (-1)).snd by (try dsimp only [bL, zL] at *); omega) (an (show (bfG bL zL A 1 6 (-1)).snd + (1:Int) ≤ (5:Int) by (try dsimp only [bL, zL] at *); omega) (an (show (0:Int) ≤ (0:Int) by (try dsimp only [bL, zL] at *); omega) (show (1:Int) ≤ (2:Int) by (try dsimp only [bL, zL] at *); omega)))) (an (show ∀ (key lv:Int), lkOk key lv → nwOk zL (lk key lv) by exact hz) (an h3 (an (an (show (-1:Int) ≤ (-1:Int) by (try dsimp only [bL, zL] at *); omega) (an (show (0:Int) ≤ (5:Int) by (try dsimp only [bL, zL] at *); omega) (an (show (0:Int) ≤ (1:Int) by (try dsimp only [bL, zL] at *); omega) (show (2:Int) ≤ (2:Int) by (try dsimp only [bL, zL] at *); omega)))) (an (show ∀ (key lv:Int), lkOk key lv → nwOk zL (lk key lv) by exact hz) (u3 h2 h1 h0)))))))))) (an (an (an tt (cKE_0 b z (an (ri (z 31)) (an tt (an tt tt))))) tt) (an (zo (an (ri ((0:Int))) (show (if nxV (bfG bL zL A 0 6 (bfG bL zL A 1 6 (-1)).snd).snd (nw zL (lk (bfG bL zL A 0 6 (bfG bL zL A 1 6 (-1)).snd).snd (0:Int))) = A then (1:Int) else (0:Int)) = (1:Int) by (try dsimp only [bL, zL] at *); clear y1 y2 y3 y9 p5 q5 hz hv; simp at *; simp_all [skN, skF, skHi, skLo, skAt, skCode, skNum]))) tt))) ?_
        kernel_rfl
       ·
        refine vcIntro (hx2 6 28) (an (an h5 (an (an (show (-1:Int) ≤ (bfG bL zL A 0 6 (bfG bL zL A 1 6 (-1)).snd).snd by (try dsimp only [bL, zL] at *); omega) (an (show (bfG bL zL A 0 6 (bfG bL zL A 1 6 (-1)).snd).snd + (1:Int) ≤ (5:Int) by (try dsimp only [bL, zL] at *); omega) (an (show (0:Int) ≤ (0:Int) by (try dsimp only [bL, zL] at *); omega) (show (1:Int) ≤ (2:Int) by (try dsimp only [bL, zL] at *); omega)))) (an (an (show (0:Int) ≤ nw zL (lk (bfG bL zL A 0 6 (bfG bL zL A 1 6 (-1)).snd).snd (0:Int)) by (try dsimp only [bL, zL] at *); unfold nwOk at *; omega) (show nw zL (lk (bfG bL zL A 0 6 (bfG bL zL A 1 6 (-1)).snd).snd (0:Int)) + (1:Int) ≤ (1099511627776:Int) by (try dsimp only [bL, zL] at *); unfold nwOk at *; omega)) (an h4 (an (an (show (-1:Int) ≤ (bfG bL zL A 1 6 (-1)).snd by (try dsimp only [bL, zL] at *); omega) (an (show (bfG bL zL A 1 6 (-1)).snd + (1:Int) ≤ (5:Int) by (try dsimp only [bL, zL] at *); omega) (an (show (0:Int) ≤ (0:Int) by (try dsimp only [bL, zL] at *); omega) (show (1:Int) ≤ (2:Int) by (try dsimp only [bL, zL] at *); omega)))) (an (show ∀ (key lv:Int), lkOk key lv → nwOk zL (lk key lv) by exact hz) (an h3 (an (an (show (-1:Int) ≤ (-1:Int) by (try dsimp only [bL, zL] at *); omega) (an (show (0:Int) ≤ (5:Int) by (try dsimp only [bL, zL] at *); omega) (an (show (0:Int) ≤ (1:Int) by (try dsimp only [bL, zL] at *); omega) (show (2:Int) ≤ (2:Int) by (try dsimp only [bL, zL] at *); omega)))) (an (show ∀ (key lv:Int), lkOk key lv → nwOk zL (lk key lv) by exact hz) (u3 h2 h1 h0)))))))))) (an (an (an tt (cKE_0 b z (an (ri (z 31)) (an tt (an tt tt))))) tt) (an (zo (an (ri ((0:Int))) (show (if nxV (bfG bL zL A 0 6 (bfG bL zL A 1 6 (-1)).snd).snd (nw zL (lk (bfG bL zL A 0 6 (bfG bL zL A 1 6 (-1)).snd).snd (0:Int))) = A then (1:Int) else (0:Int)) = (0:Int) by (try dsimp only [bL, zL] at *); clear y1 y2 y3 y9 p5 q5 hz hv; simp at *; simp_all [skN, skF, skHi, skLo, skAt, skCode, skNum]))) tt))) ?_
        kernel_rfl
      · exact ff (by ((try dsimp only [bL, zL] at *); clear y1 y2 y3 y9 p5 q5 hz hv; simp at * <;> simp_all <;> done))
     · exact ff (by (try dsimp only [bL, zL] at *); clear y1 y2 y3 y9 p5 q5 hz hv; simp at *; omega)
    · exact ff (by (try dsimp only [bL, zL] at *); clear y1 y2 y3 y9 p5 q5 hz hv; simp at *; omega)
end
end Go.Ideal.K6

namespace Go.Ideal.K6
section
open Go.Proofs Go.Ideal Go.Ideal.L1
set_option linter.unusedSimpArgs false
set_option linter.unusedVariables false
set_option maxRecDepth 100000
set_option maxHeartbeats 80000000
variable (b : Nat → Bool) (z : Nat → Int) (A B x:Int)

theorem sn9 (hv : B1.allMay (zl z) = true) (ho : B1.opMayL [9, A, B, x] = true) (hb : (b 4) = false) :
    ∃ hh, vcOf (runCall Try.prog doS noL 6000 13 [.agg (viewOf (bl b) (zl z)), .agg [.int .i64 (.c 9), .int .i64 (.s A), .int .i64 (.s B), .int .i64 (.s x)]] H0 hh) (fun v H1 => retP 0 (lastBlk v) v H1 (needAsk 4 (bl b) (zl z)) [] 0) := by
  have hz := zsOk_f z hv
  have oA : 0 ≤ A ∧ A < 5 ∧ 0 ≤ x ∧ x < 2 ∧ 0 ≤ B ∧ B < 5 := by have := ho; simp [B1.opMayL, B1.opMay] at this; omega
  obtain ⟨p1, p2, p3, p4, p5⟩ := bfG_ok (bl b) (zl z) A 1 (by omega) 6 (-1) (by omega) (by omega) (by omega)
  have p3 := p3 (by omega)
  obtain ⟨q1, q2, q3, q4, q5⟩ := bfG_ok (bl b) (zl z) A 0 (by omega) 6 (bfG (bl b) (zl z) A 1 6 (-1)).2 p1 p2 (by have := p1; show 5 - (bfG (bl b) (zl z) A 1 6 (-1)).2 ≤ ((6:Nat):Int); omega)
  have q3 := q3 p3
  have y1 := hz (bfG (bl b) (zl z) A 1 6 (-1)).2 1 ⟨p1, p2, by omega, by omega⟩
  have y2 := hz (bfG (bl b) (zl z) A 0 6 (bfG (bl b) (zl z) A 1 6 (-1)).2).2 0 ⟨q1, q2, by omega, by omega⟩
  have y9 := hz (-1) 0 ⟨by omega, by omega, by omega, by omega⟩
  have y3 := del_f z A (bfG (bl b) (zl z) A 0 6 (bfG (bl b) (zl z) A 1 6 (-1)).2).2 (bfG (bl b) (zl z) A 1 6 (-1)).2 y1 ⟨p1, p2⟩

  rcases eb (!B1.allMay (zl z)) with h0 | h0
  · exact ff (by clear y1 y2 y3 y9 p5 q5 hz; simp only [hv, ho] at *; simp at *)
  ·
   rcases eb (!B1.opMayL [(9:Int), A, B, x]) with h1 | h1
   · exact ff (by clear y1 y2 y3 y9 p5 q5 hz; simp only [hv, ho] at *; simp at *)
   ·
    rcases eb (kn (bl b) 4) with h2 | h2
    · exact ff (by exact absurd (hb.symm.trans (by assumption)) (by decide))
    ·
     have h3 : ((-1:Int) != (-1:Int)) = false := by decide +kernel
     refine vcIntro (hx2 4 0) (an (an h3 (an (an (show (-1:Int) ≤ (-1:Int) by omega) (an (show (0:Int) ≤ (5:Int) by omega) (an (show (0:Int) ≤ (0:Int) by omega) (show (1:Int) ≤ (2:Int) by omega)))) (u3 h2 h1 h0))) (an (an (an (ri ((4:Int))) (an (rb (b 0)) (an (rb (b 1)) (an (rb (b 2)) (an (rb (b 3)) (an (rb (b 4)) (an (rb (b 5)) (an (rb (b 6)) (an (rb (b 7)) (an (rb (b 8)) (an (rb (b 9)) (an (rb (b 10)) (an (rb (b 11)) (an (rb (b 12)) (an (rb (b 13)) (an (rb (b 14)) (an (rb (b 15)) (an (ri (z 0)) (an (ri (z 1)) (an (ri (z 2)) (an (ri (z 3)) (an (ri (z 4)) (an (ri (z 5)) (an (ri (z 6)) (an (ri (z 7)) (an (ri (z 8)) (an (ri (z 9)) (an (ri (z 10)) (an (ri (z 11)) (an (ri (z 12)) (an (ri (z 13)) (an (ri (z 14)) (an (ri (z 15)) (an (ri (z 16)) (an (ri (z 17)) (an (ri (z 18)) (an (ri (z 19)) (an (ri (z 20)) (an (ri (z 21)) (an (ri (z 22)) (an (ri (z 23)) (an (ri (z 24)) (an (ri (z 25)) (an (ri (z 26)) (an (ri (z 27)) (an (ri (z 28)) (an (ri (z 29)) (an (ri (z 30)) (an (ri (z 31)) tt))))))))))))))))))))))))))))))))))))))))))))))))) tt) tt)) ?_
     kernel_rfl
theorem sd9 (hv : B1.allMay (zl z) = true) (ho : B1.opMayL [9, A, B, x] = true) (hb : (b 4) = true) :
    ∃ hh, vcOf (runCall Try.prog doS noL 6000 13 [.agg (viewOf (bl b) (zl z)), .agg [.int .i64 (.c 9), .int .i64 (.s A), .int .i64 (.s B), .int .i64 (.s x)]] H0 hh) (fun v H1 => retP 0 (lastBlk v) v H1 (doneAsk (bl b) (zl z)) (ansB (if nxV (-1) (nw (zl z) 4) = -1 then 2 else 0) (if nxV (-1) (nw (zl z) 4) = -1 then 0 else nxV (-1) (nw (zl z) 4))) 1) := by
  have hz := zsOk_f z hv
  have oA : 0 ≤ A ∧ A < 5 ∧ 0 ≤ x ∧ x < 2 ∧ 0 ≤ B ∧ B < 5 := by have := ho; simp [B1.opMayL, B1.opMay] at this; omega
  obtain ⟨p1, p2, p3, p4, p5⟩ := bfG_ok (bl b) (zl z) A 1 (by omega) 6 (-1) (by omega) (by omega) (by omega)
  have p3 := p3 (by omega)
  obtain ⟨q1, q2, q3, q4, q5⟩ := bfG_ok (bl b) (zl z) A 0 (by omega) 6 (bfG (bl b) (zl z) A 1 6 (-1)).2 p1 p2 (by have := p1; show 5 - (bfG (bl b) (zl z) A 1 6 (-1)).2 ≤ ((6:Nat):Int); omega)
  have q3 := q3 p3
  have y1 := hz (bfG (bl b) (zl z) A 1 6 (-1)).2 1 ⟨p1, p2, by omega, by omega⟩
  have y2 := hz (bfG (bl b) (zl z) A 0 6 (bfG (bl b) (zl z) A 1 6 (-1)).2).2 0 ⟨q1, q2, by omega, by omega⟩
  have y9 := hz (-1) 0 ⟨by omega, by omega, by omega, by omega⟩
  have y3 := del_f z A (bfG (bl b) (zl z) A 0 6 (bfG (bl b) (zl z) A 1 6 (-1)).2).2 (bfG (bl b) (zl z) A 1 6 (-1)).2 y1 ⟨p1, p2⟩

  let bL : List Bool := (bl b)
  let zL : List Int := (zl z)
  rcases eb (!B1.allMay zL) with h0 | h0
  · exact ff (by (try dsimp only [bL, zL] at *); clear y1 y2 y3 y9 p5 q5 hz; simp only [hv, ho] at *; simp at *)
  ·
   rcases eb (!B1.opMayL [(9:Int), A, B, x]) with h1 | h1
   · exact ff (by (try dsimp only [bL, zL] at *); clear y1 y2 y3 y9 p5 q5 hz; simp only [hv, ho] at *; simp at *)
   ·
    rcases eb (kn bL 4) with h2 | h2
    ·
     rcases eb (nxV (-1) (nw zL 4) != (-1:Int)) with h3 | h3
     ·
      refine vcIntro (hx2 4 12) (an (an h3 (an (an (show (-1:Int) ≤ (-1:Int) by (try dsimp only [bL, zL] at *); omega) (an (show (0:Int) ≤ (5:Int) by (try dsimp only [bL, zL] at *); omega) (an (show (0:Int) ≤ (0:Int) by (try dsimp only [bL, zL] at *); omega) (show (1:Int) ≤ (2:Int) by (try dsimp only [bL, zL] at *); omega)))) (an (an (show (0:Int) ≤ nw zL 4 by exact y9.1) (show nw zL 4 + (1:Int) ≤ (1099511627776:Int) by exact y9.2)) (u3 h2 h1 h0)))) (an (an (an tt (cKE_0 b z (an (ri (z 31)) (an tt (an tt tt))))) tt) (an (zo (an (show (if nxV (-1) (nw zL 4) = (-1:Int) then (2:Int) else (0:Int)) = (0:Int) by (try dsimp only [bL, zL] at *); clear y1 y2 y3 y9 p5 q5 hz hv; simp at *; simp_all [skN, skF, skHi, skLo, skAt, skCode, skNum]) (show (if nxV (-1) (nw zL 4) = (-1:Int) then (0:Int) else nxV (-1) (nw zL 4)) = nxV (-1) (nw zL 4) by (try dsimp only [bL, zL] at *); clear y1 y2 y3 y9 p5 q5 hz hv; simp at *; simp_all [skN, skF, skHi, skLo, skAt, skCode, skNum]))) tt))) ?_
      kernel_rfl
     ·
      refine vcIntro (hx2 4 4) (an (an h3 (an (an (show (-1:Int) ≤ (-1:Int) by (try dsimp only [bL, zL] at *); omega) (an (show (0:Int) ≤ (5:Int) by (try dsimp only [bL, zL] at *); omega) (an (show (0:Int) ≤ (0:Int) by (try dsimp only [bL, zL] at *); omega) (show (1:Int) ≤ (2:Int) by (try dsimp only [bL, zL] at *); omega)))) (an (an (show (0:Int) ≤ nw zL 4 by exact y9.1) (show nw zL 4 + (1:Int) ≤ (1099511627776:Int) by exact y9.2)) (u3 h2 h1 h0)))) (an (an (an tt (cKE_0 b z (an (ri (z 31)) (an tt (an tt tt))))) tt) (an (zo (an (show (if nxV (-1) (nw zL 4) = (-1:Int) then (2:Int) else (0:Int)) = (2:Int) by (try dsimp only [bL, zL] at *); clear y1 y2 y3 y9 p5 q5 hz hv; simp at *; simp_all [skN, skF, skHi, skLo, skAt, skCode, skNum]) (show (if nxV (-1) (nw zL 4) = (-1:Int) then (0:Int) else nxV (-1) (nw zL 4)) = (0:Int) by (try dsimp only [bL, zL] at *); clear y1 y2 y3 y9 p5 q5 hz hv; simp at *; simp_all [skN, skF, skHi, skLo, skAt, skCode, skNum]))) tt))) ?_
      kernel_rfl
    · exact ff (by exact absurd (hb.symm.trans (by assumption)) (by decide))
end
end Go.Ideal.K6

namespace Go.Ideal.K6
section
open Go.Proofs Go.Ideal Go.Ideal.L1
set_option linter.unusedSimpArgs false
set_option linter.unusedVariables false
set_option maxRecDepth 100000
set_option maxHeartbeats 80000000
variable (b : Nat → Bool) (z : Nat → Int) (A B x:Int)

theorem sn6 (hv : B1.allMay (zl z) = true) (ho : B1.opMayL [6, A, B, x] = true) (hn : ¬ skN (bl b) (zl z) 6 A B x = -1) :
    ∃ hh, vcOf (runCall Try.prog doS noL 6000 13 [.agg (viewOf (bl b) (zl z)), .agg [.int .i64 (.c 6), .int .i64 (.s A), .int .i64 (.s B), .int .i64 (.s x)]] H0 hh) (fun v H1 => retP 0 (lastBlk v) v H1 (needAsk (skN (bl b) (zl z) 6 A B x) (bl b) (zl z)) [] 0) := by
  have hz := zsOk_f z hv
  have oA : 0 ≤ A ∧ A < 5 ∧ 0 ≤ x ∧ x < 2 ∧ 0 ≤ B ∧ B < 5 := by have := ho; simp [B1.opMayL, B1.opMay] at this; omega
  obtain ⟨p1, p2, p3, p4, p5⟩ := bfG_ok (bl b) (zl z) A 1 (by omega) 6 (-1) (by omega) (by omega) (by omega)
  have p3 := p3 (by omega)
  obtain ⟨q1, q2, q3, q4, q5⟩ := bfG_ok (bl b) (zl z) A 0 (by omega) 6 (bfG (bl b) (zl z) A 1 6 (-1)).2 p1 p2 (by have := p1; show 5 - (bfG (bl b) (zl z) A 1 6 (-1)).2 ≤ ((6:Nat):Int); omega)
  have q3 := q3 p3
  have y1 := hz (bfG (bl b) (zl z) A 1 6 (-1)).2 1 ⟨p1, p2, by omega, by omega⟩
  have y2 := hz (bfG (bl b) (zl z) A 0 6 (bfG (bl b) (zl z) A 1 6 (-1)).2).2 0 ⟨q1, q2, by omega, by omega⟩
  have y9 := hz (-1) 0 ⟨by omega, by omega, by omega, by omega⟩
  have y3 := del_f z A (bfG (bl b) (zl z) A 0 6 (bfG (bl b) (zl z) A 1 6 (-1)).2).2 (bfG (bl b) (zl z) A 1 6 (-1)).2 y1 ⟨p1, p2⟩
  simp only [skN, skF, skHi, skLo, skAt] at hn
  simp at hn

  let bL : List Bool := (bl b)
  let zL : List Int := (zl z)
  let q1_ := (bfG bL zL A 0 6 (bfG bL zL A 1 6 (-1)).snd)
  rcases eb (!B1.allMay zL) with h0 | h0
  · exact ff (by (try dsimp only [q1_, bL, zL] at *); clear y1 y2 y3 y9 p5 q5 hz; simp only [hv, ho] at *; simp at *)
  ·
   rcases eb (!B1.opMayL [(6:Int), A, B, x]) with h1 | h1
   · exact ff (by (try dsimp only [q1_, bL, zL] at *); clear y1 y2 y3 y9 p5 q5 hz; simp only [hv, ho] at *; simp at *)
   ·
    rcases eb (decide ((bfG bL zL A 1 6 (-1)).fst = (-1:Int))) with h2 | h2
    ·
     rcases eb (decide (q1_.fst = (-1:Int))) with h3 | h3
     ·
      rcases eb (kn bL (lk q1_.snd 0)) with h4 | h4
      ·
       rcases eb (nxV q1_.snd (nw zL (lk q1_.snd 0)) == A) with h5 | h5
       · exact ff (by ((try dsimp only [q1_, bL, zL] at *); clear y1 y2 y3 y9 p5 q5 hz hv; first | (simp at *; omega) | (simp_all; done)))
       ·
        rcases eb (kn bL (lk A 0)) with h6 | h6
        ·
         rcases eb (x == (1:Int)) with h7 | h7
         ·
          rcases eb (kn bL (lk A 1)) with h8 | h8
          · exact ff (by ((try dsimp only [q1_, bL, zL] at *); clear y1 y2 y3 y9 p5 q5 hz hv; simp at * <;> simp_all <;> done))
          ·
           refine vcIntro (hx2 10 476) (an (an (an (show (-1:Int) ≤ A by (try dsimp only [q1_, bL, zL] at *); omega) (an (show A + (1:Int) ≤ (5:Int) by (try dsimp only [q1_, bL, zL] at *); omega) (an (show (0:Int) ≤ (1:Int) by (try dsimp only [q1_, bL, zL] at *); omega) (show (2:Int) ≤ (2:Int) by (try dsimp only [q1_, bL, zL] at *); omega)))) (an h8 (an h7 (an (an (show (-1:Int) ≤ q1_.snd by (try dsimp only [q1_, bL, zL] at *); omega) (an (show q1_.snd + (1:Int) ≤ (5:Int) by (try dsimp only [q1_, bL, zL] at *); omega) (an (show (0:Int) ≤ (0:Int) by (try dsimp only [q1_, bL, zL] at *); omega) (show (1:Int) ≤ (2:Int) by (try dsimp only [q1_, bL, zL] at *); omega)))) (an (an (show (-1:Int) ≤ A by (try dsimp only [q1_, bL, zL] at *); omega) (an (show A + (1:Int) ≤ (5:Int) by (try dsimp only [q1_, bL, zL] at *); omega) (an (show (0:Int) ≤ (0:Int) by (try dsimp only [q1_, bL, zL] at *); omega) (show (1:Int) ≤ (2:Int) by (try dsimp only [q1_, bL, zL] at *); omega)))) (an (an (show (-1:Int) ≤ q1_.snd by (try dsimp only [q1_, bL, zL] at *); omega) (an (show q1_.snd + (1:Int) ≤ (5:Int) by (try dsimp only [q1_, bL, zL] at *); omega) (an (show (0:Int) ≤ (0:Int) by (try dsimp only [q1_, bL, zL] at *); omega) (show (1:Int) ≤ (2:Int) by (try dsimp only [q1_, bL, zL] at *); omega)))) (an h4 (an (an (show (-1:Int) ≤ A by (try dsimp only [q1_, bL, zL] at *); omega) (an (show A + (1:Int) ≤ (5:Int) by (try dsimp only [q1_, bL, zL] at *); omega) (an (show (0:Int) ≤ (0:Int) by (try dsimp only [q1_, bL, zL] at *); omega) (show (1:Int) ≤ (2:Int) by (try dsimp only [q1_, bL, zL] at *); omega)))) (an h6 (an h5 (an (an (show (-1:Int) ≤ q1_.snd by (try dsimp only [q1_, bL, zL] at *); omega) (an (show q1_.snd + (1:Int) ≤ (5:Int) by (try dsimp only [q1_, bL, zL] at *); omega) (an (show (0:Int) ≤ (0:Int) by (try dsimp only [q1_, bL, zL] at *); omega) (show (1:Int) ≤ (2:Int) by (try dsimp only [q1_, bL, zL] at *); omega)))) (an (an (show (0:Int) ≤ nw zL (lk q1_.snd 0) by (try dsimp only [q1_, bL, zL] at *); unfold nwOk at *; omega) (show nw zL (lk q1_.snd 0) + (1:Int) ≤ (1099511627776:Int) by (try dsimp only [q1_, bL, zL] at *); unfold nwOk at *; omega)) (an h4 (an (an (show (-1:Int) ≤ (bfG bL zL A 1 6 (-1)).snd by (try dsimp only [q1_, bL, zL] at *); omega) (an (show (bfG bL zL A 1 6 (-1)).snd + (1:Int) ≤ (5:Int) by (try dsimp only [q1_, bL, zL] at *); omega) (an (show (0:Int) ≤ (0:Int) by (try dsimp only [q1_, bL, zL] at *); omega) (show (1:Int) ≤ (2:Int) by (try dsimp only [q1_, bL, zL] at *); omega)))) (an (show ∀ (key lv:Int), lkOk key lv → nwOk zL (lk key lv) by exact hz) (an h3 (an (an (show (-1:Int) ≤ (-1:Int) by (try dsimp only [q1_, bL, zL] at *); omega) (an (show (0:Int) ≤ (5:Int) by (try dsimp only [q1_, bL, zL] at *); omega) (an (show (0:Int) ≤ (1:Int) by (try dsimp only [q1_, bL, zL] at *); omega) (show (2:Int) ≤ (2:Int) by (try dsimp only [q1_, bL, zL] at *); omega)))) (an (show ∀ (key lv:Int), lkOk key lv → nwOk zL (lk key lv) by exact hz) (u3 h2 h1 h0))))))))))))))))))) (an (an (an (show skN bL zL 6 A B x = lk A 1 by (try dsimp only [q1_, bL, zL] at *); clear y1 y2 y3 y9 p5 q5 hz hv; simp at *; simp_all [skN, skF, skHi, skLo, skAt, skCode, skNum]) (cKE_0 b z (an (ri (z 31)) tt))) tt) tt)) ?_
           kernel_rfl
         · exact ff (by ((try dsimp only [q1_, bL, zL] at *); clear y1 y2 y3 y9 p5 q5 hz hv; simp at * <;> simp_all <;> done))
        ·
         rcases eb (x == (1:Int)) with h9 | h9
         ·
          refine vcIntro (hx2 8 156) (an (an h9 (an (an (show (-1:Int) ≤ A by (try dsimp only [q1_, bL, zL] at *); omega) (an (show A + (1:Int) ≤ (5:Int) by (try dsimp only [q1_, bL, zL] at *); omega) (an (show (0:Int) ≤ (0:Int) by (try dsimp only [q1_, bL, zL] at *); omega) (show (1:Int) ≤ (2:Int) by (try dsimp only [q1_, bL, zL] at *); omega)))) (an h6 (an h5 (an (an (show (-1:Int) ≤ q1_.snd by (try dsimp only [q1_, bL, zL] at *); omega) (an (show q1_.snd + (1:Int) ≤ (5:Int) by (try dsimp only [q1_, bL, zL] at *); omega) (an (show (0:Int) ≤ (0:Int) by (try dsimp only [q1_, bL, zL] at *); omega) (show (1:Int) ≤ (2:Int) by (try dsimp only [q1_, bL, zL] at *); omega)))) (an (an (show (0:Int) ≤ nw zL (lk q1_.snd 0) by (try dsimp only [q1_, bL, zL] at *); unfold nwOk at *; omega) (show nw zL (lk q1_.snd 0) + (1:Int) ≤ (1099511627776:Int) by (try dsimp only [q1_, bL, zL] at *); unfold nwOk at *; omega)) (an h4 (an (an (show (-1:Int) ≤ (bfG bL zL A 1 6 (-1)).snd by (try dsimp only [q1_, bL, zL] at *); omega) (an (show (bfG bL zL A 1 6 (-1)).snd + (1:Int) ≤ (5:Int) by (try dsimp only [q1_, bL, zL] at *); omega) (an (show (0:Int) ≤ (0:Int) by (try dsimp only [q1_, bL, zL] at *); omega) (show (1:Int) ≤ (2:Int) by (try dsimp only [q1_, bL, zL] at *); omega)))) (an (show ∀ (key lv:Int), lkOk key lv → nwOk zL (lk key lv) by exact hz) (an h3 (an (an (show (-1:Int) ≤ (-1:Int) by (try dsimp only [q1_, bL, zL] at *); omega) (an (show (0:Int) ≤ (5:Int) by (try dsimp only [q1_, bL, zL] at *); omega) (an (show (0:Int) ≤ (1:Int) by (try dsimp only [q1_, bL, zL] at *); omega) (show (2:Int) ≤ (2:Int) by (try dsimp only [q1_, bL, zL] at *); omega)))) (an (show ∀ (key lv:Int), lkOk key lv → nwOk zL (lk key lv) by exact hz) (u3 h2 h1 h0))))))))))))) (an (an (an (show skN bL zL 6 A B x = lk A 0 by (try dsimp only [q1_, bL, zL] at *); clear y1 y2 y3 y9 p5 q5 hz hv; simp at *; simp_all [skN, skF, skHi, skLo, skAt, skCode, skNum]) (cKE_0 b z (an (ri (z 31)) tt))) tt) tt)) ?_
          kernel_rfl
         ·
          refine vcIntro (hx2 8 28) (an (an h9 (an (an (show (-1:Int) ≤ A by (try dsimp only [q1_, bL, zL] at *); omega) (an (show A + (1:Int) ≤ (5:Int) by (try dsimp only [q1_, bL, zL] at *); omega) (an (show (0:Int) ≤ (0:Int) by (try dsimp only [q1_, bL, zL] at *); omega) (show (1:Int) ≤ (2:Int) by (try dsimp only [q1_, bL, zL] at *); omega)))) (an h6 (an h5 (an (an (show (-1:Int) ≤ q1_.snd by (try dsimp only [q1_, bL, zL] at *); omega) (an (show q1_.snd + (1:Int) ≤ (5:Int) by (try dsimp only [q1_, bL, zL] at *); omega) (an (show (0:Int) ≤ (0:Int) by (try dsimp only [q1_, bL, zL] at *); omega) (show (1:Int) ≤ (2:Int) by (try dsimp only [q1_, bL, zL] at *); omega)))) (an (an (show (0:Int) ≤ nw zL (lk q1_.snd 0) by (try dsimp only [q1_, bL, zL] at *); unfold nwOk at *; omega) (show nw zL (lk q1_.snd 0) + (1:Int) ≤ (1099511627776:Int) by (try dsimp only [q1_, bL, zL] at *); unfold nwOk at *; omega)) (an h4 (an (an (show (-1:Int) ≤ (bfG bL zL A 1 6 (-1)).snd by (try dsimp only [q1_, bL, zL] at *); omega) (an (show (bfG bL zL A 1 6 (-1)).snd + (1:Int) ≤ (5:Int) by (try dsimp only [q1_, bL, zL] at *); omega) (an (show (0:Int) ≤ (0:Int) by (try dsimp only [q1_, bL, zL] at *); omega) (show (1:Int) ≤ (2:Int) by (try dsimp only [q1_, bL, zL] at *); omega)))) (an (show ∀ (key lv:Int), lkOk key lv → nwOk zL (lk key lv) by exact hz) (an h3 (an (an (show (-1:Int) ≤ (-1:Int) by (try dsimp only [q1_, bL, zL] at *); omega) (an (show (0:Int) ≤ (5:Int) by (try dsimp only [q1_, bL, zL] at *); omega) (an (show (0:Int) ≤ (1:Int) by (try dsimp only [q1_, bL, zL] at *); omega) (show (2:Int) ≤ (2:Int) by (try dsimp only [q1_, bL, zL] at *); omega)))) (an (show ∀ (key lv:Int), lkOk key lv → nwOk zL (lk key lv) by exact hz) (u3 h2 h1 h0))))))))))))) (an (an (an (show skN bL zL 6 A B x = lk A 0 by (try dsimp only [q1_, bL, zL] at *); clear y1 y2 y3 y9 p5 q5 hz hv; simp at *; simp_all [skN, skF, skHi, skLo, skAt, skCode, skNum]) (cKE_0 b z (an (ri (z 31)) tt))) tt) tt)) ?_
          kernel_rfl
      · exact ff (by ((try dsimp only [q1_, bL, zL] at *); clear y1 y2 y3 y9 p5 q5 hz hv; simp at * <;> simp_all <;> done))
     ·
      rcases eb ((-1:Int) == A) with h10 | h10
      · exact ff (by ((try dsimp only [q1_, bL, zL] at *); clear y1 y2 y3 y9 p5 q5 hz hv; first | (simp at *; omega) | (simp_all; done)))
      ·
       rcases eb (x == (1:Int)) with h11 | h11
       ·
        refine vcIntro (hx2 6 36) (an (an h11 (an h10 (an (an (show (-1:Int) ≤ q1_.snd by (try dsimp only [q1_, bL, zL] at *); omega) (an (show q1_.snd + (1:Int) ≤ (5:Int) by (try dsimp only [q1_, bL, zL] at *); omega) (an (show (0:Int) ≤ (0:Int) by (try dsimp only [q1_, bL, zL] at *); omega) (show (1:Int) ≤ (2:Int) by (try dsimp only [q1_, bL, zL] at *); omega)))) (an (an (show (-1:Int) ≤ (bfG bL zL A 1 6 (-1)).snd by (try dsimp only [q1_, bL, zL] at *); omega) (an (show (bfG bL zL A 1 6 (-1)).snd + (1:Int) ≤ (5:Int) by (try dsimp only [q1_, bL, zL] at *); omega) (an (show (0:Int) ≤ (0:Int) by (try dsimp only [q1_, bL, zL] at *); omega) (show (1:Int) ≤ (2:Int) by (try dsimp only [q1_, bL, zL] at *); omega)))) (an (show ∀ (key lv:Int), lkOk key lv → nwOk zL (lk key lv) by exact hz) (an h3 (an (an (show (-1:Int) ≤ (-1:Int) by (try dsimp only [q1_, bL, zL] at *); omega) (an (show (0:Int) ≤ (5:Int) by (try dsimp only [q1_, bL, zL] at *); omega) (an (show (0:Int) ≤ (1:Int) by (try dsimp only [q1_, bL, zL] at *); omega) (show (2:Int) ≤ (2:Int) by (try dsimp only [q1_, bL, zL] at *); omega)))) (an (show ∀ (key lv:Int), lkOk key lv → nwOk zL (lk key lv) by exact hz) (u3 h2 h1 h0))))))))) (an (an (an (show skN bL zL 6 A B x = q1_.fst by (try dsimp only [q1_, bL, zL] at *); clear y1 y2 y3 y9 p5 q5 hz hv; simp at *; simp_all [skN, skF, skHi, skLo, skAt, skCode, skNum]) (cKE_0 b z (an (ri (z 31)) tt))) tt) tt)) ?_
        kernel_rfl
       ·
        refine vcIntro (hx2 6 4) (an (an h11 (an h10 (an (an (show (-1:Int) ≤ q1_.snd by (try dsimp only [q1_, bL, zL] at *); omega) (an (show q1_.snd + (1:Int) ≤ (5:Int) by (try dsimp only [q1_, bL, zL] at *); omega) (an (show (0:Int) ≤ (0:Int) by (try dsimp only [q1_, bL, zL] at *); omega) (show (1:Int) ≤ (2:Int) by (try dsimp only [q1_, bL, zL] at *); omega)))) (an (an (show (-1:Int) ≤ (bfG bL zL A 1 6 (-1)).snd by (try dsimp only [q1_, bL, zL] at *); omega) (an (show (bfG bL zL A 1 6 (-1)).snd + (1:Int) ≤ (5:Int) by (try dsimp only [q1_, bL, zL] at *); omega) (an (show (0:Int) ≤ (0:Int) by (try dsimp only [q1_, bL, zL] at *); omega) (show (1:Int) ≤ (2:Int) by (try dsimp only [q1_, bL, zL] at *); omega)))) (an (show ∀ (key lv:Int), lkOk key lv → nwOk zL (lk key lv) by exact hz) (an h3 (an (an (show (-1:Int) ≤ (-1:Int) by (try dsimp only [q1_, bL, zL] at *); omega) (an (show (0:Int) ≤ (5:Int) by (try dsimp only [q1_, bL, zL] at *); omega) (an (show (0:Int) ≤ (1:Int) by (try dsimp only [q1_, bL, zL] at *); omega) (show (2:Int) ≤ (2:Int) by (try dsimp only [q1_, bL, zL] at *); omega)))) (an (show ∀ (key lv:Int), lkOk key lv → nwOk zL (lk key lv) by exact hz) (u3 h2 h1 h0))))))))) (an (an (an (show skN bL zL 6 A B x = q1_.fst by (try dsimp only [q1_, bL, zL] at *); clear y1 y2 y3 y9 p5 q5 hz hv; simp at *; simp_all [skN, skF, skHi, skLo, skAt, skCode, skNum]) (cKE_0 b z (an (ri (z 31)) tt))) tt) tt)) ?_
        kernel_rfl
    ·
     rcases eb ((-1:Int) == A) with h12 | h12
     · exact ff (by ((try dsimp only [q1_, bL, zL] at *); clear y1 y2 y3 y9 p5 q5 hz hv; first | (simp at *; omega) | (simp_all; done)))
     ·
      rcases eb (x == (1:Int)) with h13 | h13
      ·
       refine vcIntro (hx2 5 16) (an (an h13 (an h12 (an (an (show (-1:Int) ≤ (bfG bL zL A 1 6 (-1)).snd by (try dsimp only [q1_, bL, zL] at *); omega) (an (show (bfG bL zL A 1 6 (-1)).snd + (1:Int) ≤ (5:Int) by (try dsimp only [q1_, bL, zL] at *); omega) (an (show (0:Int) ≤ (0:Int) by (try dsimp only [q1_, bL, zL] at *); omega) (show (1:Int) ≤ (2:Int) by (try dsimp only [q1_, bL, zL] at *); omega)))) (an (an (show (-1:Int) ≤ (bfG bL zL A 1 6 (-1)).snd by (try dsimp only [q1_, bL, zL] at *); omega) (an (show (bfG bL zL A 1 6 (-1)).snd + (1:Int) ≤ (5:Int) by (try dsimp only [q1_, bL, zL] at *); omega) (an (show (0:Int) ≤ (0:Int) by (try dsimp only [q1_, bL, zL] at *); omega) (show (1:Int) ≤ (2:Int) by (try dsimp only [q1_, bL, zL] at *); omega)))) (an (an (show (-1:Int) ≤ (-1:Int) by (try dsimp only [q1_, bL, zL] at *); omega) (an (show (0:Int) ≤ (5:Int) by (try dsimp only [q1_, bL, zL] at *); omega) (an (show (0:Int) ≤ (1:Int) by (try dsimp only [q1_, bL, zL] at *); omega) (show (2:Int) ≤ (2:Int) by (try dsimp only [q1_, bL, zL] at *); omega)))) (an (show ∀ (key lv:Int), lkOk key lv → nwOk zL (lk key lv) by exact hz) (u3 h2 h1 h0))))))) (an (an (an (show skN bL zL 6 A B x = (bfG bL zL A 1 6 (-1)).fst by (try dsimp only [q1_, bL, zL] at *); clear y1 y2 y3 y9 p5 q5 hz hv; simp at *; simp_all [skN, skF, skHi, skLo, skAt, skCode, skNum]) (cKE_0 b z (an (ri (z 31)) tt))) tt) tt)) ?_
       kernel_rfl
      ·
       refine vcIntro (hx2 5 0) (an (an h13 (an h12 (an (an (show (-1:Int) ≤ (bfG bL zL A 1 6 (-1)).snd by (try dsimp only [q1_, bL, zL] at *); omega) (an (show (bfG bL zL A 1 6 (-1)).snd + (1:Int) ≤ (5:Int) by (try dsimp only [q1_, bL, zL] at *); omega) (an (show (0:Int) ≤ (0:Int) by (try dsimp only [q1_, bL, zL] at *); omega) (show (1:Int) ≤ (2:Int) by (try dsimp only [q1_, bL, zL] at *); omega)))) (an (an (show (-1:Int) ≤ (bfG bL zL A 1 6 (-1)).snd by (try dsimp only [q1_, bL, zL] at *); omega) (an (show (bfG bL zL A 1 6 (-1)).snd + (1:Int) ≤ (5:Int) by (try dsimp only [q1_, bL, zL] at *); omega) (an (show (0:Int) ≤ (0:Int) by (try dsimp only [q1_, bL, zL] at *); omega) (show (1:Int) ≤ (2:Int) by (try dsimp only [q1_, bL, zL] at *); omega)))) (an (an (show (-1:Int) ≤ (-1:Int) by (try dsimp only [q1_, bL, zL] at *); omega) (an (show (0:Int) ≤ (5:Int) by (try dsimp only [q1_, bL, zL] at *); omega) (an (show (0:Int) ≤ (1:Int) by (try dsimp only [q1_, bL, zL] at *); omega) (show (2:Int) ≤ (2:Int) by (try dsimp only [q1_, bL, zL] at *); omega)))) (an (show ∀ (key lv:Int), lkOk key lv → nwOk zL (lk key lv) by exact hz) (u3 h2 h1 h0))))))) (an (an (an (show skN bL zL 6 A B x = (bfG bL zL A 1 6 (-1)).fst by (try dsimp only [q1_, bL, zL] at *); clear y1 y2 y3 y9 p5 q5 hz hv; simp at *; simp_all [skN, skF, skHi, skLo, skAt, skCode, skNum]) (cKE_0 b z (an (ri (z 31)) tt))) tt) tt)) ?_
       kernel_rfl
end
end Go.Ideal.K6

namespace Go.Ideal.K6
section
open Go.Proofs Go.Ideal Go.Ideal.L1
set_option linter.unusedSimpArgs false
set_option linter.unusedVariables false
set_option maxRecDepth 100000
set_option maxHeartbeats 80000000
variable (b : Nat → Bool) (z : Nat → Int) (A B x:Int)

theorem sd6a (hv : B1.allMay (zl z) = true) (ho : B1.opMayL [6, A, B, x] = true) (hn : skN (bl b) (zl z) 6 A B x = -1) (ha : nxV (bfG (bl b) (zl z) A 0 6 (bfG (bl b) (zl z) A 1 6 (-1)).2).2 (nw (zl z) (lk (bfG (bl b) (zl z) A 0 6 (bfG (bl b) (zl z) A 1 6 (-1)).2).2 0)) = A) :
    ∃ hh, vcOf (runCall Try.prog doS noL 6000 13 [.agg (viewOf (bl b) (zl z)), .agg [.int .i64 (.c 6), .int .i64 (.s A), .int .i64 (.s B), .int .i64 (.s x)]] H0 hh) (fun v H1 => retP 0 (lastBlk v) v H1 (doneAsk (bl b) (zl z)) (ansB (1) (0)) 1) := by
  have hz := zsOk_f z hv
  have oA : 0 ≤ A ∧ A < 5 ∧ 0 ≤ x ∧ x < 2 ∧ 0 ≤ B ∧ B < 5 := by have := ho; simp [B1.opMayL, B1.opMay] at this; omega
  obtain ⟨p1, p2, p3, p4, p5⟩ := bfG_ok (bl b) (zl z) A 1 (by omega) 6 (-1) (by omega) (by omega) (by omega)
  have p3 := p3 (by omega)
  obtain ⟨q1, q2, q3, q4, q5⟩ := bfG_ok (bl b) (zl z) A 0 (by omega) 6 (bfG (bl b) (zl z) A 1 6 (-1)).2 p1 p2 (by have := p1; show 5 - (bfG (bl b) (zl z) A 1 6 (-1)).2 ≤ ((6:Nat):Int); omega)
  have q3 := q3 p3
  have y1 := hz (bfG (bl b) (zl z) A 1 6 (-1)).2 1 ⟨p1, p2, by omega, by omega⟩
  have y2 := hz (bfG (bl b) (zl z) A 0 6 (bfG (bl b) (zl z) A 1 6 (-1)).2).2 0 ⟨q1, q2, by omega, by omega⟩
  have y9 := hz (-1) 0 ⟨by omega, by omega, by omega, by omega⟩
  have y3 := del_f z A (bfG (bl b) (zl z) A 0 6 (bfG (bl b) (zl z) A 1 6 (-1)).2).2 (bfG (bl b) (zl z) A 1 6 (-1)).2 y1 ⟨p1, p2⟩
  simp only [skN, skF, skHi, skLo, skAt] at hn
  simp at hn
  have wA : IntKind.i64.wrap (A + 1) = A + 1 := wrapk _ (by omega)

  let bL : List Bool := (bl b)
  let zL : List Int := (zl z)
  rcases eb (!B1.allMay zL) with h0 | h0
  · exact ff (by (try dsimp only [bL, zL] at *); clear y1 y2 y3 y9 p5 q5 hz; simp only [hv, ho] at *; simp at *)
  ·
   rcases eb (!B1.opMayL [(6:Int), A, B, x]) with h1 | h1
   · exact ff (by (try dsimp only [bL, zL] at *); clear y1 y2 y3 y9 p5 q5 hz; simp only [hv, ho] at *; simp at *)
   ·
    rcases eb (decide ((bfG bL zL A 1 6 (-1)).fst = (-1:Int))) with h2 | h2
    ·
     rcases eb (decide ((bfG bL zL A 0 6 (bfG bL zL A 1 6 (-1)).snd).fst = (-1:Int))) with h3 | h3
     ·
      rcases eb (kn bL (lk (bfG bL zL A 0 6 (bfG bL zL A 1 6 (-1)).snd).snd (0:Int))) with h4 | h4
      ·
       rcases eb (nxV (bfG bL zL A 0 6 (bfG bL zL A 1 6 (-1)).snd).snd (nw zL (lk (bfG bL zL A 0 6 (bfG bL zL A 1 6 (-1)).snd).snd (0:Int))) == A) with h5 | h5
       ·
        refine vcIntro (hx2 6 60) (an (an h5 (an (an (show (-1:Int) ≤ (bfG bL zL A 0 6 (bfG bL zL A 1 6 (-1)).snd).snd by (try dsimp only [bL, zL] at *); omega) (an (show (bfG bL zL A 0 6 (bfG bL zL A 1 6 (-1)).snd).snd + (1:Int) ≤ (5:Int) by (try dsimp only [bL, zL] at *); omega) (an (show (0:Int) ≤ (0:Int) by (try dsimp only [bL, zL] at *); omega) (show (1:Int) ≤ (2:Int) by (try dsimp only [bL, zL] at *); omega)))) (an (an (show (0:Int) ≤ nw zL (lk (bfG bL zL A 0 6 (bfG bL zL A 1 6 (-1)).snd).snd (0:Int)) by (try dsimp only [bL, zL] at *); unfold nwOk at *; omega) (show nw zL (lk (bfG bL zL A 0 6 (bfG bL zL A 1 6 (-1)).snd).snd (0:Int)) + (1:Int) ≤ (1099511627776:Int) by (try dsimp only [bL, zL] at *); unfold nwOk at *; omega)) (an h4 (an (an (show (-1:Int) ≤ (bfG bL zL A 1 6 (-1)).snd by (try dsimp only [bL, zL] at *); omega) (an (show (bfG bL zL A 1 6 (-1)).snd + (1:Int) ≤ (5:Int) by (try dsimp only [bL, zL] at *); omega) (an (show (0:Int) ≤ (0:Int) by (try dsimp only [bL, zL] at *); omega) (show (1:Int) ≤ (2:Int) by (try dsimp only [bL, zL] at *); omega)))) (an (show ∀ (key lv:Int), lkOk key lv → nwOk zL (lk key lv) by exact hz) (an h3 (an (an (show (-1:Int) ≤ (-1:Int) by (try dsimp only [bL, zL] at *); omega) (an (show (0:Int) ≤ (5:Int) by (try dsimp only [bL, zL] at *); omega) (an (show (0:Int) ≤ (1:Int) by (try dsimp only [bL, zL] at *); omega) (show (2:Int) ≤ (2:Int) by (try dsimp only [bL, zL] at *); omega)))) (an (show ∀ (key lv:Int), lkOk key lv → nwOk zL (lk key lv) by exact hz) (u3 h2 h1 h0)))))))))) (an (an (an tt (cKE_0 b z (an (ri (z 31)) (an tt (an tt tt))))) tt) (an (zo (an (ri ((1:Int))) (ri ((0:Int))))) tt))) ?_
        kernel_rfl
       · exact ff (by (try dsimp only [bL, zL] at *); clear y1 y2 y3 y9 p5 q5 hz hv; simp at *; omega)
      · exact ff (by ((try dsimp only [bL, zL] at *); clear y1 y2 y3 y9 p5 q5 hz hv; simp at * <;> simp_all <;> done))
     · exact ff (by (try dsimp only [bL, zL] at *); clear y1 y2 y3 y9 p5 q5 hz hv; simp at *; omega)
    · exact ff (by (try dsimp only [bL, zL] at *); clear y1 y2 y3 y9 p5 q5 hz hv; simp at *; omega)
end
end Go.Ideal.K6

namespace Go.Ideal.K6
section
open Go.Proofs Go.Ideal Go.Ideal.L1
set_option linter.unusedSimpArgs false
set_option linter.unusedVariables false
set_option maxRecDepth 100000
set_option maxHeartbeats 80000000
def zqK46b1_ (b : Nat → Bool) (z : Nat → Int) (A:Int) := (bfG (bl b) (zl z) A 0 6 (bfG (bl b) (zl z) A 1 6 (-1)).snd)
variable (b : Nat → Bool) (z : Nat → Int) (A B x:Int)

theorem sd6b (hv : B1.allMay (zl z) = true) (ho : B1.opMayL [6, A, B, x] = true) (hn : skN (bl b) (zl z) 6 A B x = -1) (ha : ¬ nxV (bfG (bl b) (zl z) A 0 6 (bfG (bl b) (zl z) A 1 6 (-1)).2).2 (nw (zl z) (lk (bfG (bl b) (zl z) A 0 6 (bfG (bl b) (zl z) A 1 6 (-1)).2).2 0)) = A) (hx1 : ¬ x = 1) :
    ∃ hh, vcOf (runCall Try.prog doS noL 6000 13 [.agg (viewOf (bl b) (zl z)), .agg [.int .i64 (.c 6), .int .i64 (.s A), .int .i64 (.s B), .int .i64 (.s x)]] H0 hh) (fun v H1 => retP 0 (lastBlk v) v H1 (doneAsk (bl b) (insZ (zl z) A (bfG (bl b) (zl z) A 0 6 (bfG (bl b) (zl z) A 1 6 (-1)).2).2 0)) (ansB (0) (A)) 1) := by
  have hz := zsOk_f z hv
  have oA : 0 ≤ A ∧ A < 5 ∧ 0 ≤ x ∧ x < 2 ∧ 0 ≤ B ∧ B < 5 := by have := ho; simp [B1.opMayL, B1.opMay] at this; omega
  obtain ⟨p1, p2, p3, p4, p5⟩ := bfG_ok (bl b) (zl z) A 1 (by omega) 6 (-1) (by omega) (by omega) (by omega)
  have p3 := p3 (by omega)
  obtain ⟨q1, q2, q3, q4, q5⟩ := bfG_ok (bl b) (zl z) A 0 (by omega) 6 (bfG (bl b) (zl z) A 1 6 (-1)).2 p1 p2 (by have := p1; show 5 - (bfG (bl b) (zl z) A 1 6 (-1)).2 ≤ ((6:Nat):Int); omega)
  have q3 := q3 p3
  have y1 := hz (bfG (bl b) (zl z) A 1 6 (-1)).2 1 ⟨p1, p2, by omega, by omega⟩
  have y2 := hz (bfG (bl b) (zl z) A 0 6 (bfG (bl b) (zl z) A 1 6 (-1)).2).2 0 ⟨q1, q2, by omega, by omega⟩
  have y9 := hz (-1) 0 ⟨by omega, by omega, by omega, by omega⟩
  have y3 := del_f z A (bfG (bl b) (zl z) A 0 6 (bfG (bl b) (zl z) A 1 6 (-1)).2).2 (bfG (bl b) (zl z) A 1 6 (-1)).2 y1 ⟨p1, p2⟩
  obtain ⟨f1, f2, f3⟩ := skN6 oA.1 hn
  have f3 := f3.resolve_left ha
  simp only [skHi, skLo] at f1 f2
  clear hn
  have f4 := f3.1
  clear f3
  have wA : IntKind.i64.wrap (A + 1) = A + 1 := wrapk _ (by omega)

  let bL : List Bool := (bl b)
  let zL : List Int := (zl z)
  let q1_ := (zqK46b1_ b z A)
  rcases eb (!B1.allMay zL) with h0 | h0
  · exact ff (by (try dsimp only [q1_, bL, zL, zqK46b1_] at *); clear y1 y2 y3 y9 p5 q5 hz; simp only [hv, ho] at *; simp at *)
  ·
   rcases eb (!B1.opMayL [(6:Int), A, B, x]) with h1 | h1
   · exact ff (by (try dsimp only [q1_, bL, zL, zqK46b1_] at *); clear y1 y2 y3 y9 p5 q5 hz; simp only [hv, ho] at *; simp at *)
   ·
    rcases eb (decide ((bfG bL zL A 1 6 (-1)).fst = (-1:Int))) with h2 | h2
    ·
     rcases eb (decide (q1_.fst = (-1:Int))) with h3 | h3
     ·
      rcases eb (kn bL (lk q1_.snd 0)) with h4 | h4
      ·
       rcases eb (nxV q1_.snd (nw zL (lk q1_.snd 0)) == A) with h5 | h5
       · exact ff (by ((try dsimp only [q1_, bL, zL, zqK46b1_] at *); clear y1 y2 y3 y9 p5 q5 hz hv; first | (first | (simp at *; omega) | (simp_all; done)) | (simp_all; done)))
       ·
        rcases eb (kn bL (lk A 0)) with h6 | h6
        ·
         rcases eb (x == (1:Int)) with h7 | h7
         · exact ff (by ((try dsimp only [q1_, bL, zL, zqK46b1_] at *); clear y1 y2 y3 y9 p5 q5 hz hv; first | (first | (simp at *; omega) | (simp_all; done)) | (simp_all; done)))
         ·
          refine vcIntro (hx2 9 220) (an (an h7 (an (an (show (-1:Int) ≤ q1_.snd by (try dsimp only [q1_, bL, zL, zqK46b1_] at *); omega) (an (show q1_.snd + (1:Int) ≤ (5:Int) by (try dsimp only [q1_, bL, zL, zqK46b1_] at *); omega) (an (show (0:Int) ≤ (0:Int) by (try dsimp only [q1_, bL, zL, zqK46b1_] at *); omega) (show (1:Int) ≤ (2:Int) by (try dsimp only [q1_, bL, zL, zqK46b1_] at *); omega)))) (an (an (show (-1:Int) ≤ A by (try dsimp only [q1_, bL, zL, zqK46b1_] at *); omega) (an (show A + (1:Int) ≤ (5:Int) by (try dsimp only [q1_, bL, zL, zqK46b1_] at *); omega) (an (show (0:Int) ≤ (0:Int) by (try dsimp only [q1_, bL, zL, zqK46b1_] at *); omega) (show (1:Int) ≤ (2:Int) by (try dsimp only [q1_, bL, zL, zqK46b1_] at *); omega)))) (an (an (show (-1:Int) ≤ q1_.snd by (try dsimp only [q1_, bL, zL, zqK46b1_] at *); omega) (an (show q1_.snd + (1:Int) ≤ (5:Int) by (try dsimp only [q1_, bL, zL, zqK46b1_] at *); omega) (an (show (0:Int) ≤ (0:Int) by (try dsimp only [q1_, bL, zL, zqK46b1_] at *); omega) (show (1:Int) ≤ (2:Int) by (try dsimp only [q1_, bL, zL, zqK46b1_] at *); omega)))) (an h4 (an (an (show (-1:Int) ≤ A by (try dsimp only [q1_, bL, zL, zqK46b1_] at *); omega) (an (show A + (1:Int) ≤ (5:Int) by (try dsimp only [q1_, bL, zL, zqK46b1_] at *); omega) (an (show (0:Int) ≤ (0:Int) by (try dsimp only [q1_, bL, zL, zqK46b1_] at *); omega) (show (1:Int) ≤ (2:Int) by (try dsimp only [q1_, bL, zL, zqK46b1_] at *); omega)))) (an h6 (an h5 (an (an (show (-1:Int) ≤ q1_.snd by (try dsimp only [q1_, bL, zL, zqK46b1_] at *); omega) (an (show q1_.snd + (1:Int) ≤ (5:Int) by (try dsimp only [q1_, bL, zL, zqK46b1_] at *); omega) (an (show (0:Int) ≤ (0:Int) by (try dsimp only [q1_, bL, zL, zqK46b1_] at *); omega) (show (1:Int) ≤ (2:Int) by (try dsimp only [q1_, bL, zL, zqK46b1_] at *); omega)))) (an (an (show (0:Int) ≤ nw zL (lk q1_.snd 0) by (try dsimp only [q1_, bL, zL, zqK46b1_] at *); unfold nwOk at *; omega) (show nw zL (lk q1_.snd 0) + (1:Int) ≤ (1099511627776:Int) by (try dsimp only [q1_, bL, zL, zqK46b1_] at *); unfold nwOk at *; omega)) (an h4 (an (an (show (-1:Int) ≤ (bfG bL zL A 1 6 (-1)).snd by (try dsimp only [q1_, bL, zL, zqK46b1_] at *); omega) (an (show (bfG bL zL A 1 6 (-1)).snd + (1:Int) ≤ (5:Int) by (try dsimp only [q1_, bL, zL, zqK46b1_] at *); omega) (an (show (0:Int) ≤ (0:Int) by (try dsimp only [q1_, bL, zL, zqK46b1_] at *); omega) (show (1:Int) ≤ (2:Int) by (try dsimp only [q1_, bL, zL, zqK46b1_] at *); omega)))) (an (show ∀ (key lv:Int), lkOk key lv → nwOk zL (lk key lv) by exact hz) (an h3 (an (an (show (-1:Int) ≤ (-1:Int) by (try dsimp only [q1_, bL, zL, zqK46b1_] at *); omega) (an (show (0:Int) ≤ (5:Int) by (try dsimp only [q1_, bL, zL, zqK46b1_] at *); omega) (an (show (0:Int) ≤ (1:Int) by (try dsimp only [q1_, bL, zL, zqK46b1_] at *); omega) (show (2:Int) ≤ (2:Int) by (try dsimp only [q1_, bL, zL, zqK46b1_] at *); omega)))) (an (show ∀ (key lv:Int), lkOk key lv → nwOk zL (lk key lv) by exact hz) (u3 h2 h1 h0))))))))))))))))) (an (an (an tt (cKE_1 b z (an (show (if lk q1_.snd 0 = (0:Int) then A + (1:Int) else if lk A 0 = (0:Int) then nw zL (lk q1_.snd 0) else (z 16)) = if lk q1_.snd 0 = (0:Int) then IntKind.i64.wrap (A + (1:Int)) else if lk A 0 = (0:Int) then nw zL (lk q1_.snd 0) else (z 16) by (try dsimp only [q1_, bL, zL, zqK46b1_] at *); omega) (an (show (if lk q1_.snd 0 = (1:Int) then A + (1:Int) else if lk A 0 = (1:Int) then nw zL (lk q1_.snd 0) else (z 17)) = if lk q1_.snd 0 = (1:Int) then IntKind.i64.wrap (A + (1:Int)) else if lk A 0 = (1:Int) then nw zL (lk q1_.snd 0) else (z 17) by (try dsimp only [q1_, bL, zL, zqK46b1_] at *); omega) (an (show (if lk q1_.snd 0 = (2:Int) then A + (1:Int) else if lk A 0 = (2:Int) then nw zL (lk q1_.snd 0) else (z 18)) = if lk q1_.snd 0 = (2:Int) then IntKind.i64.wrap (A + (1:Int)) else if lk A 0 = (2:Int) then nw zL (lk q1_.snd 0) else (z 18) by (try dsimp only [q1_, bL, zL, zqK46b1_] at *); omega) (an (show (if lk q1_.snd 0 = (3:Int) then A + (1:Int) else if lk A 0 = (3:Int) then nw zL (lk q1_.snd 0) else (z 19)) = if lk q1_.snd 0 = (3:Int) then IntKind.i64.wrap (A + (1:Int)) else if lk A 0 = (3:Int) then nw zL (lk q1_.snd 0) else (z 19) by (try dsimp only [q1_, bL, zL, zqK46b1_] at *); omega) (an (show (if lk q1_.snd 0 = (4:Int) then A + (1:Int) else if lk A 0 = (4:Int) then nw zL (lk q1_.snd 0) else (z 20)) = if lk q1_.snd 0 = (4:Int) then IntKind.i64.wrap (A + (1:Int)) else if lk A 0 = (4:Int) then nw zL (lk q1_.snd 0) else (z 20) by (try dsimp only [q1_, bL, zL, zqK46b1_] at *); omega) (an (show (if lk q1_.snd 0 = (5:Int) then A + (1:Int) else if lk A 0 = (5:Int) then nw zL (lk q1_.snd 0) else (z 21)) = if lk q1_.snd 0 = (5:Int) then IntKind.i64.wrap (A + (1:Int)) else if lk A 0 = (5:Int) then nw zL (lk q1_.snd 0) else (z 21) by (try dsimp only [q1_, bL, zL, zqK46b1_] at *); omega) (an (show (if lk q1_.snd 0 = (6:Int) then A + (1:Int) else if lk A 0 = (6:Int) then nw zL (lk q1_.snd 0) else (z 22)) = if lk q1_.snd 0 = (6:Int) then IntKind.i64.wrap (A + (1:Int)) else if lk A 0 = (6:Int) then nw zL (lk q1_.snd 0) else (z 22) by (try dsimp only [q1_, bL, zL, zqK46b1_] at *); omega) (an (show (if lk q1_.snd 0 = (7:Int) then A + (1:Int) else if lk A 0 = (7:Int) then nw zL (lk q1_.snd 0) else (z 23)) = if lk q1_.snd 0 = (7:Int) then IntKind.i64.wrap (A + (1:Int)) else if lk A 0 = (7:Int) then nw zL (lk q1_.snd 0) else (z 23) by (try dsimp only [q1_, bL, zL, zqK46b1_] at *); omega) (an (show (if lk q1_.snd 0 = (8:Int) then A + (1:Int) else if lk A 0 = (8:Int) then nw zL (lk q1_.snd 0) else (z 24)) = if lk q1_.snd 0 = (8:Int) then IntKind.i64.wrap (A + (1:Int)) else if lk A 0 = (8:Int) then nw zL (lk q1_.snd 0) else (z 24) by (try dsimp only [q1_, bL, zL, zqK46b1_] at *); omega) (an (show (if lk q1_.snd 0 = (9:Int) then A + (1:Int) else if lk A 0 = (9:Int) then nw zL (lk q1_.snd 0) else (z 25)) = if lk q1_.snd 0 = (9:Int) then IntKind.i64.wrap (A + (1:Int)) else if lk A 0 = (9:Int) then nw zL (lk q1_.snd 0) else (z 25) by (try dsimp only [q1_, bL, zL, zqK46b1_] at *); omega) (an (show (if lk q1_.snd 0 = (10:Int) then A + (1:Int) else if lk A 0 = (10:Int) then nw zL (lk q1_.snd 0) else (z 26)) = if lk q1_.snd 0 = (10:Int) then IntKind.i64.wrap (A + (1:Int)) else if lk A 0 = (10:Int) then nw zL (lk q1_.snd 0) else (z 26) by (try dsimp only [q1_, bL, zL, zqK46b1_] at *); omega) (an (show (if lk q1_.snd 0 = (11:Int) then A + (1:Int) else if lk A 0 = (11:Int) then nw zL (lk q1_.snd 0) else (z 27)) = if lk q1_.snd 0 = (11:Int) then IntKind.i64.wrap (A + (1:Int)) else if lk A 0 = (11:Int) then nw zL (lk q1_.snd 0) else (z 27) by (try dsimp only [q1_, bL, zL, zqK46b1_] at *); omega) (an (show (if lk q1_.snd 0 = (12:Int) then A + (1:Int) else if lk A 0 = (12:Int) then nw zL (lk q1_.snd 0) else (z 28)) = if lk q1_.snd 0 = (12:Int) then IntKind.i64.wrap (A + (1:Int)) else if lk A 0 = (12:Int) then nw zL (lk q1_.snd 0) else (z 28) by (try dsimp only [q1_, bL, zL, zqK46b1_] at *); omega) (an (show (if lk q1_.snd 0 = (13:Int) then A + (1:Int) else if lk A 0 = (13:Int) then nw zL (lk q1_.snd 0) else (z 29)) = if lk q1_.snd 0 = (13:Int) then IntKind.i64.wrap (A + (1:Int)) else if lk A 0 = (13:Int) then nw zL (lk q1_.snd 0) else (z 29) by (try dsimp only [q1_, bL, zL, zqK46b1_] at *); omega) (an (show (if lk q1_.snd 0 = (14:Int) then A + (1:Int) else if lk A 0 = (14:Int) then nw zL (lk q1_.snd 0) else (z 30)) = if lk q1_.snd 0 = (14:Int) then IntKind.i64.wrap (A + (1:Int)) else if lk A 0 = (14:Int) then nw zL (lk q1_.snd 0) else (z 30) by (try dsimp only [q1_, bL, zL, zqK46b1_] at *); omega) (an (show (if lk q1_.snd 0 = (15:Int) then A + (1:Int) else if lk A 0 = (15:Int) then nw zL (lk q1_.snd 0) else (z 31)) = if lk q1_.snd 0 = (15:Int) then IntKind.i64.wrap (A + (1:Int)) else if lk A 0 = (15:Int) then nw zL (lk q1_.snd 0) else (z 31) by (try dsimp only [q1_, bL, zL, zqK46b1_] at *); omega) (an tt (an tt tt)))))))))))))))))))) tt) (an (zo (an (ri ((0:Int))) (ri A))) tt))) ?_
          kernel_rfl
        · exact ff (by ((try dsimp only [q1_, bL, zL, zqK46b1_] at *); clear y1 y2 y3 y9 p5 q5 hz hv; simp at * <;> simp_all <;> done))
      · exact ff (by ((try dsimp only [q1_, bL, zL, zqK46b1_] at *); clear y1 y2 y3 y9 p5 q5 hz hv; simp at * <;> simp_all <;> done))
     · exact ff (by ((try dsimp only [q1_, bL, zL, zqK46b1_] at *); clear y1 y2 y3 y9 p5 q5 hz hv; first | (first | (simp at *; omega) | (simp_all; done)) | (simp_all; done)))
    · exact ff (by ((try dsimp only [q1_, bL, zL, zqK46b1_] at *); clear y1 y2 y3 y9 p5 q5 hz hv; first | (first | (simp at *; omega) | (simp_all; done)) | (simp_all; done)))
end
end Go.Ideal.K6

namespace Go.Ideal.K6
section
open Go.Proofs Go.Ideal Go.Ideal.L1
set_option linter.unusedSimpArgs false
set_option linter.unusedVariables false
set_option maxRecDepth 100000
set_option maxHeartbeats 80000000
def zqK46c1_ (b : Nat → Bool) (z : Nat → Int) (A:Int) := (bfG (bl b) (zl z) A 0 6 (bfG (bl b) (zl z) A 1 6 (-1)).snd)
def zqK46c2_ (b : Nat → Bool) (z : Nat → Int) (A:Int) := [(z 0), (z 1), (z 2), (z 3), (z 4), (z 5), (z 6), (z 7), (z 8), (z 9), (z 10), (z 11), (z 12), (z 13), (z 14), (z 15), if lk (zqK46c1_ b z A).snd (0:Int) = (0:Int) then IntKind.i64.wrap (A + (1:Int)) else if lk A 0 = (0:Int) then nw (zl z) (lk (zqK46c1_ b z A).snd (0:Int)) else (z 16), if lk (zqK46c1_ b z A).snd (0:Int) = (1:Int) then IntKind.i64.wrap (A + (1:Int)) else if lk A 0 = (1:Int) then nw (zl z) (lk (zqK46c1_ b z A).snd (0:Int)) else (z 17), if lk (zqK46c1_ b z A).snd (0:Int) = (2:Int) then IntKind.i64.wrap (A + (1:Int)) else if lk A 0 = (2:Int) then nw (zl z) (lk (zqK46c1_ b z A).snd (0:Int)) else (z 18), if lk (zqK46c1_ b z A).snd (0:Int) = (3:Int) then IntKind.i64.wrap (A + (1:Int)) else if lk A 0 = (3:Int) then nw (zl z) (lk (zqK46c1_ b z A).snd (0:Int)) else (z 19), if lk (zqK46c1_ b z A).snd (0:Int) = (4:Int) then IntKind.i64.wrap (A + (1:Int)) else if lk A 0 = (4:Int) then nw (zl z) (lk (zqK46c1_ b z A).snd (0:Int)) else (z 20), if lk (zqK46c1_ b z A).snd (0:Int) = (5:Int) then IntKind.i64.wrap (A + (1:Int)) else if lk A 0 = (5:Int) then nw (zl z) (lk (zqK46c1_ b z A).snd (0:Int)) else (z 21), if lk (zqK46c1_ b z A).snd (0:Int) = (6:Int) then IntKind.i64.wrap (A + (1:Int)) else if lk A 0 = (6:Int) then nw (zl z) (lk (zqK46c1_ b z A).snd (0:Int)) else (z 22), if lk (zqK46c1_ b z A).snd (0:Int) = (7:Int) then IntKind.i64.wrap (A + (1:Int)) else if lk A 0 = (7:Int) then nw (zl z) (lk (zqK46c1_ b z A).snd (0:Int)) else (z 23), if lk (zqK46c1_ b z A).snd (0:Int) = (8:Int) then IntKind.i64.wrap (A + (1:Int)) else if lk A 0 = (8:Int) then nw (zl z) (lk (zqK46c1_ b z A).snd (0:Int)) else (z 24), if lk (zqK46c1_ b z A).snd (0:Int) = (9:Int) then IntKind.i64.wrap (A + (1:Int)) else if lk A 0 = (9:Int) then nw (zl z) (lk (zqK46c1_ b z A).snd (0:Int)) else (z 25), if lk (zqK46c1_ b z A).snd (0:Int) = (10:Int) then IntKind.i64.wrap (A + (1:Int)) else if lk A 0 = (10:Int) then nw (zl z) (lk (zqK46c1_ b z A).snd (0:Int)) else (z 26), if lk (zqK46c1_ b z A).snd (0:Int) = (11:Int) then IntKind.i64.wrap (A + (1:Int)) else if lk A 0 = (11:Int) then nw (zl z) (lk (zqK46c1_ b z A).snd (0:Int)) else (z 27), if lk (zqK46c1_ b z A).snd (0:Int) = (12:Int) then IntKind.i64.wrap (A + (1:Int)) else if lk A 0 = (12:Int) then nw (zl z) (lk (zqK46c1_ b z A).snd (0:Int)) else (z 28), if lk (zqK46c1_ b z A).snd (0:Int) = (13:Int) then IntKind.i64.wrap (A + (1:Int)) else if lk A 0 = (13:Int) then nw (zl z) (lk (zqK46c1_ b z A).snd (0:Int)) else (z 29), if lk (zqK46c1_ b z A).snd (0:Int) = (14:Int) then IntKind.i64.wrap (A + (1:Int)) else if lk A 0 = (14:Int) then nw (zl z) (lk (zqK46c1_ b z A).snd (0:Int)) else (z 30), if lk (zqK46c1_ b z A).snd (0:Int) = (15:Int) then IntKind.i64.wrap (A + (1:Int)) else if lk A 0 = (15:Int) then nw (zl z) (lk (zqK46c1_ b z A).snd (0:Int)) else (z 31)]
def zqK46c3_ (b : Nat → Bool) (z : Nat → Int) (A:Int) := [(z 0), (z 1), (z 2), (z 3), (z 4), (z 5), (z 6), (z 7), (z 8), (z 9), (z 10), (z 11), (z 12), (z 13), (z 14), (z 15), if lk (zqK46c1_ b z A).snd (0:Int) = (0:Int) then A + (1:Int) else if lk A 0 = (0:Int) then nw (zl z) (lk (zqK46c1_ b z A).snd (0:Int)) else (z 16), if lk (zqK46c1_ b z A).snd (0:Int) = (1:Int) then A + (1:Int) else if lk A 0 = (1:Int) then nw (zl z) (lk (zqK46c1_ b z A).snd (0:Int)) else (z 17), if lk (zqK46c1_ b z A).snd (0:Int) = (2:Int) then A + (1:Int) else if lk A 0 = (2:Int) then nw (zl z) (lk (zqK46c1_ b z A).snd (0:Int)) else (z 18), if lk (zqK46c1_ b z A).snd (0:Int) = (3:Int) then A + (1:Int) else if lk A 0 = (3:Int) then nw (zl z) (lk (zqK46c1_ b z A).snd (0:Int)) else (z 19), if lk (zqK46c1_ b z A).snd (0:Int) = (4:Int) then A + (1:Int) else if lk A 0 = (4:Int) then nw (zl z) (lk (zqK46c1_ b z A).snd (0:Int)) else (z 20), if lk (zqK46c1_ b z A).snd (0:Int) = (5:Int) then A + (1:Int) else if lk A 0 = (5:Int) then nw (zl z) (lk (zqK46c1_ b z A).snd (0:Int)) else (z 21), if lk (zqK46c1_ b z A).snd (0:Int) = (6:Int) then A + (1:Int) else if lk A 0 = (6:Int) then nw (zl z) (lk (zqK46c1_ b z A).snd (0:Int)) else (z 22), if lk (zqK46c1_ b z A).snd (0:Int) = (7:Int) then A + (1:Int) else if lk A 0 = (7:Int) then nw (zl z) (lk (zqK46c1_ b z A).snd (0:Int)) else (z 23), if lk (zqK46c1_ b z A).snd (0:Int) = (8:Int) then A + (1:Int) else if lk A 0 = (8:Int) then nw (zl z) (lk (zqK46c1_ b z A).snd (0:Int)) else (z 24), if lk (zqK46c1_ b z A).snd (0:Int) = (9:Int) then A + (1:Int) else if lk A 0 = (9:Int) then nw (zl z) (lk (zqK46c1_ b z A).snd (0:Int)) else (z 25), if lk (zqK46c1_ b z A).snd (0:Int) = (10:Int) then A + (1:Int) else if lk A 0 = (10:Int) then nw (zl z) (lk (zqK46c1_ b z A).snd (0:Int)) else (z 26), if lk (zqK46c1_ b z A).snd (0:Int) = (11:Int) then A + (1:Int) else if lk A 0 = (11:Int) then nw (zl z) (lk (zqK46c1_ b z A).snd (0:Int)) else (z 27), if lk (zqK46c1_ b z A).snd (0:Int) = (12:Int) then A + (1:Int) else if lk A 0 = (12:Int) then nw (zl z) (lk (zqK46c1_ b z A).snd (0:Int)) else (z 28), if lk (zqK46c1_ b z A).snd (0:Int) = (13:Int) then A + (1:Int) else if lk A 0 = (13:Int) then nw (zl z) (lk (zqK46c1_ b z A).snd (0:Int)) else (z 29), if lk (zqK46c1_ b z A).snd (0:Int) = (14:Int) then A + (1:Int) else if lk A 0 = (14:Int) then nw (zl z) (lk (zqK46c1_ b z A).snd (0:Int)) else (z 30), if lk (zqK46c1_ b z A).snd (0:Int) = (15:Int) then A + (1:Int) else if lk A 0 = (15:Int) then nw (zl z) (lk (zqK46c1_ b z A).snd (0:Int)) else (z 31)]
variable (b : Nat → Bool) (z : Nat → Int) (A B x:Int)

theorem sd6c (hv : B1.allMay (zl z) = true) (ho : B1.opMayL [6, A, B, x] = true) (hn : skN (bl b) (zl z) 6 A B x = -1) (ha : ¬ nxV (bfG (bl b) (zl z) A 0 6 (bfG (bl b) (zl z) A 1 6 (-1)).2).2 (nw (zl z) (lk (bfG (bl b) (zl z) A 0 6 (bfG (bl b) (zl z) A 1 6 (-1)).2).2 0)) = A) (hx1 : x = 1) :
    ∃ hh, vcOf (runCall Try.prog doS noL 6000 13 [.agg (viewOf (bl b) (zl z)), .agg [.int .i64 (.c 6), .int .i64 (.s A), .int .i64 (.s B), .int .i64 (.s x)]] H0 hh) (fun v H1 => retP 0 (lastBlk v) v H1 (doneAsk (bl b) (insZ (insZ (zl z) A (bfG (bl b) (zl z) A 0 6 (bfG (bl b) (zl z) A 1 6 (-1)).2).2 0) A (bfG (bl b) (zl z) A 1 6 (-1)).2 1)) (ansB (0) (A)) 1) := by
  have hz := zsOk_f z hv
  have oA : 0 ≤ A ∧ A < 5 ∧ 0 ≤ x ∧ x < 2 ∧ 0 ≤ B ∧ B < 5 := by have := ho; simp [B1.opMayL, B1.opMay] at this; omega
  obtain ⟨p1, p2, p3, p4, p5⟩ := bfG_ok (bl b) (zl z) A 1 (by omega) 6 (-1) (by omega) (by omega) (by omega)
  have p3 := p3 (by omega)
  obtain ⟨q1, q2, q3, q4, q5⟩ := bfG_ok (bl b) (zl z) A 0 (by omega) 6 (bfG (bl b) (zl z) A 1 6 (-1)).2 p1 p2 (by have := p1; show 5 - (bfG (bl b) (zl z) A 1 6 (-1)).2 ≤ ((6:Nat):Int); omega)
  have q3 := q3 p3
  have y1 := hz (bfG (bl b) (zl z) A 1 6 (-1)).2 1 ⟨p1, p2, by omega, by omega⟩
  have y2 := hz (bfG (bl b) (zl z) A 0 6 (bfG (bl b) (zl z) A 1 6 (-1)).2).2 0 ⟨q1, q2, by omega, by omega⟩
  have y9 := hz (-1) 0 ⟨by omega, by omega, by omega, by omega⟩
  have y3 := del_f z A (bfG (bl b) (zl z) A 0 6 (bfG (bl b) (zl z) A 1 6 (-1)).2).2 (bfG (bl b) (zl z) A 1 6 (-1)).2 y1 ⟨p1, p2⟩
  obtain ⟨f1, f2, f3⟩ := skN6 oA.1 hn
  have f3 := f3.resolve_left ha
  simp only [skHi, skLo] at f1 f2
  clear hn
  have f4 := f3.1
  have f5 := f3.2 hx1
  clear f3
  have wA : IntKind.i64.wrap (A + 1) = A + 1 := wrapk _ (by omega)

  let bL : List Bool := (bl b)
  let zL : List Int := (zl z)
  let q1_ := (zqK46c1_ b z A)
  let q2_ := (zqK46c3_ b z A)
  let q3_ := (zqK46c2_ b z A)
  let q4_ := (lk (bfG bL zL A 1 6 (-1)).snd (1:Int))
  rcases eb (!B1.allMay zL) with h0 | h0
  · exact ff (by (try dsimp only [q1_, q2_, q3_, q4_, bL, zL, zqK46c1_, zqK46c2_, zqK46c3_] at *); clear y1 y2 y3 y9 p5 q5 hz; simp only [hv, ho] at *; simp at *)
  ·
   rcases eb (!B1.opMayL [(6:Int), A, B, x]) with h1 | h1
   · exact ff (by (try dsimp only [q1_, q2_, q3_, q4_, bL, zL, zqK46c1_, zqK46c2_, zqK46c3_] at *); clear y1 y2 y3 y9 p5 q5 hz; simp only [hv, ho] at *; simp at *)
   ·
    rcases eb (decide ((bfG bL zL A 1 6 (-1)).fst = (-1:Int))) with h2 | h2
    ·
     rcases eb (decide (q1_.fst = (-1:Int))) with h3 | h3
     ·
      rcases eb (kn bL (lk q1_.snd 0)) with h4 | h4
      ·
       rcases eb (nxV q1_.snd (nw zL (lk q1_.snd 0)) == A) with h5 | h5
       · exact ff (by ((try dsimp only [q1_, q2_, q3_, q4_, bL, zL, zqK46c1_, zqK46c2_, zqK46c3_] at *); clear y1 y2 y3 y9 p5 q5 hz hv; first | (simp at *; omega) | (simp_all; done)))
       ·
        rcases eb (kn bL (lk A 0)) with h6 | h6
        ·
         rcases eb (x == (1:Int)) with h7 | h7
         ·
          rcases eb (kn bL (lk A 1)) with h8 | h8
          ·
           rcases eb (kn bL q4_) with h9 | h9
           ·
            refine vcIntro (hx2 11 2012) (an (an (an (show (-1:Int) ≤ (bfG bL zL A 1 6 (-1)).snd by (try dsimp only [q1_, q2_, q3_, q4_, bL, zL, zqK46c1_, zqK46c2_, zqK46c3_] at *); omega) (an (show (bfG bL zL A 1 6 (-1)).snd + (1:Int) ≤ (5:Int) by (try dsimp only [q1_, q2_, q3_, q4_, bL, zL, zqK46c1_, zqK46c2_, zqK46c3_] at *); omega) (an (show (0:Int) ≤ (1:Int) by (try dsimp only [q1_, q2_, q3_, q4_, bL, zL, zqK46c1_, zqK46c2_, zqK46c3_] at *); omega) (show (2:Int) ≤ (2:Int) by (try dsimp only [q1_, q2_, q3_, q4_, bL, zL, zqK46c1_, zqK46c2_, zqK46c3_] at *); omega)))) (an (an (show (-1:Int) ≤ A by (try dsimp only [q1_, q2_, q3_, q4_, bL, zL, zqK46c1_, zqK46c2_, zqK46c3_] at *); omega) (an (show A + (1:Int) ≤ (5:Int) by (try dsimp only [q1_, q2_, q3_, q4_, bL, zL, zqK46c1_, zqK46c2_, zqK46c3_] at *); omega) (an (show (0:Int) ≤ (1:Int) by (try dsimp only [q1_, q2_, q3_, q4_, bL, zL, zqK46c1_, zqK46c2_, zqK46c3_] at *); omega) (show (2:Int) ≤ (2:Int) by (try dsimp only [q1_, q2_, q3_, q4_, bL, zL, zqK46c1_, zqK46c2_, zqK46c3_] at *); omega)))) (an (an (show (-1:Int) ≤ (bfG bL zL A 1 6 (-1)).snd by (try dsimp only [q1_, q2_, q3_, q4_, bL, zL, zqK46c1_, zqK46c2_, zqK46c3_] at *); omega) (an (show (bfG bL zL A 1 6 (-1)).snd + (1:Int) ≤ (5:Int) by (try dsimp only [q1_, q2_, q3_, q4_, bL, zL, zqK46c1_, zqK46c2_, zqK46c3_] at *); omega) (an (show (0:Int) ≤ (1:Int) by (try dsimp only [q1_, q2_, q3_, q4_, bL, zL, zqK46c1_, zqK46c2_, zqK46c3_] at *); omega) (show (2:Int) ≤ (2:Int) by (try dsimp only [q1_, q2_, q3_, q4_, bL, zL, zqK46c1_, zqK46c2_, zqK46c3_] at *); omega)))) (an h9 (an (an (show (-1:Int) ≤ A by (try dsimp only [q1_, q2_, q3_, q4_, bL, zL, zqK46c1_, zqK46c2_, zqK46c3_] at *); omega) (an (show A + (1:Int) ≤ (5:Int) by (try dsimp only [q1_, q2_, q3_, q4_, bL, zL, zqK46c1_, zqK46c2_, zqK46c3_] at *); omega) (an (show (0:Int) ≤ (1:Int) by (try dsimp only [q1_, q2_, q3_, q4_, bL, zL, zqK46c1_, zqK46c2_, zqK46c3_] at *); omega) (show (2:Int) ≤ (2:Int) by (try dsimp only [q1_, q2_, q3_, q4_, bL, zL, zqK46c1_, zqK46c2_, zqK46c3_] at *); omega)))) (an h8 (an h7 (an (an (show (-1:Int) ≤ q1_.snd by (try dsimp only [q1_, q2_, q3_, q4_, bL, zL, zqK46c1_, zqK46c2_, zqK46c3_] at *); omega) (an (show q1_.snd + (1:Int) ≤ (5:Int) by (try dsimp only [q1_, q2_, q3_, q4_, bL, zL, zqK46c1_, zqK46c2_, zqK46c3_] at *); omega) (an (show (0:Int) ≤ (0:Int) by (try dsimp only [q1_, q2_, q3_, q4_, bL, zL, zqK46c1_, zqK46c2_, zqK46c3_] at *); omega) (show (1:Int) ≤ (2:Int) by (try dsimp only [q1_, q2_, q3_, q4_, bL, zL, zqK46c1_, zqK46c2_, zqK46c3_] at *); omega)))) (an (an (show (-1:Int) ≤ A by (try dsimp only [q1_, q2_, q3_, q4_, bL, zL, zqK46c1_, zqK46c2_, zqK46c3_] at *); omega) (an (show A + (1:Int) ≤ (5:Int) by (try dsimp only [q1_, q2_, q3_, q4_, bL, zL, zqK46c1_, zqK46c2_, zqK46c3_] at *); omega) (an (show (0:Int) ≤ (0:Int) by (try dsimp only [q1_, q2_, q3_, q4_, bL, zL, zqK46c1_, zqK46c2_, zqK46c3_] at *); omega) (show (1:Int) ≤ (2:Int) by (try dsimp only [q1_, q2_, q3_, q4_, bL, zL, zqK46c1_, zqK46c2_, zqK46c3_] at *); omega)))) (an (an (show (-1:Int) ≤ q1_.snd by (try dsimp only [q1_, q2_, q3_, q4_, bL, zL, zqK46c1_, zqK46c2_, zqK46c3_] at *); omega) (an (show q1_.snd + (1:Int) ≤ (5:Int) by (try dsimp only [q1_, q2_, q3_, q4_, bL, zL, zqK46c1_, zqK46c2_, zqK46c3_] at *); omega) (an (show (0:Int) ≤ (0:Int) by (try dsimp only [q1_, q2_, q3_, q4_, bL, zL, zqK46c1_, zqK46c2_, zqK46c3_] at *); omega) (show (1:Int) ≤ (2:Int) by (try dsimp only [q1_, q2_, q3_, q4_, bL, zL, zqK46c1_, zqK46c2_, zqK46c3_] at *); omega)))) (an h4 (an (an (show (-1:Int) ≤ A by (try dsimp only [q1_, q2_, q3_, q4_, bL, zL, zqK46c1_, zqK46c2_, zqK46c3_] at *); omega) (an (show A + (1:Int) ≤ (5:Int) by (try dsimp only [q1_, q2_, q3_, q4_, bL, zL, zqK46c1_, zqK46c2_, zqK46c3_] at *); omega) (an (show (0:Int) ≤ (0:Int) by (try dsimp only [q1_, q2_, q3_, q4_, bL, zL, zqK46c1_, zqK46c2_, zqK46c3_] at *); omega) (show (1:Int) ≤ (2:Int) by (try dsimp only [q1_, q2_, q3_, q4_, bL, zL, zqK46c1_, zqK46c2_, zqK46c3_] at *); omega)))) (an h6 (an h5 (an (an (show (-1:Int) ≤ q1_.snd by (try dsimp only [q1_, q2_, q3_, q4_, bL, zL, zqK46c1_, zqK46c2_, zqK46c3_] at *); omega) (an (show q1_.snd + (1:Int) ≤ (5:Int) by (try dsimp only [q1_, q2_, q3_, q4_, bL, zL, zqK46c1_, zqK46c2_, zqK46c3_] at *); omega) (an (show (0:Int) ≤ (0:Int) by (try dsimp only [q1_, q2_, q3_, q4_, bL, zL, zqK46c1_, zqK46c2_, zqK46c3_] at *); omega) (show (1:Int) ≤ (2:Int) by (try dsimp only [q1_, q2_, q3_, q4_, bL, zL, zqK46c1_, zqK46c2_, zqK46c3_] at *); omega)))) (an (an (show (0:Int) ≤ nw zL (lk q1_.snd 0) by (try dsimp only [q1_, q2_, q3_, q4_, bL, zL, zqK46c1_, zqK46c2_, zqK46c3_] at *); unfold nwOk at *; omega) (show nw zL (lk q1_.snd 0) + (1:Int) ≤ (1099511627776:Int) by (try dsimp only [q1_, q2_, q3_, q4_, bL, zL, zqK46c1_, zqK46c2_, zqK46c3_] at *); unfold nwOk at *; omega)) (an h4 (an (an (show (-1:Int) ≤ (bfG bL zL A 1 6 (-1)).snd by (try dsimp only [q1_, q2_, q3_, q4_, bL, zL, zqK46c1_, zqK46c2_, zqK46c3_] at *); omega) (an (show (bfG bL zL A 1 6 (-1)).snd + (1:Int) ≤ (5:Int) by (try dsimp only [q1_, q2_, q3_, q4_, bL, zL, zqK46c1_, zqK46c2_, zqK46c3_] at *); omega) (an (show (0:Int) ≤ (0:Int) by (try dsimp only [q1_, q2_, q3_, q4_, bL, zL, zqK46c1_, zqK46c2_, zqK46c3_] at *); omega) (show (1:Int) ≤ (2:Int) by (try dsimp only [q1_, q2_, q3_, q4_, bL, zL, zqK46c1_, zqK46c2_, zqK46c3_] at *); omega)))) (an (show ∀ (key lv:Int), lkOk key lv → nwOk zL (lk key lv) by exact hz) (an h3 (an (an (show (-1:Int) ≤ (-1:Int) by (try dsimp only [q1_, q2_, q3_, q4_, bL, zL, zqK46c1_, zqK46c2_, zqK46c3_] at *); omega) (an (show (0:Int) ≤ (5:Int) by (try dsimp only [q1_, q2_, q3_, q4_, bL, zL, zqK46c1_, zqK46c2_, zqK46c3_] at *); omega) (an (show (0:Int) ≤ (1:Int) by (try dsimp only [q1_, q2_, q3_, q4_, bL, zL, zqK46c1_, zqK46c2_, zqK46c3_] at *); omega) (show (2:Int) ≤ (2:Int) by (try dsimp only [q1_, q2_, q3_, q4_, bL, zL, zqK46c1_, zqK46c2_, zqK46c3_] at *); omega)))) (an (show ∀ (key lv:Int), lkOk key lv → nwOk zL (lk key lv) by exact hz) (u3 h2 h1 h0))))))))))))))))))))))) (an (an (an tt (cKE_1 b z (an (show (if lk (bfG bL zL A 1 6 (-1)).snd (1:Int) = (0:Int) then A + (1:Int) else if lk A 1 = (0:Int) then nw q2_ q4_ else if lk q1_.snd 0 = (0:Int) then A + (1:Int) else if lk A 0 = (0:Int) then nw zL (lk q1_.snd 0) else (z 16)) = if lk (bfG bL zL A 1 6 (-1)).snd (1:Int) = (0:Int) then IntKind.i64.wrap (A + (1:Int)) else if lk A 1 = (0:Int) then nw q3_ q4_ else if lk q1_.snd 0 = (0:Int) then IntKind.i64.wrap (A + (1:Int)) else if lk A 0 = (0:Int) then nw zL (lk q1_.snd 0) else (z 16) by (try dsimp only [q1_, q2_, q3_, q4_, bL, zL, zqK46c1_, zqK46c2_, zqK46c3_] at *); simp only [wA]; rfl) (an (show (if lk (bfG bL zL A 1 6 (-1)).snd (1:Int) = (1:Int) then A + (1:Int) else if lk A 1 = (1:Int) then nw q2_ q4_ else if lk q1_.snd 0 = (1:Int) then A + (1:Int) else if lk A 0 = (1:Int) then nw zL (lk q1_.snd 0) else (z 17)) = if lk (bfG bL zL A 1 6 (-1)).snd (1:Int) = (1:Int) then IntKind.i64.wrap (A + (1:Int)) else if lk A 1 = (1:Int) then nw q3_ q4_ else if lk q1_.snd 0 = (1:Int) then IntKind.i64.wrap (A + (1:Int)) else if lk A 0 = (1:Int) then nw zL (lk q1_.snd 0) else (z 17) by (try dsimp only [q1_, q2_, q3_, q4_, bL, zL, zqK46c1_, zqK46c2_, zqK46c3_] at *); simp only [wA]; rfl) (an (show (if lk (bfG bL zL A 1 6 (-1)).snd (1:Int) = (2:Int) then A + (1:Int) else if lk A 1 = (2:Int) then nw q2_ q4_ else if lk q1_.snd 0 = (2:Int) then A + (1:Int) else if lk A 0 = (2:Int) then nw zL (lk q1_.snd 0) else (z 18)) = if lk (bfG bL zL A 1 6 (-1)).snd (1:Int) = (2:Int) then IntKind.i64.wrap (A + (1:Int)) else if lk A 1 = (2:Int) then nw q3_ q4_ else if lk q1_.snd 0 = (2:Int) then IntKind.i64.wrap (A + (1:Int)) else if lk A 0 = (2:Int) then nw zL (lk q1_.snd 0) else (z 18) by (try dsimp only [q1_, q2_, q3_, q4_, bL, zL, zqK46c1_, zqK46c2_, zqK46c3_] at *); simp only [wA]; rfl) (an (show (if lk (bfG bL zL A 1 6 (-1)).snd (1:Int) = (3:Int) then A + (1:Int) else if lk A 1 = (3:Int) then nw q2_ q4_ else if lk q1_.snd 0 = (3:Int) then A + (1:Int) else if lk A 0 = (3:Int) then nw zL (lk q1_.snd 0) else (z 19)) = if lk (bfG bL zL A 1 6 (-1)).snd (1:Int) = (3:Int) then IntKind.i64.wrap (A + (1:Int)) else if lk A 1 = (3:Int) then nw q3_ q4_ else if lk q1_.snd 0 = (3:Int) then IntKind.i64.wrap (A + (1:Int)) else if lk A 0 = (3:Int) then nw zL (lk q1_.snd 0) else (z 19) by (try dsimp only [q1_, q2_, q3_, q4_, bL, zL, zqK46c1_, zqK46c2_, zqK46c3_] at *); simp only [wA]; rfl) (an (show (if lk (bfG bL zL A 1 6 (-1)).snd (1:Int) = (4:Int) then A + (1:Int) else if lk A 1 = (4:Int) then nw q2_ q4_ else if lk q1_.snd 0 = (4:Int) then A + (1:Int) else if lk A 0 = (4:Int) then nw zL (lk q1_.snd 0) else (z 20)) = if lk (bfG bL zL A 1 6 (-1)).snd (1:Int) = (4:Int) then IntKind.i64.wrap (A + (1:Int)) else if lk A 1 = (4:Int) then nw q3_ q4_ else if lk q1_.snd 0 = (4:Int) then IntKind.i64.wrap (A + (1:Int)) else if lk A 0 = (4:Int) then nw zL (lk q1_.snd 0) else (z 20) by (try dsimp only [q1_, q2_, q3_, q4_, bL, zL, zqK46c1_, zqK46c2_, zqK46c3_] at *); simp only [wA]; rfl) (an (show (if lk (bfG bL zL A 1 6 (-1)).snd (1:Int) = (5:Int) then A + (1:Int) else if lk A 1 = (5:Int) then nw q2_ q4_ else if lk q1_.snd 0 = (5:Int) then A + (1:Int) else if lk A 0 = (5:Int) then nw zL (lk q1_.snd 0) else (z 21)) = if lk (bfG bL zL A 1 6 (-1)).snd (1:Int) = (5:Int) then IntKind.i64.wrap (A + (1:Int)) else if lk A 1 = (5:Int) then nw q3_ q4_ else if lk q1_.snd 0 = (5:Int) then IntKind.i64.wrap (A + (1:Int)) else if lk A 0 = (5:Int) then nw zL (lk q1_.snd 0) else (z 21) by (try dsimp only [q1_, q2_, q3_, q4_, bL, zL, zqK46c1_, zqK46c2_, zqK46c3_] at *); simp only [wA]; rfl) (an (show (if lk (bfG bL zL A 1 6 (-1)).snd (1:Int) = (6:Int) then A + (1:Int) else if lk A 1 = (6:Int) then nw q2_ q4_ else if lk q1_.snd 0 = (6:Int) then A + (1:Int) else if lk A 0 = (6:Int) then nw zL (lk q1_.snd 0) else (z 22)) = if lk (bfG bL zL A 1 6 (-1)).snd (1:Int) = (6:Int) then IntKind.i64.wrap (A + (1:Int)) else if lk A 1 = (6:Int) then nw q3_ q4_ else if lk q1_.snd 0 = (6:Int) then IntKind.i64.wrap (A + (1:Int)) else if lk A 0 = (6:Int) then nw zL (lk q1_.snd 0) else (z 22) by (try dsimp only [q1_, q2_, q3_, q4_, bL, zL, zqK46c1_, zqK46c2_, zqK46c3_] at *); simp only [wA]; rfl) (an (show (if lk (bfG bL zL A 1 6 (-1)).snd (1:Int) = (7:Int) then A + (1:Int) else if lk A 1 = (7:Int) then nw q2_ q4_ else if lk q1_.snd 0 = (7:Int) then A + (1:Int) else if lk A 0 = (7:Int) then nw zL (lk q1_.snd 0) else (z 23)) = if lk (bfG bL zL A 1 6 (-1)).snd (1:Int) = (7:Int) then IntKind.i64.wrap (A + (1:Int)) else if lk A 1 = (7:Int) then nw q3_ q4_ else if lk q1_.snd 0 = (7:Int) then IntKind.i64.wrap (A + (1:Int)) else if lk A 0 = (7:Int) then nw zL (lk q1_.snd 0) else (z 23) by (try dsimp only [q1_, q2_, q3_, q4_, bL, zL, zqK46c1_, zqK46c2_, zqK46c3_] at *); simp only [wA]; rfl) (an (show (if lk (bfG bL zL A 1 6 (-1)).snd (1:Int) = (8:Int) then A + (1:Int) else if lk A 1 = (8:Int) then nw q2_ q4_ else if lk q1_.snd 0 = (8:Int) then A + (1:Int) else if lk A 0 = (8:Int) then nw zL (lk q1_.snd 0) else (z 24)) = if lk (bfG bL zL A 1 6 (-1)).snd (1:Int) = (8:Int) then IntKind.i64.wrap (A + (1:Int)) else if lk A 1 = (8:Int) then nw q3_ q4_ else if lk q1_.snd 0 = (8:Int) then IntKind.i64.wrap (A + (1:Int)) else if lk A 0 = (8:Int) then nw zL (lk q1_.snd 0) else (z 24) by (try dsimp only [q1_, q2_, q3_, q4_, bL, zL, zqK46c1_, zqK46c2_, zqK46c3_] at *); simp only [wA]; rfl) (an (show (if lk (bfG bL zL A 1 6 (-1)).snd (1:Int) = (9:Int) then A + (1:Int) else if lk A 1 = (9:Int) then nw q2_ q4_ else if lk q1_.snd 0 = (9:Int) then A + (1:Int) else if lk A 0 = (9:Int) then nw zL (lk q1_.snd 0) else (z 25)) = if lk (bfG bL zL A 1 6 (-1)).snd (1:Int) = (9:Int) then IntKind.i64.wrap (A + (1:Int)) else if lk A 1 = (9:Int) then nw q3_ q4_ else if lk q1_.snd 0 = (9:Int) then IntKind.i64.wrap (A + (1:Int)) else if lk A 0 = (9:Int) then nw zL (lk q1_.snd 0) else (z 25) by (try dsimp only [q1_, q2_, q3_, q4_, bL, zL, zqK46c1_, zqK46c2_, zqK46c3_] at *); simp only [wA]; rfl) (an (show (if lk (bfG bL zL A 1 6 (-1)).snd (1:Int) = (10:Int) then A + (1:Int) else if lk A 1 = (10:Int) then nw q2_ q4_ else if lk q1_.snd 0 = (10:Int) then A + (1:Int) else if lk A 0 = (10:Int) then nw zL (lk q1_.snd 0) else (z 26)) = if lk (bfG bL zL A 1 6 (-1)).snd (1:Int) = (10:Int) then IntKind.i64.wrap (A + (1:Int)) else if lk A 1 = (10:Int) then nw q3_ q4_ else if lk q1_.snd 0 = (10:Int) then IntKind.i64.wrap (A + (1:Int)) else if lk A 0 = (10:Int) then nw zL (lk q1_.snd 0) else (z 26) by (try dsimp only [q1_, q2_, q3_, q4_, bL, zL, zqK46c1_, zqK46c2_, zqK46c3_] at *); simp only [wA]; rfl) (an (show (if lk (bfG bL zL A 1 6 (-1)).snd (1:Int) = (11:Int) then A + (1:Int) else if lk A 1 = (11:Int) then nw q2_ q4_ else if lk q1_.snd 0 = (11:Int) then A + (1:Int) else if lk A 0 = (11:Int) then nw zL (lk q1_.snd 0) else (z 27)) = if lk (bfG bL zL A 1 6 (-1)).snd (1:Int) = (11:Int) then IntKind.i64.wrap (A + (1:Int)) else if lk A 1 = (11:Int) then nw q3_ q4_ else if lk q1_.snd 0 = (11:Int) then IntKind.i64.wrap (A + (1:Int)) else if lk A 0 = (11:Int) then nw zL (lk q1_.snd 0) else (z 27) by (try dsimp only [q1_, q2_, q3_, q4_, bL, zL, zqK46c1_, zqK46c2_, zqK46c3_] at *); simp only [wA]; rfl) (an (show (if lk (bfG bL zL A 1 6 (-1)).snd (1:Int) = (12:Int) then A + (1:Int) else if lk A 1 = (12:Int) then nw q2_ q4_ else if lk q1_.snd 0 = (12:Int) then A + (1:Int) else if lk A 0 = (12:Int) then nw zL (lk q1_.snd 0) else (z 28)) = if lk (bfG bL zL A 1 6 (-1)).snd (1:Int) = (12:Int) then IntKind.i64.wrap (A + (1:Int)) else if lk A 1 = (12:Int) then nw q3_ q4_ else if lk q1_.snd 0 = (12:Int) then IntKind.i64.wrap (A + (1:Int)) else if lk A 0 = (12:Int) then nw zL (lk q1_.snd 0) else (z 28) by (try dsimp only [q1_, q2_, q3_, q4_, bL, zL, zqK46c1_, zqK46c2_, zqK46c3_] at *); simp only [wA]; rfl) (an (show (if lk (bfG bL zL A 1 6 (-1)).snd (1:Int) = (13:Int) then A + (1:Int) else if lk A 1 = (13:Int) then nw q2_ q4_ else if lk q1_.snd 0 = (13:Int) then A + (1:Int) else if lk A 0 = (13:Int) then nw zL (lk q1_.snd 0) else (z 29)) = if lk (bfG bL zL A 1 6 (-1)).snd (1:Int) = (13:Int) then IntKind.i64.wrap (A + (1:Int)) else if lk A 1 = (13:Int) then nw q3_ q4_ else if lk q1_.snd 0 = (13:Int) then IntKind.i64.wrap (A + (1:Int)) else if lk A 0 = (13:Int) then nw zL (lk q1_.snd 0) else (z 29) by (try dsimp only [q1_, q2_, q3_, q4_, bL, zL, zqK46c1_, zqK46c2_, zqK46c3_] at *); simp only [wA]; rfl) (an (show (if lk (bfG bL zL A 1 6 (-1)).snd (1:Int) = (14:Int) then A + (1:Int) else if lk A 1 = (14:Int) then nw q2_ q4_ else if lk q1_.snd 0 = (14:Int) then A + (1:Int) else if lk A 0 = (14:Int) then nw zL (lk q1_.snd 0) else (z 30)) = if lk (bfG bL zL A 1 6 (-1)).snd (1:Int) = (14:Int) then IntKind.i64.wrap (A + (1:Int)) else if lk A 1 = (14:Int) then nw q3_ q4_ else if lk q1_.snd 0 = (14:Int) then IntKind.i64.wrap (A + (1:Int)) else if lk A 0 = (14:Int) then nw zL (lk q1_.snd 0) else (z 30) by (try dsimp only [q1_, q2_, q3_, q4_, bL, zL, zqK46c1_, zqK46c2_, zqK46c3_] at *); simp only [wA]; rfl) (an (show (if lk (bfG bL zL A 1 6 (-1)).snd (1:Int) = (15:Int) then A + (1:Int) else if lk A 1 = (15:Int) then nw q2_ q4_ else if lk q1_.snd 0 = (15:Int) then A + (1:Int) else if lk A 0 = (15:Int) then nw zL (lk q1_.snd 0) else (z 31)) = if lk (bfG bL zL A 1 6 (-1)).snd (1:Int) = (15:Int) then IntKind.i64.wrap (A + (1:Int)) else if lk A 1 = (15:Int) then nw q3_ q4_ else if lk q1_.snd 0 = (15:Int) then IntKind.i64.wrap (A + (1:Int)) else if lk A 0 = (15:Int) then nw zL (lk q1_.snd 0) else (z 31) by (try dsimp only [q1_, q2_, q3_, q4_, bL, zL, zqK46c1_, zqK46c2_, zqK46c3_] at *); simp only [wA]; rfl) (an tt (an tt tt)))))))))))))))))))) tt) (an (zo (an (ri ((0:Int))) (ri A))) tt))) ?_
            kernel_rfl
           · exact ff (by ((try dsimp only [q1_, q2_, q3_, q4_, bL, zL, zqK46c1_, zqK46c2_, zqK46c3_] at *); clear y1 y2 y3 y9 p5 q5 hz hv; simp at * <;> simp_all <;> done))
          · exact ff (by ((try dsimp only [q1_, q2_, q3_, q4_, bL, zL, zqK46c1_, zqK46c2_, zqK46c3_] at *); clear y1 y2 y3 y9 p5 q5 hz hv; simp at * <;> simp_all <;> done))
         · exact ff (by ((try dsimp only [q1_, q2_, q3_, q4_, bL, zL, zqK46c1_, zqK46c2_, zqK46c3_] at *); clear y1 y2 y3 y9 p5 q5 hz hv; first | (simp at *; omega) | (simp_all; done)))
        · exact ff (by ((try dsimp only [q1_, q2_, q3_, q4_, bL, zL, zqK46c1_, zqK46c2_, zqK46c3_] at *); clear y1 y2 y3 y9 p5 q5 hz hv; simp at * <;> simp_all <;> done))
      · exact ff (by ((try dsimp only [q1_, q2_, q3_, q4_, bL, zL, zqK46c1_, zqK46c2_, zqK46c3_] at *); clear y1 y2 y3 y9 p5 q5 hz hv; simp at * <;> simp_all <;> done))
     · exact ff (by ((try dsimp only [q1_, q2_, q3_, q4_, bL, zL, zqK46c1_, zqK46c2_, zqK46c3_] at *); clear y1 y2 y3 y9 p5 q5 hz hv; first | (first | (simp at *; omega) | (simp_all; done)) | (simp_all; done)))
    · exact ff (by ((try dsimp only [q1_, q2_, q3_, q4_, bL, zL, zqK46c1_, zqK46c2_, zqK46c3_] at *); clear y1 y2 y3 y9 p5 q5 hz hv; first | (simp at *; omega) | (simp_all; done)))
end
end Go.Ideal.K6
