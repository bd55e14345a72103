/- Put together of: K47n K47a K47b K47c. Own text; nothing here is trusted. -/
import Derived.Test.YtpmgdkldhimofaaKDf
namespace Go.Ideal.K6
section
open Go.Proofs Go.Ideal Go.Ideal.L1
set_option linter.unusedSimpArgs false
set_option linter.unusedVariables false
set_option maxRecDepth 100000
set_option maxHeartbeats 80000000
theorem cKF_0 (b : Nat → Bool) (z : Nat → Int) {R : Prop} (h : R) : ((b 0):Bool) = (b 0) ∧ (((b 1):Bool) = (b 1) ∧ (((b 2):Bool) = (b 2) ∧ (((b 3):Bool) = (b 3) ∧ (((b 4):Bool) = (b 4) ∧ (((b 5):Bool) = (b 5) ∧ (((b 6):Bool) = (b 6) ∧ (((b 7):Bool) = (b 7) ∧ (((b 8):Bool) = (b 8) ∧ (((b 9):Bool) = (b 9) ∧ (((b 10):Bool) = (b 10) ∧ (((b 11):Bool) = (b 11) ∧ (((b 12):Bool) = (b 12) ∧ (((b 13):Bool) = (b 13) ∧ (((b 14):Bool) = (b 14) ∧ (((b 15):Bool) = (b 15) ∧ (((z 0):Int) = (z 0) ∧ (((z 1):Int) = (z 1) ∧ (((z 2):Int) = (z 2) ∧ (((z 3):Int) = (z 3) ∧ (((z 4):Int) = (z 4) ∧ (((z 5):Int) = (z 5) ∧ (((z 6):Int) = (z 6) ∧ (((z 7):Int) = (z 7) ∧ (((z 8):Int) = (z 8) ∧ (((z 9):Int) = (z 9) ∧ (((z 10):Int) = (z 10) ∧ (((z 11):Int) = (z 11) ∧ (((z 12):Int) = (z 12) ∧ (((z 13):Int) = (z 13) ∧ (((z 14):Int) = (z 14) ∧ (((z 15):Int) = (z 15) ∧ (((z 16):Int) = (z 16) ∧ (((z 17):Int) = (z 17) ∧ (((z 18):Int) = (z 18) ∧ (((z 19):Int) = (z 19) ∧ (((z 20):Int) = (z 20) ∧ (((z 21):Int) = (z 21) ∧ (((z 22):Int) = (z 22) ∧ (((z 23):Int) = (z 23) ∧ (((z 24):Int) = (z 24) ∧ (((z 25):Int) = (z 25) ∧ (((z 26):Int) = (z 26) ∧ (((z 27):Int) = (z 27) ∧ (((z 28):Int) = (z 28) ∧ (((z 29):Int) = (z 29) ∧ (((z 30):Int) = (z 30) ∧ (R))))))))))))))))))))))))))))))))))))))))))))))) := ⟨rfl, ⟨rfl, ⟨rfl, ⟨rfl, ⟨rfl, ⟨rfl, ⟨rfl, ⟨rfl, ⟨rfl, ⟨rfl, ⟨rfl, ⟨rfl, ⟨rfl, ⟨rfl, ⟨rfl, ⟨rfl, ⟨rfl, ⟨rfl, ⟨rfl, ⟨rfl, ⟨rfl, ⟨rfl, ⟨rfl, ⟨rfl, ⟨rfl, ⟨rfl, ⟨rfl, ⟨rfl, ⟨rfl, ⟨rfl, ⟨rfl, ⟨rfl, ⟨rfl, ⟨rfl, ⟨rfl, ⟨rfl, ⟨rfl, ⟨rfl, ⟨rfl, ⟨rfl, ⟨rfl, ⟨rfl, ⟨rfl, ⟨rfl, ⟨rfl, ⟨rfl, ⟨rfl, h⟩⟩⟩⟩⟩⟩⟩⟩⟩⟩⟩⟩⟩⟩⟩⟩⟩⟩⟩⟩⟩⟩⟩⟩⟩⟩⟩⟩⟩⟩⟩⟩⟩⟩⟩⟩⟩⟩⟩⟩⟩⟩⟩⟩⟩⟩⟩
theorem cKF_1 (b : Nat → Bool) (z : Nat → Int) {R : Prop} (h : R) : ((b 0):Bool) = (b 0) ∧ (((b 1):Bool) = (b 1) ∧ (((b 2):Bool) = (b 2) ∧ (((b 3):Bool) = (b 3) ∧ (((b 4):Bool) = (b 4) ∧ (((b 5):Bool) = (b 5) ∧ (((b 6):Bool) = (b 6) ∧ (((b 7):Bool) = (b 7) ∧ (((b 8):Bool) = (b 8) ∧ (((b 9):Bool) = (b 9) ∧ (((b 10):Bool) = (b 10) ∧ (((b 11):Bool) = (b 11) ∧ (((b 12):Bool) = (b 12) ∧ (((b 13):Bool) = (b 13) ∧ (((b 14):Bool) = (b 14) ∧ (((b 15):Bool) = (b 15) ∧ (((z 0):Int) = (z 0) ∧ (((z 1):Int) = (z 1) ∧ (((z 2):Int) = (z 2) ∧ (((z 3):Int) = (z 3) ∧ (((z 4):Int) = (z 4) ∧ (((z 5):Int) = (z 5) ∧ (((z 6):Int) = (z 6) ∧ (((z 7):Int) = (z 7) ∧ (((z 8):Int) = (z 8) ∧ (((z 9):Int) = (z 9) ∧ (((z 10):Int) = (z 10) ∧ (((z 11):Int) = (z 11) ∧ (((z 12):Int) = (z 12) ∧ (((z 13):Int) = (z 13) ∧ (((z 14):Int) = (z 14) ∧ (((z 15):Int) = (z 15) ∧ (R)))))))))))))))))))))))))))))))) := ⟨rfl, ⟨rfl, ⟨rfl, ⟨rfl, ⟨rfl, ⟨rfl, ⟨rfl, ⟨rfl, ⟨rfl, ⟨rfl, ⟨rfl, ⟨rfl, ⟨rfl, ⟨rfl, ⟨rfl, ⟨rfl, ⟨rfl, ⟨rfl, ⟨rfl, ⟨rfl, ⟨rfl, ⟨rfl, ⟨rfl, ⟨rfl, ⟨rfl, ⟨rfl, ⟨rfl, ⟨rfl, ⟨rfl, ⟨rfl, ⟨rfl, ⟨rfl, h⟩⟩⟩⟩⟩⟩⟩⟩⟩⟩⟩⟩⟩⟩⟩⟩⟩⟩⟩⟩⟩⟩⟩⟩⟩⟩⟩⟩⟩⟩⟩⟩
variable (b : Nat → Bool) (z : Nat → Int) (A B x:Int)

theorem sn7u (hv : B1.allMay (zl z) = true) (ho : B1.opMayL [7, A, B, x] = true) (hn : ¬ skN (bl b) (zl z) 7 A B x = -1) (hu : (nxV (bfG (bl b) (zl z) A 1 6 (-1)).2 (nw (delZ (zl z) A (bfG (bl b) (zl z) A 0 6 (bfG (bl b) (zl z) A 1 6 (-1)).2).2 0) (lk (bfG (bl b) (zl z) A 1 6 (-1)).2 1)) == A) = true) (hup : (nxV (bfG (bl b) (zl z) A 1 6 (-1)).2 (nw (delZ (zl z) A (bfG (bl b) (zl z) A 0 6 (bfG (bl b) (zl z) A 1 6 (-1)).2).2 0) (lk (bfG (bl b) (zl z) A 1 6 (-1)).2 1)) == A) = true) :
    ∃ hh, vcOf (runCall Try.prog doS noL 6000 13 [.agg (viewOf (bl b) (zl z)), .agg [.int .i64 (.c 7), .int .i64 (.s A), .int .i64 (.s B), .int .i64 (.s x)]] H0 hh) (fun v H1 => retP 0 (lastBlk v) v H1 (needAsk (skN (bl b) (zl z) 7 A B x) (bl b) (zl z)) [] 0) := by
  have hz := zsOk_f z hv
  have oA : 0 ≤ A ∧ A < 5 ∧ 0 ≤ x ∧ x < 2 ∧ 0 ≤ B ∧ B < 5 := by have := ho; simp [B1.opMayL, B1.opMay] at this; omega
  obtain ⟨p1, p2, p3, p4, p5⟩ := bfG_ok (bl b) (zl z) A 1 (by omega) 6 (-1) (by omega) (by omega) (by omega)
  have p3 := p3 (by omega)
  obtain ⟨q1, q2, q3, q4, q5⟩ := bfG_ok (bl b) (zl z) A 0 (by omega) 6 (bfG (bl b) (zl z) A 1 6 (-1)).2 p1 p2 (by have := p1; show 5 - (bfG (bl b) (zl z) A 1 6 (-1)).2 ≤ ((6:Nat):Int); omega)
  have q3 := q3 p3
  have y1 := hz (bfG (bl b) (zl z) A 1 6 (-1)).2 1 ⟨p1, p2, by omega, by omega⟩
  have y2 := hz (bfG (bl b) (zl z) A 0 6 (bfG (bl b) (zl z) A 1 6 (-1)).2).2 0 ⟨q1, q2, by omega, by omega⟩
  have y9 := hz (-1) 0 ⟨by omega, by omega, by omega, by omega⟩
  have y3 := del_f z A (bfG (bl b) (zl z) A 0 6 (bfG (bl b) (zl z) A 1 6 (-1)).2).2 (bfG (bl b) (zl z) A 1 6 (-1)).2 y1 ⟨p1, p2⟩
  have hus : skUp (bl b) (zl z) A := by have := hu; simpa [skUp, skHi, skLo] using this
  simp only [skN, skF, hus] at hn
  simp only [skHi, skLo, skAt] at hn
  simp at hn
  clear hu

  let bL : List Bool := (bl b)
  let zL : List Int := (zl z)
  let q2_ := (bfG bL zL A 0 6 (bfG bL zL A 1 6 (-1)).snd)
  let q1_ := [(z 0), (z 1), (z 2), (z 3), (z 4), (z 5), (z 6), (z 7), (z 8), (z 9), (z 10), (z 11), (z 12), (z 13), (z 14), (z 15), if lk A 0 = (0:Int) then (0:Int) else if lk q2_.snd 0 = (0:Int) then nw zL (lk A 0) else (z 16), if lk A 0 = (1:Int) then (0:Int) else if lk q2_.snd 0 = (1:Int) then nw zL (lk A 0) else (z 17), if lk A 0 = (2:Int) then (0:Int) else if lk q2_.snd 0 = (2:Int) then nw zL (lk A 0) else (z 18), if lk A 0 = (3:Int) then (0:Int) else if lk q2_.snd 0 = (3:Int) then nw zL (lk A 0) else (z 19), if lk A 0 = (4:Int) then (0:Int) else if lk q2_.snd 0 = (4:Int) then nw zL (lk A 0) else (z 20), if lk A 0 = (5:Int) then (0:Int) else if lk q2_.snd 0 = (5:Int) then nw zL (lk A 0) else (z 21), if lk A 0 = (6:Int) then (0:Int) else if lk q2_.snd 0 = (6:Int) then nw zL (lk A 0) else (z 22), if lk A 0 = (7:Int) then (0:Int) else if lk q2_.snd 0 = (7:Int) then nw zL (lk A 0) else (z 23), if lk A 0 = (8:Int) then (0:Int) else if lk q2_.snd 0 = (8:Int) then nw zL (lk A 0) else (z 24), if lk A 0 = (9:Int) then (0:Int) else if lk q2_.snd 0 = (9:Int) then nw zL (lk A 0) else (z 25), if lk A 0 = (10:Int) then (0:Int) else if lk q2_.snd 0 = (10:Int) then nw zL (lk A 0) else (z 26), if lk A 0 = (11:Int) then (0:Int) else if lk q2_.snd 0 = (11:Int) then nw zL (lk A 0) else (z 27), if lk A 0 = (12:Int) then (0:Int) else if lk q2_.snd 0 = (12:Int) then nw zL (lk A 0) else (z 28), if lk A 0 = (13:Int) then (0:Int) else if lk q2_.snd 0 = (13:Int) then nw zL (lk A 0) else (z 29), if lk A 0 = (14:Int) then (0:Int) else if lk q2_.snd 0 = (14:Int) then nw zL (lk A 0) else (z 30), if lk A 0 = (15:Int) then (0:Int) else if lk q2_.snd 0 = (15:Int) then nw zL (lk A 0) else (z 31)]
  let q3_ := (lk (bfG bL zL A 1 6 (-1)).snd (1:Int))
  rcases eb (!B1.allMay zL) with h0 | h0
  · exact ff (by (try dsimp only [q2_, q1_, q3_, bL, zL] at *); clear y1 y2 y3 y9 p5 q5 hz; simp only [hv, ho] at *; simp at *)
  ·
   rcases eb (!B1.opMayL [(7:Int), A, B, x]) with h1 | h1
   · exact ff (by (try dsimp only [q2_, q1_, q3_, bL, zL] at *); clear y1 y2 y3 y9 p5 q5 hz; simp only [hv, ho] at *; simp at *)
   ·
    rcases eb (decide ((bfG bL zL A 1 6 (-1)).fst = (-1:Int))) with h2 | h2
    ·
     rcases eb (decide (q2_.fst = (-1:Int))) with h3 | h3
     ·
      rcases eb (kn bL (lk q2_.snd 0)) with h4 | h4
      ·
       rcases eb (nxV q2_.snd (nw zL (lk q2_.snd 0)) != A) with h5 | h5
       · exact ff (by ((try dsimp only [q2_, q1_, q3_, bL, zL] at *); clear y1 y2 y3 y9 p5 q5 hz hv; first | (simp at *; omega) | (simp_all; done)))
       ·
        rcases eb (kn bL (lk A 0)) with h6 | h6
        ·
         rcases eb (kn bL q3_) with h7 | h7
         ·
          rcases eb (nxV (bfG bL zL A 1 6 (-1)).snd (nw q1_ q3_) == A) with h8 | h8
          ·
           rcases eb (kn bL (lk A 1)) with h9 | h9
           · exact ff (by ((try dsimp only [q2_, q1_, q3_, bL, zL] at *); clear y1 y2 y3 y9 p5 q5 hz hv; simp at * <;> simp_all <;> done))
           ·
            refine vcIntro (hx2 10 476) (an (an (an (show (-1:Int) ≤ A by (try dsimp only [q2_, q1_, q3_, bL, zL] at *); omega) (an (show A + (1:Int) ≤ (5:Int) by (try dsimp only [q2_, q1_, q3_, bL, zL] at *); omega) (an (show (0:Int) ≤ (1:Int) by (try dsimp only [q2_, q1_, q3_, bL, zL] at *); omega) (show (2:Int) ≤ (2:Int) by (try dsimp only [q2_, q1_, q3_, bL, zL] at *); omega)))) (an h9 (an h8 (an (an (show (-1:Int) ≤ (bfG bL zL A 1 6 (-1)).snd by (try dsimp only [q2_, q1_, q3_, bL, zL] at *); omega) (an (show (bfG bL zL A 1 6 (-1)).snd + (1:Int) ≤ (5:Int) by (try dsimp only [q2_, q1_, q3_, bL, zL] at *); omega) (an (show (0:Int) ≤ (1:Int) by (try dsimp only [q2_, q1_, q3_, bL, zL] at *); omega) (show (2:Int) ≤ (2:Int) by (try dsimp only [q2_, q1_, q3_, bL, zL] at *); omega)))) (an (an (show (0:Int) ≤ nw q1_ q3_ by exact y3.1) (show nw q1_ q3_ + (1:Int) ≤ (1099511627776:Int) by exact y3.2)) (an h7 (an (an (show (-1:Int) ≤ A by (try dsimp only [q2_, q1_, q3_, bL, zL] at *); omega) (an (show A + (1:Int) ≤ (5:Int) by (try dsimp only [q2_, q1_, q3_, bL, zL] at *); omega) (an (show (0:Int) ≤ (0:Int) by (try dsimp only [q2_, q1_, q3_, bL, zL] at *); omega) (show (1:Int) ≤ (2:Int) by (try dsimp only [q2_, q1_, q3_, bL, zL] at *); omega)))) (an (an (show (-1:Int) ≤ q2_.snd by (try dsimp only [q2_, q1_, q3_, bL, zL] at *); omega) (an (show q2_.snd + (1:Int) ≤ (5:Int) by (try dsimp only [q2_, q1_, q3_, bL, zL] at *); omega) (an (show (0:Int) ≤ (0:Int) by (try dsimp only [q2_, q1_, q3_, bL, zL] at *); omega) (show (1:Int) ≤ (2:Int) by (try dsimp only [q2_, q1_, q3_, bL, zL] at *); omega)))) (an (an (show (-1:Int) ≤ A by (try dsimp only [q2_, q1_, q3_, bL, zL] at *); omega) (an (show A + (1:Int) ≤ (5:Int) by (try dsimp only [q2_, q1_, q3_, bL, zL] at *); omega) (an (show (0:Int) ≤ (0:Int) by (try dsimp only [q2_, q1_, q3_, bL, zL] at *); omega) (show (1:Int) ≤ (2:Int) by (try dsimp only [q2_, q1_, q3_, bL, zL] at *); omega)))) (an h6 (an h5 (an (an (show (-1:Int) ≤ q2_.snd by (try dsimp only [q2_, q1_, q3_, bL, zL] at *); omega) (an (show q2_.snd + (1:Int) ≤ (5:Int) by (try dsimp only [q2_, q1_, q3_, bL, zL] at *); omega) (an (show (0:Int) ≤ (0:Int) by (try dsimp only [q2_, q1_, q3_, bL, zL] at *); omega) (show (1:Int) ≤ (2:Int) by (try dsimp only [q2_, q1_, q3_, bL, zL] at *); omega)))) (an (an (show (0:Int) ≤ nw zL (lk q2_.snd 0) by (try dsimp only [q2_, q1_, q3_, bL, zL] at *); unfold nwOk at *; omega) (show nw zL (lk q2_.snd 0) + (1:Int) ≤ (1099511627776:Int) by (try dsimp only [q2_, q1_, q3_, bL, zL] at *); unfold nwOk at *; omega)) (an h4 (an (an (show (-1:Int) ≤ (bfG bL zL A 1 6 (-1)).snd by (try dsimp only [q2_, q1_, q3_, bL, zL] at *); omega) (an (show (bfG bL zL A 1 6 (-1)).snd + (1:Int) ≤ (5:Int) by (try dsimp only [q2_, q1_, q3_, bL, zL] at *); omega) (an (show (0:Int) ≤ (0:Int) by (try dsimp only [q2_, q1_, q3_, bL, zL] at *); omega) (show (1:Int) ≤ (2:Int) by (try dsimp only [q2_, q1_, q3_, bL, zL] at *); omega)))) (an (show ∀ (key lv:Int), lkOk key lv → nwOk zL (lk key lv) by exact hz) (an h3 (an (an (show (-1:Int) ≤ (-1:Int) by (try dsimp only [q2_, q1_, q3_, bL, zL] at *); omega) (an (show (0:Int) ≤ (5:Int) by (try dsimp only [q2_, q1_, q3_, bL, zL] at *); omega) (an (show (0:Int) ≤ (1:Int) by (try dsimp only [q2_, q1_, q3_, bL, zL] at *); omega) (show (2:Int) ≤ (2:Int) by (try dsimp only [q2_, q1_, q3_, bL, zL] at *); omega)))) (an (show ∀ (key lv:Int), lkOk key lv → nwOk zL (lk key lv) by exact hz) (u3 h2 h1 h0)))))))))))))))))))) (an (an (an (show skN bL zL 7 A B x = lk A 1 by (try dsimp only [q2_, q1_, q3_, bL, zL] at *); clear y1 y2 y3 y9 p5 q5 hz hv; simp at *; simp_all [skN, skF, skHi, skLo, skAt, skCode, skNum]) (cKF_0 b z (an (ri (z 31)) tt))) tt) tt)) ?_
            kernel_rfl
          · exact ff (by exact absurd (hup.symm.trans (by assumption)) (by decide))
         · exact ff (by ((try dsimp only [q2_, q1_, q3_, bL, zL] at *); clear y1 y2 y3 y9 p5 q5 hz hv; simp at * <;> simp_all <;> done))
        ·
         rcases eb ((-1:Int) == A) with h10 | h10
         · exact ff (by ((try dsimp only [q2_, q1_, q3_, bL, zL] at *); clear y1 y2 y3 y9 p5 q5 hz hv; first | (simp at *; omega) | (simp_all; done)))
         ·
          refine vcIntro (hx2 8 28) (an (an h10 (an (an (show (-1:Int) ≤ (bfG bL zL A 1 6 (-1)).snd by (try dsimp only [q2_, q1_, q3_, bL, zL] at *); omega) (an (show (bfG bL zL A 1 6 (-1)).snd + (1:Int) ≤ (5:Int) by (try dsimp only [q2_, q1_, q3_, bL, zL] at *); omega) (an (show (0:Int) ≤ (1:Int) by (try dsimp only [q2_, q1_, q3_, bL, zL] at *); omega) (show (2:Int) ≤ (2:Int) by (try dsimp only [q2_, q1_, q3_, bL, zL] at *); omega)))) (an (an (show (-1:Int) ≤ A by (try dsimp only [q2_, q1_, q3_, bL, zL] at *); omega) (an (show A + (1:Int) ≤ (5:Int) by (try dsimp only [q2_, q1_, q3_, bL, zL] at *); omega) (an (show (0:Int) ≤ (0:Int) by (try dsimp only [q2_, q1_, q3_, bL, zL] at *); omega) (show (1:Int) ≤ (2:Int) by (try dsimp only [q2_, q1_, q3_, bL, zL] at *); omega)))) (an h6 (an h5 (an (an (show (-1:Int) ≤ q2_.snd by (try dsimp only [q2_, q1_, q3_, bL, zL] at *); omega) (an (show q2_.snd + (1:Int) ≤ (5:Int) by (try dsimp only [q2_, q1_, q3_, bL, zL] at *); omega) (an (show (0:Int) ≤ (0:Int) by (try dsimp only [q2_, q1_, q3_, bL, zL] at *); omega) (show (1:Int) ≤ (2:Int) by (try dsimp only [q2_, q1_, q3_, bL, zL] at *); omega)))) (an (an (show (0:Int) ≤ nw zL (lk q2_.snd 0) by (try dsimp only [q2_, q1_, q3_, bL, zL] at *); unfold nwOk at *; omega) (show nw zL (lk q2_.snd 0) + (1:Int) ≤ (1099511627776:Int) by (try dsimp only [q2_, q1_, q3_, bL, zL] at *); unfold nwOk at *; omega)) (an h4 (an (an (show (-1:Int) ≤ (bfG bL zL A 1 6 (-1)).snd by (try dsimp only [q2_, q1_, q3_, bL, zL] at *); omega) (an (show (bfG bL zL A 1 6 (-1)).snd + (1:Int) ≤ (5:Int) by (try dsimp only [q2_, q1_, q3_, bL, zL] at *); omega) (an (show (0:Int) ≤ (0:Int) by (try dsimp only [q2_, q1_, q3_, bL, zL] at *); omega) (show (1:Int) ≤ (2:Int) by (try dsimp only [q2_, q1_, q3_, bL, zL] at *); omega)))) (an (show ∀ (key lv:Int), lkOk key lv → nwOk zL (lk key lv) by exact hz) (an h3 (an (an (show (-1:Int) ≤ (-1:Int) by (try dsimp only [q2_, q1_, q3_, bL, zL] at *); omega) (an (show (0:Int) ≤ (5:Int) by (try dsimp only [q2_, q1_, q3_, bL, zL] at *); omega) (an (show (0:Int) ≤ (1:Int) by (try dsimp only [q2_, q1_, q3_, bL, zL] at *); omega) (show (2:Int) ≤ (2:Int) by (try dsimp only [q2_, q1_, q3_, bL, zL] at *); omega)))) (an (show ∀ (key lv:Int), lkOk key lv → nwOk zL (lk key lv) by exact hz) (u3 h2 h1 h0)))))))))))))) (an (an (an (show skN bL zL 7 A B x = lk A 0 by (try dsimp only [q2_, q1_, q3_, bL, zL] at *); clear y1 y2 y3 y9 p5 q5 hz hv; simp at *; simp_all [skN, skF, skHi, skLo, skAt, skCode, skNum]) (cKF_0 b z (an (ri (z 31)) tt))) tt) tt)) ?_
          kernel_rfl
      · exact ff (by ((try dsimp only [q2_, q1_, q3_, bL, zL] at *); clear y1 y2 y3 y9 p5 q5 hz hv; simp at * <;> simp_all <;> done))
     ·
      rcases eb ((-1:Int) != A) with h11 | h11
      ·
       refine vcIntro (hx2 5 20) (an (an h11 (an (an (show (-1:Int) ≤ q2_.snd by (try dsimp only [q2_, q1_, q3_, bL, zL] at *); omega) (an (show q2_.snd + (1:Int) ≤ (5:Int) by (try dsimp only [q2_, q1_, q3_, bL, zL] at *); omega) (an (show (0:Int) ≤ (0:Int) by (try dsimp only [q2_, q1_, q3_, bL, zL] at *); omega) (show (1:Int) ≤ (2:Int) by (try dsimp only [q2_, q1_, q3_, bL, zL] at *); omega)))) (an (an (show (-1:Int) ≤ (bfG bL zL A 1 6 (-1)).snd by (try dsimp only [q2_, q1_, q3_, bL, zL] at *); omega) (an (show (bfG bL zL A 1 6 (-1)).snd + (1:Int) ≤ (5:Int) by (try dsimp only [q2_, q1_, q3_, bL, zL] at *); omega) (an (show (0:Int) ≤ (0:Int) by (try dsimp only [q2_, q1_, q3_, bL, zL] at *); omega) (show (1:Int) ≤ (2:Int) by (try dsimp only [q2_, q1_, q3_, bL, zL] at *); omega)))) (an (show ∀ (key lv:Int), lkOk key lv → nwOk zL (lk key lv) by exact hz) (an h3 (an (an (show (-1:Int) ≤ (-1:Int) by (try dsimp only [q2_, q1_, q3_, bL, zL] at *); omega) (an (show (0:Int) ≤ (5:Int) by (try dsimp only [q2_, q1_, q3_, bL, zL] at *); omega) (an (show (0:Int) ≤ (1:Int) by (try dsimp only [q2_, q1_, q3_, bL, zL] at *); omega) (show (2:Int) ≤ (2:Int) by (try dsimp only [q2_, q1_, q3_, bL, zL] at *); omega)))) (an (show ∀ (key lv:Int), lkOk key lv → nwOk zL (lk key lv) by exact hz) (u3 h2 h1 h0)))))))) (an (an (an (show skN bL zL 7 A B x = q2_.fst by (try dsimp only [q2_, q1_, q3_, bL, zL] at *); clear y1 y2 y3 y9 p5 q5 hz hv; simp at *; simp_all [skN, skF, skHi, skLo, skAt, skCode, skNum]) (cKF_0 b z (an (ri (z 31)) tt))) tt) tt)) ?_
       kernel_rfl
      · exact ff (by ((try dsimp only [q2_, q1_, q3_, bL, zL] at *); clear y1 y2 y3 y9 p5 q5 hz hv; first | (simp at *; omega) | (simp_all; done)))
    ·
     rcases eb ((-1:Int) != A) with h12 | h12
     ·
      refine vcIntro (hx2 4 8) (an (an h12 (an (an (show (-1:Int) ≤ (bfG bL zL A 1 6 (-1)).snd by (try dsimp only [q2_, q1_, q3_, bL, zL] at *); omega) (an (show (bfG bL zL A 1 6 (-1)).snd + (1:Int) ≤ (5:Int) by (try dsimp only [q2_, q1_, q3_, bL, zL] at *); omega) (an (show (0:Int) ≤ (0:Int) by (try dsimp only [q2_, q1_, q3_, bL, zL] at *); omega) (show (1:Int) ≤ (2:Int) by (try dsimp only [q2_, q1_, q3_, bL, zL] at *); omega)))) (an (an (show (-1:Int) ≤ (bfG bL zL A 1 6 (-1)).snd by (try dsimp only [q2_, q1_, q3_, bL, zL] at *); omega) (an (show (bfG bL zL A 1 6 (-1)).snd + (1:Int) ≤ (5:Int) by (try dsimp only [q2_, q1_, q3_, bL, zL] at *); omega) (an (show (0:Int) ≤ (0:Int) by (try dsimp only [q2_, q1_, q3_, bL, zL] at *); omega) (show (1:Int) ≤ (2:Int) by (try dsimp only [q2_, q1_, q3_, bL, zL] at *); omega)))) (an (an (show (-1:Int) ≤ (-1:Int) by (try dsimp only [q2_, q1_, q3_, bL, zL] at *); omega) (an (show (0:Int) ≤ (5:Int) by (try dsimp only [q2_, q1_, q3_, bL, zL] at *); omega) (an (show (0:Int) ≤ (1:Int) by (try dsimp only [q2_, q1_, q3_, bL, zL] at *); omega) (show (2:Int) ≤ (2:Int) by (try dsimp only [q2_, q1_, q3_, bL, zL] at *); omega)))) (an (show ∀ (key lv:Int), lkOk key lv → nwOk zL (lk key lv) by exact hz) (u3 h2 h1 h0)))))) (an (an (an (show skN bL zL 7 A B x = (bfG bL zL A 1 6 (-1)).fst by (try dsimp only [q2_, q1_, q3_, bL, zL] at *); clear y1 y2 y3 y9 p5 q5 hz hv; simp at *; simp_all [skN, skF, skHi, skLo, skAt, skCode, skNum]) (cKF_0 b z (an (ri (z 31)) tt))) tt) tt)) ?_
      kernel_rfl
     · exact ff (by ((try dsimp only [q2_, q1_, q3_, bL, zL] at *); clear y1 y2 y3 y9 p5 q5 hz hv; first | (simp at *; omega) | (simp_all; done)))
theorem sn7v (hv : B1.allMay (zl z) = true) (ho : B1.opMayL [7, A, B, x] = true) (hn : ¬ skN (bl b) (zl z) 7 A B x = -1) (hu : (nxV (bfG (bl b) (zl z) A 1 6 (-1)).2 (nw (delZ (zl z) A (bfG (bl b) (zl z) A 0 6 (bfG (bl b) (zl z) A 1 6 (-1)).2).2 0) (lk (bfG (bl b) (zl z) A 1 6 (-1)).2 1)) == A) = false) (hup : (nxV (bfG (bl b) (zl z) A 1 6 (-1)).2 (nw (delZ (zl z) A (bfG (bl b) (zl z) A 0 6 (bfG (bl b) (zl z) A 1 6 (-1)).2).2 0) (lk (bfG (bl b) (zl z) A 1 6 (-1)).2 1)) == A) = false) :
    ∃ hh, vcOf (runCall Try.prog doS noL 6000 13 [.agg (viewOf (bl b) (zl z)), .agg [.int .i64 (.c 7), .int .i64 (.s A), .int .i64 (.s B), .int .i64 (.s x)]] H0 hh) (fun v H1 => retP 0 (lastBlk v) v H1 (needAsk (skN (bl b) (zl z) 7 A B x) (bl b) (zl z)) [] 0) := by
  have hz := zsOk_f z hv
  have oA : 0 ≤ A ∧ A < 5 ∧ 0 ≤ x ∧ x < 2 ∧ 0 ≤ B ∧ B < 5 := by have := ho; simp [B1.opMayL, B1.opMay] at this; omega
  obtain ⟨p1, p2, p3, p4, p5⟩ := bfG_ok (bl b) (zl z) A 1 (by omega) 6 (-1) (by omega) (by omega) (by omega)
  have p3 := p3 (by omega)
  obtain ⟨q1, q2, q3, q4, q5⟩ := bfG_ok (bl b) (zl z) A 0 (by omega) 6 (bfG (bl b) (zl z) A 1 6 (-1)).2 p1 p2 (by have := p1; show 5 - (bfG (bl b) (zl z) A 1 6 (-1)).2 ≤ ((6:Nat):Int); omega)
  have q3 := q3 p3
  have y1 := hz (bfG (bl b) (zl z) A 1 6 (-1)).2 1 ⟨p1, p2, by omega, by omega⟩
  have y2 := hz (bfG (bl b) (zl z) A 0 6 (bfG (bl b) (zl z) A 1 6 (-1)).2).2 0 ⟨q1, q2, by omega, by omega⟩
  have y9 := hz (-1) 0 ⟨by omega, by omega, by omega, by omega⟩
  have y3 := del_f z A (bfG (bl b) (zl z) A 0 6 (bfG (bl b) (zl z) A 1 6 (-1)).2).2 (bfG (bl b) (zl z) A 1 6 (-1)).2 y1 ⟨p1, p2⟩
  have hus : ¬ skUp (bl b) (zl z) A := by have := hu; simpa [skUp, skHi, skLo] using this
  simp only [skN, skF, hus] at hn
  simp only [skHi, skLo, skAt] at hn
  simp at hn
  clear hu

  let bL : List Bool := (bl b)
  let zL : List Int := (zl z)
  let q1_ := (bfG bL zL A 0 6 (bfG bL zL A 1 6 (-1)).snd)
  rcases eb (!B1.allMay zL) with h0 | h0
  · exact ff (by (try dsimp only [q1_, bL, zL] at *); clear y1 y2 y3 y9 p5 q5 hz; simp only [hv, ho] at *; simp at *)
  ·
   rcases eb (!B1.opMayL [(7:Int), A, B, x]) with h1 | h1
   · exact ff (by (try dsimp only [q1_, bL, zL] at *); clear y1 y2 y3 y9 p5 q5 hz; simp only [hv, ho] at *; simp at *)
   ·
    rcases eb (decide ((bfG bL zL A 1 6 (-1)).fst = (-1:Int))) with h2 | h2
    ·
     rcases eb (decide (q1_.fst = (-1:Int))) with h3 | h3
     ·
      rcases eb (kn bL (lk q1_.snd 0)) with h4 | h4
      ·
       rcases eb (nxV q1_.snd (nw zL (lk q1_.snd 0)) != A) with h5 | h5
       · exact ff (by ((try dsimp only [q1_, bL, zL] at *); clear y1 y2 y3 y9 p5 q5 hz hv; first | (simp at *; omega) | (simp_all; done)))
       ·
        rcases eb (kn bL (lk A 0)) with h6 | h6
        · exact ff (by ((try dsimp only [q1_, bL, zL] at *); clear y1 y2 y3 y9 p5 q5 hz hv; simp at * <;> simp_all <;> done))
        ·
         rcases eb ((-1:Int) == A) with h7 | h7
         · exact ff (by ((try dsimp only [q1_, bL, zL] at *); clear y1 y2 y3 y9 p5 q5 hz hv; first | (simp at *; omega) | (simp_all; done)))
         ·
          refine vcIntro (hx2 8 28) (an (an h7 (an (an (show (-1:Int) ≤ (bfG bL zL A 1 6 (-1)).snd by (try dsimp only [q1_, bL, zL] at *); omega) (an (show (bfG bL zL A 1 6 (-1)).snd + (1:Int) ≤ (5:Int) by (try dsimp only [q1_, bL, zL] at *); omega) (an (show (0:Int) ≤ (1:Int) by (try dsimp only [q1_, bL, zL] at *); omega) (show (2:Int) ≤ (2:Int) by (try dsimp only [q1_, bL, zL] at *); omega)))) (an (an (show (-1:Int) ≤ A by (try dsimp only [q1_, bL, zL] at *); omega) (an (show A + (1:Int) ≤ (5:Int) by (try dsimp only [q1_, bL, zL] at *); omega) (an (show (0:Int) ≤ (0:Int) by (try dsimp only [q1_, bL, zL] at *); omega) (show (1:Int) ≤ (2:Int) by (try dsimp only [q1_, bL, zL] at *); omega)))) (an h6 (an h5 (an (an (show (-1:Int) ≤ q1_.snd by (try dsimp only [q1_, bL, zL] at *); omega) (an (show q1_.snd + (1:Int) ≤ (5:Int) by (try dsimp only [q1_, bL, zL] at *); omega) (an (show (0:Int) ≤ (0:Int) by (try dsimp only [q1_, bL, zL] at *); omega) (show (1:Int) ≤ (2:Int) by (try dsimp only [q1_, bL, zL] at *); omega)))) (an (an (show (0:Int) ≤ nw zL (lk q1_.snd 0) by (try dsimp only [q1_, bL, zL] at *); unfold nwOk at *; omega) (show nw zL (lk q1_.snd 0) + (1:Int) ≤ (1099511627776:Int) by (try dsimp only [q1_, bL, zL] at *); unfold nwOk at *; omega)) (an h4 (an (an (show (-1:Int) ≤ (bfG bL zL A 1 6 (-1)).snd by (try dsimp only [q1_, bL, zL] at *); omega) (an (show (bfG bL zL A 1 6 (-1)).snd + (1:Int) ≤ (5:Int) by (try dsimp only [q1_, bL, zL] at *); omega) (an (show (0:Int) ≤ (0:Int) by (try dsimp only [q1_, bL, zL] at *); omega) (show (1:Int) ≤ (2:Int) by (try dsimp only [q1_, bL, zL] at *); omega)))) (an (show ∀ (key lv:Int), lkOk key lv → nwOk zL (lk key lv) by exact hz) (an h3 (an (an (show (-1:Int) ≤ (-1:Int) by (try dsimp only [q1_, bL, zL] at *); omega) (an (show (0:Int) ≤ (5:Int) by (try dsimp only [q1_, bL, zL] at *); omega) (an (show (0:Int) ≤ (1:Int) by (try dsimp only [q1_, bL, zL] at *); omega) (show (2:Int) ≤ (2:Int) by (try dsimp only [q1_, bL, zL] at *); omega)))) (an (show ∀ (key lv:Int), lkOk key lv → nwOk zL (lk key lv) by exact hz) (u3 h2 h1 h0)))))))))))))) (an (an (an (show skN bL zL 7 A B x = lk A 0 by (try dsimp only [q1_, bL, zL] at *); clear y1 y2 y3 y9 p5 q5 hz hv; simp at *; simp_all [skN, skF, skHi, skLo, skAt, skCode, skNum]) (cKF_0 b z (an (ri (z 31)) tt))) tt) tt)) ?_
          kernel_rfl
      · exact ff (by ((try dsimp only [q1_, bL, zL] at *); clear y1 y2 y3 y9 p5 q5 hz hv; simp at * <;> simp_all <;> done))
     ·
      rcases eb ((-1:Int) != A) with h8 | h8
      ·
       refine vcIntro (hx2 5 20) (an (an h8 (an (an (show (-1:Int) ≤ q1_.snd by (try dsimp only [q1_, bL, zL] at *); omega) (an (show q1_.snd + (1:Int) ≤ (5:Int) by (try dsimp only [q1_, bL, zL] at *); omega) (an (show (0:Int) ≤ (0:Int) by (try dsimp only [q1_, bL, zL] at *); omega) (show (1:Int) ≤ (2:Int) by (try dsimp only [q1_, bL, zL] at *); omega)))) (an (an (show (-1:Int) ≤ (bfG bL zL A 1 6 (-1)).snd by (try dsimp only [q1_, bL, zL] at *); omega) (an (show (bfG bL zL A 1 6 (-1)).snd + (1:Int) ≤ (5:Int) by (try dsimp only [q1_, bL, zL] at *); omega) (an (show (0:Int) ≤ (0:Int) by (try dsimp only [q1_, bL, zL] at *); omega) (show (1:Int) ≤ (2:Int) by (try dsimp only [q1_, bL, zL] at *); omega)))) (an (show ∀ (key lv:Int), lkOk key lv → nwOk zL (lk key lv) by exact hz) (an h3 (an (an (show (-1:Int) ≤ (-1:Int) by (try dsimp only [q1_, bL, zL] at *); omega) (an (show (0:Int) ≤ (5:Int) by (try dsimp only [q1_, bL, zL] at *); omega) (an (show (0:Int) ≤ (1:Int) by (try dsimp only [q1_, bL, zL] at *); omega) (show (2:Int) ≤ (2:Int) by (try dsimp only [q1_, bL, zL] at *); omega)))) (an (show ∀ (key lv:Int), lkOk key lv → nwOk zL (lk key lv) by exact hz) (u3 h2 h1 h0)))))))) (an (an (an (show skN bL zL 7 A B x = q1_.fst by (try dsimp only [q1_, bL, zL] at *); clear y1 y2 y3 y9 p5 q5 hz hv; simp at *; simp_all [skN, skF, skHi, skLo, skAt, skCode, skNum]) (cKF_0 b z (an (ri (z 31)) tt))) tt) tt)) ?_
       kernel_rfl
      · exact ff (by ((try dsimp only [q1_, bL, zL] at *); clear y1 y2 y3 y9 p5 q5 hz hv; first | (simp at *; omega) | (simp_all; done)))
    ·
     rcases eb ((-1:Int) != A) with h9 | h9
     ·
      refine vcIntro (hx2 4 8) (an (an h9 (an (an (show (-1:Int) ≤ (bfG bL zL A 1 6 (-1)).snd by (try dsimp only [q1_, bL, zL] at *); omega) (an (show (bfG bL zL A 1 6 (-1)).snd + (1:Int) ≤ (5:Int) by (try dsimp only [q1_, bL, zL] at *); omega) (an (show (0:Int) ≤ (0:Int) by (try dsimp only [q1_, bL, zL] at *); omega) (show (1:Int) ≤ (2:Int) by (try dsimp only [q1_, bL, zL] at *); omega)))) (an (an (show (-1:Int) ≤ (bfG bL zL A 1 6 (-1)).snd by (try dsimp only [q1_, bL, zL] at *); omega) (an (show (bfG bL zL A 1 6 (-1)).snd + (1:Int) ≤ (5:Int) by (try dsimp only [q1_, bL, zL] at *); omega) (an (show (0:Int) ≤ (0:Int) by (try dsimp only [q1_, bL, zL] at *); omega) (show (1:Int) ≤ (2:Int) by (try dsimp only [q1_, bL, zL] at *); omega)))) (an (an (show (-1:Int) ≤ (-1:Int) by (try dsimp only [q1_, bL, zL] at *); omega) (an (show (0:Int) ≤ (5:Int) by (try dsimp only [q1_, bL, zL] at *); omega) (an (show (0:Int) ≤ (1:Int) by (try dsimp only [q1_, bL, zL] at *); omega) (show (2:Int) ≤ (2:Int) by (try dsimp only [q1_, bL, zL] at *); omega)))) (an (show ∀ (key lv:Int), lkOk key lv → nwOk zL (lk key lv) by exact hz) (u3 h2 h1 h0)))))) (an (an (an (show skN bL zL 7 A B x = (bfG bL zL A 1 6 (-1)).fst by (try dsimp only [q1_, bL, zL] at *); clear y1 y2 y3 y9 p5 q5 hz hv; simp at *; simp_all [skN, skF, skHi, skLo, skAt, skCode, skNum]) (cKF_0 b z (an (ri (z 31)) tt))) tt) tt)) ?_
      kernel_rfl
     · exact ff (by ((try dsimp only [q1_, bL, zL] at *); clear y1 y2 y3 y9 p5 q5 hz hv; first | (simp at *; omega) | (simp_all; done)))
end
end Go.Ideal.K6

namespace Go.Ideal.K6
section
open Go.Proofs Go.Ideal Go.Ideal.L1
set_option linter.unusedSimpArgs false
set_option linter.unusedVariables false
set_option maxRecDepth 100000
set_option maxHeartbeats 80000000
variable (b : Nat → Bool) (z : Nat → Int) (A B x:Int)

theorem sd7a (hv : B1.allMay (zl z) = true) (ho : B1.opMayL [7, A, B, x] = true) (hn : skN (bl b) (zl z) 7 A B x = -1) (ha : ¬ nxV (bfG (bl b) (zl z) A 0 6 (bfG (bl b) (zl z) A 1 6 (-1)).2).2 (nw (zl z) (lk (bfG (bl b) (zl z) A 0 6 (bfG (bl b) (zl z) A 1 6 (-1)).2).2 0)) = A) :
    ∃ hh, vcOf (runCall Try.prog doS noL 6000 13 [.agg (viewOf (bl b) (zl z)), .agg [.int .i64 (.c 7), .int .i64 (.s A), .int .i64 (.s B), .int .i64 (.s x)]] H0 hh) (fun v H1 => retP 0 (lastBlk v) v H1 (doneAsk (bl b) (zl z)) (ansB (2) (0)) 1) := by
  have hz := zsOk_f z hv
  have oA : 0 ≤ A ∧ A < 5 ∧ 0 ≤ x ∧ x < 2 ∧ 0 ≤ B ∧ B < 5 := by have := ho; simp [B1.opMayL, B1.opMay] at this; omega
  obtain ⟨p1, p2, p3, p4, p5⟩ := bfG_ok (bl b) (zl z) A 1 (by omega) 6 (-1) (by omega) (by omega) (by omega)
  have p3 := p3 (by omega)
  obtain ⟨q1, q2, q3, q4, q5⟩ := bfG_ok (bl b) (zl z) A 0 (by omega) 6 (bfG (bl b) (zl z) A 1 6 (-1)).2 p1 p2 (by have := p1; show 5 - (bfG (bl b) (zl z) A 1 6 (-1)).2 ≤ ((6:Nat):Int); omega)
  have q3 := q3 p3
  have y1 := hz (bfG (bl b) (zl z) A 1 6 (-1)).2 1 ⟨p1, p2, by omega, by omega⟩
  have y2 := hz (bfG (bl b) (zl z) A 0 6 (bfG (bl b) (zl z) A 1 6 (-1)).2).2 0 ⟨q1, q2, by omega, by omega⟩
  have y9 := hz (-1) 0 ⟨by omega, by omega, by omega, by omega⟩
  have y3 := del_f z A (bfG (bl b) (zl z) A 0 6 (bfG (bl b) (zl z) A 1 6 (-1)).2).2 (bfG (bl b) (zl z) A 1 6 (-1)).2 y1 ⟨p1, p2⟩
  simp only [skN, skF, skHi, skLo, skAt] at hn
  simp at hn

  let bL : List Bool := (bl b)
  let zL : List Int := (zl z)
  rcases eb (!B1.allMay zL) with h0 | h0
  · exact ff (by (try dsimp only [bL, zL] at *); clear y1 y2 y3 y9 p5 q5 hz; simp only [hv, ho] at *; simp at *)
  ·
   rcases eb (!B1.opMayL [(7:Int), A, B, x]) with h1 | h1
   · exact ff (by (try dsimp only [bL, zL] at *); clear y1 y2 y3 y9 p5 q5 hz; simp only [hv, ho] at *; simp at *)
   ·
    rcases eb (decide ((bfG bL zL A 1 6 (-1)).fst = (-1:Int))) with h2 | h2
    ·
     rcases eb (decide ((bfG bL zL A 0 6 (bfG bL zL A 1 6 (-1)).snd).fst = (-1:Int))) with h3 | h3
     ·
      rcases eb (kn bL (lk (bfG bL zL A 0 6 (bfG bL zL A 1 6 (-1)).snd).snd (0:Int))) with h4 | h4
      ·
       rcases eb (nxV (bfG bL zL A 0 6 (bfG bL zL A 1 6 (-1)).snd).snd (nw zL (lk (bfG bL zL A 0 6 (bfG bL zL A 1 6 (-1)).snd).snd (0:Int))) != A) with h5 | h5
       ·
        refine vcIntro (hx2 6 60) (an (an h5 (an (an (show (-1:Int) ≤ (bfG bL zL A 0 6 (bfG bL zL A 1 6 (-1)).snd).snd by (try dsimp only [bL, zL] at *); omega) (an (show (bfG bL zL A 0 6 (bfG bL zL A 1 6 (-1)).snd).snd + (1:Int) ≤ (5:Int) by (try dsimp only [bL, zL] at *); omega) (an (show (0:Int) ≤ (0:Int) by (try dsimp only [bL, zL] at *); omega) (show (1:Int) ≤ (2:Int) by (try dsimp only [bL, zL] at *); omega)))) (an (an (show (0:Int) ≤ nw zL (lk (bfG bL zL A 0 6 (bfG bL zL A 1 6 (-1)).snd).snd (0:Int)) by (try dsimp only [bL, zL] at *); unfold nwOk at *; omega) (show nw zL (lk (bfG bL zL A 0 6 (bfG bL zL A 1 6 (-1)).snd).snd (0:Int)) + (1:Int) ≤ (1099511627776:Int) by (try dsimp only [bL, zL] at *); unfold nwOk at *; omega)) (an h4 (an (an (show (-1:Int) ≤ (bfG bL zL A 1 6 (-1)).snd by (try dsimp only [bL, zL] at *); omega) (an (show (bfG bL zL A 1 6 (-1)).snd + (1:Int) ≤ (5:Int) by (try dsimp only [bL, zL] at *); omega) (an (show (0:Int) ≤ (0:Int) by (try dsimp only [bL, zL] at *); omega) (show (1:Int) ≤ (2:Int) by (try dsimp only [bL, zL] at *); omega)))) (an (show ∀ (key lv:Int), lkOk key lv → nwOk zL (lk key lv) by exact hz) (an h3 (an (an (show (-1:Int) ≤ (-1:Int) by (try dsimp only [bL, zL] at *); omega) (an (show (0:Int) ≤ (5:Int) by (try dsimp only [bL, zL] at *); omega) (an (show (0:Int) ≤ (1:Int) by (try dsimp only [bL, zL] at *); omega) (show (2:Int) ≤ (2:Int) by (try dsimp only [bL, zL] at *); omega)))) (an (show ∀ (key lv:Int), lkOk key lv → nwOk zL (lk key lv) by exact hz) (u3 h2 h1 h0)))))))))) (an (an (an tt (cKF_0 b z (an (ri (z 31)) (an tt (an tt tt))))) tt) (an (zo (an (ri ((2:Int))) (ri ((0:Int))))) tt))) ?_
        kernel_rfl
       · exact ff (by (try dsimp only [bL, zL] at *); clear y1 y2 y3 y9 p5 q5 hz hv; simp at *; omega)
      · exact ff (by ((try dsimp only [bL, zL] at *); clear y1 y2 y3 y9 p5 q5 hz hv; simp at * <;> simp_all <;> done))
     · exact ff (by (try dsimp only [bL, zL] at *); clear y1 y2 y3 y9 p5 q5 hz hv; simp at *; omega)
    · exact ff (by (try dsimp only [bL, zL] at *); clear y1 y2 y3 y9 p5 q5 hz hv; simp at *; omega)
end
end Go.Ideal.K6

namespace Go.Ideal.K6
section
open Go.Proofs Go.Ideal Go.Ideal.L1
set_option linter.unusedSimpArgs false
set_option linter.unusedVariables false
set_option maxRecDepth 100000
set_option maxHeartbeats 80000000
def zqK47b2_ (b : Nat → Bool) (z : Nat → Int) (A:Int) := (bfG (bl b) (zl z) A 0 6 (bfG (bl b) (zl z) A 1 6 (-1)).snd)
def zqK47b1_ (b : Nat → Bool) (z : Nat → Int) (A:Int) := [(z 0), (z 1), (z 2), (z 3), (z 4), (z 5), (z 6), (z 7), (z 8), (z 9), (z 10), (z 11), (z 12), (z 13), (z 14), (z 15), if lk A 0 = (0:Int) then (0:Int) else if lk (zqK47b2_ b z A).snd (0:Int) = (0:Int) then nw (zl z) (lk A 0) else (z 16), if lk A 0 = (1:Int) then (0:Int) else if lk (zqK47b2_ b z A).snd (0:Int) = (1:Int) then nw (zl z) (lk A 0) else (z 17), if lk A 0 = (2:Int) then (0:Int) else if lk (zqK47b2_ b z A).snd (0:Int) = (2:Int) then nw (zl z) (lk A 0) else (z 18), if lk A 0 = (3:Int) then (0:Int) else if lk (zqK47b2_ b z A).snd (0:Int) = (3:Int) then nw (zl z) (lk A 0) else (z 19), if lk A 0 = (4:Int) then (0:Int) else if lk (zqK47b2_ b z A).snd (0:Int) = (4:Int) then nw (zl z) (lk A 0) else (z 20), if lk A 0 = (5:Int) then (0:Int) else if lk (zqK47b2_ b z A).snd (0:Int) = (5:Int) then nw (zl z) (lk A 0) else (z 21), if lk A 0 = (6:Int) then (0:Int) else if lk (zqK47b2_ b z A).snd (0:Int) = (6:Int) then nw (zl z) (lk A 0) else (z 22), if lk A 0 = (7:Int) then (0:Int) else if lk (zqK47b2_ b z A).snd (0:Int) = (7:Int) then nw (zl z) (lk A 0) else (z 23), if lk A 0 = (8:Int) then (0:Int) else if lk (zqK47b2_ b z A).snd (0:Int) = (8:Int) then nw (zl z) (lk A 0) else (z 24), if lk A 0 = (9:Int) then (0:Int) else if lk (zqK47b2_ b z A).snd (0:Int) = (9:Int) then nw (zl z) (lk A 0) else (z 25), if lk A 0 = (10:Int) then (0:Int) else if lk (zqK47b2_ b z A).snd (0:Int) = (10:Int) then nw (zl z) (lk A 0) else (z 26), if lk A 0 = (11:Int) then (0:Int) else if lk (zqK47b2_ b z A).snd (0:Int) = (11:Int) then nw (zl z) (lk A 0) else (z 27), if lk A 0 = (12:Int) then (0:Int) else if lk (zqK47b2_ b z A).snd (0:Int) = (12:Int) then nw (zl z) (lk A 0) else (z 28), if lk A 0 = (13:Int) then (0:Int) else if lk (zqK47b2_ b z A).snd (0:Int) = (13:Int) then nw (zl z) (lk A 0) else (z 29), if lk A 0 = (14:Int) then (0:Int) else if lk (zqK47b2_ b z A).snd (0:Int) = (14:Int) then nw (zl z) (lk A 0) else (z 30), if lk A 0 = (15:Int) then (0:Int) else if lk (zqK47b2_ b z A).snd (0:Int) = (15:Int) then nw (zl z) (lk A 0) else (z 31)]
variable (b : Nat → Bool) (z : Nat → Int) (A B x:Int)

theorem sd7b (hv : B1.allMay (zl z) = true) (ho : B1.opMayL [7, A, B, x] = true) (hn : skN (bl b) (zl z) 7 A B x = -1) (ha : nxV (bfG (bl b) (zl z) A 0 6 (bfG (bl b) (zl z) A 1 6 (-1)).2).2 (nw (zl z) (lk (bfG (bl b) (zl z) A 0 6 (bfG (bl b) (zl z) A 1 6 (-1)).2).2 0)) = A) (hu : (nxV (bfG (bl b) (zl z) A 1 6 (-1)).2 (nw (delZ (zl z) A (bfG (bl b) (zl z) A 0 6 (bfG (bl b) (zl z) A 1 6 (-1)).2).2 0) (lk (bfG (bl b) (zl z) A 1 6 (-1)).2 1)) == A) = false) (hup : (nxV (bfG (bl b) (zl z) A 1 6 (-1)).2 (nw (delZ (zl z) A (bfG (bl b) (zl z) A 0 6 (bfG (bl b) (zl z) A 1 6 (-1)).2).2 0) (lk (bfG (bl b) (zl z) A 1 6 (-1)).2 1)) == A) = false) :
    ∃ hh, vcOf (runCall Try.prog doS noL 6000 13 [.agg (viewOf (bl b) (zl z)), .agg [.int .i64 (.c 7), .int .i64 (.s A), .int .i64 (.s B), .int .i64 (.s x)]] H0 hh) (fun v H1 => retP 0 (lastBlk v) v H1 (doneAsk (bl b) (delZ (zl z) A (bfG (bl b) (zl z) A 0 6 (bfG (bl b) (zl z) A 1 6 (-1)).2).2 0)) (ansB (0) (A)) 1) := by
  have hz := zsOk_f z hv
  have oA : 0 ≤ A ∧ A < 5 ∧ 0 ≤ x ∧ x < 2 ∧ 0 ≤ B ∧ B < 5 := by have := ho; simp [B1.opMayL, B1.opMay] at this; omega
  obtain ⟨p1, p2, p3, p4, p5⟩ := bfG_ok (bl b) (zl z) A 1 (by omega) 6 (-1) (by omega) (by omega) (by omega)
  have p3 := p3 (by omega)
  obtain ⟨q1, q2, q3, q4, q5⟩ := bfG_ok (bl b) (zl z) A 0 (by omega) 6 (bfG (bl b) (zl z) A 1 6 (-1)).2 p1 p2 (by have := p1; show 5 - (bfG (bl b) (zl z) A 1 6 (-1)).2 ≤ ((6:Nat):Int); omega)
  have q3 := q3 p3
  have y1 := hz (bfG (bl b) (zl z) A 1 6 (-1)).2 1 ⟨p1, p2, by omega, by omega⟩
  have y2 := hz (bfG (bl b) (zl z) A 0 6 (bfG (bl b) (zl z) A 1 6 (-1)).2).2 0 ⟨q1, q2, by omega, by omega⟩
  have y9 := hz (-1) 0 ⟨by omega, by omega, by omega, by omega⟩
  have y3 := del_f z A (bfG (bl b) (zl z) A 0 6 (bfG (bl b) (zl z) A 1 6 (-1)).2).2 (bfG (bl b) (zl z) A 1 6 (-1)).2 y1 ⟨p1, p2⟩
  obtain ⟨f1, f2, f3⟩ := skN7 oA.1 hn
  have f3 := f3.resolve_left (fun hc => hc ha)
  simp only [skHi, skLo] at f1 f2
  clear hn
  have f4 := f3.1
  clear f3 hu

  let bL : List Bool := (bl b)
  let zL : List Int := (zl z)
  let q1_ := (zqK47b2_ b z A)
  let q2_ := (zqK47b1_ b z A)
  let q3_ := (lk (bfG bL zL A 1 6 (-1)).snd (1:Int))
  rcases eb (!B1.allMay zL) with h0 | h0
  · exact ff (by (try dsimp only [q1_, q2_, q3_, bL, zL, zqK47b2_, zqK47b1_] at *); clear y1 y2 y3 y9 p5 q5 hz; simp only [hv, ho] at *; simp at *)
  ·
   rcases eb (!B1.opMayL [(7:Int), A, B, x]) with h1 | h1
   · exact ff (by (try dsimp only [q1_, q2_, q3_, bL, zL, zqK47b2_, zqK47b1_] at *); clear y1 y2 y3 y9 p5 q5 hz; simp only [hv, ho] at *; simp at *)
   ·
    rcases eb (decide ((bfG bL zL A 1 6 (-1)).fst = (-1:Int))) with h2 | h2
    ·
     rcases eb (decide (q1_.fst = (-1:Int))) with h3 | h3
     ·
      rcases eb (kn bL (lk q1_.snd 0)) with h4 | h4
      ·
       rcases eb (nxV q1_.snd (nw zL (lk q1_.snd 0)) != A) with h5 | h5
       · exact ff (by ((try dsimp only [q1_, q2_, q3_, bL, zL, zqK47b2_, zqK47b1_] at *); clear y1 y2 y3 y9 p5 q5 hz hv; first | (first | (simp at *; omega) | (simp_all; done)) | (simp_all; done)))
       ·
        rcases eb (kn bL (lk A 0)) with h6 | h6
        ·
         rcases eb (kn bL q3_) with h7 | h7
         ·
          rcases eb (nxV (bfG bL zL A 1 6 (-1)).snd (nw q2_ q3_) == A) with h8 | h8
          · exact ff (by exact absurd (hup.symm.trans (by assumption)) (by decide))
          ·
           refine vcIntro (hx2 9 220) (an (an h8 (an (an (show (-1:Int) ≤ (bfG bL zL A 1 6 (-1)).snd by (try dsimp only [q1_, q2_, q3_, bL, zL, zqK47b2_, zqK47b1_] at *); omega) (an (show (bfG bL zL A 1 6 (-1)).snd + (1:Int) ≤ (5:Int) by (try dsimp only [q1_, q2_, q3_, bL, zL, zqK47b2_, zqK47b1_] at *); omega) (an (show (0:Int) ≤ (1:Int) by (try dsimp only [q1_, q2_, q3_, bL, zL, zqK47b2_, zqK47b1_] at *); omega) (show (2:Int) ≤ (2:Int) by (try dsimp only [q1_, q2_, q3_, bL, zL, zqK47b2_, zqK47b1_] at *); omega)))) (an (an (show (0:Int) ≤ nw q2_ q3_ by exact y3.1) (show nw q2_ q3_ + (1:Int) ≤ (1099511627776:Int) by exact y3.2)) (an h7 (an (an (show (-1:Int) ≤ A by (try dsimp only [q1_, q2_, q3_, bL, zL, zqK47b2_, zqK47b1_] at *); omega) (an (show A + (1:Int) ≤ (5:Int) by (try dsimp only [q1_, q2_, q3_, bL, zL, zqK47b2_, zqK47b1_] at *); omega) (an (show (0:Int) ≤ (0:Int) by (try dsimp only [q1_, q2_, q3_, bL, zL, zqK47b2_, zqK47b1_] at *); omega) (show (1:Int) ≤ (2:Int) by (try dsimp only [q1_, q2_, q3_, bL, zL, zqK47b2_, zqK47b1_] at *); omega)))) (an (an (show (-1:Int) ≤ q1_.snd by (try dsimp only [q1_, q2_, q3_, bL, zL, zqK47b2_, zqK47b1_] at *); omega) (an (show q1_.snd + (1:Int) ≤ (5:Int) by (try dsimp only [q1_, q2_, q3_, bL, zL, zqK47b2_, zqK47b1_] at *); omega) (an (show (0:Int) ≤ (0:Int) by (try dsimp only [q1_, q2_, q3_, bL, zL, zqK47b2_, zqK47b1_] at *); omega) (show (1:Int) ≤ (2:Int) by (try dsimp only [q1_, q2_, q3_, bL, zL, zqK47b2_, zqK47b1_] at *); omega)))) (an (an (show (-1:Int) ≤ A by (try dsimp only [q1_, q2_, q3_, bL, zL, zqK47b2_, zqK47b1_] at *); omega) (an (show A + (1:Int) ≤ (5:Int) by (try dsimp only [q1_, q2_, q3_, bL, zL, zqK47b2_, zqK47b1_] at *); omega) (an (show (0:Int) ≤ (0:Int) by (try dsimp only [q1_, q2_, q3_, bL, zL, zqK47b2_, zqK47b1_] at *); omega) (show (1:Int) ≤ (2:Int) by (try dsimp only [q1_, q2_, q3_, bL, zL, zqK47b2_, zqK47b1_] at *); omega)))) (an h6 (an h5 (an (an (show (-1:Int) ≤ q1_.snd by (try dsimp only [q1_, q2_, q3_, bL, zL, zqK47b2_, zqK47b1_] at *); omega) (an (show q1_.snd + (1:Int) ≤ (5:Int) by (try dsimp only [q1_, q2_, q3_, bL, zL, zqK47b2_, zqK47b1_] at *); omega) (an (show (0:Int) ≤ (0:Int) by (try dsimp only [q1_, q2_, q3_, bL, zL, zqK47b2_, zqK47b1_] at *); omega) (show (1:Int) ≤ (2:Int) by (try dsimp only [q1_, q2_, q3_, bL, zL, zqK47b2_, zqK47b1_] at *); omega)))) (an (an (show (0:Int) ≤ nw zL (lk q1_.snd 0) by (try dsimp only [q1_, q2_, q3_, bL, zL, zqK47b2_, zqK47b1_] at *); unfold nwOk at *; omega) (show nw zL (lk q1_.snd 0) + (1:Int) ≤ (1099511627776:Int) by (try dsimp only [q1_, q2_, q3_, bL, zL, zqK47b2_, zqK47b1_] at *); unfold nwOk at *; omega)) (an h4 (an (an (show (-1:Int) ≤ (bfG bL zL A 1 6 (-1)).snd by (try dsimp only [q1_, q2_, q3_, bL, zL, zqK47b2_, zqK47b1_] at *); omega) (an (show (bfG bL zL A 1 6 (-1)).snd + (1:Int) ≤ (5:Int) by (try dsimp only [q1_, q2_, q3_, bL, zL, zqK47b2_, zqK47b1_] at *); omega) (an (show (0:Int) ≤ (0:Int) by (try dsimp only [q1_, q2_, q3_, bL, zL, zqK47b2_, zqK47b1_] at *); omega) (show (1:Int) ≤ (2:Int) by (try dsimp only [q1_, q2_, q3_, bL, zL, zqK47b2_, zqK47b1_] at *); omega)))) (an (show ∀ (key lv:Int), lkOk key lv → nwOk zL (lk key lv) by exact hz) (an h3 (an (an (show (-1:Int) ≤ (-1:Int) by (try dsimp only [q1_, q2_, q3_, bL, zL, zqK47b2_, zqK47b1_] at *); omega) (an (show (0:Int) ≤ (5:Int) by (try dsimp only [q1_, q2_, q3_, bL, zL, zqK47b2_, zqK47b1_] at *); omega) (an (show (0:Int) ≤ (1:Int) by (try dsimp only [q1_, q2_, q3_, bL, zL, zqK47b2_, zqK47b1_] at *); omega) (show (2:Int) ≤ (2:Int) by (try dsimp only [q1_, q2_, q3_, bL, zL, zqK47b2_, zqK47b1_] at *); omega)))) (an (show ∀ (key lv:Int), lkOk key lv → nwOk zL (lk key lv) by exact hz) (u3 h2 h1 h0)))))))))))))))))) (an (an (an tt (cKF_1 b z (an (ri (if lk A 0 = (0:Int) then (0:Int) else if lk q1_.snd 0 = (0:Int) then nw zL (lk A 0) else (z 16))) (an (ri (if lk A 0 = (1:Int) then (0:Int) else if lk q1_.snd 0 = (1:Int) then nw zL (lk A 0) else (z 17))) (an (ri (if lk A 0 = (2:Int) then (0:Int) else if lk q1_.snd 0 = (2:Int) then nw zL (lk A 0) else (z 18))) (an (ri (if lk A 0 = (3:Int) then (0:Int) else if lk q1_.snd 0 = (3:Int) then nw zL (lk A 0) else (z 19))) (an (ri (if lk A 0 = (4:Int) then (0:Int) else if lk q1_.snd 0 = (4:Int) then nw zL (lk A 0) else (z 20))) (an (ri (if lk A 0 = (5:Int) then (0:Int) else if lk q1_.snd 0 = (5:Int) then nw zL (lk A 0) else (z 21))) (an (ri (if lk A 0 = (6:Int) then (0:Int) else if lk q1_.snd 0 = (6:Int) then nw zL (lk A 0) else (z 22))) (an (ri (if lk A 0 = (7:Int) then (0:Int) else if lk q1_.snd 0 = (7:Int) then nw zL (lk A 0) else (z 23))) (an (ri (if lk A 0 = (8:Int) then (0:Int) else if lk q1_.snd 0 = (8:Int) then nw zL (lk A 0) else (z 24))) (an (ri (if lk A 0 = (9:Int) then (0:Int) else if lk q1_.snd 0 = (9:Int) then nw zL (lk A 0) else (z 25))) (an (ri (if lk A 0 = (10:Int) then (0:Int) else if lk q1_.snd 0 = (10:Int) then nw zL (lk A 0) else (z 26))) (an (ri (if lk A 0 = (11:Int) then (0:Int) else if lk q1_.snd 0 = (11:Int) then nw zL (lk A 0) else (z 27))) (an (ri (if lk A 0 = (12:Int) then (0:Int) else if lk q1_.snd 0 = (12:Int) then nw zL (lk A 0) else (z 28))) (an (ri (if lk A 0 = (13:Int) then (0:Int) else if lk q1_.snd 0 = (13:Int) then nw zL (lk A 0) else (z 29))) (an (ri (if lk A 0 = (14:Int) then (0:Int) else if lk q1_.snd 0 = (14:Int) then nw zL (lk A 0) else (z 30))) (an (ri (if lk A 0 = (15:Int) then (0:Int) else if lk q1_.snd 0 = (15:Int) then nw zL (lk A 0) else (z 31))) (an tt (an tt tt)))))))))))))))))))) tt) (an (zo (an (ri ((0:Int))) (ri A))) tt))) ?_
           kernel_rfl
         · exact ff (by ((try dsimp only [q1_, q2_, q3_, bL, zL, zqK47b2_, zqK47b1_] at *); clear y1 y2 y3 y9 p5 q5 hz hv; simp at * <;> simp_all <;> done))
        · exact ff (by ((try dsimp only [q1_, q2_, q3_, bL, zL, zqK47b2_, zqK47b1_] at *); clear y1 y2 y3 y9 p5 q5 hz hv; simp at * <;> simp_all <;> done))
      · exact ff (by ((try dsimp only [q1_, q2_, q3_, bL, zL, zqK47b2_, zqK47b1_] at *); clear y1 y2 y3 y9 p5 q5 hz hv; simp at * <;> simp_all <;> done))
     · exact ff (by ((try dsimp only [q1_, q2_, q3_, bL, zL, zqK47b2_, zqK47b1_] at *); clear y1 y2 y3 y9 p5 q5 hz hv; first | (first | (simp at *; omega) | (simp_all; done)) | (simp_all; done)))
    · exact ff (by ((try dsimp only [q1_, q2_, q3_, bL, zL, zqK47b2_, zqK47b1_] at *); clear y1 y2 y3 y9 p5 q5 hz hv; first | (first | (simp at *; omega) | (simp_all; done)) | (simp_all; done)))
end
end Go.Ideal.K6

namespace Go.Ideal.K6
section
open Go.Proofs Go.Ideal Go.Ideal.L1
set_option linter.unusedSimpArgs false
set_option linter.unusedVariables false
set_option maxRecDepth 100000
set_option maxHeartbeats 80000000
def zqK47c2_ (b : Nat → Bool) (z : Nat → Int) (A:Int) := (bfG (bl b) (zl z) A 0 6 (bfG (bl b) (zl z) A 1 6 (-1)).snd)
def zqK47c1_ (b : Nat → Bool) (z : Nat → Int) (A:Int) := [(z 0), (z 1), (z 2), (z 3), (z 4), (z 5), (z 6), (z 7), (z 8), (z 9), (z 10), (z 11), (z 12), (z 13), (z 14), (z 15), if lk A 0 = (0:Int) then (0:Int) else if lk (zqK47c2_ b z A).snd (0:Int) = (0:Int) then nw (zl z) (lk A 0) else (z 16), if lk A 0 = (1:Int) then (0:Int) else if lk (zqK47c2_ b z A).snd (0:Int) = (1:Int) then nw (zl z) (lk A 0) else (z 17), if lk A 0 = (2:Int) then (0:Int) else if lk (zqK47c2_ b z A).snd (0:Int) = (2:Int) then nw (zl z) (lk A 0) else (z 18), if lk A 0 = (3:Int) then (0:Int) else if lk (zqK47c2_ b z A).snd (0:Int) = (3:Int) then nw (zl z) (lk A 0) else (z 19), if lk A 0 = (4:Int) then (0:Int) else if lk (zqK47c2_ b z A).snd (0:Int) = (4:Int) then nw (zl z) (lk A 0) else (z 20), if lk A 0 = (5:Int) then (0:Int) else if lk (zqK47c2_ b z A).snd (0:Int) = (5:Int) then nw (zl z) (lk A 0) else (z 21), if lk A 0 = (6:Int) then (0:Int) else if lk (zqK47c2_ b z A).snd (0:Int) = (6:Int) then nw (zl z) (lk A 0) else (z 22), if lk A 0 = (7:Int) then (0:Int) else if lk (zqK47c2_ b z A).snd (0:Int) = (7:Int) then nw (zl z) (lk A 0) else (z 23), if lk A 0 = (8:Int) then (0:Int) else if lk (zqK47c2_ b z A).snd (0:Int) = (8:Int) then nw (zl z) (lk A 0) else (z 24), if lk A 0 = (9:Int) then (0:Int) else if lk (zqK47c2_ b z A).snd (0:Int) = (9:Int) then nw (zl z) (lk A 0) else (z 25), if lk A 0 = (10:Int) then (0:Int) else if lk (zqK47c2_ b z A).snd (0:Int) = (10:Int) then nw (zl z) (lk A 0) else (z 26), if lk A 0 = (11:Int) then (0:Int) else if lk (zqK47c2_ b z A).snd (0:Int) = (11:Int) then nw (zl z) (lk A 0) else (z 27), if lk A 0 = (12:Int) then (0:Int) else if lk (zqK47c2_ b z A).snd (0:Int) = (12:Int) then nw (zl z) (lk A 0) else (z 28), if lk A 0 = (13:Int) then (0:Int) else if lk (zqK47c2_ b z A).snd (0:Int) = (13:Int) then nw (zl z) (lk A 0) else (z 29), if lk A 0 = (14:Int) then (0:Int) else if lk (zqK47c2_ b z A).snd (0:Int) = (14:Int) then nw (zl z) (lk A 0) else (z 30), if lk A 0 = (15:Int) then (0:Int) else if lk (zqK47c2_ b z A).snd (0:Int) = (15:Int) then nw (zl z) (lk A 0) else (z 31)]
variable (b : Nat → Bool) (z : Nat → Int) (A B x:Int)

theorem sd7c (hv : B1.allMay (zl z) = true) (ho : B1.opMayL [7, A, B, x] = true) (hn : skN (bl b) (zl z) 7 A B x = -1) (ha : nxV (bfG (bl b) (zl z) A 0 6 (bfG (bl b) (zl z) A 1 6 (-1)).2).2 (nw (zl z) (lk (bfG (bl b) (zl z) A 0 6 (bfG (bl b) (zl z) A 1 6 (-1)).2).2 0)) = A) (hu : (nxV (bfG (bl b) (zl z) A 1 6 (-1)).2 (nw (delZ (zl z) A (bfG (bl b) (zl z) A 0 6 (bfG (bl b) (zl z) A 1 6 (-1)).2).2 0) (lk (bfG (bl b) (zl z) A 1 6 (-1)).2 1)) == A) = true) (hup : (nxV (bfG (bl b) (zl z) A 1 6 (-1)).2 (nw (delZ (zl z) A (bfG (bl b) (zl z) A 0 6 (bfG (bl b) (zl z) A 1 6 (-1)).2).2 0) (lk (bfG (bl b) (zl z) A 1 6 (-1)).2 1)) == A) = true) :
    ∃ hh, vcOf (runCall Try.prog doS noL 6000 13 [.agg (viewOf (bl b) (zl z)), .agg [.int .i64 (.c 7), .int .i64 (.s A), .int .i64 (.s B), .int .i64 (.s x)]] H0 hh) (fun v H1 => retP 0 (lastBlk v) v H1 (doneAsk (bl b) (delZ (delZ (zl z) A (bfG (bl b) (zl z) A 0 6 (bfG (bl b) (zl z) A 1 6 (-1)).2).2 0) A (bfG (bl b) (zl z) A 1 6 (-1)).2 1)) (ansB (0) (A)) 1) := by
  have hz := zsOk_f z hv
  have oA : 0 ≤ A ∧ A < 5 ∧ 0 ≤ x ∧ x < 2 ∧ 0 ≤ B ∧ B < 5 := by have := ho; simp [B1.opMayL, B1.opMay] at this; omega
  obtain ⟨p1, p2, p3, p4, p5⟩ := bfG_ok (bl b) (zl z) A 1 (by omega) 6 (-1) (by omega) (by omega) (by omega)
  have p3 := p3 (by omega)
  obtain ⟨q1, q2, q3, q4, q5⟩ := bfG_ok (bl b) (zl z) A 0 (by omega) 6 (bfG (bl b) (zl z) A 1 6 (-1)).2 p1 p2 (by have := p1; show 5 - (bfG (bl b) (zl z) A 1 6 (-1)).2 ≤ ((6:Nat):Int); omega)
  have q3 := q3 p3
  have y1 := hz (bfG (bl b) (zl z) A 1 6 (-1)).2 1 ⟨p1, p2, by omega, by omega⟩
  have y2 := hz (bfG (bl b) (zl z) A 0 6 (bfG (bl b) (zl z) A 1 6 (-1)).2).2 0 ⟨q1, q2, by omega, by omega⟩
  have y9 := hz (-1) 0 ⟨by omega, by omega, by omega, by omega⟩
  have y3 := del_f z A (bfG (bl b) (zl z) A 0 6 (bfG (bl b) (zl z) A 1 6 (-1)).2).2 (bfG (bl b) (zl z) A 1 6 (-1)).2 y1 ⟨p1, p2⟩
  have hus : skUp (bl b) (zl z) A := by have := hu; simpa [skUp, skHi, skLo] using this
  obtain ⟨f1, f2, f3⟩ := skN7 oA.1 hn
  have f3 := f3.resolve_left (fun hc => hc ha)
  simp only [skHi, skLo] at f1 f2
  clear hn
  have f4 := f3.1
  have f5 := f3.2 hus
  clear f3 hu hus

  let bL : List Bool := (bl b)
  let zL : List Int := (zl z)
  let q1_ := (zqK47c2_ b z A)
  let q2_ := (zqK47c1_ b z A)
  let q3_ := (lk (bfG bL zL A 1 6 (-1)).snd (1:Int))
  rcases eb (!B1.allMay zL) with h0 | h0
  · exact ff (by (try dsimp only [q1_, q2_, q3_, bL, zL, zqK47c2_, zqK47c1_] at *); clear y1 y2 y3 y9 p5 q5 hz; simp only [hv, ho] at *; simp at *)
  ·
   rcases eb (!B1.opMayL [(7:Int), A, B, x]) with h1 | h1
   · exact ff (by (try dsimp only [q1_, q2_, q3_, bL, zL, zqK47c2_, zqK47c1_] at *); clear y1 y2 y3 y9 p5 q5 hz; simp only [hv, ho] at *; simp at *)
   ·
    rcases eb (decide ((bfG bL zL A 1 6 (-1)).fst = (-1:Int))) with h2 | h2
    ·
     rcases eb (decide (q1_.fst = (-1:Int))) with h3 | h3
     ·
      rcases eb (kn bL (lk q1_.snd 0)) with h4 | h4
      ·
       rcases eb (nxV q1_.snd (nw zL (lk q1_.snd 0)) != A) with h5 | h5
       · exact ff (by ((try dsimp only [q1_, q2_, q3_, bL, zL, zqK47c2_, zqK47c1_] at *); clear y1 y2 y3 y9 p5 q5 hz hv; first | (first | (simp at *; omega) | (simp_all; done)) | (simp_all; done)))
       ·
        rcases eb (kn bL (lk A 0)) with h6 | h6
        ·
         rcases eb (kn bL q3_) with h7 | h7
         ·
          rcases eb (nxV (bfG bL zL A 1 6 (-1)).snd (nw q2_ q3_) == A) with h8 | h8
          ·
           rcases eb (kn bL (lk A 1)) with h9 | h9
           ·
            refine vcIntro (hx2 10 988) (an (an (an (show (-1:Int) ≤ A by (try dsimp only [q1_, q2_, q3_, bL, zL, zqK47c2_, zqK47c1_] at *); omega) (an (show A + (1:Int) ≤ (5:Int) by (try dsimp only [q1_, q2_, q3_, bL, zL, zqK47c2_, zqK47c1_] at *); omega) (an (show (0:Int) ≤ (1:Int) by (try dsimp only [q1_, q2_, q3_, bL, zL, zqK47c2_, zqK47c1_] at *); omega) (show (2:Int) ≤ (2:Int) by (try dsimp only [q1_, q2_, q3_, bL, zL, zqK47c2_, zqK47c1_] at *); omega)))) (an (an (show (-1:Int) ≤ (bfG bL zL A 1 6 (-1)).snd by (try dsimp only [q1_, q2_, q3_, bL, zL, zqK47c2_, zqK47c1_] at *); omega) (an (show (bfG bL zL A 1 6 (-1)).snd + (1:Int) ≤ (5:Int) by (try dsimp only [q1_, q2_, q3_, bL, zL, zqK47c2_, zqK47c1_] at *); omega) (an (show (0:Int) ≤ (1:Int) by (try dsimp only [q1_, q2_, q3_, bL, zL, zqK47c2_, zqK47c1_] at *); omega) (show (2:Int) ≤ (2:Int) by (try dsimp only [q1_, q2_, q3_, bL, zL, zqK47c2_, zqK47c1_] at *); omega)))) (an (an (show (-1:Int) ≤ A by (try dsimp only [q1_, q2_, q3_, bL, zL, zqK47c2_, zqK47c1_] at *); omega) (an (show A + (1:Int) ≤ (5:Int) by (try dsimp only [q1_, q2_, q3_, bL, zL, zqK47c2_, zqK47c1_] at *); omega) (an (show (0:Int) ≤ (1:Int) by (try dsimp only [q1_, q2_, q3_, bL, zL, zqK47c2_, zqK47c1_] at *); omega) (show (2:Int) ≤ (2:Int) by (try dsimp only [q1_, q2_, q3_, bL, zL, zqK47c2_, zqK47c1_] at *); omega)))) (an h9 (an h8 (an (an (show (-1:Int) ≤ (bfG bL zL A 1 6 (-1)).snd by (try dsimp only [q1_, q2_, q3_, bL, zL, zqK47c2_, zqK47c1_] at *); omega) (an (show (bfG bL zL A 1 6 (-1)).snd + (1:Int) ≤ (5:Int) by (try dsimp only [q1_, q2_, q3_, bL, zL, zqK47c2_, zqK47c1_] at *); omega) (an (show (0:Int) ≤ (1:Int) by (try dsimp only [q1_, q2_, q3_, bL, zL, zqK47c2_, zqK47c1_] at *); omega) (show (2:Int) ≤ (2:Int) by (try dsimp only [q1_, q2_, q3_, bL, zL, zqK47c2_, zqK47c1_] at *); omega)))) (an (an (show (0:Int) ≤ nw q2_ q3_ by exact y3.1) (show nw q2_ q3_ + (1:Int) ≤ (1099511627776:Int) by exact y3.2)) (an h7 (an (an (show (-1:Int) ≤ A by (try dsimp only [q1_, q2_, q3_, bL, zL, zqK47c2_, zqK47c1_] at *); omega) (an (show A + (1:Int) ≤ (5:Int) by (try dsimp only [q1_, q2_, q3_, bL, zL, zqK47c2_, zqK47c1_] at *); omega) (an (show (0:Int) ≤ (0:Int) by (try dsimp only [q1_, q2_, q3_, bL, zL, zqK47c2_, zqK47c1_] at *); omega) (show (1:Int) ≤ (2:Int) by (try dsimp only [q1_, q2_, q3_, bL, zL, zqK47c2_, zqK47c1_] at *); omega)))) (an (an (show (-1:Int) ≤ q1_.snd by (try dsimp only [q1_, q2_, q3_, bL, zL, zqK47c2_, zqK47c1_] at *); omega) (an (show q1_.snd + (1:Int) ≤ (5:Int) by (try dsimp only [q1_, q2_, q3_, bL, zL, zqK47c2_, zqK47c1_] at *); omega) (an (show (0:Int) ≤ (0:Int) by (try dsimp only [q1_, q2_, q3_, bL, zL, zqK47c2_, zqK47c1_] at *); omega) (show (1:Int) ≤ (2:Int) by (try dsimp only [q1_, q2_, q3_, bL, zL, zqK47c2_, zqK47c1_] at *); omega)))) (an (an (show (-1:Int) ≤ A by (try dsimp only [q1_, q2_, q3_, bL, zL, zqK47c2_, zqK47c1_] at *); omega) (an (show A + (1:Int) ≤ (5:Int) by (try dsimp only [q1_, q2_, q3_, bL, zL, zqK47c2_, zqK47c1_] at *); omega) (an (show (0:Int) ≤ (0:Int) by (try dsimp only [q1_, q2_, q3_, bL, zL, zqK47c2_, zqK47c1_] at *); omega) (show (1:Int) ≤ (2:Int) by (try dsimp only [q1_, q2_, q3_, bL, zL, zqK47c2_, zqK47c1_] at *); omega)))) (an h6 (an h5 (an (an (show (-1:Int) ≤ q1_.snd by (try dsimp only [q1_, q2_, q3_, bL, zL, zqK47c2_, zqK47c1_] at *); omega) (an (show q1_.snd + (1:Int) ≤ (5:Int) by (try dsimp only [q1_, q2_, q3_, bL, zL, zqK47c2_, zqK47c1_] at *); omega) (an (show (0:Int) ≤ (0:Int) by (try dsimp only [q1_, q2_, q3_, bL, zL, zqK47c2_, zqK47c1_] at *); omega) (show (1:Int) ≤ (2:Int) by (try dsimp only [q1_, q2_, q3_, bL, zL, zqK47c2_, zqK47c1_] at *); omega)))) (an (an (show (0:Int) ≤ nw zL (lk q1_.snd 0) by (try dsimp only [q1_, q2_, q3_, bL, zL, zqK47c2_, zqK47c1_] at *); unfold nwOk at *; omega) (show nw zL (lk q1_.snd 0) + (1:Int) ≤ (1099511627776:Int) by (try dsimp only [q1_, q2_, q3_, bL, zL, zqK47c2_, zqK47c1_] at *); unfold nwOk at *; omega)) (an h4 (an (an (show (-1:Int) ≤ (bfG bL zL A 1 6 (-1)).snd by (try dsimp only [q1_, q2_, q3_, bL, zL, zqK47c2_, zqK47c1_] at *); omega) (an (show (bfG bL zL A 1 6 (-1)).snd + (1:Int) ≤ (5:Int) by (try dsimp only [q1_, q2_, q3_, bL, zL, zqK47c2_, zqK47c1_] at *); omega) (an (show (0:Int) ≤ (0:Int) by (try dsimp only [q1_, q2_, q3_, bL, zL, zqK47c2_, zqK47c1_] at *); omega) (show (1:Int) ≤ (2:Int) by (try dsimp only [q1_, q2_, q3_, bL, zL, zqK47c2_, zqK47c1_] at *); omega)))) (an (show ∀ (key lv:Int), lkOk key lv → nwOk zL (lk key lv) by exact hz) (an h3 (an (an (show (-1:Int) ≤ (-1:Int) by (try dsimp only [q1_, q2_, q3_, bL, zL, zqK47c2_, zqK47c1_] at *); omega) (an (show (0:Int) ≤ (5:Int) by (try dsimp only [q1_, q2_, q3_, bL, zL, zqK47c2_, zqK47c1_] at *); omega) (an (show (0:Int) ≤ (1:Int) by (try dsimp only [q1_, q2_, q3_, bL, zL, zqK47c2_, zqK47c1_] at *); omega) (show (2:Int) ≤ (2:Int) by (try dsimp only [q1_, q2_, q3_, bL, zL, zqK47c2_, zqK47c1_] at *); omega)))) (an (show ∀ (key lv:Int), lkOk key lv → nwOk zL (lk key lv) by exact hz) (u3 h2 h1 h0)))))))))))))))))))))) (an (an (an tt (cKF_1 b z (an (ri (if lk A 1 = (0:Int) then (0:Int) else if lk (bfG bL zL A 1 6 (-1)).snd (1:Int) = (0:Int) then nw q2_ (lk A 1) else if lk A 0 = (0:Int) then (0:Int) else if lk q1_.snd 0 = (0:Int) then nw zL (lk A 0) else (z 16))) (an (ri (if lk A 1 = (1:Int) then (0:Int) else if lk (bfG bL zL A 1 6 (-1)).snd (1:Int) = (1:Int) then nw q2_ (lk A 1) else if lk A 0 = (1:Int) then (0:Int) else if lk q1_.snd 0 = (1:Int) then nw zL (lk A 0) else (z 17))) (an (ri (if lk A 1 = (2:Int) then (0:Int) else if lk (bfG bL zL A 1 6 (-1)).snd (1:Int) = (2:Int) then nw q2_ (lk A 1) else if lk A 0 = (2:Int) then (0:Int) else if lk q1_.snd 0 = (2:Int) then nw zL (lk A 0) else (z 18))) (an (ri (if lk A 1 = (3:Int) then (0:Int) else if lk (bfG bL zL A 1 6 (-1)).snd (1:Int) = (3:Int) then nw q2_ (lk A 1) else if lk A 0 = (3:Int) then (0:Int) else if lk q1_.snd 0 = (3:Int) then nw zL (lk A 0) else (z 19))) (an (ri (if lk A 1 = (4:Int) then (0:Int) else if lk (bfG bL zL A 1 6 (-1)).snd (1:Int) = (4:Int) then nw q2_ (lk A 1) else if lk A 0 = (4:Int) then (0:Int) else if lk q1_.snd 0 = (4:Int) then nw zL (lk A 0) else (z 20))) (an (ri (if lk A 1 = (5:Int) then (0:Int) else if lk (bfG bL zL A 1 6 (-1)).snd (1:Int) = (5:Int) then nw q2_ (lk A 1) else if lk A 0 = (5:Int) then (0:Int) else if lk q1_.snd 0 = (5:Int) then nw zL (lk A 0) else (z 21))) (an (ri (if lk A 1 = (6:Int) then (0:Int) else if lk (bfG bL zL A 1 6 (-1)).snd (1:Int) = (6:Int) then nw q2_ (lk A 1) else if lk A 0 = (6:Int) then (0:Int) else if lk q1_.snd 0 = (6:Int) then nw zL (lk A 0) else (z 22))) (an (ri (if lk A 1 = (7:Int) then (0:Int) else if lk (bfG bL zL A 1 6 (-1)).snd (1:Int) = (7:Int) then nw q2_ (lk A 1) else if lk A 0 = (7:Int) then (0:Int) else if lk q1_.snd 0 = (7:Int) then nw zL (lk A 0) else (z 23))) (an (ri (if lk A 1 = (8:Int) then (0:Int) else if lk (bfG bL zL A 1 6 (-1)).snd (1:Int) = (8:Int) then nw q2_ (lk A 1) else if lk A 0 = (8:Int) then (0:Int) else if lk q1_.snd 0 = (8:Int) then nw zL (lk A 0) else (z 24))) (an (ri (if lk A 1 = (9:Int) then (0:Int) else if lk (bfG bL zL A 1 6 (-1)).snd (1:Int) = (9:Int) then nw q2_ (lk A 1) else if lk A 0 = (9:Int) then (0:Int) else if lk q1_.snd 0 = (9:Int) then nw zL (lk A 0) else (z 25))) (an (ri (if lk A 1 = (10:Int) then (0:Int) else if lk (bfG bL zL A 1 6 (-1)).snd (1:Int) = (10:Int) then nw q2_ (lk A 1) else if lk A 0 = (10:Int) then (0:Int) else if lk q1_.snd 0 = (10:Int) then nw zL (lk A 0) else (z 26))) (an (ri (if lk A 1 = (11:Int) then (0:Int) else if lk (bfG bL zL A 1 6 (-1)).snd (1:Int) = (11:Int) then nw q2_ (lk A 1) else if lk A 0 = (11:Int) then (0:Int) else if lk q1_.snd 0 = (11:Int) then nw zL (lk A 0) else (z 27))) (an (ri (if lk A 1 = (12:Int) then (0:Int) else if lk (bfG bL zL A 1 6 (-1)).snd (1:Int) = (12:Int) then nw q2_ (lk A 1) else if lk A 0 = (12:Int) then (0:Int) else if lk q1_.snd 0 = (12:Int) then nw zL (lk A 0) else (z 28))) (an (ri (if lk A 1 = (13:Int) then (0:Int) else if lk (bfG bL zL A 1 6 (-1)).snd (1:Int) = (13:Int) then nw q2_ (lk A 1) else if lk A 0 = (13:Int) then (0:Int) else if lk q1_.snd 0 = (13:Int) then nw zL (lk A 0) else (z 29))) (an (ri (if lk A 1 = (14:Int) then (0:Int) else if lk (bfG bL zL A 1 6 (-1)).snd (1:Int) = (14:Int) then nw q2_ (lk A 1) else if lk A 0 = (14:Int) then (0:Int) else if lk q1_.snd 0 = (14:Int) then nw zL (lk A 0) else (z 30))) (an (ri (if lk A 1 = (15:Int) then (0:Int) else if lk (bfG bL zL A 1 6 (-1)).snd (1:Int) = (15:Int) then nw q2_ (lk A 1) else if lk A 0 = (15:Int) then (0:Int) else if lk q1_.snd 0 = (15:Int) then nw zL (lk A 0) else (z 31))) (an tt (an tt tt)))))))))))))))))))) tt) (an (zo (an (ri ((0:Int))) (ri A))) tt))) ?_
            kernel_rfl
           · exact ff (by ((try dsimp only [q1_, q2_, q3_, bL, zL, zqK47c2_, zqK47c1_] at *); clear y1 y2 y3 y9 p5 q5 hz hv; simp at * <;> simp_all <;> done))
          · exact ff (by exact absurd (hup.symm.trans (by assumption)) (by decide))
         · exact ff (by ((try dsimp only [q1_, q2_, q3_, bL, zL, zqK47c2_, zqK47c1_] at *); clear y1 y2 y3 y9 p5 q5 hz hv; simp at * <;> simp_all <;> done))
        · exact ff (by ((try dsimp only [q1_, q2_, q3_, bL, zL, zqK47c2_, zqK47c1_] at *); clear y1 y2 y3 y9 p5 q5 hz hv; simp at * <;> simp_all <;> done))
      · exact ff (by ((try dsimp only [q1_, q2_, q3_, bL, zL, zqK47c2_, zqK47c1_] at *); clear y1 y2 y3 y9 p5 q5 hz hv; simp at * <;> simp_all <;> done))
     · exact ff (by ((try dsimp only [q1_, q2_, q3_, bL, zL, zqK47c2_, zqK47c1_] at *); clear y1 y2 y3 y9 p5 q5 hz hv; first | (first | (simp at *; omega) | (simp_all; done)) | (simp_all; done)))
    · exact ff (by ((try dsimp only [q1_, q2_, q3_, bL, zL, zqK47c2_, zqK47c1_] at *); clear y1 y2 y3 y9 p5 q5 hz hv; first | (first | (simp at *; omega) | (simp_all; done)) | (simp_all; done)))
end
end Go.Ideal.K6
