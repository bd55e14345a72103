/- Put together of: K8 K8q. Own text; nothing here is trusted. -/
import Derived.Test.YtpmgdkldhimofaaKI
import Derived.Test.YtpmgdkldhimofaaI26
namespace Go.Ideal.K6
section
open Go.Proofs Go.Ideal Go.Ideal.L1
set_option linter.unusedSimpArgs false
set_option linter.unusedVariables false
set_option maxRecDepth 100000
set_option maxHeartbeats 80000000

def sbT (n i : Nat) (K v : Int) : List (Nat × V) := [(0, .slice 0 (.c 0) (.s n) 1 (.s n)), (2, .int .i64 (.s v)), (7, .ptr 3 (.c 0)), (8, .int .i64 (.s K)), (9, .int .i64 (.s i))]
def sbV (g : Nat → Int) : List V := List.replicate 16 (.bool (.s true)) ++ List.replicate 16 (.int .i64 (.s 0)) ++ [.int .i64 (.s (g 0)), .int .i64 (.s (g 1)), .int .i64 (.s (g 2)), .int .i64 (.s (g 3)), .int .i64 (.s (g 4)), .int .i64 (.s (g 5)), .int .i64 (.s (g 6)), .int .i64 (.s (g 7)), .int .i64 (.s (g 8)), .int .i64 (.s (g 9)), .int .i64 (.s (g 10)), .int .i64 (.s (g 11)), .int .i64 (.s (g 12)), .int .i64 (.s (g 13)), .int .i64 (.s (g 14)), .int .i64 (.s (g 15))]
def sbB (f : Nat → Int) (n : Nat) (g : Nat → Int) : List (Option Blk) := [some (.ext f (.s (n * 1))), none, none, some (.own false 25 (fun _ => 0) 0 (sbV g))]
def zqK82_ (g : Nat → Int) := [(0 : Int), (0 : Int), (0 : Int), (0 : Int), (0 : Int), (0 : Int), (0 : Int), (0 : Int), (0 : Int), (0 : Int), (0 : Int), (0 : Int), (0 : Int), (0 : Int), (0 : Int), (0 : Int), g (0 : Nat), g (1 : Nat), g (2 : Nat), g (3 : Nat), g (4 : Nat), g (5 : Nat), g (6 : Nat), g (7 : Nat), g (8 : Nat), g (9 : Nat), g (10 : Nat), g (11 : Nat), g (12 : Nat), g (13 : Nat), g (14 : Nat), g (15 : Nat)]
def zqK81_ (K : Int) (v : Int) (g : Nat → Int) := [(0 : Int), (0 : Int), (0 : Int), (0 : Int), (0 : Int), (0 : Int), (0 : Int), (0 : Int), (0 : Int), (0 : Int), (0 : Int), (0 : Int), (0 : Int), (0 : Int), (0 : Int), (0 : Int), skC [true, true, true, true, true, true, true, true, true, true, true, true, true, true, true, true] (zqK82_ g) (6 : Int) K (v % (2 : Int)) (0 : Int), skC [true, true, true, true, true, true, true, true, true, true, true, true, true, true, true, true] (zqK82_ g) (6 : Int) K (v % (2 : Int)) (1 : Int), skC [true, true, true, true, true, true, true, true, true, true, true, true, true, true, true, true] (zqK82_ g) (6 : Int) K (v % (2 : Int)) (2 : Int), skC [true, true, true, true, true, true, true, true, true, true, true, true, true, true, true, true] (zqK82_ g) (6 : Int) K (v % (2 : Int)) (3 : Int), skC [true, true, true, true, true, true, true, true, true, true, true, true, true, true, true, true] (zqK82_ g) (6 : Int) K (v % (2 : Int)) (4 : Int), skC [true, true, true, true, true, true, true, true, true, true, true, true, true, true, true, true] (zqK82_ g) (6 : Int) K (v % (2 : Int)) (5 : Int), skC [true, true, true, true, true, true, true, true, true, true, true, true, true, true, true, true] (zqK82_ g) (6 : Int) K (v % (2 : Int)) (6 : Int), skC [true, true, true, true, true, true, true, true, true, true, true, true, true, true, true, true] (zqK82_ g) (6 : Int) K (v % (2 : Int)) (7 : Int), skC [true, true, true, true, true, true, true, true, true, true, true, true, true, true, true, true] (zqK82_ g) (6 : Int) K (v % (2 : Int)) (8 : Int), skC [true, true, true, true, true, true, true, true, true, true, true, true, true, true, true, true] (zqK82_ g) (6 : Int) K (v % (2 : Int)) (9 : Int), skC [true, true, true, true, true, true, true, true, true, true, true, true, true, true, true, true] (zqK82_ g) (6 : Int) K (v % (2 : Int)) (10 : Int), skC [true, true, true, true, true, true, true, true, true, true, true, true, true, true, true, true] (zqK82_ g) (6 : Int) K (v % (2 : Int)) (11 : Int), skC [true, true, true, true, true, true, true, true, true, true, true, true, true, true, true, true] (zqK82_ g) (6 : Int) K (v % (2 : Int)) (12 : Int), skC [true, true, true, true, true, true, true, true, true, true, true, true, true, true, true, true] (zqK82_ g) (6 : Int) K (v % (2 : Int)) (13 : Int), skC [true, true, true, true, true, true, true, true, true, true, true, true, true, true, true, true] (zqK82_ g) (6 : Int) K (v % (2 : Int)) (14 : Int), skC [true, true, true, true, true, true, true, true, true, true, true, true, true, true, true, true] (zqK82_ g) (6 : Int) K (v % (2 : Int)) (15 : Int)]
theorem sb_go (f : Nat → Int) (n : Nat) (u v : Int) : ∃ hh, vcOf (runGo Try.prog specs noL 6000 7 [] [1, 1, 1, 1, 0, 1, 0] (Tr.ofList [.slice 0 (.c 0) (.s n) 1 (.s n), .int .i64 (.s u), .int .i64 (.s v)]) (Hx [.ext f (.s (n * 1))]) hh)
    (reached fun T1 H1 => weakP T1 H1 (sbT n 0 (IntKind.i64.wrap ((IntKind.u64.wrap u).tmod 5)) v) (sbB f n (fun _ => 0)) 4) := by

  refine vcIntro [] (an tt (an (an (an tt (an (@Eq.refl (Nat) n) (show n ≤ n by ((try dsimp only [zqK82_, zqK81_] at *); simp; done)))) (an (ri v) (an tt (an (ri (IntKind.i64.wrap ((IntKind.u64.wrap u).tmod (5 : Int)))) (an (ri ((0 : Int))) tt))))) (an (an (show n * (1 : Nat) ≤ n * (1 : Nat) by ((try dsimp only [zqK82_, zqK81_] at *); simp; done)) (show ∀ (k : Nat), k < n * (1 : Nat) → f k = f k from fun _ _ => rfl)) (an (an (@Eq.refl (Nat) ((0 : Nat))) (an (show ∀ (k : Nat), k < (0 : Nat) → (0 : Int) = (0 : Int) from fun _ _ => rfl) (an (rb true) (an (rb true) (an (rb true) (an (rb true) (an (rb true) (an (rb true) (an (rb true) (an (rb true) (an (rb true) (an (rb true) (an (rb true) (an (rb true) (an (rb true) (an (rb true) (an (rb true) (an (rb true) (an (ri ((0 : Int))) (an (ri ((0 : Int))) (an (ri ((0 : Int))) (an (ri ((0 : Int))) (an (ri ((0 : Int))) (an (ri ((0 : Int))) (an (ri ((0 : Int))) (an (ri ((0 : Int))) (an (ri ((0 : Int))) (an (ri ((0 : Int))) (an (ri ((0 : Int))) (an (ri ((0 : Int))) (an (ri ((0 : Int))) (an (ri ((0 : Int))) (an (ri ((0 : Int))) (an (ri ((0 : Int))) (an (ri ((0 : Int))) (an (ri ((0 : Int))) (an (ri ((0 : Int))) (an (ri ((0 : Int))) (an (ri ((0 : Int))) (an (ri ((0 : Int))) (an (ri ((0 : Int))) (an (ri ((0 : Int))) (an (ri ((0 : Int))) (an (ri ((0 : Int))) (an (ri ((0 : Int))) (an (ri ((0 : Int))) (an (ri ((0 : Int))) (an (ri ((0 : Int))) (an (ri ((0 : Int))) (ri ((0 : Int)))))))))))))))))))))))))))))))))))))))))))))))))))) tt)))) ?_
  kernel_rfl
theorem sb_b1 (f : Nat → Int) (n i : Nat) (K v : Int) (g : Nat → Int) (hn : n ≤ 9223372036854775807) (hi : i ≤ 5) (hK : 0 ≤ K ∧ K < 5) (hx : (f i % 1024).tmod 5 = K) :
    ∃ hh, vcOf (runAt Try.prog specs noL 6000 7 [1, 1, 1, 1, 0, 1, 0, 0] (Tr.ofPairs (sbT n i K v)) (Hm (sbB f n g) 4) hh)
    (roundK 4 [0, 1, 2, 3] (sbT n (i + 1) K v) (sbB f n g) (i < n ∧ i < 5) 0 (sbT n i K v) (sbB f n g) True) := by

  rcases Bool.eq_false_or_eq_true (decide ((↑i : Int) < (↑n : Int))) with h0 | h0
  ·
   rcases Bool.eq_false_or_eq_true (decide ((↑i : Int) < (5 : Int))) with h1 | h1
   ·
    rcases Bool.eq_false_or_eq_true ((f i % (1024 : Int)).tmod (5 : Int) == K) with h2 | h2
    ·
     refine vcIntro [true, true, true] (an (an h2 (an (show i.succ ≤ n * (1 : Nat) by ((try dsimp only [zqK82_, zqK81_] at *); simp at *; omega)) (an (an (show (0 : Int) ≤ (↑i : Int) by ((try dsimp only [zqK82_, zqK81_] at *); simp; done)) (show (↑i : Int) + (1 : Int) ≤ (↑n : Int) by ((try dsimp only [zqK82_, zqK81_] at *); simp at *; omega))) (an h1 (an h0 tt))))) (an (an (an (an tt (an (@Eq.refl (Nat) n) (show n ≤ n by ((try dsimp only [zqK82_, zqK81_] at *); simp; done)))) (an (ri v) (an tt (an (ri K) (an (show (↑(i + (1 : Nat)) : Int) = IntKind.i64.wrap ((↑i : Int) + (1 : Int)) by ((try dsimp only [zqK82_, zqK81_] at *); rw [wrapk _ (by simp at *; omega)]; simp; done)) tt))))) (an (an (show n * (1 : Nat) ≤ n * (1 : Nat) by ((try dsimp only [zqK82_, zqK81_] at *); simp; done)) (show ∀ (k : Nat), k < n * (1 : Nat) → f k = f k from fun _ _ => rfl)) (an (an (@Eq.refl (Nat) ((0 : Nat))) (an (show ∀ (k : Nat), k < (0 : Nat) → (0 : Int) = (0 : Int) from fun _ _ => rfl) (an (rb true) (an (rb true) (an (rb true) (an (rb true) (an (rb true) (an (rb true) (an (rb true) (an (rb true) (an (rb true) (an (rb true) (an (rb true) (an (rb true) (an (rb true) (an (rb true) (an (rb true) (an (rb true) (an (ri ((0 : Int))) (an (ri ((0 : Int))) (an (ri ((0 : Int))) (an (ri ((0 : Int))) (an (ri ((0 : Int))) (an (ri ((0 : Int))) (an (ri ((0 : Int))) (an (ri ((0 : Int))) (an (ri ((0 : Int))) (an (ri ((0 : Int))) (an (ri ((0 : Int))) (an (ri ((0 : Int))) (an (ri ((0 : Int))) (an (ri ((0 : Int))) (an (ri ((0 : Int))) (an (ri ((0 : Int))) (an (ri (g (0 : Nat))) (an (ri (g (1 : Nat))) (an (ri (g (2 : Nat))) (an (ri (g (3 : Nat))) (an (ri (g (4 : Nat))) (an (ri (g (5 : Nat))) (an (ri (g (6 : Nat))) (an (ri (g (7 : Nat))) (an (ri (g (8 : Nat))) (an (ri (g (9 : Nat))) (an (ri (g (10 : Nat))) (an (ri (g (11 : Nat))) (an (ri (g (12 : Nat))) (an (ri (g (13 : Nat))) (an (ri (g (14 : Nat))) (ri (g (15 : Nat)))))))))))))))))))))))))))))))))))))))))))))))))))) tt))) (an (show i.succ ≤ n by ((try dsimp only [zqK82_, zqK81_] at *); simp at *; omega)) (show i.succ ≤ (5 : Nat) by ((try dsimp only [zqK82_, zqK81_] at *); simp at *; omega))))) ?_
     kernel_rfl
    · exact ff (by ((try dsimp only [zqK82_, zqK81_] at *); simp [hx] at *; done))
   ·
    refine vcIntro [true, false] (an (an h1 (an h0 tt)) (an (an (an (an tt (an (@Eq.refl (Nat) n) (show n ≤ n by ((try dsimp only [zqK82_, zqK81_] at *); simp; done)))) (an (ri v) (an tt (an (ri K) (an (ri ((↑i : Int))) tt))))) (an (an (show n * (1 : Nat) ≤ n * (1 : Nat) by ((try dsimp only [zqK82_, zqK81_] at *); simp; done)) (show ∀ (k : Nat), k < n * (1 : Nat) → f k = f k from fun _ _ => rfl)) (an (an (@Eq.refl (Nat) ((0 : Nat))) (an (show ∀ (k : Nat), k < (0 : Nat) → (0 : Int) = (0 : Int) from fun _ _ => rfl) (an (rb true) (an (rb true) (an (rb true) (an (rb true) (an (rb true) (an (rb true) (an (rb true) (an (rb true) (an (rb true) (an (rb true) (an (rb true) (an (rb true) (an (rb true) (an (rb true) (an (rb true) (an (rb true) (an (ri ((0 : Int))) (an (ri ((0 : Int))) (an (ri ((0 : Int))) (an (ri ((0 : Int))) (an (ri ((0 : Int))) (an (ri ((0 : Int))) (an (ri ((0 : Int))) (an (ri ((0 : Int))) (an (ri ((0 : Int))) (an (ri ((0 : Int))) (an (ri ((0 : Int))) (an (ri ((0 : Int))) (an (ri ((0 : Int))) (an (ri ((0 : Int))) (an (ri ((0 : Int))) (an (ri ((0 : Int))) (an (ri (g (0 : Nat))) (an (ri (g (1 : Nat))) (an (ri (g (2 : Nat))) (an (ri (g (3 : Nat))) (an (ri (g (4 : Nat))) (an (ri (g (5 : Nat))) (an (ri (g (6 : Nat))) (an (ri (g (7 : Nat))) (an (ri (g (8 : Nat))) (an (ri (g (9 : Nat))) (an (ri (g (10 : Nat))) (an (ri (g (11 : Nat))) (an (ri (g (12 : Nat))) (an (ri (g (13 : Nat))) (an (ri (g (14 : Nat))) (ri (g (15 : Nat)))))))))))))))))))))))))))))))))))))))))))))))))))) tt))) tt)) ?_
    kernel_rfl
  ·
   refine vcIntro [false] (an (an h0 tt) (an (an (an (an tt (an (@Eq.refl (Nat) n) (show n ≤ n by ((try dsimp only [zqK82_, zqK81_] at *); simp; done)))) (an (ri v) (an tt (an (ri K) (an (ri ((↑i : Int))) tt))))) (an (an (show n * (1 : Nat) ≤ n * (1 : Nat) by ((try dsimp only [zqK82_, zqK81_] at *); simp; done)) (show ∀ (k : Nat), k < n * (1 : Nat) → f k = f k from fun _ _ => rfl)) (an (an (@Eq.refl (Nat) ((0 : Nat))) (an (show ∀ (k : Nat), k < (0 : Nat) → (0 : Int) = (0 : Int) from fun _ _ => rfl) (an (rb true) (an (rb true) (an (rb true) (an (rb true) (an (rb true) (an (rb true) (an (rb true) (an (rb true) (an (rb true) (an (rb true) (an (rb true) (an (rb true) (an (rb true) (an (rb true) (an (rb true) (an (rb true) (an (ri ((0 : Int))) (an (ri ((0 : Int))) (an (ri ((0 : Int))) (an (ri ((0 : Int))) (an (ri ((0 : Int))) (an (ri ((0 : Int))) (an (ri ((0 : Int))) (an (ri ((0 : Int))) (an (ri ((0 : Int))) (an (ri ((0 : Int))) (an (ri ((0 : Int))) (an (ri ((0 : Int))) (an (ri ((0 : Int))) (an (ri ((0 : Int))) (an (ri ((0 : Int))) (an (ri ((0 : Int))) (an (ri (g (0 : Nat))) (an (ri (g (1 : Nat))) (an (ri (g (2 : Nat))) (an (ri (g (3 : Nat))) (an (ri (g (4 : Nat))) (an (ri (g (5 : Nat))) (an (ri (g (6 : Nat))) (an (ri (g (7 : Nat))) (an (ri (g (8 : Nat))) (an (ri (g (9 : Nat))) (an (ri (g (10 : Nat))) (an (ri (g (11 : Nat))) (an (ri (g (12 : Nat))) (an (ri (g (13 : Nat))) (an (ri (g (14 : Nat))) (ri (g (15 : Nat)))))))))))))))))))))))))))))))))))))))))))))))))))) tt))) tt)) ?_
   kernel_rfl
theorem sb_b2 (f : Nat → Int) (n i : Nat) (K v A X : Int) (g : Nat → Int) (hn : n ≤ 9223372036854775807) (hi : i ≤ 5) (hx : ¬ A = K) (eA : (f i % 1024).tmod 5 = A) (eX : f i / 1024 % 2 = X)
    (hm : skMay (zsG g) 6 A 0 X = true) (hs : skN tT (zsG g) 6 A 0 X = -1) :
    ∃ hh, vcOf (runAt Try.prog specs noL 6000 7 [1, 1, 1, 1, 0, 1, 0, 0] (Tr.ofPairs (sbT n i K v)) (Hm (sbB f n g) 4) hh)
    (roundK 4 [0, 1, 2, 3] (sbT n (i + 1) K v) (sbB f n (opG g 6 A X)) (i < n ∧ i < 5) 0 (sbT n i K v) (sbB f n g) True) := by
  simp only [zsG, tT] at hm hs

  rcases Bool.eq_false_or_eq_true (decide ((↑i : Int) < (↑n : Int))) with h0 | h0
  ·
   rcases Bool.eq_false_or_eq_true (decide ((↑i : Int) < (5 : Int))) with h1 | h1
   ·
    rcases Bool.eq_false_or_eq_true ((f i % (1024 : Int)).tmod (5 : Int) == K) with h2 | h2
    · exact ff (by ((try dsimp only [zqK82_, zqK81_] at *); simp only [eA, eX] at *; simp [hm, hs, hx] at *; done))
    ·
     rcases Bool.eq_false_or_eq_true (!skMay (zqK82_ g) (6 : Int) ((f i % (1024 : Int)).tmod (5 : Int)) (0 : Int) (f i / (1024 : Int) % (2 : Int))) with h3 | h3
     · exact ff (by ((try dsimp only [zqK82_, zqK81_] at *); rw [eA, eX] at *; simp [hm, hs] at *; done))
     ·
      rcases Bool.eq_false_or_eq_true (!skN [true, true, true, true, true, true, true, true, true, true, true, true, true, true, true, true] (zqK82_ g) (6 : Int) ((f i % (1024 : Int)).tmod (5 : Int)) (0 : Int) (f i / (1024 : Int) % (2 : Int)) == (-1 : Int)) with h4 | h4
      · exact ff (by ((try dsimp only [zqK82_, zqK81_] at *); rw [eA, eX] at *; simp [hm, hs] at *; done))
      ·
       refine vcIntro [true, true, false, false, false] (an (an h4 (an h3 (an (show i.succ ≤ n * (1 : Nat) by ((try dsimp only [zqK82_, zqK81_] at *); clear hm hs; simp at *; omega)) (an (an (show (0 : Int) ≤ (↑i : Int) by ((try dsimp only [zqK82_, zqK81_] at *); simp; done)) (show (↑i : Int) + (1 : Int) ≤ (↑n : Int) by ((try dsimp only [zqK82_, zqK81_] at *); clear hm hs; simp at *; omega))) (an h2 (an (show i.succ ≤ n * (1 : Nat) by ((try dsimp only [zqK82_, zqK81_] at *); clear hm hs; simp at *; omega)) (an (an (show (0 : Int) ≤ (↑i : Int) by ((try dsimp only [zqK82_, zqK81_] at *); simp; done)) (show (↑i : Int) + (1 : Int) ≤ (↑n : Int) by ((try dsimp only [zqK82_, zqK81_] at *); clear hm hs; simp at *; omega))) (an h1 (an h0 tt))))))))) (an (an (an (an tt (an (@Eq.refl (Nat) n) (show n ≤ n by ((try dsimp only [zqK82_, zqK81_] at *); simp; done)))) (an (ri v) (an tt (an (ri K) (an (show (↑(i + (1 : Nat)) : Int) = IntKind.i64.wrap ((↑i : Int) + (1 : Int)) by ((try dsimp only [zqK82_, zqK81_] at *); clear hm hs; rw [wrapk _ (by simp at *; omega)]; simp; done)) tt))))) (an (an (show n * (1 : Nat) ≤ n * (1 : Nat) by ((try dsimp only [zqK82_, zqK81_] at *); simp; done)) (show ∀ (k : Nat), k < n * (1 : Nat) → f k = f k from fun _ _ => rfl)) (an (an (@Eq.refl (Nat) ((0 : Nat))) (an (show ∀ (k : Nat), k < (0 : Nat) → (0 : Int) = (0 : Int) from fun _ _ => rfl) (an (rb true) (an (rb true) (an (rb true) (an (rb true) (an (rb true) (an (rb true) (an (rb true) (an (rb true) (an (rb true) (an (rb true) (an (rb true) (an (rb true) (an (rb true) (an (rb true) (an (rb true) (an (rb true) (an (ri ((0 : Int))) (an (ri ((0 : Int))) (an (ri ((0 : Int))) (an (ri ((0 : Int))) (an (ri ((0 : Int))) (an (ri ((0 : Int))) (an (ri ((0 : Int))) (an (ri ((0 : Int))) (an (ri ((0 : Int))) (an (ri ((0 : Int))) (an (ri ((0 : Int))) (an (ri ((0 : Int))) (an (ri ((0 : Int))) (an (ri ((0 : Int))) (an (ri ((0 : Int))) (an (ri ((0 : Int))) (an (show opG g (6 : Int) A X (0 : Nat) = skC [true, true, true, true, true, true, true, true, true, true, true, true, true, true, true, true] (zqK82_ g) (6 : Int) ((f i % (1024 : Int)).tmod (5 : Int)) (f i / (1024 : Int) % (2 : Int)) (0 : Int) by ((try dsimp only [zqK82_, zqK81_] at *); rw [eA, eX]; rfl)) (an (show opG g (6 : Int) A X (1 : Nat) = skC [true, true, true, true, true, true, true, true, true, true, true, true, true, true, true, true] (zqK82_ g) (6 : Int) ((f i % (1024 : Int)).tmod (5 : Int)) (f i / (1024 : Int) % (2 : Int)) (1 : Int) by ((try dsimp only [zqK82_, zqK81_] at *); rw [eA, eX]; rfl)) (an (show opG g (6 : Int) A X (2 : Nat) = skC [true, true, true, true, true, true, true, true, true, true, true, true, true, true, true, true] (zqK82_ g) (6 : Int) ((f i % (1024 : Int)).tmod (5 : Int)) (f i / (1024 : Int) % (2 : Int)) (2 : Int) by ((try dsimp only [zqK82_, zqK81_] at *); rw [eA, eX]; rfl)) (an (show opG g (6 : Int) A X (3 : Nat) = skC [true, true, true, true, true, true, true, true, true, true, true, true, true, true, true, true] (zqK82_ g) (6 : Int) ((f i % (1024 : Int)).tmod (5 : Int)) (f i / (1024 : Int) % (2 : Int)) (3 : Int) by ((try dsimp only [zqK82_, zqK81_] at *); rw [eA, eX]; rfl)) (an (show opG g (6 : Int) A X (4 : Nat) = skC [true, true, true, true, true, true, true, true, true, true, true, true, true, true, true, true] (zqK82_ g) (6 : Int) ((f i % (1024 : Int)).tmod (5 : Int)) (f i / (1024 : Int) % (2 : Int)) (4 : Int) by ((try dsimp only [zqK82_, zqK81_] at *); rw [eA, eX]; rfl)) (an (show opG g (6 : Int) A X (5 : Nat) = skC [true, true, true, true, true, true, true, true, true, true, true, true, true, true, true, true] (zqK82_ g) (6 : Int) ((f i % (1024 : Int)).tmod (5 : Int)) (f i / (1024 : Int) % (2 : Int)) (5 : Int) by ((try dsimp only [zqK82_, zqK81_] at *); rw [eA, eX]; rfl)) (an (show opG g (6 : Int) A X (6 : Nat) = skC [true, true, true, true, true, true, true, true, true, true, true, true, true, true, true, true] (zqK82_ g) (6 : Int) ((f i % (1024 : Int)).tmod (5 : Int)) (f i / (1024 : Int) % (2 : Int)) (6 : Int) by ((try dsimp only [zqK82_, zqK81_] at *); rw [eA, eX]; rfl)) (an (show opG g (6 : Int) A X (7 : Nat) = skC [true, true, true, true, true, true, true, true, true, true, true, true, true, true, true, true] (zqK82_ g) (6 : Int) ((f i % (1024 : Int)).tmod (5 : Int)) (f i / (1024 : Int) % (2 : Int)) (7 : Int) by ((try dsimp only [zqK82_, zqK81_] at *); rw [eA, eX]; rfl)) (an (show opG g (6 : Int) A X (8 : Nat) = skC [true, true, true, true, true, true, true, true, true, true, true, true, true, true, true, true] (zqK82_ g) (6 : Int) ((f i % (1024 : Int)).tmod (5 : Int)) (f i / (1024 : Int) % (2 : Int)) (8 : Int) by ((try dsimp only [zqK82_, zqK81_] at *); rw [eA, eX]; rfl)) (an (show opG g (6 : Int) A X (9 : Nat) = skC [true, true, true, true, true, true, true, true, true, true, true, true, true, true, true, true] (zqK82_ g) (6 : Int) ((f i % (1024 : Int)).tmod (5 : Int)) (f i / (1024 : Int) % (2 : Int)) (9 : Int) by ((try dsimp only [zqK82_, zqK81_] at *); rw [eA, eX]; rfl)) (an (show opG g (6 : Int) A X (10 : Nat) = skC [true, true, true, true, true, true, true, true, true, true, true, true, true, true, true, true] (zqK82_ g) (6 : Int) ((f i % (1024 : Int)).tmod (5 : Int)) (f i / (1024 : Int) % (2 : Int)) (10 : Int) by ((try dsimp only [zqK82_, zqK81_] at *); rw [eA, eX]; rfl)) (an (show opG g (6 : Int) A X (11 : Nat) = skC [true, true, true, true, true, true, true, true, true, true, true, true, true, true, true, true] (zqK82_ g) (6 : Int) ((f i % (1024 : Int)).tmod (5 : Int)) (f i / (1024 : Int) % (2 : Int)) (11 : Int) by ((try dsimp only [zqK82_, zqK81_] at *); rw [eA, eX]; rfl)) (an (show opG g (6 : Int) A X (12 : Nat) = skC [true, true, true, true, true, true, true, true, true, true, true, true, true, true, true, true] (zqK82_ g) (6 : Int) ((f i % (1024 : Int)).tmod (5 : Int)) (f i / (1024 : Int) % (2 : Int)) (12 : Int) by ((try dsimp only [zqK82_, zqK81_] at *); rw [eA, eX]; rfl)) (an (show opG g (6 : Int) A X (13 : Nat) = skC [true, true, true, true, true, true, true, true, true, true, true, true, true, true, true, true] (zqK82_ g) (6 : Int) ((f i % (1024 : Int)).tmod (5 : Int)) (f i / (1024 : Int) % (2 : Int)) (13 : Int) by ((try dsimp only [zqK82_, zqK81_] at *); rw [eA, eX]; rfl)) (an (show opG g (6 : Int) A X (14 : Nat) = skC [true, true, true, true, true, true, true, true, true, true, true, true, true, true, true, true] (zqK82_ g) (6 : Int) ((f i % (1024 : Int)).tmod (5 : Int)) (f i / (1024 : Int) % (2 : Int)) (14 : Int) by ((try dsimp only [zqK82_, zqK81_] at *); rw [eA, eX]; rfl)) (show opG g (6 : Int) A X (15 : Nat) = skC [true, true, true, true, true, true, true, true, true, true, true, true, true, true, true, true] (zqK82_ g) (6 : Int) ((f i % (1024 : Int)).tmod (5 : Int)) (f i / (1024 : Int) % (2 : Int)) (15 : Int) by ((try dsimp only [zqK82_, zqK81_] at *); rw [eA, eX]; rfl))))))))))))))))))))))))))))))))))))))))))))))))))) tt))) (an (show i.succ ≤ n by ((try dsimp only [zqK82_, zqK81_] at *); clear hm hs; simp at *; omega)) (show i.succ ≤ (5 : Nat) by ((try dsimp only [zqK82_, zqK81_] at *); clear hm hs; simp at *; omega))))) ?_
       kernel_rfl
   ·
    refine vcIntro [true, false] (an (an h1 (an h0 tt)) (an (an (an (an tt (an (@Eq.refl (Nat) n) (show n ≤ n by ((try dsimp only [zqK82_, zqK81_] at *); simp; done)))) (an (ri v) (an tt (an (ri K) (an (ri ((↑i : Int))) tt))))) (an (an (show n * (1 : Nat) ≤ n * (1 : Nat) by ((try dsimp only [zqK82_, zqK81_] at *); simp; done)) (show ∀ (k : Nat), k < n * (1 : Nat) → f k = f k from fun _ _ => rfl)) (an (an (@Eq.refl (Nat) ((0 : Nat))) (an (show ∀ (k : Nat), k < (0 : Nat) → (0 : Int) = (0 : Int) from fun _ _ => rfl) (an (rb true) (an (rb true) (an (rb true) (an (rb true) (an (rb true) (an (rb true) (an (rb true) (an (rb true) (an (rb true) (an (rb true) (an (rb true) (an (rb true) (an (rb true) (an (rb true) (an (rb true) (an (rb true) (an (ri ((0 : Int))) (an (ri ((0 : Int))) (an (ri ((0 : Int))) (an (ri ((0 : Int))) (an (ri ((0 : Int))) (an (ri ((0 : Int))) (an (ri ((0 : Int))) (an (ri ((0 : Int))) (an (ri ((0 : Int))) (an (ri ((0 : Int))) (an (ri ((0 : Int))) (an (ri ((0 : Int))) (an (ri ((0 : Int))) (an (ri ((0 : Int))) (an (ri ((0 : Int))) (an (ri ((0 : Int))) (an (ri (g (0 : Nat))) (an (ri (g (1 : Nat))) (an (ri (g (2 : Nat))) (an (ri (g (3 : Nat))) (an (ri (g (4 : Nat))) (an (ri (g (5 : Nat))) (an (ri (g (6 : Nat))) (an (ri (g (7 : Nat))) (an (ri (g (8 : Nat))) (an (ri (g (9 : Nat))) (an (ri (g (10 : Nat))) (an (ri (g (11 : Nat))) (an (ri (g (12 : Nat))) (an (ri (g (13 : Nat))) (an (ri (g (14 : Nat))) (ri (g (15 : Nat)))))))))))))))))))))))))))))))))))))))))))))))))))) tt))) tt)) ?_
    kernel_rfl
  ·
   refine vcIntro [false] (an (an h0 tt) (an (an (an (an tt (an (@Eq.refl (Nat) n) (show n ≤ n by ((try dsimp only [zqK82_, zqK81_] at *); simp; done)))) (an (ri v) (an tt (an (ri K) (an (ri ((↑i : Int))) tt))))) (an (an (show n * (1 : Nat) ≤ n * (1 : Nat) by ((try dsimp only [zqK82_, zqK81_] at *); simp; done)) (show ∀ (k : Nat), k < n * (1 : Nat) → f k = f k from fun _ _ => rfl)) (an (an (@Eq.refl (Nat) ((0 : Nat))) (an (show ∀ (k : Nat), k < (0 : Nat) → (0 : Int) = (0 : Int) from fun _ _ => rfl) (an (rb true) (an (rb true) (an (rb true) (an (rb true) (an (rb true) (an (rb true) (an (rb true) (an (rb true) (an (rb true) (an (rb true) (an (rb true) (an (rb true) (an (rb true) (an (rb true) (an (rb true) (an (rb true) (an (ri ((0 : Int))) (an (ri ((0 : Int))) (an (ri ((0 : Int))) (an (ri ((0 : Int))) (an (ri ((0 : Int))) (an (ri ((0 : Int))) (an (ri ((0 : Int))) (an (ri ((0 : Int))) (an (ri ((0 : Int))) (an (ri ((0 : Int))) (an (ri ((0 : Int))) (an (ri ((0 : Int))) (an (ri ((0 : Int))) (an (ri ((0 : Int))) (an (ri ((0 : Int))) (an (ri ((0 : Int))) (an (ri (g (0 : Nat))) (an (ri (g (1 : Nat))) (an (ri (g (2 : Nat))) (an (ri (g (3 : Nat))) (an (ri (g (4 : Nat))) (an (ri (g (5 : Nat))) (an (ri (g (6 : Nat))) (an (ri (g (7 : Nat))) (an (ri (g (8 : Nat))) (an (ri (g (9 : Nat))) (an (ri (g (10 : Nat))) (an (ri (g (11 : Nat))) (an (ri (g (12 : Nat))) (an (ri (g (13 : Nat))) (an (ri (g (14 : Nat))) (ri (g (15 : Nat)))))))))))))))))))))))))))))))))))))))))))))))))))) tt))) tt)) ?_
   kernel_rfl
def zH (g : Nat → Int) (K v : Int) : List Int := [0, 0, 0, 0, 0, 0, 0, 0, 0, 0, 0, 0, 0, 0, 0, 0, skC tT (zsG g) 6 K (v % 2) 0, skC tT (zsG g) 6 K (v % 2) 1, skC tT (zsG g) 6 K (v % 2) 2, skC tT (zsG g) 6 K (v % 2) 3, skC tT (zsG g) 6 K (v % 2) 4, skC tT (zsG g) 6 K (v % 2) 5, skC tT (zsG g) 6 K (v % 2) 6, skC tT (zsG g) 6 K (v % 2) 7, skC tT (zsG g) 6 K (v % 2) 8, skC tT (zsG g) 6 K (v % 2) 9, skC tT (zsG g) 6 K (v % 2) 10, skC tT (zsG g) 6 K (v % 2) 11, skC tT (zsG g) 6 K (v % 2) 12, skC tT (zsG g) 6 K (v % 2) 13, skC tT (zsG g) 6 K (v % 2) 14, skC tT (zsG g) 6 K (v % 2) 15]
theorem sb_end (f : Nat → Int) (n i : Nat) (K v : Int) (g : Nat → Int) (hm : skMay (zsG g) 6 K 0 (v % 2) = true) (hs : skN tT (zsG g) 6 K 0 (v % 2) = -1) (hm2 : skMay (zsG (opG g 6 K (v % 2))) 7 K 0 0 = true) (hs2 : skN tT (zsG (opG g 6 K (v % 2))) 7 K 0 0 = -1)
    (c1 : skCode tT (zsG g) 6 K = 0) (c2 : skNum tT (zsG g) 6 K 0 = K) (c3 : skCode tT (zsG (opG g 6 K (v % 2))) 7 K = 0) (c4 : skNum tT (zsG (opG g 6 K (v % 2))) 7 K 0 = K)
    (d1 : ∀ j, j < 16 → opG (opG g 6 K (v % 2)) 7 K 0 j = g j) (d2 : ¬ (∀ j, j < 16 → opG g 6 K (v % 2) j = g j)) :
    ∃ hh, vcOf (runRet Try.prog specs noL 6000 7 [1, 1, 1, 1, 0, 1, 0] (.exit 0) (Tr.ofPairs (sbT n i K v)) (Hm (sbB f n g) 4) hh) (fun v _ => isT v) := by
  have q0 : skC tT (zH g K v) 7 K 0 0 = g 0 := d1 0 (by omega)
  have q1 : skC tT (zH g K v) 7 K 0 1 = g 1 := d1 1 (by omega)
  have q2 : skC tT (zH g K v) 7 K 0 2 = g 2 := d1 2 (by omega)
  have q3 : skC tT (zH g K v) 7 K 0 3 = g 3 := d1 3 (by omega)
  have q4 : skC tT (zH g K v) 7 K 0 4 = g 4 := d1 4 (by omega)
  have q5 : skC tT (zH g K v) 7 K 0 5 = g 5 := d1 5 (by omega)
  have q6 : skC tT (zH g K v) 7 K 0 6 = g 6 := d1 6 (by omega)
  have q7 : skC tT (zH g K v) 7 K 0 7 = g 7 := d1 7 (by omega)
  have q8 : skC tT (zH g K v) 7 K 0 8 = g 8 := d1 8 (by omega)
  have q9 : skC tT (zH g K v) 7 K 0 9 = g 9 := d1 9 (by omega)
  have q10 : skC tT (zH g K v) 7 K 0 10 = g 10 := d1 10 (by omega)
  have q11 : skC tT (zH g K v) 7 K 0 11 = g 11 := d1 11 (by omega)
  have q12 : skC tT (zH g K v) 7 K 0 12 = g 12 := d1 12 (by omega)
  have q13 : skC tT (zH g K v) 7 K 0 13 = g 13 := d1 13 (by omega)
  have q14 : skC tT (zH g K v) 7 K 0 14 = g 14 := d1 14 (by omega)
  have q15 : skC tT (zH g K v) 7 K 0 15 = g 15 := d1 15 (by omega)
  have d3 : ¬ ((skC tT (zsG g) 6 K (v % 2) 0) = g 0 ∧ (skC tT (zsG g) 6 K (v % 2) 1) = g 1 ∧ (skC tT (zsG g) 6 K (v % 2) 2) = g 2 ∧ (skC tT (zsG g) 6 K (v % 2) 3) = g 3 ∧ (skC tT (zsG g) 6 K (v % 2) 4) = g 4 ∧ (skC tT (zsG g) 6 K (v % 2) 5) = g 5 ∧ (skC tT (zsG g) 6 K (v % 2) 6) = g 6 ∧ (skC tT (zsG g) 6 K (v % 2) 7) = g 7 ∧ (skC tT (zsG g) 6 K (v % 2) 8) = g 8 ∧ (skC tT (zsG g) 6 K (v % 2) 9) = g 9 ∧ (skC tT (zsG g) 6 K (v % 2) 10) = g 10 ∧ (skC tT (zsG g) 6 K (v % 2) 11) = g 11 ∧ (skC tT (zsG g) 6 K (v % 2) 12) = g 12 ∧ (skC tT (zsG g) 6 K (v % 2) 13) = g 13 ∧ (skC tT (zsG g) 6 K (v % 2) 14) = g 14 ∧ (skC tT (zsG g) 6 K (v % 2) 15) = g 15) := fun h => d2 fun j hj => by
    obtain ⟨h0x, h1x, h2x, h3x, h4x, h5x, h6x, h7x, h8x, h9x, h10x, h11x, h12x, h13x, h14x, h15x⟩ := h
    rcases (by omega : j = 0 ∨ j = 1 ∨ j = 2 ∨ j = 3 ∨ j = 4 ∨ j = 5 ∨ j = 6 ∨ j = 7 ∨ j = 8 ∨ j = 9 ∨ j = 10 ∨ j = 11 ∨ j = 12 ∨ j = 13 ∨ j = 14 ∨ j = 15) with rfl | rfl | rfl | rfl | rfl | rfl | rfl | rfl | rfl | rfl | rfl | rfl | rfl | rfl | rfl | rfl
    · exact h0x
    · exact h1x
    · exact h2x
    · exact h3x
    · exact h4x
    · exact h5x
    · exact h6x
    · exact h7x
    · exact h8x
    · exact h9x
    · exact h10x
    · exact h11x
    · exact h12x
    · exact h13x
    · exact h14x
    · exact h15x
  clear d1 d2
  change skMay (zsG g) 6 K 0 (v % 2) = true at hm
  change skN tT (zsG g) 6 K 0 (v % 2) = -1 at hs
  change skMay (zH g K v) 7 K 0 0 = true at hm2
  change skN tT (zH g K v) 7 K 0 0 = -1 at hs2
  change skCode tT (zsG g) 6 K = 0 at c1
  change skNum tT (zsG g) 6 K 0 = K at c2
  change skCode tT (zH g K v) 7 K = 0 at c3
  change skNum tT (zH g K v) 7 K 0 = K at c4
  simp only [zH, zsG, tT] at hm hs hm2 hs2 c1 c2 c3 c4 d3 q0 q1 q2 q3 q4 q5 q6 q7 q8 q9 q10 q11 q12 q13 q14 q15

  rcases Bool.eq_false_or_eq_true (!skMay (zqK82_ g) (6 : Int) K (0 : Int) (v % (2 : Int))) with h0 | h0
  · exact ff (by ((try dsimp only [zqK82_, zqK81_] at *); clear d3 q0 q1 q2 q3 q4 q5 q6 q7 q8 q9 q10 q11 q12 q13 q14 q15; simp [hm, hs, hm2, hs2, c1, c2, c3, c4] at *; done))
  ·
   rcases Bool.eq_false_or_eq_true (!skN [true, true, true, true, true, true, true, true, true, true, true, true, true, true, true, true] (zqK82_ g) (6 : Int) K (0 : Int) (v % (2 : Int)) == (-1 : Int)) with h1 | h1
   · exact ff (by ((try dsimp only [zqK82_, zqK81_] at *); clear d3 q0 q1 q2 q3 q4 q5 q6 q7 q8 q9 q10 q11 q12 q13 q14 q15; simp [hm, hs, hm2, hs2, c1, c2, c3, c4] at *; done))
   ·
    rcases Bool.eq_false_or_eq_true (!skMay (zqK81_ K v g) (7 : Int) K (0 : Int) (0 : Int)) with h2 | h2
    · exact ff (by ((try dsimp only [zqK82_, zqK81_] at *); clear d3 q0 q1 q2 q3 q4 q5 q6 q7 q8 q9 q10 q11 q12 q13 q14 q15; simp [hm, hs, hm2, hs2, c1, c2, c3, c4] at *; done))
    ·
     rcases Bool.eq_false_or_eq_true (!skN [true, true, true, true, true, true, true, true, true, true, true, true, true, true, true, true] (zqK81_ K v g) (7 : Int) K (0 : Int) (0 : Int) == (-1 : Int)) with h3 | h3
     · exact ff (by ((try dsimp only [zqK82_, zqK81_] at *); clear d3 q0 q1 q2 q3 q4 q5 q6 q7 q8 q9 q10 q11 q12 q13 q14 q15; simp [hm, hs, hm2, hs2, c1, c2, c3, c4] at *; done))
     ·
      rcases Bool.eq_false_or_eq_true (!(skCode [true, true, true, true, true, true, true, true, true, true, true, true, true, true, true, true] (zqK82_ g) (6 : Int) K == (0 : Int) && skNum [true, true, true, true, true, true, true, true, true, true, true, true, true, true, true, true] (zqK82_ g) (6 : Int) K (0 : Int) == K)) with h4 | h4
      · exact ff (by ((try dsimp only [zqK82_, zqK81_] at *); clear d3 q0 q1 q2 q3 q4 q5 q6 q7 q8 q9 q10 q11 q12 q13 q14 q15; simp [hm, hs, hm2, hs2, c1, c2, c3, c4] at *; done))
      ·
       rcases Bool.eq_false_or_eq_true (!(skCode [true, true, true, true, true, true, true, true, true, true, true, true, true, true, true, true] (zqK81_ K v g) (7 : Int) K == (0 : Int) && skNum [true, true, true, true, true, true, true, true, true, true, true, true, true, true, true, true] (zqK81_ K v g) (7 : Int) K (0 : Int) == K)) with h5 | h5
       · exact ff (by ((try dsimp only [zqK82_, zqK81_] at *); clear d3 q0 q1 q2 q3 q4 q5 q6 q7 q8 q9 q10 q11 q12 q13 q14 q15; simp [hm, hs, hm2, hs2, c1, c2, c3, c4] at *; done))
       ·
        rcases Bool.eq_false_or_eq_true (!(true == true && (true == true && (true == true && (true == true && (true == true && (true == true && (true == true && (true == true && (true == true && (true == true && (true == true && (true == true && (true == true && (true == true && (true == true && true == true)))))))))))))) && ((0 : Int) == (0 : Int) && ((0 : Int) == (0 : Int) && ((0 : Int) == (0 : Int) && ((0 : Int) == (0 : Int) && ((0 : Int) == (0 : Int) && ((0 : Int) == (0 : Int) && ((0 : Int) == (0 : Int) && ((0 : Int) == (0 : Int) && ((0 : Int) == (0 : Int) && ((0 : Int) == (0 : Int) && ((0 : Int) == (0 : Int) && ((0 : Int) == (0 : Int) && ((0 : Int) == (0 : Int) && ((0 : Int) == (0 : Int) && ((0 : Int) == (0 : Int) && (0 : Int) == (0 : Int))))))))))))))) && (skC [true, true, true, true, true, true, true, true, true, true, true, true, true, true, true, true] (zqK82_ g) (6 : Int) K (v % (2 : Int)) (0 : Int) == g (0 : Nat) && (skC [true, true, true, true, true, true, true, true, true, true, true, true, true, true, true, true] (zqK82_ g) (6 : Int) K (v % (2 : Int)) (1 : Int) == g (1 : Nat) && (skC [true, true, true, true, true, true, true, true, true, true, true, true, true, true, true, true] (zqK82_ g) (6 : Int) K (v % (2 : Int)) (2 : Int) == g (2 : Nat) && (skC [true, true, true, true, true, true, true, true, true, true, true, true, true, true, true, true] (zqK82_ g) (6 : Int) K (v % (2 : Int)) (3 : Int) == g (3 : Nat) && (skC [true, true, true, true, true, true, true, true, true, true, true, true, true, true, true, true] (zqK82_ g) (6 : Int) K (v % (2 : Int)) (4 : Int) == g (4 : Nat) && (skC [true, true, true, true, true, true, true, true, true, true, true, true, true, true, true, true] (zqK82_ g) (6 : Int) K (v % (2 : Int)) (5 : Int) == g (5 : Nat) && (skC [true, true, true, true, true, true, true, true, true, true, true, true, true, true, true, true] (zqK82_ g) (6 : Int) K (v % (2 : Int)) (6 : Int) == g (6 : Nat) && (skC [true, true, true, true, true, true, true, true, true, true, true, true, true, true, true, true] (zqK82_ g) (6 : Int) K (v % (2 : Int)) (7 : Int) == g (7 : Nat) && (skC [true, true, true, true, true, true, true, true, true, true, true, true, true, true, true, true] (zqK82_ g) (6 : Int) K (v % (2 : Int)) (8 : Int) == g (8 : Nat) && (skC [true, true, true, true, true, true, true, true, true, true, true, true, true, true, true, true] (zqK82_ g) (6 : Int) K (v % (2 : Int)) (9 : Int) == g (9 : Nat) && (skC [true, true, true, true, true, true, true, true, true, true, true, true, true, true, true, true] (zqK82_ g) (6 : Int) K (v % (2 : Int)) (10 : Int) == g (10 : Nat) && (skC [true, true, true, true, true, true, true, true, true, true, true, true, true, true, true, true] (zqK82_ g) (6 : Int) K (v % (2 : Int)) (11 : Int) == g (11 : Nat) && (skC [true, true, true, true, true, true, true, true, true, true, true, true, true, true, true, true] (zqK82_ g) (6 : Int) K (v % (2 : Int)) (12 : Int) == g (12 : Nat) && (skC [true, true, true, true, true, true, true, true, true, true, true, true, true, true, true, true] (zqK82_ g) (6 : Int) K (v % (2 : Int)) (13 : Int) == g (13 : Nat) && (skC [true, true, true, true, true, true, true, true, true, true, true, true, true, true, true, true] (zqK82_ g) (6 : Int) K (v % (2 : Int)) (14 : Int) == g (14 : Nat) && skC [true, true, true, true, true, true, true, true, true, true, true, true, true, true, true, true] (zqK82_ g) (6 : Int) K (v % (2 : Int)) (15 : Int) == g (15 : Nat))))))))))))))))))) with h6 | h6
        ·
         refine vcIntro [false, false, false, false, false, false, true] (an (an h6 (an h5 (an h4 (an h3 (an h2 (an h1 (an h0 tt))))))) (show (true == true && (true == true && (true == true && (true == true && (true == true && (true == true && (true == true && (true == true && (true == true && (true == true && (true == true && (true == true && (true == true && (true == true && (true == true && true == true)))))))))))))) && ((0 : Int) == (0 : Int) && ((0 : Int) == (0 : Int) && ((0 : Int) == (0 : Int) && ((0 : Int) == (0 : Int) && ((0 : Int) == (0 : Int) && ((0 : Int) == (0 : Int) && ((0 : Int) == (0 : Int) && ((0 : Int) == (0 : Int) && ((0 : Int) == (0 : Int) && ((0 : Int) == (0 : Int) && ((0 : Int) == (0 : Int) && ((0 : Int) == (0 : Int) && ((0 : Int) == (0 : Int) && ((0 : Int) == (0 : Int) && ((0 : Int) == (0 : Int) && (0 : Int) == (0 : Int))))))))))))))) && (skC [true, true, true, true, true, true, true, true, true, true, true, true, true, true, true, true] (zqK81_ K v g) (7 : Int) K (0 : Int) (0 : Int) == g (0 : Nat) && (skC [true, true, true, true, true, true, true, true, true, true, true, true, true, true, true, true] (zqK81_ K v g) (7 : Int) K (0 : Int) (1 : Int) == g (1 : Nat) && (skC [true, true, true, true, true, true, true, true, true, true, true, true, true, true, true, true] (zqK81_ K v g) (7 : Int) K (0 : Int) (2 : Int) == g (2 : Nat) && (skC [true, true, true, true, true, true, true, true, true, true, true, true, true, true, true, true] (zqK81_ K v g) (7 : Int) K (0 : Int) (3 : Int) == g (3 : Nat) && (skC [true, true, true, true, true, true, true, true, true, true, true, true, true, true, true, true] (zqK81_ K v g) (7 : Int) K (0 : Int) (4 : Int) == g (4 : Nat) && (skC [true, true, true, true, true, true, true, true, true, true, true, true, true, true, true, true] (zqK81_ K v g) (7 : Int) K (0 : Int) (5 : Int) == g (5 : Nat) && (skC [true, true, true, true, true, true, true, true, true, true, true, true, true, true, true, true] (zqK81_ K v g) (7 : Int) K (0 : Int) (6 : Int) == g (6 : Nat) && (skC [true, true, true, true, true, true, true, true, true, true, true, true, true, true, true, true] (zqK81_ K v g) (7 : Int) K (0 : Int) (7 : Int) == g (7 : Nat) && (skC [true, true, true, true, true, true, true, true, true, true, true, true, true, true, true, true] (zqK81_ K v g) (7 : Int) K (0 : Int) (8 : Int) == g (8 : Nat) && (skC [true, true, true, true, true, true, true, true, true, true, true, true, true, true, true, true] (zqK81_ K v g) (7 : Int) K (0 : Int) (9 : Int) == g (9 : Nat) && (skC [true, true, true, true, true, true, true, true, true, true, true, true, true, true, true, true] (zqK81_ K v g) (7 : Int) K (0 : Int) (10 : Int) == g (10 : Nat) && (skC [true, true, true, true, true, true, true, true, true, true, true, true, true, true, true, true] (zqK81_ K v g) (7 : Int) K (0 : Int) (11 : Int) == g (11 : Nat) && (skC [true, true, true, true, true, true, true, true, true, true, true, true, true, true, true, true] (zqK81_ K v g) (7 : Int) K (0 : Int) (12 : Int) == g (12 : Nat) && (skC [true, true, true, true, true, true, true, true, true, true, true, true, true, true, true, true] (zqK81_ K v g) (7 : Int) K (0 : Int) (13 : Int) == g (13 : Nat) && (skC [true, true, true, true, true, true, true, true, true, true, true, true, true, true, true, true] (zqK81_ K v g) (7 : Int) K (0 : Int) (14 : Int) == g (14 : Nat) && skC [true, true, true, true, true, true, true, true, true, true, true, true, true, true, true, true] (zqK81_ K v g) (7 : Int) K (0 : Int) (15 : Int) == g (15 : Nat)))))))))))))))))) = true by ((try dsimp only [zqK82_, zqK81_] at *); clear hm hs hm2 hs2 d3; simp [q0, q1, q2, q3, q4, q5, q6, q7, q8, q9, q10, q11, q12, q13, q14, q15]; done))) ?_
         kernel_rfl
        ·
         refine vcIntro [false, false, false, false, false, false, false] (an (an h6 (an h5 (an h4 (an h3 (an h2 (an h1 (an h0 tt))))))) (show False by ((try dsimp only [zqK82_, zqK81_] at *); clear hm hs hm2 hs2 c1 c2 c3 c4 h0 h1 h2 h3 h4; refine d3 ?_; clear d3 q0 q1 q2 q3 q4 q5 q6 q7 q8 q9 q10 q11 q12 q13 q14 q15; simp only [Bool.not_eq_false', Bool.and_eq_true, beq_iff_eq] at *; simp_all))) ?_
         kernel_rfl
end
end Go.Ideal.K6

namespace Go.Ideal.K6
section
open Go.Proofs Go.Ideal Go.Ideal.L1
set_option linter.unusedSimpArgs false
set_option linter.unusedVariables false
set_option maxRecDepth 100000
set_option maxHeartbeats 8000000

theorem allMay_s {g : Nat → Int} {p q : Nat → Bool} (h : isS g p q) : B1.allMay (zsG g) = true := by
  have b := fun j hj => by have := img_ok p q j hj; rw [← h.2.2.2 j hj] at this; exact this
  have b0 := b 0 (by omega); have b1 := b 1 (by omega); have b2 := b 2 (by omega); have b3 := b 3 (by omega)
  have b4 := b 4 (by omega); have b5 := b 5 (by omega); have b6 := b 6 (by omega); have b7 := b 7 (by omega)
  have b8 := b 8 (by omega); have b9 := b 9 (by omega); have b10 := b 10 (by omega); have b11 := b 11 (by omega)
  have b12 := b 12 (by omega); have b13 := b 13 (by omega); have b14 := b 14 (by omega); have b15 := b 15 (by omega)
  simp [zsG, B1.allMay, B1.valMay]; omega
theorem may6_s {g : Nat → Int} {p q : Nat → Bool} (h : isS g p q) (A X : Int) (hA : 0 ≤ A ∧ A < 5) (hX : X = 0 ∨ X = 1) : skMay (zsG g) 6 A 0 X = true := by
  simp only [skMay, allMay_s h, Bool.true_and]
  simp [B1.opMay]; omega
theorem may7_s {g : Nat → Int} {p q : Nat → Bool} (h : isS g p q) (A : Int) (hA : 0 ≤ A ∧ A < 5) : skMay (zsG g) 7 A 0 0 = true := by
  simp only [skMay, allMay_s h, Bool.true_and]
  simp [B1.opMay]; omega
theorem l5_put (p : Nat → Bool) (A K : Int) (hK : 0 ≤ K ∧ K < 5) : l5 (putP p A) K.toNat = (p K.toNat || decide (K = A)) := by
  rcases (by omega : K = 0 ∨ K = 1 ∨ K = 2 ∨ K = 3 ∨ K = 4) with rfl | rfl | rfl | rfl | rfl <;> rfl
theorem none_s : isS (fun _ => 0) (fun _ => false) (fun _ => false) := ⟨rfl, by funext j; match j with
  | 0 => rfl
  | 1 => rfl
  | 2 => rfl
  | 3 => rfl
  | 4 => rfl
  | j + 5 => rfl, by funext j; match j with
  | 0 => rfl
  | 1 => rfl
  | 2 => rfl
  | 3 => rfl
  | 4 => rfl
  | j + 5 => rfl, fun j hj => by
  rcases (by omega : j = 0 ∨ j = 1 ∨ j = 2 ∨ j = 3 ∨ j = 4 ∨ j = 5 ∨ j = 6 ∨ j = 7 ∨ j = 8 ∨ j = 9 ∨ j = 10 ∨ j = 11 ∨ j = 12 ∨ j = 13 ∨ j = 14 ∨ j = 15) with rfl | rfl | rfl | rfl | rfl | rfl | rfl | rfl | rfl | rfl | rfl | rfl | rfl | rfl | rfl | rfl <;> rfl⟩
theorem modU5 (w : Int) : 0 ≤ IntKind.i64.wrap ((IntKind.u64.wrap w).tmod 5) ∧ IntKind.i64.wrap ((IntKind.u64.wrap w).tmod 5) < 5 := by
  have h : 0 ≤ IntKind.u64.wrap w := by simp [IntKind.wrap, IntKind.bits, IntKind.signed]; omega
  rw [Int.tmod_eq_emod_of_nonneg h]
  have h1 := Int.emod_nonneg (IntKind.u64.wrap w) (show (5 : Int) ≠ 0 by omega)
  have h2 := Int.emod_lt_of_pos (IntKind.u64.wrap w) (show (0 : Int) < 5 by omega)
  rw [wrapk _ (by omega)]
  omega
theorem tm5 (v : Int) : 0 ≤ (v % 1024).tmod 5 ∧ (v % 1024).tmod 5 < 5 := by
  rw [Int.tmod_eq_emod_of_nonneg (by omega)]; omega
def sbN (f : Nat → Int) (K : Int) (a : Nat × (Nat → Int)) : Nat × (Nat → Int) := (a.1 + 1, if (f a.1 % 1024).tmod 5 = K then a.2 else opG a.2 6 ((f a.1 % 1024).tmod 5) (f a.1 / 1024 % 2))
def sbI (K : Int) (a : Nat × (Nat → Int)) : Prop := a.1 ≤ 5 ∧ ∃ p q, isS a.2 p q ∧ p K.toNat = false
theorem skipBack_q (f : Nat → Int) (n : Nat) (_ : ∀ i, i < n * 1 → -9223372036854775808 ≤ f i ∧ f i ≤ 9223372036854775807) (hn : n ≤ maxLen) (u : Int) (_ : -9223372036854775808 ≤ u ∧ u ≤ 9223372036854775807) (v : Int) (_ : -9223372036854775808 ≤ v ∧ v ≤ 9223372036854775807) :
    CallQ Try.prog 7 [.slice 0 (.c 0) (.s n) 1 (.s n), .int .i64 (.s u), .int .i64 (.s v)] (Hx [.ext f (.s (n * 1))]) (fun v _ => isT v) := by
  have hn' : n ≤ 9223372036854775807 := hn
  have hK := modU5 u
  have hgo := sb_go f n u v
  generalize IntKind.i64.wrap ((IntKind.u64.wrap u).tmod 5) = K at hK hgo
  refine CallQ.loop1 (n := 6000) specs_ok mixed (fun a : Nat × (Nat → Int) => sbT n a.1 K v) (fun a => sbB f n a.2) 4 [0, 1, 2, 3] (fun a => 5 - a.1) (sbI K) (sbN f K) (fun a => a.1 < n ∧ a.1 < 5) 0 (fun a => sbT n a.1 K v) (fun a => sbB f n a.2) (fun _ => True) (by kernel_rfl) (by kernel_rfl)
    (0, fun _ => 0) ⟨by simp, _, _, none_s, rfl⟩ hgo (fun a ha => ?_) (fun a ha hc => ⟨⟨by have h : a.1 < n ∧ a.1 < 5 := hc; show a.1 + 1 ≤ 5; omega, ?_⟩, by have h : a.1 < n ∧ a.1 < 5 := hc; show 5 - (a.1 + 1) < 5 - a.1; omega⟩) (fun a ha _ => ?_)
  · obtain ⟨i, g⟩ := a
    obtain ⟨hi, p, q, hs, hk⟩ := ha
    have hA := tm5 (f i)
    by_cases hx : (f i % 1024).tmod 5 = K
    · have := sb_b1 f n i K v g hn' hi hK hx
      simp only [sbN, hx, if_true]
      exact this
    · have := sb_b2 f n i K v ((f i % 1024).tmod 5) (f i / 1024 % 2) g hn' hi hx rfl rfl (may6_s hs _ _ hA (by omega)) (skN_all _ _ _ _ _ hA)
      simp only [sbN, hx, if_false]
      exact this
  · obtain ⟨i, g⟩ := a
    obtain ⟨hi, p, q, hs, hk⟩ := ha
    have hA := tm5 (f i)
    by_cases hx : (f i % 1024).tmod 5 = K
    · simp only [sbN, hx, if_true]; exact ⟨p, q, hs, hk⟩
    · simp only [sbN, hx, if_false]
      refine ⟨_, _, (put_s hs _ (f i / 1024 % 2) hA (by omega)).1, ?_⟩
      rw [l5_put _ _ _ hK, hk]
      simp; exact fun h => hx h.symm
  · obtain ⟨i, g⟩ := a
    obtain ⟨hi, p, q, hs, hk⟩ := ha
    have hX : v % 2 = 0 ∨ v % 2 = 1 := by omega
    have h1 := put_s hs K (v % 2) hK hX
    obtain ⟨d1, d2, d3, d4⟩ := del_s hs K (v % 2) hK hX hk
    exact sb_end f n i K v g (may6_s hs _ _ hK hX) (skN_all _ _ _ _ _ hK) (may7_s h1.1 _ hK) (skN_all _ _ _ _ _ hK) (by rw [h1.2.1, hk]; rfl) (by rw [h1.2.2, hk]; rfl) d2 d3 d1 d4
end
end Go.Ideal.K6
