/- Put together of: Zf1 Zf2 Zf3 Zf4 Zf5 Zp Zq. Own text; nothing here is trusted. -/
import Derived.Test.YtpmgdkldhimofaaZE
import Derived.Test.YtpmgdkldhimofaaR12
namespace Go.Ideal.Zf
section
open Go.Proofs Go.Ideal Go.Ideal.L1 Go.Ideal.K6 Go.Ideal.Bd
set_option linter.unusedSimpArgs false
set_option linter.unusedVariables false
set_option maxRecDepth 100000
set_option maxHeartbeats 80000000

def dosF : Spec := orS Y1.awake (orS bodyS below)
theorem dosF_ok : SpecOk Try.prog dosF := orS_ok Y1.awake_ok (orS_ok bodyS_ok below_ok)
def fT (n m : Nat) (e : Int) (i : Nat) : List (Nat × V) := [(0, .slice 0 (.c 0) (.s n) 1 (.s n)), (1, .slice 1 (.c 0) (.s m) 4 (.s m)), (2, .int .i64 (.s e)), (7, .slice 2 (.c 0) (.c 16) 1 (.c 16)), (8, .int .i64 (.s i))]
def fB (f g : Nat → Int) (n m : Nat) (h : Nat → Int) : List (Option Blk) := [some (.ext f (.s (n * 1))), some (.ext g (.s (m * 4))), some (.own false 3 h 16 [])]
theorem bf_go (f g : Nat → Int) (n m : Nat) (e : Int) : ∃ hh, vcOf (runGo Try.prog dosF noL 6000 12 [] [1, 1, 1, 0, 1, 0] (Tr.ofList [.slice 0 (.c 0) (.s n) 1 (.s n), .slice 1 (.c 0) (.s m) 4 (.s m), .int .i64 (.s e)]) (Hx [.ext f (.s (n * 1)), .ext g (.s (m * 4))]) hh)
    (reached fun T1 H1 => weakP T1 H1 (fT n m e 0) (fB f g n m (fun _ => 0)) 3) := by

  refine vcIntro [] (an tt (an (an (an tt (an (@Eq.refl (Nat) n) (show n ≤ n by (simp; done)))) (an (an tt (an (@Eq.refl (Nat) m) (show m ≤ m by (simp; done)))) (an (ri e) (an (an tt (an tt tt)) (an (ri ((0 : Int))) tt))))) (an (an (show n * (1 : Nat) ≤ n * (1 : Nat) by (simp; done)) (show ∀ (k : Nat), k < n * (1 : Nat) → f k = f k from fun _ _ => rfl)) (an (an (show m * (4 : Nat) ≤ m * (4 : Nat) by (simp; done)) (show ∀ (k : Nat), k < m * (4 : Nat) → g k = g k from fun _ _ => rfl)) (an (an (@Eq.refl (Nat) ((16 : Nat))) (an (show ∀ (k : Nat), k < (16 : Nat) → (0 : Int) = [(0 : Int), (0 : Int), (0 : Int), (0 : Int), (0 : Int), (0 : Int), (0 : Int), (0 : Int), (0 : Int), (0 : Int), (0 : Int), (0 : Int), (0 : Int), (0 : Int), (0 : Int), (0 : Int)].getD k (0 : Int) by (decide +kernel)) tt)) tt))))) ?_
  kernel_rfl
theorem bf_body (f g : Nat → Int) (n m : Nat) (e : Int) (i : Nat) (h : Nat → Int) (hn : n ≤ 9223372036854775807) :
    ∃ hh, vcOf (runAt Try.prog dosF noL 6000 12 [1, 1, 1, 0, 1, 0, 0] (Tr.ofPairs (fT n m e i)) (Hm (fB f g n m h) 3) hh)
    (roundK 3 [0, 1, 2] (fT n m e (i + 1)) (fB f g n m (fun k => if k = i then f i % 8 else h k)) (i < n ∧ i < 16) 0 (fT n m e i) (fB f g n m h) True) := by

  rcases Bool.eq_false_or_eq_true (decide ((↑i : Int) < (↑n : Int))) with h0 | h0
  ·
   rcases Bool.eq_false_or_eq_true (decide ((↑i : Int) < (16 : Int))) with h1 | h1
   ·
    refine vcIntro [true, true] (an (an (show i.succ ≤ (16 : Nat) by (simp at *; omega)) (an (an (show (0 : Int) ≤ (↑i : Int) by (simp; done)) (show (↑i : Int) + (1 : Int) ≤ (16 : Int) by (simp at *; omega))) (an (show i.succ ≤ n * (1 : Nat) by (simp at *; omega)) (an (an (show (0 : Int) ≤ (↑i : Int) by (simp; done)) (show (↑i : Int) + (1 : Int) ≤ (↑n : Int) by (simp at *; omega))) (an h1 (an h0 tt)))))) (an (an (an (an tt (an (@Eq.refl (Nat) n) (show n ≤ n by (simp; done)))) (an (an tt (an (@Eq.refl (Nat) m) (show m ≤ m by (simp; done)))) (an (ri e) (an (an tt (an tt tt)) (an (show (↑(i + (1 : Nat)) : Int) = IntKind.i64.wrap ((↑i : Int) + (1 : Int)) by (rw [wrapk _ (by simp at *; omega)]; simp; done)) tt))))) (an (an (show n * (1 : Nat) ≤ n * (1 : Nat) by (simp; done)) (show ∀ (k : Nat), k < n * (1 : Nat) → f k = f k from fun _ _ => rfl)) (an (an (show m * (4 : Nat) ≤ m * (4 : Nat) by (simp; done)) (show ∀ (k : Nat), k < m * (4 : Nat) → g k = g k from fun _ _ => rfl)) (an (an (@Eq.refl (Nat) ((16 : Nat))) (an (show ∀ (k : Nat), k < (16 : Nat) → (if k = i then f i % (8 : Int) else h k) = if k = i then f i % (8 : Int) else h k from fun _ _ => rfl) tt)) tt)))) (an (show i.succ ≤ n by (simp at *; omega)) (show i.succ ≤ (16 : Nat) by (simp at *; omega))))) ?_
    kernel_rfl
   ·
    refine vcIntro [true, false] (an (an h1 (an h0 tt)) (an (an (an (an tt (an (@Eq.refl (Nat) n) (show n ≤ n by (simp; done)))) (an (an tt (an (@Eq.refl (Nat) m) (show m ≤ m by (simp; done)))) (an (ri e) (an (an tt (an tt tt)) (an (ri ((↑i : Int))) tt))))) (an (an (show n * (1 : Nat) ≤ n * (1 : Nat) by (simp; done)) (show ∀ (k : Nat), k < n * (1 : Nat) → f k = f k from fun _ _ => rfl)) (an (an (show m * (4 : Nat) ≤ m * (4 : Nat) by (simp; done)) (show ∀ (k : Nat), k < m * (4 : Nat) → g k = g k from fun _ _ => rfl)) (an (an (@Eq.refl (Nat) ((16 : Nat))) (an (show ∀ (k : Nat), k < (16 : Nat) → h k = h k from fun _ _ => rfl) tt)) tt)))) tt)) ?_
    kernel_rfl
  ·
   refine vcIntro [false] (an (an h0 tt) (an (an (an (an tt (an (@Eq.refl (Nat) n) (show n ≤ n by (simp; done)))) (an (an tt (an (@Eq.refl (Nat) m) (show m ≤ m by (simp; done)))) (an (ri e) (an (an tt (an tt tt)) (an (ri ((↑i : Int))) tt))))) (an (an (show n * (1 : Nat) ≤ n * (1 : Nat) by (simp; done)) (show ∀ (k : Nat), k < n * (1 : Nat) → f k = f k from fun _ _ => rfl)) (an (an (show m * (4 : Nat) ≤ m * (4 : Nat) by (simp; done)) (show ∀ (k : Nat), k < m * (4 : Nat) → g k = g k from fun _ _ => rfl)) (an (an (@Eq.refl (Nat) ((16 : Nat))) (an (show ∀ (k : Nat), k < (16 : Nat) → h k = h k from fun _ _ => rfl) tt)) tt)))) tt)) ?_
   kernel_rfl
/-- The view behind cells.Full. -/
def wT (m : Nat) (e : Int) : List (Nat × V) := [(1, .slice 1 (.c 0) (.s m) 4 (.s m)), (2, .int .i64 (.s e)), (9, .ptr 5 (.c 0)), (10, .int .i64 (.c 0))]
def wB (g : Nat → Int) (m : Nat) (h : Nat → Int) : List (Option Blk) := [none, some (.ext g (.s (m * 4)))] ++ List.replicate 3 none ++ [some (.own false 25 (fun _ => 0) 0 (List.replicate 16 (.bool (.c true)) ++ [.int .i64 (.s (h 0)), .int .i64 (.s (h 1)), .int .i64 (.s (h 2)), .int .i64 (.s (h 3)), .int .i64 (.s (h 4)), .int .i64 (.s (h 5)), .int .i64 (.s (h 6)), .int .i64 (.s (h 7)), .int .i64 (.s (h 8)), .int .i64 (.s (h 9)), .int .i64 (.s (h 10)), .int .i64 (.s (h 11)), .int .i64 (.s (h 12)), .int .i64 (.s (h 13)), .int .i64 (.s (h 14)), .int .i64 (.s (h 15))] ++ [.int .i64 (.s (h 0)), .int .i64 (.s (h 1)), .int .i64 (.s (h 2)), .int .i64 (.s (h 3)), .int .i64 (.s (h 4)), .int .i64 (.s (h 5)), .int .i64 (.s (h 6)), .int .i64 (.s (h 7)), .int .i64 (.s (h 8)), .int .i64 (.s (h 9)), .int .i64 (.s (h 10)), .int .i64 (.s (h 11)), .int .i64 (.s (h 12)), .int .i64 (.s (h 13)), .int .i64 (.s (h 14)), .int .i64 (.s (h 15))]))]
theorem bf_full (f g : Nat → Int) (n m : Nat) (e : Int) (i : Nat) (h : Nat → Int) (g0 : 0 ≤ h 0 ∧ h 0 < 8) (g1 : 0 ≤ h 1 ∧ h 1 < 8) (g2 : 0 ≤ h 2 ∧ h 2 < 8) (g3 : 0 ≤ h 3 ∧ h 3 < 8) (g4 : 0 ≤ h 4 ∧ h 4 < 8) (g5 : 0 ≤ h 5 ∧ h 5 < 8) (g6 : 0 ≤ h 6 ∧ h 6 < 8) (g7 : 0 ≤ h 7 ∧ h 7 < 8) (g8 : 0 ≤ h 8 ∧ h 8 < 8) (g9 : 0 ≤ h 9 ∧ h 9 < 8) (g10 : 0 ≤ h 10 ∧ h 10 < 8) (g11 : 0 ≤ h 11 ∧ h 11 < 8) (g12 : 0 ≤ h 12 ∧ h 12 < 8) (g13 : 0 ≤ h 13 ∧ h 13 < 8) (g14 : 0 ≤ h 14 ∧ h 14 < 8) (g15 : 0 ≤ h 15 ∧ h 15 < 8) : ∃ hh, vcOf (runFrom Try.prog dosF noL 6000 12 [] [1, 1, 1, 0, 1, 0] [1, 1, 1, 1, 1] (.exit 0) (Tr.ofPairs (fT n m e i)) (Hm (fB f g n m h) 3) hh)
    (reached fun T1 H1 => weakP T1 H1 (wT m e) (wB g m h) 6) := by

  rcases Bool.eq_false_or_eq_true (!(decide ((0 : Int) ≤ h (0 : Nat)) && decide (h (0 : Nat) < (1099511627776 : Int)))) with h0 | h0
  · exact ff (by (simp at *; omega))
  ·
   rcases Bool.eq_false_or_eq_true (!(decide ((0 : Int) ≤ h (1 : Nat)) && decide (h (1 : Nat) < (1099511627776 : Int)))) with h1 | h1
   · exact ff (by (simp at *; omega))
   ·
    rcases Bool.eq_false_or_eq_true (!(decide ((0 : Int) ≤ h (2 : Nat)) && decide (h (2 : Nat) < (1099511627776 : Int)))) with h2 | h2
    · exact ff (by (simp at *; omega))
    ·
     rcases Bool.eq_false_or_eq_true (!(decide ((0 : Int) ≤ h (3 : Nat)) && decide (h (3 : Nat) < (1099511627776 : Int)))) with h3 | h3
     · exact ff (by (simp at *; omega))
     ·
      rcases Bool.eq_false_or_eq_true (!(decide ((0 : Int) ≤ h (4 : Nat)) && decide (h (4 : Nat) < (1099511627776 : Int)))) with h4 | h4
      · exact ff (by (simp at *; omega))
      ·
       rcases Bool.eq_false_or_eq_true (!(decide ((0 : Int) ≤ h (5 : Nat)) && decide (h (5 : Nat) < (1099511627776 : Int)))) with h5 | h5
       · exact ff (by (simp at *; omega))
       ·
        rcases Bool.eq_false_or_eq_true (!(decide ((0 : Int) ≤ h (6 : Nat)) && decide (h (6 : Nat) < (1099511627776 : Int)))) with h6 | h6
        · exact ff (by (simp at *; omega))
        ·
         rcases Bool.eq_false_or_eq_true (!(decide ((0 : Int) ≤ h (7 : Nat)) && decide (h (7 : Nat) < (1099511627776 : Int)))) with h7 | h7
         · exact ff (by (simp at *; omega))
         ·
          rcases Bool.eq_false_or_eq_true (!(decide ((0 : Int) ≤ h (8 : Nat)) && decide (h (8 : Nat) < (1099511627776 : Int)))) with h8 | h8
          · exact ff (by (simp at *; omega))
          ·
           rcases Bool.eq_false_or_eq_true (!(decide ((0 : Int) ≤ h (9 : Nat)) && decide (h (9 : Nat) < (1099511627776 : Int)))) with h9 | h9
           · exact ff (by (simp at *; omega))
           ·
            rcases Bool.eq_false_or_eq_true (!(decide ((0 : Int) ≤ h (10 : Nat)) && decide (h (10 : Nat) < (1099511627776 : Int)))) with h10 | h10
            · exact ff (by (simp at *; omega))
            ·
             rcases Bool.eq_false_or_eq_true (!(decide ((0 : Int) ≤ h (11 : Nat)) && decide (h (11 : Nat) < (1099511627776 : Int)))) with h11 | h11
             · exact ff (by (simp at *; omega))
             ·
              rcases Bool.eq_false_or_eq_true (!(decide ((0 : Int) ≤ h (12 : Nat)) && decide (h (12 : Nat) < (1099511627776 : Int)))) with h12 | h12
              · exact ff (by (simp at *; omega))
              ·
               rcases Bool.eq_false_or_eq_true (!(decide ((0 : Int) ≤ h (13 : Nat)) && decide (h (13 : Nat) < (1099511627776 : Int)))) with h13 | h13
               · exact ff (by (simp at *; omega))
               ·
                rcases Bool.eq_false_or_eq_true (!(decide ((0 : Int) ≤ h (14 : Nat)) && decide (h (14 : Nat) < (1099511627776 : Int)))) with h14 | h14
                · exact ff (by (simp at *; omega))
                ·
                 rcases Bool.eq_false_or_eq_true (!(decide ((0 : Int) ≤ h (15 : Nat)) && decide (h (15 : Nat) < (1099511627776 : Int)))) with h15 | h15
                 · exact ff (by (simp at *; omega))
                 ·
                  refine vcIntro [false, false, false, false, false, false, false, false, false, false, false, false, false, false, false, false] (an (an h15 (an h14 (an h13 (an h12 (an h11 (an h10 (an h9 (an h8 (an h7 (an h6 (an h5 (an h4 (an h3 (an h2 (an h1 (an h0 tt)))))))))))))))) (an (an (an tt (an (@Eq.refl (Nat) m) (show m ≤ m by (simp; done)))) (an (ri e) (an tt (an tt tt)))) (an (an (show m * (4 : Nat) ≤ m * (4 : Nat) by (simp; done)) (show ∀ (k : Nat), k < m * (4 : Nat) → g k = g k from fun _ _ => rfl)) (an (an (@Eq.refl (Nat) ((0 : Nat))) (an (show ∀ (k : Nat), k < (0 : Nat) → (0 : Int) = (0 : Int) from fun _ _ => rfl) (an tt (an tt (an tt (an tt (an tt (an tt (an tt (an tt (an tt (an tt (an tt (an tt (an tt (an tt (an tt (an tt (an (ri (h (0 : Nat))) (an (ri (h (1 : Nat))) (an (ri (h (2 : Nat))) (an (ri (h (3 : Nat))) (an (ri (h (4 : Nat))) (an (ri (h (5 : Nat))) (an (ri (h (6 : Nat))) (an (ri (h (7 : Nat))) (an (ri (h (8 : Nat))) (an (ri (h (9 : Nat))) (an (ri (h (10 : Nat))) (an (ri (h (11 : Nat))) (an (ri (h (12 : Nat))) (an (ri (h (13 : Nat))) (an (ri (h (14 : Nat))) (an (ri (h (15 : Nat))) (an (ri (h (0 : Nat))) (an (ri (h (1 : Nat))) (an (ri (h (2 : Nat))) (an (ri (h (3 : Nat))) (an (ri (h (4 : Nat))) (an (ri (h (5 : Nat))) (an (ri (h (6 : Nat))) (an (ri (h (7 : Nat))) (an (ri (h (8 : Nat))) (an (ri (h (9 : Nat))) (an (ri (h (10 : Nat))) (an (ri (h (11 : Nat))) (an (ri (h (12 : Nat))) (an (ri (h (13 : Nat))) (an (ri (h (14 : Nat))) (ri (h (15 : Nat)))))))))))))))))))))))))))))))))))))))))))))))))))) tt)))) ?_
                  kernel_rfl
end
end Go.Ideal.Zf

namespace Go.Ideal.Zf
section
open Go.Proofs Go.Ideal Go.Ideal.L1 Go.Ideal.K6 Go.Ideal.Bd
set_option linter.unusedSimpArgs false
set_option linter.unusedVariables false
set_option linter.defProp false
set_option maxRecDepth 100000
set_option maxHeartbeats 80000000

def hz (h : Nat → Int) (j:Nat) : Int := h (j % 16)
def an1 (c n:Int) : Option Blk := some (.own false 48 (fun _ => 0) 0 [.int .i64 (.s c), .int .i64 (.s n)])
def an2 (c n d k:Int) : Option Blk := some (.own false 48 (fun _ => 0) 0 [.int .i64 (.s c), .int .i64 (.s n), .int .i64 (.s d), .int .i64 (.s k)])
def anyL (n:Nat) : List V := List.replicate n .any
def intL (w : Nat → Int) : List V := [.int .i64 (.s (w 16)), .int .i64 (.s (w 17)), .int .i64 (.s (w 18)), .int .i64 (.s (w 19)), .int .i64 (.s (w 20)), .int .i64 (.s (w 21)), .int .i64 (.s (w 22)), .int .i64 (.s (w 23)), .int .i64 (.s (w 24)), .int .i64 (.s (w 25)), .int .i64 (.s (w 26)), .int .i64 (.s (w 27)), .int .i64 (.s (w 28)), .int .i64 (.s (w 29)), .int .i64 (.s (w 30)), .int .i64 (.s (w 31))]
def bolL (b : Nat → Bool) : List V := [.bool (.s (b 0)), .bool (.s (b 1)), .bool (.s (b 2)), .bool (.s (b 3)), .bool (.s (b 4)), .bool (.s (b 5)), .bool (.s (b 6)), .bool (.s (b 7)), .bool (.s (b 8)), .bool (.s (b 9)), .bool (.s (b 10)), .bool (.s (b 11)), .bool (.s (b 12)), .bool (.s (b 13)), .bool (.s (b 14)), .bool (.s (b 15))]
/-- The view v, of which Now alone is read; the view u; what was answered. -/
def vB (z : Nat → Int) : Option Blk := some (.own false 25 (fun _ => 0) 0 (.bool (.c true) :: (anyL 31 ++ intL z)))
def uB (b : Nat → Bool) (z : Nat → Int) : Option Blk := some (.own false 25 (fun _ => 0) 0 (bolL b ++ [.int .i64 (.s (z 0)), .int .i64 (.s (z 1)), .int .i64 (.s (z 2)), .int .i64 (.s (z 3)), .int .i64 (.s (z 4)), .int .i64 (.s (z 5)), .int .i64 (.s (z 6)), .int .i64 (.s (z 7)), .int .i64 (.s (z 8)), .int .i64 (.s (z 9)), .int .i64 (.s (z 10)), .int .i64 (.s (z 11)), .int .i64 (.s (z 12)), .int .i64 (.s (z 13)), .int .i64 (.s (z 14)), .int .i64 (.s (z 15)), .int .i64 (.s (z 16)), .int .i64 (.s (z 17)), .int .i64 (.s (z 18)), .int .i64 (.s (z 19)), .int .i64 (.s (z 20)), .int .i64 (.s (z 21)), .int .i64 (.s (z 22)), .int .i64 (.s (z 23)), .int .i64 (.s (z 24)), .int .i64 (.s (z 25)), .int .i64 (.s (z 26)), .int .i64 (.s (z 27)), .int .i64 (.s (z 28)), .int .i64 (.s (z 29)), .int .i64 (.s (z 30)), .int .i64 (.s (z 31))]))
def aB (w : Nat → Int) (k L:Nat) : Option Blk := some (.own false 30 (fun _ => 0) 0 (.int .i64 (.c (-1)) :: (anyL 32 ++ (intL w ++ [.slice k (.c 0) (.c L) 2 (.c L)]))))
def xT (m:Nat) (e:Int) : List (Nat × V) := [(1, .slice 1 (.c 0) (.s m) 4 (.s m)), (2, .int .i64 (.s e)), (9, .ptr 5 (.c 0)), (11, .ptr 7 (.c 0)), (13, .ptr 8 (.c 0))]
def xB (g : Nat → Int) (m:Nat) (b : Nat → Bool) (z w : Nat → Int) (L:Nat) (A : Option Blk) : List (Option Blk) := [none, some (.ext g (.s (m * 4)))] ++ List.replicate 3 none ++ [vB z, A, aB w 6 L, uB b z]
theorem cZf2_0  {R : Prop} (h : R) : (true:Bool) = true ∧ ((true:Bool) = true ∧ ((true:Bool) = true ∧ ((true:Bool) = true ∧ ((true:Bool) = true ∧ ((true:Bool) = true ∧ ((true:Bool) = true ∧ ((true:Bool) = true ∧ ((true:Bool) = true ∧ ((true:Bool) = true ∧ ((true:Bool) = true ∧ ((true:Bool) = true ∧ ((true:Bool) = true ∧ ((true:Bool) = true ∧ ((true:Bool) = true ∧ ((true:Bool) = true ∧ (R)))))))))))))))) := ⟨rfl, ⟨rfl, ⟨rfl, ⟨rfl, ⟨rfl, ⟨rfl, ⟨rfl, ⟨rfl, ⟨rfl, ⟨rfl, ⟨rfl, ⟨rfl, ⟨rfl, ⟨rfl, ⟨rfl, ⟨rfl, h⟩⟩⟩⟩⟩⟩⟩⟩⟩⟩⟩⟩⟩⟩⟩⟩
def pZf2_1 (m:Nat) (e:Int) := an (an tt (an (@Eq.refl (Nat) m) (show m ≤ m by (simp; done)))) (an (ri e) (an tt (an tt (an tt tt))))
theorem bf_bad (g : Nat → Int) (m:Nat) (e:Int) (h : Nat → Int) (hm9 : m < 9223372036854775808) (hv : B1.allMay [h 0, h 1, h 2, h 3, h 4, h 5, h 6, h 7, h 8, h 9, h 10, h 11, h 12, h 13, h 14, h 15, h 0, h 1, h 2, h 3, h 4, h 5, h 6, h 7, h 8, h 9, h 10, h 11, h 12, h 13, h 14, h 15] = true) (ho : B1.opsB g m = false) : ∃ hh, vcOf (runEnd Try.prog dosF noL 6000 12 [1, 1, 1, 1, 1] (Tr.ofPairs (wT m e)) (Hm (wB g m h) 6) hh) (fun v _ => isT v) := by

  rcases eb (!(B1.allMay [h 0, h 1, h 2, h 3, h 4, h 5, h 6, h 7, h 8, h 9, h 10, h 11, h 12, h 13, h 14, h 15, h 0, h 1, h 2, h 3, h 4, h 5, h 6, h 7, h 8, h 9, h 10, h 11, h 12, h 13, h 14, h 15] && B1.opsB g m)) with h0 | h0
  ·
   refine vcIntro [true] (an (an (an (show m * (4:Nat) ≤ m * (4:Nat) by simp) (show m.succ ≤ (9223372036854775808:Nat) by omega)) (an h0 tt)) tt) ?_
   kernel_rfl
  · exact ff (by simp [hv, ho] at *)
theorem bf_r1 (g : Nat → Int) (m:Nat) (e:Int) (h : Nat → Int) (hm9 : m < 9223372036854775808) (hv : B1.allMay [h 0, h 1, h 2, h 3, h 4, h 5, h 6, h 7, h 8, h 9, h 10, h 11, h 12, h 13, h 14, h 15, h 0, h 1, h 2, h 3, h 4, h 5, h 6, h 7, h 8, h 9, h 10, h 11, h 12, h 13, h 14, h 15] = true) (ho : B1.opsB g m = true) (hn1 : (n1 (fL [true, true, true, true, true, true, true, true, true, true, true, true, true, true, true, true]) (zL [h 0, h 1, h 2, h 3, h 4, h 5, h 6, h 7, h 8, h 9, h 10, h 11, h 12, h 13, h 14, h 15, h 0, h 1, h 2, h 3, h 4, h 5, h 6, h 7, h 8, h 9, h 10, h 11, h 12, h 13, h 14, h 15]) g) = -1) (hc1 : (c1 (fL [true, true, true, true, true, true, true, true, true, true, true, true, true, true, true, true]) (zL [h 0, h 1, h 2, h 3, h 4, h 5, h 6, h 7, h 8, h 9, h 10, h 11, h 12, h 13, h 14, h 15, h 0, h 1, h 2, h 3, h 4, h 5, h 6, h 7, h 8, h 9, h 10, h 11, h 12, h 13, h 14, h 15]) g) ≠ 0) : ∃ hh, vcOf (runGo Try.prog dosF noL 6000 12 [1, 1, 1, 1, 1] [1, 1, 1, 1] (Tr.ofPairs (wT m e)) (Hm (wB g m h) 6) hh)
    (reached fun T1 H1 => weakP T1 H1 (xT m e) (xB g m (fun _ => true) (hz h) (hz h) 1 (an1 (c1 (fL [true, true, true, true, true, true, true, true, true, true, true, true, true, true, true, true]) (zL [h 0, h 1, h 2, h 3, h 4, h 5, h 6, h 7, h 8, h 9, h 10, h 11, h 12, h 13, h 14, h 15, h 0, h 1, h 2, h 3, h 4, h 5, h 6, h 7, h 8, h 9, h 10, h 11, h 12, h 13, h 14, h 15]) g) (m1 (fL [true, true, true, true, true, true, true, true, true, true, true, true, true, true, true, true]) (zL [h 0, h 1, h 2, h 3, h 4, h 5, h 6, h 7, h 8, h 9, h 10, h 11, h 12, h 13, h 14, h 15, h 0, h 1, h 2, h 3, h 4, h 5, h 6, h 7, h 8, h 9, h 10, h 11, h 12, h 13, h 14, h 15]) g))) 9) := by

  let q1_ := [h 0, h 1, h 2, h 3, h 4, h 5, h 6, h 7, h 8, h 9, h 10, h 11, h 12, h 13, h 14, h 15, h 0, h 1, h 2, h 3, h 4, h 5, h 6, h 7, h 8, h 9, h 10, h 11, h 12, h 13, h 14, h 15]
  let q2_ := (fL [true, true, true, true, true, true, true, true, true, true, true, true, true, true, true, true])
  rcases eb (!(B1.allMay q1_ && B1.opsB g m)) with h0 | h0
  · exact ff (by (try dsimp only [q1_, q2_] at *); simp [hv, ho, hn1, hc1] at *)
  ·
   rcases eb (!n1 q2_ (zL q1_) g == (-1:Int)) with h1 | h1
   · exact ff (by (try dsimp only [q1_, q2_] at *); simp [hv, ho, hn1, hc1] at *)
   ·
    rcases eb (!c1 q2_ (zL q1_) g == (0:Int)) with h2 | h2
    ·
     refine vcIntro (hx2 3 4) (an (an (an (show m * (4:Nat) ≤ m * (4:Nat) by (try dsimp only [q1_, q2_] at *); simp) (show m.succ ≤ (9223372036854775808:Nat) by (try dsimp only [q1_, q2_] at *); omega)) (u3 h2 h1 h0)) (an (pZf2_1 m e) (an (an (show m * (4:Nat) ≤ m * (4:Nat) by (try dsimp only [q1_, q2_] at *); simp) (show ∀ (k:Nat), k < m * (4:Nat) → g k = g k from fun _ _ => rfl)) (an (zo (an tt (an tt (an tt (an tt (an tt (an tt (an tt (an tt (an tt (an tt (an tt (an tt (an tt (an tt (an tt (an tt (an tt (an tt (an tt (an tt (an tt (an tt (an tt (an tt (an tt (an tt (an tt (an tt (an tt (an tt (an tt (an tt (an (show hz h 16 = h 0 by rfl) (an (show hz h 17 = h 1 by rfl) (an (show hz h 18 = h 2 by rfl) (an (show hz h 19 = h 3 by rfl) (an (show hz h 20 = h 4 by rfl) (an (show hz h 21 = h 5 by rfl) (an (show hz h 22 = h 6 by rfl) (an (show hz h 23 = h 7 by rfl) (an (show hz h 24 = h 8 by rfl) (an (show hz h 25 = h 9 by rfl) (an (show hz h 26 = h 10 by rfl) (an (show hz h 27 = h 11 by rfl) (an (show hz h 28 = h 12 by rfl) (an (show hz h 29 = h 13 by rfl) (an (show hz h 30 = h 14 by rfl) (show hz h 31 = h 15 by rfl))))))))))))))))))))))))))))))))))))))))))))))))) (an (zo (an (ri (c1 q2_ (zL q1_) g)) (ri (m1 q2_ (zL q1_) g)))) (an (zo (an tt (an tt (an tt (an tt (an tt (an tt (an tt (an tt (an tt (an tt (an tt (an tt (an tt (an tt (an tt (an tt (an tt (an tt (an tt (an tt (an tt (an tt (an tt (an tt (an tt (an tt (an tt (an tt (an tt (an tt (an tt (an tt (an tt (an (show hz h 16 = h 0 by rfl) (an (show hz h 17 = h 1 by rfl) (an (show hz h 18 = h 2 by rfl) (an (show hz h 19 = h 3 by rfl) (an (show hz h 20 = h 4 by rfl) (an (show hz h 21 = h 5 by rfl) (an (show hz h 22 = h 6 by rfl) (an (show hz h 23 = h 7 by rfl) (an (show hz h 24 = h 8 by rfl) (an (show hz h 25 = h 9 by rfl) (an (show hz h 26 = h 10 by rfl) (an (show hz h 27 = h 11 by rfl) (an (show hz h 28 = h 12 by rfl) (an (show hz h 29 = h 13 by rfl) (an (show hz h 30 = h 14 by rfl) (an (show hz h 31 = h 15 by rfl) (an tt (an tt tt)))))))))))))))))))))))))))))))))))))))))))))))))))) (an (zo (cZf2_0 (an (show hz h 0 = h 0 by rfl) (an (show hz h 1 = h 1 by rfl) (an (show hz h 2 = h 2 by rfl) (an (show hz h 3 = h 3 by rfl) (an (show hz h 4 = h 4 by rfl) (an (show hz h 5 = h 5 by rfl) (an (show hz h 6 = h 6 by rfl) (an (show hz h 7 = h 7 by rfl) (an (show hz h 8 = h 8 by rfl) (an (show hz h 9 = h 9 by rfl) (an (show hz h 10 = h 10 by rfl) (an (show hz h 11 = h 11 by rfl) (an (show hz h 12 = h 12 by rfl) (an (show hz h 13 = h 13 by rfl) (an (show hz h 14 = h 14 by rfl) (an (show hz h 15 = h 15 by rfl) (an (show hz h 16 = h 0 by rfl) (an (show hz h 17 = h 1 by rfl) (an (show hz h 18 = h 2 by rfl) (an (show hz h 19 = h 3 by rfl) (an (show hz h 20 = h 4 by rfl) (an (show hz h 21 = h 5 by rfl) (an (show hz h 22 = h 6 by rfl) (an (show hz h 23 = h 7 by rfl) (an (show hz h 24 = h 8 by rfl) (an (show hz h 25 = h 9 by rfl) (an (show hz h 26 = h 10 by rfl) (an (show hz h 27 = h 11 by rfl) (an (show hz h 28 = h 12 by rfl) (an (show hz h 29 = h 13 by rfl) (an (show hz h 30 = h 14 by rfl) (show hz h 31 = h 15 by rfl)))))))))))))))))))))))))))))))))) tt))))))) ?_
     kernel_rfl
    · exact ff (by (try dsimp only [q1_, q2_] at *); simp [hv, ho, hn1, hc1] at *)
theorem bf_d1 (g : Nat → Int) (m:Nat) (e:Int) (h : Nat → Int) (hm9 : m < 9223372036854775808) (hv : B1.allMay [h 0, h 1, h 2, h 3, h 4, h 5, h 6, h 7, h 8, h 9, h 10, h 11, h 12, h 13, h 14, h 15, h 0, h 1, h 2, h 3, h 4, h 5, h 6, h 7, h 8, h 9, h 10, h 11, h 12, h 13, h 14, h 15] = true) (ho : B1.opsB g m = true) (hm : m = 1) (hn1 : (n1 (fL [true, true, true, true, true, true, true, true, true, true, true, true, true, true, true, true]) (zL [h 0, h 1, h 2, h 3, h 4, h 5, h 6, h 7, h 8, h 9, h 10, h 11, h 12, h 13, h 14, h 15, h 0, h 1, h 2, h 3, h 4, h 5, h 6, h 7, h 8, h 9, h 10, h 11, h 12, h 13, h 14, h 15]) g) = -1) (hc1 : (c1 (fL [true, true, true, true, true, true, true, true, true, true, true, true, true, true, true, true]) (zL [h 0, h 1, h 2, h 3, h 4, h 5, h 6, h 7, h 8, h 9, h 10, h 11, h 12, h 13, h 14, h 15, h 0, h 1, h 2, h 3, h 4, h 5, h 6, h 7, h 8, h 9, h 10, h 11, h 12, h 13, h 14, h 15]) g) = 0) : ∃ hh, vcOf (runGo Try.prog dosF noL 6000 12 [1, 1, 1, 1, 1] [1, 1, 1, 1] (Tr.ofPairs (wT m e)) (Hm (wB g m h) 6) hh)
    (reached fun T1 H1 => weakP T1 H1 (xT m e) (xB g m (fun _ => true) (hz h) (z1 (fL [true, true, true, true, true, true, true, true, true, true, true, true, true, true, true, true]) (zL [h 0, h 1, h 2, h 3, h 4, h 5, h 6, h 7, h 8, h 9, h 10, h 11, h 12, h 13, h 14, h 15, h 0, h 1, h 2, h 3, h 4, h 5, h 6, h 7, h 8, h 9, h 10, h 11, h 12, h 13, h 14, h 15]) g) 1 (an1 (c1 (fL [true, true, true, true, true, true, true, true, true, true, true, true, true, true, true, true]) (zL [h 0, h 1, h 2, h 3, h 4, h 5, h 6, h 7, h 8, h 9, h 10, h 11, h 12, h 13, h 14, h 15, h 0, h 1, h 2, h 3, h 4, h 5, h 6, h 7, h 8, h 9, h 10, h 11, h 12, h 13, h 14, h 15]) g) (m1 (fL [true, true, true, true, true, true, true, true, true, true, true, true, true, true, true, true]) (zL [h 0, h 1, h 2, h 3, h 4, h 5, h 6, h 7, h 8, h 9, h 10, h 11, h 12, h 13, h 14, h 15, h 0, h 1, h 2, h 3, h 4, h 5, h 6, h 7, h 8, h 9, h 10, h 11, h 12, h 13, h 14, h 15]) g))) 9) := by

  let q1_ := [h 0, h 1, h 2, h 3, h 4, h 5, h 6, h 7, h 8, h 9, h 10, h 11, h 12, h 13, h 14, h 15, h 0, h 1, h 2, h 3, h 4, h 5, h 6, h 7, h 8, h 9, h 10, h 11, h 12, h 13, h 14, h 15]
  let q2_ := (fL [true, true, true, true, true, true, true, true, true, true, true, true, true, true, true, true])
  rcases eb (!(B1.allMay q1_ && B1.opsB g m)) with h0 | h0
  · exact ff (by (try dsimp only [q1_, q2_] at *); simp [hv, ho, hn1, hc1] at *)
  ·
   rcases eb (!n1 q2_ (zL q1_) g == (-1:Int)) with h1 | h1
   · exact ff (by (try dsimp only [q1_, q2_] at *); simp [hv, ho, hn1, hc1] at *)
   ·
    rcases eb (!c1 q2_ (zL q1_) g == (0:Int)) with h2 | h2
    · exact ff (by (try dsimp only [q1_, q2_] at *); simp [hv, ho, hn1, hc1] at *)
    ·
     rcases eb (decide (m = (1:Nat))) with h3 | h3
     ·
      refine vcIntro (hx2 4 8) (an (an (an (show m * (4:Nat) ≤ m * (4:Nat) by (try dsimp only [q1_, q2_] at *); simp) (show m.succ ≤ (9223372036854775808:Nat) by (try dsimp only [q1_, q2_] at *); omega)) (u4 h3 h2 h1 h0)) (an (pZf2_1 m e) (an (an (show m * (4:Nat) ≤ m * (4:Nat) by (try dsimp only [q1_, q2_] at *); simp) (show ∀ (k:Nat), k < m * (4:Nat) → g k = g k from fun _ _ => rfl)) (an (zo (an tt (an tt (an tt (an tt (an tt (an tt (an tt (an tt (an tt (an tt (an tt (an tt (an tt (an tt (an tt (an tt (an tt (an tt (an tt (an tt (an tt (an tt (an tt (an tt (an tt (an tt (an tt (an tt (an tt (an tt (an tt (an tt (an (show hz h 16 = h 0 by rfl) (an (show hz h 17 = h 1 by rfl) (an (show hz h 18 = h 2 by rfl) (an (show hz h 19 = h 3 by rfl) (an (show hz h 20 = h 4 by rfl) (an (show hz h 21 = h 5 by rfl) (an (show hz h 22 = h 6 by rfl) (an (show hz h 23 = h 7 by rfl) (an (show hz h 24 = h 8 by rfl) (an (show hz h 25 = h 9 by rfl) (an (show hz h 26 = h 10 by rfl) (an (show hz h 27 = h 11 by rfl) (an (show hz h 28 = h 12 by rfl) (an (show hz h 29 = h 13 by rfl) (an (show hz h 30 = h 14 by rfl) (show hz h 31 = h 15 by rfl))))))))))))))))))))))))))))))))))))))))))))))))) (an (zo (an (ri (c1 q2_ (zL q1_) g)) (ri (m1 q2_ (zL q1_) g)))) (an (zo (an tt (an tt (an tt (an tt (an tt (an tt (an tt (an tt (an tt (an tt (an tt (an tt (an tt (an tt (an tt (an tt (an tt (an tt (an tt (an tt (an tt (an tt (an tt (an tt (an tt (an tt (an tt (an tt (an tt (an tt (an tt (an tt (an tt (an (ri (z1 q2_ (zL q1_) g 16)) (an (ri (z1 q2_ (zL q1_) g 17)) (an (ri (z1 q2_ (zL q1_) g 18)) (an (ri (z1 q2_ (zL q1_) g 19)) (an (ri (z1 q2_ (zL q1_) g 20)) (an (ri (z1 q2_ (zL q1_) g 21)) (an (ri (z1 q2_ (zL q1_) g 22)) (an (ri (z1 q2_ (zL q1_) g 23)) (an (ri (z1 q2_ (zL q1_) g 24)) (an (ri (z1 q2_ (zL q1_) g 25)) (an (ri (z1 q2_ (zL q1_) g 26)) (an (ri (z1 q2_ (zL q1_) g 27)) (an (ri (z1 q2_ (zL q1_) g 28)) (an (ri (z1 q2_ (zL q1_) g 29)) (an (ri (z1 q2_ (zL q1_) g 30)) (an (ri (z1 q2_ (zL q1_) g 31)) (an tt (an tt tt)))))))))))))))))))))))))))))))))))))))))))))))))))) (an (zo (cZf2_0 (an (show hz h 0 = h 0 by rfl) (an (show hz h 1 = h 1 by rfl) (an (show hz h 2 = h 2 by rfl) (an (show hz h 3 = h 3 by rfl) (an (show hz h 4 = h 4 by rfl) (an (show hz h 5 = h 5 by rfl) (an (show hz h 6 = h 6 by rfl) (an (show hz h 7 = h 7 by rfl) (an (show hz h 8 = h 8 by rfl) (an (show hz h 9 = h 9 by rfl) (an (show hz h 10 = h 10 by rfl) (an (show hz h 11 = h 11 by rfl) (an (show hz h 12 = h 12 by rfl) (an (show hz h 13 = h 13 by rfl) (an (show hz h 14 = h 14 by rfl) (an (show hz h 15 = h 15 by rfl) (an (show hz h 16 = h 0 by rfl) (an (show hz h 17 = h 1 by rfl) (an (show hz h 18 = h 2 by rfl) (an (show hz h 19 = h 3 by rfl) (an (show hz h 20 = h 4 by rfl) (an (show hz h 21 = h 5 by rfl) (an (show hz h 22 = h 6 by rfl) (an (show hz h 23 = h 7 by rfl) (an (show hz h 24 = h 8 by rfl) (an (show hz h 25 = h 9 by rfl) (an (show hz h 26 = h 10 by rfl) (an (show hz h 27 = h 11 by rfl) (an (show hz h 28 = h 12 by rfl) (an (show hz h 29 = h 13 by rfl) (an (show hz h 30 = h 14 by rfl) (show hz h 31 = h 15 by rfl)))))))))))))))))))))))))))))))))) tt))))))) ?_
      kernel_rfl
     · exact ff (by ((try dsimp only [q1_, q2_] at *); first | (simp at *; omega) | (simp_all; done)))
theorem bf_r2 (g : Nat → Int) (m:Nat) (e:Int) (h : Nat → Int) (hm9 : m < 9223372036854775808) (hv : B1.allMay [h 0, h 1, h 2, h 3, h 4, h 5, h 6, h 7, h 8, h 9, h 10, h 11, h 12, h 13, h 14, h 15, h 0, h 1, h 2, h 3, h 4, h 5, h 6, h 7, h 8, h 9, h 10, h 11, h 12, h 13, h 14, h 15] = true) (ho : B1.opsB g m = true) (hm : m = 2) (hn1 : (n1 (fL [true, true, true, true, true, true, true, true, true, true, true, true, true, true, true, true]) (zL [h 0, h 1, h 2, h 3, h 4, h 5, h 6, h 7, h 8, h 9, h 10, h 11, h 12, h 13, h 14, h 15, h 0, h 1, h 2, h 3, h 4, h 5, h 6, h 7, h 8, h 9, h 10, h 11, h 12, h 13, h 14, h 15]) g) = -1) (hc1 : (c1 (fL [true, true, true, true, true, true, true, true, true, true, true, true, true, true, true, true]) (zL [h 0, h 1, h 2, h 3, h 4, h 5, h 6, h 7, h 8, h 9, h 10, h 11, h 12, h 13, h 14, h 15, h 0, h 1, h 2, h 3, h 4, h 5, h 6, h 7, h 8, h 9, h 10, h 11, h 12, h 13, h 14, h 15]) g) = 0) (hn2 : (n2 (fL [true, true, true, true, true, true, true, true, true, true, true, true, true, true, true, true]) (zL [h 0, h 1, h 2, h 3, h 4, h 5, h 6, h 7, h 8, h 9, h 10, h 11, h 12, h 13, h 14, h 15, h 0, h 1, h 2, h 3, h 4, h 5, h 6, h 7, h 8, h 9, h 10, h 11, h 12, h 13, h 14, h 15]) g) = -1) (hc2 : (c2 (fL [true, true, true, true, true, true, true, true, true, true, true, true, true, true, true, true]) (zL [h 0, h 1, h 2, h 3, h 4, h 5, h 6, h 7, h 8, h 9, h 10, h 11, h 12, h 13, h 14, h 15, h 0, h 1, h 2, h 3, h 4, h 5, h 6, h 7, h 8, h 9, h 10, h 11, h 12, h 13, h 14, h 15]) g) ≠ 0) : ∃ hh, vcOf (runGo Try.prog dosF noL 6000 12 [1, 1, 1, 1, 1] [1, 1, 1, 1] (Tr.ofPairs (wT m e)) (Hm (wB g m h) 6) hh)
    (reached fun T1 H1 => weakP T1 H1 (xT m e) (xB g m (fun _ => true) (hz h) (hz h) 2 (an2 (c1 (fL [true, true, true, true, true, true, true, true, true, true, true, true, true, true, true, true]) (zL [h 0, h 1, h 2, h 3, h 4, h 5, h 6, h 7, h 8, h 9, h 10, h 11, h 12, h 13, h 14, h 15, h 0, h 1, h 2, h 3, h 4, h 5, h 6, h 7, h 8, h 9, h 10, h 11, h 12, h 13, h 14, h 15]) g) (m1 (fL [true, true, true, true, true, true, true, true, true, true, true, true, true, true, true, true]) (zL [h 0, h 1, h 2, h 3, h 4, h 5, h 6, h 7, h 8, h 9, h 10, h 11, h 12, h 13, h 14, h 15, h 0, h 1, h 2, h 3, h 4, h 5, h 6, h 7, h 8, h 9, h 10, h 11, h 12, h 13, h 14, h 15]) g) (c2 (fL [true, true, true, true, true, true, true, true, true, true, true, true, true, true, true, true]) (zL [h 0, h 1, h 2, h 3, h 4, h 5, h 6, h 7, h 8, h 9, h 10, h 11, h 12, h 13, h 14, h 15, h 0, h 1, h 2, h 3, h 4, h 5, h 6, h 7, h 8, h 9, h 10, h 11, h 12, h 13, h 14, h 15]) g) (m2 (fL [true, true, true, true, true, true, true, true, true, true, true, true, true, true, true, true]) (zL [h 0, h 1, h 2, h 3, h 4, h 5, h 6, h 7, h 8, h 9, h 10, h 11, h 12, h 13, h 14, h 15, h 0, h 1, h 2, h 3, h 4, h 5, h 6, h 7, h 8, h 9, h 10, h 11, h 12, h 13, h 14, h 15]) g))) 9) := by

  let q1_ := [h 0, h 1, h 2, h 3, h 4, h 5, h 6, h 7, h 8, h 9, h 10, h 11, h 12, h 13, h 14, h 15, h 0, h 1, h 2, h 3, h 4, h 5, h 6, h 7, h 8, h 9, h 10, h 11, h 12, h 13, h 14, h 15]
  let q2_ := (fL [true, true, true, true, true, true, true, true, true, true, true, true, true, true, true, true])
  rcases eb (!(B1.allMay q1_ && B1.opsB g m)) with h0 | h0
  · exact ff (by (try dsimp only [q1_, q2_] at *); simp [hv, ho, hn1, hc1, hn2, hc2] at *)
  ·
   rcases eb (!n1 q2_ (zL q1_) g == (-1:Int)) with h1 | h1
   · exact ff (by (try dsimp only [q1_, q2_] at *); simp [hv, ho, hn1, hc1, hn2, hc2] at *)
   ·
    rcases eb (!c1 q2_ (zL q1_) g == (0:Int)) with h2 | h2
    · exact ff (by (try dsimp only [q1_, q2_] at *); simp [hv, ho, hn1, hc1, hn2, hc2] at *)
    ·
     rcases eb (decide (m = (1:Nat))) with h3 | h3
     · exact ff (by ((try dsimp only [q1_, q2_] at *); first | (simp at *; omega) | (simp_all; done)))
     ·
      rcases eb (!n2 q2_ (zL q1_) g == (-1:Int)) with h4 | h4
      · exact ff (by (try dsimp only [q1_, q2_] at *); simp [hv, ho, hn1, hc1, hn2, hc2] at *)
      ·
       rcases eb (!c2 q2_ (zL q1_) g == (0:Int)) with h5 | h5
       ·
        refine vcIntro (hx2 6 32) (an (an (an (show m * (4:Nat) ≤ m * (4:Nat) by (try dsimp only [q1_, q2_] at *); simp) (show m.succ ≤ (9223372036854775808:Nat) by (try dsimp only [q1_, q2_] at *); omega)) (u6 h5 h4 h3 h2 h1 h0)) (an (pZf2_1 m e) (an (an (show m * (4:Nat) ≤ m * (4:Nat) by (try dsimp only [q1_, q2_] at *); simp) (show ∀ (k:Nat), k < m * (4:Nat) → g k = g k from fun _ _ => rfl)) (an (zo (an tt (an tt (an tt (an tt (an tt (an tt (an tt (an tt (an tt (an tt (an tt (an tt (an tt (an tt (an tt (an tt (an tt (an tt (an tt (an tt (an tt (an tt (an tt (an tt (an tt (an tt (an tt (an tt (an tt (an tt (an tt (an tt (an (show hz h 16 = h 0 by rfl) (an (show hz h 17 = h 1 by rfl) (an (show hz h 18 = h 2 by rfl) (an (show hz h 19 = h 3 by rfl) (an (show hz h 20 = h 4 by rfl) (an (show hz h 21 = h 5 by rfl) (an (show hz h 22 = h 6 by rfl) (an (show hz h 23 = h 7 by rfl) (an (show hz h 24 = h 8 by rfl) (an (show hz h 25 = h 9 by rfl) (an (show hz h 26 = h 10 by rfl) (an (show hz h 27 = h 11 by rfl) (an (show hz h 28 = h 12 by rfl) (an (show hz h 29 = h 13 by rfl) (an (show hz h 30 = h 14 by rfl) (show hz h 31 = h 15 by rfl))))))))))))))))))))))))))))))))))))))))))))))))) (an (zo (an (ri (c1 q2_ (zL q1_) g)) (an (ri (m1 q2_ (zL q1_) g)) (an (ri (c2 q2_ (zL q1_) g)) (ri (m2 q2_ (zL q1_) g)))))) (an (zo (an tt (an tt (an tt (an tt (an tt (an tt (an tt (an tt (an tt (an tt (an tt (an tt (an tt (an tt (an tt (an tt (an tt (an tt (an tt (an tt (an tt (an tt (an tt (an tt (an tt (an tt (an tt (an tt (an tt (an tt (an tt (an tt (an tt (an (show hz h 16 = h 0 by rfl) (an (show hz h 17 = h 1 by rfl) (an (show hz h 18 = h 2 by rfl) (an (show hz h 19 = h 3 by rfl) (an (show hz h 20 = h 4 by rfl) (an (show hz h 21 = h 5 by rfl) (an (show hz h 22 = h 6 by rfl) (an (show hz h 23 = h 7 by rfl) (an (show hz h 24 = h 8 by rfl) (an (show hz h 25 = h 9 by rfl) (an (show hz h 26 = h 10 by rfl) (an (show hz h 27 = h 11 by rfl) (an (show hz h 28 = h 12 by rfl) (an (show hz h 29 = h 13 by rfl) (an (show hz h 30 = h 14 by rfl) (an (show hz h 31 = h 15 by rfl) (an tt (an tt tt)))))))))))))))))))))))))))))))))))))))))))))))))))) (an (zo (cZf2_0 (an (show hz h 0 = h 0 by rfl) (an (show hz h 1 = h 1 by rfl) (an (show hz h 2 = h 2 by rfl) (an (show hz h 3 = h 3 by rfl) (an (show hz h 4 = h 4 by rfl) (an (show hz h 5 = h 5 by rfl) (an (show hz h 6 = h 6 by rfl) (an (show hz h 7 = h 7 by rfl) (an (show hz h 8 = h 8 by rfl) (an (show hz h 9 = h 9 by rfl) (an (show hz h 10 = h 10 by rfl) (an (show hz h 11 = h 11 by rfl) (an (show hz h 12 = h 12 by rfl) (an (show hz h 13 = h 13 by rfl) (an (show hz h 14 = h 14 by rfl) (an (show hz h 15 = h 15 by rfl) (an (show hz h 16 = h 0 by rfl) (an (show hz h 17 = h 1 by rfl) (an (show hz h 18 = h 2 by rfl) (an (show hz h 19 = h 3 by rfl) (an (show hz h 20 = h 4 by rfl) (an (show hz h 21 = h 5 by rfl) (an (show hz h 22 = h 6 by rfl) (an (show hz h 23 = h 7 by rfl) (an (show hz h 24 = h 8 by rfl) (an (show hz h 25 = h 9 by rfl) (an (show hz h 26 = h 10 by rfl) (an (show hz h 27 = h 11 by rfl) (an (show hz h 28 = h 12 by rfl) (an (show hz h 29 = h 13 by rfl) (an (show hz h 30 = h 14 by rfl) (show hz h 31 = h 15 by rfl)))))))))))))))))))))))))))))))))) tt))))))) ?_
        kernel_rfl
       · exact ff (by (try dsimp only [q1_, q2_] at *); simp [hv, ho, hn1, hc1, hn2, hc2] at *)
theorem bf_d2 (g : Nat → Int) (m:Nat) (e:Int) (h : Nat → Int) (hm9 : m < 9223372036854775808) (hv : B1.allMay [h 0, h 1, h 2, h 3, h 4, h 5, h 6, h 7, h 8, h 9, h 10, h 11, h 12, h 13, h 14, h 15, h 0, h 1, h 2, h 3, h 4, h 5, h 6, h 7, h 8, h 9, h 10, h 11, h 12, h 13, h 14, h 15] = true) (ho : B1.opsB g m = true) (hm : m = 2) (hn1 : (n1 (fL [true, true, true, true, true, true, true, true, true, true, true, true, true, true, true, true]) (zL [h 0, h 1, h 2, h 3, h 4, h 5, h 6, h 7, h 8, h 9, h 10, h 11, h 12, h 13, h 14, h 15, h 0, h 1, h 2, h 3, h 4, h 5, h 6, h 7, h 8, h 9, h 10, h 11, h 12, h 13, h 14, h 15]) g) = -1) (hc1 : (c1 (fL [true, true, true, true, true, true, true, true, true, true, true, true, true, true, true, true]) (zL [h 0, h 1, h 2, h 3, h 4, h 5, h 6, h 7, h 8, h 9, h 10, h 11, h 12, h 13, h 14, h 15, h 0, h 1, h 2, h 3, h 4, h 5, h 6, h 7, h 8, h 9, h 10, h 11, h 12, h 13, h 14, h 15]) g) = 0) (hn2 : (n2 (fL [true, true, true, true, true, true, true, true, true, true, true, true, true, true, true, true]) (zL [h 0, h 1, h 2, h 3, h 4, h 5, h 6, h 7, h 8, h 9, h 10, h 11, h 12, h 13, h 14, h 15, h 0, h 1, h 2, h 3, h 4, h 5, h 6, h 7, h 8, h 9, h 10, h 11, h 12, h 13, h 14, h 15]) g) = -1) (hc2 : (c2 (fL [true, true, true, true, true, true, true, true, true, true, true, true, true, true, true, true]) (zL [h 0, h 1, h 2, h 3, h 4, h 5, h 6, h 7, h 8, h 9, h 10, h 11, h 12, h 13, h 14, h 15, h 0, h 1, h 2, h 3, h 4, h 5, h 6, h 7, h 8, h 9, h 10, h 11, h 12, h 13, h 14, h 15]) g) = 0) : ∃ hh, vcOf (runGo Try.prog dosF noL 6000 12 [1, 1, 1, 1, 1] [1, 1, 1, 1] (Tr.ofPairs (wT m e)) (Hm (wB g m h) 6) hh)
    (reached fun T1 H1 => weakP T1 H1 (xT m e) (xB g m (fun _ => true) (hz h) (z2 (fL [true, true, true, true, true, true, true, true, true, true, true, true, true, true, true, true]) (zL [h 0, h 1, h 2, h 3, h 4, h 5, h 6, h 7, h 8, h 9, h 10, h 11, h 12, h 13, h 14, h 15, h 0, h 1, h 2, h 3, h 4, h 5, h 6, h 7, h 8, h 9, h 10, h 11, h 12, h 13, h 14, h 15]) g) 2 (an2 (c1 (fL [true, true, true, true, true, true, true, true, true, true, true, true, true, true, true, true]) (zL [h 0, h 1, h 2, h 3, h 4, h 5, h 6, h 7, h 8, h 9, h 10, h 11, h 12, h 13, h 14, h 15, h 0, h 1, h 2, h 3, h 4, h 5, h 6, h 7, h 8, h 9, h 10, h 11, h 12, h 13, h 14, h 15]) g) (m1 (fL [true, true, true, true, true, true, true, true, true, true, true, true, true, true, true, true]) (zL [h 0, h 1, h 2, h 3, h 4, h 5, h 6, h 7, h 8, h 9, h 10, h 11, h 12, h 13, h 14, h 15, h 0, h 1, h 2, h 3, h 4, h 5, h 6, h 7, h 8, h 9, h 10, h 11, h 12, h 13, h 14, h 15]) g) (c2 (fL [true, true, true, true, true, true, true, true, true, true, true, true, true, true, true, true]) (zL [h 0, h 1, h 2, h 3, h 4, h 5, h 6, h 7, h 8, h 9, h 10, h 11, h 12, h 13, h 14, h 15, h 0, h 1, h 2, h 3, h 4, h 5, h 6, h 7, h 8, h 9, h 10, h 11, h 12, h 13, h 14, h 15]) g) (m2 (fL [true, true, true, true, true, true, true, true, true, true, true, true, true, true, true, true]) (zL [h 0, h 1, h 2, h 3, h 4, h 5, h 6, h 7, h 8, h 9, h 10, h 11, h 12, h 13, h 14, h 15, h 0, h 1, h 2, h 3, h 4, h 5, h 6, h 7, h 8, h 9, h 10, h 11, h 12, h 13, h 14, h 15]) g))) 9) := by

  let q1_ := [h 0, h 1, h 2, h 3, h 4, h 5, h 6, h 7, h 8, h 9, h 10, h 11, h 12, h 13, h 14, h 15, h 0, h 1, h 2, h 3, h 4, h 5, h 6, h 7, h 8, h 9, h 10, h 11, h 12, h 13, h 14, h 15]
  let q2_ := (fL [true, true, true, true, true, true, true, true, true, true, true, true, true, true, true, true])
  rcases eb (!(B1.allMay q1_ && B1.opsB g m)) with h0 | h0
  · exact ff (by (try dsimp only [q1_, q2_] at *); simp [hv, ho, hn1, hc1, hn2, hc2] at *)
  ·
   rcases eb (!n1 q2_ (zL q1_) g == (-1:Int)) with h1 | h1
   · exact ff (by (try dsimp only [q1_, q2_] at *); simp [hv, ho, hn1, hc1, hn2, hc2] at *)
   ·
    rcases eb (!c1 q2_ (zL q1_) g == (0:Int)) with h2 | h2
    · exact ff (by (try dsimp only [q1_, q2_] at *); simp [hv, ho, hn1, hc1, hn2, hc2] at *)
    ·
     rcases eb (decide (m = (1:Nat))) with h3 | h3
     · exact ff (by ((try dsimp only [q1_, q2_] at *); first | (simp at *; omega) | (simp_all; done)))
     ·
      rcases eb (!n2 q2_ (zL q1_) g == (-1:Int)) with h4 | h4
      · exact ff (by (try dsimp only [q1_, q2_] at *); simp [hv, ho, hn1, hc1, hn2, hc2] at *)
      ·
       rcases eb (!c2 q2_ (zL q1_) g == (0:Int)) with h5 | h5
       · exact ff (by (try dsimp only [q1_, q2_] at *); simp [hv, ho, hn1, hc1, hn2, hc2] at *)
       ·
        refine vcIntro (hx2 6 0) (an (an (an (show m * (4:Nat) ≤ m * (4:Nat) by (try dsimp only [q1_, q2_] at *); simp) (show m.succ ≤ (9223372036854775808:Nat) by (try dsimp only [q1_, q2_] at *); omega)) (u6 h5 h4 h3 h2 h1 h0)) (an (pZf2_1 m e) (an (an (show m * (4:Nat) ≤ m * (4:Nat) by (try dsimp only [q1_, q2_] at *); simp) (show ∀ (k:Nat), k < m * (4:Nat) → g k = g k from fun _ _ => rfl)) (an (zo (an tt (an tt (an tt (an tt (an tt (an tt (an tt (an tt (an tt (an tt (an tt (an tt (an tt (an tt (an tt (an tt (an tt (an tt (an tt (an tt (an tt (an tt (an tt (an tt (an tt (an tt (an tt (an tt (an tt (an tt (an tt (an tt (an (show hz h 16 = h 0 by rfl) (an (show hz h 17 = h 1 by rfl) (an (show hz h 18 = h 2 by rfl) (an (show hz h 19 = h 3 by rfl) (an (show hz h 20 = h 4 by rfl) (an (show hz h 21 = h 5 by rfl) (an (show hz h 22 = h 6 by rfl) (an (show hz h 23 = h 7 by rfl) (an (show hz h 24 = h 8 by rfl) (an (show hz h 25 = h 9 by rfl) (an (show hz h 26 = h 10 by rfl) (an (show hz h 27 = h 11 by rfl) (an (show hz h 28 = h 12 by rfl) (an (show hz h 29 = h 13 by rfl) (an (show hz h 30 = h 14 by rfl) (show hz h 31 = h 15 by rfl))))))))))))))))))))))))))))))))))))))))))))))))) (an (zo (an (ri (c1 q2_ (zL q1_) g)) (an (ri (m1 q2_ (zL q1_) g)) (an (ri (c2 q2_ (zL q1_) g)) (ri (m2 q2_ (zL q1_) g)))))) (an (zo (an tt (an tt (an tt (an tt (an tt (an tt (an tt (an tt (an tt (an tt (an tt (an tt (an tt (an tt (an tt (an tt (an tt (an tt (an tt (an tt (an tt (an tt (an tt (an tt (an tt (an tt (an tt (an tt (an tt (an tt (an tt (an tt (an tt (an (ri (z2 q2_ (zL q1_) g 16)) (an (ri (z2 q2_ (zL q1_) g 17)) (an (ri (z2 q2_ (zL q1_) g 18)) (an (ri (z2 q2_ (zL q1_) g 19)) (an (ri (z2 q2_ (zL q1_) g 20)) (an (ri (z2 q2_ (zL q1_) g 21)) (an (ri (z2 q2_ (zL q1_) g 22)) (an (ri (z2 q2_ (zL q1_) g 23)) (an (ri (z2 q2_ (zL q1_) g 24)) (an (ri (z2 q2_ (zL q1_) g 25)) (an (ri (z2 q2_ (zL q1_) g 26)) (an (ri (z2 q2_ (zL q1_) g 27)) (an (ri (z2 q2_ (zL q1_) g 28)) (an (ri (z2 q2_ (zL q1_) g 29)) (an (ri (z2 q2_ (zL q1_) g 30)) (an (ri (z2 q2_ (zL q1_) g 31)) (an tt (an tt tt)))))))))))))))))))))))))))))))))))))))))))))))))))) (an (zo (cZf2_0 (an (show hz h 0 = h 0 by rfl) (an (show hz h 1 = h 1 by rfl) (an (show hz h 2 = h 2 by rfl) (an (show hz h 3 = h 3 by rfl) (an (show hz h 4 = h 4 by rfl) (an (show hz h 5 = h 5 by rfl) (an (show hz h 6 = h 6 by rfl) (an (show hz h 7 = h 7 by rfl) (an (show hz h 8 = h 8 by rfl) (an (show hz h 9 = h 9 by rfl) (an (show hz h 10 = h 10 by rfl) (an (show hz h 11 = h 11 by rfl) (an (show hz h 12 = h 12 by rfl) (an (show hz h 13 = h 13 by rfl) (an (show hz h 14 = h 14 by rfl) (an (show hz h 15 = h 15 by rfl) (an (show hz h 16 = h 0 by rfl) (an (show hz h 17 = h 1 by rfl) (an (show hz h 18 = h 2 by rfl) (an (show hz h 19 = h 3 by rfl) (an (show hz h 20 = h 4 by rfl) (an (show hz h 21 = h 5 by rfl) (an (show hz h 22 = h 6 by rfl) (an (show hz h 23 = h 7 by rfl) (an (show hz h 24 = h 8 by rfl) (an (show hz h 25 = h 9 by rfl) (an (show hz h 26 = h 10 by rfl) (an (show hz h 27 = h 11 by rfl) (an (show hz h 28 = h 12 by rfl) (an (show hz h 29 = h 13 by rfl) (an (show hz h 30 = h 14 by rfl) (show hz h 31 = h 15 by rfl)))))))))))))))))))))))))))))))))) tt))))))) ?_
        kernel_rfl
end
end Go.Ideal.Zf

namespace Go.Ideal.Zf
section
open Go.Proofs Go.Ideal Go.Ideal.L1 Go.Ideal.K6 Go.Ideal.Bd
set_option linter.unusedSimpArgs false
set_option linter.unusedVariables false
set_option linter.defProp false
set_option maxRecDepth 100000
set_option maxHeartbeats 80000000

def hid (e:Int) (j:Nat) : Bool := !decide (e % 16 = (j:Int))
theorem cZf3_0 (z : Nat → Int) {R : Prop} (h : R) : ((z 16):Int) = (z 16) ∧ (((z 17):Int) = (z 17) ∧ (((z 18):Int) = (z 18) ∧ (((z 19):Int) = (z 19) ∧ (((z 20):Int) = (z 20) ∧ (((z 21):Int) = (z 21) ∧ (((z 22):Int) = (z 22) ∧ (((z 23):Int) = (z 23) ∧ (((z 24):Int) = (z 24) ∧ (((z 25):Int) = (z 25) ∧ (((z 26):Int) = (z 26) ∧ (((z 27):Int) = (z 27) ∧ (((z 28):Int) = (z 28) ∧ (((z 29):Int) = (z 29) ∧ (((z 30):Int) = (z 30) ∧ (R))))))))))))))) := ⟨rfl, ⟨rfl, ⟨rfl, ⟨rfl, ⟨rfl, ⟨rfl, ⟨rfl, ⟨rfl, ⟨rfl, ⟨rfl, ⟨rfl, ⟨rfl, ⟨rfl, ⟨rfl, ⟨rfl, h⟩⟩⟩⟩⟩⟩⟩⟩⟩⟩⟩⟩⟩⟩⟩
theorem cZf3_1 (w : Nat → Int) {R : Prop} (h : R) : ((w 16):Int) = (w 16) ∧ (((w 17):Int) = (w 17) ∧ (((w 18):Int) = (w 18) ∧ (((w 19):Int) = (w 19) ∧ (((w 20):Int) = (w 20) ∧ (((w 21):Int) = (w 21) ∧ (((w 22):Int) = (w 22) ∧ (((w 23):Int) = (w 23) ∧ (((w 24):Int) = (w 24) ∧ (((w 25):Int) = (w 25) ∧ (((w 26):Int) = (w 26) ∧ (((w 27):Int) = (w 27) ∧ (((w 28):Int) = (w 28) ∧ (((w 29):Int) = (w 29) ∧ (((w 30):Int) = (w 30) ∧ (((w 31):Int) = (w 31) ∧ (True ∧ (R))))))))))))))))) := ⟨rfl, ⟨rfl, ⟨rfl, ⟨rfl, ⟨rfl, ⟨rfl, ⟨rfl, ⟨rfl, ⟨rfl, ⟨rfl, ⟨rfl, ⟨rfl, ⟨rfl, ⟨rfl, ⟨rfl, ⟨rfl, ⟨True.intro, h⟩⟩⟩⟩⟩⟩⟩⟩⟩⟩⟩⟩⟩⟩⟩⟩⟩
theorem cZf3_2 (z : Nat → Int) {R : Prop} (h : R) : ((z 0):Int) = (z 0) ∧ (((z 1):Int) = (z 1) ∧ (((z 2):Int) = (z 2) ∧ (((z 3):Int) = (z 3) ∧ (((z 4):Int) = (z 4) ∧ (((z 5):Int) = (z 5) ∧ (((z 6):Int) = (z 6) ∧ (((z 7):Int) = (z 7) ∧ (((z 8):Int) = (z 8) ∧ (((z 9):Int) = (z 9) ∧ (((z 10):Int) = (z 10) ∧ (((z 11):Int) = (z 11) ∧ (((z 12):Int) = (z 12) ∧ (((z 13):Int) = (z 13) ∧ (((z 14):Int) = (z 14) ∧ (((z 15):Int) = (z 15) ∧ (((z 16):Int) = (z 16) ∧ (((z 17):Int) = (z 17) ∧ (((z 18):Int) = (z 18) ∧ (((z 19):Int) = (z 19) ∧ (((z 20):Int) = (z 20) ∧ (((z 21):Int) = (z 21) ∧ (((z 22):Int) = (z 22) ∧ (((z 23):Int) = (z 23) ∧ (((z 24):Int) = (z 24) ∧ (((z 25):Int) = (z 25) ∧ (((z 26):Int) = (z 26) ∧ (((z 27):Int) = (z 27) ∧ (((z 28):Int) = (z 28) ∧ (((z 29):Int) = (z 29) ∧ (((z 30):Int) = (z 30) ∧ (R))))))))))))))))))))))))))))))) := ⟨rfl, ⟨rfl, ⟨rfl, ⟨rfl, ⟨rfl, ⟨rfl, ⟨rfl, ⟨rfl, ⟨rfl, ⟨rfl, ⟨rfl, ⟨rfl, ⟨rfl, ⟨rfl, ⟨rfl, ⟨rfl, ⟨rfl, ⟨rfl, ⟨rfl, ⟨rfl, ⟨rfl, ⟨rfl, ⟨rfl, ⟨rfl, ⟨rfl, ⟨rfl, ⟨rfl, ⟨rfl, ⟨rfl, ⟨rfl, ⟨rfl, h⟩⟩⟩⟩⟩⟩⟩⟩⟩⟩⟩⟩⟩⟩⟩⟩⟩⟩⟩⟩⟩⟩⟩⟩⟩⟩⟩⟩⟩⟩⟩
def pZf3_1 (z : Nat → Int) := an tt (an tt (an tt (an tt (an tt (an tt (an tt (an tt (an tt (an tt (an tt (an tt (an tt (an tt (an tt (an tt (an tt (an tt (an tt (an tt (an tt (an tt (an tt (an tt (an tt (an tt (an tt (an tt (an tt (an tt (an tt (an tt (cZf3_0 z (ri (z 31))))))))))))))))))))))))))))))))))
def pZf3_2 (w : Nat → Int) := an tt (an tt (an tt (an tt (an tt (an tt (an tt (an tt (an tt (an tt (an tt (an tt (an tt (an tt (an tt (an tt (an tt (an tt (an tt (an tt (an tt (an tt (an tt (an tt (an tt (an tt (an tt (an tt (an tt (an tt (an tt (an tt (an tt (cZf3_1 w (an tt tt))))))))))))))))))))))))))))))))))
def pZf3_3 (e:Int) (m:Nat) := an (an tt (an (@Eq.refl (Nat) m) (show m ≤ m by (simp; done)))) (an (ri e) (an tt (an tt (an tt tt))))
theorem ht {e k : Int} (h : decide (e % 16 = k) = true) (j:Nat) (hj : decide (k = (j:Int)) = false := by decide) : hid e j = true := by
  have h1 := of_decide_eq_true h
  have h2 := of_decide_eq_false hj
  simp only [hid, h1, Bool.not_eq_true', decide_eq_false_iff_not]; exact h2
theorem bs_1 (g : Nat → Int) (m:Nat) (e:Int) (z w : Nat → Int) (c n:Int) : ∃ hh, vcOf (runGo Try.prog dosF noL 6000 12 [1, 1, 1, 1, 1, 1, 1, 1, 1] [1] (Tr.ofPairs (xT m e)) (Hm (xB g m (fun _ => true) z w 1 (an1 c n)) 9) hh)
    (reached fun T1 H1 => weakP T1 H1 (xT m e) (xB g m (hid e) z w 1 (an1 c n)) 9) := by

  rcases eb (decide (e % (16:Int) = (0:Int))) with h0 | h0
  ·
   refine vcIntro [true] (an (an h0 tt) (an (pZf3_3 e m) (an (an (show m * (4:Nat) ≤ m * (4:Nat) by simp) (show ∀ (k:Nat), k < m * (4:Nat) → g k = g k from fun _ _ => rfl)) (an (zo (pZf3_1 z)) (an (zo (an (ri c) (ri n))) (an (zo (pZf3_2 w)) (an (zo (an (show hid e 0 = false by simp [hid] at *; omega) (an (ht h0 1) (an (ht h0 2) (an (ht h0 3) (an (ht h0 4) (an (ht h0 5) (an (ht h0 6) (an (ht h0 7) (an (ht h0 8) (an (ht h0 9) (an (ht h0 10) (an (ht h0 11) (an (ht h0 12) (an (ht h0 13) (an (ht h0 14) (an (ht h0 15) (cZf3_2 z (ri (z 31)))))))))))))))))))) tt))))))) ?_
   kernel_rfl
  ·
   rcases eb (decide (e % (16:Int) = (1:Int))) with h1 | h1
   ·
    refine vcIntro (hx2 2 2) (an (u2 h1 h0) (an (pZf3_3 e m) (an (an (show m * (4:Nat) ≤ m * (4:Nat) by simp) (show ∀ (k:Nat), k < m * (4:Nat) → g k = g k from fun _ _ => rfl)) (an (zo (pZf3_1 z)) (an (zo (an (ri c) (ri n))) (an (zo (pZf3_2 w)) (an (zo (an (ht h1 0) (an (show hid e 1 = false by simp [hid] at *; omega) (an (ht h1 2) (an (ht h1 3) (an (ht h1 4) (an (ht h1 5) (an (ht h1 6) (an (ht h1 7) (an (ht h1 8) (an (ht h1 9) (an (ht h1 10) (an (ht h1 11) (an (ht h1 12) (an (ht h1 13) (an (ht h1 14) (an (ht h1 15) (cZf3_2 z (ri (z 31)))))))))))))))))))) tt))))))) ?_
    kernel_rfl
   ·
    rcases eb (decide (e % (16:Int) = (2:Int))) with h2 | h2
    ·
     refine vcIntro (hx2 3 4) (an (u3 h2 h1 h0) (an (pZf3_3 e m) (an (an (show m * (4:Nat) ≤ m * (4:Nat) by simp) (show ∀ (k:Nat), k < m * (4:Nat) → g k = g k from fun _ _ => rfl)) (an (zo (pZf3_1 z)) (an (zo (an (ri c) (ri n))) (an (zo (pZf3_2 w)) (an (zo (an (ht h2 0) (an (ht h2 1) (an (show hid e 2 = false by simp [hid] at *; omega) (an (ht h2 3) (an (ht h2 4) (an (ht h2 5) (an (ht h2 6) (an (ht h2 7) (an (ht h2 8) (an (ht h2 9) (an (ht h2 10) (an (ht h2 11) (an (ht h2 12) (an (ht h2 13) (an (ht h2 14) (an (ht h2 15) (cZf3_2 z (ri (z 31)))))))))))))))))))) tt))))))) ?_
     kernel_rfl
    ·
     rcases eb (decide (e % (16:Int) = (3:Int))) with h3 | h3
     ·
      refine vcIntro (hx2 4 8) (an (u4 h3 h2 h1 h0) (an (pZf3_3 e m) (an (an (show m * (4:Nat) ≤ m * (4:Nat) by simp) (show ∀ (k:Nat), k < m * (4:Nat) → g k = g k from fun _ _ => rfl)) (an (zo (pZf3_1 z)) (an (zo (an (ri c) (ri n))) (an (zo (pZf3_2 w)) (an (zo (an (ht h3 0) (an (ht h3 1) (an (ht h3 2) (an (show hid e 3 = false by simp [hid] at *; omega) (an (ht h3 4) (an (ht h3 5) (an (ht h3 6) (an (ht h3 7) (an (ht h3 8) (an (ht h3 9) (an (ht h3 10) (an (ht h3 11) (an (ht h3 12) (an (ht h3 13) (an (ht h3 14) (an (ht h3 15) (cZf3_2 z (ri (z 31)))))))))))))))))))) tt))))))) ?_
      kernel_rfl
     ·
      rcases eb (decide (e % (16:Int) = (4:Int))) with h4 | h4
      ·
       refine vcIntro (hx2 5 16) (an (u5 h4 h3 h2 h1 h0) (an (pZf3_3 e m) (an (an (show m * (4:Nat) ≤ m * (4:Nat) by simp) (show ∀ (k:Nat), k < m * (4:Nat) → g k = g k from fun _ _ => rfl)) (an (zo (pZf3_1 z)) (an (zo (an (ri c) (ri n))) (an (zo (pZf3_2 w)) (an (zo (an (ht h4 0) (an (ht h4 1) (an (ht h4 2) (an (ht h4 3) (an (show hid e 4 = false by simp [hid] at *; omega) (an (ht h4 5) (an (ht h4 6) (an (ht h4 7) (an (ht h4 8) (an (ht h4 9) (an (ht h4 10) (an (ht h4 11) (an (ht h4 12) (an (ht h4 13) (an (ht h4 14) (an (ht h4 15) (cZf3_2 z (ri (z 31)))))))))))))))))))) tt))))))) ?_
       kernel_rfl
      ·
       rcases eb (decide (e % (16:Int) = (5:Int))) with h5 | h5
       ·
        refine vcIntro (hx2 6 32) (an (u6 h5 h4 h3 h2 h1 h0) (an (pZf3_3 e m) (an (an (show m * (4:Nat) ≤ m * (4:Nat) by simp) (show ∀ (k:Nat), k < m * (4:Nat) → g k = g k from fun _ _ => rfl)) (an (zo (pZf3_1 z)) (an (zo (an (ri c) (ri n))) (an (zo (pZf3_2 w)) (an (zo (an (ht h5 0) (an (ht h5 1) (an (ht h5 2) (an (ht h5 3) (an (ht h5 4) (an (show hid e 5 = false by simp [hid] at *; omega) (an (ht h5 6) (an (ht h5 7) (an (ht h5 8) (an (ht h5 9) (an (ht h5 10) (an (ht h5 11) (an (ht h5 12) (an (ht h5 13) (an (ht h5 14) (an (ht h5 15) (cZf3_2 z (ri (z 31)))))))))))))))))))) tt))))))) ?_
        kernel_rfl
       ·
        rcases eb (decide (e % (16:Int) = (6:Int))) with h6 | h6
        ·
         refine vcIntro (hx2 7 64) (an (u7 h6 h5 h4 h3 h2 h1 h0) (an (pZf3_3 e m) (an (an (show m * (4:Nat) ≤ m * (4:Nat) by simp) (show ∀ (k:Nat), k < m * (4:Nat) → g k = g k from fun _ _ => rfl)) (an (zo (pZf3_1 z)) (an (zo (an (ri c) (ri n))) (an (zo (pZf3_2 w)) (an (zo (an (ht h6 0) (an (ht h6 1) (an (ht h6 2) (an (ht h6 3) (an (ht h6 4) (an (ht h6 5) (an (show hid e 6 = false by simp [hid] at *; omega) (an (ht h6 7) (an (ht h6 8) (an (ht h6 9) (an (ht h6 10) (an (ht h6 11) (an (ht h6 12) (an (ht h6 13) (an (ht h6 14) (an (ht h6 15) (cZf3_2 z (ri (z 31)))))))))))))))))))) tt))))))) ?_
         kernel_rfl
        ·
         rcases eb (decide (e % (16:Int) = (7:Int))) with h7 | h7
         ·
          refine vcIntro (hx2 8 128) (an (u8 h7 h6 h5 h4 h3 h2 h1 h0) (an (pZf3_3 e m) (an (an (show m * (4:Nat) ≤ m * (4:Nat) by simp) (show ∀ (k:Nat), k < m * (4:Nat) → g k = g k from fun _ _ => rfl)) (an (zo (pZf3_1 z)) (an (zo (an (ri c) (ri n))) (an (zo (pZf3_2 w)) (an (zo (an (ht h7 0) (an (ht h7 1) (an (ht h7 2) (an (ht h7 3) (an (ht h7 4) (an (ht h7 5) (an (ht h7 6) (an (show hid e 7 = false by simp [hid] at *; omega) (an (ht h7 8) (an (ht h7 9) (an (ht h7 10) (an (ht h7 11) (an (ht h7 12) (an (ht h7 13) (an (ht h7 14) (an (ht h7 15) (cZf3_2 z (ri (z 31)))))))))))))))))))) tt))))))) ?_
          kernel_rfl
         ·
          rcases eb (decide (e % (16:Int) = (8:Int))) with h8 | h8
          ·
           refine vcIntro (hx2 9 256) (an (u9 h8 h7 h6 h5 h4 h3 h2 h1 h0) (an (pZf3_3 e m) (an (an (show m * (4:Nat) ≤ m * (4:Nat) by simp) (show ∀ (k:Nat), k < m * (4:Nat) → g k = g k from fun _ _ => rfl)) (an (zo (pZf3_1 z)) (an (zo (an (ri c) (ri n))) (an (zo (pZf3_2 w)) (an (zo (an (ht h8 0) (an (ht h8 1) (an (ht h8 2) (an (ht h8 3) (an (ht h8 4) (an (ht h8 5) (an (ht h8 6) (an (ht h8 7) (an (show hid e 8 = false by simp [hid] at *; omega) (an (ht h8 9) (an (ht h8 10) (an (ht h8 11) (an (ht h8 12) (an (ht h8 13) (an (ht h8 14) (an (ht h8 15) (cZf3_2 z (ri (z 31)))))))))))))))))))) tt))))))) ?_
           kernel_rfl
          ·
           rcases eb (decide (e % (16:Int) = (9:Int))) with h9 | h9
           ·
            refine vcIntro (hx2 10 512) (an (u10 h9 h8 h7 h6 h5 h4 h3 h2 h1 h0) (an (pZf3_3 e m) (an (an (show m * (4:Nat) ≤ m * (4:Nat) by simp) (show ∀ (k:Nat), k < m * (4:Nat) → g k = g k from fun _ _ => rfl)) (an (zo (pZf3_1 z)) (an (zo (an (ri c) (ri n))) (an (zo (pZf3_2 w)) (an (zo (an (ht h9 0) (an (ht h9 1) (an (ht h9 2) (an (ht h9 3) (an (ht h9 4) (an (ht h9 5) (an (ht h9 6) (an (ht h9 7) (an (ht h9 8) (an (show hid e 9 = false by simp [hid] at *; omega) (an (ht h9 10) (an (ht h9 11) (an (ht h9 12) (an (ht h9 13) (an (ht h9 14) (an (ht h9 15) (cZf3_2 z (ri (z 31)))))))))))))))))))) tt))))))) ?_
            kernel_rfl
           ·
            rcases eb (decide (e % (16:Int) = (10:Int))) with h10 | h10
            ·
             refine vcIntro (hx2 11 1024) (an (u11 h10 h9 h8 h7 h6 h5 h4 h3 h2 h1 h0) (an (pZf3_3 e m) (an (an (show m * (4:Nat) ≤ m * (4:Nat) by simp) (show ∀ (k:Nat), k < m * (4:Nat) → g k = g k from fun _ _ => rfl)) (an (zo (pZf3_1 z)) (an (zo (an (ri c) (ri n))) (an (zo (pZf3_2 w)) (an (zo (an (ht h10 0) (an (ht h10 1) (an (ht h10 2) (an (ht h10 3) (an (ht h10 4) (an (ht h10 5) (an (ht h10 6) (an (ht h10 7) (an (ht h10 8) (an (ht h10 9) (an (show hid e 10 = false by simp [hid] at *; omega) (an (ht h10 11) (an (ht h10 12) (an (ht h10 13) (an (ht h10 14) (an (ht h10 15) (cZf3_2 z (ri (z 31)))))))))))))))))))) tt))))))) ?_
             kernel_rfl
            ·
             rcases eb (decide (e % (16:Int) = (11:Int))) with h11 | h11
             ·
              refine vcIntro (hx2 12 2048) (an (u12 h11 h10 h9 h8 h7 h6 h5 h4 h3 h2 h1 h0) (an (pZf3_3 e m) (an (an (show m * (4:Nat) ≤ m * (4:Nat) by simp) (show ∀ (k:Nat), k < m * (4:Nat) → g k = g k from fun _ _ => rfl)) (an (zo (pZf3_1 z)) (an (zo (an (ri c) (ri n))) (an (zo (pZf3_2 w)) (an (zo (an (ht h11 0) (an (ht h11 1) (an (ht h11 2) (an (ht h11 3) (an (ht h11 4) (an (ht h11 5) (an (ht h11 6) (an (ht h11 7) (an (ht h11 8) (an (ht h11 9) (an (ht h11 10) (an (show hid e 11 = false by simp [hid] at *; omega) (an (ht h11 12) (an (ht h11 13) (an (ht h11 14) (an (ht h11 15) (cZf3_2 z (ri (z 31)))))))))))))))))))) tt))))))) ?_
              kernel_rfl
             ·
              rcases eb (decide (e % (16:Int) = (12:Int))) with h12 | h12
              ·
               refine vcIntro (hx2 13 4096) (an (u13 h12 h11 h10 h9 h8 h7 h6 h5 h4 h3 h2 h1 h0) (an (pZf3_3 e m) (an (an (show m * (4:Nat) ≤ m * (4:Nat) by simp) (show ∀ (k:Nat), k < m * (4:Nat) → g k = g k from fun _ _ => rfl)) (an (zo (pZf3_1 z)) (an (zo (an (ri c) (ri n))) (an (zo (pZf3_2 w)) (an (zo (an (ht h12 0) (an (ht h12 1) (an (ht h12 2) (an (ht h12 3) (an (ht h12 4) (an (ht h12 5) (an (ht h12 6) (an (ht h12 7) (an (ht h12 8) (an (ht h12 9) (an (ht h12 10) (an (ht h12 11) (an (show hid e 12 = false by simp [hid] at *; omega) (an (ht h12 13) (an (ht h12 14) (an (ht h12 15) (cZf3_2 z (ri (z 31)))))))))))))))))))) tt))))))) ?_
               kernel_rfl
              ·
               rcases eb (decide (e % (16:Int) = (13:Int))) with h13 | h13
               ·
                refine vcIntro (hx2 14 8192) (an (u14 h13 h12 h11 h10 h9 h8 h7 h6 h5 h4 h3 h2 h1 h0) (an (pZf3_3 e m) (an (an (show m * (4:Nat) ≤ m * (4:Nat) by simp) (show ∀ (k:Nat), k < m * (4:Nat) → g k = g k from fun _ _ => rfl)) (an (zo (pZf3_1 z)) (an (zo (an (ri c) (ri n))) (an (zo (pZf3_2 w)) (an (zo (an (ht h13 0) (an (ht h13 1) (an (ht h13 2) (an (ht h13 3) (an (ht h13 4) (an (ht h13 5) (an (ht h13 6) (an (ht h13 7) (an (ht h13 8) (an (ht h13 9) (an (ht h13 10) (an (ht h13 11) (an (ht h13 12) (an (show hid e 13 = false by simp [hid] at *; omega) (an (ht h13 14) (an (ht h13 15) (cZf3_2 z (ri (z 31)))))))))))))))))))) tt))))))) ?_
                kernel_rfl
               ·
                rcases eb (decide (e % (16:Int) = (14:Int))) with h14 | h14
                ·
                 refine vcIntro (hx2 15 16384) (an (u15 h14 h13 h12 h11 h10 h9 h8 h7 h6 h5 h4 h3 h2 h1 h0) (an (pZf3_3 e m) (an (an (show m * (4:Nat) ≤ m * (4:Nat) by simp) (show ∀ (k:Nat), k < m * (4:Nat) → g k = g k from fun _ _ => rfl)) (an (zo (pZf3_1 z)) (an (zo (an (ri c) (ri n))) (an (zo (pZf3_2 w)) (an (zo (an (ht h14 0) (an (ht h14 1) (an (ht h14 2) (an (ht h14 3) (an (ht h14 4) (an (ht h14 5) (an (ht h14 6) (an (ht h14 7) (an (ht h14 8) (an (ht h14 9) (an (ht h14 10) (an (ht h14 11) (an (ht h14 12) (an (ht h14 13) (an (show hid e 14 = false by simp [hid] at *; omega) (an (ht h14 15) (cZf3_2 z (ri (z 31)))))))))))))))))))) tt))))))) ?_
                 kernel_rfl
                ·
                 rcases eb (decide (e % (16:Int) = (15:Int))) with h15 | h15
                 ·
                  refine vcIntro (hx2 16 32768) (an (u16 h15 h14 h13 h12 h11 h10 h9 h8 h7 h6 h5 h4 h3 h2 h1 h0) (an (pZf3_3 e m) (an (an (show m * (4:Nat) ≤ m * (4:Nat) by simp) (show ∀ (k:Nat), k < m * (4:Nat) → g k = g k from fun _ _ => rfl)) (an (zo (pZf3_1 z)) (an (zo (an (ri c) (ri n))) (an (zo (pZf3_2 w)) (an (zo (an (ht h15 0) (an (ht h15 1) (an (ht h15 2) (an (ht h15 3) (an (ht h15 4) (an (ht h15 5) (an (ht h15 6) (an (ht h15 7) (an (ht h15 8) (an (ht h15 9) (an (ht h15 10) (an (ht h15 11) (an (ht h15 12) (an (ht h15 13) (an (ht h15 14) (an (show hid e 15 = false by simp [hid] at *; omega) (cZf3_2 z (ri (z 31)))))))))))))))))))) tt))))))) ?_
                  kernel_rfl
                 · exact ff (by simp at *; omega)
theorem bs_2 (g : Nat → Int) (m:Nat) (e:Int) (z w : Nat → Int) (c n d k:Int) : ∃ hh, vcOf (runGo Try.prog dosF noL 6000 12 [1, 1, 1, 1, 1, 1, 1, 1, 1] [1] (Tr.ofPairs (xT m e)) (Hm (xB g m (fun _ => true) z w 2 (an2 c n d k)) 9) hh)
    (reached fun T1 H1 => weakP T1 H1 (xT m e) (xB g m (hid e) z w 2 (an2 c n d k)) 9) := by

  rcases eb (decide (e % (16:Int) = (0:Int))) with h0 | h0
  ·
   refine vcIntro [true] (an (an h0 tt) (an (pZf3_3 e m) (an (an (show m * (4:Nat) ≤ m * (4:Nat) by simp) (show ∀ (k:Nat), k < m * (4:Nat) → g k = g k from fun _ _ => rfl)) (an (zo (pZf3_1 z)) (an (zo (an (ri c) (an (ri n) (an (ri d) (ri k))))) (an (zo (pZf3_2 w)) (an (zo (an (show hid e 0 = false by simp [hid] at *; omega) (an (ht h0 1) (an (ht h0 2) (an (ht h0 3) (an (ht h0 4) (an (ht h0 5) (an (ht h0 6) (an (ht h0 7) (an (ht h0 8) (an (ht h0 9) (an (ht h0 10) (an (ht h0 11) (an (ht h0 12) (an (ht h0 13) (an (ht h0 14) (an (ht h0 15) (cZf3_2 z (ri (z 31)))))))))))))))))))) tt))))))) ?_
   kernel_rfl
  ·
   rcases eb (decide (e % (16:Int) = (1:Int))) with h1 | h1
   ·
    refine vcIntro (hx2 2 2) (an (u2 h1 h0) (an (pZf3_3 e m) (an (an (show m * (4:Nat) ≤ m * (4:Nat) by simp) (show ∀ (k:Nat), k < m * (4:Nat) → g k = g k from fun _ _ => rfl)) (an (zo (pZf3_1 z)) (an (zo (an (ri c) (an (ri n) (an (ri d) (ri k))))) (an (zo (pZf3_2 w)) (an (zo (an (ht h1 0) (an (show hid e 1 = false by simp [hid] at *; omega) (an (ht h1 2) (an (ht h1 3) (an (ht h1 4) (an (ht h1 5) (an (ht h1 6) (an (ht h1 7) (an (ht h1 8) (an (ht h1 9) (an (ht h1 10) (an (ht h1 11) (an (ht h1 12) (an (ht h1 13) (an (ht h1 14) (an (ht h1 15) (cZf3_2 z (ri (z 31)))))))))))))))))))) tt))))))) ?_
    kernel_rfl
   ·
    rcases eb (decide (e % (16:Int) = (2:Int))) with h2 | h2
    ·
     refine vcIntro (hx2 3 4) (an (u3 h2 h1 h0) (an (pZf3_3 e m) (an (an (show m * (4:Nat) ≤ m * (4:Nat) by simp) (show ∀ (k:Nat), k < m * (4:Nat) → g k = g k from fun _ _ => rfl)) (an (zo (pZf3_1 z)) (an (zo (an (ri c) (an (ri n) (an (ri d) (ri k))))) (an (zo (pZf3_2 w)) (an (zo (an (ht h2 0) (an (ht h2 1) (an (show hid e 2 = false by simp [hid] at *; omega) (an (ht h2 3) (an (ht h2 4) (an (ht h2 5) (an (ht h2 6) (an (ht h2 7) (an (ht h2 8) (an (ht h2 9) (an (ht h2 10) (an (ht h2 11) (an (ht h2 12) (an (ht h2 13) (an (ht h2 14) (an (ht h2 15) (cZf3_2 z (ri (z 31)))))))))))))))))))) tt))))))) ?_
     kernel_rfl
    ·
     rcases eb (decide (e % (16:Int) = (3:Int))) with h3 | h3
     ·
      refine vcIntro (hx2 4 8) (an (u4 h3 h2 h1 h0) (an (pZf3_3 e m) (an (an (show m * (4:Nat) ≤ m * (4:Nat) by simp) (show ∀ (k:Nat), k < m * (4:Nat) → g k = g k from fun _ _ => rfl)) (an (zo (pZf3_1 z)) (an (zo (an (ri c) (an (ri n) (an (ri d) (ri k))))) (an (zo (pZf3_2 w)) (an (zo (an (ht h3 0) (an (ht h3 1) (an (ht h3 2) (an (show hid e 3 = false by simp [hid] at *; omega) (an (ht h3 4) (an (ht h3 5) (an (ht h3 6) (an (ht h3 7) (an (ht h3 8) (an (ht h3 9) (an (ht h3 10) (an (ht h3 11) (an (ht h3 12) (an (ht h3 13) (an (ht h3 14) (an (ht h3 15) (cZf3_2 z (ri (z 31)))))))))))))))))))) tt))))))) ?_
      kernel_rfl
     ·
      rcases eb (decide (e % (16:Int) = (4:Int))) with h4 | h4
      ·
       refine vcIntro (hx2 5 16) (an (u5 h4 h3 h2 h1 h0) (an (pZf3_3 e m) (an (an (show m * (4:Nat) ≤ m * (4:Nat) by simp) (show ∀ (k:Nat), k < m * (4:Nat) → g k = g k from fun _ _ => rfl)) (an (zo (pZf3_1 z)) (an (zo (an (ri c) (an (ri n) (an (ri d) (ri k))))) (an (zo (pZf3_2 w)) (an (zo (an (ht h4 0) (an (ht h4 1) (an (ht h4 2) (an (ht h4 3) (an (show hid e 4 = false by simp [hid] at *; omega) (an (ht h4 5) (an (ht h4 6) (an (ht h4 7) (an (ht h4 8) (an (ht h4 9) (an (ht h4 10) (an (ht h4 11) (an (ht h4 12) (an (ht h4 13) (an (ht h4 14) (an (ht h4 15) (cZf3_2 z (ri (z 31)))))))))))))))))))) tt))))))) ?_
       kernel_rfl
      ·
       rcases eb (decide (e % (16:Int) = (5:Int))) with h5 | h5
       ·
        refine vcIntro (hx2 6 32) (an (u6 h5 h4 h3 h2 h1 h0) (an (pZf3_3 e m) (an (an (show m * (4:Nat) ≤ m * (4:Nat) by simp) (show ∀ (k:Nat), k < m * (4:Nat) → g k = g k from fun _ _ => rfl)) (an (zo (pZf3_1 z)) (an (zo (an (ri c) (an (ri n) (an (ri d) (ri k))))) (an (zo (pZf3_2 w)) (an (zo (an (ht h5 0) (an (ht h5 1) (an (ht h5 2) (an (ht h5 3) (an (ht h5 4) (an (show hid e 5 = false by simp [hid] at *; omega) (an (ht h5 6) (an (ht h5 7) (an (ht h5 8) (an (ht h5 9) (an (ht h5 10) (an (ht h5 11) (an (ht h5 12) (an (ht h5 13) (an (ht h5 14) (an (ht h5 15) (cZf3_2 z (ri (z 31)))))))))))))))))))) tt))))))) ?_
        kernel_rfl
       ·
        rcases eb (decide (e % (16:Int) = (6:Int))) with h6 | h6
        ·
         refine vcIntro (hx2 7 64) (an (u7 h6 h5 h4 h3 h2 h1 h0) (an (pZf3_3 e m) (an (an (show m * (4:Nat) ≤ m * (4:Nat) by simp) (show ∀ (k:Nat), k < m * (4:Nat) → g k = g k from fun _ _ => rfl)) (an (zo (pZf3_1 z)) (an (zo (an (ri c) (an (ri n) (an (ri d) (ri k))))) (an (zo (pZf3_2 w)) (an (zo (an (ht h6 0) (an (ht h6 1) (an (ht h6 2) (an (ht h6 3) (an (ht h6 4) (an (ht h6 5) (an (show hid e 6 = false by simp [hid] at *; omega) (an (ht h6 7) (an (ht h6 8) (an (ht h6 9) (an (ht h6 10) (an (ht h6 11) (an (ht h6 12) (an (ht h6 13) (an (ht h6 14) (an (ht h6 15) (cZf3_2 z (ri (z 31)))))))))))))))))))) tt))))))) ?_
         kernel_rfl
        ·
         rcases eb (decide (e % (16:Int) = (7:Int))) with h7 | h7
         ·
          refine vcIntro (hx2 8 128) (an (u8 h7 h6 h5 h4 h3 h2 h1 h0) (an (pZf3_3 e m) (an (an (show m * (4:Nat) ≤ m * (4:Nat) by simp) (show ∀ (k:Nat), k < m * (4:Nat) → g k = g k from fun _ _ => rfl)) (an (zo (pZf3_1 z)) (an (zo (an (ri c) (an (ri n) (an (ri d) (ri k))))) (an (zo (pZf3_2 w)) (an (zo (an (ht h7 0) (an (ht h7 1) (an (ht h7 2) (an (ht h7 3) (an (ht h7 4) (an (ht h7 5) (an (ht h7 6) (an (show hid e 7 = false by simp [hid] at *; omega) (an (ht h7 8) (an (ht h7 9) (an (ht h7 10) (an (ht h7 11) (an (ht h7 12) (an (ht h7 13) (an (ht h7 14) (an (ht h7 15) (cZf3_2 z (ri (z 31)))))))))))))))))))) tt))))))) ?_
          kernel_rfl
         ·
          rcases eb (decide (e % (16:Int) = (8:Int))) with h8 | h8
          ·
           refine vcIntro (hx2 9 256) (an (u9 h8 h7 h6 h5 h4 h3 h2 h1 h0) (an (pZf3_3 e m) (an (an (show m * (4:Nat) ≤ m * (4:Nat) by simp) (show ∀ (k:Nat), k < m * (4:Nat) → g k = g k from fun _ _ => rfl)) (an (zo (pZf3_1 z)) (an (zo (an (ri c) (an (ri n) (an (ri d) (ri k))))) (an (zo (pZf3_2 w)) (an (zo (an (ht h8 0) (an (ht h8 1) (an (ht h8 2) (an (ht h8 3) (an (ht h8 4) (an (ht h8 5) (an (ht h8 6) (an (ht h8 7) (an (show hid e 8 = false by simp [hid] at *; omega) (an (ht h8 9) (an (ht h8 10) (an (ht h8 11) (an (ht h8 12) (an (ht h8 13) (an (ht h8 14) (an (ht h8 15) (cZf3_2 z (ri (z 31)))))))))))))))))))) tt))))))) ?_
           kernel_rfl
          ·
           rcases eb (decide (e % (16:Int) = (9:Int))) with h9 | h9
           ·
            refine vcIntro (hx2 10 512) (an (u10 h9 h8 h7 h6 h5 h4 h3 h2 h1 h0) (an (pZf3_3 e m) (an (an (show m * (4:Nat) ≤ m * (4:Nat) by simp) (show ∀ (k:Nat), k < m * (4:Nat) → g k = g k from fun _ _ => rfl)) (an (zo (pZf3_1 z)) (an (zo (an (ri c) (an (ri n) (an (ri d) (ri k))))) (an (zo (pZf3_2 w)) (an (zo (an (ht h9 0) (an (ht h9 1) (an (ht h9 2) (an (ht h9 3) (an (ht h9 4) (an (ht h9 5) (an (ht h9 6) (an (ht h9 7) (an (ht h9 8) (an (show hid e 9 = false by simp [hid] at *; omega) (an (ht h9 10) (an (ht h9 11) (an (ht h9 12) (an (ht h9 13) (an (ht h9 14) (an (ht h9 15) (cZf3_2 z (ri (z 31)))))))))))))))))))) tt))))))) ?_
            kernel_rfl
           ·
            rcases eb (decide (e % (16:Int) = (10:Int))) with h10 | h10
            ·
             refine vcIntro (hx2 11 1024) (an (u11 h10 h9 h8 h7 h6 h5 h4 h3 h2 h1 h0) (an (pZf3_3 e m) (an (an (show m * (4:Nat) ≤ m * (4:Nat) by simp) (show ∀ (k:Nat), k < m * (4:Nat) → g k = g k from fun _ _ => rfl)) (an (zo (pZf3_1 z)) (an (zo (an (ri c) (an (ri n) (an (ri d) (ri k))))) (an (zo (pZf3_2 w)) (an (zo (an (ht h10 0) (an (ht h10 1) (an (ht h10 2) (an (ht h10 3) (an (ht h10 4) (an (ht h10 5) (an (ht h10 6) (an (ht h10 7) (an (ht h10 8) (an (ht h10 9) (an (show hid e 10 = false by simp [hid] at *; omega) (an (ht h10 11) (an (ht h10 12) (an (ht h10 13) (an (ht h10 14) (an (ht h10 15) (cZf3_2 z (ri (z 31)))))))))))))))))))) tt))))))) ?_
             kernel_rfl
            ·
             rcases eb (decide (e % (16:Int) = (11:Int))) with h11 | h11
             ·
              refine vcIntro (hx2 12 2048) (an (u12 h11 h10 h9 h8 h7 h6 h5 h4 h3 h2 h1 h0) (an (pZf3_3 e m) (an (an (show m * (4:Nat) ≤ m * (4:Nat) by simp) (show ∀ (k:Nat), k < m * (4:Nat) → g k = g k from fun _ _ => rfl)) (an (zo (pZf3_1 z)) (an (zo (an (ri c) (an (ri n) (an (ri d) (ri k))))) (an (zo (pZf3_2 w)) (an (zo (an (ht h11 0) (an (ht h11 1) (an (ht h11 2) (an (ht h11 3) (an (ht h11 4) (an (ht h11 5) (an (ht h11 6) (an (ht h11 7) (an (ht h11 8) (an (ht h11 9) (an (ht h11 10) (an (show hid e 11 = false by simp [hid] at *; omega) (an (ht h11 12) (an (ht h11 13) (an (ht h11 14) (an (ht h11 15) (cZf3_2 z (ri (z 31)))))))))))))))))))) tt))))))) ?_
              kernel_rfl
             ·
              rcases eb (decide (e % (16:Int) = (12:Int))) with h12 | h12
              ·
               refine vcIntro (hx2 13 4096) (an (u13 h12 h11 h10 h9 h8 h7 h6 h5 h4 h3 h2 h1 h0) (an (pZf3_3 e m) (an (an (show m * (4:Nat) ≤ m * (4:Nat) by simp) (show ∀ (k:Nat), k < m * (4:Nat) → g k = g k from fun _ _ => rfl)) (an (zo (pZf3_1 z)) (an (zo (an (ri c) (an (ri n) (an (ri d) (ri k))))) (an (zo (pZf3_2 w)) (an (zo (an (ht h12 0) (an (ht h12 1) (an (ht h12 2) (an (ht h12 3) (an (ht h12 4) (an (ht h12 5) (an (ht h12 6) (an (ht h12 7) (an (ht h12 8) (an (ht h12 9) (an (ht h12 10) (an (ht h12 11) (an (show hid e 12 = false by simp [hid] at *; omega) (an (ht h12 13) (an (ht h12 14) (an (ht h12 15) (cZf3_2 z (ri (z 31)))))))))))))))))))) tt))))))) ?_
               kernel_rfl
              ·
               rcases eb (decide (e % (16:Int) = (13:Int))) with h13 | h13
               ·
                refine vcIntro (hx2 14 8192) (an (u14 h13 h12 h11 h10 h9 h8 h7 h6 h5 h4 h3 h2 h1 h0) (an (pZf3_3 e m) (an (an (show m * (4:Nat) ≤ m * (4:Nat) by simp) (show ∀ (k:Nat), k < m * (4:Nat) → g k = g k from fun _ _ => rfl)) (an (zo (pZf3_1 z)) (an (zo (an (ri c) (an (ri n) (an (ri d) (ri k))))) (an (zo (pZf3_2 w)) (an (zo (an (ht h13 0) (an (ht h13 1) (an (ht h13 2) (an (ht h13 3) (an (ht h13 4) (an (ht h13 5) (an (ht h13 6) (an (ht h13 7) (an (ht h13 8) (an (ht h13 9) (an (ht h13 10) (an (ht h13 11) (an (ht h13 12) (an (show hid e 13 = false by simp [hid] at *; omega) (an (ht h13 14) (an (ht h13 15) (cZf3_2 z (ri (z 31)))))))))))))))))))) tt))))))) ?_
                kernel_rfl
               ·
                rcases eb (decide (e % (16:Int) = (14:Int))) with h14 | h14
                ·
                 refine vcIntro (hx2 15 16384) (an (u15 h14 h13 h12 h11 h10 h9 h8 h7 h6 h5 h4 h3 h2 h1 h0) (an (pZf3_3 e m) (an (an (show m * (4:Nat) ≤ m * (4:Nat) by simp) (show ∀ (k:Nat), k < m * (4:Nat) → g k = g k from fun _ _ => rfl)) (an (zo (pZf3_1 z)) (an (zo (an (ri c) (an (ri n) (an (ri d) (ri k))))) (an (zo (pZf3_2 w)) (an (zo (an (ht h14 0) (an (ht h14 1) (an (ht h14 2) (an (ht h14 3) (an (ht h14 4) (an (ht h14 5) (an (ht h14 6) (an (ht h14 7) (an (ht h14 8) (an (ht h14 9) (an (ht h14 10) (an (ht h14 11) (an (ht h14 12) (an (ht h14 13) (an (show hid e 14 = false by simp [hid] at *; omega) (an (ht h14 15) (cZf3_2 z (ri (z 31)))))))))))))))))))) tt))))))) ?_
                 kernel_rfl
                ·
                 rcases eb (decide (e % (16:Int) = (15:Int))) with h15 | h15
                 ·
                  refine vcIntro (hx2 16 32768) (an (u16 h15 h14 h13 h12 h11 h10 h9 h8 h7 h6 h5 h4 h3 h2 h1 h0) (an (pZf3_3 e m) (an (an (show m * (4:Nat) ≤ m * (4:Nat) by simp) (show ∀ (k:Nat), k < m * (4:Nat) → g k = g k from fun _ _ => rfl)) (an (zo (pZf3_1 z)) (an (zo (an (ri c) (an (ri n) (an (ri d) (ri k))))) (an (zo (pZf3_2 w)) (an (zo (an (ht h15 0) (an (ht h15 1) (an (ht h15 2) (an (ht h15 3) (an (ht h15 4) (an (ht h15 5) (an (ht h15 6) (an (ht h15 7) (an (ht h15 8) (an (ht h15 9) (an (ht h15 10) (an (ht h15 11) (an (ht h15 12) (an (ht h15 13) (an (ht h15 14) (an (show hid e 15 = false by simp [hid] at *; omega) (cZf3_2 z (ri (z 31)))))))))))))))))))) tt))))))) ?_
                  kernel_rfl
                 · exact ff (by simp at *; omega)
end
end Go.Ideal.Zf

namespace Go.Ideal.Zf
section
open Go.Proofs Go.Ideal Go.Ideal.L1 Go.Ideal.K6 Go.Ideal.Bd
set_option linter.unusedSimpArgs false
set_option linter.unusedVariables false
set_option linter.defProp false
set_option maxRecDepth 100000
set_option maxHeartbeats 80000000

def yT (e:Int) : List (Nat × V) := [(2, .int .i64 (.s e)), (9, .ptr 5 (.c 0)), (11, .ptr 7 (.c 0)), (14, .ptr 10 (.c 0))]
def bB (w : Nat → Int) (k L:Nat) : Option Blk := some (.own false 30 (fun _ => 0) 0 (.any :: (anyL 32 ++ (intL w ++ [.slice k (.c 0) (.c L) 2 (.c L)]))))
def yB (z w : Nat → Int) (L:Nat) (A : Option Blk) : List (Option Blk) := List.replicate 5 none ++ [vB z, A, aB w 6 L, none, A, bB w 9 L]
theorem cZf4_0 (z : Nat → Int) {R : Prop} (h : R) : ((z 16):Int) = (z 16) ∧ (((z 17):Int) = (z 17) ∧ (((z 18):Int) = (z 18) ∧ (((z 19):Int) = (z 19) ∧ (((z 20):Int) = (z 20) ∧ (((z 21):Int) = (z 21) ∧ (((z 22):Int) = (z 22) ∧ (((z 23):Int) = (z 23) ∧ (((z 24):Int) = (z 24) ∧ (((z 25):Int) = (z 25) ∧ (((z 26):Int) = (z 26) ∧ (((z 27):Int) = (z 27) ∧ (((z 28):Int) = (z 28) ∧ (((z 29):Int) = (z 29) ∧ (((z 30):Int) = (z 30) ∧ (R))))))))))))))) := ⟨rfl, ⟨rfl, ⟨rfl, ⟨rfl, ⟨rfl, ⟨rfl, ⟨rfl, ⟨rfl, ⟨rfl, ⟨rfl, ⟨rfl, ⟨rfl, ⟨rfl, ⟨rfl, ⟨rfl, h⟩⟩⟩⟩⟩⟩⟩⟩⟩⟩⟩⟩⟩⟩⟩
theorem cZf4_1 (w : Nat → Int) {R : Prop} (h : R) : ((w 16):Int) = (w 16) ∧ (((w 17):Int) = (w 17) ∧ (((w 18):Int) = (w 18) ∧ (((w 19):Int) = (w 19) ∧ (((w 20):Int) = (w 20) ∧ (((w 21):Int) = (w 21) ∧ (((w 22):Int) = (w 22) ∧ (((w 23):Int) = (w 23) ∧ (((w 24):Int) = (w 24) ∧ (((w 25):Int) = (w 25) ∧ (((w 26):Int) = (w 26) ∧ (((w 27):Int) = (w 27) ∧ (((w 28):Int) = (w 28) ∧ (((w 29):Int) = (w 29) ∧ (((w 30):Int) = (w 30) ∧ (((w 31):Int) = (w 31) ∧ (True ∧ (R))))))))))))))))) := ⟨rfl, ⟨rfl, ⟨rfl, ⟨rfl, ⟨rfl, ⟨rfl, ⟨rfl, ⟨rfl, ⟨rfl, ⟨rfl, ⟨rfl, ⟨rfl, ⟨rfl, ⟨rfl, ⟨rfl, ⟨rfl, ⟨True.intro, h⟩⟩⟩⟩⟩⟩⟩⟩⟩⟩⟩⟩⟩⟩⟩⟩⟩
def pZf4_1 (z : Nat → Int) := an tt (an tt (an tt (an tt (an tt (an tt (an tt (an tt (an tt (an tt (an tt (an tt (an tt (an tt (an tt (an tt (an tt (an tt (an tt (an tt (an tt (an tt (an tt (an tt (an tt (an tt (an tt (an tt (an tt (an tt (an tt (an tt (cZf4_0 z (ri (z 31))))))))))))))))))))))))))))))))))
def pZf4_2 (w : Nat → Int) := an tt (an tt (an tt (an tt (an tt (an tt (an tt (an tt (an tt (an tt (an tt (an tt (an tt (an tt (an tt (an tt (an tt (an tt (an tt (an tt (an tt (an tt (an tt (an tt (an tt (an tt (an tt (an tt (an tt (an tt (an tt (an tt (an tt (cZf4_1 w (an tt tt))))))))))))))))))))))))))))))))))
theorem bn_11 (g : Nat → Int) (m:Nat) (e:Int) (z w : Nat → Int) (B : Nat → Bool) (hm9 : m < 9223372036854775808) (hv : B1.allMay [z 0, z 1, z 2, z 3, z 4, z 5, z 6, z 7, z 8, z 9, z 10, z 11, z 12, z 13, z 14, z 15, z 16, z 17, z 18, z 19, z 20, z 21, z 22, z 23, z 24, z 25, z 26, z 27, z 28, z 29, z 30, z 31] = true) (ho : B1.opsB g m = true) (c n:Int) (hn1 : (n1 (fL [B 0, B 1, B 2, B 3, B 4, B 5, B 6, B 7, B 8, B 9, B 10, B 11, B 12, B 13, B 14, B 15]) (zL [z 0, z 1, z 2, z 3, z 4, z 5, z 6, z 7, z 8, z 9, z 10, z 11, z 12, z 13, z 14, z 15, z 16, z 17, z 18, z 19, z 20, z 21, z 22, z 23, z 24, z 25, z 26, z 27, z 28, z 29, z 30, z 31]) g) = e % 16) : ∃ hh, vcOf (runEnd Try.prog dosF noL 6000 12 [1, 1, 1, 1, 1, 1, 1, 1, 1, 1] (Tr.ofPairs (xT m e)) (Hm (xB g m B z w 1 (an1 c n)) 9) hh) (fun v _ => isT v) := by
  have hn1' : ¬ (n1 (fL [B 0, B 1, B 2, B 3, B 4, B 5, B 6, B 7, B 8, B 9, B 10, B 11, B 12, B 13, B 14, B 15]) (zL [z 0, z 1, z 2, z 3, z 4, z 5, z 6, z 7, z 8, z 9, z 10, z 11, z 12, z 13, z 14, z 15, z 16, z 17, z 18, z 19, z 20, z 21, z 22, z 23, z 24, z 25, z 26, z 27, z 28, z 29, z 30, z 31]) g) = -1 := by omega

  let q1_ := [z 0, z 1, z 2, z 3, z 4, z 5, z 6, z 7, z 8, z 9, z 10, z 11, z 12, z 13, z 14, z 15, z 16, z 17, z 18, z 19, z 20, z 21, z 22, z 23, z 24, z 25, z 26, z 27, z 28, z 29, z 30, z 31]
  let q2_ := (fL [B 0, B 1, B 2, B 3, B 4, B 5, B 6, B 7, B 8, B 9, B 10, B 11, B 12, B 13, B 14, B 15])
  rcases eb (!(B1.allMay q1_ && B1.opsB g m)) with h0 | h0
  · exact ff (by (try dsimp only [q1_, q2_] at *); simp [hv, ho, hn1'] at *)
  ·
   rcases eb (!n1 q2_ (zL q1_) g == (-1:Int)) with h1 | h1
   ·
    rcases eb (decide (n1 q2_ (zL q1_) g ≥ (0:Int))) with h2 | h2
    ·
     rcases eb (n1 q2_ (zL q1_) g == e % (16:Int)) with h3 | h3
     ·
      rcases eb (B 0 == B 0 && (B 1 == B 1 && (B 2 == B 2 && (B 3 == B 3 && (B 4 == B 4 && (B 5 == B 5 && (B 6 == B 6 && (B 7 == B 7 && (B 8 == B 8 && (B 9 == B 9 && (B 10 == B 10 && (B 11 == B 11 && (B 12 == B 12 && (B 13 == B 13 && (B 14 == B 14 && B 15 == B 15)))))))))))))) && (z 0 == z 0 && (z 1 == z 1 && (z 2 == z 2 && (z 3 == z 3 && (z 4 == z 4 && (z 5 == z 5 && (z 6 == z 6 && (z 7 == z 7 && (z 8 == z 8 && (z 9 == z 9 && (z 10 == z 10 && (z 11 == z 11 && (z 12 == z 12 && (z 13 == z 13 && (z 14 == z 14 && z 15 == z 15)))))))))))))) && (z 16 == z 16 && (z 17 == z 17 && (z 18 == z 18 && (z 19 == z 19 && (z 20 == z 20 && (z 21 == z 21 && (z 22 == z 22 && (z 23 == z 23 && (z 24 == z 24 && (z 25 == z 25 && (z 26 == z 26 && (z 27 == z 27 && (z 28 == z 28 && (z 29 == z 29 && (z 30 == z 30 && z 31 == z 31))))))))))))))))) with h4 | h4
      ·
       refine vcIntro (hx2 5 30) (an (an h4 (an h3 (an h2 (an (an (show m * (4:Nat) ≤ m * (4:Nat) by (try dsimp only [q1_, q2_] at *); simp) (show m.succ ≤ (9223372036854775808:Nat) by (try dsimp only [q1_, q2_] at *); omega)) (u2 h1 h0))))) tt) ?_
       kernel_rfl
      · exact ff (by (try dsimp only [q1_, q2_] at *); simp [hv, ho, hn1'] at *)
     · exact ff (by (try dsimp only [q1_, q2_] at *); simp [hv, ho, hn1] at *)
    · exact ff (by (try dsimp only [q1_, q2_] at *); simp [hv, ho, hn1] at *; omega)
   · exact ff (by (try dsimp only [q1_, q2_] at *); simp [hv, ho, hn1'] at *)
theorem bn_12 (g : Nat → Int) (m:Nat) (e:Int) (z w : Nat → Int) (B : Nat → Bool) (hm9 : m < 9223372036854775808) (hv : B1.allMay [z 0, z 1, z 2, z 3, z 4, z 5, z 6, z 7, z 8, z 9, z 10, z 11, z 12, z 13, z 14, z 15, z 16, z 17, z 18, z 19, z 20, z 21, z 22, z 23, z 24, z 25, z 26, z 27, z 28, z 29, z 30, z 31] = true) (ho : B1.opsB g m = true) (c n d k:Int) (hn1 : (n1 (fL [B 0, B 1, B 2, B 3, B 4, B 5, B 6, B 7, B 8, B 9, B 10, B 11, B 12, B 13, B 14, B 15]) (zL [z 0, z 1, z 2, z 3, z 4, z 5, z 6, z 7, z 8, z 9, z 10, z 11, z 12, z 13, z 14, z 15, z 16, z 17, z 18, z 19, z 20, z 21, z 22, z 23, z 24, z 25, z 26, z 27, z 28, z 29, z 30, z 31]) g) = e % 16) : ∃ hh, vcOf (runEnd Try.prog dosF noL 6000 12 [1, 1, 1, 1, 1, 1, 1, 1, 1, 1] (Tr.ofPairs (xT m e)) (Hm (xB g m B z w 2 (an2 c n d k)) 9) hh) (fun v _ => isT v) := by
  have hn1' : ¬ (n1 (fL [B 0, B 1, B 2, B 3, B 4, B 5, B 6, B 7, B 8, B 9, B 10, B 11, B 12, B 13, B 14, B 15]) (zL [z 0, z 1, z 2, z 3, z 4, z 5, z 6, z 7, z 8, z 9, z 10, z 11, z 12, z 13, z 14, z 15, z 16, z 17, z 18, z 19, z 20, z 21, z 22, z 23, z 24, z 25, z 26, z 27, z 28, z 29, z 30, z 31]) g) = -1 := by omega

  let q1_ := [z 0, z 1, z 2, z 3, z 4, z 5, z 6, z 7, z 8, z 9, z 10, z 11, z 12, z 13, z 14, z 15, z 16, z 17, z 18, z 19, z 20, z 21, z 22, z 23, z 24, z 25, z 26, z 27, z 28, z 29, z 30, z 31]
  let q2_ := (fL [B 0, B 1, B 2, B 3, B 4, B 5, B 6, B 7, B 8, B 9, B 10, B 11, B 12, B 13, B 14, B 15])
  rcases eb (!(B1.allMay q1_ && B1.opsB g m)) with h0 | h0
  · exact ff (by (try dsimp only [q1_, q2_] at *); simp [hv, ho, hn1'] at *)
  ·
   rcases eb (!n1 q2_ (zL q1_) g == (-1:Int)) with h1 | h1
   ·
    rcases eb (decide (n1 q2_ (zL q1_) g ≥ (0:Int))) with h2 | h2
    ·
     rcases eb (n1 q2_ (zL q1_) g == e % (16:Int)) with h3 | h3
     ·
      rcases eb (B 0 == B 0 && (B 1 == B 1 && (B 2 == B 2 && (B 3 == B 3 && (B 4 == B 4 && (B 5 == B 5 && (B 6 == B 6 && (B 7 == B 7 && (B 8 == B 8 && (B 9 == B 9 && (B 10 == B 10 && (B 11 == B 11 && (B 12 == B 12 && (B 13 == B 13 && (B 14 == B 14 && B 15 == B 15)))))))))))))) && (z 0 == z 0 && (z 1 == z 1 && (z 2 == z 2 && (z 3 == z 3 && (z 4 == z 4 && (z 5 == z 5 && (z 6 == z 6 && (z 7 == z 7 && (z 8 == z 8 && (z 9 == z 9 && (z 10 == z 10 && (z 11 == z 11 && (z 12 == z 12 && (z 13 == z 13 && (z 14 == z 14 && z 15 == z 15)))))))))))))) && (z 16 == z 16 && (z 17 == z 17 && (z 18 == z 18 && (z 19 == z 19 && (z 20 == z 20 && (z 21 == z 21 && (z 22 == z 22 && (z 23 == z 23 && (z 24 == z 24 && (z 25 == z 25 && (z 26 == z 26 && (z 27 == z 27 && (z 28 == z 28 && (z 29 == z 29 && (z 30 == z 30 && z 31 == z 31))))))))))))))))) with h4 | h4
      ·
       refine vcIntro (hx2 5 30) (an (an h4 (an h3 (an h2 (an (an (show m * (4:Nat) ≤ m * (4:Nat) by (try dsimp only [q1_, q2_] at *); simp) (show m.succ ≤ (9223372036854775808:Nat) by (try dsimp only [q1_, q2_] at *); omega)) (u2 h1 h0))))) tt) ?_
       kernel_rfl
      · exact ff (by (try dsimp only [q1_, q2_] at *); simp [hv, ho, hn1'] at *)
     · exact ff (by (try dsimp only [q1_, q2_] at *); simp [hv, ho, hn1] at *)
    · exact ff (by (try dsimp only [q1_, q2_] at *); simp [hv, ho, hn1] at *; omega)
   · exact ff (by (try dsimp only [q1_, q2_] at *); simp [hv, ho, hn1'] at *)
theorem bn_2 (g : Nat → Int) (m:Nat) (e:Int) (z w : Nat → Int) (B : Nat → Bool) (hm9 : m < 9223372036854775808) (hv : B1.allMay [z 0, z 1, z 2, z 3, z 4, z 5, z 6, z 7, z 8, z 9, z 10, z 11, z 12, z 13, z 14, z 15, z 16, z 17, z 18, z 19, z 20, z 21, z 22, z 23, z 24, z 25, z 26, z 27, z 28, z 29, z 30, z 31] = true) (ho : B1.opsB g m = true) (c n d k:Int) (hm : m = 2) (hn1 : (n1 (fL [B 0, B 1, B 2, B 3, B 4, B 5, B 6, B 7, B 8, B 9, B 10, B 11, B 12, B 13, B 14, B 15]) (zL [z 0, z 1, z 2, z 3, z 4, z 5, z 6, z 7, z 8, z 9, z 10, z 11, z 12, z 13, z 14, z 15, z 16, z 17, z 18, z 19, z 20, z 21, z 22, z 23, z 24, z 25, z 26, z 27, z 28, z 29, z 30, z 31]) g) = -1) (hc1 : (c1 (fL [B 0, B 1, B 2, B 3, B 4, B 5, B 6, B 7, B 8, B 9, B 10, B 11, B 12, B 13, B 14, B 15]) (zL [z 0, z 1, z 2, z 3, z 4, z 5, z 6, z 7, z 8, z 9, z 10, z 11, z 12, z 13, z 14, z 15, z 16, z 17, z 18, z 19, z 20, z 21, z 22, z 23, z 24, z 25, z 26, z 27, z 28, z 29, z 30, z 31]) g) = 0) (hn2 : (n2 (fL [B 0, B 1, B 2, B 3, B 4, B 5, B 6, B 7, B 8, B 9, B 10, B 11, B 12, B 13, B 14, B 15]) (zL [z 0, z 1, z 2, z 3, z 4, z 5, z 6, z 7, z 8, z 9, z 10, z 11, z 12, z 13, z 14, z 15, z 16, z 17, z 18, z 19, z 20, z 21, z 22, z 23, z 24, z 25, z 26, z 27, z 28, z 29, z 30, z 31]) g) = e % 16) : ∃ hh, vcOf (runEnd Try.prog dosF noL 6000 12 [1, 1, 1, 1, 1, 1, 1, 1, 1, 1] (Tr.ofPairs (xT m e)) (Hm (xB g m B z w 2 (an2 c n d k)) 9) hh) (fun v _ => isT v) := by
  have hn2' : ¬ (n2 (fL [B 0, B 1, B 2, B 3, B 4, B 5, B 6, B 7, B 8, B 9, B 10, B 11, B 12, B 13, B 14, B 15]) (zL [z 0, z 1, z 2, z 3, z 4, z 5, z 6, z 7, z 8, z 9, z 10, z 11, z 12, z 13, z 14, z 15, z 16, z 17, z 18, z 19, z 20, z 21, z 22, z 23, z 24, z 25, z 26, z 27, z 28, z 29, z 30, z 31]) g) = -1 := by omega

  let q1_ := [z 0, z 1, z 2, z 3, z 4, z 5, z 6, z 7, z 8, z 9, z 10, z 11, z 12, z 13, z 14, z 15, z 16, z 17, z 18, z 19, z 20, z 21, z 22, z 23, z 24, z 25, z 26, z 27, z 28, z 29, z 30, z 31]
  let q2_ := (fL [B 0, B 1, B 2, B 3, B 4, B 5, B 6, B 7, B 8, B 9, B 10, B 11, B 12, B 13, B 14, B 15])
  rcases eb (!(B1.allMay q1_ && B1.opsB g m)) with h0 | h0
  · exact ff (by (try dsimp only [q1_, q2_] at *); simp [hv, ho, hn1, hc1, hn2'] at *)
  ·
   rcases eb (!n1 q2_ (zL q1_) g == (-1:Int)) with h1 | h1
   · exact ff (by ((try dsimp only [q1_, q2_] at *); first | (simp at *; omega) | (simp_all; done)))
   ·
    rcases eb (!c1 q2_ (zL q1_) g == (0:Int)) with h2 | h2
    · exact ff (by ((try dsimp only [q1_, q2_] at *); first | (simp at *; omega) | (simp_all; done)))
    ·
     rcases eb (decide (m = (1:Nat))) with h3 | h3
     · exact ff (by ((try dsimp only [q1_, q2_] at *); first | (simp at *; omega) | (simp_all; done)))
     ·
      rcases eb (!n2 q2_ (zL q1_) g == (-1:Int)) with h4 | h4
      ·
       rcases eb (decide (n2 q2_ (zL q1_) g ≥ (0:Int))) with h5 | h5
       ·
        rcases eb (n2 q2_ (zL q1_) g == e % (16:Int)) with h6 | h6
        ·
         rcases eb (B 0 == B 0 && (B 1 == B 1 && (B 2 == B 2 && (B 3 == B 3 && (B 4 == B 4 && (B 5 == B 5 && (B 6 == B 6 && (B 7 == B 7 && (B 8 == B 8 && (B 9 == B 9 && (B 10 == B 10 && (B 11 == B 11 && (B 12 == B 12 && (B 13 == B 13 && (B 14 == B 14 && B 15 == B 15)))))))))))))) && (z 0 == z 0 && (z 1 == z 1 && (z 2 == z 2 && (z 3 == z 3 && (z 4 == z 4 && (z 5 == z 5 && (z 6 == z 6 && (z 7 == z 7 && (z 8 == z 8 && (z 9 == z 9 && (z 10 == z 10 && (z 11 == z 11 && (z 12 == z 12 && (z 13 == z 13 && (z 14 == z 14 && z 15 == z 15)))))))))))))) && (z 16 == z 16 && (z 17 == z 17 && (z 18 == z 18 && (z 19 == z 19 && (z 20 == z 20 && (z 21 == z 21 && (z 22 == z 22 && (z 23 == z 23 && (z 24 == z 24 && (z 25 == z 25 && (z 26 == z 26 && (z 27 == z 27 && (z 28 == z 28 && (z 29 == z 29 && (z 30 == z 30 && z 31 == z 31))))))))))))))))) with h7 | h7
         ·
          refine vcIntro (hx2 8 240) (an (an h7 (an h6 (an h5 (an (an (show m * (4:Nat) ≤ m * (4:Nat) by (try dsimp only [q1_, q2_] at *); simp) (show m.succ ≤ (9223372036854775808:Nat) by (try dsimp only [q1_, q2_] at *); omega)) (u5 h4 h3 h2 h1 h0))))) tt) ?_
          kernel_rfl
         · exact ff (by (try dsimp only [q1_, q2_] at *); simp [hv, ho, hn1, hc1, hn2'] at *)
        · exact ff (by ((try dsimp only [q1_, q2_] at *); first | (simp at *; omega) | (simp_all; done)))
       · exact ff (by ((try dsimp only [q1_, q2_] at *); first | (simp at *; omega) | (simp_all; done)))
      · exact ff (by ((try dsimp only [q1_, q2_] at *); first | (simp at *; omega) | (simp_all; done)))
theorem bt_r1 (g : Nat → Int) (m:Nat) (e:Int) (z w : Nat → Int) (B : Nat → Bool) (hm9 : m < 9223372036854775808) (hv : B1.allMay [z 0, z 1, z 2, z 3, z 4, z 5, z 6, z 7, z 8, z 9, z 10, z 11, z 12, z 13, z 14, z 15, z 16, z 17, z 18, z 19, z 20, z 21, z 22, z 23, z 24, z 25, z 26, z 27, z 28, z 29, z 30, z 31] = true) (ho : B1.opsB g m = true) (c n:Int) (hn1 : (n1 (fL [B 0, B 1, B 2, B 3, B 4, B 5, B 6, B 7, B 8, B 9, B 10, B 11, B 12, B 13, B 14, B 15]) (zL [z 0, z 1, z 2, z 3, z 4, z 5, z 6, z 7, z 8, z 9, z 10, z 11, z 12, z 13, z 14, z 15, z 16, z 17, z 18, z 19, z 20, z 21, z 22, z 23, z 24, z 25, z 26, z 27, z 28, z 29, z 30, z 31]) g) = -1) (hc0 : ¬ (c1 (fL [B 0, B 1, B 2, B 3, B 4, B 5, B 6, B 7, B 8, B 9, B 10, B 11, B 12, B 13, B 14, B 15]) (zL [z 0, z 1, z 2, z 3, z 4, z 5, z 6, z 7, z 8, z 9, z 10, z 11, z 12, z 13, z 14, z 15, z 16, z 17, z 18, z 19, z 20, z 21, z 22, z 23, z 24, z 25, z 26, z 27, z 28, z 29, z 30, z 31]) g) = 0) (hc1 : (c1 (fL [B 0, B 1, B 2, B 3, B 4, B 5, B 6, B 7, B 8, B 9, B 10, B 11, B 12, B 13, B 14, B 15]) (zL [z 0, z 1, z 2, z 3, z 4, z 5, z 6, z 7, z 8, z 9, z 10, z 11, z 12, z 13, z 14, z 15, z 16, z 17, z 18, z 19, z 20, z 21, z 22, z 23, z 24, z 25, z 26, z 27, z 28, z 29, z 30, z 31]) g) = c) (hm1 : (m1 (fL [B 0, B 1, B 2, B 3, B 4, B 5, B 6, B 7, B 8, B 9, B 10, B 11, B 12, B 13, B 14, B 15]) (zL [z 0, z 1, z 2, z 3, z 4, z 5, z 6, z 7, z 8, z 9, z 10, z 11, z 12, z 13, z 14, z 15, z 16, z 17, z 18, z 19, z 20, z 21, z 22, z 23, z 24, z 25, z 26, z 27, z 28, z 29, z 30, z 31]) g) = n) (hw : w = z) : ∃ hh, vcOf (runGo Try.prog dosF noL 6000 12 [1, 1, 1, 1, 1, 1, 1, 1, 1, 1] [1, 1, 1, 0] (Tr.ofPairs (xT m e)) (Hm (xB g m B z w 1 (an1 c n)) 9) hh)
    (reached fun T1 H1 => weakP T1 H1 (yT e) (yB z w 1 (an1 c n)) 11) := by

  let q1_ := [z 0, z 1, z 2, z 3, z 4, z 5, z 6, z 7, z 8, z 9, z 10, z 11, z 12, z 13, z 14, z 15, z 16, z 17, z 18, z 19, z 20, z 21, z 22, z 23, z 24, z 25, z 26, z 27, z 28, z 29, z 30, z 31]
  let q2_ := (fL [B 0, B 1, B 2, B 3, B 4, B 5, B 6, B 7, B 8, B 9, B 10, B 11, B 12, B 13, B 14, B 15])
  rcases eb (!(B1.allMay q1_ && B1.opsB g m)) with h0 | h0
  · exact ff (by (try dsimp only [q1_, q2_] at *); simp [hv, ho, hn1, hc0] at *)
  ·
   rcases eb (!n1 q2_ (zL q1_) g == (-1:Int)) with h1 | h1
   · exact ff (by ((try dsimp only [q1_, q2_] at *); first | (simp at *; omega) | (simp_all; done)))
   ·
    rcases eb (!c1 q2_ (zL q1_) g == (0:Int)) with h2 | h2
    ·
     refine vcIntro (hx2 3 4) (an (an (an (show m * (4:Nat) ≤ m * (4:Nat) by (try dsimp only [q1_, q2_] at *); simp) (show m.succ ≤ (9223372036854775808:Nat) by (try dsimp only [q1_, q2_] at *); omega)) (u3 h2 h1 h0)) (an (an (ri e) (an tt (an tt (an tt tt)))) (an (zo (pZf4_1 z)) (an (zo (an (ri c) (ri n))) (an (zo (pZf4_2 w)) (an (zo (an (show c = c1 q2_ (zL q1_) g by (try dsimp only [q1_, q2_] at *); omega) (show n = m1 q2_ (zL q1_) g by (try dsimp only [q1_, q2_] at *); omega))) (an (zo (an tt (an tt (an tt (an tt (an tt (an tt (an tt (an tt (an tt (an tt (an tt (an tt (an tt (an tt (an tt (an tt (an tt (an tt (an tt (an tt (an tt (an tt (an tt (an tt (an tt (an tt (an tt (an tt (an tt (an tt (an tt (an tt (an tt (an (show w 16 = z 16 by (try dsimp only [q1_, q2_] at *); rw [hw]) (an (show w 17 = z 17 by (try dsimp only [q1_, q2_] at *); rw [hw]) (an (show w 18 = z 18 by (try dsimp only [q1_, q2_] at *); rw [hw]) (an (show w 19 = z 19 by (try dsimp only [q1_, q2_] at *); rw [hw]) (an (show w 20 = z 20 by (try dsimp only [q1_, q2_] at *); rw [hw]) (an (show w 21 = z 21 by (try dsimp only [q1_, q2_] at *); rw [hw]) (an (show w 22 = z 22 by (try dsimp only [q1_, q2_] at *); rw [hw]) (an (show w 23 = z 23 by (try dsimp only [q1_, q2_] at *); rw [hw]) (an (show w 24 = z 24 by (try dsimp only [q1_, q2_] at *); rw [hw]) (an (show w 25 = z 25 by (try dsimp only [q1_, q2_] at *); rw [hw]) (an (show w 26 = z 26 by (try dsimp only [q1_, q2_] at *); rw [hw]) (an (show w 27 = z 27 by (try dsimp only [q1_, q2_] at *); rw [hw]) (an (show w 28 = z 28 by (try dsimp only [q1_, q2_] at *); rw [hw]) (an (show w 29 = z 29 by (try dsimp only [q1_, q2_] at *); rw [hw]) (an (show w 30 = z 30 by (try dsimp only [q1_, q2_] at *); rw [hw]) (an (show w 31 = z 31 by (try dsimp only [q1_, q2_] at *); rw [hw]) (an tt (an tt tt)))))))))))))))))))))))))))))))))))))))))))))))))))) tt))))))) ?_
     kernel_rfl
    · exact ff (by ((try dsimp only [q1_, q2_] at *); first | (simp at *; omega) | (simp_all; done)))
theorem bt_d1 (g : Nat → Int) (m:Nat) (e:Int) (z w : Nat → Int) (B : Nat → Bool) (hm9 : m < 9223372036854775808) (hv : B1.allMay [z 0, z 1, z 2, z 3, z 4, z 5, z 6, z 7, z 8, z 9, z 10, z 11, z 12, z 13, z 14, z 15, z 16, z 17, z 18, z 19, z 20, z 21, z 22, z 23, z 24, z 25, z 26, z 27, z 28, z 29, z 30, z 31] = true) (ho : B1.opsB g m = true) (c n:Int) (hm : m = 1) (hn1 : (n1 (fL [B 0, B 1, B 2, B 3, B 4, B 5, B 6, B 7, B 8, B 9, B 10, B 11, B 12, B 13, B 14, B 15]) (zL [z 0, z 1, z 2, z 3, z 4, z 5, z 6, z 7, z 8, z 9, z 10, z 11, z 12, z 13, z 14, z 15, z 16, z 17, z 18, z 19, z 20, z 21, z 22, z 23, z 24, z 25, z 26, z 27, z 28, z 29, z 30, z 31]) g) = -1) (hc0 : (c1 (fL [B 0, B 1, B 2, B 3, B 4, B 5, B 6, B 7, B 8, B 9, B 10, B 11, B 12, B 13, B 14, B 15]) (zL [z 0, z 1, z 2, z 3, z 4, z 5, z 6, z 7, z 8, z 9, z 10, z 11, z 12, z 13, z 14, z 15, z 16, z 17, z 18, z 19, z 20, z 21, z 22, z 23, z 24, z 25, z 26, z 27, z 28, z 29, z 30, z 31]) g) = 0) (hc1 : (c1 (fL [B 0, B 1, B 2, B 3, B 4, B 5, B 6, B 7, B 8, B 9, B 10, B 11, B 12, B 13, B 14, B 15]) (zL [z 0, z 1, z 2, z 3, z 4, z 5, z 6, z 7, z 8, z 9, z 10, z 11, z 12, z 13, z 14, z 15, z 16, z 17, z 18, z 19, z 20, z 21, z 22, z 23, z 24, z 25, z 26, z 27, z 28, z 29, z 30, z 31]) g) = c) (hm1 : (m1 (fL [B 0, B 1, B 2, B 3, B 4, B 5, B 6, B 7, B 8, B 9, B 10, B 11, B 12, B 13, B 14, B 15]) (zL [z 0, z 1, z 2, z 3, z 4, z 5, z 6, z 7, z 8, z 9, z 10, z 11, z 12, z 13, z 14, z 15, z 16, z 17, z 18, z 19, z 20, z 21, z 22, z 23, z 24, z 25, z 26, z 27, z 28, z 29, z 30, z 31]) g) = n) (hw : (z1 (fL [B 0, B 1, B 2, B 3, B 4, B 5, B 6, B 7, B 8, B 9, B 10, B 11, B 12, B 13, B 14, B 15]) (zL [z 0, z 1, z 2, z 3, z 4, z 5, z 6, z 7, z 8, z 9, z 10, z 11, z 12, z 13, z 14, z 15, z 16, z 17, z 18, z 19, z 20, z 21, z 22, z 23, z 24, z 25, z 26, z 27, z 28, z 29, z 30, z 31]) g) = w) : ∃ hh, vcOf (runGo Try.prog dosF noL 6000 12 [1, 1, 1, 1, 1, 1, 1, 1, 1, 1] [1, 1, 1, 0] (Tr.ofPairs (xT m e)) (Hm (xB g m B z w 1 (an1 c n)) 9) hh)
    (reached fun T1 H1 => weakP T1 H1 (yT e) (yB z w 1 (an1 c n)) 11) := by

  let q1_ := [z 0, z 1, z 2, z 3, z 4, z 5, z 6, z 7, z 8, z 9, z 10, z 11, z 12, z 13, z 14, z 15, z 16, z 17, z 18, z 19, z 20, z 21, z 22, z 23, z 24, z 25, z 26, z 27, z 28, z 29, z 30, z 31]
  let q2_ := (fL [B 0, B 1, B 2, B 3, B 4, B 5, B 6, B 7, B 8, B 9, B 10, B 11, B 12, B 13, B 14, B 15])
  rcases eb (!(B1.allMay q1_ && B1.opsB g m)) with h0 | h0
  · exact ff (by (try dsimp only [q1_, q2_] at *); simp [hv, ho, hn1, hc0] at *)
  ·
   rcases eb (!n1 q2_ (zL q1_) g == (-1:Int)) with h1 | h1
   · exact ff (by ((try dsimp only [q1_, q2_] at *); first | (simp at *; omega) | (simp_all; done)))
   ·
    rcases eb (!c1 q2_ (zL q1_) g == (0:Int)) with h2 | h2
    · exact ff (by ((try dsimp only [q1_, q2_] at *); first | (simp at *; omega) | (simp_all; done)))
    ·
     rcases eb (decide (m = (1:Nat))) with h3 | h3
     ·
      refine vcIntro (hx2 4 8) (an (an (an (show m * (4:Nat) ≤ m * (4:Nat) by (try dsimp only [q1_, q2_] at *); simp) (show m.succ ≤ (9223372036854775808:Nat) by (try dsimp only [q1_, q2_] at *); omega)) (u4 h3 h2 h1 h0)) (an (an (ri e) (an tt (an tt (an tt tt)))) (an (zo (pZf4_1 z)) (an (zo (an (ri c) (ri n))) (an (zo (pZf4_2 w)) (an (zo (an (show c = c1 q2_ (zL q1_) g by (try dsimp only [q1_, q2_] at *); omega) (show n = m1 q2_ (zL q1_) g by (try dsimp only [q1_, q2_] at *); omega))) (an (zo (an tt (an tt (an tt (an tt (an tt (an tt (an tt (an tt (an tt (an tt (an tt (an tt (an tt (an tt (an tt (an tt (an tt (an tt (an tt (an tt (an tt (an tt (an tt (an tt (an tt (an tt (an tt (an tt (an tt (an tt (an tt (an tt (an tt (an (show w 16 = z1 q2_ (zL q1_) g 16 by (try dsimp only [q1_, q2_] at *); rw [hw]) (an (show w 17 = z1 q2_ (zL q1_) g 17 by (try dsimp only [q1_, q2_] at *); rw [hw]) (an (show w 18 = z1 q2_ (zL q1_) g 18 by (try dsimp only [q1_, q2_] at *); rw [hw]) (an (show w 19 = z1 q2_ (zL q1_) g 19 by (try dsimp only [q1_, q2_] at *); rw [hw]) (an (show w 20 = z1 q2_ (zL q1_) g 20 by (try dsimp only [q1_, q2_] at *); rw [hw]) (an (show w 21 = z1 q2_ (zL q1_) g 21 by (try dsimp only [q1_, q2_] at *); rw [hw]) (an (show w 22 = z1 q2_ (zL q1_) g 22 by (try dsimp only [q1_, q2_] at *); rw [hw]) (an (show w 23 = z1 q2_ (zL q1_) g 23 by (try dsimp only [q1_, q2_] at *); rw [hw]) (an (show w 24 = z1 q2_ (zL q1_) g 24 by (try dsimp only [q1_, q2_] at *); rw [hw]) (an (show w 25 = z1 q2_ (zL q1_) g 25 by (try dsimp only [q1_, q2_] at *); rw [hw]) (an (show w 26 = z1 q2_ (zL q1_) g 26 by (try dsimp only [q1_, q2_] at *); rw [hw]) (an (show w 27 = z1 q2_ (zL q1_) g 27 by (try dsimp only [q1_, q2_] at *); rw [hw]) (an (show w 28 = z1 q2_ (zL q1_) g 28 by (try dsimp only [q1_, q2_] at *); rw [hw]) (an (show w 29 = z1 q2_ (zL q1_) g 29 by (try dsimp only [q1_, q2_] at *); rw [hw]) (an (show w 30 = z1 q2_ (zL q1_) g 30 by (try dsimp only [q1_, q2_] at *); rw [hw]) (an (show w 31 = z1 q2_ (zL q1_) g 31 by (try dsimp only [q1_, q2_] at *); rw [hw]) (an tt (an tt tt)))))))))))))))))))))))))))))))))))))))))))))))))))) tt))))))) ?_
      kernel_rfl
     · exact ff (by ((try dsimp only [q1_, q2_] at *); first | (simp at *; omega) | (simp_all; done)))
theorem bt_r2 (g : Nat → Int) (m:Nat) (e:Int) (z w : Nat → Int) (B : Nat → Bool) (hm9 : m < 9223372036854775808) (hv : B1.allMay [z 0, z 1, z 2, z 3, z 4, z 5, z 6, z 7, z 8, z 9, z 10, z 11, z 12, z 13, z 14, z 15, z 16, z 17, z 18, z 19, z 20, z 21, z 22, z 23, z 24, z 25, z 26, z 27, z 28, z 29, z 30, z 31] = true) (ho : B1.opsB g m = true) (c n d k:Int) (hm : m = 2) (hn1 : (n1 (fL [B 0, B 1, B 2, B 3, B 4, B 5, B 6, B 7, B 8, B 9, B 10, B 11, B 12, B 13, B 14, B 15]) (zL [z 0, z 1, z 2, z 3, z 4, z 5, z 6, z 7, z 8, z 9, z 10, z 11, z 12, z 13, z 14, z 15, z 16, z 17, z 18, z 19, z 20, z 21, z 22, z 23, z 24, z 25, z 26, z 27, z 28, z 29, z 30, z 31]) g) = -1) (hc0 : (c1 (fL [B 0, B 1, B 2, B 3, B 4, B 5, B 6, B 7, B 8, B 9, B 10, B 11, B 12, B 13, B 14, B 15]) (zL [z 0, z 1, z 2, z 3, z 4, z 5, z 6, z 7, z 8, z 9, z 10, z 11, z 12, z 13, z 14, z 15, z 16, z 17, z 18, z 19, z 20, z 21, z 22, z 23, z 24, z 25, z 26, z 27, z 28, z 29, z 30, z 31]) g) = 0) (hn2 : (n2 (fL [B 0, B 1, B 2, B 3, B 4, B 5, B 6, B 7, B 8, B 9, B 10, B 11, B 12, B 13, B 14, B 15]) (zL [z 0, z 1, z 2, z 3, z 4, z 5, z 6, z 7, z 8, z 9, z 10, z 11, z 12, z 13, z 14, z 15, z 16, z 17, z 18, z 19, z 20, z 21, z 22, z 23, z 24, z 25, z 26, z 27, z 28, z 29, z 30, z 31]) g) = -1) (hc3 : ¬ (c2 (fL [B 0, B 1, B 2, B 3, B 4, B 5, B 6, B 7, B 8, B 9, B 10, B 11, B 12, B 13, B 14, B 15]) (zL [z 0, z 1, z 2, z 3, z 4, z 5, z 6, z 7, z 8, z 9, z 10, z 11, z 12, z 13, z 14, z 15, z 16, z 17, z 18, z 19, z 20, z 21, z 22, z 23, z 24, z 25, z 26, z 27, z 28, z 29, z 30, z 31]) g) = 0) (hc1 : (c1 (fL [B 0, B 1, B 2, B 3, B 4, B 5, B 6, B 7, B 8, B 9, B 10, B 11, B 12, B 13, B 14, B 15]) (zL [z 0, z 1, z 2, z 3, z 4, z 5, z 6, z 7, z 8, z 9, z 10, z 11, z 12, z 13, z 14, z 15, z 16, z 17, z 18, z 19, z 20, z 21, z 22, z 23, z 24, z 25, z 26, z 27, z 28, z 29, z 30, z 31]) g) = c) (hm1 : (m1 (fL [B 0, B 1, B 2, B 3, B 4, B 5, B 6, B 7, B 8, B 9, B 10, B 11, B 12, B 13, B 14, B 15]) (zL [z 0, z 1, z 2, z 3, z 4, z 5, z 6, z 7, z 8, z 9, z 10, z 11, z 12, z 13, z 14, z 15, z 16, z 17, z 18, z 19, z 20, z 21, z 22, z 23, z 24, z 25, z 26, z 27, z 28, z 29, z 30, z 31]) g) = n) (hc2 : (c2 (fL [B 0, B 1, B 2, B 3, B 4, B 5, B 6, B 7, B 8, B 9, B 10, B 11, B 12, B 13, B 14, B 15]) (zL [z 0, z 1, z 2, z 3, z 4, z 5, z 6, z 7, z 8, z 9, z 10, z 11, z 12, z 13, z 14, z 15, z 16, z 17, z 18, z 19, z 20, z 21, z 22, z 23, z 24, z 25, z 26, z 27, z 28, z 29, z 30, z 31]) g) = d) (hm2 : (m2 (fL [B 0, B 1, B 2, B 3, B 4, B 5, B 6, B 7, B 8, B 9, B 10, B 11, B 12, B 13, B 14, B 15]) (zL [z 0, z 1, z 2, z 3, z 4, z 5, z 6, z 7, z 8, z 9, z 10, z 11, z 12, z 13, z 14, z 15, z 16, z 17, z 18, z 19, z 20, z 21, z 22, z 23, z 24, z 25, z 26, z 27, z 28, z 29, z 30, z 31]) g) = k) (hw : w = z) : ∃ hh, vcOf (runGo Try.prog dosF noL 6000 12 [1, 1, 1, 1, 1, 1, 1, 1, 1, 1] [1, 1, 1, 0] (Tr.ofPairs (xT m e)) (Hm (xB g m B z w 2 (an2 c n d k)) 9) hh)
    (reached fun T1 H1 => weakP T1 H1 (yT e) (yB z w 2 (an2 c n d k)) 11) := by

  let q1_ := [z 0, z 1, z 2, z 3, z 4, z 5, z 6, z 7, z 8, z 9, z 10, z 11, z 12, z 13, z 14, z 15, z 16, z 17, z 18, z 19, z 20, z 21, z 22, z 23, z 24, z 25, z 26, z 27, z 28, z 29, z 30, z 31]
  let q2_ := (fL [B 0, B 1, B 2, B 3, B 4, B 5, B 6, B 7, B 8, B 9, B 10, B 11, B 12, B 13, B 14, B 15])
  rcases eb (!(B1.allMay q1_ && B1.opsB g m)) with h0 | h0
  · exact ff (by (try dsimp only [q1_, q2_] at *); simp [hv, ho, hn1, hc0, hn2, hc3] at *)
  ·
   rcases eb (!n1 q2_ (zL q1_) g == (-1:Int)) with h1 | h1
   · exact ff (by ((try dsimp only [q1_, q2_] at *); first | (simp at *; omega) | (simp_all; done)))
   ·
    rcases eb (!c1 q2_ (zL q1_) g == (0:Int)) with h2 | h2
    · exact ff (by ((try dsimp only [q1_, q2_] at *); first | (simp at *; omega) | (simp_all; done)))
    ·
     rcases eb (decide (m = (1:Nat))) with h3 | h3
     · exact ff (by ((try dsimp only [q1_, q2_] at *); first | (simp at *; omega) | (simp_all; done)))
     ·
      rcases eb (!n2 q2_ (zL q1_) g == (-1:Int)) with h4 | h4
      · exact ff (by ((try dsimp only [q1_, q2_] at *); first | (simp at *; omega) | (simp_all; done)))
      ·
       rcases eb (!c2 q2_ (zL q1_) g == (0:Int)) with h5 | h5
       ·
        refine vcIntro (hx2 6 32) (an (an (an (show m * (4:Nat) ≤ m * (4:Nat) by (try dsimp only [q1_, q2_] at *); simp) (show m.succ ≤ (9223372036854775808:Nat) by (try dsimp only [q1_, q2_] at *); omega)) (u6 h5 h4 h3 h2 h1 h0)) (an (an (ri e) (an tt (an tt (an tt tt)))) (an (zo (pZf4_1 z)) (an (zo (an (ri c) (an (ri n) (an (ri d) (ri k))))) (an (zo (pZf4_2 w)) (an (zo (an (show c = c1 q2_ (zL q1_) g by (try dsimp only [q1_, q2_] at *); omega) (an (show n = m1 q2_ (zL q1_) g by (try dsimp only [q1_, q2_] at *); omega) (an (show d = c2 q2_ (zL q1_) g by (try dsimp only [q1_, q2_] at *); omega) (show k = m2 q2_ (zL q1_) g by (try dsimp only [q1_, q2_] at *); omega))))) (an (zo (an tt (an tt (an tt (an tt (an tt (an tt (an tt (an tt (an tt (an tt (an tt (an tt (an tt (an tt (an tt (an tt (an tt (an tt (an tt (an tt (an tt (an tt (an tt (an tt (an tt (an tt (an tt (an tt (an tt (an tt (an tt (an tt (an tt (an (show w 16 = z 16 by (try dsimp only [q1_, q2_] at *); rw [hw]) (an (show w 17 = z 17 by (try dsimp only [q1_, q2_] at *); rw [hw]) (an (show w 18 = z 18 by (try dsimp only [q1_, q2_] at *); rw [hw]) (an (show w 19 = z 19 by (try dsimp only [q1_, q2_] at *); rw [hw]) (an (show w 20 = z 20 by (try dsimp only [q1_, q2_] at *); rw [hw]) (an (show w 21 = z 21 by (try dsimp only [q1_, q2_] at *); rw [hw]) (an (show w 22 = z 22 by (try dsimp only [q1_, q2_] at *); rw [hw]) (an (show w 23 = z 23 by (try dsimp only [q1_, q2_] at *); rw [hw]) (an (show w 24 = z 24 by (try dsimp only [q1_, q2_] at *); rw [hw]) (an (show w 25 = z 25 by (try dsimp only [q1_, q2_] at *); rw [hw]) (an (show w 26 = z 26 by (try dsimp only [q1_, q2_] at *); rw [hw]) (an (show w 27 = z 27 by (try dsimp only [q1_, q2_] at *); rw [hw]) (an (show w 28 = z 28 by (try dsimp only [q1_, q2_] at *); rw [hw]) (an (show w 29 = z 29 by (try dsimp only [q1_, q2_] at *); rw [hw]) (an (show w 30 = z 30 by (try dsimp only [q1_, q2_] at *); rw [hw]) (an (show w 31 = z 31 by (try dsimp only [q1_, q2_] at *); rw [hw]) (an tt (an tt tt)))))))))))))))))))))))))))))))))))))))))))))))))))) tt))))))) ?_
        kernel_rfl
       · exact ff (by ((try dsimp only [q1_, q2_] at *); first | (simp at *; omega) | (simp_all; done)))
theorem bt_d2 (g : Nat → Int) (m:Nat) (e:Int) (z w : Nat → Int) (B : Nat → Bool) (hm9 : m < 9223372036854775808) (hv : B1.allMay [z 0, z 1, z 2, z 3, z 4, z 5, z 6, z 7, z 8, z 9, z 10, z 11, z 12, z 13, z 14, z 15, z 16, z 17, z 18, z 19, z 20, z 21, z 22, z 23, z 24, z 25, z 26, z 27, z 28, z 29, z 30, z 31] = true) (ho : B1.opsB g m = true) (c n d k:Int) (hm : m = 2) (hn1 : (n1 (fL [B 0, B 1, B 2, B 3, B 4, B 5, B 6, B 7, B 8, B 9, B 10, B 11, B 12, B 13, B 14, B 15]) (zL [z 0, z 1, z 2, z 3, z 4, z 5, z 6, z 7, z 8, z 9, z 10, z 11, z 12, z 13, z 14, z 15, z 16, z 17, z 18, z 19, z 20, z 21, z 22, z 23, z 24, z 25, z 26, z 27, z 28, z 29, z 30, z 31]) g) = -1) (hc0 : (c1 (fL [B 0, B 1, B 2, B 3, B 4, B 5, B 6, B 7, B 8, B 9, B 10, B 11, B 12, B 13, B 14, B 15]) (zL [z 0, z 1, z 2, z 3, z 4, z 5, z 6, z 7, z 8, z 9, z 10, z 11, z 12, z 13, z 14, z 15, z 16, z 17, z 18, z 19, z 20, z 21, z 22, z 23, z 24, z 25, z 26, z 27, z 28, z 29, z 30, z 31]) g) = 0) (hn2 : (n2 (fL [B 0, B 1, B 2, B 3, B 4, B 5, B 6, B 7, B 8, B 9, B 10, B 11, B 12, B 13, B 14, B 15]) (zL [z 0, z 1, z 2, z 3, z 4, z 5, z 6, z 7, z 8, z 9, z 10, z 11, z 12, z 13, z 14, z 15, z 16, z 17, z 18, z 19, z 20, z 21, z 22, z 23, z 24, z 25, z 26, z 27, z 28, z 29, z 30, z 31]) g) = -1) (hc3 : (c2 (fL [B 0, B 1, B 2, B 3, B 4, B 5, B 6, B 7, B 8, B 9, B 10, B 11, B 12, B 13, B 14, B 15]) (zL [z 0, z 1, z 2, z 3, z 4, z 5, z 6, z 7, z 8, z 9, z 10, z 11, z 12, z 13, z 14, z 15, z 16, z 17, z 18, z 19, z 20, z 21, z 22, z 23, z 24, z 25, z 26, z 27, z 28, z 29, z 30, z 31]) g) = 0) (hc1 : (c1 (fL [B 0, B 1, B 2, B 3, B 4, B 5, B 6, B 7, B 8, B 9, B 10, B 11, B 12, B 13, B 14, B 15]) (zL [z 0, z 1, z 2, z 3, z 4, z 5, z 6, z 7, z 8, z 9, z 10, z 11, z 12, z 13, z 14, z 15, z 16, z 17, z 18, z 19, z 20, z 21, z 22, z 23, z 24, z 25, z 26, z 27, z 28, z 29, z 30, z 31]) g) = c) (hm1 : (m1 (fL [B 0, B 1, B 2, B 3, B 4, B 5, B 6, B 7, B 8, B 9, B 10, B 11, B 12, B 13, B 14, B 15]) (zL [z 0, z 1, z 2, z 3, z 4, z 5, z 6, z 7, z 8, z 9, z 10, z 11, z 12, z 13, z 14, z 15, z 16, z 17, z 18, z 19, z 20, z 21, z 22, z 23, z 24, z 25, z 26, z 27, z 28, z 29, z 30, z 31]) g) = n) (hc2 : (c2 (fL [B 0, B 1, B 2, B 3, B 4, B 5, B 6, B 7, B 8, B 9, B 10, B 11, B 12, B 13, B 14, B 15]) (zL [z 0, z 1, z 2, z 3, z 4, z 5, z 6, z 7, z 8, z 9, z 10, z 11, z 12, z 13, z 14, z 15, z 16, z 17, z 18, z 19, z 20, z 21, z 22, z 23, z 24, z 25, z 26, z 27, z 28, z 29, z 30, z 31]) g) = d) (hm2 : (m2 (fL [B 0, B 1, B 2, B 3, B 4, B 5, B 6, B 7, B 8, B 9, B 10, B 11, B 12, B 13, B 14, B 15]) (zL [z 0, z 1, z 2, z 3, z 4, z 5, z 6, z 7, z 8, z 9, z 10, z 11, z 12, z 13, z 14, z 15, z 16, z 17, z 18, z 19, z 20, z 21, z 22, z 23, z 24, z 25, z 26, z 27, z 28, z 29, z 30, z 31]) g) = k) (hw : (z2 (fL [B 0, B 1, B 2, B 3, B 4, B 5, B 6, B 7, B 8, B 9, B 10, B 11, B 12, B 13, B 14, B 15]) (zL [z 0, z 1, z 2, z 3, z 4, z 5, z 6, z 7, z 8, z 9, z 10, z 11, z 12, z 13, z 14, z 15, z 16, z 17, z 18, z 19, z 20, z 21, z 22, z 23, z 24, z 25, z 26, z 27, z 28, z 29, z 30, z 31]) g) = w) : ∃ hh, vcOf (runGo Try.prog dosF noL 6000 12 [1, 1, 1, 1, 1, 1, 1, 1, 1, 1] [1, 1, 1, 0] (Tr.ofPairs (xT m e)) (Hm (xB g m B z w 2 (an2 c n d k)) 9) hh)
    (reached fun T1 H1 => weakP T1 H1 (yT e) (yB z w 2 (an2 c n d k)) 11) := by

  let q1_ := [z 0, z 1, z 2, z 3, z 4, z 5, z 6, z 7, z 8, z 9, z 10, z 11, z 12, z 13, z 14, z 15, z 16, z 17, z 18, z 19, z 20, z 21, z 22, z 23, z 24, z 25, z 26, z 27, z 28, z 29, z 30, z 31]
  let q2_ := (fL [B 0, B 1, B 2, B 3, B 4, B 5, B 6, B 7, B 8, B 9, B 10, B 11, B 12, B 13, B 14, B 15])
  rcases eb (!(B1.allMay q1_ && B1.opsB g m)) with h0 | h0
  · exact ff (by (try dsimp only [q1_, q2_] at *); simp [hv, ho, hn1, hc0, hn2, hc3] at *)
  ·
   rcases eb (!n1 q2_ (zL q1_) g == (-1:Int)) with h1 | h1
   · exact ff (by ((try dsimp only [q1_, q2_] at *); first | (simp at *; omega) | (simp_all; done)))
   ·
    rcases eb (!c1 q2_ (zL q1_) g == (0:Int)) with h2 | h2
    · exact ff (by ((try dsimp only [q1_, q2_] at *); first | (simp at *; omega) | (simp_all; done)))
    ·
     rcases eb (decide (m = (1:Nat))) with h3 | h3
     · exact ff (by ((try dsimp only [q1_, q2_] at *); first | (simp at *; omega) | (simp_all; done)))
     ·
      rcases eb (!n2 q2_ (zL q1_) g == (-1:Int)) with h4 | h4
      · exact ff (by ((try dsimp only [q1_, q2_] at *); first | (simp at *; omega) | (simp_all; done)))
      ·
       rcases eb (!c2 q2_ (zL q1_) g == (0:Int)) with h5 | h5
       · exact ff (by ((try dsimp only [q1_, q2_] at *); first | (simp at *; omega) | (simp_all; done)))
       ·
        refine vcIntro (hx2 6 0) (an (an (an (show m * (4:Nat) ≤ m * (4:Nat) by (try dsimp only [q1_, q2_] at *); simp) (show m.succ ≤ (9223372036854775808:Nat) by (try dsimp only [q1_, q2_] at *); omega)) (u6 h5 h4 h3 h2 h1 h0)) (an (an (ri e) (an tt (an tt (an tt tt)))) (an (zo (pZf4_1 z)) (an (zo (an (ri c) (an (ri n) (an (ri d) (ri k))))) (an (zo (pZf4_2 w)) (an (zo (an (show c = c1 q2_ (zL q1_) g by (try dsimp only [q1_, q2_] at *); omega) (an (show n = m1 q2_ (zL q1_) g by (try dsimp only [q1_, q2_] at *); omega) (an (show d = c2 q2_ (zL q1_) g by (try dsimp only [q1_, q2_] at *); omega) (show k = m2 q2_ (zL q1_) g by (try dsimp only [q1_, q2_] at *); omega))))) (an (zo (an tt (an tt (an tt (an tt (an tt (an tt (an tt (an tt (an tt (an tt (an tt (an tt (an tt (an tt (an tt (an tt (an tt (an tt (an tt (an tt (an tt (an tt (an tt (an tt (an tt (an tt (an tt (an tt (an tt (an tt (an tt (an tt (an tt (an (show w 16 = z2 q2_ (zL q1_) g 16 by (try dsimp only [q1_, q2_] at *); rw [hw]) (an (show w 17 = z2 q2_ (zL q1_) g 17 by (try dsimp only [q1_, q2_] at *); rw [hw]) (an (show w 18 = z2 q2_ (zL q1_) g 18 by (try dsimp only [q1_, q2_] at *); rw [hw]) (an (show w 19 = z2 q2_ (zL q1_) g 19 by (try dsimp only [q1_, q2_] at *); rw [hw]) (an (show w 20 = z2 q2_ (zL q1_) g 20 by (try dsimp only [q1_, q2_] at *); rw [hw]) (an (show w 21 = z2 q2_ (zL q1_) g 21 by (try dsimp only [q1_, q2_] at *); rw [hw]) (an (show w 22 = z2 q2_ (zL q1_) g 22 by (try dsimp only [q1_, q2_] at *); rw [hw]) (an (show w 23 = z2 q2_ (zL q1_) g 23 by (try dsimp only [q1_, q2_] at *); rw [hw]) (an (show w 24 = z2 q2_ (zL q1_) g 24 by (try dsimp only [q1_, q2_] at *); rw [hw]) (an (show w 25 = z2 q2_ (zL q1_) g 25 by (try dsimp only [q1_, q2_] at *); rw [hw]) (an (show w 26 = z2 q2_ (zL q1_) g 26 by (try dsimp only [q1_, q2_] at *); rw [hw]) (an (show w 27 = z2 q2_ (zL q1_) g 27 by (try dsimp only [q1_, q2_] at *); rw [hw]) (an (show w 28 = z2 q2_ (zL q1_) g 28 by (try dsimp only [q1_, q2_] at *); rw [hw]) (an (show w 29 = z2 q2_ (zL q1_) g 29 by (try dsimp only [q1_, q2_] at *); rw [hw]) (an (show w 30 = z2 q2_ (zL q1_) g 30 by (try dsimp only [q1_, q2_] at *); rw [hw]) (an (show w 31 = z2 q2_ (zL q1_) g 31 by (try dsimp only [q1_, q2_] at *); rw [hw]) (an tt (an tt tt)))))))))))))))))))))))))))))))))))))))))))))))))))) tt))))))) ?_
        kernel_rfl
end
end Go.Ideal.Zf

namespace Go.Ideal.Zf
section
open Go.Proofs Go.Ideal Go.Ideal.L1 Go.Ideal.K6 Go.Ideal.Bd
set_option linter.unusedSimpArgs false
set_option linter.unusedVariables false
set_option maxRecDepth 100000
set_option maxHeartbeats 80000000

theorem be_1 (e:Int) (z w : Nat → Int) (c n:Int) (hw0 : e % 16 = 0 → w 16 = z 16) (hw1 : e % 16 = 1 → w 17 = z 17) (hw2 : e % 16 = 2 → w 18 = z 18) (hw3 : e % 16 = 3 → w 19 = z 19) (hw4 : e % 16 = 4 → w 20 = z 20) (hw5 : e % 16 = 5 → w 21 = z 21) (hw6 : e % 16 = 6 → w 22 = z 22) (hw7 : e % 16 = 7 → w 23 = z 23) (hw8 : e % 16 = 8 → w 24 = z 24) (hw9 : e % 16 = 9 → w 25 = z 25) (hw10 : e % 16 = 10 → w 26 = z 26) (hw11 : e % 16 = 11 → w 27 = z 27) (hw12 : e % 16 = 12 → w 28 = z 28) (hw13 : e % 16 = 13 → w 29 = z 29) (hw14 : e % 16 = 14 → w 30 = z 30) (hw15 : e % 16 = 15 → w 31 = z 31) : ∃ hh, vcOf (runEnd Try.prog dosF noL 6000 12 [1, 1, 1, 1, 1, 1, 1, 1, 1, 1, 1, 1, 1, 0] (Tr.ofPairs (yT e)) (Hm (yB z w 1 (an1 c n)) 11) hh) (fun v _ => isT v) := by

  rcases eb (!(c == c && n == n)) with h0 | h0
  · exact ff (by simp at *)
  ·
   rcases eb (w 16 == w 16 && (w 17 == w 17 && (w 18 == w 18 && (w 19 == w 19 && (w 20 == w 20 && (w 21 == w 21 && (w 22 == w 22 && (w 23 == w 23 && (w 24 == w 24 && (w 25 == w 25 && (w 26 == w 26 && (w 27 == w 27 && (w 28 == w 28 && (w 29 == w 29 && (w 30 == w 30 && w 31 == w 31))))))))))))))) with h1 | h1
   ·
    rcases eb (decide (e % (16:Int) = (0:Int))) with h2 | h2
    ·
     refine vcIntro (hx2 4 14) (an (u4 h2 h2 h1 h0) (show (w 16 == z 16) = true by simp at *; simp [*])) ?_
     kernel_rfl
    ·
     rcases eb (decide (e % (16:Int) = (1:Int))) with h3 | h3
     ·
      refine vcIntro (hx2 6 42) (an (u6 h3 h2 h3 h2 h1 h0) (show (w 17 == z 17) = true by simp at *; simp [*])) ?_
      kernel_rfl
     ·
      rcases eb (decide (e % (16:Int) = (2:Int))) with h4 | h4
      ·
       refine vcIntro (hx2 8 146) (an (u8 h4 h3 h2 h4 h3 h2 h1 h0) (show (w 18 == z 18) = true by simp at *; simp [*])) ?_
       kernel_rfl
      ·
       rcases eb (decide (e % (16:Int) = (3:Int))) with h5 | h5
       ·
        refine vcIntro (hx2 10 546) (an (u10 h5 h4 h3 h2 h5 h4 h3 h2 h1 h0) (show (w 19 == z 19) = true by simp at *; simp [*])) ?_
        kernel_rfl
       ·
        rcases eb (decide (e % (16:Int) = (4:Int))) with h6 | h6
        ·
         refine vcIntro (hx2 12 2114) (an (u12 h6 h5 h4 h3 h2 h6 h5 h4 h3 h2 h1 h0) (show (w 20 == z 20) = true by simp at *; simp [*])) ?_
         kernel_rfl
        ·
         rcases eb (decide (e % (16:Int) = (5:Int))) with h7 | h7
         ·
          refine vcIntro (hx2 14 8322) (an (u14 h7 h6 h5 h4 h3 h2 h7 h6 h5 h4 h3 h2 h1 h0) (show (w 21 == z 21) = true by simp at *; simp [*])) ?_
          kernel_rfl
         ·
          rcases eb (decide (e % (16:Int) = (6:Int))) with h8 | h8
          ·
           refine vcIntro (hx2 16 33026) (an (u16 h8 h7 h6 h5 h4 h3 h2 h8 h7 h6 h5 h4 h3 h2 h1 h0) (show (w 22 == z 22) = true by simp at *; simp [*])) ?_
           kernel_rfl
          ·
           rcases eb (decide (e % (16:Int) = (7:Int))) with h9 | h9
           ·
            refine vcIntro (hx2 18 131586) (an (u18 h9 h8 h7 h6 h5 h4 h3 h2 h9 h8 h7 h6 h5 h4 h3 h2 h1 h0) (show (w 23 == z 23) = true by simp at *; omega)) ?_
            kernel_rfl
           ·
            rcases eb (decide (e % (16:Int) = (8:Int))) with h10 | h10
            ·
             refine vcIntro (hx2 20 525314) (an (u20 h10 h9 h8 h7 h6 h5 h4 h3 h2 h10 h9 h8 h7 h6 h5 h4 h3 h2 h1 h0) (show (w 24 == z 24) = true by simp at *; omega)) ?_
             kernel_rfl
            ·
             rcases eb (decide (e % (16:Int) = (9:Int))) with h11 | h11
             ·
              refine vcIntro (hx2 22 2099202) (an (u22 h11 h10 h9 h8 h7 h6 h5 h4 h3 h2 h11 h10 h9 h8 h7 h6 h5 h4 h3 h2 h1 h0) (show (w 25 == z 25) = true by simp at *; omega)) ?_
              kernel_rfl
             ·
              rcases eb (decide (e % (16:Int) = (10:Int))) with h12 | h12
              ·
               refine vcIntro (hx2 24 8392706) (an (u24 h12 h11 h10 h9 h8 h7 h6 h5 h4 h3 h2 h12 h11 h10 h9 h8 h7 h6 h5 h4 h3 h2 h1 h0) (show (w 26 == z 26) = true by simp at *; omega)) ?_
               kernel_rfl
              ·
               rcases eb (decide (e % (16:Int) = (11:Int))) with h13 | h13
               ·
                refine vcIntro (hx2 26 33562626) (an (u26 h13 h12 h11 h10 h9 h8 h7 h6 h5 h4 h3 h2 h13 h12 h11 h10 h9 h8 h7 h6 h5 h4 h3 h2 h1 h0) (show (w 27 == z 27) = true by simp at *; omega)) ?_
                kernel_rfl
               ·
                rcases eb (decide (e % (16:Int) = (12:Int))) with h14 | h14
                ·
                 refine vcIntro (hx2 28 134234114) (an (u28 h14 h13 h12 h11 h10 h9 h8 h7 h6 h5 h4 h3 h2 h14 h13 h12 h11 h10 h9 h8 h7 h6 h5 h4 h3 h2 h1 h0) (show (w 28 == z 28) = true by simp at *; omega)) ?_
                 kernel_rfl
                ·
                 rcases eb (decide (e % (16:Int) = (13:Int))) with h15 | h15
                 ·
                  refine vcIntro (hx2 30 536903682) (an (u30 h15 h14 h13 h12 h11 h10 h9 h8 h7 h6 h5 h4 h3 h2 h15 h14 h13 h12 h11 h10 h9 h8 h7 h6 h5 h4 h3 h2 h1 h0) (show (w 29 == z 29) = true by simp at *; omega)) ?_
                  kernel_rfl
                 ·
                  rcases eb (decide (e % (16:Int) = (14:Int))) with h16 | h16
                  ·
                   refine vcIntro (hx2 32 2147549186) (an (an h16 (an h15 (an h14 (an h13 (an h12 (an h11 (an h10 (an h9 (an h8 (an h7 (an h6 (an h5 (an h4 (an h3 (an h2 (an h16 (an h15 (an h14 (an h13 (an h12 (an h11 (an h10 (an h9 (an h8 (an h7 (an h6 (an h5 (an h4 (an h3 (an h2 (an h1 (an h0 tt)))))))))))))))))))))))))))))))) (show (w 30 == z 30) = true by simp at *; omega)) ?_
                   kernel_rfl
                  ·
                   rcases eb (decide (e % (16:Int) = (15:Int))) with h17 | h17
                   ·
                    refine vcIntro (hx2 34 8590065666) (an (an h17 (an h16 (an h15 (an h14 (an h13 (an h12 (an h11 (an h10 (an h9 (an h8 (an h7 (an h6 (an h5 (an h4 (an h3 (an h2 (an h17 (an h16 (an h15 (an h14 (an h13 (an h12 (an h11 (an h10 (an h9 (an h8 (an h7 (an h6 (an h5 (an h4 (an h3 (an h2 (an h1 (an h0 tt)))))))))))))))))))))))))))))))))) (show (w 31 == z 31) = true by simp at *; omega)) ?_
                    kernel_rfl
                   · exact ff (by simp at *; omega)
   · exact ff (by simp at *)
theorem be_2 (e:Int) (z w : Nat → Int) (c n d k:Int) (hw0 : e % 16 = 0 → w 16 = z 16) (hw1 : e % 16 = 1 → w 17 = z 17) (hw2 : e % 16 = 2 → w 18 = z 18) (hw3 : e % 16 = 3 → w 19 = z 19) (hw4 : e % 16 = 4 → w 20 = z 20) (hw5 : e % 16 = 5 → w 21 = z 21) (hw6 : e % 16 = 6 → w 22 = z 22) (hw7 : e % 16 = 7 → w 23 = z 23) (hw8 : e % 16 = 8 → w 24 = z 24) (hw9 : e % 16 = 9 → w 25 = z 25) (hw10 : e % 16 = 10 → w 26 = z 26) (hw11 : e % 16 = 11 → w 27 = z 27) (hw12 : e % 16 = 12 → w 28 = z 28) (hw13 : e % 16 = 13 → w 29 = z 29) (hw14 : e % 16 = 14 → w 30 = z 30) (hw15 : e % 16 = 15 → w 31 = z 31) : ∃ hh, vcOf (runEnd Try.prog dosF noL 6000 12 [1, 1, 1, 1, 1, 1, 1, 1, 1, 1, 1, 1, 1, 0] (Tr.ofPairs (yT e)) (Hm (yB z w 2 (an2 c n d k)) 11) hh) (fun v _ => isT v) := by

  rcases eb (!(c == c && n == n)) with h0 | h0
  · exact ff (by simp at *)
  ·
   rcases eb (!(d == d && k == k)) with h1 | h1
   · exact ff (by simp at *)
   ·
    rcases eb (w 16 == w 16 && (w 17 == w 17 && (w 18 == w 18 && (w 19 == w 19 && (w 20 == w 20 && (w 21 == w 21 && (w 22 == w 22 && (w 23 == w 23 && (w 24 == w 24 && (w 25 == w 25 && (w 26 == w 26 && (w 27 == w 27 && (w 28 == w 28 && (w 29 == w 29 && (w 30 == w 30 && w 31 == w 31))))))))))))))) with h2 | h2
    ·
     rcases eb (decide (e % (16:Int) = (0:Int))) with h3 | h3
     ·
      refine vcIntro (hx2 5 28) (an (u5 h3 h3 h2 h1 h0) (show (w 16 == z 16) = true by simp at *; simp [*])) ?_
      kernel_rfl
     ·
      rcases eb (decide (e % (16:Int) = (1:Int))) with h4 | h4
      ·
       refine vcIntro (hx2 7 84) (an (u7 h4 h3 h4 h3 h2 h1 h0) (show (w 17 == z 17) = true by simp at *; simp [*])) ?_
       kernel_rfl
      ·
       rcases eb (decide (e % (16:Int) = (2:Int))) with h5 | h5
       ·
        refine vcIntro (hx2 9 292) (an (u9 h5 h4 h3 h5 h4 h3 h2 h1 h0) (show (w 18 == z 18) = true by simp at *; simp [*])) ?_
        kernel_rfl
       ·
        rcases eb (decide (e % (16:Int) = (3:Int))) with h6 | h6
        ·
         refine vcIntro (hx2 11 1092) (an (u11 h6 h5 h4 h3 h6 h5 h4 h3 h2 h1 h0) (show (w 19 == z 19) = true by simp at *; simp [*])) ?_
         kernel_rfl
        ·
         rcases eb (decide (e % (16:Int) = (4:Int))) with h7 | h7
         ·
          refine vcIntro (hx2 13 4228) (an (u13 h7 h6 h5 h4 h3 h7 h6 h5 h4 h3 h2 h1 h0) (show (w 20 == z 20) = true by simp at *; simp [*])) ?_
          kernel_rfl
         ·
          rcases eb (decide (e % (16:Int) = (5:Int))) with h8 | h8
          ·
           refine vcIntro (hx2 15 16644) (an (u15 h8 h7 h6 h5 h4 h3 h8 h7 h6 h5 h4 h3 h2 h1 h0) (show (w 21 == z 21) = true by simp at *; simp [*])) ?_
           kernel_rfl
          ·
           rcases eb (decide (e % (16:Int) = (6:Int))) with h9 | h9
           ·
            refine vcIntro (hx2 17 66052) (an (u17 h9 h8 h7 h6 h5 h4 h3 h9 h8 h7 h6 h5 h4 h3 h2 h1 h0) (show (w 22 == z 22) = true by simp at *; simp [*])) ?_
            kernel_rfl
           ·
            rcases eb (decide (e % (16:Int) = (7:Int))) with h10 | h10
            ·
             refine vcIntro (hx2 19 263172) (an (u19 h10 h9 h8 h7 h6 h5 h4 h3 h10 h9 h8 h7 h6 h5 h4 h3 h2 h1 h0) (show (w 23 == z 23) = true by simp at *; omega)) ?_
             kernel_rfl
            ·
             rcases eb (decide (e % (16:Int) = (8:Int))) with h11 | h11
             ·
              refine vcIntro (hx2 21 1050628) (an (u21 h11 h10 h9 h8 h7 h6 h5 h4 h3 h11 h10 h9 h8 h7 h6 h5 h4 h3 h2 h1 h0) (show (w 24 == z 24) = true by simp at *; omega)) ?_
              kernel_rfl
             ·
              rcases eb (decide (e % (16:Int) = (9:Int))) with h12 | h12
              ·
               refine vcIntro (hx2 23 4198404) (an (u23 h12 h11 h10 h9 h8 h7 h6 h5 h4 h3 h12 h11 h10 h9 h8 h7 h6 h5 h4 h3 h2 h1 h0) (show (w 25 == z 25) = true by simp at *; omega)) ?_
               kernel_rfl
              ·
               rcases eb (decide (e % (16:Int) = (10:Int))) with h13 | h13
               ·
                refine vcIntro (hx2 25 16785412) (an (u25 h13 h12 h11 h10 h9 h8 h7 h6 h5 h4 h3 h13 h12 h11 h10 h9 h8 h7 h6 h5 h4 h3 h2 h1 h0) (show (w 26 == z 26) = true by simp at *; omega)) ?_
                kernel_rfl
               ·
                rcases eb (decide (e % (16:Int) = (11:Int))) with h14 | h14
                ·
                 refine vcIntro (hx2 27 67125252) (an (u27 h14 h13 h12 h11 h10 h9 h8 h7 h6 h5 h4 h3 h14 h13 h12 h11 h10 h9 h8 h7 h6 h5 h4 h3 h2 h1 h0) (show (w 27 == z 27) = true by simp at *; omega)) ?_
                 kernel_rfl
                ·
                 rcases eb (decide (e % (16:Int) = (12:Int))) with h15 | h15
                 ·
                  refine vcIntro (hx2 29 268468228) (an (u29 h15 h14 h13 h12 h11 h10 h9 h8 h7 h6 h5 h4 h3 h15 h14 h13 h12 h11 h10 h9 h8 h7 h6 h5 h4 h3 h2 h1 h0) (show (w 28 == z 28) = true by simp at *; omega)) ?_
                  kernel_rfl
                 ·
                  rcases eb (decide (e % (16:Int) = (13:Int))) with h16 | h16
                  ·
                   refine vcIntro (hx2 31 1073807364) (an (an h16 (an h15 (an h14 (an h13 (an h12 (an h11 (an h10 (an h9 (an h8 (an h7 (an h6 (an h5 (an h4 (an h3 (an h16 (an h15 (an h14 (an h13 (an h12 (an h11 (an h10 (an h9 (an h8 (an h7 (an h6 (an h5 (an h4 (an h3 (an h2 (an h1 (an h0 tt))))))))))))))))))))))))))))))) (show (w 29 == z 29) = true by simp at *; omega)) ?_
                   kernel_rfl
                  ·
                   rcases eb (decide (e % (16:Int) = (14:Int))) with h17 | h17
                   ·
                    refine vcIntro (hx2 33 4295098372) (an (an h17 (an h16 (an h15 (an h14 (an h13 (an h12 (an h11 (an h10 (an h9 (an h8 (an h7 (an h6 (an h5 (an h4 (an h3 (an h17 (an h16 (an h15 (an h14 (an h13 (an h12 (an h11 (an h10 (an h9 (an h8 (an h7 (an h6 (an h5 (an h4 (an h3 (an h2 (an h1 (an h0 tt))))))))))))))))))))))))))))))))) (show (w 30 == z 30) = true by simp at *; omega)) ?_
                    kernel_rfl
                   ·
                    rcases eb (decide (e % (16:Int) = (15:Int))) with h18 | h18
                    ·
                     refine vcIntro (hx2 35 17180131332) (an (an h18 (an h17 (an h16 (an h15 (an h14 (an h13 (an h12 (an h11 (an h10 (an h9 (an h8 (an h7 (an h6 (an h5 (an h4 (an h3 (an h18 (an h17 (an h16 (an h15 (an h14 (an h13 (an h12 (an h11 (an h10 (an h9 (an h8 (an h7 (an h6 (an h5 (an h4 (an h3 (an h2 (an h1 (an h0 tt))))))))))))))))))))))))))))))))))) (show (w 31 == z 31) = true by simp at *; omega)) ?_
                     kernel_rfl
                    · exact ff (by simp at *; omega)
    · exact ff (by simp at *)
end
end Go.Ideal.Zf

namespace Go.Ideal.Zf
section
open Go.Proofs Go.Ideal Go.Ideal.L1 Go.Ideal.K6 Go.Ideal.Bd
set_option linter.unusedSimpArgs false
set_option linter.unusedVariables false
set_option maxRecDepth 100000
set_option maxHeartbeats 8000000

theorem fl_tr : Fl Y1.trL := fun c hc => by
  obtain ⟨j, rfl⟩ : ∃ j : Nat, c = (j : Int) := ⟨c.toNat, by omega⟩
  exact Y1.kn_tr j (by omega)
theorem n1_full {z g : Nat → Int} (ho : B1.opMay (g 0) (g 1) (g 2) (g 3) = true) : n1 (fL Y1.trL) z g = -1 := by
  unfold n1
  split
  · exact Y1.bkD_full _ _ _
  · next hk => exact Y1.skN_full ((may_k ho).2 hk)
theorem kn_bl (b : Nat → Bool) (j : Nat) (hj : j < 16) : kn (bl b) (j : Int) = b j := Y1.all16 (P := fun j => kn (bl b) (j : Int) = b j) rfl rfl rfl rfl rfl rfl rfl rfl rfl rfl rfl rfl rfl rfl rfl rfl j hj
theorem sel_bl (b : Nat → Bool) (j : Nat) (hj : j < 4) : B1.sel (b 0) (b 1) (b 2) (b 3) (j : Int) = b j := by
  match j, hj with
  | 0, _ => rfl
  | 1, _ => rfl
  | 2, _ => rfl
  | 3, _ => rfl
  | j + 4, h => exact absurd h (by omega)
theorem nw_zl (z : Nat → Int) (j : Nat) (hj : j < 16) : nw (zl z) (j : Int) = z (j + 16) := Y1.all16 (P := fun j => nw (zl z) (j : Int) = z (j + 16)) rfl rfl rfl rfl rfl rfl rfl rfl rfl rfl rfl rfl rfl rfl rfl rfl j hj
/-- What is asked for was not known. -/
theorem n1_unk {b : Nat → Bool} {z g : Nat → Int} (ho : B1.opMay (g 0) (g 1) (g 2) (g 3) = true) (h : n1 b z g ≠ -1) : ∃ j : Nat, j < 16 ∧ n1 b z g = (j : Int) ∧ b j = false := by
  unfold n1 at h ⊢
  by_cases hk : g 0 ≤ 5
  · rw [if_pos hk] at h ⊢
    obtain ⟨⟨h1, h2⟩, h3⟩ := B1.bkD_ask ho hk h
    have h1 : 0 ≤ B1.bkD (bl b) (g 0) (g 1) (g 2) := h1
    obtain ⟨j, ej⟩ : ∃ j : Nat, B1.bkD (bl b) (g 0) (g 1) (g 2) = (j : Int) := ⟨(B1.bkD (bl b) (g 0) (g 1) (g 2)).toNat, by omega⟩
    have e : B1.bkD [b 0, b 1, b 2, b 3, b 4, b 5, b 6, b 7, b 8, b 9, b 10, b 11, b 12, b 13, b 14, b 15] (g 0) (g 1) (g 2) = (j : Int) := ej
    rw [e] at h2 h3
    exact ⟨j, by omega, ej, by rw [← sel_bl b j (by omega)]; exact h3⟩
  · rw [if_neg hk] at h ⊢
    obtain ⟨⟨h1, h2⟩, h3⟩ := skN_ask ((may_k ho).2 hk) h
    obtain ⟨j, ej⟩ : ∃ j : Nat, skN (bl b) (zl z) (g 0) (g 1) (g 2) (g 3) = (j : Int) := ⟨(skN (bl b) (zl z) (g 0) (g 1) (g 2) (g 3)).toNat, by omega⟩
    rw [ej] at h2 h3
    exact ⟨j, by omega, ej, by rw [← kn_bl b j (by omega)]; exact h3⟩
theorem n1_hid {e : Int} {z g : Nat → Int} (ho : B1.opMay (g 0) (g 1) (g 2) (g 3) = true) (h : n1 (fL (bl (hid e))) z g ≠ -1) : n1 (fL (bl (hid e))) z g = e % 16 := by
  obtain ⟨j, hj, h1, h2⟩ := n1_unk ho h
  have h3 : fL (bl (hid e)) j = hid e j := Y1.all16 (P := fun j => fL (bl (hid e)) j = hid e j) rfl rfl rfl rfl rfl rfl rfl rfl rfl rfl rfl rfl rfl rfl rfl rfl j hj
  rw [h3] at h2
  rw [h1]
  simp [hid] at h2
  exact h2.symm
/-- What needs nothing is answered as over a full view. -/
theorem n1_mn {b : Nat → Bool} {z g : Nat → Int} (ho : B1.opMay (g 0) (g 1) (g 2) (g 3) = true) (h : n1 b z g = -1) : c1 (fL Y1.trL) z g = c1 b z g ∧ m1 (fL Y1.trL) z g = m1 b z g ∧ z1 (fL Y1.trL) z g = z1 b z g := by
  by_cases hk : g 0 ≤ 5
  · refine ⟨?_, ?_, ?_⟩
    · unfold c1; rw [if_pos hk, if_pos hk]
    · unfold m1; rw [if_pos hk, if_pos hk]
    · funext j; unfold z1; rw [if_pos hk, if_pos hk]
  · unfold n1 at h
    rw [if_neg hk] at h
    obtain ⟨h1, h2, h3⟩ := sk_mn fl_tr ((may_k ho).2 hk) h
    have et : bl (fL Y1.trL) = Y1.trL := rfl
    refine ⟨?_, ?_, ?_⟩
    · unfold c1; rw [if_neg hk, if_neg hk, et]; exact h1
    · unfold m1; rw [if_neg hk, if_neg hk, et]; exact h2
    · funext j; unfold z1; rw [if_neg hk, if_neg hk]; unfold zk; rw [et]
      split
      · rfl
      · unfold skC; rw [h3]
/-- A cell that isn't known stays. -/
theorem z1_un {b : Nat → Bool} {z g : Nat → Int} (ho : B1.opMay (g 0) (g 1) (g 2) (g 3) = true) (h : n1 b z g = -1) (j : Nat) (hj : j < 16) (hb : b j = false) : z1 b z g (j + 16) = z (j + 16) := by
  unfold n1 at h
  unfold z1
  by_cases hk : g 0 ≤ 5
  · rw [if_pos hk] at h ⊢
    unfold zb
    rw [if_neg (by omega)]
    split
    · next h4 =>
      have h9 : 0 ≤ g 1 ∧ 0 ≤ g 2 := by simp [B1.opMay] at ho; omega
      have hs : B1.sel (b 0) (b 1) (b 2) (b 3) (j : Int) = false := by rw [sel_bl b j (by omega)]; exact hb
      have e : ((j + 16 - 16 : Nat) : Int) = (j : Int) := by omega
      rw [e, B1.bkNow_un h h9 hs]
      match j, (show j < 4 by omega) with
      | 0, _ => rfl
      | 1, _ => rfl
      | 2, _ => rfl
      | 3, _ => rfl
      | j + 4, h => exact absurd h (by omega)
    · rfl
  · rw [if_neg hk] at h ⊢
    unfold zk
    rw [if_neg (by omega)]
    have hA := (may_k ho).2 hk
    have hu := (skZ_ag (zs := zl z) (ws := zl z) rfl rfl hA (fun _ _ _ => rfl) h).2
    have e : ((j + 16 - 16 : Nat) : Int) = (j : Int) := by omega
    rw [e]
    unfold skC
    rw [hu j ⟨by omega, by omega⟩ (by rw [kn_bl b j hj]; exact hb), nw_zl z j hj]
end
end Go.Ideal.Zf

namespace Go.Ideal.Zf
section
open Go.Proofs Go.Ideal Go.Ideal.L1 Go.Ideal.K6 Go.Ideal.Bd
set_option linter.unusedSimpArgs false
set_option linter.unusedVariables false
set_option maxRecDepth 100000
set_option maxHeartbeats 8000000

abbrev LW : FuncId := 12
abbrev QF : Post := RetQ Try.prog LW (fun v _ => isT v)
def hL (h : Nat → Int) : List Int := [h 0, h 1, h 2, h 3, h 4, h 5, h 6, h 7, h 8, h 9, h 10, h 11, h 12, h 13, h 14, h 15, h 0, h 1, h 2, h 3, h 4, h 5, h 6, h 7, h 8, h 9, h 10, h 11, h 12, h 13, h 14, h 15]
theorem hz_L (h : Nat → Int) : zl (hz h) = hL h := rfl
theorem hL_may {h : Nat → Int} (hb : ∀ k, k < 16 → 0 ≤ h k ∧ h k < 8) : B1.allMay (hL h) = true := by
  have hv : ∀ j, j < 16 → B1.valMay (h j) = true := fun j hj => by have := hb j hj; simp [B1.valMay]; omega
  exact (Y1.pq_may h h).mpr fun j hj => ⟨hv j hj, hv j hj⟩
/-- The end: what was answered over a view of which one cell isn't known is alike. -/
theorem end_1 (e : Int) (z w : Nat → Int) (c n : Int) (hw : ∀ j : Nat, j < 16 → e % 16 = (j : Int) → w (j + 16) = z (j + 16)) : AtQ Try.prog LW [1, 1, 1, 1, 1, 1, 1, 1, 1, 1, 1, 1, 1, 0] (Tr.ofPairs (yT e)) (Hm (yB z w 1 (an1 c n)) 11) (After Try.prog LW [] [1, 1, 1, 1, 1, 1, 1, 1, 1, 1, 1, 1, 1, 0] QF) :=
  AtQ.fin dosF_ok noL_ok mixed (by kernel_rfl) (be_1 e z w c n (hw 0 (by decide)) (hw 1 (by decide)) (hw 2 (by decide)) (hw 3 (by decide)) (hw 4 (by decide)) (hw 5 (by decide)) (hw 6 (by decide)) (hw 7 (by decide)) (hw 8 (by decide)) (hw 9 (by decide)) (hw 10 (by decide)) (hw 11 (by decide)) (hw 12 (by decide)) (hw 13 (by decide)) (hw 14 (by decide)) (hw 15 (by decide)))
theorem end_2 (e : Int) (z w : Nat → Int) (c n d k : Int) (hw : ∀ j : Nat, j < 16 → e % 16 = (j : Int) → w (j + 16) = z (j + 16)) : AtQ Try.prog LW [1, 1, 1, 1, 1, 1, 1, 1, 1, 1, 1, 1, 1, 0] (Tr.ofPairs (yT e)) (Hm (yB z w 2 (an2 c n d k)) 11) (After Try.prog LW [] [1, 1, 1, 1, 1, 1, 1, 1, 1, 1, 1, 1, 1, 0] QF) :=
  AtQ.fin dosF_ok noL_ok mixed (by kernel_rfl) (be_2 e z w c n d k (hw 0 (by decide)) (hw 1 (by decide)) (hw 2 (by decide)) (hw 3 (by decide)) (hw 4 (by decide)) (hw 5 (by decide)) (hw 6 (by decide)) (hw 7 (by decide)) (hw 8 (by decide)) (hw 9 (by decide)) (hw 10 (by decide)) (hw 11 (by decide)) (hw 12 (by decide)) (hw 13 (by decide)) (hw 14 (by decide)) (hw 15 (by decide)))
theorem hid_un {e : Int} {j : Nat} (he : e % 16 = (j : Int)) : hid e j = false := by simp [hid, he]
theorem fl_hid (e : Int) (j : Nat) (hj : j < 16) : fL (bl (hid e)) j = hid e j := Y1.all16 (P := fun j => fL (bl (hid e)) j = hid e j) rfl rfl rfl rfl rfl rfl rfl rfl rfl rfl rfl rfl rfl rfl rfl rfl j hj
theorem zL_hz (h : Nat → Int) (j : Nat) (hj : j < 16) : zL (hL h) (j + 16) = hz h (j + 16) := Y1.all16 (P := fun j => zL (hL h) (j + 16) = hz h (j + 16)) rfl rfl rfl rfl rfl rfl rfl rfl rfl rfl rfl rfl rfl rfl rfl rfl j hj
theorem st_r1 (g : Nat → Int) (m : Nat) (e : Int) (h : Nat → Int) (hm9 : m < 9223372036854775808) (hv : B1.allMay (hL h) = true) (ho : B1.opsB g m = true) (o0 : B1.opMay (g 0) (g 1) (g 2) (g 3) = true) (hm : m = 1 ∨ m = 2) (hc : (c1 (fL Y1.trL) (zL (hL h)) g) ≠ 0) : AtQ Try.prog LW [1, 1, 1, 1, 1, 1, 1, 1, 1, 1] (Tr.ofPairs (xT m e)) (Hm (xB g m (hid e) (hz h) (hz h) 1 (an1 (c1 (fL Y1.trL) (zL (hL h)) g) (m1 (fL Y1.trL) (zL (hL h)) g))) 9) (After Try.prog LW [] [1, 1, 1, 1, 1, 1, 1, 1, 1, 1] QF) := by
  by_cases hn : n1 (fL (bl (hid e))) (zL (hL h)) g = -1
  · obtain ⟨h1, h2, h3⟩ := n1_mn o0 hn
    rw [h1] at hc ⊢
    rw [h2]
    exact AtQ.cutE dosF_ok noL_ok mixed (by kernel_rfl) (bt_r1 g m e (hz h) (hz h) (hid e) hm9 hv ho _ _ hn hc rfl rfl rfl) fun T1 H1 hw => AtQ.weak (weakP_ok hw) (end_1 e (hz h) (hz h) _ _ fun j _ _ => rfl)
  · exact AtQ.fin dosF_ok noL_ok mixed (by kernel_rfl) (bn_11 g m e (hz h) (hz h) (hid e) hm9 hv ho _ _ (n1_hid o0 hn))
theorem st_d1 (g : Nat → Int) (m : Nat) (e : Int) (h : Nat → Int) (hm9 : m < 9223372036854775808) (hv : B1.allMay (hL h) = true) (ho : B1.opsB g m = true) (o0 : B1.opMay (g 0) (g 1) (g 2) (g 3) = true) (hm : m = 1) (hc : (c1 (fL Y1.trL) (zL (hL h)) g) = 0) : AtQ Try.prog LW [1, 1, 1, 1, 1, 1, 1, 1, 1, 1] (Tr.ofPairs (xT m e)) (Hm (xB g m (hid e) (hz h) (z1 (fL Y1.trL) (zL (hL h)) g) 1 (an1 (c1 (fL Y1.trL) (zL (hL h)) g) (m1 (fL Y1.trL) (zL (hL h)) g))) 9) (After Try.prog LW [] [1, 1, 1, 1, 1, 1, 1, 1, 1, 1] QF) := by
  by_cases hn : n1 (fL (bl (hid e))) (zL (hL h)) g = -1
  · obtain ⟨h1, h2, h3⟩ := n1_mn o0 hn
    rw [h1] at hc ⊢
    rw [h2, h3]
    exact AtQ.cutE dosF_ok noL_ok mixed (by kernel_rfl) (bt_d1 g m e (hz h) _ (hid e) hm9 hv ho _ _ hm hn hc rfl rfl rfl) fun T1 H1 hw => AtQ.weak (weakP_ok hw) (end_1 e (hz h) _ _ _ fun j hj he => (z1_un o0 hn j hj ((fl_hid e j hj).trans (hid_un he))).trans (zL_hz h j hj))
  · exact AtQ.fin dosF_ok noL_ok mixed (by kernel_rfl) (bn_11 g m e (hz h) _ (hid e) hm9 hv ho _ _ (n1_hid o0 hn))
theorem st_r2 (g : Nat → Int) (m : Nat) (e : Int) (h : Nat → Int) (hm9 : m < 9223372036854775808) (hv : B1.allMay (hL h) = true) (ho : B1.opsB g m = true) (o0 : B1.opMay (g 0) (g 1) (g 2) (g 3) = true) (o1 : B1.opMay (g 4) (g 5) (g 6) (g 7) = true) (hm : m = 2) (hc : (c1 (fL Y1.trL) (zL (hL h)) g) = 0) (hd : (c2 (fL Y1.trL) (zL (hL h)) g) ≠ 0) : AtQ Try.prog LW [1, 1, 1, 1, 1, 1, 1, 1, 1, 1] (Tr.ofPairs (xT m e)) (Hm (xB g m (hid e) (hz h) (hz h) 2 (an2 (c1 (fL Y1.trL) (zL (hL h)) g) (m1 (fL Y1.trL) (zL (hL h)) g) (c2 (fL Y1.trL) (zL (hL h)) g) (m2 (fL Y1.trL) (zL (hL h)) g))) 9) (After Try.prog LW [] [1, 1, 1, 1, 1, 1, 1, 1, 1, 1] QF) := by
  by_cases hn : n1 (fL (bl (hid e))) (zL (hL h)) g = -1
  · obtain ⟨h1, h2, h3⟩ := n1_mn o0 hn
    unfold c2 m2  at *
    rw [h3] at hd ⊢
    rw [h1] at hc ⊢
    rw [h2]
    by_cases hn2 : n1 (fL (bl (hid e))) (z1 (fL (bl (hid e))) (zL (hL h)) g) (sh4 g) = -1
    · obtain ⟨k1, k2, k3⟩ := n1_mn (g := sh4 g) o1 hn2
      rw [k1] at hd ⊢
      rw [k2]
      exact AtQ.cutE dosF_ok noL_ok mixed (by kernel_rfl) (bt_r2 g m e (hz h) (hz h) (hid e) hm9 hv ho _ _ _ _ hm hn hc hn2 hd rfl rfl rfl rfl rfl) fun T1 H1 hw => AtQ.weak (weakP_ok hw) (end_2 e (hz h) (hz h) _ _ _ _ fun j _ _ => rfl)
    · exact AtQ.fin dosF_ok noL_ok mixed (by kernel_rfl) (bn_2 g m e (hz h) _ (hid e) hm9 hv ho _ _ _ _ hm hn hc (n1_hid (g := sh4 g) o1 hn2))
  · exact AtQ.fin dosF_ok noL_ok mixed (by kernel_rfl) (bn_12 g m e (hz h) _ (hid e) hm9 hv ho _ _ _ _ (n1_hid o0 hn))
theorem st_d2 (g : Nat → Int) (m : Nat) (e : Int) (h : Nat → Int) (hm9 : m < 9223372036854775808) (hv : B1.allMay (hL h) = true) (ho : B1.opsB g m = true) (o0 : B1.opMay (g 0) (g 1) (g 2) (g 3) = true) (o1 : B1.opMay (g 4) (g 5) (g 6) (g 7) = true) (hm : m = 2) (hc : (c1 (fL Y1.trL) (zL (hL h)) g) = 0) (hd : (c2 (fL Y1.trL) (zL (hL h)) g) = 0) : AtQ Try.prog LW [1, 1, 1, 1, 1, 1, 1, 1, 1, 1] (Tr.ofPairs (xT m e)) (Hm (xB g m (hid e) (hz h) (z2 (fL Y1.trL) (zL (hL h)) g) 2 (an2 (c1 (fL Y1.trL) (zL (hL h)) g) (m1 (fL Y1.trL) (zL (hL h)) g) (c2 (fL Y1.trL) (zL (hL h)) g) (m2 (fL Y1.trL) (zL (hL h)) g))) 9) (After Try.prog LW [] [1, 1, 1, 1, 1, 1, 1, 1, 1, 1] QF) := by
  by_cases hn : n1 (fL (bl (hid e))) (zL (hL h)) g = -1
  · obtain ⟨h1, h2, h3⟩ := n1_mn o0 hn
    unfold c2 m2 z2 at *
    rw [h3] at hd ⊢
    rw [h1] at hc ⊢
    rw [h2]
    by_cases hn2 : n1 (fL (bl (hid e))) (z1 (fL (bl (hid e))) (zL (hL h)) g) (sh4 g) = -1
    · obtain ⟨k1, k2, k3⟩ := n1_mn (g := sh4 g) o1 hn2
      rw [k1] at hd ⊢
      rw [k2, k3]
      exact AtQ.cutE dosF_ok noL_ok mixed (by kernel_rfl) (bt_d2 g m e (hz h) _ (hid e) hm9 hv ho _ _ _ _ hm hn hc hn2 hd rfl rfl rfl rfl rfl) fun T1 H1 hw => AtQ.weak (weakP_ok hw) (end_2 e (hz h) _ _ _ _ _ fun j hj he => (z1_un (g := sh4 g) o1 hn2 j hj ((fl_hid e j hj).trans (hid_un he))).trans ((z1_un o0 hn j hj ((fl_hid e j hj).trans (hid_un he))).trans (zL_hz h j hj)))
    · exact AtQ.fin dosF_ok noL_ok mixed (by kernel_rfl) (bn_2 g m e (hz h) _ (hid e) hm9 hv ho _ _ _ _ hm hn hc (n1_hid (g := sh4 g) o1 hn2))
  · exact AtQ.fin dosF_ok noL_ok mixed (by kernel_rfl) (bn_12 g m e (hz h) _ (hid e) hm9 hv ho _ _ _ _ (n1_hid o0 hn))
theorem st_1 (g : Nat → Int) (m : Nat) (e : Int) (h w : Nat → Int) (c n : Int) (hx : AtQ Try.prog LW [1, 1, 1, 1, 1, 1, 1, 1, 1, 1] (Tr.ofPairs (xT m e)) (Hm (xB g m (hid e) (hz h) w 1 (an1 c n)) 9) (After Try.prog LW [] [1, 1, 1, 1, 1, 1, 1, 1, 1, 1] QF)) : AtQ Try.prog LW [1, 1, 1, 1, 1, 1, 1, 1, 1] (Tr.ofPairs (xT m e)) (Hm (xB g m (fun _ => true) (hz h) w 1 (an1 c n)) 9) (After Try.prog LW [] [1, 1, 1, 1, 1, 1, 1, 1, 1] QF) :=
  AtQ.cutE dosF_ok noL_ok mixed (by kernel_rfl) (bs_1 g m e (hz h) w c n) fun T1 H1 hw => AtQ.weak (weakP_ok hw) hx
theorem st_2 (g : Nat → Int) (m : Nat) (e : Int) (h w : Nat → Int) (c n d k : Int) (hx : AtQ Try.prog LW [1, 1, 1, 1, 1, 1, 1, 1, 1, 1] (Tr.ofPairs (xT m e)) (Hm (xB g m (hid e) (hz h) w 2 (an2 c n d k)) 9) (After Try.prog LW [] [1, 1, 1, 1, 1, 1, 1, 1, 1, 1] QF)) : AtQ Try.prog LW [1, 1, 1, 1, 1, 1, 1, 1, 1] (Tr.ofPairs (xT m e)) (Hm (xB g m (fun _ => true) (hz h) w 2 (an2 c n d k)) 9) (After Try.prog LW [] [1, 1, 1, 1, 1, 1, 1, 1, 1] QF) :=
  AtQ.cutE dosF_ok noL_ok mixed (by kernel_rfl) (bs_2 g m e (hz h) w c n d k) fun T1 H1 hw => AtQ.weak (weakP_ok hw) hx
theorem bf_mid (g : Nat → Int) (m : Nat) (e : Int) (h : Nat → Int) (hm9 : m < 9223372036854775808) (hb : ∀ k, k < 16 → 0 ≤ h k ∧ h k < 8) : AtQ Try.prog LW [1, 1, 1, 1, 1] (Tr.ofPairs (wT m e)) (Hm (wB g m h) 6) (After Try.prog LW [] [1, 1, 1, 1, 1] QF) := by
  have hv := hL_may hb
  by_cases ho : B1.opsB g m = true
  · have o0 : B1.opMay (g 0) (g 1) (g 2) (g 3) = true := by
      rcases Y1.ops_of ho with ⟨_, o0⟩ | ⟨_, o0, _⟩ <;> exact o0
    have hm12 : m = 1 ∨ m = 2 := by
      rcases Y1.ops_of ho with ⟨h1, _⟩ | ⟨h1, _, _⟩
      · exact .inl h1
      · exact .inr h1
    have hn1 : n1 (fL Y1.trL) (zL (hL h)) g = -1 := n1_full o0
    by_cases hc1 : (c1 (fL Y1.trL) (zL (hL h)) g) = 0
    · by_cases hm1 : m = 1
      · exact AtQ.cutE dosF_ok noL_ok mixed (by kernel_rfl) (bf_d1 g m e h hm9 hv ho hm1 hn1 hc1) fun T1 H1 hw => AtQ.weak (weakP_ok hw) (st_1 g m e h _ _ _ (st_d1 g m e h hm9 hv ho o0 hm1 hc1))
      · have h2 : m = 2 ∧ B1.opMay (g 4) (g 5) (g 6) (g 7) = true := by
          rcases Y1.ops_of ho with ⟨h1, _⟩ | ⟨h1, _, h2⟩
          · exact absurd h1 hm1
          · exact ⟨h1, h2⟩
        obtain ⟨hm2, o1⟩ := h2
        have hn2 : n2 (fL Y1.trL) (zL (hL h)) g = -1 := n1_full (g := sh4 g) o1
        by_cases hc2 : (c2 (fL Y1.trL) (zL (hL h)) g) = 0
        · exact AtQ.cutE dosF_ok noL_ok mixed (by kernel_rfl) (bf_d2 g m e h hm9 hv ho hm2 hn1 hc1 hn2 hc2) fun T1 H1 hw => AtQ.weak (weakP_ok hw) (st_2 g m e h _ _ _ _ _ (st_d2 g m e h hm9 hv ho o0 o1 hm2 hc1 hc2))
        · exact AtQ.cutE dosF_ok noL_ok mixed (by kernel_rfl) (bf_r2 g m e h hm9 hv ho hm2 hn1 hc1 hn2 hc2) fun T1 H1 hw => AtQ.weak (weakP_ok hw) (st_2 g m e h _ _ _ _ _ (st_r2 g m e h hm9 hv ho o0 o1 hm2 hc1 hc2))
    · exact AtQ.cutE dosF_ok noL_ok mixed (by kernel_rfl) (bf_r1 g m e h hm9 hv ho hn1 hc1) fun T1 H1 hw => AtQ.weak (weakP_ok hw) (st_1 g m e h _ _ _ (st_r1 g m e h hm9 hv ho o0 hm12 hc1))
  · exact AtQ.fin dosF_ok noL_ok mixed (by kernel_rfl) (bf_bad g m e h hm9 hv (by simpa using ho))
theorem bf_end (f g : Nat → Int) (n m : Nat) (e : Int) (i : Nat) (h : Nat → Int) (hm9 : m < 9223372036854775808) (hb : ∀ k, k < 16 → 0 ≤ h k ∧ h k < 8) : After Try.prog LW [] [1, 1, 1, 0, 1, 0] QF (.exit 0) (Tr.ofPairs (fT n m e i)) (Hm (fB f g n m h) 3) :=
  After.cut dosF_ok noL_ok mixed (by kernel_rfl) (bf_full f g n m e i h (hb 0 (by decide)) (hb 1 (by decide)) (hb 2 (by decide)) (hb 3 (by decide)) (hb 4 (by decide)) (hb 5 (by decide)) (hb 6 (by decide)) (hb 7 (by decide)) (hb 8 (by decide)) (hb 9 (by decide)) (hb 10 (by decide)) (hb 11 (by decide)) (hb 12 (by decide)) (hb 13 (by decide)) (hb 14 (by decide)) (hb 15 (by decide))) fun T1 H1 hw => AtQ.weak (weakP_ok hw) (bf_mid g m e h hm9 hb)
theorem bodyFull_q (f : Nat → Int) (n : Nat) (_ : ∀ i, i < n * 1 → -9223372036854775808 ≤ f i ∧ f i ≤ 9223372036854775807) (hn : n ≤ maxLen) (g : Nat → Int) (m : Nat) (_ : ∀ i, i < m * 4 → -9223372036854775808 ≤ g i ∧ g i ≤ 9223372036854775807) (hm : m ≤ maxLen) (e : Int) (_ : -9223372036854775808 ≤ e ∧ e ≤ 9223372036854775807) :
    CallQ Try.prog LW [.slice 0 (.c 0) (.s n) 1 (.s n), .slice 1 (.c 0) (.s m) 4 (.s m), .int .i64 (.s e)] (Hx [.ext f (.s (n * 1)), .ext g (.s (m * 4))]) (fun v _ => isT v) := by
  have hn' : n ≤ 9223372036854775807 := hn
  have hm' : m ≤ 9223372036854775807 := hm
  have hl : isLoop Try.prog LW [1, 1, 1, 0, 1, 0] = true := by kernel_rfl
  refine CallQ.ofText (by kernel_rfl) (AtQ.go dosF_ok noL_ok mixed (by kernel_rfl) hl (bf_go f g n m e) fun T1 H1 hw => HeadQ.weak (weakP_ok hw) ?_)
  refine HeadQ.round1 dosF_ok mixed (fun b : Nat × (Nat → Int) => fT n m e b.1) (fun b => fB f g n m b.2) 3 [0, 1, 2] (fun b => n - b.1) (fun b => ∀ k, k < 16 → 0 ≤ b.2 k ∧ b.2 k < 8)
    (fun b => (b.1 + 1, fun k => if k = b.1 then f b.1 % 8 else b.2 k)) (fun b => b.1 < n ∧ b.1 < 16) 0 (fun b => fT n m e b.1) (fun b => fB f g n m b.2) (fun _ => True) (isLoop_prt hl).2.1 (fun b _ => bf_body f g n m e b.1 b.2 hn')
    (fun b hb hc => ⟨fun k hk => ?_, ?_⟩) (0, fun _ => 0) (fun k _ => by simp only; omega) _ (fun b hb _ => bf_end f g n m e b.1 b.2 (by omega) hb)
  · show 0 ≤ (if k = b.1 then f b.1 % 8 else b.2 k) ∧ (if k = b.1 then f b.1 % 8 else b.2 k) < 8
    split
    · omega
    · exact hb k hk
  · have h : b.1 < n ∧ b.1 < 16 := hc
    show n - (b.1 + 1) < n - b.1
    omega
end
end Go.Ideal.Zf
