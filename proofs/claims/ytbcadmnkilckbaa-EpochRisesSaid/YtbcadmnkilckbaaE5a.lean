/- Chapter 11: EpochRises, its states. Written by gen/rises.py. Own text. -/
import Derived.Test.YtbcadmnkilckbaaE0
import Derived.Test.YtbcadmnkilckbaaR12
namespace Go.Ideal.E5
open Go.Proofs Go.Ideal Go.Ideal.L1 Go.Ideal.E1
set_option linter.unusedSimpArgs false
set_option linter.unusedVariables false
set_option maxRecDepth 100000
set_option maxHeartbeats 80000000

def nrm (n0 : Nat) (l : List Nat) (ts : List (Nat × V)) (bs : List (Option Blk)) (n2 : Nat) : (Out × Tr V) → Hp → Prop := fun x H1 => match x.1 with
  | .norm => dwnP n0 l x.2 H1 ts bs n2
  | _ => False
def ext0 (n0 : Nat) (l : List Nat) (ts : List (Nat × V)) (bs : List (Option Blk)) (n2 : Nat) : (Out × Tr V) → Hp → Prop := fun x H1 => match x.1 with
  | .exit k => if Nat.beq k 0 then dwnP n0 l x.2 H1 ts bs n2 else False
  | _ => False
def rT (n : Nat) (e : Int) (i : Nat) : List (Nat × V) := [(0, .slice 0 (.c 0) (.s n) 1 (.s n)), (3, .ptr 1 (.c 0)), (5, .ptr 5 (.c 0)), (6, .int .i64 (.s e)), (7, .int .i64 (.s i))]
def rB (f : Nat → Int) (n : Nat) (W : Nat → Int) (ds : List V) (vs : List (Option Blk)) : List (Option Blk) := some (.ext f (.s (n * 1))) :: some (.own false 110 W 634 (List.replicate 9 .any)) :: none :: none :: none :: some (.own false 68 (fun _ => 0) 0 ds) :: vs
def adv (q E : Int) : Option Blk := some (.own false 119 (fun _ => 0) 0 [.int .i64 (.c 2), .int .i64 (.s q), .int .i64 (.s E), .bool (.c false), .bool (.c false)])
theorem er_go (f : Nat → Int) (n : Nat) : ∃ hh, vcOf (runGo Try.prog specs noL 6000 12 [] [1, 1, 1, 1, 1, 1, 0, 1, 0] (Tr.ofList [.slice 0 (.c 0) (.s n) 1 (.s n)]) (Hx [.ext f (.s (n * 1))]) hh)
    (reached fun T1 H1 => weakP T1 H1 (rT n 0 0) (rB f n A2.arena0 [.nilp, .nilp, .nilp] []) 6) := by

  refine vcIntro [] (an tt (an (an (an tt (an (@Eq.refl (Nat) n) (show n ≤ n by (simp; done)))) (an tt (an tt (an (ri ((0 : Int))) (an (ri ((0 : Int))) tt))))) (an (an (show n * (1 : Nat) ≤ n * (1 : Nat) by (simp; done)) (show ∀ (k : Nat), k < n * (1 : Nat) → f k = f k from fun _ _ => rfl)) (an (an (@Eq.refl (Nat) ((634 : Nat))) (an (show ∀ (k : Nat), k < (634 : Nat) → A2.arena0 k = A2.arena0 k from fun _ _ => rfl) (an tt (an tt (an tt (an tt (an tt (an tt (an tt (an tt tt)))))))))) (an (an (@Eq.refl (Nat) ((0 : Nat))) (an (show ∀ (k : Nat), k < (0 : Nat) → (0 : Int) = (0 : Int) from fun _ _ => rfl) (an tt (an tt tt)))) tt))))) ?_
  kernel_rfl
theorem er_x000 (f : Nat → Int) (n : Nat) (W : Nat → Int) (e : Int) (i : Nat)  (hi : ¬ (i < n ∧ i < 90)) : ∃ hh, vcOf (runAt Try.prog specs noL 6000 12 [1, 1, 1, 1, 1, 1, 0, 1, 0, 0] (Tr.ofPairs (rT n e i)) (Hm (rB f n W [.nilp, .nilp, .nilp] []) 6) hh)
    (ext0 6 [0, 1, 2, 3, 4, 5] [] [] 6) := by

  rcases Bool.eq_false_or_eq_true (decide ((↑i : Int) < (↑n : Int))) with h0 | h0
  ·
   rcases Bool.eq_false_or_eq_true (decide ((↑i : Int) < (90 : Int))) with h1 | h1
   · exact ff (by (simp at *; omega))
   ·
    refine vcIntro [true, false] (an (an h1 (an h0 tt)) (an tt tt)) ?_
    kernel_rfl
  ·
   refine vcIntro [false] (an (an h0 tt) (an tt tt)) ?_
   kernel_rfl
theorem er_x001 (f : Nat → Int) (n : Nat) (W : Nat → Int) (e : Int) (i : Nat) (q2 E2 : Int) (hi : ¬ (i < n ∧ i < 90)) : ∃ hh, vcOf (runAt Try.prog specs noL 6000 12 [1, 1, 1, 1, 1, 1, 0, 1, 0, 0] (Tr.ofPairs (rT n e i)) (Hm (rB f n W [.nilp, .nilp, .ptr 6 (.c 0)] [adv q2 E2]) 7) hh)
    (ext0 6 [0, 1, 2, 3, 4, 5] [] [] 6) := by

  rcases Bool.eq_false_or_eq_true (decide ((↑i : Int) < (↑n : Int))) with h0 | h0
  ·
   rcases Bool.eq_false_or_eq_true (decide ((↑i : Int) < (90 : Int))) with h1 | h1
   · exact ff (by (simp at *; omega))
   ·
    refine vcIntro [true, false] (an (an h1 (an h0 tt)) (an tt tt)) ?_
    kernel_rfl
  ·
   refine vcIntro [false] (an (an h0 tt) (an tt tt)) ?_
   kernel_rfl
theorem er_x010 (f : Nat → Int) (n : Nat) (W : Nat → Int) (e : Int) (i : Nat) (q1 E1 : Int) (hi : ¬ (i < n ∧ i < 90)) : ∃ hh, vcOf (runAt Try.prog specs noL 6000 12 [1, 1, 1, 1, 1, 1, 0, 1, 0, 0] (Tr.ofPairs (rT n e i)) (Hm (rB f n W [.nilp, .ptr 6 (.c 0), .nilp] [adv q1 E1]) 7) hh)
    (ext0 6 [0, 1, 2, 3, 4, 5] [] [] 6) := by

  rcases Bool.eq_false_or_eq_true (decide ((↑i : Int) < (↑n : Int))) with h0 | h0
  ·
   rcases Bool.eq_false_or_eq_true (decide ((↑i : Int) < (90 : Int))) with h1 | h1
   · exact ff (by (simp at *; omega))
   ·
    refine vcIntro [true, false] (an (an h1 (an h0 tt)) (an tt tt)) ?_
    kernel_rfl
  ·
   refine vcIntro [false] (an (an h0 tt) (an tt tt)) ?_
   kernel_rfl
theorem er_x011 (f : Nat → Int) (n : Nat) (W : Nat → Int) (e : Int) (i : Nat) (q1 E1 : Int) (q2 E2 : Int) (hi : ¬ (i < n ∧ i < 90)) : ∃ hh, vcOf (runAt Try.prog specs noL 6000 12 [1, 1, 1, 1, 1, 1, 0, 1, 0, 0] (Tr.ofPairs (rT n e i)) (Hm (rB f n W [.nilp, .ptr 6 (.c 0), .ptr 7 (.c 0)] [adv q1 E1, adv q2 E2]) 8) hh)
    (ext0 6 [0, 1, 2, 3, 4, 5] [] [] 6) := by

  rcases Bool.eq_false_or_eq_true (decide ((↑i : Int) < (↑n : Int))) with h0 | h0
  ·
   rcases Bool.eq_false_or_eq_true (decide ((↑i : Int) < (90 : Int))) with h1 | h1
   · exact ff (by (simp at *; omega))
   ·
    refine vcIntro [true, false] (an (an h1 (an h0 tt)) (an tt tt)) ?_
    kernel_rfl
  ·
   refine vcIntro [false] (an (an h0 tt) (an tt tt)) ?_
   kernel_rfl
theorem er_x100 (f : Nat → Int) (n : Nat) (W : Nat → Int) (e : Int) (i : Nat) (q0 E0 : Int) (hi : ¬ (i < n ∧ i < 90)) : ∃ hh, vcOf (runAt Try.prog specs noL 6000 12 [1, 1, 1, 1, 1, 1, 0, 1, 0, 0] (Tr.ofPairs (rT n e i)) (Hm (rB f n W [.ptr 6 (.c 0), .nilp, .nilp] [adv q0 E0]) 7) hh)
    (ext0 6 [0, 1, 2, 3, 4, 5] [] [] 6) := by

  rcases Bool.eq_false_or_eq_true (decide ((↑i : Int) < (↑n : Int))) with h0 | h0
  ·
   rcases Bool.eq_false_or_eq_true (decide ((↑i : Int) < (90 : Int))) with h1 | h1
   · exact ff (by (simp at *; omega))
   ·
    refine vcIntro [true, false] (an (an h1 (an h0 tt)) (an tt tt)) ?_
    kernel_rfl
  ·
   refine vcIntro [false] (an (an h0 tt) (an tt tt)) ?_
   kernel_rfl
theorem er_x101 (f : Nat → Int) (n : Nat) (W : Nat → Int) (e : Int) (i : Nat) (q0 E0 : Int) (q2 E2 : Int) (hi : ¬ (i < n ∧ i < 90)) : ∃ hh, vcOf (runAt Try.prog specs noL 6000 12 [1, 1, 1, 1, 1, 1, 0, 1, 0, 0] (Tr.ofPairs (rT n e i)) (Hm (rB f n W [.ptr 6 (.c 0), .nilp, .ptr 7 (.c 0)] [adv q0 E0, adv q2 E2]) 8) hh)
    (ext0 6 [0, 1, 2, 3, 4, 5] [] [] 6) := by

  rcases Bool.eq_false_or_eq_true (decide ((↑i : Int) < (↑n : Int))) with h0 | h0
  ·
   rcases Bool.eq_false_or_eq_true (decide ((↑i : Int) < (90 : Int))) with h1 | h1
   · exact ff (by (simp at *; omega))
   ·
    refine vcIntro [true, false] (an (an h1 (an h0 tt)) (an tt tt)) ?_
    kernel_rfl
  ·
   refine vcIntro [false] (an (an h0 tt) (an tt tt)) ?_
   kernel_rfl
theorem er_x110 (f : Nat → Int) (n : Nat) (W : Nat → Int) (e : Int) (i : Nat) (q0 E0 : Int) (q1 E1 : Int) (hi : ¬ (i < n ∧ i < 90)) : ∃ hh, vcOf (runAt Try.prog specs noL 6000 12 [1, 1, 1, 1, 1, 1, 0, 1, 0, 0] (Tr.ofPairs (rT n e i)) (Hm (rB f n W [.ptr 6 (.c 0), .ptr 7 (.c 0), .nilp] [adv q0 E0, adv q1 E1]) 8) hh)
    (ext0 6 [0, 1, 2, 3, 4, 5] [] [] 6) := by

  rcases Bool.eq_false_or_eq_true (decide ((↑i : Int) < (↑n : Int))) with h0 | h0
  ·
   rcases Bool.eq_false_or_eq_true (decide ((↑i : Int) < (90 : Int))) with h1 | h1
   · exact ff (by (simp at *; omega))
   ·
    refine vcIntro [true, false] (an (an h1 (an h0 tt)) (an tt tt)) ?_
    kernel_rfl
  ·
   refine vcIntro [false] (an (an h0 tt) (an tt tt)) ?_
   kernel_rfl
theorem er_x111 (f : Nat → Int) (n : Nat) (W : Nat → Int) (e : Int) (i : Nat) (q0 E0 : Int) (q1 E1 : Int) (q2 E2 : Int) (hi : ¬ (i < n ∧ i < 90)) : ∃ hh, vcOf (runAt Try.prog specs noL 6000 12 [1, 1, 1, 1, 1, 1, 0, 1, 0, 0] (Tr.ofPairs (rT n e i)) (Hm (rB f n W [.ptr 6 (.c 0), .ptr 7 (.c 0), .ptr 8 (.c 0)] [adv q0 E0, adv q1 E1, adv q2 E2]) 9) hh)
    (ext0 6 [0, 1, 2, 3, 4, 5] [] [] 6) := by

  rcases Bool.eq_false_or_eq_true (decide ((↑i : Int) < (↑n : Int))) with h0 | h0
  ·
   rcases Bool.eq_false_or_eq_true (decide ((↑i : Int) < (90 : Int))) with h1 | h1
   · exact ff (by (simp at *; omega))
   ·
    refine vcIntro [true, false] (an (an h1 (an h0 tt)) (an tt tt)) ?_
    kernel_rfl
  ·
   refine vcIntro [false] (an (an h0 tt) (an tt tt)) ?_
   kernel_rfl
theorem er_end : ∃ hh, vcOf (runRet Try.prog specs noL 6000 12 [1, 1, 1, 1, 1, 1, 0, 1, 0] (.exit 0) (Tr.ofPairs []) (Hm [] 6) hh) (fun v _ => isT v) := by

  refine vcIntro [] (an tt tt) ?_
  kernel_rfl
end Go.Ideal.E5
