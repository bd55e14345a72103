/- Chapter 8: one operation upon the state of nothing: what comes of model.Do. Own text. -/
import Derived.Test.YtjnkpoehfjldnaaOM
import Derived.Test.YtjnkpoehfjldnaaR2
namespace Go.Ideal.M1
open Go.Proofs Go.Ideal Go.Ideal.L1
set_option linter.unusedSimpArgs false
set_option linter.unusedVariables false
set_option maxRecDepth 100000
set_option maxHeartbeats 80000000

def newL : List V := List.replicate 4 (.int .i64 (.c (-1))) ++ List.replicate 5 (.bool (.c false))
def opBk (e : TypeId) (k a b x : Int) : List (Option Blk) := [some (.own true e (fun _ => 0) 0 [.int .i64 (.s k), .int .i64 (.s a), .int .i64 (.s b), .int .i64 (.s x)])]
def badV : V := .tuple [.agg (List.replicate 4 (.int .i64 (.c 0)) ++ List.replicate 5 (.bool (.c false))), .nils, .int .i64 (.c 800)]
def stV (k a x : Int) : List V := [.int .i64 (.s (if k = 0 ∧ a = 0 then x else -1)), .int .i64 (.s (if k = 0 ∧ a = 1 then x else -1)), .int .i64 (.s (if k = 0 ∧ a = 2 then x else -1)), .int .i64 (.s (if k = 0 ∧ a = 3 then x else -1)),
  .bool (.s (decide (k = 6 ∧ a = 0))), .bool (.s (decide (k = 6 ∧ a = 1))), .bool (.s (decide (k = 6 ∧ a = 2))), .bool (.s (decide (k = 6 ∧ a = 3))), .bool (.s (decide (k = 6 ∧ a = 4)))]
def fineV (k a x : Int) : V := .tuple [.agg (stV k a x), .slice 1 (.c 0) (.c 1) 2 (.c 1), .int .i64 (.c 0)]
def midBlk : V → List Nat
  | .tuple [_, .slice b _ _ _ _, _] => [0, b]
  | _ => [0]

theorem ho {k a b x : Int} (h : OM.opMayL [k, a, b, x] = true) : 0 ≤ k ∧ k < 11 ∧ 0 ≤ a ∧ (k < 5 → a < 4) ∧ a < 5 ∧ (k = 5 → a = 0) ∧ (k = 9 → a = 0) ∧ 0 ≤ b ∧ b < 5 ∧ (k = 4 → b < 4) ∧ (k ≠ 4 → k ≠ 10 → b = 0) := by
  simp only [OM.opMayL, OM.opMay, Bool.and_eq_true, decide_eq_true_eq] at h
  (repeat' split at h) <;> omega
theorem new_bad (e : TypeId) (m : Nat) (k a b x : Int) (h : OM.opMayL [k, a, b, x] = false) : ∃ hh, vcOf (runCall Try.prog OM.opS noL 3000 14 [.agg newL, .slice 0 (.c 0) (.c 1) 4 (.s m)] (Hm (opBk e k a b x) 1) hh) (fun v H1 => retP 1 (midBlk v) v H1 badV [none] 1) := by

  rcases Bool.eq_false_or_eq_true (!OM.opMayL [k, a, b, x]) with h0 | h0
  ·
   refine vcIntro [true] (an (an h0 tt) (an (an (an tt (an tt (an tt (an tt (an tt (an tt (an tt (an tt tt)))))))) (an tt tt)) tt)) ?_
   kernel_rfl
  · exact ff (by (simp [h] at *; done))
theorem new_fine (e : TypeId) (m : Nat) (k a b x : Int) (h : OM.opMayL [k, a, b, x] = true) : ∃ hh, vcOf (runCall Try.prog OM.opS noL 3000 14 [.agg newL, .slice 0 (.c 0) (.c 1) 4 (.s m)] (Hm (opBk e k a b x) 1) hh) (fun v H1 => retP 1 (midBlk v) v H1 (fineV k a x) [none, none] 2) := by
  have hq := ho h

  rcases Bool.eq_false_or_eq_true (!OM.opMayL [k, a, b, x]) with h0 | h0
  · exact ff (by (simp [h] at *; done))
  ·
   rcases Bool.eq_false_or_eq_true (decide (k ≥ (0 : Int))) with h1 | h1
   ·
    rcases Bool.eq_false_or_eq_true (decide (k ≤ (5 : Int))) with h2 | h2
    ·
     rcases Bool.eq_false_or_eq_true (decide (a = (0 : Int))) with h3 | h3
     ·
      rcases Bool.eq_false_or_eq_true (decide (b = (0 : Int))) with h4 | h4
      ·
       rcases Bool.eq_false_or_eq_true (k == (0 : Int)) with h5 | h5
       ·
        refine vcIntro [false, true, true, true, true, true] (an (an h5 (an h4 (an h3 (an h2 (an h1 (an h0 tt)))))) (an (an (an (show (if k = (0 : Int) ∧ a = (0 : Int) then x else (-1 : Int)) = x by (simp at *; omega)) (an (show (if k = (0 : Int) ∧ a = (1 : Int) then x else (-1 : Int)) = (-1 : Int) by (simp at *; omega)) (an (show (if k = (0 : Int) ∧ a = (2 : Int) then x else (-1 : Int)) = (-1 : Int) by (simp at *; omega)) (an (show (if k = (0 : Int) ∧ a = (3 : Int) then x else (-1 : Int)) = (-1 : Int) by (simp at *; omega)) (an (show decide (k = (6 : Int) ∧ a = (0 : Int)) = false by (simp at *; omega)) (an (show decide (k = (6 : Int) ∧ a = (1 : Int)) = false by (simp at *; omega)) (an (show decide (k = (6 : Int) ∧ a = (2 : Int)) = false by (simp at *; omega)) (an (show decide (k = (6 : Int) ∧ a = (3 : Int)) = false by (simp at *; omega)) (show decide (k = (6 : Int) ∧ a = (4 : Int)) = false by (simp at *; omega)))))))))) (an (an tt (an tt tt)) tt)) tt)) ?_
        kernel_rfl
       ·
        rcases Bool.eq_false_or_eq_true (k == (3 : Int)) with h6 | h6
        ·
         rcases Bool.eq_false_or_eq_true (k == (5 : Int)) with h7 | h7
         · exact ff (by (simp at *; omega))
         ·
          refine vcIntro [false, true, true, true, true, false, true, false] (an (an h7 (an h6 (an h5 (an h4 (an h3 (an h2 (an h1 (an h0 tt)))))))) (an (an (an (show (if k = (0 : Int) ∧ a = (0 : Int) then x else (-1 : Int)) = (-1 : Int) by (simp at *; omega)) (an (show (if k = (0 : Int) ∧ a = (1 : Int) then x else (-1 : Int)) = (-1 : Int) by (simp at *; omega)) (an (show (if k = (0 : Int) ∧ a = (2 : Int) then x else (-1 : Int)) = (-1 : Int) by (simp at *; omega)) (an (show (if k = (0 : Int) ∧ a = (3 : Int) then x else (-1 : Int)) = (-1 : Int) by (simp at *; omega)) (an (show decide (k = (6 : Int) ∧ a = (0 : Int)) = false by (simp at *; omega)) (an (show decide (k = (6 : Int) ∧ a = (1 : Int)) = false by (simp at *; omega)) (an (show decide (k = (6 : Int) ∧ a = (2 : Int)) = false by (simp at *; omega)) (an (show decide (k = (6 : Int) ∧ a = (3 : Int)) = false by (simp at *; omega)) (show decide (k = (6 : Int) ∧ a = (4 : Int)) = false by (simp at *; omega)))))))))) (an (an tt (an tt tt)) tt)) tt)) ?_
          kernel_rfl
        ·
         rcases Bool.eq_false_or_eq_true (k == (5 : Int)) with h8 | h8
         ·
          refine vcIntro [false, true, true, true, true, false, false, true] (an (an h8 (an h6 (an h5 (an h4 (an h3 (an h2 (an h1 (an h0 tt)))))))) (an (an (an (show (if k = (0 : Int) ∧ a = (0 : Int) then x else (-1 : Int)) = (-1 : Int) by (simp at *; omega)) (an (show (if k = (0 : Int) ∧ a = (1 : Int) then x else (-1 : Int)) = (-1 : Int) by (simp at *; omega)) (an (show (if k = (0 : Int) ∧ a = (2 : Int) then x else (-1 : Int)) = (-1 : Int) by (simp at *; omega)) (an (show (if k = (0 : Int) ∧ a = (3 : Int) then x else (-1 : Int)) = (-1 : Int) by (simp at *; omega)) (an (show decide (k = (6 : Int) ∧ a = (0 : Int)) = false by (simp at *; omega)) (an (show decide (k = (6 : Int) ∧ a = (1 : Int)) = false by (simp at *; omega)) (an (show decide (k = (6 : Int) ∧ a = (2 : Int)) = false by (simp at *; omega)) (an (show decide (k = (6 : Int) ∧ a = (3 : Int)) = false by (simp at *; omega)) (show decide (k = (6 : Int) ∧ a = (4 : Int)) = false by (simp at *; omega)))))))))) (an (an tt (an tt tt)) tt)) tt)) ?_
          kernel_rfl
         ·
          refine vcIntro [false, true, true, true, true, false, false, false] (an (an h8 (an h6 (an h5 (an h4 (an h3 (an h2 (an h1 (an h0 tt)))))))) (an (an (an (show (if k = (0 : Int) ∧ a = (0 : Int) then x else (-1 : Int)) = (-1 : Int) by (simp at *; omega)) (an (show (if k = (0 : Int) ∧ a = (1 : Int) then x else (-1 : Int)) = (-1 : Int) by (simp at *; omega)) (an (show (if k = (0 : Int) ∧ a = (2 : Int) then x else (-1 : Int)) = (-1 : Int) by (simp at *; omega)) (an (show (if k = (0 : Int) ∧ a = (3 : Int) then x else (-1 : Int)) = (-1 : Int) by (simp at *; omega)) (an (show decide (k = (6 : Int) ∧ a = (0 : Int)) = false by (simp at *; omega)) (an (show decide (k = (6 : Int) ∧ a = (1 : Int)) = false by (simp at *; omega)) (an (show decide (k = (6 : Int) ∧ a = (2 : Int)) = false by (simp at *; omega)) (an (show decide (k = (6 : Int) ∧ a = (3 : Int)) = false by (simp at *; omega)) (show decide (k = (6 : Int) ∧ a = (4 : Int)) = false by (simp at *; omega)))))))))) (an (an tt (an tt tt)) tt)) tt)) ?_
          kernel_rfl
      ·
       rcases Bool.eq_false_or_eq_true (decide (b = (1 : Int))) with h9 | h9
       ·
        rcases Bool.eq_false_or_eq_true (k == (0 : Int)) with h10 | h10
        · exact ff (by (simp at *; omega))
        ·
         rcases Bool.eq_false_or_eq_true (k == (3 : Int)) with h11 | h11
         · exact ff (by (simp at *; omega))
         ·
          rcases Bool.eq_false_or_eq_true (k == (5 : Int)) with h12 | h12
          · exact ff (by (simp at *; omega))
          ·
           refine vcIntro [false, true, true, true, false, true, false, false, false] (an (an h12 (an h11 (an h10 (an h9 (an h4 (an h3 (an h2 (an h1 (an h0 tt))))))))) (an (an (an (show (if k = (0 : Int) ∧ a = (0 : Int) then x else (-1 : Int)) = (-1 : Int) by (simp at *; omega)) (an (show (if k = (0 : Int) ∧ a = (1 : Int) then x else (-1 : Int)) = (-1 : Int) by (simp at *; omega)) (an (show (if k = (0 : Int) ∧ a = (2 : Int) then x else (-1 : Int)) = (-1 : Int) by (simp at *; omega)) (an (show (if k = (0 : Int) ∧ a = (3 : Int) then x else (-1 : Int)) = (-1 : Int) by (simp at *; omega)) (an (show decide (k = (6 : Int) ∧ a = (0 : Int)) = false by (simp at *; omega)) (an (show decide (k = (6 : Int) ∧ a = (1 : Int)) = false by (simp at *; omega)) (an (show decide (k = (6 : Int) ∧ a = (2 : Int)) = false by (simp at *; omega)) (an (show decide (k = (6 : Int) ∧ a = (3 : Int)) = false by (simp at *; omega)) (show decide (k = (6 : Int) ∧ a = (4 : Int)) = false by (simp at *; omega)))))))))) (an (an tt (an tt tt)) tt)) tt)) ?_
           kernel_rfl
       ·
        rcases Bool.eq_false_or_eq_true (decide (b = (2 : Int))) with h13 | h13
        ·
         rcases Bool.eq_false_or_eq_true (k == (0 : Int)) with h14 | h14
         · exact ff (by (simp at *; omega))
         ·
          rcases Bool.eq_false_or_eq_true (k == (3 : Int)) with h15 | h15
          · exact ff (by (simp at *; omega))
          ·
           rcases Bool.eq_false_or_eq_true (k == (5 : Int)) with h16 | h16
           · exact ff (by (simp at *; omega))
           ·
            refine vcIntro [false, true, true, true, false, false, true, false, false, false] (an (an h16 (an h15 (an h14 (an h13 (an h9 (an h4 (an h3 (an h2 (an h1 (an h0 tt)))))))))) (an (an (an (show (if k = (0 : Int) ∧ a = (0 : Int) then x else (-1 : Int)) = (-1 : Int) by (simp at *; omega)) (an (show (if k = (0 : Int) ∧ a = (1 : Int) then x else (-1 : Int)) = (-1 : Int) by (simp at *; omega)) (an (show (if k = (0 : Int) ∧ a = (2 : Int) then x else (-1 : Int)) = (-1 : Int) by (simp at *; omega)) (an (show (if k = (0 : Int) ∧ a = (3 : Int) then x else (-1 : Int)) = (-1 : Int) by (simp at *; omega)) (an (show decide (k = (6 : Int) ∧ a = (0 : Int)) = false by (simp at *; omega)) (an (show decide (k = (6 : Int) ∧ a = (1 : Int)) = false by (simp at *; omega)) (an (show decide (k = (6 : Int) ∧ a = (2 : Int)) = false by (simp at *; omega)) (an (show decide (k = (6 : Int) ∧ a = (3 : Int)) = false by (simp at *; omega)) (show decide (k = (6 : Int) ∧ a = (4 : Int)) = false by (simp at *; omega)))))))))) (an (an tt (an tt tt)) tt)) tt)) ?_
            kernel_rfl
        ·
         rcases Bool.eq_false_or_eq_true (decide (b = (3 : Int))) with h17 | h17
         ·
          rcases Bool.eq_false_or_eq_true (k == (0 : Int)) with h18 | h18
          · exact ff (by (simp at *; omega))
          ·
           rcases Bool.eq_false_or_eq_true (k == (3 : Int)) with h19 | h19
           · exact ff (by (simp at *; omega))
           ·
            rcases Bool.eq_false_or_eq_true (k == (5 : Int)) with h20 | h20
            · exact ff (by (simp at *; omega))
            ·
             refine vcIntro [false, true, true, true, false, false, false, true, false, false, false] (an (an h20 (an h19 (an h18 (an h17 (an h13 (an h9 (an h4 (an h3 (an h2 (an h1 (an h0 tt))))))))))) (an (an (an (show (if k = (0 : Int) ∧ a = (0 : Int) then x else (-1 : Int)) = (-1 : Int) by (simp at *; omega)) (an (show (if k = (0 : Int) ∧ a = (1 : Int) then x else (-1 : Int)) = (-1 : Int) by (simp at *; omega)) (an (show (if k = (0 : Int) ∧ a = (2 : Int) then x else (-1 : Int)) = (-1 : Int) by (simp at *; omega)) (an (show (if k = (0 : Int) ∧ a = (3 : Int) then x else (-1 : Int)) = (-1 : Int) by (simp at *; omega)) (an (show decide (k = (6 : Int) ∧ a = (0 : Int)) = false by (simp at *; omega)) (an (show decide (k = (6 : Int) ∧ a = (1 : Int)) = false by (simp at *; omega)) (an (show decide (k = (6 : Int) ∧ a = (2 : Int)) = false by (simp at *; omega)) (an (show decide (k = (6 : Int) ∧ a = (3 : Int)) = false by (simp at *; omega)) (show decide (k = (6 : Int) ∧ a = (4 : Int)) = false by (simp at *; omega)))))))))) (an (an tt (an tt tt)) tt)) tt)) ?_
             kernel_rfl
         · exact ff (by (simp at *; omega))
     ·
      rcases Bool.eq_false_or_eq_true (decide (a = (1 : Int))) with h21 | h21
      ·
       rcases Bool.eq_false_or_eq_true (decide (b = (0 : Int))) with h22 | h22
       ·
        rcases Bool.eq_false_or_eq_true (k == (0 : Int)) with h23 | h23
        ·
         refine vcIntro [false, true, true, false, true, true, true] (an (an h23 (an h22 (an h21 (an h3 (an h2 (an h1 (an h0 tt))))))) (an (an (an (show (if k = (0 : Int) ∧ a = (0 : Int) then x else (-1 : Int)) = (-1 : Int) by (simp at *; omega)) (an (show (if k = (0 : Int) ∧ a = (1 : Int) then x else (-1 : Int)) = x by (simp at *; omega)) (an (show (if k = (0 : Int) ∧ a = (2 : Int) then x else (-1 : Int)) = (-1 : Int) by (simp at *; omega)) (an (show (if k = (0 : Int) ∧ a = (3 : Int) then x else (-1 : Int)) = (-1 : Int) by (simp at *; omega)) (an (show decide (k = (6 : Int) ∧ a = (0 : Int)) = false by (simp at *; omega)) (an (show decide (k = (6 : Int) ∧ a = (1 : Int)) = false by (simp at *; omega)) (an (show decide (k = (6 : Int) ∧ a = (2 : Int)) = false by (simp at *; omega)) (an (show decide (k = (6 : Int) ∧ a = (3 : Int)) = false by (simp at *; omega)) (show decide (k = (6 : Int) ∧ a = (4 : Int)) = false by (simp at *; omega)))))))))) (an (an tt (an tt tt)) tt)) tt)) ?_
         kernel_rfl
        ·
         rcases Bool.eq_false_or_eq_true (k == (3 : Int)) with h24 | h24
         ·
          rcases Bool.eq_false_or_eq_true (k == (5 : Int)) with h25 | h25
          · exact ff (by (simp at *; omega))
          ·
           refine vcIntro [false, true, true, false, true, true, false, true, false] (an (an h25 (an h24 (an h23 (an h22 (an h21 (an h3 (an h2 (an h1 (an h0 tt))))))))) (an (an (an (show (if k = (0 : Int) ∧ a = (0 : Int) then x else (-1 : Int)) = (-1 : Int) by (simp at *; omega)) (an (show (if k = (0 : Int) ∧ a = (1 : Int) then x else (-1 : Int)) = (-1 : Int) by (simp at *; omega)) (an (show (if k = (0 : Int) ∧ a = (2 : Int) then x else (-1 : Int)) = (-1 : Int) by (simp at *; omega)) (an (show (if k = (0 : Int) ∧ a = (3 : Int) then x else (-1 : Int)) = (-1 : Int) by (simp at *; omega)) (an (show decide (k = (6 : Int) ∧ a = (0 : Int)) = false by (simp at *; omega)) (an (show decide (k = (6 : Int) ∧ a = (1 : Int)) = false by (simp at *; omega)) (an (show decide (k = (6 : Int) ∧ a = (2 : Int)) = false by (simp at *; omega)) (an (show decide (k = (6 : Int) ∧ a = (3 : Int)) = false by (simp at *; omega)) (show decide (k = (6 : Int) ∧ a = (4 : Int)) = false by (simp at *; omega)))))))))) (an (an tt (an tt tt)) tt)) tt)) ?_
           kernel_rfl
         ·
          rcases Bool.eq_false_or_eq_true (k == (5 : Int)) with h26 | h26
          · exact ff (by (simp at *; omega))
          ·
           refine vcIntro [false, true, true, false, true, true, false, false, false] (an (an h26 (an h24 (an h23 (an h22 (an h21 (an h3 (an h2 (an h1 (an h0 tt))))))))) (an (an (an (show (if k = (0 : Int) ∧ a = (0 : Int) then x else (-1 : Int)) = (-1 : Int) by (simp at *; omega)) (an (show (if k = (0 : Int) ∧ a = (1 : Int) then x else (-1 : Int)) = (-1 : Int) by (simp at *; omega)) (an (show (if k = (0 : Int) ∧ a = (2 : Int) then x else (-1 : Int)) = (-1 : Int) by (simp at *; omega)) (an (show (if k = (0 : Int) ∧ a = (3 : Int) then x else (-1 : Int)) = (-1 : Int) by (simp at *; omega)) (an (show decide (k = (6 : Int) ∧ a = (0 : Int)) = false by (simp at *; omega)) (an (show decide (k = (6 : Int) ∧ a = (1 : Int)) = false by (simp at *; omega)) (an (show decide (k = (6 : Int) ∧ a = (2 : Int)) = false by (simp at *; omega)) (an (show decide (k = (6 : Int) ∧ a = (3 : Int)) = false by (simp at *; omega)) (show decide (k = (6 : Int) ∧ a = (4 : Int)) = false by (simp at *; omega)))))))))) (an (an tt (an tt tt)) tt)) tt)) ?_
           kernel_rfl
       ·
        rcases Bool.eq_false_or_eq_true (decide (b = (1 : Int))) with h27 | h27
        ·
         rcases Bool.eq_false_or_eq_true (k == (0 : Int)) with h28 | h28
         · exact ff (by (simp at *; omega))
         ·
          rcases Bool.eq_false_or_eq_true (k == (3 : Int)) with h29 | h29
          · exact ff (by (simp at *; omega))
          ·
           rcases Bool.eq_false_or_eq_true (k == (5 : Int)) with h30 | h30
           · exact ff (by (simp at *; omega))
           ·
            refine vcIntro [false, true, true, false, true, false, true, false, false, false] (an (an h30 (an h29 (an h28 (an h27 (an h22 (an h21 (an h3 (an h2 (an h1 (an h0 tt)))))))))) (an (an (an (show (if k = (0 : Int) ∧ a = (0 : Int) then x else (-1 : Int)) = (-1 : Int) by (simp at *; omega)) (an (show (if k = (0 : Int) ∧ a = (1 : Int) then x else (-1 : Int)) = (-1 : Int) by (simp at *; omega)) (an (show (if k = (0 : Int) ∧ a = (2 : Int) then x else (-1 : Int)) = (-1 : Int) by (simp at *; omega)) (an (show (if k = (0 : Int) ∧ a = (3 : Int) then x else (-1 : Int)) = (-1 : Int) by (simp at *; omega)) (an (show decide (k = (6 : Int) ∧ a = (0 : Int)) = false by (simp at *; omega)) (an (show decide (k = (6 : Int) ∧ a = (1 : Int)) = false by (simp at *; omega)) (an (show decide (k = (6 : Int) ∧ a = (2 : Int)) = false by (simp at *; omega)) (an (show decide (k = (6 : Int) ∧ a = (3 : Int)) = false by (simp at *; omega)) (show decide (k = (6 : Int) ∧ a = (4 : Int)) = false by (simp at *; omega)))))))))) (an (an tt (an tt tt)) tt)) tt)) ?_
            kernel_rfl
        ·
         rcases Bool.eq_false_or_eq_true (decide (b = (2 : Int))) with h31 | h31
         ·
          rcases Bool.eq_false_or_eq_true (k == (0 : Int)) with h32 | h32
          · exact ff (by (simp at *; omega))
          ·
           rcases Bool.eq_false_or_eq_true (k == (3 : Int)) with h33 | h33
           · exact ff (by (simp at *; omega))
           ·
            rcases Bool.eq_false_or_eq_true (k == (5 : Int)) with h34 | h34
            · exact ff (by (simp at *; omega))
            ·
             refine vcIntro [false, true, true, false, true, false, false, true, false, false, false] (an (an h34 (an h33 (an h32 (an h31 (an h27 (an h22 (an h21 (an h3 (an h2 (an h1 (an h0 tt))))))))))) (an (an (an (show (if k = (0 : Int) ∧ a = (0 : Int) then x else (-1 : Int)) = (-1 : Int) by (simp at *; omega)) (an (show (if k = (0 : Int) ∧ a = (1 : Int) then x else (-1 : Int)) = (-1 : Int) by (simp at *; omega)) (an (show (if k = (0 : Int) ∧ a = (2 : Int) then x else (-1 : Int)) = (-1 : Int) by (simp at *; omega)) (an (show (if k = (0 : Int) ∧ a = (3 : Int) then x else (-1 : Int)) = (-1 : Int) by (simp at *; omega)) (an (show decide (k = (6 : Int) ∧ a = (0 : Int)) = false by (simp at *; omega)) (an (show decide (k = (6 : Int) ∧ a = (1 : Int)) = false by (simp at *; omega)) (an (show decide (k = (6 : Int) ∧ a = (2 : Int)) = false by (simp at *; omega)) (an (show decide (k = (6 : Int) ∧ a = (3 : Int)) = false by (simp at *; omega)) (show decide (k = (6 : Int) ∧ a = (4 : Int)) = false by (simp at *; omega)))))))))) (an (an tt (an tt tt)) tt)) tt)) ?_
             kernel_rfl
         ·
          rcases Bool.eq_false_or_eq_true (decide (b = (3 : Int))) with h35 | h35
          ·
           rcases Bool.eq_false_or_eq_true (k == (0 : Int)) with h36 | h36
           · exact ff (by (simp at *; omega))
           ·
            rcases Bool.eq_false_or_eq_true (k == (3 : Int)) with h37 | h37
            · exact ff (by (simp at *; omega))
            ·
             rcases Bool.eq_false_or_eq_true (k == (5 : Int)) with h38 | h38
             · exact ff (by (simp at *; omega))
             ·
              refine vcIntro [false, true, true, false, true, false, false, false, true, false, false, false] (an (an h38 (an h37 (an h36 (an h35 (an h31 (an h27 (an h22 (an h21 (an h3 (an h2 (an h1 (an h0 tt)))))))))))) (an (an (an (show (if k = (0 : Int) ∧ a = (0 : Int) then x else (-1 : Int)) = (-1 : Int) by (simp at *; omega)) (an (show (if k = (0 : Int) ∧ a = (1 : Int) then x else (-1 : Int)) = (-1 : Int) by (simp at *; omega)) (an (show (if k = (0 : Int) ∧ a = (2 : Int) then x else (-1 : Int)) = (-1 : Int) by (simp at *; omega)) (an (show (if k = (0 : Int) ∧ a = (3 : Int) then x else (-1 : Int)) = (-1 : Int) by (simp at *; omega)) (an (show decide (k = (6 : Int) ∧ a = (0 : Int)) = false by (simp at *; omega)) (an (show decide (k = (6 : Int) ∧ a = (1 : Int)) = false by (simp at *; omega)) (an (show decide (k = (6 : Int) ∧ a = (2 : Int)) = false by (simp at *; omega)) (an (show decide (k = (6 : Int) ∧ a = (3 : Int)) = false by (simp at *; omega)) (show decide (k = (6 : Int) ∧ a = (4 : Int)) = false by (simp at *; omega)))))))))) (an (an tt (an tt tt)) tt)) tt)) ?_
              kernel_rfl
          · exact ff (by (simp at *; omega))
      ·
       rcases Bool.eq_false_or_eq_true (decide (a = (2 : Int))) with h39 | h39
       ·
        rcases Bool.eq_false_or_eq_true (decide (b = (0 : Int))) with h40 | h40
        ·
         rcases Bool.eq_false_or_eq_true (k == (0 : Int)) with h41 | h41
         ·
          refine vcIntro [false, true, true, false, false, true, true, true] (an (an h41 (an h40 (an h39 (an h21 (an h3 (an h2 (an h1 (an h0 tt)))))))) (an (an (an (show (if k = (0 : Int) ∧ a = (0 : Int) then x else (-1 : Int)) = (-1 : Int) by (simp at *; omega)) (an (show (if k = (0 : Int) ∧ a = (1 : Int) then x else (-1 : Int)) = (-1 : Int) by (simp at *; omega)) (an (show (if k = (0 : Int) ∧ a = (2 : Int) then x else (-1 : Int)) = x by (simp at *; omega)) (an (show (if k = (0 : Int) ∧ a = (3 : Int) then x else (-1 : Int)) = (-1 : Int) by (simp at *; omega)) (an (show decide (k = (6 : Int) ∧ a = (0 : Int)) = false by (simp at *; omega)) (an (show decide (k = (6 : Int) ∧ a = (1 : Int)) = false by (simp at *; omega)) (an (show decide (k = (6 : Int) ∧ a = (2 : Int)) = false by (simp at *; omega)) (an (show decide (k = (6 : Int) ∧ a = (3 : Int)) = false by (simp at *; omega)) (show decide (k = (6 : Int) ∧ a = (4 : Int)) = false by (simp at *; omega)))))))))) (an (an tt (an tt tt)) tt)) tt)) ?_
          kernel_rfl
         ·
          rcases Bool.eq_false_or_eq_true (k == (3 : Int)) with h42 | h42
          ·
           rcases Bool.eq_false_or_eq_true (k == (5 : Int)) with h43 | h43
           · exact ff (by (simp at *; omega))
           ·
            refine vcIntro [false, true, true, false, false, true, true, false, true, false] (an (an h43 (an h42 (an h41 (an h40 (an h39 (an h21 (an h3 (an h2 (an h1 (an h0 tt)))))))))) (an (an (an (show (if k = (0 : Int) ∧ a = (0 : Int) then x else (-1 : Int)) = (-1 : Int) by (simp at *; omega)) (an (show (if k = (0 : Int) ∧ a = (1 : Int) then x else (-1 : Int)) = (-1 : Int) by (simp at *; omega)) (an (show (if k = (0 : Int) ∧ a = (2 : Int) then x else (-1 : Int)) = (-1 : Int) by (simp at *; omega)) (an (show (if k = (0 : Int) ∧ a = (3 : Int) then x else (-1 : Int)) = (-1 : Int) by (simp at *; omega)) (an (show decide (k = (6 : Int) ∧ a = (0 : Int)) = false by (simp at *; omega)) (an (show decide (k = (6 : Int) ∧ a = (1 : Int)) = false by (simp at *; omega)) (an (show decide (k = (6 : Int) ∧ a = (2 : Int)) = false by (simp at *; omega)) (an (show decide (k = (6 : Int) ∧ a = (3 : Int)) = false by (simp at *; omega)) (show decide (k = (6 : Int) ∧ a = (4 : Int)) = false by (simp at *; omega)))))))))) (an (an tt (an tt tt)) tt)) tt)) ?_
            kernel_rfl
          ·
           rcases Bool.eq_false_or_eq_true (k == (5 : Int)) with h44 | h44
           · exact ff (by (simp at *; omega))
           ·
            refine vcIntro [false, true, true, false, false, true, true, false, false, false] (an (an h44 (an h42 (an h41 (an h40 (an h39 (an h21 (an h3 (an h2 (an h1 (an h0 tt)))))))))) (an (an (an (show (if k = (0 : Int) ∧ a = (0 : Int) then x else (-1 : Int)) = (-1 : Int) by (simp at *; omega)) (an (show (if k = (0 : Int) ∧ a = (1 : Int) then x else (-1 : Int)) = (-1 : Int) by (simp at *; omega)) (an (show (if k = (0 : Int) ∧ a = (2 : Int) then x else (-1 : Int)) = (-1 : Int) by (simp at *; omega)) (an (show (if k = (0 : Int) ∧ a = (3 : Int) then x else (-1 : Int)) = (-1 : Int) by (simp at *; omega)) (an (show decide (k = (6 : Int) ∧ a = (0 : Int)) = false by (simp at *; omega)) (an (show decide (k = (6 : Int) ∧ a = (1 : Int)) = false by (simp at *; omega)) (an (show decide (k = (6 : Int) ∧ a = (2 : Int)) = false by (simp at *; omega)) (an (show decide (k = (6 : Int) ∧ a = (3 : Int)) = false by (simp at *; omega)) (show decide (k = (6 : Int) ∧ a = (4 : Int)) = false by (simp at *; omega)))))))))) (an (an tt (an tt tt)) tt)) tt)) ?_
            kernel_rfl
        ·
         rcases Bool.eq_false_or_eq_true (decide (b = (1 : Int))) with h45 | h45
         ·
          rcases Bool.eq_false_or_eq_true (k == (0 : Int)) with h46 | h46
          · exact ff (by (simp at *; omega))
          ·
           rcases Bool.eq_false_or_eq_true (k == (3 : Int)) with h47 | h47
           · exact ff (by (simp at *; omega))
           ·
            rcases Bool.eq_false_or_eq_true (k == (5 : Int)) with h48 | h48
            · exact ff (by (simp at *; omega))
            ·
             refine vcIntro [false, true, true, false, false, true, false, true, false, false, false] (an (an h48 (an h47 (an h46 (an h45 (an h40 (an h39 (an h21 (an h3 (an h2 (an h1 (an h0 tt))))))))))) (an (an (an (show (if k = (0 : Int) ∧ a = (0 : Int) then x else (-1 : Int)) = (-1 : Int) by (simp at *; omega)) (an (show (if k = (0 : Int) ∧ a = (1 : Int) then x else (-1 : Int)) = (-1 : Int) by (simp at *; omega)) (an (show (if k = (0 : Int) ∧ a = (2 : Int) then x else (-1 : Int)) = (-1 : Int) by (simp at *; omega)) (an (show (if k = (0 : Int) ∧ a = (3 : Int) then x else (-1 : Int)) = (-1 : Int) by (simp at *; omega)) (an (show decide (k = (6 : Int) ∧ a = (0 : Int)) = false by (simp at *; omega)) (an (show decide (k = (6 : Int) ∧ a = (1 : Int)) = false by (simp at *; omega)) (an (show decide (k = (6 : Int) ∧ a = (2 : Int)) = false by (simp at *; omega)) (an (show decide (k = (6 : Int) ∧ a = (3 : Int)) = false by (simp at *; omega)) (show decide (k = (6 : Int) ∧ a = (4 : Int)) = false by (simp at *; omega)))))))))) (an (an tt (an tt tt)) tt)) tt)) ?_
             kernel_rfl
         ·
          rcases Bool.eq_false_or_eq_true (decide (b = (2 : Int))) with h49 | h49
          ·
           rcases Bool.eq_false_or_eq_true (k == (0 : Int)) with h50 | h50
           · exact ff (by (simp at *; omega))
           ·
            rcases Bool.eq_false_or_eq_true (k == (3 : Int)) with h51 | h51
            · exact ff (by (simp at *; omega))
            ·
             rcases Bool.eq_false_or_eq_true (k == (5 : Int)) with h52 | h52
             · exact ff (by (simp at *; omega))
             ·
              refine vcIntro [false, true, true, false, false, true, false, false, true, false, false, false] (an (an h52 (an h51 (an h50 (an h49 (an h45 (an h40 (an h39 (an h21 (an h3 (an h2 (an h1 (an h0 tt)))))))))))) (an (an (an (show (if k = (0 : Int) ∧ a = (0 : Int) then x else (-1 : Int)) = (-1 : Int) by (simp at *; omega)) (an (show (if k = (0 : Int) ∧ a = (1 : Int) then x else (-1 : Int)) = (-1 : Int) by (simp at *; omega)) (an (show (if k = (0 : Int) ∧ a = (2 : Int) then x else (-1 : Int)) = (-1 : Int) by (simp at *; omega)) (an (show (if k = (0 : Int) ∧ a = (3 : Int) then x else (-1 : Int)) = (-1 : Int) by (simp at *; omega)) (an (show decide (k = (6 : Int) ∧ a = (0 : Int)) = false by (simp at *; omega)) (an (show decide (k = (6 : Int) ∧ a = (1 : Int)) = false by (simp at *; omega)) (an (show decide (k = (6 : Int) ∧ a = (2 : Int)) = false by (simp at *; omega)) (an (show decide (k = (6 : Int) ∧ a = (3 : Int)) = false by (simp at *; omega)) (show decide (k = (6 : Int) ∧ a = (4 : Int)) = false by (simp at *; omega)))))))))) (an (an tt (an tt tt)) tt)) tt)) ?_
              kernel_rfl
          ·
           rcases Bool.eq_false_or_eq_true (decide (b = (3 : Int))) with h53 | h53
           ·
            rcases Bool.eq_false_or_eq_true (k == (0 : Int)) with h54 | h54
            · exact ff (by (simp at *; omega))
            ·
             rcases Bool.eq_false_or_eq_true (k == (3 : Int)) with h55 | h55
             · exact ff (by (simp at *; omega))
             ·
              rcases Bool.eq_false_or_eq_true (k == (5 : Int)) with h56 | h56
              · exact ff (by (simp at *; omega))
              ·
               refine vcIntro [false, true, true, false, false, true, false, false, false, true, false, false, false] (an (an h56 (an h55 (an h54 (an h53 (an h49 (an h45 (an h40 (an h39 (an h21 (an h3 (an h2 (an h1 (an h0 tt))))))))))))) (an (an (an (show (if k = (0 : Int) ∧ a = (0 : Int) then x else (-1 : Int)) = (-1 : Int) by (simp at *; omega)) (an (show (if k = (0 : Int) ∧ a = (1 : Int) then x else (-1 : Int)) = (-1 : Int) by (simp at *; omega)) (an (show (if k = (0 : Int) ∧ a = (2 : Int) then x else (-1 : Int)) = (-1 : Int) by (simp at *; omega)) (an (show (if k = (0 : Int) ∧ a = (3 : Int) then x else (-1 : Int)) = (-1 : Int) by (simp at *; omega)) (an (show decide (k = (6 : Int) ∧ a = (0 : Int)) = false by (simp at *; omega)) (an (show decide (k = (6 : Int) ∧ a = (1 : Int)) = false by (simp at *; omega)) (an (show decide (k = (6 : Int) ∧ a = (2 : Int)) = false by (simp at *; omega)) (an (show decide (k = (6 : Int) ∧ a = (3 : Int)) = false by (simp at *; omega)) (show decide (k = (6 : Int) ∧ a = (4 : Int)) = false by (simp at *; omega)))))))))) (an (an tt (an tt tt)) tt)) tt)) ?_
               kernel_rfl
           · exact ff (by (simp at *; omega))
       ·
        rcases Bool.eq_false_or_eq_true (decide (a = (3 : Int))) with h57 | h57
        ·
         rcases Bool.eq_false_or_eq_true (decide (b = (0 : Int))) with h58 | h58
         ·
          rcases Bool.eq_false_or_eq_true (k == (0 : Int)) with h59 | h59
          ·
           refine vcIntro [false, true, true, false, false, false, true, true, true] (an (an h59 (an h58 (an h57 (an h39 (an h21 (an h3 (an h2 (an h1 (an h0 tt))))))))) (an (an (an (show (if k = (0 : Int) ∧ a = (0 : Int) then x else (-1 : Int)) = (-1 : Int) by (simp at *; omega)) (an (show (if k = (0 : Int) ∧ a = (1 : Int) then x else (-1 : Int)) = (-1 : Int) by (simp at *; omega)) (an (show (if k = (0 : Int) ∧ a = (2 : Int) then x else (-1 : Int)) = (-1 : Int) by (simp at *; omega)) (an (show (if k = (0 : Int) ∧ a = (3 : Int) then x else (-1 : Int)) = x by (simp at *; omega)) (an (show decide (k = (6 : Int) ∧ a = (0 : Int)) = false by (simp at *; omega)) (an (show decide (k = (6 : Int) ∧ a = (1 : Int)) = false by (simp at *; omega)) (an (show decide (k = (6 : Int) ∧ a = (2 : Int)) = false by (simp at *; omega)) (an (show decide (k = (6 : Int) ∧ a = (3 : Int)) = false by (simp at *; omega)) (show decide (k = (6 : Int) ∧ a = (4 : Int)) = false by (simp at *; omega)))))))))) (an (an tt (an tt tt)) tt)) tt)) ?_
           kernel_rfl
          ·
           rcases Bool.eq_false_or_eq_true (k == (3 : Int)) with h60 | h60
           ·
            rcases Bool.eq_false_or_eq_true (k == (5 : Int)) with h61 | h61
            · exact ff (by (simp at *; omega))
            ·
             refine vcIntro [false, true, true, false, false, false, true, true, false, true, false] (an (an h61 (an h60 (an h59 (an h58 (an h57 (an h39 (an h21 (an h3 (an h2 (an h1 (an h0 tt))))))))))) (an (an (an (show (if k = (0 : Int) ∧ a = (0 : Int) then x else (-1 : Int)) = (-1 : Int) by (simp at *; omega)) (an (show (if k = (0 : Int) ∧ a = (1 : Int) then x else (-1 : Int)) = (-1 : Int) by (simp at *; omega)) (an (show (if k = (0 : Int) ∧ a = (2 : Int) then x else (-1 : Int)) = (-1 : Int) by (simp at *; omega)) (an (show (if k = (0 : Int) ∧ a = (3 : Int) then x else (-1 : Int)) = (-1 : Int) by (simp at *; omega)) (an (show decide (k = (6 : Int) ∧ a = (0 : Int)) = false by (simp at *; omega)) (an (show decide (k = (6 : Int) ∧ a = (1 : Int)) = false by (simp at *; omega)) (an (show decide (k = (6 : Int) ∧ a = (2 : Int)) = false by (simp at *; omega)) (an (show decide (k = (6 : Int) ∧ a = (3 : Int)) = false by (simp at *; omega)) (show decide (k = (6 : Int) ∧ a = (4 : Int)) = false by (simp at *; omega)))))))))) (an (an tt (an tt tt)) tt)) tt)) ?_
             kernel_rfl
           ·
            rcases Bool.eq_false_or_eq_true (k == (5 : Int)) with h62 | h62
            · exact ff (by (simp at *; omega))
            ·
             refine vcIntro [false, true, true, false, false, false, true, true, false, false, false] (an (an h62 (an h60 (an h59 (an h58 (an h57 (an h39 (an h21 (an h3 (an h2 (an h1 (an h0 tt))))))))))) (an (an (an (show (if k = (0 : Int) ∧ a = (0 : Int) then x else (-1 : Int)) = (-1 : Int) by (simp at *; omega)) (an (show (if k = (0 : Int) ∧ a = (1 : Int) then x else (-1 : Int)) = (-1 : Int) by (simp at *; omega)) (an (show (if k = (0 : Int) ∧ a = (2 : Int) then x else (-1 : Int)) = (-1 : Int) by (simp at *; omega)) (an (show (if k = (0 : Int) ∧ a = (3 : Int) then x else (-1 : Int)) = (-1 : Int) by (simp at *; omega)) (an (show decide (k = (6 : Int) ∧ a = (0 : Int)) = false by (simp at *; omega)) (an (show decide (k = (6 : Int) ∧ a = (1 : Int)) = false by (simp at *; omega)) (an (show decide (k = (6 : Int) ∧ a = (2 : Int)) = false by (simp at *; omega)) (an (show decide (k = (6 : Int) ∧ a = (3 : Int)) = false by (simp at *; omega)) (show decide (k = (6 : Int) ∧ a = (4 : Int)) = false by (simp at *; omega)))))))))) (an (an tt (an tt tt)) tt)) tt)) ?_
             kernel_rfl
         ·
          rcases Bool.eq_false_or_eq_true (decide (b = (1 : Int))) with h63 | h63
          ·
           rcases Bool.eq_false_or_eq_true (k == (0 : Int)) with h64 | h64
           · exact ff (by (simp at *; omega))
           ·
            rcases Bool.eq_false_or_eq_true (k == (3 : Int)) with h65 | h65
            · exact ff (by (simp at *; omega))
            ·
             rcases Bool.eq_false_or_eq_true (k == (5 : Int)) with h66 | h66
             · exact ff (by (simp at *; omega))
             ·
              refine vcIntro [false, true, true, false, false, false, true, false, true, false, false, false] (an (an h66 (an h65 (an h64 (an h63 (an h58 (an h57 (an h39 (an h21 (an h3 (an h2 (an h1 (an h0 tt)))))))))))) (an (an (an (show (if k = (0 : Int) ∧ a = (0 : Int) then x else (-1 : Int)) = (-1 : Int) by (simp at *; omega)) (an (show (if k = (0 : Int) ∧ a = (1 : Int) then x else (-1 : Int)) = (-1 : Int) by (simp at *; omega)) (an (show (if k = (0 : Int) ∧ a = (2 : Int) then x else (-1 : Int)) = (-1 : Int) by (simp at *; omega)) (an (show (if k = (0 : Int) ∧ a = (3 : Int) then x else (-1 : Int)) = (-1 : Int) by (simp at *; omega)) (an (show decide (k = (6 : Int) ∧ a = (0 : Int)) = false by (simp at *; omega)) (an (show decide (k = (6 : Int) ∧ a = (1 : Int)) = false by (simp at *; omega)) (an (show decide (k = (6 : Int) ∧ a = (2 : Int)) = false by (simp at *; omega)) (an (show decide (k = (6 : Int) ∧ a = (3 : Int)) = false by (simp at *; omega)) (show decide (k = (6 : Int) ∧ a = (4 : Int)) = false by (simp at *; omega)))))))))) (an (an tt (an tt tt)) tt)) tt)) ?_
              kernel_rfl
          ·
           rcases Bool.eq_false_or_eq_true (decide (b = (2 : Int))) with h67 | h67
           ·
            rcases Bool.eq_false_or_eq_true (k == (0 : Int)) with h68 | h68
            · exact ff (by (simp at *; omega))
            ·
             rcases Bool.eq_false_or_eq_true (k == (3 : Int)) with h69 | h69
             · exact ff (by (simp at *; omega))
             ·
              rcases Bool.eq_false_or_eq_true (k == (5 : Int)) with h70 | h70
              · exact ff (by (simp at *; omega))
              ·
               refine vcIntro [false, true, true, false, false, false, true, false, false, true, false, false, false] (an (an h70 (an h69 (an h68 (an h67 (an h63 (an h58 (an h57 (an h39 (an h21 (an h3 (an h2 (an h1 (an h0 tt))))))))))))) (an (an (an (show (if k = (0 : Int) ∧ a = (0 : Int) then x else (-1 : Int)) = (-1 : Int) by (simp at *; omega)) (an (show (if k = (0 : Int) ∧ a = (1 : Int) then x else (-1 : Int)) = (-1 : Int) by (simp at *; omega)) (an (show (if k = (0 : Int) ∧ a = (2 : Int) then x else (-1 : Int)) = (-1 : Int) by (simp at *; omega)) (an (show (if k = (0 : Int) ∧ a = (3 : Int) then x else (-1 : Int)) = (-1 : Int) by (simp at *; omega)) (an (show decide (k = (6 : Int) ∧ a = (0 : Int)) = false by (simp at *; omega)) (an (show decide (k = (6 : Int) ∧ a = (1 : Int)) = false by (simp at *; omega)) (an (show decide (k = (6 : Int) ∧ a = (2 : Int)) = false by (simp at *; omega)) (an (show decide (k = (6 : Int) ∧ a = (3 : Int)) = false by (simp at *; omega)) (show decide (k = (6 : Int) ∧ a = (4 : Int)) = false by (simp at *; omega)))))))))) (an (an tt (an tt tt)) tt)) tt)) ?_
               kernel_rfl
           ·
            rcases Bool.eq_false_or_eq_true (decide (b = (3 : Int))) with h71 | h71
            ·
             rcases Bool.eq_false_or_eq_true (k == (0 : Int)) with h72 | h72
             · exact ff (by (simp at *; omega))
             ·
              rcases Bool.eq_false_or_eq_true (k == (3 : Int)) with h73 | h73
              · exact ff (by (simp at *; omega))
              ·
               rcases Bool.eq_false_or_eq_true (k == (5 : Int)) with h74 | h74
               · exact ff (by (simp at *; omega))
               ·
                refine vcIntro [false, true, true, false, false, false, true, false, false, false, true, false, false, false] (an (an h74 (an h73 (an h72 (an h71 (an h67 (an h63 (an h58 (an h57 (an h39 (an h21 (an h3 (an h2 (an h1 (an h0 tt)))))))))))))) (an (an (an (show (if k = (0 : Int) ∧ a = (0 : Int) then x else (-1 : Int)) = (-1 : Int) by (simp at *; omega)) (an (show (if k = (0 : Int) ∧ a = (1 : Int) then x else (-1 : Int)) = (-1 : Int) by (simp at *; omega)) (an (show (if k = (0 : Int) ∧ a = (2 : Int) then x else (-1 : Int)) = (-1 : Int) by (simp at *; omega)) (an (show (if k = (0 : Int) ∧ a = (3 : Int) then x else (-1 : Int)) = (-1 : Int) by (simp at *; omega)) (an (show decide (k = (6 : Int) ∧ a = (0 : Int)) = false by (simp at *; omega)) (an (show decide (k = (6 : Int) ∧ a = (1 : Int)) = false by (simp at *; omega)) (an (show decide (k = (6 : Int) ∧ a = (2 : Int)) = false by (simp at *; omega)) (an (show decide (k = (6 : Int) ∧ a = (3 : Int)) = false by (simp at *; omega)) (show decide (k = (6 : Int) ∧ a = (4 : Int)) = false by (simp at *; omega)))))))))) (an (an tt (an tt tt)) tt)) tt)) ?_
                kernel_rfl
            · exact ff (by (simp at *; omega))
        · exact ff (by (simp at *; omega))
    ·
     rcases Bool.eq_false_or_eq_true (decide (a = (0 : Int))) with h75 | h75
     ·
      rcases Bool.eq_false_or_eq_true (k == (9 : Int)) with h76 | h76
      ·
       refine vcIntro [false, true, false, true, true] (an (an h76 (an h75 (an h2 (an h1 (an h0 tt))))) (an (an (an (show (if k = (0 : Int) ∧ a = (0 : Int) then x else (-1 : Int)) = (-1 : Int) by (simp at *; omega)) (an (show (if k = (0 : Int) ∧ a = (1 : Int) then x else (-1 : Int)) = (-1 : Int) by (simp at *; omega)) (an (show (if k = (0 : Int) ∧ a = (2 : Int) then x else (-1 : Int)) = (-1 : Int) by (simp at *; omega)) (an (show (if k = (0 : Int) ∧ a = (3 : Int) then x else (-1 : Int)) = (-1 : Int) by (simp at *; omega)) (an (show decide (k = (6 : Int) ∧ a = (0 : Int)) = false by (simp at *; omega)) (an (show decide (k = (6 : Int) ∧ a = (1 : Int)) = false by (simp at *; omega)) (an (show decide (k = (6 : Int) ∧ a = (2 : Int)) = false by (simp at *; omega)) (an (show decide (k = (6 : Int) ∧ a = (3 : Int)) = false by (simp at *; omega)) (show decide (k = (6 : Int) ∧ a = (4 : Int)) = false by (simp at *; omega)))))))))) (an (an tt (an tt tt)) tt)) tt)) ?_
       kernel_rfl
      ·
       rcases Bool.eq_false_or_eq_true (k == (7 : Int)) with h77 | h77
       ·
        refine vcIntro [false, true, false, true, false, true] (an (an h77 (an h76 (an h75 (an h2 (an h1 (an h0 tt)))))) (an (an (an (show (if k = (0 : Int) ∧ a = (0 : Int) then x else (-1 : Int)) = (-1 : Int) by (simp at *; omega)) (an (show (if k = (0 : Int) ∧ a = (1 : Int) then x else (-1 : Int)) = (-1 : Int) by (simp at *; omega)) (an (show (if k = (0 : Int) ∧ a = (2 : Int) then x else (-1 : Int)) = (-1 : Int) by (simp at *; omega)) (an (show (if k = (0 : Int) ∧ a = (3 : Int) then x else (-1 : Int)) = (-1 : Int) by (simp at *; omega)) (an (show decide (k = (6 : Int) ∧ a = (0 : Int)) = false by (simp at *; omega)) (an (show decide (k = (6 : Int) ∧ a = (1 : Int)) = false by (simp at *; omega)) (an (show decide (k = (6 : Int) ∧ a = (2 : Int)) = false by (simp at *; omega)) (an (show decide (k = (6 : Int) ∧ a = (3 : Int)) = false by (simp at *; omega)) (show decide (k = (6 : Int) ∧ a = (4 : Int)) = false by (simp at *; omega)))))))))) (an (an tt (an tt tt)) tt)) tt)) ?_
        kernel_rfl
       ·
        rcases Bool.eq_false_or_eq_true (k == (10 : Int)) with h78 | h78
        ·
         refine vcIntro [false, true, false, true, false, false, false, true] (an (an h78 (an h76 (an h77 (an h76 (an h75 (an h2 (an h1 (an h0 tt)))))))) (an (an (an (show (if k = (0 : Int) ∧ a = (0 : Int) then x else (-1 : Int)) = (-1 : Int) by (simp at *; omega)) (an (show (if k = (0 : Int) ∧ a = (1 : Int) then x else (-1 : Int)) = (-1 : Int) by (simp at *; omega)) (an (show (if k = (0 : Int) ∧ a = (2 : Int) then x else (-1 : Int)) = (-1 : Int) by (simp at *; omega)) (an (show (if k = (0 : Int) ∧ a = (3 : Int) then x else (-1 : Int)) = (-1 : Int) by (simp at *; omega)) (an (show decide (k = (6 : Int) ∧ a = (0 : Int)) = false by (simp at *; omega)) (an (show decide (k = (6 : Int) ∧ a = (1 : Int)) = false by (simp at *; omega)) (an (show decide (k = (6 : Int) ∧ a = (2 : Int)) = false by (simp at *; omega)) (an (show decide (k = (6 : Int) ∧ a = (3 : Int)) = false by (simp at *; omega)) (show decide (k = (6 : Int) ∧ a = (4 : Int)) = false by (simp at *; omega)))))))))) (an (an tt (an tt tt)) tt)) tt)) ?_
         kernel_rfl
        ·
         rcases Bool.eq_false_or_eq_true (k == (8 : Int)) with h79 | h79
         ·
          refine vcIntro [false, true, false, true, false, false, false, false, true] (an (an h79 (an h78 (an h76 (an h77 (an h76 (an h75 (an h2 (an h1 (an h0 tt))))))))) (an (an (an (show (if k = (0 : Int) ∧ a = (0 : Int) then x else (-1 : Int)) = (-1 : Int) by (simp at *; omega)) (an (show (if k = (0 : Int) ∧ a = (1 : Int) then x else (-1 : Int)) = (-1 : Int) by (simp at *; omega)) (an (show (if k = (0 : Int) ∧ a = (2 : Int) then x else (-1 : Int)) = (-1 : Int) by (simp at *; omega)) (an (show (if k = (0 : Int) ∧ a = (3 : Int) then x else (-1 : Int)) = (-1 : Int) by (simp at *; omega)) (an (show decide (k = (6 : Int) ∧ a = (0 : Int)) = false by (simp at *; omega)) (an (show decide (k = (6 : Int) ∧ a = (1 : Int)) = false by (simp at *; omega)) (an (show decide (k = (6 : Int) ∧ a = (2 : Int)) = false by (simp at *; omega)) (an (show decide (k = (6 : Int) ∧ a = (3 : Int)) = false by (simp at *; omega)) (show decide (k = (6 : Int) ∧ a = (4 : Int)) = false by (simp at *; omega)))))))))) (an (an tt (an tt tt)) tt)) tt)) ?_
          kernel_rfl
         ·
          rcases Bool.eq_false_or_eq_true (k == (6 : Int)) with h80 | h80
          ·
           refine vcIntro [false, true, false, true, false, false, false, false, false, true, true] (an (an h75 (an h80 (an h79 (an h78 (an h76 (an h77 (an h76 (an h75 (an h2 (an h1 (an h0 tt))))))))))) (an (an (an (show (if k = (0 : Int) ∧ a = (0 : Int) then x else (-1 : Int)) = (-1 : Int) by (simp at *; omega)) (an (show (if k = (0 : Int) ∧ a = (1 : Int) then x else (-1 : Int)) = (-1 : Int) by (simp at *; omega)) (an (show (if k = (0 : Int) ∧ a = (2 : Int) then x else (-1 : Int)) = (-1 : Int) by (simp at *; omega)) (an (show (if k = (0 : Int) ∧ a = (3 : Int) then x else (-1 : Int)) = (-1 : Int) by (simp at *; omega)) (an (show decide (k = (6 : Int) ∧ a = (0 : Int)) = (k == (6 : Int)) by (simp at *; simp [*]; done)) (an (show decide (k = (6 : Int) ∧ a = (1 : Int)) = false by (simp at *; omega)) (an (show decide (k = (6 : Int) ∧ a = (2 : Int)) = false by (simp at *; omega)) (an (show decide (k = (6 : Int) ∧ a = (3 : Int)) = false by (simp at *; omega)) (show decide (k = (6 : Int) ∧ a = (4 : Int)) = false by (simp at *; omega)))))))))) (an (an tt (an tt tt)) tt)) tt)) ?_
           kernel_rfl
          · exact ff (by (simp at *; omega))
     ·
      rcases Bool.eq_false_or_eq_true (decide (a = (1 : Int))) with h81 | h81
      ·
       rcases Bool.eq_false_or_eq_true (k == (9 : Int)) with h82 | h82
       · exact ff (by (simp at *; omega))
       ·
        rcases Bool.eq_false_or_eq_true (k == (7 : Int)) with h83 | h83
        ·
         refine vcIntro [false, true, false, false, true, false, true] (an (an h83 (an h82 (an h81 (an h75 (an h2 (an h1 (an h0 tt))))))) (an (an (an (show (if k = (0 : Int) ∧ a = (0 : Int) then x else (-1 : Int)) = (-1 : Int) by (simp at *; omega)) (an (show (if k = (0 : Int) ∧ a = (1 : Int) then x else (-1 : Int)) = (-1 : Int) by (simp at *; omega)) (an (show (if k = (0 : Int) ∧ a = (2 : Int) then x else (-1 : Int)) = (-1 : Int) by (simp at *; omega)) (an (show (if k = (0 : Int) ∧ a = (3 : Int) then x else (-1 : Int)) = (-1 : Int) by (simp at *; omega)) (an (show decide (k = (6 : Int) ∧ a = (0 : Int)) = false by (simp at *; omega)) (an (show decide (k = (6 : Int) ∧ a = (1 : Int)) = false by (simp at *; omega)) (an (show decide (k = (6 : Int) ∧ a = (2 : Int)) = false by (simp at *; omega)) (an (show decide (k = (6 : Int) ∧ a = (3 : Int)) = false by (simp at *; omega)) (show decide (k = (6 : Int) ∧ a = (4 : Int)) = false by (simp at *; omega)))))))))) (an (an tt (an tt tt)) tt)) tt)) ?_
         kernel_rfl
        ·
         rcases Bool.eq_false_or_eq_true (k == (10 : Int)) with h84 | h84
         ·
          refine vcIntro [false, true, false, false, true, false, false, false, true] (an (an h84 (an h82 (an h83 (an h82 (an h81 (an h75 (an h2 (an h1 (an h0 tt))))))))) (an (an (an (show (if k = (0 : Int) ∧ a = (0 : Int) then x else (-1 : Int)) = (-1 : Int) by (simp at *; omega)) (an (show (if k = (0 : Int) ∧ a = (1 : Int) then x else (-1 : Int)) = (-1 : Int) by (simp at *; omega)) (an (show (if k = (0 : Int) ∧ a = (2 : Int) then x else (-1 : Int)) = (-1 : Int) by (simp at *; omega)) (an (show (if k = (0 : Int) ∧ a = (3 : Int) then x else (-1 : Int)) = (-1 : Int) by (simp at *; omega)) (an (show decide (k = (6 : Int) ∧ a = (0 : Int)) = false by (simp at *; omega)) (an (show decide (k = (6 : Int) ∧ a = (1 : Int)) = false by (simp at *; omega)) (an (show decide (k = (6 : Int) ∧ a = (2 : Int)) = false by (simp at *; omega)) (an (show decide (k = (6 : Int) ∧ a = (3 : Int)) = false by (simp at *; omega)) (show decide (k = (6 : Int) ∧ a = (4 : Int)) = false by (simp at *; omega)))))))))) (an (an tt (an tt tt)) tt)) tt)) ?_
          kernel_rfl
         ·
          rcases Bool.eq_false_or_eq_true (k == (8 : Int)) with h85 | h85
          ·
           refine vcIntro [false, true, false, false, true, false, false, false, false, true] (an (an h85 (an h84 (an h82 (an h83 (an h82 (an h81 (an h75 (an h2 (an h1 (an h0 tt)))))))))) (an (an (an (show (if k = (0 : Int) ∧ a = (0 : Int) then x else (-1 : Int)) = (-1 : Int) by (simp at *; omega)) (an (show (if k = (0 : Int) ∧ a = (1 : Int) then x else (-1 : Int)) = (-1 : Int) by (simp at *; omega)) (an (show (if k = (0 : Int) ∧ a = (2 : Int) then x else (-1 : Int)) = (-1 : Int) by (simp at *; omega)) (an (show (if k = (0 : Int) ∧ a = (3 : Int) then x else (-1 : Int)) = (-1 : Int) by (simp at *; omega)) (an (show decide (k = (6 : Int) ∧ a = (0 : Int)) = false by (simp at *; omega)) (an (show decide (k = (6 : Int) ∧ a = (1 : Int)) = false by (simp at *; omega)) (an (show decide (k = (6 : Int) ∧ a = (2 : Int)) = false by (simp at *; omega)) (an (show decide (k = (6 : Int) ∧ a = (3 : Int)) = false by (simp at *; omega)) (show decide (k = (6 : Int) ∧ a = (4 : Int)) = false by (simp at *; omega)))))))))) (an (an tt (an tt tt)) tt)) tt)) ?_
           kernel_rfl
          ·
           rcases Bool.eq_false_or_eq_true (k == (6 : Int)) with h86 | h86
           ·
            refine vcIntro [false, true, false, false, true, false, false, false, false, false, true, false, true] (an (an h81 (an h75 (an h86 (an h85 (an h84 (an h82 (an h83 (an h82 (an h81 (an h75 (an h2 (an h1 (an h0 tt))))))))))))) (an (an (an (show (if k = (0 : Int) ∧ a = (0 : Int) then x else (-1 : Int)) = (-1 : Int) by (simp at *; omega)) (an (show (if k = (0 : Int) ∧ a = (1 : Int) then x else (-1 : Int)) = (-1 : Int) by (simp at *; omega)) (an (show (if k = (0 : Int) ∧ a = (2 : Int) then x else (-1 : Int)) = (-1 : Int) by (simp at *; omega)) (an (show (if k = (0 : Int) ∧ a = (3 : Int) then x else (-1 : Int)) = (-1 : Int) by (simp at *; omega)) (an (show decide (k = (6 : Int) ∧ a = (0 : Int)) = false by (simp at *; omega)) (an (show decide (k = (6 : Int) ∧ a = (1 : Int)) = (k == (6 : Int)) by (simp at *; simp [*]; done)) (an (show decide (k = (6 : Int) ∧ a = (2 : Int)) = false by (simp at *; omega)) (an (show decide (k = (6 : Int) ∧ a = (3 : Int)) = false by (simp at *; omega)) (show decide (k = (6 : Int) ∧ a = (4 : Int)) = false by (simp at *; omega)))))))))) (an (an tt (an tt tt)) tt)) tt)) ?_
            kernel_rfl
           · exact ff (by (simp at *; omega))
      ·
       rcases Bool.eq_false_or_eq_true (decide (a = (2 : Int))) with h87 | h87
       ·
        rcases Bool.eq_false_or_eq_true (k == (9 : Int)) with h88 | h88
        · exact ff (by (simp at *; omega))
        ·
         rcases Bool.eq_false_or_eq_true (k == (7 : Int)) with h89 | h89
         ·
          refine vcIntro [false, true, false, false, false, true, false, true] (an (an h89 (an h88 (an h87 (an h81 (an h75 (an h2 (an h1 (an h0 tt)))))))) (an (an (an (show (if k = (0 : Int) ∧ a = (0 : Int) then x else (-1 : Int)) = (-1 : Int) by (simp at *; omega)) (an (show (if k = (0 : Int) ∧ a = (1 : Int) then x else (-1 : Int)) = (-1 : Int) by (simp at *; omega)) (an (show (if k = (0 : Int) ∧ a = (2 : Int) then x else (-1 : Int)) = (-1 : Int) by (simp at *; omega)) (an (show (if k = (0 : Int) ∧ a = (3 : Int) then x else (-1 : Int)) = (-1 : Int) by (simp at *; omega)) (an (show decide (k = (6 : Int) ∧ a = (0 : Int)) = false by (simp at *; omega)) (an (show decide (k = (6 : Int) ∧ a = (1 : Int)) = false by (simp at *; omega)) (an (show decide (k = (6 : Int) ∧ a = (2 : Int)) = false by (simp at *; omega)) (an (show decide (k = (6 : Int) ∧ a = (3 : Int)) = false by (simp at *; omega)) (show decide (k = (6 : Int) ∧ a = (4 : Int)) = false by (simp at *; omega)))))))))) (an (an tt (an tt tt)) tt)) tt)) ?_
          kernel_rfl
         ·
          rcases Bool.eq_false_or_eq_true (k == (10 : Int)) with h90 | h90
          ·
           refine vcIntro [false, true, false, false, false, true, false, false, false, true] (an (an h90 (an h88 (an h89 (an h88 (an h87 (an h81 (an h75 (an h2 (an h1 (an h0 tt)))))))))) (an (an (an (show (if k = (0 : Int) ∧ a = (0 : Int) then x else (-1 : Int)) = (-1 : Int) by (simp at *; omega)) (an (show (if k = (0 : Int) ∧ a = (1 : Int) then x else (-1 : Int)) = (-1 : Int) by (simp at *; omega)) (an (show (if k = (0 : Int) ∧ a = (2 : Int) then x else (-1 : Int)) = (-1 : Int) by (simp at *; omega)) (an (show (if k = (0 : Int) ∧ a = (3 : Int) then x else (-1 : Int)) = (-1 : Int) by (simp at *; omega)) (an (show decide (k = (6 : Int) ∧ a = (0 : Int)) = false by (simp at *; omega)) (an (show decide (k = (6 : Int) ∧ a = (1 : Int)) = false by (simp at *; omega)) (an (show decide (k = (6 : Int) ∧ a = (2 : Int)) = false by (simp at *; omega)) (an (show decide (k = (6 : Int) ∧ a = (3 : Int)) = false by (simp at *; omega)) (show decide (k = (6 : Int) ∧ a = (4 : Int)) = false by (simp at *; omega)))))))))) (an (an tt (an tt tt)) tt)) tt)) ?_
           kernel_rfl
          ·
           rcases Bool.eq_false_or_eq_true (k == (8 : Int)) with h91 | h91
           ·
            refine vcIntro [false, true, false, false, false, true, false, false, false, false, true] (an (an h91 (an h90 (an h88 (an h89 (an h88 (an h87 (an h81 (an h75 (an h2 (an h1 (an h0 tt))))))))))) (an (an (an (show (if k = (0 : Int) ∧ a = (0 : Int) then x else (-1 : Int)) = (-1 : Int) by (simp at *; omega)) (an (show (if k = (0 : Int) ∧ a = (1 : Int) then x else (-1 : Int)) = (-1 : Int) by (simp at *; omega)) (an (show (if k = (0 : Int) ∧ a = (2 : Int) then x else (-1 : Int)) = (-1 : Int) by (simp at *; omega)) (an (show (if k = (0 : Int) ∧ a = (3 : Int) then x else (-1 : Int)) = (-1 : Int) by (simp at *; omega)) (an (show decide (k = (6 : Int) ∧ a = (0 : Int)) = false by (simp at *; omega)) (an (show decide (k = (6 : Int) ∧ a = (1 : Int)) = false by (simp at *; omega)) (an (show decide (k = (6 : Int) ∧ a = (2 : Int)) = false by (simp at *; omega)) (an (show decide (k = (6 : Int) ∧ a = (3 : Int)) = false by (simp at *; omega)) (show decide (k = (6 : Int) ∧ a = (4 : Int)) = false by (simp at *; omega)))))))))) (an (an tt (an tt tt)) tt)) tt)) ?_
            kernel_rfl
           ·
            rcases Bool.eq_false_or_eq_true (k == (6 : Int)) with h92 | h92
            ·
             refine vcIntro [false, true, false, false, false, true, false, false, false, false, false, true, false, false, true] (an (an h87 (an h81 (an h75 (an h92 (an h91 (an h90 (an h88 (an h89 (an h88 (an h87 (an h81 (an h75 (an h2 (an h1 (an h0 tt))))))))))))))) (an (an (an (show (if k = (0 : Int) ∧ a = (0 : Int) then x else (-1 : Int)) = (-1 : Int) by (simp at *; omega)) (an (show (if k = (0 : Int) ∧ a = (1 : Int) then x else (-1 : Int)) = (-1 : Int) by (simp at *; omega)) (an (show (if k = (0 : Int) ∧ a = (2 : Int) then x else (-1 : Int)) = (-1 : Int) by (simp at *; omega)) (an (show (if k = (0 : Int) ∧ a = (3 : Int) then x else (-1 : Int)) = (-1 : Int) by (simp at *; omega)) (an (show decide (k = (6 : Int) ∧ a = (0 : Int)) = false by (simp at *; omega)) (an (show decide (k = (6 : Int) ∧ a = (1 : Int)) = false by (simp at *; omega)) (an (show decide (k = (6 : Int) ∧ a = (2 : Int)) = (k == (6 : Int)) by (simp at *; simp [*]; done)) (an (show decide (k = (6 : Int) ∧ a = (3 : Int)) = false by (simp at *; omega)) (show decide (k = (6 : Int) ∧ a = (4 : Int)) = false by (simp at *; omega)))))))))) (an (an tt (an tt tt)) tt)) tt)) ?_
             kernel_rfl
            · exact ff (by (simp at *; omega))
       ·
        rcases Bool.eq_false_or_eq_true (decide (a = (3 : Int))) with h93 | h93
        ·
         rcases Bool.eq_false_or_eq_true (k == (9 : Int)) with h94 | h94
         · exact ff (by (simp at *; omega))
         ·
          rcases Bool.eq_false_or_eq_true (k == (7 : Int)) with h95 | h95
          ·
           refine vcIntro [false, true, false, false, false, false, true, false, true] (an (an h95 (an h94 (an h93 (an h87 (an h81 (an h75 (an h2 (an h1 (an h0 tt))))))))) (an (an (an (show (if k = (0 : Int) ∧ a = (0 : Int) then x else (-1 : Int)) = (-1 : Int) by (simp at *; omega)) (an (show (if k = (0 : Int) ∧ a = (1 : Int) then x else (-1 : Int)) = (-1 : Int) by (simp at *; omega)) (an (show (if k = (0 : Int) ∧ a = (2 : Int) then x else (-1 : Int)) = (-1 : Int) by (simp at *; omega)) (an (show (if k = (0 : Int) ∧ a = (3 : Int) then x else (-1 : Int)) = (-1 : Int) by (simp at *; omega)) (an (show decide (k = (6 : Int) ∧ a = (0 : Int)) = false by (simp at *; omega)) (an (show decide (k = (6 : Int) ∧ a = (1 : Int)) = false by (simp at *; omega)) (an (show decide (k = (6 : Int) ∧ a = (2 : Int)) = false by (simp at *; omega)) (an (show decide (k = (6 : Int) ∧ a = (3 : Int)) = false by (simp at *; omega)) (show decide (k = (6 : Int) ∧ a = (4 : Int)) = false by (simp at *; omega)))))))))) (an (an tt (an tt tt)) tt)) tt)) ?_
           kernel_rfl
          ·
           rcases Bool.eq_false_or_eq_true (k == (10 : Int)) with h96 | h96
           ·
            refine vcIntro [false, true, false, false, false, false, true, false, false, false, true] (an (an h96 (an h94 (an h95 (an h94 (an h93 (an h87 (an h81 (an h75 (an h2 (an h1 (an h0 tt))))))))))) (an (an (an (show (if k = (0 : Int) ∧ a = (0 : Int) then x else (-1 : Int)) = (-1 : Int) by (simp at *; omega)) (an (show (if k = (0 : Int) ∧ a = (1 : Int) then x else (-1 : Int)) = (-1 : Int) by (simp at *; omega)) (an (show (if k = (0 : Int) ∧ a = (2 : Int) then x else (-1 : Int)) = (-1 : Int) by (simp at *; omega)) (an (show (if k = (0 : Int) ∧ a = (3 : Int) then x else (-1 : Int)) = (-1 : Int) by (simp at *; omega)) (an (show decide (k = (6 : Int) ∧ a = (0 : Int)) = false by (simp at *; omega)) (an (show decide (k = (6 : Int) ∧ a = (1 : Int)) = false by (simp at *; omega)) (an (show decide (k = (6 : Int) ∧ a = (2 : Int)) = false by (simp at *; omega)) (an (show decide (k = (6 : Int) ∧ a = (3 : Int)) = false by (simp at *; omega)) (show decide (k = (6 : Int) ∧ a = (4 : Int)) = false by (simp at *; omega)))))))))) (an (an tt (an tt tt)) tt)) tt)) ?_
            kernel_rfl
           ·
            rcases Bool.eq_false_or_eq_true (k == (8 : Int)) with h97 | h97
            ·
             refine vcIntro [false, true, false, false, false, false, true, false, false, false, false, true] (an (an h97 (an h96 (an h94 (an h95 (an h94 (an h93 (an h87 (an h81 (an h75 (an h2 (an h1 (an h0 tt)))))))))))) (an (an (an (show (if k = (0 : Int) ∧ a = (0 : Int) then x else (-1 : Int)) = (-1 : Int) by (simp at *; omega)) (an (show (if k = (0 : Int) ∧ a = (1 : Int) then x else (-1 : Int)) = (-1 : Int) by (simp at *; omega)) (an (show (if k = (0 : Int) ∧ a = (2 : Int) then x else (-1 : Int)) = (-1 : Int) by (simp at *; omega)) (an (show (if k = (0 : Int) ∧ a = (3 : Int) then x else (-1 : Int)) = (-1 : Int) by (simp at *; omega)) (an (show decide (k = (6 : Int) ∧ a = (0 : Int)) = false by (simp at *; omega)) (an (show decide (k = (6 : Int) ∧ a = (1 : Int)) = false by (simp at *; omega)) (an (show decide (k = (6 : Int) ∧ a = (2 : Int)) = false by (simp at *; omega)) (an (show decide (k = (6 : Int) ∧ a = (3 : Int)) = false by (simp at *; omega)) (show decide (k = (6 : Int) ∧ a = (4 : Int)) = false by (simp at *; omega)))))))))) (an (an tt (an tt tt)) tt)) tt)) ?_
             kernel_rfl
            ·
             rcases Bool.eq_false_or_eq_true (k == (6 : Int)) with h98 | h98
             ·
              refine vcIntro [false, true, false, false, false, false, true, false, false, false, false, false, true, false, false, false, true] (an (an h93 (an h87 (an h81 (an h75 (an h98 (an h97 (an h96 (an h94 (an h95 (an h94 (an h93 (an h87 (an h81 (an h75 (an h2 (an h1 (an h0 tt))))))))))))))))) (an (an (an (show (if k = (0 : Int) ∧ a = (0 : Int) then x else (-1 : Int)) = (-1 : Int) by (simp at *; omega)) (an (show (if k = (0 : Int) ∧ a = (1 : Int) then x else (-1 : Int)) = (-1 : Int) by (simp at *; omega)) (an (show (if k = (0 : Int) ∧ a = (2 : Int) then x else (-1 : Int)) = (-1 : Int) by (simp at *; omega)) (an (show (if k = (0 : Int) ∧ a = (3 : Int) then x else (-1 : Int)) = (-1 : Int) by (simp at *; omega)) (an (show decide (k = (6 : Int) ∧ a = (0 : Int)) = false by (simp at *; omega)) (an (show decide (k = (6 : Int) ∧ a = (1 : Int)) = false by (simp at *; omega)) (an (show decide (k = (6 : Int) ∧ a = (2 : Int)) = false by (simp at *; omega)) (an (show decide (k = (6 : Int) ∧ a = (3 : Int)) = (k == (6 : Int)) by (simp at *; simp [*]; done)) (show decide (k = (6 : Int) ∧ a = (4 : Int)) = false by (simp at *; omega)))))))))) (an (an tt (an tt tt)) tt)) tt)) ?_
              kernel_rfl
             · exact ff (by (simp at *; omega))
        ·
         rcases Bool.eq_false_or_eq_true (decide (a = (4 : Int))) with h99 | h99
         ·
          rcases Bool.eq_false_or_eq_true (k == (9 : Int)) with h100 | h100
          · exact ff (by (simp at *; omega))
          ·
           rcases Bool.eq_false_or_eq_true (k == (7 : Int)) with h101 | h101
           ·
            refine vcIntro [false, true, false, false, false, false, false, true, false, true] (an (an h101 (an h100 (an h99 (an h93 (an h87 (an h81 (an h75 (an h2 (an h1 (an h0 tt)))))))))) (an (an (an (show (if k = (0 : Int) ∧ a = (0 : Int) then x else (-1 : Int)) = (-1 : Int) by (simp at *; omega)) (an (show (if k = (0 : Int) ∧ a = (1 : Int) then x else (-1 : Int)) = (-1 : Int) by (simp at *; omega)) (an (show (if k = (0 : Int) ∧ a = (2 : Int) then x else (-1 : Int)) = (-1 : Int) by (simp at *; omega)) (an (show (if k = (0 : Int) ∧ a = (3 : Int) then x else (-1 : Int)) = (-1 : Int) by (simp at *; omega)) (an (show decide (k = (6 : Int) ∧ a = (0 : Int)) = false by (simp at *; omega)) (an (show decide (k = (6 : Int) ∧ a = (1 : Int)) = false by (simp at *; omega)) (an (show decide (k = (6 : Int) ∧ a = (2 : Int)) = false by (simp at *; omega)) (an (show decide (k = (6 : Int) ∧ a = (3 : Int)) = false by (simp at *; omega)) (show decide (k = (6 : Int) ∧ a = (4 : Int)) = false by (simp at *; omega)))))))))) (an (an tt (an tt tt)) tt)) tt)) ?_
            kernel_rfl
           ·
            rcases Bool.eq_false_or_eq_true (k == (10 : Int)) with h102 | h102
            ·
             refine vcIntro [false, true, false, false, false, false, false, true, false, false, false, true] (an (an h102 (an h100 (an h101 (an h100 (an h99 (an h93 (an h87 (an h81 (an h75 (an h2 (an h1 (an h0 tt)))))))))))) (an (an (an (show (if k = (0 : Int) ∧ a = (0 : Int) then x else (-1 : Int)) = (-1 : Int) by (simp at *; omega)) (an (show (if k = (0 : Int) ∧ a = (1 : Int) then x else (-1 : Int)) = (-1 : Int) by (simp at *; omega)) (an (show (if k = (0 : Int) ∧ a = (2 : Int) then x else (-1 : Int)) = (-1 : Int) by (simp at *; omega)) (an (show (if k = (0 : Int) ∧ a = (3 : Int) then x else (-1 : Int)) = (-1 : Int) by (simp at *; omega)) (an (show decide (k = (6 : Int) ∧ a = (0 : Int)) = false by (simp at *; omega)) (an (show decide (k = (6 : Int) ∧ a = (1 : Int)) = false by (simp at *; omega)) (an (show decide (k = (6 : Int) ∧ a = (2 : Int)) = false by (simp at *; omega)) (an (show decide (k = (6 : Int) ∧ a = (3 : Int)) = false by (simp at *; omega)) (show decide (k = (6 : Int) ∧ a = (4 : Int)) = false by (simp at *; omega)))))))))) (an (an tt (an tt tt)) tt)) tt)) ?_
             kernel_rfl
            ·
             rcases Bool.eq_false_or_eq_true (k == (8 : Int)) with h103 | h103
             ·
              refine vcIntro [false, true, false, false, false, false, false, true, false, false, false, false, true] (an (an h103 (an h102 (an h100 (an h101 (an h100 (an h99 (an h93 (an h87 (an h81 (an h75 (an h2 (an h1 (an h0 tt))))))))))))) (an (an (an (show (if k = (0 : Int) ∧ a = (0 : Int) then x else (-1 : Int)) = (-1 : Int) by (simp at *; omega)) (an (show (if k = (0 : Int) ∧ a = (1 : Int) then x else (-1 : Int)) = (-1 : Int) by (simp at *; omega)) (an (show (if k = (0 : Int) ∧ a = (2 : Int) then x else (-1 : Int)) = (-1 : Int) by (simp at *; omega)) (an (show (if k = (0 : Int) ∧ a = (3 : Int) then x else (-1 : Int)) = (-1 : Int) by (simp at *; omega)) (an (show decide (k = (6 : Int) ∧ a = (0 : Int)) = false by (simp at *; omega)) (an (show decide (k = (6 : Int) ∧ a = (1 : Int)) = false by (simp at *; omega)) (an (show decide (k = (6 : Int) ∧ a = (2 : Int)) = false by (simp at *; omega)) (an (show decide (k = (6 : Int) ∧ a = (3 : Int)) = false by (simp at *; omega)) (show decide (k = (6 : Int) ∧ a = (4 : Int)) = false by (simp at *; omega)))))))))) (an (an tt (an tt tt)) tt)) tt)) ?_
              kernel_rfl
             ·
              rcases Bool.eq_false_or_eq_true (k == (6 : Int)) with h104 | h104
              ·
               refine vcIntro [false, true, false, false, false, false, false, true, false, false, false, false, false, true, false, false, false, false, true] (an (an h99 (an h93 (an h87 (an h81 (an h75 (an h104 (an h103 (an h102 (an h100 (an h101 (an h100 (an h99 (an h93 (an h87 (an h81 (an h75 (an h2 (an h1 (an h0 tt))))))))))))))))))) (an (an (an (show (if k = (0 : Int) ∧ a = (0 : Int) then x else (-1 : Int)) = (-1 : Int) by (simp at *; omega)) (an (show (if k = (0 : Int) ∧ a = (1 : Int) then x else (-1 : Int)) = (-1 : Int) by (simp at *; omega)) (an (show (if k = (0 : Int) ∧ a = (2 : Int) then x else (-1 : Int)) = (-1 : Int) by (simp at *; omega)) (an (show (if k = (0 : Int) ∧ a = (3 : Int) then x else (-1 : Int)) = (-1 : Int) by (simp at *; omega)) (an (show decide (k = (6 : Int) ∧ a = (0 : Int)) = false by (simp at *; omega)) (an (show decide (k = (6 : Int) ∧ a = (1 : Int)) = false by (simp at *; omega)) (an (show decide (k = (6 : Int) ∧ a = (2 : Int)) = false by (simp at *; omega)) (an (show decide (k = (6 : Int) ∧ a = (3 : Int)) = false by (simp at *; omega)) (show decide (k = (6 : Int) ∧ a = (4 : Int)) = (k == (6 : Int)) by (simp at *; simp [*]; done)))))))))) (an (an tt (an tt tt)) tt)) tt)) ?_
               kernel_rfl
              · exact ff (by (simp at *; omega))
         · exact ff (by (simp at *; omega))
   · exact ff (by (simp at *; omega))
end Go.Ideal.M1
