/- BankNeeds: what is asked for; its rounds. Written by gen/needs.py. Own text. -/
import Derived.Test.YtmkgiejjapljpaaB6
import Derived.Test.YtmkgiejjapljpaaR11
import Derived.Test.YtmkgiejjapljpaaI26
namespace Go.Ideal.B1
open Go.Proofs Go.Ideal Go.Ideal.L1
set_option linter.unusedSimpArgs false
set_option linter.unusedVariables false
set_option linter.defProp false
set_option maxRecDepth 100000
set_option maxHeartbeats 80000000

def upd (g : Nat → Int) (k : Nat) (x : Int) (j : Nat) : Int := if j = k then x else g j
def nbL (b : Nat → Bool) : List V := [.bool (.s (b 0)), .bool (.s (b 1)), .bool (.s (b 2)), .bool (.s (b 3)), .bool (.s (b 4)), .bool (.s (b 5)), .bool (.s (b 6)), .bool (.s (b 7)), .bool (.s (b 8)), .bool (.s (b 9)), .bool (.s (b 10)), .bool (.s (b 11)), .bool (.s (b 12)), .bool (.s (b 13)), .bool (.s (b 14)), .bool (.s (b 15))]
def niL (p : Nat → Int) : List V := [.int .i64 (.s (p 0)), .int .i64 (.s (p 1)), .int .i64 (.s (p 2)), .int .i64 (.s (p 3)), .int .i64 (.s (p 4)), .int .i64 (.s (p 5)), .int .i64 (.s (p 6)), .int .i64 (.s (p 7)), .int .i64 (.s (p 8)), .int .i64 (.s (p 9)), .int .i64 (.s (p 10)), .int .i64 (.s (p 11)), .int .i64 (.s (p 12)), .int .i64 (.s (p 13)), .int .i64 (.s (p 14)), .int .i64 (.s (p 15))]
def naL : List V := List.replicate 16 .any
def nT (y : Int) (i : Nat) : List (Nat × V) := [(3, .ptr 0 (.c 0)), (4, .ptr 1 (.c 0)), (7, .int .i64 (.s y)), (8, .int .i64 (.s i))]
def nO (k a o x : Int) : Option Blk := some (.own false 48 (fun _ => 0) 0 [.int .i64 (.s k), .int .i64 (.s a), .int .i64 (.s o), .int .i64 (.s x)])
def nV (b : Nat → Bool) (p q : Nat → Int) : Option Blk := some (.own false 46 (fun _ => 0) 0 (nbL b ++ (niL p ++ niL q)))
def nB (b : Nat → Bool) (p q : Nat → Int) (k a o x : Int) : List (Option Blk) := [nV b p q, nO k a o x]
def nVa (b : Nat → Bool) (q : Nat → Int) : Option Blk := some (.own false 46 (fun _ => 0) 0 (nbL b ++ (naL ++ niL q)))
def nA (w : Nat → Int) (s : V) : Option Blk := some (.own false 51 (fun _ => 0) 0 (.any :: (naL ++ (naL ++ (niL w ++ [s])))))
def nT1 (y : Int) (i : Nat) (c : E) : List (Nat × V) := nT y i ++ [(9, .ptr 3 (.c 0)), (11, .ptr 4 (.c 0)), (12, .int .i64 c)]
def nB1 (b : Nat → Bool) (q : Nat → Int) (k a o x C N : Int) (w r s : Nat → Int) : List (Option Blk) := [nVa b q, nO k a o x, some (.own false 65 (fun _ => 0) 0 [.int .i64 (.s C), .int .i64 (.s N)]), nA w (.slice 2 (.c 0) (.c 1) 2 (.c 1)), nV b r s]
def nT2 (y : Int) (i : Nat) (c : E) : List (Nat × V) := nT y i ++ [(9, .ptr 3 (.c 0)), (13, .ptr 6 (.c 0)), (15, .int .i64 c)]
def nB2 (b : Nat → Bool) (q w u : Nat → Int) : List (Option Blk) := [nVa b q, none, none, nA w .any, none, none, nA u .any]
def ndW (b : Nat → Bool) (p q : Nat → Int) (k a o x : Int) (j : Nat) : Int := if j < 4 then bkNow (q 0) (q 1) (q 2) (q 3) k a o x j else q j
theorem cB10_0 (b : Nat → Bool) {R : Prop} (h : R) : ((b (0 : Nat)) : Bool) = (b (0 : Nat)) ∧ (((b (1 : Nat)) : Bool) = (b (1 : Nat)) ∧ (((b (2 : Nat)) : Bool) = (b (2 : Nat)) ∧ (((b (3 : Nat)) : Bool) = (b (3 : Nat)) ∧ (((b (4 : Nat)) : Bool) = (b (4 : Nat)) ∧ (((b (5 : Nat)) : Bool) = (b (5 : Nat)) ∧ (((b (6 : Nat)) : Bool) = (b (6 : Nat)) ∧ (((b (7 : Nat)) : Bool) = (b (7 : Nat)) ∧ (((b (8 : Nat)) : Bool) = (b (8 : Nat)) ∧ (((b (9 : Nat)) : Bool) = (b (9 : Nat)) ∧ (((b (10 : Nat)) : Bool) = (b (10 : Nat)) ∧ (((b (11 : Nat)) : Bool) = (b (11 : Nat)) ∧ (((b (12 : Nat)) : Bool) = (b (12 : Nat)) ∧ (((b (13 : Nat)) : Bool) = (b (13 : Nat)) ∧ (((b (14 : Nat)) : Bool) = (b (14 : Nat)) ∧ (((b (15 : Nat)) : Bool) = (b (15 : Nat)) ∧ (R)))))))))))))))) := ⟨rfl, ⟨rfl, ⟨rfl, ⟨rfl, ⟨rfl, ⟨rfl, ⟨rfl, ⟨rfl, ⟨rfl, ⟨rfl, ⟨rfl, ⟨rfl, ⟨rfl, ⟨rfl, ⟨rfl, ⟨rfl, h⟩⟩⟩⟩⟩⟩⟩⟩⟩⟩⟩⟩⟩⟩⟩⟩
theorem cB10_1 (b : Nat → Bool) (q : Nat → Int) {R : Prop} (h : R) : ((b (0 : Nat)) : Bool) = (b (0 : Nat)) ∧ (((b (1 : Nat)) : Bool) = (b (1 : Nat)) ∧ (((b (2 : Nat)) : Bool) = (b (2 : Nat)) ∧ (((b (3 : Nat)) : Bool) = (b (3 : Nat)) ∧ (((b (4 : Nat)) : Bool) = (b (4 : Nat)) ∧ (((b (5 : Nat)) : Bool) = (b (5 : Nat)) ∧ (((b (6 : Nat)) : Bool) = (b (6 : Nat)) ∧ (((b (7 : Nat)) : Bool) = (b (7 : Nat)) ∧ (((b (8 : Nat)) : Bool) = (b (8 : Nat)) ∧ (((b (9 : Nat)) : Bool) = (b (9 : Nat)) ∧ (((b (10 : Nat)) : Bool) = (b (10 : Nat)) ∧ (((b (11 : Nat)) : Bool) = (b (11 : Nat)) ∧ (((b (12 : Nat)) : Bool) = (b (12 : Nat)) ∧ (((b (13 : Nat)) : Bool) = (b (13 : Nat)) ∧ (((b (14 : Nat)) : Bool) = (b (14 : Nat)) ∧ (((b (15 : Nat)) : Bool) = (b (15 : Nat)) ∧ (True ∧ (True ∧ (True ∧ (True ∧ (True ∧ (True ∧ (True ∧ (True ∧ (True ∧ (True ∧ (True ∧ (True ∧ (True ∧ (True ∧ (True ∧ (True ∧ (((q (0 : Nat)) : Int) = (q (0 : Nat)) ∧ (((q (1 : Nat)) : Int) = (q (1 : Nat)) ∧ (((q (2 : Nat)) : Int) = (q (2 : Nat)) ∧ (((q (3 : Nat)) : Int) = (q (3 : Nat)) ∧ (((q (4 : Nat)) : Int) = (q (4 : Nat)) ∧ (((q (5 : Nat)) : Int) = (q (5 : Nat)) ∧ (((q (6 : Nat)) : Int) = (q (6 : Nat)) ∧ (((q (7 : Nat)) : Int) = (q (7 : Nat)) ∧ (((q (8 : Nat)) : Int) = (q (8 : Nat)) ∧ (((q (9 : Nat)) : Int) = (q (9 : Nat)) ∧ (((q (10 : Nat)) : Int) = (q (10 : Nat)) ∧ (((q (11 : Nat)) : Int) = (q (11 : Nat)) ∧ (((q (12 : Nat)) : Int) = (q (12 : Nat)) ∧ (((q (13 : Nat)) : Int) = (q (13 : Nat)) ∧ (((q (14 : Nat)) : Int) = (q (14 : Nat)) ∧ (R))))))))))))))))))))))))))))))))))))))))))))))) := ⟨rfl, ⟨rfl, ⟨rfl, ⟨rfl, ⟨rfl, ⟨rfl, ⟨rfl, ⟨rfl, ⟨rfl, ⟨rfl, ⟨rfl, ⟨rfl, ⟨rfl, ⟨rfl, ⟨rfl, ⟨rfl, ⟨True.intro, ⟨True.intro, ⟨True.intro, ⟨True.intro, ⟨True.intro, ⟨True.intro, ⟨True.intro, ⟨True.intro, ⟨True.intro, ⟨True.intro, ⟨True.intro, ⟨True.intro, ⟨True.intro, ⟨True.intro, ⟨True.intro, ⟨True.intro, ⟨rfl, ⟨rfl, ⟨rfl, ⟨rfl, ⟨rfl, ⟨rfl, ⟨rfl, ⟨rfl, ⟨rfl, ⟨rfl, ⟨rfl, ⟨rfl, ⟨rfl, ⟨rfl, ⟨rfl, h⟩⟩⟩⟩⟩⟩⟩⟩⟩⟩⟩⟩⟩⟩⟩⟩⟩⟩⟩⟩⟩⟩⟩⟩⟩⟩⟩⟩⟩⟩⟩⟩⟩⟩⟩⟩⟩⟩⟩⟩⟩⟩⟩⟩⟩⟩⟩
theorem cB10_2 (w : Nat → Int) {R : Prop} (h : R) : ((w (0 : Nat)) : Int) = (w (0 : Nat)) ∧ (((w (1 : Nat)) : Int) = (w (1 : Nat)) ∧ (((w (2 : Nat)) : Int) = (w (2 : Nat)) ∧ (((w (3 : Nat)) : Int) = (w (3 : Nat)) ∧ (((w (4 : Nat)) : Int) = (w (4 : Nat)) ∧ (((w (5 : Nat)) : Int) = (w (5 : Nat)) ∧ (((w (6 : Nat)) : Int) = (w (6 : Nat)) ∧ (((w (7 : Nat)) : Int) = (w (7 : Nat)) ∧ (((w (8 : Nat)) : Int) = (w (8 : Nat)) ∧ (((w (9 : Nat)) : Int) = (w (9 : Nat)) ∧ (((w (10 : Nat)) : Int) = (w (10 : Nat)) ∧ (((w (11 : Nat)) : Int) = (w (11 : Nat)) ∧ (((w (12 : Nat)) : Int) = (w (12 : Nat)) ∧ (((w (13 : Nat)) : Int) = (w (13 : Nat)) ∧ (((w (14 : Nat)) : Int) = (w (14 : Nat)) ∧ (R))))))))))))))) := ⟨rfl, ⟨rfl, ⟨rfl, ⟨rfl, ⟨rfl, ⟨rfl, ⟨rfl, ⟨rfl, ⟨rfl, ⟨rfl, ⟨rfl, ⟨rfl, ⟨rfl, ⟨rfl, ⟨rfl, h⟩⟩⟩⟩⟩⟩⟩⟩⟩⟩⟩⟩⟩⟩⟩
theorem cB10_3 (r : Nat → Int) {R : Prop} (h : R) : ((r (1 : Nat)) : Int) = (r (1 : Nat)) ∧ (((r (2 : Nat)) : Int) = (r (2 : Nat)) ∧ (((r (3 : Nat)) : Int) = (r (3 : Nat)) ∧ (((r (4 : Nat)) : Int) = (r (4 : Nat)) ∧ (((r (5 : Nat)) : Int) = (r (5 : Nat)) ∧ (((r (6 : Nat)) : Int) = (r (6 : Nat)) ∧ (((r (7 : Nat)) : Int) = (r (7 : Nat)) ∧ (((r (8 : Nat)) : Int) = (r (8 : Nat)) ∧ (((r (9 : Nat)) : Int) = (r (9 : Nat)) ∧ (((r (10 : Nat)) : Int) = (r (10 : Nat)) ∧ (((r (11 : Nat)) : Int) = (r (11 : Nat)) ∧ (((r (12 : Nat)) : Int) = (r (12 : Nat)) ∧ (((r (13 : Nat)) : Int) = (r (13 : Nat)) ∧ (((r (14 : Nat)) : Int) = (r (14 : Nat)) ∧ (((r (15 : Nat)) : Int) = (r (15 : Nat)) ∧ (R))))))))))))))) := ⟨rfl, ⟨rfl, ⟨rfl, ⟨rfl, ⟨rfl, ⟨rfl, ⟨rfl, ⟨rfl, ⟨rfl, ⟨rfl, ⟨rfl, ⟨rfl, ⟨rfl, ⟨rfl, ⟨rfl, h⟩⟩⟩⟩⟩⟩⟩⟩⟩⟩⟩⟩⟩⟩⟩
theorem cB10_4 (s : Nat → Int) {R : Prop} (h : R) : ((s (1 : Nat)) : Int) = (s (1 : Nat)) ∧ (((s (2 : Nat)) : Int) = (s (2 : Nat)) ∧ (((s (3 : Nat)) : Int) = (s (3 : Nat)) ∧ (((s (4 : Nat)) : Int) = (s (4 : Nat)) ∧ (((s (5 : Nat)) : Int) = (s (5 : Nat)) ∧ (((s (6 : Nat)) : Int) = (s (6 : Nat)) ∧ (((s (7 : Nat)) : Int) = (s (7 : Nat)) ∧ (((s (8 : Nat)) : Int) = (s (8 : Nat)) ∧ (((s (9 : Nat)) : Int) = (s (9 : Nat)) ∧ (((s (10 : Nat)) : Int) = (s (10 : Nat)) ∧ (((s (11 : Nat)) : Int) = (s (11 : Nat)) ∧ (((s (12 : Nat)) : Int) = (s (12 : Nat)) ∧ (((s (13 : Nat)) : Int) = (s (13 : Nat)) ∧ (((s (14 : Nat)) : Int) = (s (14 : Nat)) ∧ (R)))))))))))))) := ⟨rfl, ⟨rfl, ⟨rfl, ⟨rfl, ⟨rfl, ⟨rfl, ⟨rfl, ⟨rfl, ⟨rfl, ⟨rfl, ⟨rfl, ⟨rfl, ⟨rfl, ⟨rfl, h⟩⟩⟩⟩⟩⟩⟩⟩⟩⟩⟩⟩⟩⟩
theorem cB10_5 (r : Nat → Int) (s : Nat → Int) {R : Prop} (h : R) : ((r (2 : Nat)) : Int) = (r (2 : Nat)) ∧ (((r (3 : Nat)) : Int) = (r (3 : Nat)) ∧ (((r (4 : Nat)) : Int) = (r (4 : Nat)) ∧ (((r (5 : Nat)) : Int) = (r (5 : Nat)) ∧ (((r (6 : Nat)) : Int) = (r (6 : Nat)) ∧ (((r (7 : Nat)) : Int) = (r (7 : Nat)) ∧ (((r (8 : Nat)) : Int) = (r (8 : Nat)) ∧ (((r (9 : Nat)) : Int) = (r (9 : Nat)) ∧ (((r (10 : Nat)) : Int) = (r (10 : Nat)) ∧ (((r (11 : Nat)) : Int) = (r (11 : Nat)) ∧ (((r (12 : Nat)) : Int) = (r (12 : Nat)) ∧ (((r (13 : Nat)) : Int) = (r (13 : Nat)) ∧ (((r (14 : Nat)) : Int) = (r (14 : Nat)) ∧ (((r (15 : Nat)) : Int) = (r (15 : Nat)) ∧ (((s (0 : Nat)) : Int) = (s (0 : Nat)) ∧ (R))))))))))))))) := ⟨rfl, ⟨rfl, ⟨rfl, ⟨rfl, ⟨rfl, ⟨rfl, ⟨rfl, ⟨rfl, ⟨rfl, ⟨rfl, ⟨rfl, ⟨rfl, ⟨rfl, ⟨rfl, ⟨rfl, h⟩⟩⟩⟩⟩⟩⟩⟩⟩⟩⟩⟩⟩⟩⟩
theorem cB10_6 (s : Nat → Int) {R : Prop} (h : R) : ((s (2 : Nat)) : Int) = (s (2 : Nat)) ∧ (((s (3 : Nat)) : Int) = (s (3 : Nat)) ∧ (((s (4 : Nat)) : Int) = (s (4 : Nat)) ∧ (((s (5 : Nat)) : Int) = (s (5 : Nat)) ∧ (((s (6 : Nat)) : Int) = (s (6 : Nat)) ∧ (((s (7 : Nat)) : Int) = (s (7 : Nat)) ∧ (((s (8 : Nat)) : Int) = (s (8 : Nat)) ∧ (((s (9 : Nat)) : Int) = (s (9 : Nat)) ∧ (((s (10 : Nat)) : Int) = (s (10 : Nat)) ∧ (((s (11 : Nat)) : Int) = (s (11 : Nat)) ∧ (((s (12 : Nat)) : Int) = (s (12 : Nat)) ∧ (((s (13 : Nat)) : Int) = (s (13 : Nat)) ∧ (((s (14 : Nat)) : Int) = (s (14 : Nat)) ∧ (R))))))))))))) := ⟨rfl, ⟨rfl, ⟨rfl, ⟨rfl, ⟨rfl, ⟨rfl, ⟨rfl, ⟨rfl, ⟨rfl, ⟨rfl, ⟨rfl, ⟨rfl, ⟨rfl, h⟩⟩⟩⟩⟩⟩⟩⟩⟩⟩⟩⟩⟩
theorem cB10_7 (r : Nat → Int) (s : Nat → Int) {R : Prop} (h : R) : ((r (3 : Nat)) : Int) = (r (3 : Nat)) ∧ (((r (4 : Nat)) : Int) = (r (4 : Nat)) ∧ (((r (5 : Nat)) : Int) = (r (5 : Nat)) ∧ (((r (6 : Nat)) : Int) = (r (6 : Nat)) ∧ (((r (7 : Nat)) : Int) = (r (7 : Nat)) ∧ (((r (8 : Nat)) : Int) = (r (8 : Nat)) ∧ (((r (9 : Nat)) : Int) = (r (9 : Nat)) ∧ (((r (10 : Nat)) : Int) = (r (10 : Nat)) ∧ (((r (11 : Nat)) : Int) = (r (11 : Nat)) ∧ (((r (12 : Nat)) : Int) = (r (12 : Nat)) ∧ (((r (13 : Nat)) : Int) = (r (13 : Nat)) ∧ (((r (14 : Nat)) : Int) = (r (14 : Nat)) ∧ (((r (15 : Nat)) : Int) = (r (15 : Nat)) ∧ (((s (0 : Nat)) : Int) = (s (0 : Nat)) ∧ (((s (1 : Nat)) : Int) = (s (1 : Nat)) ∧ (R))))))))))))))) := ⟨rfl, ⟨rfl, ⟨rfl, ⟨rfl, ⟨rfl, ⟨rfl, ⟨rfl, ⟨rfl, ⟨rfl, ⟨rfl, ⟨rfl, ⟨rfl, ⟨rfl, ⟨rfl, ⟨rfl, h⟩⟩⟩⟩⟩⟩⟩⟩⟩⟩⟩⟩⟩⟩⟩
theorem cB10_8 (s : Nat → Int) {R : Prop} (h : R) : ((s (3 : Nat)) : Int) = (s (3 : Nat)) ∧ (((s (4 : Nat)) : Int) = (s (4 : Nat)) ∧ (((s (5 : Nat)) : Int) = (s (5 : Nat)) ∧ (((s (6 : Nat)) : Int) = (s (6 : Nat)) ∧ (((s (7 : Nat)) : Int) = (s (7 : Nat)) ∧ (((s (8 : Nat)) : Int) = (s (8 : Nat)) ∧ (((s (9 : Nat)) : Int) = (s (9 : Nat)) ∧ (((s (10 : Nat)) : Int) = (s (10 : Nat)) ∧ (((s (11 : Nat)) : Int) = (s (11 : Nat)) ∧ (((s (12 : Nat)) : Int) = (s (12 : Nat)) ∧ (((s (13 : Nat)) : Int) = (s (13 : Nat)) ∧ (((s (14 : Nat)) : Int) = (s (14 : Nat)) ∧ (R)))))))))))) := ⟨rfl, ⟨rfl, ⟨rfl, ⟨rfl, ⟨rfl, ⟨rfl, ⟨rfl, ⟨rfl, ⟨rfl, ⟨rfl, ⟨rfl, ⟨rfl, h⟩⟩⟩⟩⟩⟩⟩⟩⟩⟩⟩⟩
theorem cB10_9 (r : Nat → Int) (s : Nat → Int) {R : Prop} (h : R) : ((r (4 : Nat)) : Int) = (r (4 : Nat)) ∧ (((r (5 : Nat)) : Int) = (r (5 : Nat)) ∧ (((r (6 : Nat)) : Int) = (r (6 : Nat)) ∧ (((r (7 : Nat)) : Int) = (r (7 : Nat)) ∧ (((r (8 : Nat)) : Int) = (r (8 : Nat)) ∧ (((r (9 : Nat)) : Int) = (r (9 : Nat)) ∧ (((r (10 : Nat)) : Int) = (r (10 : Nat)) ∧ (((r (11 : Nat)) : Int) = (r (11 : Nat)) ∧ (((r (12 : Nat)) : Int) = (r (12 : Nat)) ∧ (((r (13 : Nat)) : Int) = (r (13 : Nat)) ∧ (((r (14 : Nat)) : Int) = (r (14 : Nat)) ∧ (((r (15 : Nat)) : Int) = (r (15 : Nat)) ∧ (((s (0 : Nat)) : Int) = (s (0 : Nat)) ∧ (((s (1 : Nat)) : Int) = (s (1 : Nat)) ∧ (((s (2 : Nat)) : Int) = (s (2 : Nat)) ∧ (R))))))))))))))) := ⟨rfl, ⟨rfl, ⟨rfl, ⟨rfl, ⟨rfl, ⟨rfl, ⟨rfl, ⟨rfl, ⟨rfl, ⟨rfl, ⟨rfl, ⟨rfl, ⟨rfl, ⟨rfl, ⟨rfl, h⟩⟩⟩⟩⟩⟩⟩⟩⟩⟩⟩⟩⟩⟩⟩
theorem cB10_10 (s : Nat → Int) {R : Prop} (h : R) : ((s (4 : Nat)) : Int) = (s (4 : Nat)) ∧ (((s (5 : Nat)) : Int) = (s (5 : Nat)) ∧ (((s (6 : Nat)) : Int) = (s (6 : Nat)) ∧ (((s (7 : Nat)) : Int) = (s (7 : Nat)) ∧ (((s (8 : Nat)) : Int) = (s (8 : Nat)) ∧ (((s (9 : Nat)) : Int) = (s (9 : Nat)) ∧ (((s (10 : Nat)) : Int) = (s (10 : Nat)) ∧ (((s (11 : Nat)) : Int) = (s (11 : Nat)) ∧ (((s (12 : Nat)) : Int) = (s (12 : Nat)) ∧ (((s (13 : Nat)) : Int) = (s (13 : Nat)) ∧ (((s (14 : Nat)) : Int) = (s (14 : Nat)) ∧ (R))))))))))) := ⟨rfl, ⟨rfl, ⟨rfl, ⟨rfl, ⟨rfl, ⟨rfl, ⟨rfl, ⟨rfl, ⟨rfl, ⟨rfl, ⟨rfl, h⟩⟩⟩⟩⟩⟩⟩⟩⟩⟩⟩
theorem cB10_11 (r : Nat → Int) (s : Nat → Int) {R : Prop} (h : R) : ((r (5 : Nat)) : Int) = (r (5 : Nat)) ∧ (((r (6 : Nat)) : Int) = (r (6 : Nat)) ∧ (((r (7 : Nat)) : Int) = (r (7 : Nat)) ∧ (((r (8 : Nat)) : Int) = (r (8 : Nat)) ∧ (((r (9 : Nat)) : Int) = (r (9 : Nat)) ∧ (((r (10 : Nat)) : Int) = (r (10 : Nat)) ∧ (((r (11 : Nat)) : Int) = (r (11 : Nat)) ∧ (((r (12 : Nat)) : Int) = (r (12 : Nat)) ∧ (((r (13 : Nat)) : Int) = (r (13 : Nat)) ∧ (((r (14 : Nat)) : Int) = (r (14 : Nat)) ∧ (((r (15 : Nat)) : Int) = (r (15 : Nat)) ∧ (((s (0 : Nat)) : Int) = (s (0 : Nat)) ∧ (((s (1 : Nat)) : Int) = (s (1 : Nat)) ∧ (((s (2 : Nat)) : Int) = (s (2 : Nat)) ∧ (((s (3 : Nat)) : Int) = (s (3 : Nat)) ∧ (R))))))))))))))) := ⟨rfl, ⟨rfl, ⟨rfl, ⟨rfl, ⟨rfl, ⟨rfl, ⟨rfl, ⟨rfl, ⟨rfl, ⟨rfl, ⟨rfl, ⟨rfl, ⟨rfl, ⟨rfl, ⟨rfl, h⟩⟩⟩⟩⟩⟩⟩⟩⟩⟩⟩⟩⟩⟩⟩
theorem cB10_12 (s : Nat → Int) {R : Prop} (h : R) : ((s (5 : Nat)) : Int) = (s (5 : Nat)) ∧ (((s (6 : Nat)) : Int) = (s (6 : Nat)) ∧ (((s (7 : Nat)) : Int) = (s (7 : Nat)) ∧ (((s (8 : Nat)) : Int) = (s (8 : Nat)) ∧ (((s (9 : Nat)) : Int) = (s (9 : Nat)) ∧ (((s (10 : Nat)) : Int) = (s (10 : Nat)) ∧ (((s (11 : Nat)) : Int) = (s (11 : Nat)) ∧ (((s (12 : Nat)) : Int) = (s (12 : Nat)) ∧ (((s (13 : Nat)) : Int) = (s (13 : Nat)) ∧ (((s (14 : Nat)) : Int) = (s (14 : Nat)) ∧ (R)))))))))) := ⟨rfl, ⟨rfl, ⟨rfl, ⟨rfl, ⟨rfl, ⟨rfl, ⟨rfl, ⟨rfl, ⟨rfl, ⟨rfl, h⟩⟩⟩⟩⟩⟩⟩⟩⟩⟩
theorem cB10_13 (r : Nat → Int) (s : Nat → Int) {R : Prop} (h : R) : ((r (6 : Nat)) : Int) = (r (6 : Nat)) ∧ (((r (7 : Nat)) : Int) = (r (7 : Nat)) ∧ (((r (8 : Nat)) : Int) = (r (8 : Nat)) ∧ (((r (9 : Nat)) : Int) = (r (9 : Nat)) ∧ (((r (10 : Nat)) : Int) = (r (10 : Nat)) ∧ (((r (11 : Nat)) : Int) = (r (11 : Nat)) ∧ (((r (12 : Nat)) : Int) = (r (12 : Nat)) ∧ (((r (13 : Nat)) : Int) = (r (13 : Nat)) ∧ (((r (14 : Nat)) : Int) = (r (14 : Nat)) ∧ (((r (15 : Nat)) : Int) = (r (15 : Nat)) ∧ (((s (0 : Nat)) : Int) = (s (0 : Nat)) ∧ (((s (1 : Nat)) : Int) = (s (1 : Nat)) ∧ (((s (2 : Nat)) : Int) = (s (2 : Nat)) ∧ (((s (3 : Nat)) : Int) = (s (3 : Nat)) ∧ (((s (4 : Nat)) : Int) = (s (4 : Nat)) ∧ (R))))))))))))))) := ⟨rfl, ⟨rfl, ⟨rfl, ⟨rfl, ⟨rfl, ⟨rfl, ⟨rfl, ⟨rfl, ⟨rfl, ⟨rfl, ⟨rfl, ⟨rfl, ⟨rfl, ⟨rfl, ⟨rfl, h⟩⟩⟩⟩⟩⟩⟩⟩⟩⟩⟩⟩⟩⟩⟩
theorem cB10_14 (s : Nat → Int) {R : Prop} (h : R) : ((s (6 : Nat)) : Int) = (s (6 : Nat)) ∧ (((s (7 : Nat)) : Int) = (s (7 : Nat)) ∧ (((s (8 : Nat)) : Int) = (s (8 : Nat)) ∧ (((s (9 : Nat)) : Int) = (s (9 : Nat)) ∧ (((s (10 : Nat)) : Int) = (s (10 : Nat)) ∧ (((s (11 : Nat)) : Int) = (s (11 : Nat)) ∧ (((s (12 : Nat)) : Int) = (s (12 : Nat)) ∧ (((s (13 : Nat)) : Int) = (s (13 : Nat)) ∧ (((s (14 : Nat)) : Int) = (s (14 : Nat)) ∧ (R))))))))) := ⟨rfl, ⟨rfl, ⟨rfl, ⟨rfl, ⟨rfl, ⟨rfl, ⟨rfl, ⟨rfl, ⟨rfl, h⟩⟩⟩⟩⟩⟩⟩⟩⟩
theorem cB10_15 (r : Nat → Int) (s : Nat → Int) {R : Prop} (h : R) : ((r (7 : Nat)) : Int) = (r (7 : Nat)) ∧ (((r (8 : Nat)) : Int) = (r (8 : Nat)) ∧ (((r (9 : Nat)) : Int) = (r (9 : Nat)) ∧ (((r (10 : Nat)) : Int) = (r (10 : Nat)) ∧ (((r (11 : Nat)) : Int) = (r (11 : Nat)) ∧ (((r (12 : Nat)) : Int) = (r (12 : Nat)) ∧ (((r (13 : Nat)) : Int) = (r (13 : Nat)) ∧ (((r (14 : Nat)) : Int) = (r (14 : Nat)) ∧ (((r (15 : Nat)) : Int) = (r (15 : Nat)) ∧ (((s (0 : Nat)) : Int) = (s (0 : Nat)) ∧ (((s (1 : Nat)) : Int) = (s (1 : Nat)) ∧ (((s (2 : Nat)) : Int) = (s (2 : Nat)) ∧ (((s (3 : Nat)) : Int) = (s (3 : Nat)) ∧ (((s (4 : Nat)) : Int) = (s (4 : Nat)) ∧ (((s (5 : Nat)) : Int) = (s (5 : Nat)) ∧ (R))))))))))))))) := ⟨rfl, ⟨rfl, ⟨rfl, ⟨rfl, ⟨rfl, ⟨rfl, ⟨rfl, ⟨rfl, ⟨rfl, ⟨rfl, ⟨rfl, ⟨rfl, ⟨rfl, ⟨rfl, ⟨rfl, h⟩⟩⟩⟩⟩⟩⟩⟩⟩⟩⟩⟩⟩⟩⟩
theorem cB10_16 (s : Nat → Int) {R : Prop} (h : R) : ((s (7 : Nat)) : Int) = (s (7 : Nat)) ∧ (((s (8 : Nat)) : Int) = (s (8 : Nat)) ∧ (((s (9 : Nat)) : Int) = (s (9 : Nat)) ∧ (((s (10 : Nat)) : Int) = (s (10 : Nat)) ∧ (((s (11 : Nat)) : Int) = (s (11 : Nat)) ∧ (((s (12 : Nat)) : Int) = (s (12 : Nat)) ∧ (((s (13 : Nat)) : Int) = (s (13 : Nat)) ∧ (((s (14 : Nat)) : Int) = (s (14 : Nat)) ∧ (R)))))))) := ⟨rfl, ⟨rfl, ⟨rfl, ⟨rfl, ⟨rfl, ⟨rfl, ⟨rfl, ⟨rfl, h⟩⟩⟩⟩⟩⟩⟩⟩
theorem cB10_17 (r : Nat → Int) (s : Nat → Int) {R : Prop} (h : R) : ((r (8 : Nat)) : Int) = (r (8 : Nat)) ∧ (((r (9 : Nat)) : Int) = (r (9 : Nat)) ∧ (((r (10 : Nat)) : Int) = (r (10 : Nat)) ∧ (((r (11 : Nat)) : Int) = (r (11 : Nat)) ∧ (((r (12 : Nat)) : Int) = (r (12 : Nat)) ∧ (((r (13 : Nat)) : Int) = (r (13 : Nat)) ∧ (((r (14 : Nat)) : Int) = (r (14 : Nat)) ∧ (((r (15 : Nat)) : Int) = (r (15 : Nat)) ∧ (((s (0 : Nat)) : Int) = (s (0 : Nat)) ∧ (((s (1 : Nat)) : Int) = (s (1 : Nat)) ∧ (((s (2 : Nat)) : Int) = (s (2 : Nat)) ∧ (((s (3 : Nat)) : Int) = (s (3 : Nat)) ∧ (((s (4 : Nat)) : Int) = (s (4 : Nat)) ∧ (((s (5 : Nat)) : Int) = (s (5 : Nat)) ∧ (((s (6 : Nat)) : Int) = (s (6 : Nat)) ∧ (R))))))))))))))) := ⟨rfl, ⟨rfl, ⟨rfl, ⟨rfl, ⟨rfl, ⟨rfl, ⟨rfl, ⟨rfl, ⟨rfl, ⟨rfl, ⟨rfl, ⟨rfl, ⟨rfl, ⟨rfl, ⟨rfl, h⟩⟩⟩⟩⟩⟩⟩⟩⟩⟩⟩⟩⟩⟩⟩
theorem cB10_18 (s : Nat → Int) {R : Prop} (h : R) : ((s (8 : Nat)) : Int) = (s (8 : Nat)) ∧ (((s (9 : Nat)) : Int) = (s (9 : Nat)) ∧ (((s (10 : Nat)) : Int) = (s (10 : Nat)) ∧ (((s (11 : Nat)) : Int) = (s (11 : Nat)) ∧ (((s (12 : Nat)) : Int) = (s (12 : Nat)) ∧ (((s (13 : Nat)) : Int) = (s (13 : Nat)) ∧ (((s (14 : Nat)) : Int) = (s (14 : Nat)) ∧ (R))))))) := ⟨rfl, ⟨rfl, ⟨rfl, ⟨rfl, ⟨rfl, ⟨rfl, ⟨rfl, h⟩⟩⟩⟩⟩⟩⟩
theorem cB10_19 (r : Nat → Int) (s : Nat → Int) {R : Prop} (h : R) : ((r (9 : Nat)) : Int) = (r (9 : Nat)) ∧ (((r (10 : Nat)) : Int) = (r (10 : Nat)) ∧ (((r (11 : Nat)) : Int) = (r (11 : Nat)) ∧ (((r (12 : Nat)) : Int) = (r (12 : Nat)) ∧ (((r (13 : Nat)) : Int) = (r (13 : Nat)) ∧ (((r (14 : Nat)) : Int) = (r (14 : Nat)) ∧ (((r (15 : Nat)) : Int) = (r (15 : Nat)) ∧ (((s (0 : Nat)) : Int) = (s (0 : Nat)) ∧ (((s (1 : Nat)) : Int) = (s (1 : Nat)) ∧ (((s (2 : Nat)) : Int) = (s (2 : Nat)) ∧ (((s (3 : Nat)) : Int) = (s (3 : Nat)) ∧ (((s (4 : Nat)) : Int) = (s (4 : Nat)) ∧ (((s (5 : Nat)) : Int) = (s (5 : Nat)) ∧ (((s (6 : Nat)) : Int) = (s (6 : Nat)) ∧ (((s (7 : Nat)) : Int) = (s (7 : Nat)) ∧ (R))))))))))))))) := ⟨rfl, ⟨rfl, ⟨rfl, ⟨rfl, ⟨rfl, ⟨rfl, ⟨rfl, ⟨rfl, ⟨rfl, ⟨rfl, ⟨rfl, ⟨rfl, ⟨rfl, ⟨rfl, ⟨rfl, h⟩⟩⟩⟩⟩⟩⟩⟩⟩⟩⟩⟩⟩⟩⟩
theorem cB10_20 (s : Nat → Int) {R : Prop} (h : R) : ((s (9 : Nat)) : Int) = (s (9 : Nat)) ∧ (((s (10 : Nat)) : Int) = (s (10 : Nat)) ∧ (((s (11 : Nat)) : Int) = (s (11 : Nat)) ∧ (((s (12 : Nat)) : Int) = (s (12 : Nat)) ∧ (((s (13 : Nat)) : Int) = (s (13 : Nat)) ∧ (((s (14 : Nat)) : Int) = (s (14 : Nat)) ∧ (R)))))) := ⟨rfl, ⟨rfl, ⟨rfl, ⟨rfl, ⟨rfl, ⟨rfl, h⟩⟩⟩⟩⟩⟩
theorem cB10_21 (r : Nat → Int) (s : Nat → Int) {R : Prop} (h : R) : ((r (10 : Nat)) : Int) = (r (10 : Nat)) ∧ (((r (11 : Nat)) : Int) = (r (11 : Nat)) ∧ (((r (12 : Nat)) : Int) = (r (12 : Nat)) ∧ (((r (13 : Nat)) : Int) = (r (13 : Nat)) ∧ (((r (14 : Nat)) : Int) = (r (14 : Nat)) ∧ (((r (15 : Nat)) : Int) = (r (15 : Nat)) ∧ (((s (0 : Nat)) : Int) = (s (0 : Nat)) ∧ (((s (1 : Nat)) : Int) = (s (1 : Nat)) ∧ (((s (2 : Nat)) : Int) = (s (2 : Nat)) ∧ (((s (3 : Nat)) : Int) = (s (3 : Nat)) ∧ (((s (4 : Nat)) : Int) = (s (4 : Nat)) ∧ (((s (5 : Nat)) : Int) = (s (5 : Nat)) ∧ (((s (6 : Nat)) : Int) = (s (6 : Nat)) ∧ (((s (7 : Nat)) : Int) = (s (7 : Nat)) ∧ (((s (8 : Nat)) : Int) = (s (8 : Nat)) ∧ (R))))))))))))))) := ⟨rfl, ⟨rfl, ⟨rfl, ⟨rfl, ⟨rfl, ⟨rfl, ⟨rfl, ⟨rfl, ⟨rfl, ⟨rfl, ⟨rfl, ⟨rfl, ⟨rfl, ⟨rfl, ⟨rfl, h⟩⟩⟩⟩⟩⟩⟩⟩⟩⟩⟩⟩⟩⟩⟩
theorem cB10_22 (s : Nat → Int) {R : Prop} (h : R) : ((s (10 : Nat)) : Int) = (s (10 : Nat)) ∧ (((s (11 : Nat)) : Int) = (s (11 : Nat)) ∧ (((s (12 : Nat)) : Int) = (s (12 : Nat)) ∧ (((s (13 : Nat)) : Int) = (s (13 : Nat)) ∧ (((s (14 : Nat)) : Int) = (s (14 : Nat)) ∧ (R))))) := ⟨rfl, ⟨rfl, ⟨rfl, ⟨rfl, ⟨rfl, h⟩⟩⟩⟩⟩
theorem cB10_23 (r : Nat → Int) (s : Nat → Int) {R : Prop} (h : R) : ((r (11 : Nat)) : Int) = (r (11 : Nat)) ∧ (((r (12 : Nat)) : Int) = (r (12 : Nat)) ∧ (((r (13 : Nat)) : Int) = (r (13 : Nat)) ∧ (((r (14 : Nat)) : Int) = (r (14 : Nat)) ∧ (((r (15 : Nat)) : Int) = (r (15 : Nat)) ∧ (((s (0 : Nat)) : Int) = (s (0 : Nat)) ∧ (((s (1 : Nat)) : Int) = (s (1 : Nat)) ∧ (((s (2 : Nat)) : Int) = (s (2 : Nat)) ∧ (((s (3 : Nat)) : Int) = (s (3 : Nat)) ∧ (((s (4 : Nat)) : Int) = (s (4 : Nat)) ∧ (((s (5 : Nat)) : Int) = (s (5 : Nat)) ∧ (((s (6 : Nat)) : Int) = (s (6 : Nat)) ∧ (((s (7 : Nat)) : Int) = (s (7 : Nat)) ∧ (((s (8 : Nat)) : Int) = (s (8 : Nat)) ∧ (((s (9 : Nat)) : Int) = (s (9 : Nat)) ∧ (R))))))))))))))) := ⟨rfl, ⟨rfl, ⟨rfl, ⟨rfl, ⟨rfl, ⟨rfl, ⟨rfl, ⟨rfl, ⟨rfl, ⟨rfl, ⟨rfl, ⟨rfl, ⟨rfl, ⟨rfl, ⟨rfl, h⟩⟩⟩⟩⟩⟩⟩⟩⟩⟩⟩⟩⟩⟩⟩
theorem cB10_24 (s : Nat → Int) {R : Prop} (h : R) : ((s (11 : Nat)) : Int) = (s (11 : Nat)) ∧ (((s (12 : Nat)) : Int) = (s (12 : Nat)) ∧ (((s (13 : Nat)) : Int) = (s (13 : Nat)) ∧ (((s (14 : Nat)) : Int) = (s (14 : Nat)) ∧ (R)))) := ⟨rfl, ⟨rfl, ⟨rfl, ⟨rfl, h⟩⟩⟩⟩
theorem cB10_25 (r : Nat → Int) (s : Nat → Int) {R : Prop} (h : R) : ((r (12 : Nat)) : Int) = (r (12 : Nat)) ∧ (((r (13 : Nat)) : Int) = (r (13 : Nat)) ∧ (((r (14 : Nat)) : Int) = (r (14 : Nat)) ∧ (((r (15 : Nat)) : Int) = (r (15 : Nat)) ∧ (((s (0 : Nat)) : Int) = (s (0 : Nat)) ∧ (((s (1 : Nat)) : Int) = (s (1 : Nat)) ∧ (((s (2 : Nat)) : Int) = (s (2 : Nat)) ∧ (((s (3 : Nat)) : Int) = (s (3 : Nat)) ∧ (((s (4 : Nat)) : Int) = (s (4 : Nat)) ∧ (((s (5 : Nat)) : Int) = (s (5 : Nat)) ∧ (((s (6 : Nat)) : Int) = (s (6 : Nat)) ∧ (((s (7 : Nat)) : Int) = (s (7 : Nat)) ∧ (((s (8 : Nat)) : Int) = (s (8 : Nat)) ∧ (((s (9 : Nat)) : Int) = (s (9 : Nat)) ∧ (((s (10 : Nat)) : Int) = (s (10 : Nat)) ∧ (R))))))))))))))) := ⟨rfl, ⟨rfl, ⟨rfl, ⟨rfl, ⟨rfl, ⟨rfl, ⟨rfl, ⟨rfl, ⟨rfl, ⟨rfl, ⟨rfl, ⟨rfl, ⟨rfl, ⟨rfl, ⟨rfl, h⟩⟩⟩⟩⟩⟩⟩⟩⟩⟩⟩⟩⟩⟩⟩
theorem cB10_26 (r : Nat → Int) (s : Nat → Int) {R : Prop} (h : R) : ((r (13 : Nat)) : Int) = (r (13 : Nat)) ∧ (((r (14 : Nat)) : Int) = (r (14 : Nat)) ∧ (((r (15 : Nat)) : Int) = (r (15 : Nat)) ∧ (((s (0 : Nat)) : Int) = (s (0 : Nat)) ∧ (((s (1 : Nat)) : Int) = (s (1 : Nat)) ∧ (((s (2 : Nat)) : Int) = (s (2 : Nat)) ∧ (((s (3 : Nat)) : Int) = (s (3 : Nat)) ∧ (((s (4 : Nat)) : Int) = (s (4 : Nat)) ∧ (((s (5 : Nat)) : Int) = (s (5 : Nat)) ∧ (((s (6 : Nat)) : Int) = (s (6 : Nat)) ∧ (((s (7 : Nat)) : Int) = (s (7 : Nat)) ∧ (((s (8 : Nat)) : Int) = (s (8 : Nat)) ∧ (((s (9 : Nat)) : Int) = (s (9 : Nat)) ∧ (((s (10 : Nat)) : Int) = (s (10 : Nat)) ∧ (((s (11 : Nat)) : Int) = (s (11 : Nat)) ∧ (R))))))))))))))) := ⟨rfl, ⟨rfl, ⟨rfl, ⟨rfl, ⟨rfl, ⟨rfl, ⟨rfl, ⟨rfl, ⟨rfl, ⟨rfl, ⟨rfl, ⟨rfl, ⟨rfl, ⟨rfl, ⟨rfl, h⟩⟩⟩⟩⟩⟩⟩⟩⟩⟩⟩⟩⟩⟩⟩
theorem cB10_27 (r : Nat → Int) (s : Nat → Int) {R : Prop} (h : R) : ((r (14 : Nat)) : Int) = (r (14 : Nat)) ∧ (((r (15 : Nat)) : Int) = (r (15 : Nat)) ∧ (((s (0 : Nat)) : Int) = (s (0 : Nat)) ∧ (((s (1 : Nat)) : Int) = (s (1 : Nat)) ∧ (((s (2 : Nat)) : Int) = (s (2 : Nat)) ∧ (((s (3 : Nat)) : Int) = (s (3 : Nat)) ∧ (((s (4 : Nat)) : Int) = (s (4 : Nat)) ∧ (((s (5 : Nat)) : Int) = (s (5 : Nat)) ∧ (((s (6 : Nat)) : Int) = (s (6 : Nat)) ∧ (((s (7 : Nat)) : Int) = (s (7 : Nat)) ∧ (((s (8 : Nat)) : Int) = (s (8 : Nat)) ∧ (((s (9 : Nat)) : Int) = (s (9 : Nat)) ∧ (((s (10 : Nat)) : Int) = (s (10 : Nat)) ∧ (((s (11 : Nat)) : Int) = (s (11 : Nat)) ∧ (((s (12 : Nat)) : Int) = (s (12 : Nat)) ∧ (R))))))))))))))) := ⟨rfl, ⟨rfl, ⟨rfl, ⟨rfl, ⟨rfl, ⟨rfl, ⟨rfl, ⟨rfl, ⟨rfl, ⟨rfl, ⟨rfl, ⟨rfl, ⟨rfl, ⟨rfl, ⟨rfl, h⟩⟩⟩⟩⟩⟩⟩⟩⟩⟩⟩⟩⟩⟩⟩
theorem cB10_28 (r : Nat → Int) (s : Nat → Int) {R : Prop} (h : R) : ((r (15 : Nat)) : Int) = (r (15 : Nat)) ∧ (((s (0 : Nat)) : Int) = (s (0 : Nat)) ∧ (((s (1 : Nat)) : Int) = (s (1 : Nat)) ∧ (((s (2 : Nat)) : Int) = (s (2 : Nat)) ∧ (((s (3 : Nat)) : Int) = (s (3 : Nat)) ∧ (((s (4 : Nat)) : Int) = (s (4 : Nat)) ∧ (((s (5 : Nat)) : Int) = (s (5 : Nat)) ∧ (((s (6 : Nat)) : Int) = (s (6 : Nat)) ∧ (((s (7 : Nat)) : Int) = (s (7 : Nat)) ∧ (((s (8 : Nat)) : Int) = (s (8 : Nat)) ∧ (((s (9 : Nat)) : Int) = (s (9 : Nat)) ∧ (((s (10 : Nat)) : Int) = (s (10 : Nat)) ∧ (((s (11 : Nat)) : Int) = (s (11 : Nat)) ∧ (((s (12 : Nat)) : Int) = (s (12 : Nat)) ∧ (((s (13 : Nat)) : Int) = (s (13 : Nat)) ∧ (R))))))))))))))) := ⟨rfl, ⟨rfl, ⟨rfl, ⟨rfl, ⟨rfl, ⟨rfl, ⟨rfl, ⟨rfl, ⟨rfl, ⟨rfl, ⟨rfl, ⟨rfl, ⟨rfl, ⟨rfl, ⟨rfl, h⟩⟩⟩⟩⟩⟩⟩⟩⟩⟩⟩⟩⟩⟩⟩
theorem cB10_29 (s : Nat → Int) {R : Prop} (h : R) : ((s (0 : Nat)) : Int) = (s (0 : Nat)) ∧ (((s (1 : Nat)) : Int) = (s (1 : Nat)) ∧ (((s (2 : Nat)) : Int) = (s (2 : Nat)) ∧ (((s (3 : Nat)) : Int) = (s (3 : Nat)) ∧ (((s (4 : Nat)) : Int) = (s (4 : Nat)) ∧ (((s (5 : Nat)) : Int) = (s (5 : Nat)) ∧ (((s (6 : Nat)) : Int) = (s (6 : Nat)) ∧ (((s (7 : Nat)) : Int) = (s (7 : Nat)) ∧ (((s (8 : Nat)) : Int) = (s (8 : Nat)) ∧ (((s (9 : Nat)) : Int) = (s (9 : Nat)) ∧ (((s (10 : Nat)) : Int) = (s (10 : Nat)) ∧ (((s (11 : Nat)) : Int) = (s (11 : Nat)) ∧ (((s (12 : Nat)) : Int) = (s (12 : Nat)) ∧ (((s (13 : Nat)) : Int) = (s (13 : Nat)) ∧ (((s (14 : Nat)) : Int) = (s (14 : Nat)) ∧ (R))))))))))))))) := ⟨rfl, ⟨rfl, ⟨rfl, ⟨rfl, ⟨rfl, ⟨rfl, ⟨rfl, ⟨rfl, ⟨rfl, ⟨rfl, ⟨rfl, ⟨rfl, ⟨rfl, ⟨rfl, ⟨rfl, h⟩⟩⟩⟩⟩⟩⟩⟩⟩⟩⟩⟩⟩⟩⟩
theorem cB10_30 (u : Nat → Int) {R : Prop} (h : R) : ((u (0 : Nat)) : Int) = (u (0 : Nat)) ∧ (((u (1 : Nat)) : Int) = (u (1 : Nat)) ∧ (((u (2 : Nat)) : Int) = (u (2 : Nat)) ∧ (((u (3 : Nat)) : Int) = (u (3 : Nat)) ∧ (((u (4 : Nat)) : Int) = (u (4 : Nat)) ∧ (((u (5 : Nat)) : Int) = (u (5 : Nat)) ∧ (((u (6 : Nat)) : Int) = (u (6 : Nat)) ∧ (((u (7 : Nat)) : Int) = (u (7 : Nat)) ∧ (((u (8 : Nat)) : Int) = (u (8 : Nat)) ∧ (((u (9 : Nat)) : Int) = (u (9 : Nat)) ∧ (((u (10 : Nat)) : Int) = (u (10 : Nat)) ∧ (((u (11 : Nat)) : Int) = (u (11 : Nat)) ∧ (((u (12 : Nat)) : Int) = (u (12 : Nat)) ∧ (((u (13 : Nat)) : Int) = (u (13 : Nat)) ∧ (((u (14 : Nat)) : Int) = (u (14 : Nat)) ∧ (R))))))))))))))) := ⟨rfl, ⟨rfl, ⟨rfl, ⟨rfl, ⟨rfl, ⟨rfl, ⟨rfl, ⟨rfl, ⟨rfl, ⟨rfl, ⟨rfl, ⟨rfl, ⟨rfl, ⟨rfl, ⟨rfl, h⟩⟩⟩⟩⟩⟩⟩⟩⟩⟩⟩⟩⟩⟩⟩
theorem cB10_31 (p : Nat → Int) (q : Nat → Int) {R : Prop} (h : R) : ((p (0 : Nat)) : Int) = (p (0 : Nat)) ∧ (((p (1 : Nat)) : Int) = (p (1 : Nat)) ∧ (((p (2 : Nat)) : Int) = (p (2 : Nat)) ∧ (((p (3 : Nat)) : Int) = (p (3 : Nat)) ∧ (((p (4 : Nat)) : Int) = (p (4 : Nat)) ∧ (((p (5 : Nat)) : Int) = (p (5 : Nat)) ∧ (((p (6 : Nat)) : Int) = (p (6 : Nat)) ∧ (((p (7 : Nat)) : Int) = (p (7 : Nat)) ∧ (((p (8 : Nat)) : Int) = (p (8 : Nat)) ∧ (((p (9 : Nat)) : Int) = (p (9 : Nat)) ∧ (((p (10 : Nat)) : Int) = (p (10 : Nat)) ∧ (((p (11 : Nat)) : Int) = (p (11 : Nat)) ∧ (((p (12 : Nat)) : Int) = (p (12 : Nat)) ∧ (((p (13 : Nat)) : Int) = (p (13 : Nat)) ∧ (((p (14 : Nat)) : Int) = (p (14 : Nat)) ∧ (((p (15 : Nat)) : Int) = (p (15 : Nat)) ∧ (((q (0 : Nat)) : Int) = (q (0 : Nat)) ∧ (((q (1 : Nat)) : Int) = (q (1 : Nat)) ∧ (((q (2 : Nat)) : Int) = (q (2 : Nat)) ∧ (((q (3 : Nat)) : Int) = (q (3 : Nat)) ∧ (((q (4 : Nat)) : Int) = (q (4 : Nat)) ∧ (((q (5 : Nat)) : Int) = (q (5 : Nat)) ∧ (((q (6 : Nat)) : Int) = (q (6 : Nat)) ∧ (((q (7 : Nat)) : Int) = (q (7 : Nat)) ∧ (((q (8 : Nat)) : Int) = (q (8 : Nat)) ∧ (((q (9 : Nat)) : Int) = (q (9 : Nat)) ∧ (((q (10 : Nat)) : Int) = (q (10 : Nat)) ∧ (((q (11 : Nat)) : Int) = (q (11 : Nat)) ∧ (((q (12 : Nat)) : Int) = (q (12 : Nat)) ∧ (((q (13 : Nat)) : Int) = (q (13 : Nat)) ∧ (((q (14 : Nat)) : Int) = (q (14 : Nat)) ∧ (R))))))))))))))))))))))))))))))) := ⟨rfl, ⟨rfl, ⟨rfl, ⟨rfl, ⟨rfl, ⟨rfl, ⟨rfl, ⟨rfl, ⟨rfl, ⟨rfl, ⟨rfl, ⟨rfl, ⟨rfl, ⟨rfl, ⟨rfl, ⟨rfl, ⟨rfl, ⟨rfl, ⟨rfl, ⟨rfl, ⟨rfl, ⟨rfl, ⟨rfl, ⟨rfl, ⟨rfl, ⟨rfl, ⟨rfl, ⟨rfl, ⟨rfl, ⟨rfl, ⟨rfl, h⟩⟩⟩⟩⟩⟩⟩⟩⟩⟩⟩⟩⟩⟩⟩⟩⟩⟩⟩⟩⟩⟩⟩⟩⟩⟩⟩⟩⟩⟩⟩
theorem cB10_32 (r : Nat → Int) {R : Prop} (h : R) : ((r (0 : Nat)) : Int) = (r (0 : Nat)) ∧ (((r (1 : Nat)) : Int) = (r (1 : Nat)) ∧ (((r (2 : Nat)) : Int) = (r (2 : Nat)) ∧ (((r (3 : Nat)) : Int) = (r (3 : Nat)) ∧ (R)))) := ⟨rfl, ⟨rfl, ⟨rfl, ⟨rfl, h⟩⟩⟩⟩
theorem cB10_33 (r : Nat → Int) {R : Prop} (h : R) : ((r (0 : Nat)) : Int) = (r (0 : Nat)) ∧ (((r (1 : Nat)) : Int) = (r (1 : Nat)) ∧ (((r (2 : Nat)) : Int) = (r (2 : Nat)) ∧ (((r (3 : Nat)) : Int) = (r (3 : Nat)) ∧ (((r (4 : Nat)) : Int) = (r (4 : Nat)) ∧ (R))))) := ⟨rfl, ⟨rfl, ⟨rfl, ⟨rfl, ⟨rfl, h⟩⟩⟩⟩⟩
theorem cB10_34 (r : Nat → Int) {R : Prop} (h : R) : ((r (0 : Nat)) : Int) = (r (0 : Nat)) ∧ (((r (1 : Nat)) : Int) = (r (1 : Nat)) ∧ (((r (2 : Nat)) : Int) = (r (2 : Nat)) ∧ (((r (3 : Nat)) : Int) = (r (3 : Nat)) ∧ (((r (4 : Nat)) : Int) = (r (4 : Nat)) ∧ (((r (5 : Nat)) : Int) = (r (5 : Nat)) ∧ (R)))))) := ⟨rfl, ⟨rfl, ⟨rfl, ⟨rfl, ⟨rfl, ⟨rfl, h⟩⟩⟩⟩⟩⟩
theorem cB10_35 (r : Nat → Int) {R : Prop} (h : R) : ((r (0 : Nat)) : Int) = (r (0 : Nat)) ∧ (((r (1 : Nat)) : Int) = (r (1 : Nat)) ∧ (((r (2 : Nat)) : Int) = (r (2 : Nat)) ∧ (((r (3 : Nat)) : Int) = (r (3 : Nat)) ∧ (((r (4 : Nat)) : Int) = (r (4 : Nat)) ∧ (((r (5 : Nat)) : Int) = (r (5 : Nat)) ∧ (((r (6 : Nat)) : Int) = (r (6 : Nat)) ∧ (R))))))) := ⟨rfl, ⟨rfl, ⟨rfl, ⟨rfl, ⟨rfl, ⟨rfl, ⟨rfl, h⟩⟩⟩⟩⟩⟩⟩
theorem cB10_36 (r : Nat → Int) {R : Prop} (h : R) : ((r (0 : Nat)) : Int) = (r (0 : Nat)) ∧ (((r (1 : Nat)) : Int) = (r (1 : Nat)) ∧ (((r (2 : Nat)) : Int) = (r (2 : Nat)) ∧ (((r (3 : Nat)) : Int) = (r (3 : Nat)) ∧ (((r (4 : Nat)) : Int) = (r (4 : Nat)) ∧ (((r (5 : Nat)) : Int) = (r (5 : Nat)) ∧ (((r (6 : Nat)) : Int) = (r (6 : Nat)) ∧ (((r (7 : Nat)) : Int) = (r (7 : Nat)) ∧ (R)))))))) := ⟨rfl, ⟨rfl, ⟨rfl, ⟨rfl, ⟨rfl, ⟨rfl, ⟨rfl, ⟨rfl, h⟩⟩⟩⟩⟩⟩⟩⟩
theorem cB10_37 (r : Nat → Int) {R : Prop} (h : R) : ((r (8 : Nat)) : Int) = (r (8 : Nat)) ∧ (((r (9 : Nat)) : Int) = (r (9 : Nat)) ∧ (((r (10 : Nat)) : Int) = (r (10 : Nat)) ∧ (((r (11 : Nat)) : Int) = (r (11 : Nat)) ∧ (R)))) := ⟨rfl, ⟨rfl, ⟨rfl, ⟨rfl, h⟩⟩⟩⟩
def pB10_1 (w : Nat → Int) := an tt (an tt (an tt (an tt (an tt (an tt (an tt (an tt (an tt (an tt (an tt (an tt (an tt (an tt (an tt (an tt (an tt (an tt (an tt (an tt (an tt (an tt (an tt (an tt (an tt (an tt (an tt (an tt (an tt (an tt (an tt (an tt (an tt (cB10_2 w (an (ri (w (15 : Nat))) (an tt (an tt tt))))))))))))))))))))))))))))))))))))
def pB10_2 (w : Nat → Int) := an tt (an tt (an tt (an tt (an tt (an tt (an tt (an tt (an tt (an tt (an tt (an tt (an tt (an tt (an tt (an tt (an tt (an tt (an tt (an tt (an tt (an tt (an tt (an tt (an tt (an tt (an tt (an tt (an tt (an tt (an tt (an tt (an tt (cB10_2 w (an (ri (w (15 : Nat))) tt))))))))))))))))))))))))))))))))))
def pB10_3 (u : Nat → Int) := an tt (an tt (an tt (an tt (an tt (an tt (an tt (an tt (an tt (an tt (an tt (an tt (an tt (an tt (an tt (an tt (an tt (an tt (an tt (an tt (an tt (an tt (an tt (an tt (an tt (an tt (an tt (an tt (an tt (an tt (an tt (an tt (an tt (cB10_30 u (an (ri (u (15 : Nat))) tt))))))))))))))))))))))))))))))))))
def pB10_4 (y : Int) (i : Nat) := an tt (an tt (an (ri y) (an (ri ((↑i : Int))) (an tt (an tt (an tt tt))))))
def pB10_5 (s : Nat → Int) := an (ri (s (13 : Nat))) (an (ri (s (14 : Nat))) (ri (s (15 : Nat))))
theorem nd_go (b : Nat → Bool) (p q : Nat → Int) (k a o x : Int) (y : Int) : ∃ hh, vcOf (runGo Try.prog specD noL 6000 9 [] [1, 1, 1, 0, 1, 0] (Tr.ofList [.agg (nbL b ++ (niL p ++ niL q)), .agg [.int .i64 (.s k), .int .i64 (.s a), .int .i64 (.s o), .int .i64 (.s x)], .int .i64 (.s y)]) (Hx []) hh)
    (reached fun T1 H1 => weakP T1 H1 (nT (y % 1024) 0) (nB b p q k a o x) 2) := by

  refine vcIntro [] (an tt (an (an tt (an tt (an (ri (y % (1024 : Int))) (an (ri ((0 : Int))) tt)))) (an (an (@Eq.refl (Nat) ((0 : Nat))) (an (show ∀ (k : Nat), k < (0 : Nat) → (0 : Int) = (0 : Int) from fun _ _ => rfl) (cB10_0 b (cB10_31 p q (ri (q (15 : Nat))))))) (an (an (@Eq.refl (Nat) ((0 : Nat))) (an (show ∀ (k : Nat), k < (0 : Nat) → (0 : Int) = (0 : Int) from fun _ _ => rfl) (an (ri k) (an (ri a) (an (ri o) (ri x)))))) tt)))) ?_
  kernel_rfl
theorem nd_err (b : Nat → Bool) (p q : Nat → Int) (k a o x : Int) (y : Int) (i : Nat) (hi : i ≤ 16) (hm : bkMay [p 0, p 1, p 2, p 3, p 4, p 5, p 6, p 7, p 8, p 9, p 10, p 11, p 12, p 13, p 14, p 15, q 0, q 1, q 2, q 3, q 4, q 5, q 6, q 7, q 8, q 9, q 10, q 11, q 12, q 13, q 14, q 15] k a o x = false) : ∃ hh, vcOf (runAt Try.prog specD noL 6000 9 [1, 1, 1, 0, 1, 0, 0] (Tr.ofPairs (nT y i)) (Hm (nB b p q k a o x) 2) hh)
    (fun x H1 => match x.1 with | .ret => dwnP 2 [0, 1] x.2 H1 [(6, .bool (.c true))] [] 2 | _ => False) := by

  rcases Bool.eq_false_or_eq_true (decide ((↑i : Int) ≤ (16 : Int))) with h0 | h0
  ·
   rcases Bool.eq_false_or_eq_true (!bkMay [p (0 : Nat), p (1 : Nat), p (2 : Nat), p (3 : Nat), p (4 : Nat), p (5 : Nat), p (6 : Nat), p (7 : Nat), p (8 : Nat), p (9 : Nat), p (10 : Nat), p (11 : Nat), p (12 : Nat), p (13 : Nat), p (14 : Nat), p (15 : Nat), q (0 : Nat), q (1 : Nat), q (2 : Nat), q (3 : Nat), q (4 : Nat), q (5 : Nat), q (6 : Nat), q (7 : Nat), q (8 : Nat), q (9 : Nat), q (10 : Nat), q (11 : Nat), q (12 : Nat), q (13 : Nat), q (14 : Nat), q (15 : Nat)] k a o x) with h1 | h1
   ·
    refine vcIntro [true, true] (an (an h1 (an h0 tt)) (an (an tt tt) tt)) ?_
    kernel_rfl
   · exact ff (by (simp [hm] at *; done))
  · exact ff (by (simp at *; omega))
theorem nd_in (b : Nat → Bool) (p q : Nat → Int) (k a o x : Int) (y : Int) (i : Nat) (hi : i ≤ 16) (hm : bkMay [p 0, p 1, p 2, p 3, p 4, p 5, p 6, p 7, p 8, p 9, p 10, p 11, p 12, p 13, p 14, p 15, q 0, q 1, q 2, q 3, q 4, q 5, q 6, q 7, q 8, q 9, q 10, q 11, q 12, q 13, q 14, q 15] k a o x = true) (hN : bkD [b 0, b 1, b 2, b 3, b 4, b 5, b 6, b 7, b 8, b 9, b 10, b 11, b 12, b 13, b 14, b 15] k a o = -1) : ∃ hh, vcOf (runGo Try.prog specD noL 6000 9 [1, 1, 1, 0, 1, 0, 0] [1, 0, 0, 1, 1, 0, 1, 0, 1, 0, 1, 0] (Tr.ofPairs (nT y i)) (Hm (nB b p q k a o x) 2) hh)
    (reached fun T1 H1 => weakP T1 H1 (nT1 y i (.c 0)) (nB1 b q k a o x (bkCode (q 0) (q 1) (q 2) (q 3) k a o x) (bkNum (q 0) (q 1) (q 2) (q 3) k a o x) (ndW b p q k a o x) p q) 5) := by

  rcases Bool.eq_false_or_eq_true (decide ((↑i : Int) ≤ (16 : Int))) with h0 | h0
  ·
   rcases Bool.eq_false_or_eq_true (!bkMay [p (0 : Nat), p (1 : Nat), p (2 : Nat), p (3 : Nat), p (4 : Nat), p (5 : Nat), p (6 : Nat), p (7 : Nat), p (8 : Nat), p (9 : Nat), p (10 : Nat), p (11 : Nat), p (12 : Nat), p (13 : Nat), p (14 : Nat), p (15 : Nat), q (0 : Nat), q (1 : Nat), q (2 : Nat), q (3 : Nat), q (4 : Nat), q (5 : Nat), q (6 : Nat), q (7 : Nat), q (8 : Nat), q (9 : Nat), q (10 : Nat), q (11 : Nat), q (12 : Nat), q (13 : Nat), q (14 : Nat), q (15 : Nat)] k a o x) with h1 | h1
   · exact ff (by (simp [hm, hN] at *; done))
   ·
    rcases Bool.eq_false_or_eq_true (decide ((0 : Int) ≤ bkD [b (0 : Nat), b (1 : Nat), b (2 : Nat), b (3 : Nat), b (4 : Nat), b (5 : Nat), b (6 : Nat), b (7 : Nat), b (8 : Nat), b (9 : Nat), b (10 : Nat), b (11 : Nat), b (12 : Nat), b (13 : Nat), b (14 : Nat), b (15 : Nat)] k a o)) with h2 | h2
    · exact ff (by (simp at *; omega))
    ·
     refine vcIntro [true, false, false] (an (an h2 (an h1 (an h0 tt))) (an (pB10_4 y i) (an (an (@Eq.refl (Nat) ((0 : Nat))) (an (show ∀ (k : Nat), k < (0 : Nat) → (0 : Int) = (0 : Int) from fun _ _ => rfl) (cB10_1 b q (ri (q (15 : Nat)))))) (an (an (@Eq.refl (Nat) ((0 : Nat))) (an (show ∀ (k : Nat), k < (0 : Nat) → (0 : Int) = (0 : Int) from fun _ _ => rfl) (an (ri k) (an (ri a) (an (ri o) (ri x)))))) (an (an (@Eq.refl (Nat) ((0 : Nat))) (an (show ∀ (k : Nat), k < (0 : Nat) → (0 : Int) = (0 : Int) from fun _ _ => rfl) (an (ri (bkCode (q (0 : Nat)) (q (1 : Nat)) (q (2 : Nat)) (q (3 : Nat)) k a o x)) (ri (bkNum (q (0 : Nat)) (q (1 : Nat)) (q (2 : Nat)) (q (3 : Nat)) k a o x))))) (an (an (@Eq.refl (Nat) ((0 : Nat))) (an (show ∀ (k : Nat), k < (0 : Nat) → (0 : Int) = (0 : Int) from fun _ _ => rfl) (an tt (an tt (an tt (an tt (an tt (an tt (an tt (an tt (an tt (an tt (an tt (an tt (an tt (an tt (an tt (an tt (an tt (an tt (an tt (an tt (an tt (an tt (an tt (an tt (an tt (an tt (an tt (an tt (an tt (an tt (an tt (an tt (an tt (an (show ndW b p q k a o x (0 : Nat) = bkNow (q (0 : Nat)) (q (1 : Nat)) (q (2 : Nat)) (q (3 : Nat)) k a o x (0 : Int) by rfl) (an (show ndW b p q k a o x (1 : Nat) = bkNow (q (0 : Nat)) (q (1 : Nat)) (q (2 : Nat)) (q (3 : Nat)) k a o x (1 : Int) by rfl) (an (show ndW b p q k a o x (2 : Nat) = bkNow (q (0 : Nat)) (q (1 : Nat)) (q (2 : Nat)) (q (3 : Nat)) k a o x (2 : Int) by rfl) (an (show ndW b p q k a o x (3 : Nat) = bkNow (q (0 : Nat)) (q (1 : Nat)) (q (2 : Nat)) (q (3 : Nat)) k a o x (3 : Int) by rfl) (an (show ndW b p q k a o x (4 : Nat) = q (4 : Nat) by rfl) (an (show ndW b p q k a o x (5 : Nat) = q (5 : Nat) by rfl) (an (show ndW b p q k a o x (6 : Nat) = q (6 : Nat) by rfl) (an (show ndW b p q k a o x (7 : Nat) = q (7 : Nat) by rfl) (an (show ndW b p q k a o x (8 : Nat) = q (8 : Nat) by rfl) (an (show ndW b p q k a o x (9 : Nat) = q (9 : Nat) by rfl) (an (show ndW b p q k a o x (10 : Nat) = q (10 : Nat) by rfl) (an (show ndW b p q k a o x (11 : Nat) = q (11 : Nat) by rfl) (an (show ndW b p q k a o x (12 : Nat) = q (12 : Nat) by rfl) (an (show ndW b p q k a o x (13 : Nat) = q (13 : Nat) by rfl) (an (show ndW b p q k a o x (14 : Nat) = q (14 : Nat) by rfl) (an (show ndW b p q k a o x (15 : Nat) = q (15 : Nat) by rfl) (an tt (an tt tt))))))))))))))))))))))))))))))))))))))))))))))))))))) (an (an (@Eq.refl (Nat) ((0 : Nat))) (an (show ∀ (k : Nat), k < (0 : Nat) → (0 : Int) = (0 : Int) from fun _ _ => rfl) (cB10_0 b (cB10_31 p q (ri (q (15 : Nat))))))) tt))))))) ?_
     kernel_rfl
  · exact ff (by (simp at *; omega))
theorem nd_u0 (b : Nat → Bool) (q : Nat → Int) (k a o x y C N : Int) (i : Nat) (w r s : Nat → Int) : ∃ hh, vcOf (runAt Try.prog specD noL 6000 9 [1, 1, 1, 0, 1, 0, 0, 1, 0, 0, 1, 1, 0, 1, 0, 1, 0, 1, 0, 0] (Tr.ofPairs (nT1 y i (.c 0))) (Hm (nB1 b q k a o x C N w r s) 5) hh)
    (roundK 5 [0, 1, 2, 3, 4] (nT1 y i (.c 1)) (nB1 b q k a o x C N w (upd r 0 (if b 0 then r 0 else y)) (upd s 0 (if b 0 then s 0 else y))) True 2 [] [] False) := by

  rcases Bool.eq_false_or_eq_true (!b (0 : Nat)) with h0 | h0
  ·
   refine vcIntro [true] (an (an h0 tt) (an (an (pB10_4 y i) (an (an (@Eq.refl (Nat) ((0 : Nat))) (an (show ∀ (k : Nat), k < (0 : Nat) → (0 : Int) = (0 : Int) from fun _ _ => rfl) (cB10_1 b q (ri (q (15 : Nat)))))) (an (an (@Eq.refl (Nat) ((0 : Nat))) (an (show ∀ (k : Nat), k < (0 : Nat) → (0 : Int) = (0 : Int) from fun _ _ => rfl) (an (ri k) (an (ri a) (an (ri o) (ri x)))))) (an (an (@Eq.refl (Nat) ((0 : Nat))) (an (show ∀ (k : Nat), k < (0 : Nat) → (0 : Int) = (0 : Int) from fun _ _ => rfl) (an (ri C) (ri N)))) (an (an (@Eq.refl (Nat) ((0 : Nat))) (an (show ∀ (k : Nat), k < (0 : Nat) → (0 : Int) = (0 : Int) from fun _ _ => rfl) (pB10_1 w))) (an (an (@Eq.refl (Nat) ((0 : Nat))) (an (show ∀ (k : Nat), k < (0 : Nat) → (0 : Int) = (0 : Int) from fun _ _ => rfl) (cB10_0 b (an (show (if b (0 : Nat) = true then r (0 : Nat) else y) = y by (simp at *; simp [*]; done)) (cB10_3 r (an (show (if b (0 : Nat) = true then s (0 : Nat) else y) = y by (simp at *; simp [*]; done)) (cB10_4 s (ri (s (15 : Nat)))))))))) tt)))))) tt)) ?_
   kernel_rfl
  ·
   refine vcIntro [false] (an (an h0 tt) (an (an (pB10_4 y i) (an (an (@Eq.refl (Nat) ((0 : Nat))) (an (show ∀ (k : Nat), k < (0 : Nat) → (0 : Int) = (0 : Int) from fun _ _ => rfl) (cB10_1 b q (ri (q (15 : Nat)))))) (an (an (@Eq.refl (Nat) ((0 : Nat))) (an (show ∀ (k : Nat), k < (0 : Nat) → (0 : Int) = (0 : Int) from fun _ _ => rfl) (an (ri k) (an (ri a) (an (ri o) (ri x)))))) (an (an (@Eq.refl (Nat) ((0 : Nat))) (an (show ∀ (k : Nat), k < (0 : Nat) → (0 : Int) = (0 : Int) from fun _ _ => rfl) (an (ri C) (ri N)))) (an (an (@Eq.refl (Nat) ((0 : Nat))) (an (show ∀ (k : Nat), k < (0 : Nat) → (0 : Int) = (0 : Int) from fun _ _ => rfl) (pB10_1 w))) (an (an (@Eq.refl (Nat) ((0 : Nat))) (an (show ∀ (k : Nat), k < (0 : Nat) → (0 : Int) = (0 : Int) from fun _ _ => rfl) (cB10_0 b (an (show (if b (0 : Nat) = true then r (0 : Nat) else y) = r (0 : Nat) by (simp at *; simp [*]; done)) (cB10_3 r (an (show (if b (0 : Nat) = true then s (0 : Nat) else y) = s (0 : Nat) by (simp at *; simp [*]; done)) (cB10_4 s (ri (s (15 : Nat)))))))))) tt)))))) tt)) ?_
   kernel_rfl
theorem nd_u1 (b : Nat → Bool) (q : Nat → Int) (k a o x y C N : Int) (i : Nat) (w r s : Nat → Int) : ∃ hh, vcOf (runAt Try.prog specD noL 6000 9 [1, 1, 1, 0, 1, 0, 0, 1, 0, 0, 1, 1, 0, 1, 0, 1, 0, 1, 0, 0] (Tr.ofPairs (nT1 y i (.c 1))) (Hm (nB1 b q k a o x C N w r s) 5) hh)
    (roundK 5 [0, 1, 2, 3, 4] (nT1 y i (.c 2)) (nB1 b q k a o x C N w (upd r 1 (if b 1 then r 1 else y)) (upd s 1 (if b 1 then s 1 else y))) True 2 [] [] False) := by

  rcases Bool.eq_false_or_eq_true (!b (1 : Nat)) with h0 | h0
  ·
   refine vcIntro [true] (an (an h0 tt) (an (an (pB10_4 y i) (an (an (@Eq.refl (Nat) ((0 : Nat))) (an (show ∀ (k : Nat), k < (0 : Nat) → (0 : Int) = (0 : Int) from fun _ _ => rfl) (cB10_1 b q (ri (q (15 : Nat)))))) (an (an (@Eq.refl (Nat) ((0 : Nat))) (an (show ∀ (k : Nat), k < (0 : Nat) → (0 : Int) = (0 : Int) from fun _ _ => rfl) (an (ri k) (an (ri a) (an (ri o) (ri x)))))) (an (an (@Eq.refl (Nat) ((0 : Nat))) (an (show ∀ (k : Nat), k < (0 : Nat) → (0 : Int) = (0 : Int) from fun _ _ => rfl) (an (ri C) (ri N)))) (an (an (@Eq.refl (Nat) ((0 : Nat))) (an (show ∀ (k : Nat), k < (0 : Nat) → (0 : Int) = (0 : Int) from fun _ _ => rfl) (pB10_1 w))) (an (an (@Eq.refl (Nat) ((0 : Nat))) (an (show ∀ (k : Nat), k < (0 : Nat) → (0 : Int) = (0 : Int) from fun _ _ => rfl) (cB10_0 b (an (ri (r (0 : Nat))) (an (show (if b (1 : Nat) = true then r (1 : Nat) else y) = y by (simp at *; simp [*]; done)) (cB10_5 r s (an (show (if b (1 : Nat) = true then s (1 : Nat) else y) = y by (simp at *; simp [*]; done)) (cB10_6 s (ri (s (15 : Nat))))))))))) tt)))))) tt)) ?_
   kernel_rfl
  ·
   refine vcIntro [false] (an (an h0 tt) (an (an (pB10_4 y i) (an (an (@Eq.refl (Nat) ((0 : Nat))) (an (show ∀ (k : Nat), k < (0 : Nat) → (0 : Int) = (0 : Int) from fun _ _ => rfl) (cB10_1 b q (ri (q (15 : Nat)))))) (an (an (@Eq.refl (Nat) ((0 : Nat))) (an (show ∀ (k : Nat), k < (0 : Nat) → (0 : Int) = (0 : Int) from fun _ _ => rfl) (an (ri k) (an (ri a) (an (ri o) (ri x)))))) (an (an (@Eq.refl (Nat) ((0 : Nat))) (an (show ∀ (k : Nat), k < (0 : Nat) → (0 : Int) = (0 : Int) from fun _ _ => rfl) (an (ri C) (ri N)))) (an (an (@Eq.refl (Nat) ((0 : Nat))) (an (show ∀ (k : Nat), k < (0 : Nat) → (0 : Int) = (0 : Int) from fun _ _ => rfl) (pB10_1 w))) (an (an (@Eq.refl (Nat) ((0 : Nat))) (an (show ∀ (k : Nat), k < (0 : Nat) → (0 : Int) = (0 : Int) from fun _ _ => rfl) (cB10_0 b (an (ri (r (0 : Nat))) (an (show (if b (1 : Nat) = true then r (1 : Nat) else y) = r (1 : Nat) by (simp at *; simp [*]; done)) (cB10_5 r s (an (show (if b (1 : Nat) = true then s (1 : Nat) else y) = s (1 : Nat) by (simp at *; simp [*]; done)) (cB10_6 s (ri (s (15 : Nat))))))))))) tt)))))) tt)) ?_
   kernel_rfl
theorem nd_u2 (b : Nat → Bool) (q : Nat → Int) (k a o x y C N : Int) (i : Nat) (w r s : Nat → Int) : ∃ hh, vcOf (runAt Try.prog specD noL 6000 9 [1, 1, 1, 0, 1, 0, 0, 1, 0, 0, 1, 1, 0, 1, 0, 1, 0, 1, 0, 0] (Tr.ofPairs (nT1 y i (.c 2))) (Hm (nB1 b q k a o x C N w r s) 5) hh)
    (roundK 5 [0, 1, 2, 3, 4] (nT1 y i (.c 3)) (nB1 b q k a o x C N w (upd r 2 (if b 2 then r 2 else y)) (upd s 2 (if b 2 then s 2 else y))) True 2 [] [] False) := by

  rcases Bool.eq_false_or_eq_true (!b (2 : Nat)) with h0 | h0
  ·
   refine vcIntro [true] (an (an h0 tt) (an (an (pB10_4 y i) (an (an (@Eq.refl (Nat) ((0 : Nat))) (an (show ∀ (k : Nat), k < (0 : Nat) → (0 : Int) = (0 : Int) from fun _ _ => rfl) (cB10_1 b q (ri (q (15 : Nat)))))) (an (an (@Eq.refl (Nat) ((0 : Nat))) (an (show ∀ (k : Nat), k < (0 : Nat) → (0 : Int) = (0 : Int) from fun _ _ => rfl) (an (ri k) (an (ri a) (an (ri o) (ri x)))))) (an (an (@Eq.refl (Nat) ((0 : Nat))) (an (show ∀ (k : Nat), k < (0 : Nat) → (0 : Int) = (0 : Int) from fun _ _ => rfl) (an (ri C) (ri N)))) (an (an (@Eq.refl (Nat) ((0 : Nat))) (an (show ∀ (k : Nat), k < (0 : Nat) → (0 : Int) = (0 : Int) from fun _ _ => rfl) (pB10_1 w))) (an (an (@Eq.refl (Nat) ((0 : Nat))) (an (show ∀ (k : Nat), k < (0 : Nat) → (0 : Int) = (0 : Int) from fun _ _ => rfl) (cB10_0 b (an (ri (r (0 : Nat))) (an (ri (r (1 : Nat))) (an (show (if b (2 : Nat) = true then r (2 : Nat) else y) = y by (simp at *; simp [*]; done)) (cB10_7 r s (an (show (if b (2 : Nat) = true then s (2 : Nat) else y) = y by (simp at *; simp [*]; done)) (cB10_8 s (ri (s (15 : Nat)))))))))))) tt)))))) tt)) ?_
   kernel_rfl
  ·
   refine vcIntro [false] (an (an h0 tt) (an (an (pB10_4 y i) (an (an (@Eq.refl (Nat) ((0 : Nat))) (an (show ∀ (k : Nat), k < (0 : Nat) → (0 : Int) = (0 : Int) from fun _ _ => rfl) (cB10_1 b q (ri (q (15 : Nat)))))) (an (an (@Eq.refl (Nat) ((0 : Nat))) (an (show ∀ (k : Nat), k < (0 : Nat) → (0 : Int) = (0 : Int) from fun _ _ => rfl) (an (ri k) (an (ri a) (an (ri o) (ri x)))))) (an (an (@Eq.refl (Nat) ((0 : Nat))) (an (show ∀ (k : Nat), k < (0 : Nat) → (0 : Int) = (0 : Int) from fun _ _ => rfl) (an (ri C) (ri N)))) (an (an (@Eq.refl (Nat) ((0 : Nat))) (an (show ∀ (k : Nat), k < (0 : Nat) → (0 : Int) = (0 : Int) from fun _ _ => rfl) (pB10_1 w))) (an (an (@Eq.refl (Nat) ((0 : Nat))) (an (show ∀ (k : Nat), k < (0 : Nat) → (0 : Int) = (0 : Int) from fun _ _ => rfl) (cB10_0 b (an (ri (r (0 : Nat))) (an (ri (r (1 : Nat))) (an (show (if b (2 : Nat) = true then r (2 : Nat) else y) = r (2 : Nat) by (simp at *; simp [*]; done)) (cB10_7 r s (an (show (if b (2 : Nat) = true then s (2 : Nat) else y) = s (2 : Nat) by (simp at *; simp [*]; done)) (cB10_8 s (ri (s (15 : Nat)))))))))))) tt)))))) tt)) ?_
   kernel_rfl
theorem nd_u3 (b : Nat → Bool) (q : Nat → Int) (k a o x y C N : Int) (i : Nat) (w r s : Nat → Int) : ∃ hh, vcOf (runAt Try.prog specD noL 6000 9 [1, 1, 1, 0, 1, 0, 0, 1, 0, 0, 1, 1, 0, 1, 0, 1, 0, 1, 0, 0] (Tr.ofPairs (nT1 y i (.c 3))) (Hm (nB1 b q k a o x C N w r s) 5) hh)
    (roundK 5 [0, 1, 2, 3, 4] (nT1 y i (.c 4)) (nB1 b q k a o x C N w (upd r 3 (if b 3 then r 3 else y)) (upd s 3 (if b 3 then s 3 else y))) True 2 [] [] False) := by

  rcases Bool.eq_false_or_eq_true (!b (3 : Nat)) with h0 | h0
  ·
   refine vcIntro [true] (an (an h0 tt) (an (an (pB10_4 y i) (an (an (@Eq.refl (Nat) ((0 : Nat))) (an (show ∀ (k : Nat), k < (0 : Nat) → (0 : Int) = (0 : Int) from fun _ _ => rfl) (cB10_1 b q (ri (q (15 : Nat)))))) (an (an (@Eq.refl (Nat) ((0 : Nat))) (an (show ∀ (k : Nat), k < (0 : Nat) → (0 : Int) = (0 : Int) from fun _ _ => rfl) (an (ri k) (an (ri a) (an (ri o) (ri x)))))) (an (an (@Eq.refl (Nat) ((0 : Nat))) (an (show ∀ (k : Nat), k < (0 : Nat) → (0 : Int) = (0 : Int) from fun _ _ => rfl) (an (ri C) (ri N)))) (an (an (@Eq.refl (Nat) ((0 : Nat))) (an (show ∀ (k : Nat), k < (0 : Nat) → (0 : Int) = (0 : Int) from fun _ _ => rfl) (pB10_1 w))) (an (an (@Eq.refl (Nat) ((0 : Nat))) (an (show ∀ (k : Nat), k < (0 : Nat) → (0 : Int) = (0 : Int) from fun _ _ => rfl) (cB10_0 b (an (ri (r (0 : Nat))) (an (ri (r (1 : Nat))) (an (ri (r (2 : Nat))) (an (show (if b (3 : Nat) = true then r (3 : Nat) else y) = y by (simp at *; simp [*]; done)) (cB10_9 r s (an (show (if b (3 : Nat) = true then s (3 : Nat) else y) = y by (simp at *; simp [*]; done)) (cB10_10 s (ri (s (15 : Nat))))))))))))) tt)))))) tt)) ?_
   kernel_rfl
  ·
   refine vcIntro [false] (an (an h0 tt) (an (an (pB10_4 y i) (an (an (@Eq.refl (Nat) ((0 : Nat))) (an (show ∀ (k : Nat), k < (0 : Nat) → (0 : Int) = (0 : Int) from fun _ _ => rfl) (cB10_1 b q (ri (q (15 : Nat)))))) (an (an (@Eq.refl (Nat) ((0 : Nat))) (an (show ∀ (k : Nat), k < (0 : Nat) → (0 : Int) = (0 : Int) from fun _ _ => rfl) (an (ri k) (an (ri a) (an (ri o) (ri x)))))) (an (an (@Eq.refl (Nat) ((0 : Nat))) (an (show ∀ (k : Nat), k < (0 : Nat) → (0 : Int) = (0 : Int) from fun _ _ => rfl) (an (ri C) (ri N)))) (an (an (@Eq.refl (Nat) ((0 : Nat))) (an (show ∀ (k : Nat), k < (0 : Nat) → (0 : Int) = (0 : Int) from fun _ _ => rfl) (pB10_1 w))) (an (an (@Eq.refl (Nat) ((0 : Nat))) (an (show ∀ (k : Nat), k < (0 : Nat) → (0 : Int) = (0 : Int) from fun _ _ => rfl) (cB10_0 b (an (ri (r (0 : Nat))) (an (ri (r (1 : Nat))) (an (ri (r (2 : Nat))) (an (show (if b (3 : Nat) = true then r (3 : Nat) else y) = r (3 : Nat) by (simp at *; simp [*]; done)) (cB10_9 r s (an (show (if b (3 : Nat) = true then s (3 : Nat) else y) = s (3 : Nat) by (simp at *; simp [*]; done)) (cB10_10 s (ri (s (15 : Nat))))))))))))) tt)))))) tt)) ?_
   kernel_rfl
theorem nd_u4 (b : Nat → Bool) (q : Nat → Int) (k a o x y C N : Int) (i : Nat) (w r s : Nat → Int) : ∃ hh, vcOf (runAt Try.prog specD noL 6000 9 [1, 1, 1, 0, 1, 0, 0, 1, 0, 0, 1, 1, 0, 1, 0, 1, 0, 1, 0, 0] (Tr.ofPairs (nT1 y i (.c 4))) (Hm (nB1 b q k a o x C N w r s) 5) hh)
    (roundK 5 [0, 1, 2, 3, 4] (nT1 y i (.c 5)) (nB1 b q k a o x C N w (upd r 4 (if b 4 then r 4 else y)) (upd s 4 (if b 4 then s 4 else y))) True 2 [] [] False) := by

  rcases Bool.eq_false_or_eq_true (!b (4 : Nat)) with h0 | h0
  ·
   refine vcIntro [true] (an (an h0 tt) (an (an (pB10_4 y i) (an (an (@Eq.refl (Nat) ((0 : Nat))) (an (show ∀ (k : Nat), k < (0 : Nat) → (0 : Int) = (0 : Int) from fun _ _ => rfl) (cB10_1 b q (ri (q (15 : Nat)))))) (an (an (@Eq.refl (Nat) ((0 : Nat))) (an (show ∀ (k : Nat), k < (0 : Nat) → (0 : Int) = (0 : Int) from fun _ _ => rfl) (an (ri k) (an (ri a) (an (ri o) (ri x)))))) (an (an (@Eq.refl (Nat) ((0 : Nat))) (an (show ∀ (k : Nat), k < (0 : Nat) → (0 : Int) = (0 : Int) from fun _ _ => rfl) (an (ri C) (ri N)))) (an (an (@Eq.refl (Nat) ((0 : Nat))) (an (show ∀ (k : Nat), k < (0 : Nat) → (0 : Int) = (0 : Int) from fun _ _ => rfl) (pB10_1 w))) (an (an (@Eq.refl (Nat) ((0 : Nat))) (an (show ∀ (k : Nat), k < (0 : Nat) → (0 : Int) = (0 : Int) from fun _ _ => rfl) (cB10_0 b (cB10_32 r (an (show (if b (4 : Nat) = true then r (4 : Nat) else y) = y by (simp at *; simp [*]; done)) (cB10_11 r s (an (show (if b (4 : Nat) = true then s (4 : Nat) else y) = y by (simp at *; simp [*]; done)) (cB10_12 s (ri (s (15 : Nat))))))))))) tt)))))) tt)) ?_
   kernel_rfl
  ·
   refine vcIntro [false] (an (an h0 tt) (an (an (pB10_4 y i) (an (an (@Eq.refl (Nat) ((0 : Nat))) (an (show ∀ (k : Nat), k < (0 : Nat) → (0 : Int) = (0 : Int) from fun _ _ => rfl) (cB10_1 b q (ri (q (15 : Nat)))))) (an (an (@Eq.refl (Nat) ((0 : Nat))) (an (show ∀ (k : Nat), k < (0 : Nat) → (0 : Int) = (0 : Int) from fun _ _ => rfl) (an (ri k) (an (ri a) (an (ri o) (ri x)))))) (an (an (@Eq.refl (Nat) ((0 : Nat))) (an (show ∀ (k : Nat), k < (0 : Nat) → (0 : Int) = (0 : Int) from fun _ _ => rfl) (an (ri C) (ri N)))) (an (an (@Eq.refl (Nat) ((0 : Nat))) (an (show ∀ (k : Nat), k < (0 : Nat) → (0 : Int) = (0 : Int) from fun _ _ => rfl) (pB10_1 w))) (an (an (@Eq.refl (Nat) ((0 : Nat))) (an (show ∀ (k : Nat), k < (0 : Nat) → (0 : Int) = (0 : Int) from fun _ _ => rfl) (cB10_0 b (cB10_32 r (an (show (if b (4 : Nat) = true then r (4 : Nat) else y) = r (4 : Nat) by (simp at *; simp [*]; done)) (cB10_11 r s (an (show (if b (4 : Nat) = true then s (4 : Nat) else y) = s (4 : Nat) by (simp at *; simp [*]; done)) (cB10_12 s (ri (s (15 : Nat))))))))))) tt)))))) tt)) ?_
   kernel_rfl
theorem nd_u5 (b : Nat → Bool) (q : Nat → Int) (k a o x y C N : Int) (i : Nat) (w r s : Nat → Int) : ∃ hh, vcOf (runAt Try.prog specD noL 6000 9 [1, 1, 1, 0, 1, 0, 0, 1, 0, 0, 1, 1, 0, 1, 0, 1, 0, 1, 0, 0] (Tr.ofPairs (nT1 y i (.c 5))) (Hm (nB1 b q k a o x C N w r s) 5) hh)
    (roundK 5 [0, 1, 2, 3, 4] (nT1 y i (.c 6)) (nB1 b q k a o x C N w (upd r 5 (if b 5 then r 5 else y)) (upd s 5 (if b 5 then s 5 else y))) True 2 [] [] False) := by

  rcases Bool.eq_false_or_eq_true (!b (5 : Nat)) with h0 | h0
  ·
   refine vcIntro [true] (an (an h0 tt) (an (an (pB10_4 y i) (an (an (@Eq.refl (Nat) ((0 : Nat))) (an (show ∀ (k : Nat), k < (0 : Nat) → (0 : Int) = (0 : Int) from fun _ _ => rfl) (cB10_1 b q (ri (q (15 : Nat)))))) (an (an (@Eq.refl (Nat) ((0 : Nat))) (an (show ∀ (k : Nat), k < (0 : Nat) → (0 : Int) = (0 : Int) from fun _ _ => rfl) (an (ri k) (an (ri a) (an (ri o) (ri x)))))) (an (an (@Eq.refl (Nat) ((0 : Nat))) (an (show ∀ (k : Nat), k < (0 : Nat) → (0 : Int) = (0 : Int) from fun _ _ => rfl) (an (ri C) (ri N)))) (an (an (@Eq.refl (Nat) ((0 : Nat))) (an (show ∀ (k : Nat), k < (0 : Nat) → (0 : Int) = (0 : Int) from fun _ _ => rfl) (pB10_1 w))) (an (an (@Eq.refl (Nat) ((0 : Nat))) (an (show ∀ (k : Nat), k < (0 : Nat) → (0 : Int) = (0 : Int) from fun _ _ => rfl) (cB10_0 b (cB10_33 r (an (show (if b (5 : Nat) = true then r (5 : Nat) else y) = y by (simp at *; simp [*]; done)) (cB10_13 r s (an (show (if b (5 : Nat) = true then s (5 : Nat) else y) = y by (simp at *; simp [*]; done)) (cB10_14 s (ri (s (15 : Nat))))))))))) tt)))))) tt)) ?_
   kernel_rfl
  ·
   refine vcIntro [false] (an (an h0 tt) (an (an (pB10_4 y i) (an (an (@Eq.refl (Nat) ((0 : Nat))) (an (show ∀ (k : Nat), k < (0 : Nat) → (0 : Int) = (0 : Int) from fun _ _ => rfl) (cB10_1 b q (ri (q (15 : Nat)))))) (an (an (@Eq.refl (Nat) ((0 : Nat))) (an (show ∀ (k : Nat), k < (0 : Nat) → (0 : Int) = (0 : Int) from fun _ _ => rfl) (an (ri k) (an (ri a) (an (ri o) (ri x)))))) (an (an (@Eq.refl (Nat) ((0 : Nat))) (an (show ∀ (k : Nat), k < (0 : Nat) → (0 : Int) = (0 : Int) from fun _ _ => rfl) (an (ri C) (ri N)))) (an (an (@Eq.refl (Nat) ((0 : Nat))) (an (show ∀ (k : Nat), k < (0 : Nat) → (0 : Int) = (0 : Int) from fun _ _ => rfl) (pB10_1 w))) (an (an (@Eq.refl (Nat) ((0 : Nat))) (an (show ∀ (k : Nat), k < (0 : Nat) → (0 : Int) = (0 : Int) from fun _ _ => rfl) (cB10_0 b (cB10_33 r (an (show (if b (5 : Nat) = true then r (5 : Nat) else y) = r (5 : Nat) by (simp at *; simp [*]; done)) (cB10_13 r s (an (show (if b (5 : Nat) = true then s (5 : Nat) else y) = s (5 : Nat) by (simp at *; simp [*]; done)) (cB10_14 s (ri (s (15 : Nat))))))))))) tt)))))) tt)) ?_
   kernel_rfl
theorem nd_u6 (b : Nat → Bool) (q : Nat → Int) (k a o x y C N : Int) (i : Nat) (w r s : Nat → Int) : ∃ hh, vcOf (runAt Try.prog specD noL 6000 9 [1, 1, 1, 0, 1, 0, 0, 1, 0, 0, 1, 1, 0, 1, 0, 1, 0, 1, 0, 0] (Tr.ofPairs (nT1 y i (.c 6))) (Hm (nB1 b q k a o x C N w r s) 5) hh)
    (roundK 5 [0, 1, 2, 3, 4] (nT1 y i (.c 7)) (nB1 b q k a o x C N w (upd r 6 (if b 6 then r 6 else y)) (upd s 6 (if b 6 then s 6 else y))) True 2 [] [] False) := by

  rcases Bool.eq_false_or_eq_true (!b (6 : Nat)) with h0 | h0
  ·
   refine vcIntro [true] (an (an h0 tt) (an (an (pB10_4 y i) (an (an (@Eq.refl (Nat) ((0 : Nat))) (an (show ∀ (k : Nat), k < (0 : Nat) → (0 : Int) = (0 : Int) from fun _ _ => rfl) (cB10_1 b q (ri (q (15 : Nat)))))) (an (an (@Eq.refl (Nat) ((0 : Nat))) (an (show ∀ (k : Nat), k < (0 : Nat) → (0 : Int) = (0 : Int) from fun _ _ => rfl) (an (ri k) (an (ri a) (an (ri o) (ri x)))))) (an (an (@Eq.refl (Nat) ((0 : Nat))) (an (show ∀ (k : Nat), k < (0 : Nat) → (0 : Int) = (0 : Int) from fun _ _ => rfl) (an (ri C) (ri N)))) (an (an (@Eq.refl (Nat) ((0 : Nat))) (an (show ∀ (k : Nat), k < (0 : Nat) → (0 : Int) = (0 : Int) from fun _ _ => rfl) (pB10_1 w))) (an (an (@Eq.refl (Nat) ((0 : Nat))) (an (show ∀ (k : Nat), k < (0 : Nat) → (0 : Int) = (0 : Int) from fun _ _ => rfl) (cB10_0 b (cB10_34 r (an (show (if b (6 : Nat) = true then r (6 : Nat) else y) = y by (simp at *; simp [*]; done)) (cB10_15 r s (an (show (if b (6 : Nat) = true then s (6 : Nat) else y) = y by (simp at *; simp [*]; done)) (cB10_16 s (ri (s (15 : Nat))))))))))) tt)))))) tt)) ?_
   kernel_rfl
  ·
   refine vcIntro [false] (an (an h0 tt) (an (an (pB10_4 y i) (an (an (@Eq.refl (Nat) ((0 : Nat))) (an (show ∀ (k : Nat), k < (0 : Nat) → (0 : Int) = (0 : Int) from fun _ _ => rfl) (cB10_1 b q (ri (q (15 : Nat)))))) (an (an (@Eq.refl (Nat) ((0 : Nat))) (an (show ∀ (k : Nat), k < (0 : Nat) → (0 : Int) = (0 : Int) from fun _ _ => rfl) (an (ri k) (an (ri a) (an (ri o) (ri x)))))) (an (an (@Eq.refl (Nat) ((0 : Nat))) (an (show ∀ (k : Nat), k < (0 : Nat) → (0 : Int) = (0 : Int) from fun _ _ => rfl) (an (ri C) (ri N)))) (an (an (@Eq.refl (Nat) ((0 : Nat))) (an (show ∀ (k : Nat), k < (0 : Nat) → (0 : Int) = (0 : Int) from fun _ _ => rfl) (pB10_1 w))) (an (an (@Eq.refl (Nat) ((0 : Nat))) (an (show ∀ (k : Nat), k < (0 : Nat) → (0 : Int) = (0 : Int) from fun _ _ => rfl) (cB10_0 b (cB10_34 r (an (show (if b (6 : Nat) = true then r (6 : Nat) else y) = r (6 : Nat) by (simp at *; simp [*]; done)) (cB10_15 r s (an (show (if b (6 : Nat) = true then s (6 : Nat) else y) = s (6 : Nat) by (simp at *; simp [*]; done)) (cB10_16 s (ri (s (15 : Nat))))))))))) tt)))))) tt)) ?_
   kernel_rfl
theorem nd_u7 (b : Nat → Bool) (q : Nat → Int) (k a o x y C N : Int) (i : Nat) (w r s : Nat → Int) : ∃ hh, vcOf (runAt Try.prog specD noL 6000 9 [1, 1, 1, 0, 1, 0, 0, 1, 0, 0, 1, 1, 0, 1, 0, 1, 0, 1, 0, 0] (Tr.ofPairs (nT1 y i (.c 7))) (Hm (nB1 b q k a o x C N w r s) 5) hh)
    (roundK 5 [0, 1, 2, 3, 4] (nT1 y i (.c 8)) (nB1 b q k a o x C N w (upd r 7 (if b 7 then r 7 else y)) (upd s 7 (if b 7 then s 7 else y))) True 2 [] [] False) := by

  rcases Bool.eq_false_or_eq_true (!b (7 : Nat)) with h0 | h0
  ·
   refine vcIntro [true] (an (an h0 tt) (an (an (pB10_4 y i) (an (an (@Eq.refl (Nat) ((0 : Nat))) (an (show ∀ (k : Nat), k < (0 : Nat) → (0 : Int) = (0 : Int) from fun _ _ => rfl) (cB10_1 b q (ri (q (15 : Nat)))))) (an (an (@Eq.refl (Nat) ((0 : Nat))) (an (show ∀ (k : Nat), k < (0 : Nat) → (0 : Int) = (0 : Int) from fun _ _ => rfl) (an (ri k) (an (ri a) (an (ri o) (ri x)))))) (an (an (@Eq.refl (Nat) ((0 : Nat))) (an (show ∀ (k : Nat), k < (0 : Nat) → (0 : Int) = (0 : Int) from fun _ _ => rfl) (an (ri C) (ri N)))) (an (an (@Eq.refl (Nat) ((0 : Nat))) (an (show ∀ (k : Nat), k < (0 : Nat) → (0 : Int) = (0 : Int) from fun _ _ => rfl) (pB10_1 w))) (an (an (@Eq.refl (Nat) ((0 : Nat))) (an (show ∀ (k : Nat), k < (0 : Nat) → (0 : Int) = (0 : Int) from fun _ _ => rfl) (cB10_0 b (cB10_35 r (an (show (if b (7 : Nat) = true then r (7 : Nat) else y) = y by (simp at *; simp [*]; done)) (cB10_17 r s (an (show (if b (7 : Nat) = true then s (7 : Nat) else y) = y by (simp at *; simp [*]; done)) (cB10_18 s (ri (s (15 : Nat))))))))))) tt)))))) tt)) ?_
   kernel_rfl
  ·
   refine vcIntro [false] (an (an h0 tt) (an (an (pB10_4 y i) (an (an (@Eq.refl (Nat) ((0 : Nat))) (an (show ∀ (k : Nat), k < (0 : Nat) → (0 : Int) = (0 : Int) from fun _ _ => rfl) (cB10_1 b q (ri (q (15 : Nat)))))) (an (an (@Eq.refl (Nat) ((0 : Nat))) (an (show ∀ (k : Nat), k < (0 : Nat) → (0 : Int) = (0 : Int) from fun _ _ => rfl) (an (ri k) (an (ri a) (an (ri o) (ri x)))))) (an (an (@Eq.refl (Nat) ((0 : Nat))) (an (show ∀ (k : Nat), k < (0 : Nat) → (0 : Int) = (0 : Int) from fun _ _ => rfl) (an (ri C) (ri N)))) (an (an (@Eq.refl (Nat) ((0 : Nat))) (an (show ∀ (k : Nat), k < (0 : Nat) → (0 : Int) = (0 : Int) from fun _ _ => rfl) (pB10_1 w))) (an (an (@Eq.refl (Nat) ((0 : Nat))) (an (show ∀ (k : Nat), k < (0 : Nat) → (0 : Int) = (0 : Int) from fun _ _ => rfl) (cB10_0 b (cB10_35 r (an (show (if b (7 : Nat) = true then r (7 : Nat) else y) = r (7 : Nat) by (simp at *; simp [*]; done)) (cB10_17 r s (an (show (if b (7 : Nat) = true then s (7 : Nat) else y) = s (7 : Nat) by (simp at *; simp [*]; done)) (cB10_18 s (ri (s (15 : Nat))))))))))) tt)))))) tt)) ?_
   kernel_rfl
theorem nd_u8 (b : Nat → Bool) (q : Nat → Int) (k a o x y C N : Int) (i : Nat) (w r s : Nat → Int) : ∃ hh, vcOf (runAt Try.prog specD noL 6000 9 [1, 1, 1, 0, 1, 0, 0, 1, 0, 0, 1, 1, 0, 1, 0, 1, 0, 1, 0, 0] (Tr.ofPairs (nT1 y i (.c 8))) (Hm (nB1 b q k a o x C N w r s) 5) hh)
    (roundK 5 [0, 1, 2, 3, 4] (nT1 y i (.c 9)) (nB1 b q k a o x C N w (upd r 8 (if b 8 then r 8 else y)) (upd s 8 (if b 8 then s 8 else y))) True 2 [] [] False) := by

  rcases Bool.eq_false_or_eq_true (!b (8 : Nat)) with h0 | h0
  ·
   refine vcIntro [true] (an (an h0 tt) (an (an (pB10_4 y i) (an (an (@Eq.refl (Nat) ((0 : Nat))) (an (show ∀ (k : Nat), k < (0 : Nat) → (0 : Int) = (0 : Int) from fun _ _ => rfl) (cB10_1 b q (ri (q (15 : Nat)))))) (an (an (@Eq.refl (Nat) ((0 : Nat))) (an (show ∀ (k : Nat), k < (0 : Nat) → (0 : Int) = (0 : Int) from fun _ _ => rfl) (an (ri k) (an (ri a) (an (ri o) (ri x)))))) (an (an (@Eq.refl (Nat) ((0 : Nat))) (an (show ∀ (k : Nat), k < (0 : Nat) → (0 : Int) = (0 : Int) from fun _ _ => rfl) (an (ri C) (ri N)))) (an (an (@Eq.refl (Nat) ((0 : Nat))) (an (show ∀ (k : Nat), k < (0 : Nat) → (0 : Int) = (0 : Int) from fun _ _ => rfl) (pB10_1 w))) (an (an (@Eq.refl (Nat) ((0 : Nat))) (an (show ∀ (k : Nat), k < (0 : Nat) → (0 : Int) = (0 : Int) from fun _ _ => rfl) (cB10_0 b (cB10_36 r (an (show (if b (8 : Nat) = true then r (8 : Nat) else y) = y by (simp at *; simp [*]; done)) (cB10_19 r s (an (show (if b (8 : Nat) = true then s (8 : Nat) else y) = y by (simp at *; simp [*]; done)) (cB10_20 s (ri (s (15 : Nat))))))))))) tt)))))) tt)) ?_
   kernel_rfl
  ·
   refine vcIntro [false] (an (an h0 tt) (an (an (pB10_4 y i) (an (an (@Eq.refl (Nat) ((0 : Nat))) (an (show ∀ (k : Nat), k < (0 : Nat) → (0 : Int) = (0 : Int) from fun _ _ => rfl) (cB10_1 b q (ri (q (15 : Nat)))))) (an (an (@Eq.refl (Nat) ((0 : Nat))) (an (show ∀ (k : Nat), k < (0 : Nat) → (0 : Int) = (0 : Int) from fun _ _ => rfl) (an (ri k) (an (ri a) (an (ri o) (ri x)))))) (an (an (@Eq.refl (Nat) ((0 : Nat))) (an (show ∀ (k : Nat), k < (0 : Nat) → (0 : Int) = (0 : Int) from fun _ _ => rfl) (an (ri C) (ri N)))) (an (an (@Eq.refl (Nat) ((0 : Nat))) (an (show ∀ (k : Nat), k < (0 : Nat) → (0 : Int) = (0 : Int) from fun _ _ => rfl) (pB10_1 w))) (an (an (@Eq.refl (Nat) ((0 : Nat))) (an (show ∀ (k : Nat), k < (0 : Nat) → (0 : Int) = (0 : Int) from fun _ _ => rfl) (cB10_0 b (cB10_36 r (an (show (if b (8 : Nat) = true then r (8 : Nat) else y) = r (8 : Nat) by (simp at *; simp [*]; done)) (cB10_19 r s (an (show (if b (8 : Nat) = true then s (8 : Nat) else y) = s (8 : Nat) by (simp at *; simp [*]; done)) (cB10_20 s (ri (s (15 : Nat))))))))))) tt)))))) tt)) ?_
   kernel_rfl
theorem nd_u9 (b : Nat → Bool) (q : Nat → Int) (k a o x y C N : Int) (i : Nat) (w r s : Nat → Int) : ∃ hh, vcOf (runAt Try.prog specD noL 6000 9 [1, 1, 1, 0, 1, 0, 0, 1, 0, 0, 1, 1, 0, 1, 0, 1, 0, 1, 0, 0] (Tr.ofPairs (nT1 y i (.c 9))) (Hm (nB1 b q k a o x C N w r s) 5) hh)
    (roundK 5 [0, 1, 2, 3, 4] (nT1 y i (.c 10)) (nB1 b q k a o x C N w (upd r 9 (if b 9 then r 9 else y)) (upd s 9 (if b 9 then s 9 else y))) True 2 [] [] False) := by

  rcases Bool.eq_false_or_eq_true (!b (9 : Nat)) with h0 | h0
  ·
   refine vcIntro [true] (an (an h0 tt) (an (an (pB10_4 y i) (an (an (@Eq.refl (Nat) ((0 : Nat))) (an (show ∀ (k : Nat), k < (0 : Nat) → (0 : Int) = (0 : Int) from fun _ _ => rfl) (cB10_1 b q (ri (q (15 : Nat)))))) (an (an (@Eq.refl (Nat) ((0 : Nat))) (an (show ∀ (k : Nat), k < (0 : Nat) → (0 : Int) = (0 : Int) from fun _ _ => rfl) (an (ri k) (an (ri a) (an (ri o) (ri x)))))) (an (an (@Eq.refl (Nat) ((0 : Nat))) (an (show ∀ (k : Nat), k < (0 : Nat) → (0 : Int) = (0 : Int) from fun _ _ => rfl) (an (ri C) (ri N)))) (an (an (@Eq.refl (Nat) ((0 : Nat))) (an (show ∀ (k : Nat), k < (0 : Nat) → (0 : Int) = (0 : Int) from fun _ _ => rfl) (pB10_1 w))) (an (an (@Eq.refl (Nat) ((0 : Nat))) (an (show ∀ (k : Nat), k < (0 : Nat) → (0 : Int) = (0 : Int) from fun _ _ => rfl) (cB10_0 b (cB10_36 r (an (ri (r (8 : Nat))) (an (show (if b (9 : Nat) = true then r (9 : Nat) else y) = y by (simp at *; simp [*]; done)) (cB10_21 r s (an (show (if b (9 : Nat) = true then s (9 : Nat) else y) = y by (simp at *; simp [*]; done)) (cB10_22 s (ri (s (15 : Nat)))))))))))) tt)))))) tt)) ?_
   kernel_rfl
  ·
   refine vcIntro [false] (an (an h0 tt) (an (an (pB10_4 y i) (an (an (@Eq.refl (Nat) ((0 : Nat))) (an (show ∀ (k : Nat), k < (0 : Nat) → (0 : Int) = (0 : Int) from fun _ _ => rfl) (cB10_1 b q (ri (q (15 : Nat)))))) (an (an (@Eq.refl (Nat) ((0 : Nat))) (an (show ∀ (k : Nat), k < (0 : Nat) → (0 : Int) = (0 : Int) from fun _ _ => rfl) (an (ri k) (an (ri a) (an (ri o) (ri x)))))) (an (an (@Eq.refl (Nat) ((0 : Nat))) (an (show ∀ (k : Nat), k < (0 : Nat) → (0 : Int) = (0 : Int) from fun _ _ => rfl) (an (ri C) (ri N)))) (an (an (@Eq.refl (Nat) ((0 : Nat))) (an (show ∀ (k : Nat), k < (0 : Nat) → (0 : Int) = (0 : Int) from fun _ _ => rfl) (pB10_1 w))) (an (an (@Eq.refl (Nat) ((0 : Nat))) (an (show ∀ (k : Nat), k < (0 : Nat) → (0 : Int) = (0 : Int) from fun _ _ => rfl) (cB10_0 b (cB10_36 r (an (ri (r (8 : Nat))) (an (show (if b (9 : Nat) = true then r (9 : Nat) else y) = r (9 : Nat) by (simp at *; simp [*]; done)) (cB10_21 r s (an (show (if b (9 : Nat) = true then s (9 : Nat) else y) = s (9 : Nat) by (simp at *; simp [*]; done)) (cB10_22 s (ri (s (15 : Nat)))))))))))) tt)))))) tt)) ?_
   kernel_rfl
theorem nd_u10 (b : Nat → Bool) (q : Nat → Int) (k a o x y C N : Int) (i : Nat) (w r s : Nat → Int) : ∃ hh, vcOf (runAt Try.prog specD noL 6000 9 [1, 1, 1, 0, 1, 0, 0, 1, 0, 0, 1, 1, 0, 1, 0, 1, 0, 1, 0, 0] (Tr.ofPairs (nT1 y i (.c 10))) (Hm (nB1 b q k a o x C N w r s) 5) hh)
    (roundK 5 [0, 1, 2, 3, 4] (nT1 y i (.c 11)) (nB1 b q k a o x C N w (upd r 10 (if b 10 then r 10 else y)) (upd s 10 (if b 10 then s 10 else y))) True 2 [] [] False) := by

  rcases Bool.eq_false_or_eq_true (!b (10 : Nat)) with h0 | h0
  ·
   refine vcIntro [true] (an (an h0 tt) (an (an (pB10_4 y i) (an (an (@Eq.refl (Nat) ((0 : Nat))) (an (show ∀ (k : Nat), k < (0 : Nat) → (0 : Int) = (0 : Int) from fun _ _ => rfl) (cB10_1 b q (ri (q (15 : Nat)))))) (an (an (@Eq.refl (Nat) ((0 : Nat))) (an (show ∀ (k : Nat), k < (0 : Nat) → (0 : Int) = (0 : Int) from fun _ _ => rfl) (an (ri k) (an (ri a) (an (ri o) (ri x)))))) (an (an (@Eq.refl (Nat) ((0 : Nat))) (an (show ∀ (k : Nat), k < (0 : Nat) → (0 : Int) = (0 : Int) from fun _ _ => rfl) (an (ri C) (ri N)))) (an (an (@Eq.refl (Nat) ((0 : Nat))) (an (show ∀ (k : Nat), k < (0 : Nat) → (0 : Int) = (0 : Int) from fun _ _ => rfl) (pB10_1 w))) (an (an (@Eq.refl (Nat) ((0 : Nat))) (an (show ∀ (k : Nat), k < (0 : Nat) → (0 : Int) = (0 : Int) from fun _ _ => rfl) (cB10_0 b (cB10_36 r (an (ri (r (8 : Nat))) (an (ri (r (9 : Nat))) (an (show (if b (10 : Nat) = true then r (10 : Nat) else y) = y by (simp at *; simp [*]; done)) (cB10_23 r s (an (show (if b (10 : Nat) = true then s (10 : Nat) else y) = y by (simp at *; simp [*]; done)) (cB10_24 s (ri (s (15 : Nat))))))))))))) tt)))))) tt)) ?_
   kernel_rfl
  ·
   refine vcIntro [false] (an (an h0 tt) (an (an (pB10_4 y i) (an (an (@Eq.refl (Nat) ((0 : Nat))) (an (show ∀ (k : Nat), k < (0 : Nat) → (0 : Int) = (0 : Int) from fun _ _ => rfl) (cB10_1 b q (ri (q (15 : Nat)))))) (an (an (@Eq.refl (Nat) ((0 : Nat))) (an (show ∀ (k : Nat), k < (0 : Nat) → (0 : Int) = (0 : Int) from fun _ _ => rfl) (an (ri k) (an (ri a) (an (ri o) (ri x)))))) (an (an (@Eq.refl (Nat) ((0 : Nat))) (an (show ∀ (k : Nat), k < (0 : Nat) → (0 : Int) = (0 : Int) from fun _ _ => rfl) (an (ri C) (ri N)))) (an (an (@Eq.refl (Nat) ((0 : Nat))) (an (show ∀ (k : Nat), k < (0 : Nat) → (0 : Int) = (0 : Int) from fun _ _ => rfl) (pB10_1 w))) (an (an (@Eq.refl (Nat) ((0 : Nat))) (an (show ∀ (k : Nat), k < (0 : Nat) → (0 : Int) = (0 : Int) from fun _ _ => rfl) (cB10_0 b (cB10_36 r (an (ri (r (8 : Nat))) (an (ri (r (9 : Nat))) (an (show (if b (10 : Nat) = true then r (10 : Nat) else y) = r (10 : Nat) by (simp at *; simp [*]; done)) (cB10_23 r s (an (show (if b (10 : Nat) = true then s (10 : Nat) else y) = s (10 : Nat) by (simp at *; simp [*]; done)) (cB10_24 s (ri (s (15 : Nat))))))))))))) tt)))))) tt)) ?_
   kernel_rfl
theorem nd_u11 (b : Nat → Bool) (q : Nat → Int) (k a o x y C N : Int) (i : Nat) (w r s : Nat → Int) : ∃ hh, vcOf (runAt Try.prog specD noL 6000 9 [1, 1, 1, 0, 1, 0, 0, 1, 0, 0, 1, 1, 0, 1, 0, 1, 0, 1, 0, 0] (Tr.ofPairs (nT1 y i (.c 11))) (Hm (nB1 b q k a o x C N w r s) 5) hh)
    (roundK 5 [0, 1, 2, 3, 4] (nT1 y i (.c 12)) (nB1 b q k a o x C N w (upd r 11 (if b 11 then r 11 else y)) (upd s 11 (if b 11 then s 11 else y))) True 2 [] [] False) := by

  rcases Bool.eq_false_or_eq_true (!b (11 : Nat)) with h0 | h0
  ·
   refine vcIntro [true] (an (an h0 tt) (an (an (pB10_4 y i) (an (an (@Eq.refl (Nat) ((0 : Nat))) (an (show ∀ (k : Nat), k < (0 : Nat) → (0 : Int) = (0 : Int) from fun _ _ => rfl) (cB10_1 b q (ri (q (15 : Nat)))))) (an (an (@Eq.refl (Nat) ((0 : Nat))) (an (show ∀ (k : Nat), k < (0 : Nat) → (0 : Int) = (0 : Int) from fun _ _ => rfl) (an (ri k) (an (ri a) (an (ri o) (ri x)))))) (an (an (@Eq.refl (Nat) ((0 : Nat))) (an (show ∀ (k : Nat), k < (0 : Nat) → (0 : Int) = (0 : Int) from fun _ _ => rfl) (an (ri C) (ri N)))) (an (an (@Eq.refl (Nat) ((0 : Nat))) (an (show ∀ (k : Nat), k < (0 : Nat) → (0 : Int) = (0 : Int) from fun _ _ => rfl) (pB10_1 w))) (an (an (@Eq.refl (Nat) ((0 : Nat))) (an (show ∀ (k : Nat), k < (0 : Nat) → (0 : Int) = (0 : Int) from fun _ _ => rfl) (cB10_0 b (cB10_36 r (an (ri (r (8 : Nat))) (an (ri (r (9 : Nat))) (an (ri (r (10 : Nat))) (an (show (if b (11 : Nat) = true then r (11 : Nat) else y) = y by (simp at *; simp [*]; done)) (cB10_25 r s (an (show (if b (11 : Nat) = true then s (11 : Nat) else y) = y by (simp at *; simp [*]; done)) (an (ri (s (12 : Nat))) (pB10_5 s)))))))))))) tt)))))) tt)) ?_
   kernel_rfl
  ·
   refine vcIntro [false] (an (an h0 tt) (an (an (pB10_4 y i) (an (an (@Eq.refl (Nat) ((0 : Nat))) (an (show ∀ (k : Nat), k < (0 : Nat) → (0 : Int) = (0 : Int) from fun _ _ => rfl) (cB10_1 b q (ri (q (15 : Nat)))))) (an (an (@Eq.refl (Nat) ((0 : Nat))) (an (show ∀ (k : Nat), k < (0 : Nat) → (0 : Int) = (0 : Int) from fun _ _ => rfl) (an (ri k) (an (ri a) (an (ri o) (ri x)))))) (an (an (@Eq.refl (Nat) ((0 : Nat))) (an (show ∀ (k : Nat), k < (0 : Nat) → (0 : Int) = (0 : Int) from fun _ _ => rfl) (an (ri C) (ri N)))) (an (an (@Eq.refl (Nat) ((0 : Nat))) (an (show ∀ (k : Nat), k < (0 : Nat) → (0 : Int) = (0 : Int) from fun _ _ => rfl) (pB10_1 w))) (an (an (@Eq.refl (Nat) ((0 : Nat))) (an (show ∀ (k : Nat), k < (0 : Nat) → (0 : Int) = (0 : Int) from fun _ _ => rfl) (cB10_0 b (cB10_36 r (an (ri (r (8 : Nat))) (an (ri (r (9 : Nat))) (an (ri (r (10 : Nat))) (an (show (if b (11 : Nat) = true then r (11 : Nat) else y) = r (11 : Nat) by (simp at *; simp [*]; done)) (cB10_25 r s (an (show (if b (11 : Nat) = true then s (11 : Nat) else y) = s (11 : Nat) by (simp at *; simp [*]; done)) (an (ri (s (12 : Nat))) (pB10_5 s)))))))))))) tt)))))) tt)) ?_
   kernel_rfl
theorem nd_u12 (b : Nat → Bool) (q : Nat → Int) (k a o x y C N : Int) (i : Nat) (w r s : Nat → Int) : ∃ hh, vcOf (runAt Try.prog specD noL 6000 9 [1, 1, 1, 0, 1, 0, 0, 1, 0, 0, 1, 1, 0, 1, 0, 1, 0, 1, 0, 0] (Tr.ofPairs (nT1 y i (.c 12))) (Hm (nB1 b q k a o x C N w r s) 5) hh)
    (roundK 5 [0, 1, 2, 3, 4] (nT1 y i (.c 13)) (nB1 b q k a o x C N w (upd r 12 (if b 12 then r 12 else y)) (upd s 12 (if b 12 then s 12 else y))) True 2 [] [] False) := by

  rcases Bool.eq_false_or_eq_true (!b (12 : Nat)) with h0 | h0
  ·
   refine vcIntro [true] (an (an h0 tt) (an (an (pB10_4 y i) (an (an (@Eq.refl (Nat) ((0 : Nat))) (an (show ∀ (k : Nat), k < (0 : Nat) → (0 : Int) = (0 : Int) from fun _ _ => rfl) (cB10_1 b q (ri (q (15 : Nat)))))) (an (an (@Eq.refl (Nat) ((0 : Nat))) (an (show ∀ (k : Nat), k < (0 : Nat) → (0 : Int) = (0 : Int) from fun _ _ => rfl) (an (ri k) (an (ri a) (an (ri o) (ri x)))))) (an (an (@Eq.refl (Nat) ((0 : Nat))) (an (show ∀ (k : Nat), k < (0 : Nat) → (0 : Int) = (0 : Int) from fun _ _ => rfl) (an (ri C) (ri N)))) (an (an (@Eq.refl (Nat) ((0 : Nat))) (an (show ∀ (k : Nat), k < (0 : Nat) → (0 : Int) = (0 : Int) from fun _ _ => rfl) (pB10_1 w))) (an (an (@Eq.refl (Nat) ((0 : Nat))) (an (show ∀ (k : Nat), k < (0 : Nat) → (0 : Int) = (0 : Int) from fun _ _ => rfl) (cB10_0 b (cB10_36 r (cB10_37 r (an (show (if b (12 : Nat) = true then r (12 : Nat) else y) = y by (simp at *; simp [*]; done)) (cB10_26 r s (an (show (if b (12 : Nat) = true then s (12 : Nat) else y) = y by (simp at *; simp [*]; done)) (pB10_5 s))))))))) tt)))))) tt)) ?_
   kernel_rfl
  ·
   refine vcIntro [false] (an (an h0 tt) (an (an (pB10_4 y i) (an (an (@Eq.refl (Nat) ((0 : Nat))) (an (show ∀ (k : Nat), k < (0 : Nat) → (0 : Int) = (0 : Int) from fun _ _ => rfl) (cB10_1 b q (ri (q (15 : Nat)))))) (an (an (@Eq.refl (Nat) ((0 : Nat))) (an (show ∀ (k : Nat), k < (0 : Nat) → (0 : Int) = (0 : Int) from fun _ _ => rfl) (an (ri k) (an (ri a) (an (ri o) (ri x)))))) (an (an (@Eq.refl (Nat) ((0 : Nat))) (an (show ∀ (k : Nat), k < (0 : Nat) → (0 : Int) = (0 : Int) from fun _ _ => rfl) (an (ri C) (ri N)))) (an (an (@Eq.refl (Nat) ((0 : Nat))) (an (show ∀ (k : Nat), k < (0 : Nat) → (0 : Int) = (0 : Int) from fun _ _ => rfl) (pB10_1 w))) (an (an (@Eq.refl (Nat) ((0 : Nat))) (an (show ∀ (k : Nat), k < (0 : Nat) → (0 : Int) = (0 : Int) from fun _ _ => rfl) (cB10_0 b (cB10_36 r (cB10_37 r (an (show (if b (12 : Nat) = true then r (12 : Nat) else y) = r (12 : Nat) by (simp at *; simp [*]; done)) (cB10_26 r s (an (show (if b (12 : Nat) = true then s (12 : Nat) else y) = s (12 : Nat) by (simp at *; simp [*]; done)) (pB10_5 s))))))))) tt)))))) tt)) ?_
   kernel_rfl
theorem nd_u13 (b : Nat → Bool) (q : Nat → Int) (k a o x y C N : Int) (i : Nat) (w r s : Nat → Int) : ∃ hh, vcOf (runAt Try.prog specD noL 6000 9 [1, 1, 1, 0, 1, 0, 0, 1, 0, 0, 1, 1, 0, 1, 0, 1, 0, 1, 0, 0] (Tr.ofPairs (nT1 y i (.c 13))) (Hm (nB1 b q k a o x C N w r s) 5) hh)
    (roundK 5 [0, 1, 2, 3, 4] (nT1 y i (.c 14)) (nB1 b q k a o x C N w (upd r 13 (if b 13 then r 13 else y)) (upd s 13 (if b 13 then s 13 else y))) True 2 [] [] False) := by

  rcases Bool.eq_false_or_eq_true (!b (13 : Nat)) with h0 | h0
  ·
   refine vcIntro [true] (an (an h0 tt) (an (an (pB10_4 y i) (an (an (@Eq.refl (Nat) ((0 : Nat))) (an (show ∀ (k : Nat), k < (0 : Nat) → (0 : Int) = (0 : Int) from fun _ _ => rfl) (cB10_1 b q (ri (q (15 : Nat)))))) (an (an (@Eq.refl (Nat) ((0 : Nat))) (an (show ∀ (k : Nat), k < (0 : Nat) → (0 : Int) = (0 : Int) from fun _ _ => rfl) (an (ri k) (an (ri a) (an (ri o) (ri x)))))) (an (an (@Eq.refl (Nat) ((0 : Nat))) (an (show ∀ (k : Nat), k < (0 : Nat) → (0 : Int) = (0 : Int) from fun _ _ => rfl) (an (ri C) (ri N)))) (an (an (@Eq.refl (Nat) ((0 : Nat))) (an (show ∀ (k : Nat), k < (0 : Nat) → (0 : Int) = (0 : Int) from fun _ _ => rfl) (pB10_1 w))) (an (an (@Eq.refl (Nat) ((0 : Nat))) (an (show ∀ (k : Nat), k < (0 : Nat) → (0 : Int) = (0 : Int) from fun _ _ => rfl) (cB10_0 b (cB10_36 r (cB10_37 r (an (ri (r (12 : Nat))) (an (show (if b (13 : Nat) = true then r (13 : Nat) else y) = y by (simp at *; simp [*]; done)) (cB10_27 r s (an (show (if b (13 : Nat) = true then s (13 : Nat) else y) = y by (simp at *; simp [*]; done)) (an (ri (s (14 : Nat))) (ri (s (15 : Nat))))))))))))) tt)))))) tt)) ?_
   kernel_rfl
  ·
   refine vcIntro [false] (an (an h0 tt) (an (an (pB10_4 y i) (an (an (@Eq.refl (Nat) ((0 : Nat))) (an (show ∀ (k : Nat), k < (0 : Nat) → (0 : Int) = (0 : Int) from fun _ _ => rfl) (cB10_1 b q (ri (q (15 : Nat)))))) (an (an (@Eq.refl (Nat) ((0 : Nat))) (an (show ∀ (k : Nat), k < (0 : Nat) → (0 : Int) = (0 : Int) from fun _ _ => rfl) (an (ri k) (an (ri a) (an (ri o) (ri x)))))) (an (an (@Eq.refl (Nat) ((0 : Nat))) (an (show ∀ (k : Nat), k < (0 : Nat) → (0 : Int) = (0 : Int) from fun _ _ => rfl) (an (ri C) (ri N)))) (an (an (@Eq.refl (Nat) ((0 : Nat))) (an (show ∀ (k : Nat), k < (0 : Nat) → (0 : Int) = (0 : Int) from fun _ _ => rfl) (pB10_1 w))) (an (an (@Eq.refl (Nat) ((0 : Nat))) (an (show ∀ (k : Nat), k < (0 : Nat) → (0 : Int) = (0 : Int) from fun _ _ => rfl) (cB10_0 b (cB10_36 r (cB10_37 r (an (ri (r (12 : Nat))) (an (show (if b (13 : Nat) = true then r (13 : Nat) else y) = r (13 : Nat) by (simp at *; simp [*]; done)) (cB10_27 r s (an (show (if b (13 : Nat) = true then s (13 : Nat) else y) = s (13 : Nat) by (simp at *; simp [*]; done)) (an (ri (s (14 : Nat))) (ri (s (15 : Nat))))))))))))) tt)))))) tt)) ?_
   kernel_rfl
theorem nd_u14 (b : Nat → Bool) (q : Nat → Int) (k a o x y C N : Int) (i : Nat) (w r s : Nat → Int) : ∃ hh, vcOf (runAt Try.prog specD noL 6000 9 [1, 1, 1, 0, 1, 0, 0, 1, 0, 0, 1, 1, 0, 1, 0, 1, 0, 1, 0, 0] (Tr.ofPairs (nT1 y i (.c 14))) (Hm (nB1 b q k a o x C N w r s) 5) hh)
    (roundK 5 [0, 1, 2, 3, 4] (nT1 y i (.c 15)) (nB1 b q k a o x C N w (upd r 14 (if b 14 then r 14 else y)) (upd s 14 (if b 14 then s 14 else y))) True 2 [] [] False) := by

  rcases Bool.eq_false_or_eq_true (!b (14 : Nat)) with h0 | h0
  ·
   refine vcIntro [true] (an (an h0 tt) (an (an (pB10_4 y i) (an (an (@Eq.refl (Nat) ((0 : Nat))) (an (show ∀ (k : Nat), k < (0 : Nat) → (0 : Int) = (0 : Int) from fun _ _ => rfl) (cB10_1 b q (ri (q (15 : Nat)))))) (an (an (@Eq.refl (Nat) ((0 : Nat))) (an (show ∀ (k : Nat), k < (0 : Nat) → (0 : Int) = (0 : Int) from fun _ _ => rfl) (an (ri k) (an (ri a) (an (ri o) (ri x)))))) (an (an (@Eq.refl (Nat) ((0 : Nat))) (an (show ∀ (k : Nat), k < (0 : Nat) → (0 : Int) = (0 : Int) from fun _ _ => rfl) (an (ri C) (ri N)))) (an (an (@Eq.refl (Nat) ((0 : Nat))) (an (show ∀ (k : Nat), k < (0 : Nat) → (0 : Int) = (0 : Int) from fun _ _ => rfl) (pB10_1 w))) (an (an (@Eq.refl (Nat) ((0 : Nat))) (an (show ∀ (k : Nat), k < (0 : Nat) → (0 : Int) = (0 : Int) from fun _ _ => rfl) (cB10_0 b (cB10_36 r (cB10_37 r (an (ri (r (12 : Nat))) (an (ri (r (13 : Nat))) (an (show (if b (14 : Nat) = true then r (14 : Nat) else y) = y by (simp at *; simp [*]; done)) (cB10_28 r s (an (show (if b (14 : Nat) = true then s (14 : Nat) else y) = y by (simp at *; simp [*]; done)) (ri (s (15 : Nat))))))))))))) tt)))))) tt)) ?_
   kernel_rfl
  ·
   refine vcIntro [false] (an (an h0 tt) (an (an (pB10_4 y i) (an (an (@Eq.refl (Nat) ((0 : Nat))) (an (show ∀ (k : Nat), k < (0 : Nat) → (0 : Int) = (0 : Int) from fun _ _ => rfl) (cB10_1 b q (ri (q (15 : Nat)))))) (an (an (@Eq.refl (Nat) ((0 : Nat))) (an (show ∀ (k : Nat), k < (0 : Nat) → (0 : Int) = (0 : Int) from fun _ _ => rfl) (an (ri k) (an (ri a) (an (ri o) (ri x)))))) (an (an (@Eq.refl (Nat) ((0 : Nat))) (an (show ∀ (k : Nat), k < (0 : Nat) → (0 : Int) = (0 : Int) from fun _ _ => rfl) (an (ri C) (ri N)))) (an (an (@Eq.refl (Nat) ((0 : Nat))) (an (show ∀ (k : Nat), k < (0 : Nat) → (0 : Int) = (0 : Int) from fun _ _ => rfl) (pB10_1 w))) (an (an (@Eq.refl (Nat) ((0 : Nat))) (an (show ∀ (k : Nat), k < (0 : Nat) → (0 : Int) = (0 : Int) from fun _ _ => rfl) (cB10_0 b (cB10_36 r (cB10_37 r (an (ri (r (12 : Nat))) (an (ri (r (13 : Nat))) (an (show (if b (14 : Nat) = true then r (14 : Nat) else y) = r (14 : Nat) by (simp at *; simp [*]; done)) (cB10_28 r s (an (show (if b (14 : Nat) = true then s (14 : Nat) else y) = s (14 : Nat) by (simp at *; simp [*]; done)) (ri (s (15 : Nat))))))))))))) tt)))))) tt)) ?_
   kernel_rfl
theorem nd_u15 (b : Nat → Bool) (q : Nat → Int) (k a o x y C N : Int) (i : Nat) (w r s : Nat → Int) : ∃ hh, vcOf (runAt Try.prog specD noL 6000 9 [1, 1, 1, 0, 1, 0, 0, 1, 0, 0, 1, 1, 0, 1, 0, 1, 0, 1, 0, 0] (Tr.ofPairs (nT1 y i (.c 15))) (Hm (nB1 b q k a o x C N w r s) 5) hh)
    (roundK 5 [0, 1, 2, 3, 4] (nT1 y i (.c 16)) (nB1 b q k a o x C N w (upd r 15 (if b 15 then r 15 else y)) (upd s 15 (if b 15 then s 15 else y))) True 2 [] [] False) := by

  rcases Bool.eq_false_or_eq_true (!b (15 : Nat)) with h0 | h0
  ·
   refine vcIntro [true] (an (an h0 tt) (an (an (pB10_4 y i) (an (an (@Eq.refl (Nat) ((0 : Nat))) (an (show ∀ (k : Nat), k < (0 : Nat) → (0 : Int) = (0 : Int) from fun _ _ => rfl) (cB10_1 b q (ri (q (15 : Nat)))))) (an (an (@Eq.refl (Nat) ((0 : Nat))) (an (show ∀ (k : Nat), k < (0 : Nat) → (0 : Int) = (0 : Int) from fun _ _ => rfl) (an (ri k) (an (ri a) (an (ri o) (ri x)))))) (an (an (@Eq.refl (Nat) ((0 : Nat))) (an (show ∀ (k : Nat), k < (0 : Nat) → (0 : Int) = (0 : Int) from fun _ _ => rfl) (an (ri C) (ri N)))) (an (an (@Eq.refl (Nat) ((0 : Nat))) (an (show ∀ (k : Nat), k < (0 : Nat) → (0 : Int) = (0 : Int) from fun _ _ => rfl) (pB10_1 w))) (an (an (@Eq.refl (Nat) ((0 : Nat))) (an (show ∀ (k : Nat), k < (0 : Nat) → (0 : Int) = (0 : Int) from fun _ _ => rfl) (cB10_0 b (cB10_36 r (cB10_37 r (an (ri (r (12 : Nat))) (an (ri (r (13 : Nat))) (an (ri (r (14 : Nat))) (an (show (if b (15 : Nat) = true then r (15 : Nat) else y) = y by (simp at *; simp [*]; done)) (cB10_29 s (show (if b (15 : Nat) = true then s (15 : Nat) else y) = y by (simp at *; simp [*]; done)))))))))))) tt)))))) tt)) ?_
   kernel_rfl
  ·
   refine vcIntro [false] (an (an h0 tt) (an (an (pB10_4 y i) (an (an (@Eq.refl (Nat) ((0 : Nat))) (an (show ∀ (k : Nat), k < (0 : Nat) → (0 : Int) = (0 : Int) from fun _ _ => rfl) (cB10_1 b q (ri (q (15 : Nat)))))) (an (an (@Eq.refl (Nat) ((0 : Nat))) (an (show ∀ (k : Nat), k < (0 : Nat) → (0 : Int) = (0 : Int) from fun _ _ => rfl) (an (ri k) (an (ri a) (an (ri o) (ri x)))))) (an (an (@Eq.refl (Nat) ((0 : Nat))) (an (show ∀ (k : Nat), k < (0 : Nat) → (0 : Int) = (0 : Int) from fun _ _ => rfl) (an (ri C) (ri N)))) (an (an (@Eq.refl (Nat) ((0 : Nat))) (an (show ∀ (k : Nat), k < (0 : Nat) → (0 : Int) = (0 : Int) from fun _ _ => rfl) (pB10_1 w))) (an (an (@Eq.refl (Nat) ((0 : Nat))) (an (show ∀ (k : Nat), k < (0 : Nat) → (0 : Int) = (0 : Int) from fun _ _ => rfl) (cB10_0 b (cB10_36 r (cB10_37 r (an (ri (r (12 : Nat))) (an (ri (r (13 : Nat))) (an (ri (r (14 : Nat))) (an (show (if b (15 : Nat) = true then r (15 : Nat) else y) = r (15 : Nat) by (simp at *; simp [*]; done)) (cB10_29 s (show (if b (15 : Nat) = true then s (15 : Nat) else y) = s (15 : Nat) by (simp at *; simp [*]; done)))))))))))) tt)))))) tt)) ?_
   kernel_rfl
theorem nd_ux (b : Nat → Bool) (q : Nat → Int) (k a o x y C N : Int) (i : Nat) (w r s : Nat → Int) : ∃ hh, vcOf (runAt Try.prog specD noL 6000 9 [1, 1, 1, 0, 1, 0, 0, 1, 0, 0, 1, 1, 0, 1, 0, 1, 0, 1, 0, 0] (Tr.ofPairs (nT1 y i (.c 16))) (Hm (nB1 b q k a o x C N w r s) 5) hh)
    (roundK 5 [0, 1, 2, 3, 4] [] [] False 2 (nT1 y i (.c 16)) (nB1 b q k a o x C N w r s) True) := by

  refine vcIntro [] (an tt (an (an (pB10_4 y i) (an (an (@Eq.refl (Nat) ((0 : Nat))) (an (show ∀ (k : Nat), k < (0 : Nat) → (0 : Int) = (0 : Int) from fun _ _ => rfl) (cB10_1 b q (ri (q (15 : Nat)))))) (an (an (@Eq.refl (Nat) ((0 : Nat))) (an (show ∀ (k : Nat), k < (0 : Nat) → (0 : Int) = (0 : Int) from fun _ _ => rfl) (an (ri k) (an (ri a) (an (ri o) (ri x)))))) (an (an (@Eq.refl (Nat) ((0 : Nat))) (an (show ∀ (k : Nat), k < (0 : Nat) → (0 : Int) = (0 : Int) from fun _ _ => rfl) (an (ri C) (ri N)))) (an (an (@Eq.refl (Nat) ((0 : Nat))) (an (show ∀ (k : Nat), k < (0 : Nat) → (0 : Int) = (0 : Int) from fun _ _ => rfl) (pB10_1 w))) (an (an (@Eq.refl (Nat) ((0 : Nat))) (an (show ∀ (k : Nat), k < (0 : Nat) → (0 : Int) = (0 : Int) from fun _ _ => rfl) (cB10_0 b (cB10_36 r (cB10_37 r (an (ri (r (12 : Nat))) (an (ri (r (13 : Nat))) (an (ri (r (14 : Nat))) (an (ri (r (15 : Nat))) (an (ri (s (0 : Nat))) (an (ri (s (1 : Nat))) (an (ri (s (2 : Nat))) (an (ri (s (3 : Nat))) (an (ri (s (4 : Nat))) (an (ri (s (5 : Nat))) (an (ri (s (6 : Nat))) (an (ri (s (7 : Nat))) (an (ri (s (8 : Nat))) (an (ri (s (9 : Nat))) (an (ri (s (10 : Nat))) (an (ri (s (11 : Nat))) (an (ri (s (12 : Nat))) (pB10_5 s))))))))))))))))))))))) tt)))))) tt)) ?_
  kernel_rfl
theorem nd_mid (b : Nat → Bool) (q : Nat → Int) (k a o x y C N : Int) (i : Nat) (w r s : Nat → Int) (hm : bkMay [r 0, r 1, r 2, r 3, r 4, r 5, r 6, r 7, r 8, r 9, r 10, r 11, r 12, r 13, r 14, r 15, s 0, s 1, s 2, s 3, s 4, s 5, s 6, s 7, s 8, s 9, s 10, s 11, s 12, s 13, s 14, s 15] k a o x = true) (hN : bkD [b 0, b 1, b 2, b 3, b 4, b 5, b 6, b 7, b 8, b 9, b 10, b 11, b 12, b 13, b 14, b 15] k a o = -1) (hC : bkCode (s 0) (s 1) (s 2) (s 3) k a o x = C) (hU : bkNum (s 0) (s 1) (s 2) (s 3) k a o x = N) : ∃ hh, vcOf (runFrom Try.prog specD noL 6000 9 [1, 1, 1, 0, 1, 0, 0] [1, 0, 0, 1, 1, 0, 1, 0, 1, 0, 1, 0] [1, 0, 0, 1, 1, 0, 1, 0, 1, 1, 1, 1, 0, 1, 0] (.exit 2) (Tr.ofPairs (nT1 y i (.c 16))) (Hm (nB1 b q k a o x C N w r s) 5) hh)
    (reached fun T1 H1 => weakP T1 H1 (nT2 y i (.c 0)) (nB2 b q w (ndW b r s k a o x)) 7) := by

  rcases Bool.eq_false_or_eq_true (!bkMay [r (0 : Nat), r (1 : Nat), r (2 : Nat), r (3 : Nat), r (4 : Nat), r (5 : Nat), r (6 : Nat), r (7 : Nat), r (8 : Nat), r (9 : Nat), r (10 : Nat), r (11 : Nat), r (12 : Nat), r (13 : Nat), r (14 : Nat), r (15 : Nat), s (0 : Nat), s (1 : Nat), s (2 : Nat), s (3 : Nat), s (4 : Nat), s (5 : Nat), s (6 : Nat), s (7 : Nat), s (8 : Nat), s (9 : Nat), s (10 : Nat), s (11 : Nat), s (12 : Nat), s (13 : Nat), s (14 : Nat), s (15 : Nat)] k a o x) with h0 | h0
  · exact ff (by (simp [hm, hN, hC, hU] at *; done))
  ·
   rcases Bool.eq_false_or_eq_true (decide ((0 : Int) ≤ bkD [b (0 : Nat), b (1 : Nat), b (2 : Nat), b (3 : Nat), b (4 : Nat), b (5 : Nat), b (6 : Nat), b (7 : Nat), b (8 : Nat), b (9 : Nat), b (10 : Nat), b (11 : Nat), b (12 : Nat), b (13 : Nat), b (14 : Nat), b (15 : Nat)] k a o)) with h1 | h1
   · exact ff (by (simp [hm, hN, hC, hU] at *; done))
   ·
    rcases Bool.eq_false_or_eq_true (!(C == bkCode (s (0 : Nat)) (s (1 : Nat)) (s (2 : Nat)) (s (3 : Nat)) k a o x && N == bkNum (s (0 : Nat)) (s (1 : Nat)) (s (2 : Nat)) (s (3 : Nat)) k a o x)) with h2 | h2
    · exact ff (by (simp [hm, hN, hC, hU] at *; done))
    ·
     refine vcIntro [false, false, false] (an (an h2 (an h1 (an h0 tt))) (an (pB10_4 y i) (an (an (@Eq.refl (Nat) ((0 : Nat))) (an (show ∀ (k : Nat), k < (0 : Nat) → (0 : Int) = (0 : Int) from fun _ _ => rfl) (cB10_1 b q (ri (q (15 : Nat)))))) (an (an (@Eq.refl (Nat) ((0 : Nat))) (an (show ∀ (k : Nat), k < (0 : Nat) → (0 : Int) = (0 : Int) from fun _ _ => rfl) (pB10_2 w))) (an (an (@Eq.refl (Nat) ((0 : Nat))) (an (show ∀ (k : Nat), k < (0 : Nat) → (0 : Int) = (0 : Int) from fun _ _ => rfl) (an tt (an tt (an tt (an tt (an tt (an tt (an tt (an tt (an tt (an tt (an tt (an tt (an tt (an tt (an tt (an tt (an tt (an tt (an tt (an tt (an tt (an tt (an tt (an tt (an tt (an tt (an tt (an tt (an tt (an tt (an tt (an tt (an tt (an (show ndW b r s k a o x (0 : Nat) = bkNow (s (0 : Nat)) (s (1 : Nat)) (s (2 : Nat)) (s (3 : Nat)) k a o x (0 : Int) by rfl) (an (show ndW b r s k a o x (1 : Nat) = bkNow (s (0 : Nat)) (s (1 : Nat)) (s (2 : Nat)) (s (3 : Nat)) k a o x (1 : Int) by rfl) (an (show ndW b r s k a o x (2 : Nat) = bkNow (s (0 : Nat)) (s (1 : Nat)) (s (2 : Nat)) (s (3 : Nat)) k a o x (2 : Int) by rfl) (an (show ndW b r s k a o x (3 : Nat) = bkNow (s (0 : Nat)) (s (1 : Nat)) (s (2 : Nat)) (s (3 : Nat)) k a o x (3 : Int) by rfl) (an (show ndW b r s k a o x (4 : Nat) = s (4 : Nat) by rfl) (an (show ndW b r s k a o x (5 : Nat) = s (5 : Nat) by rfl) (an (show ndW b r s k a o x (6 : Nat) = s (6 : Nat) by rfl) (an (show ndW b r s k a o x (7 : Nat) = s (7 : Nat) by rfl) (an (show ndW b r s k a o x (8 : Nat) = s (8 : Nat) by rfl) (an (show ndW b r s k a o x (9 : Nat) = s (9 : Nat) by rfl) (an (show ndW b r s k a o x (10 : Nat) = s (10 : Nat) by rfl) (an (show ndW b r s k a o x (11 : Nat) = s (11 : Nat) by rfl) (an (show ndW b r s k a o x (12 : Nat) = s (12 : Nat) by rfl) (an (show ndW b r s k a o x (13 : Nat) = s (13 : Nat) by rfl) (an (show ndW b r s k a o x (14 : Nat) = s (14 : Nat) by rfl) (an (show ndW b r s k a o x (15 : Nat) = s (15 : Nat) by rfl) tt))))))))))))))))))))))))))))))))))))))))))))))))))) tt))))) ?_
     kernel_rfl
theorem nd_c0 (b : Nat → Bool) (q w u : Nat → Int) (y : Int) (i : Nat) (hu : b 0 = true → u 0 = w 0) (hq : b 0 = false → w 0 = q 0) : ∃ hh, vcOf (runAt Try.prog specD noL 6000 9 [1, 1, 1, 0, 1, 0, 0, 1, 0, 0, 1, 1, 0, 1, 0, 1, 1, 1, 1, 0, 1, 0, 0] (Tr.ofPairs (nT2 y i (.c 0))) (Hm (nB2 b q w u) 7) hh)
    (roundK 7 [0, 1, 2, 3, 4, 5, 6] (nT2 y i (.c 1)) (nB2 b q w u) True 4 [] [] False) := by

  rcases Bool.eq_false_or_eq_true (b (0 : Nat)) with h0 | h0
  ·
   rcases Bool.eq_false_or_eq_true (u (0 : Nat) != w (0 : Nat)) with h1 | h1
   · exact ff (by (simp [*] at *; done))
   ·
    rcases Bool.eq_false_or_eq_true (!b (0 : Nat)) with h2 | h2
    · exact ff (by (simp [*] at *; done))
    ·
     refine vcIntro [true, false, false] (an (an h2 (an h1 (an h0 tt))) (an (an (pB10_4 y i) (an (an (@Eq.refl (Nat) ((0 : Nat))) (an (show ∀ (k : Nat), k < (0 : Nat) → (0 : Int) = (0 : Int) from fun _ _ => rfl) (cB10_1 b q (ri (q (15 : Nat)))))) (an (an (@Eq.refl (Nat) ((0 : Nat))) (an (show ∀ (k : Nat), k < (0 : Nat) → (0 : Int) = (0 : Int) from fun _ _ => rfl) (pB10_2 w))) (an (an (@Eq.refl (Nat) ((0 : Nat))) (an (show ∀ (k : Nat), k < (0 : Nat) → (0 : Int) = (0 : Int) from fun _ _ => rfl) (pB10_3 u))) tt)))) tt)) ?_
     kernel_rfl
  ·
   rcases Bool.eq_false_or_eq_true (!b (0 : Nat)) with h3 | h3
   ·
    rcases Bool.eq_false_or_eq_true (w (0 : Nat) != q (0 : Nat)) with h4 | h4
    · exact ff (by (simp [*] at *; done))
    ·
     refine vcIntro [false, true, false] (an (an h4 (an h3 (an h0 tt))) (an (an (pB10_4 y i) (an (an (@Eq.refl (Nat) ((0 : Nat))) (an (show ∀ (k : Nat), k < (0 : Nat) → (0 : Int) = (0 : Int) from fun _ _ => rfl) (cB10_1 b q (ri (q (15 : Nat)))))) (an (an (@Eq.refl (Nat) ((0 : Nat))) (an (show ∀ (k : Nat), k < (0 : Nat) → (0 : Int) = (0 : Int) from fun _ _ => rfl) (pB10_2 w))) (an (an (@Eq.refl (Nat) ((0 : Nat))) (an (show ∀ (k : Nat), k < (0 : Nat) → (0 : Int) = (0 : Int) from fun _ _ => rfl) (pB10_3 u))) tt)))) tt)) ?_
     kernel_rfl
   · exact ff (by (simp [*] at *; done))
theorem nd_c1 (b : Nat → Bool) (q w u : Nat → Int) (y : Int) (i : Nat) (hu : b 1 = true → u 1 = w 1) (hq : b 1 = false → w 1 = q 1) : ∃ hh, vcOf (runAt Try.prog specD noL 6000 9 [1, 1, 1, 0, 1, 0, 0, 1, 0, 0, 1, 1, 0, 1, 0, 1, 1, 1, 1, 0, 1, 0, 0] (Tr.ofPairs (nT2 y i (.c 1))) (Hm (nB2 b q w u) 7) hh)
    (roundK 7 [0, 1, 2, 3, 4, 5, 6] (nT2 y i (.c 2)) (nB2 b q w u) True 4 [] [] False) := by

  rcases Bool.eq_false_or_eq_true (b (1 : Nat)) with h0 | h0
  ·
   rcases Bool.eq_false_or_eq_true (u (1 : Nat) != w (1 : Nat)) with h1 | h1
   · exact ff (by (simp [*] at *; done))
   ·
    rcases Bool.eq_false_or_eq_true (!b (1 : Nat)) with h2 | h2
    · exact ff (by (simp [*] at *; done))
    ·
     refine vcIntro [true, false, false] (an (an h2 (an h1 (an h0 tt))) (an (an (pB10_4 y i) (an (an (@Eq.refl (Nat) ((0 : Nat))) (an (show ∀ (k : Nat), k < (0 : Nat) → (0 : Int) = (0 : Int) from fun _ _ => rfl) (cB10_1 b q (ri (q (15 : Nat)))))) (an (an (@Eq.refl (Nat) ((0 : Nat))) (an (show ∀ (k : Nat), k < (0 : Nat) → (0 : Int) = (0 : Int) from fun _ _ => rfl) (pB10_2 w))) (an (an (@Eq.refl (Nat) ((0 : Nat))) (an (show ∀ (k : Nat), k < (0 : Nat) → (0 : Int) = (0 : Int) from fun _ _ => rfl) (pB10_3 u))) tt)))) tt)) ?_
     kernel_rfl
  ·
   rcases Bool.eq_false_or_eq_true (!b (1 : Nat)) with h3 | h3
   ·
    rcases Bool.eq_false_or_eq_true (w (1 : Nat) != q (1 : Nat)) with h4 | h4
    · exact ff (by (simp [*] at *; done))
    ·
     refine vcIntro [false, true, false] (an (an h4 (an h3 (an h0 tt))) (an (an (pB10_4 y i) (an (an (@Eq.refl (Nat) ((0 : Nat))) (an (show ∀ (k : Nat), k < (0 : Nat) → (0 : Int) = (0 : Int) from fun _ _ => rfl) (cB10_1 b q (ri (q (15 : Nat)))))) (an (an (@Eq.refl (Nat) ((0 : Nat))) (an (show ∀ (k : Nat), k < (0 : Nat) → (0 : Int) = (0 : Int) from fun _ _ => rfl) (pB10_2 w))) (an (an (@Eq.refl (Nat) ((0 : Nat))) (an (show ∀ (k : Nat), k < (0 : Nat) → (0 : Int) = (0 : Int) from fun _ _ => rfl) (pB10_3 u))) tt)))) tt)) ?_
     kernel_rfl
   · exact ff (by (simp [*] at *; done))
theorem nd_c2 (b : Nat → Bool) (q w u : Nat → Int) (y : Int) (i : Nat) (hu : b 2 = true → u 2 = w 2) (hq : b 2 = false → w 2 = q 2) : ∃ hh, vcOf (runAt Try.prog specD noL 6000 9 [1, 1, 1, 0, 1, 0, 0, 1, 0, 0, 1, 1, 0, 1, 0, 1, 1, 1, 1, 0, 1, 0, 0] (Tr.ofPairs (nT2 y i (.c 2))) (Hm (nB2 b q w u) 7) hh)
    (roundK 7 [0, 1, 2, 3, 4, 5, 6] (nT2 y i (.c 3)) (nB2 b q w u) True 4 [] [] False) := by

  rcases Bool.eq_false_or_eq_true (b (2 : Nat)) with h0 | h0
  ·
   rcases Bool.eq_false_or_eq_true (u (2 : Nat) != w (2 : Nat)) with h1 | h1
   · exact ff (by (simp [*] at *; done))
   ·
    rcases Bool.eq_false_or_eq_true (!b (2 : Nat)) with h2 | h2
    · exact ff (by (simp [*] at *; done))
    ·
     refine vcIntro [true, false, false] (an (an h2 (an h1 (an h0 tt))) (an (an (pB10_4 y i) (an (an (@Eq.refl (Nat) ((0 : Nat))) (an (show ∀ (k : Nat), k < (0 : Nat) → (0 : Int) = (0 : Int) from fun _ _ => rfl) (cB10_1 b q (ri (q (15 : Nat)))))) (an (an (@Eq.refl (Nat) ((0 : Nat))) (an (show ∀ (k : Nat), k < (0 : Nat) → (0 : Int) = (0 : Int) from fun _ _ => rfl) (pB10_2 w))) (an (an (@Eq.refl (Nat) ((0 : Nat))) (an (show ∀ (k : Nat), k < (0 : Nat) → (0 : Int) = (0 : Int) from fun _ _ => rfl) (pB10_3 u))) tt)))) tt)) ?_
     kernel_rfl
  ·
   rcases Bool.eq_false_or_eq_true (!b (2 : Nat)) with h3 | h3
   ·
    rcases Bool.eq_false_or_eq_true (w (2 : Nat) != q (2 : Nat)) with h4 | h4
    · exact ff (by (simp [*] at *; done))
    ·
     refine vcIntro [false, true, false] (an (an h4 (an h3 (an h0 tt))) (an (an (pB10_4 y i) (an (an (@Eq.refl (Nat) ((0 : Nat))) (an (show ∀ (k : Nat), k < (0 : Nat) → (0 : Int) = (0 : Int) from fun _ _ => rfl) (cB10_1 b q (ri (q (15 : Nat)))))) (an (an (@Eq.refl (Nat) ((0 : Nat))) (an (show ∀ (k : Nat), k < (0 : Nat) → (0 : Int) = (0 : Int) from fun _ _ => rfl) (pB10_2 w))) (an (an (@Eq.refl (Nat) ((0 : Nat))) (an (show ∀ (k : Nat), k < (0 : Nat) → (0 : Int) = (0 : Int) from fun _ _ => rfl) (pB10_3 u))) tt)))) tt)) ?_
     kernel_rfl
   · exact ff (by (simp [*] at *; done))
theorem nd_c3 (b : Nat → Bool) (q w u : Nat → Int) (y : Int) (i : Nat) (hu : b 3 = true → u 3 = w 3) (hq : b 3 = false → w 3 = q 3) : ∃ hh, vcOf (runAt Try.prog specD noL 6000 9 [1, 1, 1, 0, 1, 0, 0, 1, 0, 0, 1, 1, 0, 1, 0, 1, 1, 1, 1, 0, 1, 0, 0] (Tr.ofPairs (nT2 y i (.c 3))) (Hm (nB2 b q w u) 7) hh)
    (roundK 7 [0, 1, 2, 3, 4, 5, 6] (nT2 y i (.c 4)) (nB2 b q w u) True 4 [] [] False) := by

  rcases Bool.eq_false_or_eq_true (b (3 : Nat)) with h0 | h0
  ·
   rcases Bool.eq_false_or_eq_true (u (3 : Nat) != w (3 : Nat)) with h1 | h1
   · exact ff (by (simp [*] at *; done))
   ·
    rcases Bool.eq_false_or_eq_true (!b (3 : Nat)) with h2 | h2
    · exact ff (by (simp [*] at *; done))
    ·
     refine vcIntro [true, false, false] (an (an h2 (an h1 (an h0 tt))) (an (an (pB10_4 y i) (an (an (@Eq.refl (Nat) ((0 : Nat))) (an (show ∀ (k : Nat), k < (0 : Nat) → (0 : Int) = (0 : Int) from fun _ _ => rfl) (cB10_1 b q (ri (q (15 : Nat)))))) (an (an (@Eq.refl (Nat) ((0 : Nat))) (an (show ∀ (k : Nat), k < (0 : Nat) → (0 : Int) = (0 : Int) from fun _ _ => rfl) (pB10_2 w))) (an (an (@Eq.refl (Nat) ((0 : Nat))) (an (show ∀ (k : Nat), k < (0 : Nat) → (0 : Int) = (0 : Int) from fun _ _ => rfl) (pB10_3 u))) tt)))) tt)) ?_
     kernel_rfl
  ·
   rcases Bool.eq_false_or_eq_true (!b (3 : Nat)) with h3 | h3
   ·
    rcases Bool.eq_false_or_eq_true (w (3 : Nat) != q (3 : Nat)) with h4 | h4
    · exact ff (by (simp [*] at *; done))
    ·
     refine vcIntro [false, true, false] (an (an h4 (an h3 (an h0 tt))) (an (an (pB10_4 y i) (an (an (@Eq.refl (Nat) ((0 : Nat))) (an (show ∀ (k : Nat), k < (0 : Nat) → (0 : Int) = (0 : Int) from fun _ _ => rfl) (cB10_1 b q (ri (q (15 : Nat)))))) (an (an (@Eq.refl (Nat) ((0 : Nat))) (an (show ∀ (k : Nat), k < (0 : Nat) → (0 : Int) = (0 : Int) from fun _ _ => rfl) (pB10_2 w))) (an (an (@Eq.refl (Nat) ((0 : Nat))) (an (show ∀ (k : Nat), k < (0 : Nat) → (0 : Int) = (0 : Int) from fun _ _ => rfl) (pB10_3 u))) tt)))) tt)) ?_
     kernel_rfl
   · exact ff (by (simp [*] at *; done))
theorem nd_c4 (b : Nat → Bool) (q w u : Nat → Int) (y : Int) (i : Nat) (hu : b 4 = true → u 4 = w 4) (hq : b 4 = false → w 4 = q 4) : ∃ hh, vcOf (runAt Try.prog specD noL 6000 9 [1, 1, 1, 0, 1, 0, 0, 1, 0, 0, 1, 1, 0, 1, 0, 1, 1, 1, 1, 0, 1, 0, 0] (Tr.ofPairs (nT2 y i (.c 4))) (Hm (nB2 b q w u) 7) hh)
    (roundK 7 [0, 1, 2, 3, 4, 5, 6] (nT2 y i (.c 5)) (nB2 b q w u) True 4 [] [] False) := by

  rcases Bool.eq_false_or_eq_true (b (4 : Nat)) with h0 | h0
  ·
   rcases Bool.eq_false_or_eq_true (u (4 : Nat) != w (4 : Nat)) with h1 | h1
   · exact ff (by (simp [*] at *; done))
   ·
    rcases Bool.eq_false_or_eq_true (!b (4 : Nat)) with h2 | h2
    · exact ff (by (simp [*] at *; done))
    ·
     refine vcIntro [true, false, false] (an (an h2 (an h1 (an h0 tt))) (an (an (pB10_4 y i) (an (an (@Eq.refl (Nat) ((0 : Nat))) (an (show ∀ (k : Nat), k < (0 : Nat) → (0 : Int) = (0 : Int) from fun _ _ => rfl) (cB10_1 b q (ri (q (15 : Nat)))))) (an (an (@Eq.refl (Nat) ((0 : Nat))) (an (show ∀ (k : Nat), k < (0 : Nat) → (0 : Int) = (0 : Int) from fun _ _ => rfl) (pB10_2 w))) (an (an (@Eq.refl (Nat) ((0 : Nat))) (an (show ∀ (k : Nat), k < (0 : Nat) → (0 : Int) = (0 : Int) from fun _ _ => rfl) (pB10_3 u))) tt)))) tt)) ?_
     kernel_rfl
  ·
   rcases Bool.eq_false_or_eq_true (!b (4 : Nat)) with h3 | h3
   ·
    rcases Bool.eq_false_or_eq_true (w (4 : Nat) != q (4 : Nat)) with h4 | h4
    · exact ff (by (simp [*] at *; done))
    ·
     refine vcIntro [false, true, false] (an (an h4 (an h3 (an h0 tt))) (an (an (pB10_4 y i) (an (an (@Eq.refl (Nat) ((0 : Nat))) (an (show ∀ (k : Nat), k < (0 : Nat) → (0 : Int) = (0 : Int) from fun _ _ => rfl) (cB10_1 b q (ri (q (15 : Nat)))))) (an (an (@Eq.refl (Nat) ((0 : Nat))) (an (show ∀ (k : Nat), k < (0 : Nat) → (0 : Int) = (0 : Int) from fun _ _ => rfl) (pB10_2 w))) (an (an (@Eq.refl (Nat) ((0 : Nat))) (an (show ∀ (k : Nat), k < (0 : Nat) → (0 : Int) = (0 : Int) from fun _ _ => rfl) (pB10_3 u))) tt)))) tt)) ?_
     kernel_rfl
   · exact ff (by (simp [*] at *; done))
theorem nd_c5 (b : Nat → Bool) (q w u : Nat → Int) (y : Int) (i : Nat) (hu : b 5 = true → u 5 = w 5) (hq : b 5 = false → w 5 = q 5) : ∃ hh, vcOf (runAt Try.prog specD noL 6000 9 [1, 1, 1, 0, 1, 0, 0, 1, 0, 0, 1, 1, 0, 1, 0, 1, 1, 1, 1, 0, 1, 0, 0] (Tr.ofPairs (nT2 y i (.c 5))) (Hm (nB2 b q w u) 7) hh)
    (roundK 7 [0, 1, 2, 3, 4, 5, 6] (nT2 y i (.c 6)) (nB2 b q w u) True 4 [] [] False) := by

  rcases Bool.eq_false_or_eq_true (b (5 : Nat)) with h0 | h0
  ·
   rcases Bool.eq_false_or_eq_true (u (5 : Nat) != w (5 : Nat)) with h1 | h1
   · exact ff (by (simp [*] at *; done))
   ·
    rcases Bool.eq_false_or_eq_true (!b (5 : Nat)) with h2 | h2
    · exact ff (by (simp [*] at *; done))
    ·
     refine vcIntro [true, false, false] (an (an h2 (an h1 (an h0 tt))) (an (an (pB10_4 y i) (an (an (@Eq.refl (Nat) ((0 : Nat))) (an (show ∀ (k : Nat), k < (0 : Nat) → (0 : Int) = (0 : Int) from fun _ _ => rfl) (cB10_1 b q (ri (q (15 : Nat)))))) (an (an (@Eq.refl (Nat) ((0 : Nat))) (an (show ∀ (k : Nat), k < (0 : Nat) → (0 : Int) = (0 : Int) from fun _ _ => rfl) (pB10_2 w))) (an (an (@Eq.refl (Nat) ((0 : Nat))) (an (show ∀ (k : Nat), k < (0 : Nat) → (0 : Int) = (0 : Int) from fun _ _ => rfl) (pB10_3 u))) tt)))) tt)) ?_
     kernel_rfl
  ·
   rcases Bool.eq_false_or_eq_true (!b (5 : Nat)) with h3 | h3
   ·
    rcases Bool.eq_false_or_eq_true (w (5 : Nat) != q (5 : Nat)) with h4 | h4
    · exact ff (by (simp [*] at *; done))
    ·
     refine vcIntro [false, true, false] (an (an h4 (an h3 (an h0 tt))) (an (an (pB10_4 y i) (an (an (@Eq.refl (Nat) ((0 : Nat))) (an (show ∀ (k : Nat), k < (0 : Nat) → (0 : Int) = (0 : Int) from fun _ _ => rfl) (cB10_1 b q (ri (q (15 : Nat)))))) (an (an (@Eq.refl (Nat) ((0 : Nat))) (an (show ∀ (k : Nat), k < (0 : Nat) → (0 : Int) = (0 : Int) from fun _ _ => rfl) (pB10_2 w))) (an (an (@Eq.refl (Nat) ((0 : Nat))) (an (show ∀ (k : Nat), k < (0 : Nat) → (0 : Int) = (0 : Int) from fun _ _ => rfl) (pB10_3 u))) tt)))) tt)) ?_
     kernel_rfl
   · exact ff (by (simp [*] at *; done))
theorem nd_c6 (b : Nat → Bool) (q w u : Nat → Int) (y : Int) (i : Nat) (hu : b 6 = true → u 6 = w 6) (hq : b 6 = false → w 6 = q 6) : ∃ hh, vcOf (runAt Try.prog specD noL 6000 9 [1, 1, 1, 0, 1, 0, 0, 1, 0, 0, 1, 1, 0, 1, 0, 1, 1, 1, 1, 0, 1, 0, 0] (Tr.ofPairs (nT2 y i (.c 6))) (Hm (nB2 b q w u) 7) hh)
    (roundK 7 [0, 1, 2, 3, 4, 5, 6] (nT2 y i (.c 7)) (nB2 b q w u) True 4 [] [] False) := by

  rcases Bool.eq_false_or_eq_true (b (6 : Nat)) with h0 | h0
  ·
   rcases Bool.eq_false_or_eq_true (u (6 : Nat) != w (6 : Nat)) with h1 | h1
   · exact ff (by (simp [*] at *; done))
   ·
    rcases Bool.eq_false_or_eq_true (!b (6 : Nat)) with h2 | h2
    · exact ff (by (simp [*] at *; done))
    ·
     refine vcIntro [true, false, false] (an (an h2 (an h1 (an h0 tt))) (an (an (pB10_4 y i) (an (an (@Eq.refl (Nat) ((0 : Nat))) (an (show ∀ (k : Nat), k < (0 : Nat) → (0 : Int) = (0 : Int) from fun _ _ => rfl) (cB10_1 b q (ri (q (15 : Nat)))))) (an (an (@Eq.refl (Nat) ((0 : Nat))) (an (show ∀ (k : Nat), k < (0 : Nat) → (0 : Int) = (0 : Int) from fun _ _ => rfl) (pB10_2 w))) (an (an (@Eq.refl (Nat) ((0 : Nat))) (an (show ∀ (k : Nat), k < (0 : Nat) → (0 : Int) = (0 : Int) from fun _ _ => rfl) (pB10_3 u))) tt)))) tt)) ?_
     kernel_rfl
  ·
   rcases Bool.eq_false_or_eq_true (!b (6 : Nat)) with h3 | h3
   ·
    rcases Bool.eq_false_or_eq_true (w (6 : Nat) != q (6 : Nat)) with h4 | h4
    · exact ff (by (simp [*] at *; done))
    ·
     refine vcIntro [false, true, false] (an (an h4 (an h3 (an h0 tt))) (an (an (pB10_4 y i) (an (an (@Eq.refl (Nat) ((0 : Nat))) (an (show ∀ (k : Nat), k < (0 : Nat) → (0 : Int) = (0 : Int) from fun _ _ => rfl) (cB10_1 b q (ri (q (15 : Nat)))))) (an (an (@Eq.refl (Nat) ((0 : Nat))) (an (show ∀ (k : Nat), k < (0 : Nat) → (0 : Int) = (0 : Int) from fun _ _ => rfl) (pB10_2 w))) (an (an (@Eq.refl (Nat) ((0 : Nat))) (an (show ∀ (k : Nat), k < (0 : Nat) → (0 : Int) = (0 : Int) from fun _ _ => rfl) (pB10_3 u))) tt)))) tt)) ?_
     kernel_rfl
   · exact ff (by (simp [*] at *; done))
theorem nd_c7 (b : Nat → Bool) (q w u : Nat → Int) (y : Int) (i : Nat) (hu : b 7 = true → u 7 = w 7) (hq : b 7 = false → w 7 = q 7) : ∃ hh, vcOf (runAt Try.prog specD noL 6000 9 [1, 1, 1, 0, 1, 0, 0, 1, 0, 0, 1, 1, 0, 1, 0, 1, 1, 1, 1, 0, 1, 0, 0] (Tr.ofPairs (nT2 y i (.c 7))) (Hm (nB2 b q w u) 7) hh)
    (roundK 7 [0, 1, 2, 3, 4, 5, 6] (nT2 y i (.c 8)) (nB2 b q w u) True 4 [] [] False) := by

  rcases Bool.eq_false_or_eq_true (b (7 : Nat)) with h0 | h0
  ·
   rcases Bool.eq_false_or_eq_true (u (7 : Nat) != w (7 : Nat)) with h1 | h1
   · exact ff (by (simp [*] at *; done))
   ·
    rcases Bool.eq_false_or_eq_true (!b (7 : Nat)) with h2 | h2
    · exact ff (by (simp [*] at *; done))
    ·
     refine vcIntro [true, false, false] (an (an h2 (an h1 (an h0 tt))) (an (an (pB10_4 y i) (an (an (@Eq.refl (Nat) ((0 : Nat))) (an (show ∀ (k : Nat), k < (0 : Nat) → (0 : Int) = (0 : Int) from fun _ _ => rfl) (cB10_1 b q (ri (q (15 : Nat)))))) (an (an (@Eq.refl (Nat) ((0 : Nat))) (an (show ∀ (k : Nat), k < (0 : Nat) → (0 : Int) = (0 : Int) from fun _ _ => rfl) (pB10_2 w))) (an (an (@Eq.refl (Nat) ((0 : Nat))) (an (show ∀ (k : Nat), k < (0 : Nat) → (0 : Int) = (0 : Int) from fun _ _ => rfl) (pB10_3 u))) tt)))) tt)) ?_
     kernel_rfl
  ·
   rcases Bool.eq_false_or_eq_true (!b (7 : Nat)) with h3 | h3
   ·
    rcases Bool.eq_false_or_eq_true (w (7 : Nat) != q (7 : Nat)) with h4 | h4
    · exact ff (by (simp [*] at *; done))
    ·
     refine vcIntro [false, true, false] (an (an h4 (an h3 (an h0 tt))) (an (an (pB10_4 y i) (an (an (@Eq.refl (Nat) ((0 : Nat))) (an (show ∀ (k : Nat), k < (0 : Nat) → (0 : Int) = (0 : Int) from fun _ _ => rfl) (cB10_1 b q (ri (q (15 : Nat)))))) (an (an (@Eq.refl (Nat) ((0 : Nat))) (an (show ∀ (k : Nat), k < (0 : Nat) → (0 : Int) = (0 : Int) from fun _ _ => rfl) (pB10_2 w))) (an (an (@Eq.refl (Nat) ((0 : Nat))) (an (show ∀ (k : Nat), k < (0 : Nat) → (0 : Int) = (0 : Int) from fun _ _ => rfl) (pB10_3 u))) tt)))) tt)) ?_
     kernel_rfl
   · exact ff (by (simp [*] at *; done))
theorem nd_c8 (b : Nat → Bool) (q w u : Nat → Int) (y : Int) (i : Nat) (hu : b 8 = true → u 8 = w 8) (hq : b 8 = false → w 8 = q 8) : ∃ hh, vcOf (runAt Try.prog specD noL 6000 9 [1, 1, 1, 0, 1, 0, 0, 1, 0, 0, 1, 1, 0, 1, 0, 1, 1, 1, 1, 0, 1, 0, 0] (Tr.ofPairs (nT2 y i (.c 8))) (Hm (nB2 b q w u) 7) hh)
    (roundK 7 [0, 1, 2, 3, 4, 5, 6] (nT2 y i (.c 9)) (nB2 b q w u) True 4 [] [] False) := by

  rcases Bool.eq_false_or_eq_true (b (8 : Nat)) with h0 | h0
  ·
   rcases Bool.eq_false_or_eq_true (u (8 : Nat) != w (8 : Nat)) with h1 | h1
   · exact ff (by (simp [*] at *; done))
   ·
    rcases Bool.eq_false_or_eq_true (!b (8 : Nat)) with h2 | h2
    · exact ff (by (simp [*] at *; done))
    ·
     refine vcIntro [true, false, false] (an (an h2 (an h1 (an h0 tt))) (an (an (pB10_4 y i) (an (an (@Eq.refl (Nat) ((0 : Nat))) (an (show ∀ (k : Nat), k < (0 : Nat) → (0 : Int) = (0 : Int) from fun _ _ => rfl) (cB10_1 b q (ri (q (15 : Nat)))))) (an (an (@Eq.refl (Nat) ((0 : Nat))) (an (show ∀ (k : Nat), k < (0 : Nat) → (0 : Int) = (0 : Int) from fun _ _ => rfl) (pB10_2 w))) (an (an (@Eq.refl (Nat) ((0 : Nat))) (an (show ∀ (k : Nat), k < (0 : Nat) → (0 : Int) = (0 : Int) from fun _ _ => rfl) (pB10_3 u))) tt)))) tt)) ?_
     kernel_rfl
  ·
   rcases Bool.eq_false_or_eq_true (!b (8 : Nat)) with h3 | h3
   ·
    rcases Bool.eq_false_or_eq_true (w (8 : Nat) != q (8 : Nat)) with h4 | h4
    · exact ff (by (simp [*] at *; done))
    ·
     refine vcIntro [false, true, false] (an (an h4 (an h3 (an h0 tt))) (an (an (pB10_4 y i) (an (an (@Eq.refl (Nat) ((0 : Nat))) (an (show ∀ (k : Nat), k < (0 : Nat) → (0 : Int) = (0 : Int) from fun _ _ => rfl) (cB10_1 b q (ri (q (15 : Nat)))))) (an (an (@Eq.refl (Nat) ((0 : Nat))) (an (show ∀ (k : Nat), k < (0 : Nat) → (0 : Int) = (0 : Int) from fun _ _ => rfl) (pB10_2 w))) (an (an (@Eq.refl (Nat) ((0 : Nat))) (an (show ∀ (k : Nat), k < (0 : Nat) → (0 : Int) = (0 : Int) from fun _ _ => rfl) (pB10_3 u))) tt)))) tt)) ?_
     kernel_rfl
   · exact ff (by (simp [*] at *; done))
theorem nd_c9 (b : Nat → Bool) (q w u : Nat → Int) (y : Int) (i : Nat) (hu : b 9 = true → u 9 = w 9) (hq : b 9 = false → w 9 = q 9) : ∃ hh, vcOf (runAt Try.prog specD noL 6000 9 [1, 1, 1, 0, 1, 0, 0, 1, 0, 0, 1, 1, 0, 1, 0, 1, 1, 1, 1, 0, 1, 0, 0] (Tr.ofPairs (nT2 y i (.c 9))) (Hm (nB2 b q w u) 7) hh)
    (roundK 7 [0, 1, 2, 3, 4, 5, 6] (nT2 y i (.c 10)) (nB2 b q w u) True 4 [] [] False) := by

  rcases Bool.eq_false_or_eq_true (b (9 : Nat)) with h0 | h0
  ·
   rcases Bool.eq_false_or_eq_true (u (9 : Nat) != w (9 : Nat)) with h1 | h1
   · exact ff (by (simp [*] at *; done))
   ·
    rcases Bool.eq_false_or_eq_true (!b (9 : Nat)) with h2 | h2
    · exact ff (by (simp [*] at *; done))
    ·
     refine vcIntro [true, false, false] (an (an h2 (an h1 (an h0 tt))) (an (an (pB10_4 y i) (an (an (@Eq.refl (Nat) ((0 : Nat))) (an (show ∀ (k : Nat), k < (0 : Nat) → (0 : Int) = (0 : Int) from fun _ _ => rfl) (cB10_1 b q (ri (q (15 : Nat)))))) (an (an (@Eq.refl (Nat) ((0 : Nat))) (an (show ∀ (k : Nat), k < (0 : Nat) → (0 : Int) = (0 : Int) from fun _ _ => rfl) (pB10_2 w))) (an (an (@Eq.refl (Nat) ((0 : Nat))) (an (show ∀ (k : Nat), k < (0 : Nat) → (0 : Int) = (0 : Int) from fun _ _ => rfl) (pB10_3 u))) tt)))) tt)) ?_
     kernel_rfl
  ·
   rcases Bool.eq_false_or_eq_true (!b (9 : Nat)) with h3 | h3
   ·
    rcases Bool.eq_false_or_eq_true (w (9 : Nat) != q (9 : Nat)) with h4 | h4
    · exact ff (by (simp [*] at *; done))
    ·
     refine vcIntro [false, true, false] (an (an h4 (an h3 (an h0 tt))) (an (an (pB10_4 y i) (an (an (@Eq.refl (Nat) ((0 : Nat))) (an (show ∀ (k : Nat), k < (0 : Nat) → (0 : Int) = (0 : Int) from fun _ _ => rfl) (cB10_1 b q (ri (q (15 : Nat)))))) (an (an (@Eq.refl (Nat) ((0 : Nat))) (an (show ∀ (k : Nat), k < (0 : Nat) → (0 : Int) = (0 : Int) from fun _ _ => rfl) (pB10_2 w))) (an (an (@Eq.refl (Nat) ((0 : Nat))) (an (show ∀ (k : Nat), k < (0 : Nat) → (0 : Int) = (0 : Int) from fun _ _ => rfl) (pB10_3 u))) tt)))) tt)) ?_
     kernel_rfl
   · exact ff (by (simp [*] at *; done))
theorem nd_c10 (b : Nat → Bool) (q w u : Nat → Int) (y : Int) (i : Nat) (hu : b 10 = true → u 10 = w 10) (hq : b 10 = false → w 10 = q 10) : ∃ hh, vcOf (runAt Try.prog specD noL 6000 9 [1, 1, 1, 0, 1, 0, 0, 1, 0, 0, 1, 1, 0, 1, 0, 1, 1, 1, 1, 0, 1, 0, 0] (Tr.ofPairs (nT2 y i (.c 10))) (Hm (nB2 b q w u) 7) hh)
    (roundK 7 [0, 1, 2, 3, 4, 5, 6] (nT2 y i (.c 11)) (nB2 b q w u) True 4 [] [] False) := by

  rcases Bool.eq_false_or_eq_true (b (10 : Nat)) with h0 | h0
  ·
   rcases Bool.eq_false_or_eq_true (u (10 : Nat) != w (10 : Nat)) with h1 | h1
   · exact ff (by (simp [*] at *; done))
   ·
    rcases Bool.eq_false_or_eq_true (!b (10 : Nat)) with h2 | h2
    · exact ff (by (simp [*] at *; done))
    ·
     refine vcIntro [true, false, false] (an (an h2 (an h1 (an h0 tt))) (an (an (pB10_4 y i) (an (an (@Eq.refl (Nat) ((0 : Nat))) (an (show ∀ (k : Nat), k < (0 : Nat) → (0 : Int) = (0 : Int) from fun _ _ => rfl) (cB10_1 b q (ri (q (15 : Nat)))))) (an (an (@Eq.refl (Nat) ((0 : Nat))) (an (show ∀ (k : Nat), k < (0 : Nat) → (0 : Int) = (0 : Int) from fun _ _ => rfl) (pB10_2 w))) (an (an (@Eq.refl (Nat) ((0 : Nat))) (an (show ∀ (k : Nat), k < (0 : Nat) → (0 : Int) = (0 : Int) from fun _ _ => rfl) (pB10_3 u))) tt)))) tt)) ?_
     kernel_rfl
  ·
   rcases Bool.eq_false_or_eq_true (!b (10 : Nat)) with h3 | h3
   ·
    rcases Bool.eq_false_or_eq_true (w (10 : Nat) != q (10 : Nat)) with h4 | h4
    · exact ff (by (simp [*] at *; done))
    ·
     refine vcIntro [false, true, false] (an (an h4 (an h3 (an h0 tt))) (an (an (pB10_4 y i) (an (an (@Eq.refl (Nat) ((0 : Nat))) (an (show ∀ (k : Nat), k < (0 : Nat) → (0 : Int) = (0 : Int) from fun _ _ => rfl) (cB10_1 b q (ri (q (15 : Nat)))))) (an (an (@Eq.refl (Nat) ((0 : Nat))) (an (show ∀ (k : Nat), k < (0 : Nat) → (0 : Int) = (0 : Int) from fun _ _ => rfl) (pB10_2 w))) (an (an (@Eq.refl (Nat) ((0 : Nat))) (an (show ∀ (k : Nat), k < (0 : Nat) → (0 : Int) = (0 : Int) from fun _ _ => rfl) (pB10_3 u))) tt)))) tt)) ?_
     kernel_rfl
   · exact ff (by (simp [*] at *; done))
theorem nd_c11 (b : Nat → Bool) (q w u : Nat → Int) (y : Int) (i : Nat) (hu : b 11 = true → u 11 = w 11) (hq : b 11 = false → w 11 = q 11) : ∃ hh, vcOf (runAt Try.prog specD noL 6000 9 [1, 1, 1, 0, 1, 0, 0, 1, 0, 0, 1, 1, 0, 1, 0, 1, 1, 1, 1, 0, 1, 0, 0] (Tr.ofPairs (nT2 y i (.c 11))) (Hm (nB2 b q w u) 7) hh)
    (roundK 7 [0, 1, 2, 3, 4, 5, 6] (nT2 y i (.c 12)) (nB2 b q w u) True 4 [] [] False) := by

  rcases Bool.eq_false_or_eq_true (b (11 : Nat)) with h0 | h0
  ·
   rcases Bool.eq_false_or_eq_true (u (11 : Nat) != w (11 : Nat)) with h1 | h1
   · exact ff (by (simp [*] at *; done))
   ·
    rcases Bool.eq_false_or_eq_true (!b (11 : Nat)) with h2 | h2
    · exact ff (by (simp [*] at *; done))
    ·
     refine vcIntro [true, false, false] (an (an h2 (an h1 (an h0 tt))) (an (an (pB10_4 y i) (an (an (@Eq.refl (Nat) ((0 : Nat))) (an (show ∀ (k : Nat), k < (0 : Nat) → (0 : Int) = (0 : Int) from fun _ _ => rfl) (cB10_1 b q (ri (q (15 : Nat)))))) (an (an (@Eq.refl (Nat) ((0 : Nat))) (an (show ∀ (k : Nat), k < (0 : Nat) → (0 : Int) = (0 : Int) from fun _ _ => rfl) (pB10_2 w))) (an (an (@Eq.refl (Nat) ((0 : Nat))) (an (show ∀ (k : Nat), k < (0 : Nat) → (0 : Int) = (0 : Int) from fun _ _ => rfl) (pB10_3 u))) tt)))) tt)) ?_
     kernel_rfl
  ·
   rcases Bool.eq_false_or_eq_true (!b (11 : Nat)) with h3 | h3
   ·
    rcases Bool.eq_false_or_eq_true (w (11 : Nat) != q (11 : Nat)) with h4 | h4
    · exact ff (by (simp [*] at *; done))
    ·
     refine vcIntro [false, true, false] (an (an h4 (an h3 (an h0 tt))) (an (an (pB10_4 y i) (an (an (@Eq.refl (Nat) ((0 : Nat))) (an (show ∀ (k : Nat), k < (0 : Nat) → (0 : Int) = (0 : Int) from fun _ _ => rfl) (cB10_1 b q (ri (q (15 : Nat)))))) (an (an (@Eq.refl (Nat) ((0 : Nat))) (an (show ∀ (k : Nat), k < (0 : Nat) → (0 : Int) = (0 : Int) from fun _ _ => rfl) (pB10_2 w))) (an (an (@Eq.refl (Nat) ((0 : Nat))) (an (show ∀ (k : Nat), k < (0 : Nat) → (0 : Int) = (0 : Int) from fun _ _ => rfl) (pB10_3 u))) tt)))) tt)) ?_
     kernel_rfl
   · exact ff (by (simp [*] at *; done))
theorem nd_c12 (b : Nat → Bool) (q w u : Nat → Int) (y : Int) (i : Nat) (hu : b 12 = true → u 12 = w 12) (hq : b 12 = false → w 12 = q 12) : ∃ hh, vcOf (runAt Try.prog specD noL 6000 9 [1, 1, 1, 0, 1, 0, 0, 1, 0, 0, 1, 1, 0, 1, 0, 1, 1, 1, 1, 0, 1, 0, 0] (Tr.ofPairs (nT2 y i (.c 12))) (Hm (nB2 b q w u) 7) hh)
    (roundK 7 [0, 1, 2, 3, 4, 5, 6] (nT2 y i (.c 13)) (nB2 b q w u) True 4 [] [] False) := by

  rcases Bool.eq_false_or_eq_true (b (12 : Nat)) with h0 | h0
  ·
   rcases Bool.eq_false_or_eq_true (u (12 : Nat) != w (12 : Nat)) with h1 | h1
   · exact ff (by (simp [*] at *; done))
   ·
    rcases Bool.eq_false_or_eq_true (!b (12 : Nat)) with h2 | h2
    · exact ff (by (simp [*] at *; done))
    ·
     refine vcIntro [true, false, false] (an (an h2 (an h1 (an h0 tt))) (an (an (pB10_4 y i) (an (an (@Eq.refl (Nat) ((0 : Nat))) (an (show ∀ (k : Nat), k < (0 : Nat) → (0 : Int) = (0 : Int) from fun _ _ => rfl) (cB10_1 b q (ri (q (15 : Nat)))))) (an (an (@Eq.refl (Nat) ((0 : Nat))) (an (show ∀ (k : Nat), k < (0 : Nat) → (0 : Int) = (0 : Int) from fun _ _ => rfl) (pB10_2 w))) (an (an (@Eq.refl (Nat) ((0 : Nat))) (an (show ∀ (k : Nat), k < (0 : Nat) → (0 : Int) = (0 : Int) from fun _ _ => rfl) (pB10_3 u))) tt)))) tt)) ?_
     kernel_rfl
  ·
   rcases Bool.eq_false_or_eq_true (!b (12 : Nat)) with h3 | h3
   ·
    rcases Bool.eq_false_or_eq_true (w (12 : Nat) != q (12 : Nat)) with h4 | h4
    · exact ff (by (simp [*] at *; done))
    ·
     refine vcIntro [false, true, false] (an (an h4 (an h3 (an h0 tt))) (an (an (pB10_4 y i) (an (an (@Eq.refl (Nat) ((0 : Nat))) (an (show ∀ (k : Nat), k < (0 : Nat) → (0 : Int) = (0 : Int) from fun _ _ => rfl) (cB10_1 b q (ri (q (15 : Nat)))))) (an (an (@Eq.refl (Nat) ((0 : Nat))) (an (show ∀ (k : Nat), k < (0 : Nat) → (0 : Int) = (0 : Int) from fun _ _ => rfl) (pB10_2 w))) (an (an (@Eq.refl (Nat) ((0 : Nat))) (an (show ∀ (k : Nat), k < (0 : Nat) → (0 : Int) = (0 : Int) from fun _ _ => rfl) (pB10_3 u))) tt)))) tt)) ?_
     kernel_rfl
   · exact ff (by (simp [*] at *; done))
theorem nd_c13 (b : Nat → Bool) (q w u : Nat → Int) (y : Int) (i : Nat) (hu : b 13 = true → u 13 = w 13) (hq : b 13 = false → w 13 = q 13) : ∃ hh, vcOf (runAt Try.prog specD noL 6000 9 [1, 1, 1, 0, 1, 0, 0, 1, 0, 0, 1, 1, 0, 1, 0, 1, 1, 1, 1, 0, 1, 0, 0] (Tr.ofPairs (nT2 y i (.c 13))) (Hm (nB2 b q w u) 7) hh)
    (roundK 7 [0, 1, 2, 3, 4, 5, 6] (nT2 y i (.c 14)) (nB2 b q w u) True 4 [] [] False) := by

  rcases Bool.eq_false_or_eq_true (b (13 : Nat)) with h0 | h0
  ·
   rcases Bool.eq_false_or_eq_true (u (13 : Nat) != w (13 : Nat)) with h1 | h1
   · exact ff (by (simp [*] at *; done))
   ·
    rcases Bool.eq_false_or_eq_true (!b (13 : Nat)) with h2 | h2
    · exact ff (by (simp [*] at *; done))
    ·
     refine vcIntro [true, false, false] (an (an h2 (an h1 (an h0 tt))) (an (an (pB10_4 y i) (an (an (@Eq.refl (Nat) ((0 : Nat))) (an (show ∀ (k : Nat), k < (0 : Nat) → (0 : Int) = (0 : Int) from fun _ _ => rfl) (cB10_1 b q (ri (q (15 : Nat)))))) (an (an (@Eq.refl (Nat) ((0 : Nat))) (an (show ∀ (k : Nat), k < (0 : Nat) → (0 : Int) = (0 : Int) from fun _ _ => rfl) (pB10_2 w))) (an (an (@Eq.refl (Nat) ((0 : Nat))) (an (show ∀ (k : Nat), k < (0 : Nat) → (0 : Int) = (0 : Int) from fun _ _ => rfl) (pB10_3 u))) tt)))) tt)) ?_
     kernel_rfl
  ·
   rcases Bool.eq_false_or_eq_true (!b (13 : Nat)) with h3 | h3
   ·
    rcases Bool.eq_false_or_eq_true (w (13 : Nat) != q (13 : Nat)) with h4 | h4
    · exact ff (by (simp [*] at *; done))
    ·
     refine vcIntro [false, true, false] (an (an h4 (an h3 (an h0 tt))) (an (an (pB10_4 y i) (an (an (@Eq.refl (Nat) ((0 : Nat))) (an (show ∀ (k : Nat), k < (0 : Nat) → (0 : Int) = (0 : Int) from fun _ _ => rfl) (cB10_1 b q (ri (q (15 : Nat)))))) (an (an (@Eq.refl (Nat) ((0 : Nat))) (an (show ∀ (k : Nat), k < (0 : Nat) → (0 : Int) = (0 : Int) from fun _ _ => rfl) (pB10_2 w))) (an (an (@Eq.refl (Nat) ((0 : Nat))) (an (show ∀ (k : Nat), k < (0 : Nat) → (0 : Int) = (0 : Int) from fun _ _ => rfl) (pB10_3 u))) tt)))) tt)) ?_
     kernel_rfl
   · exact ff (by (simp [*] at *; done))
theorem nd_c14 (b : Nat → Bool) (q w u : Nat → Int) (y : Int) (i : Nat) (hu : b 14 = true → u 14 = w 14) (hq : b 14 = false → w 14 = q 14) : ∃ hh, vcOf (runAt Try.prog specD noL 6000 9 [1, 1, 1, 0, 1, 0, 0, 1, 0, 0, 1, 1, 0, 1, 0, 1, 1, 1, 1, 0, 1, 0, 0] (Tr.ofPairs (nT2 y i (.c 14))) (Hm (nB2 b q w u) 7) hh)
    (roundK 7 [0, 1, 2, 3, 4, 5, 6] (nT2 y i (.c 15)) (nB2 b q w u) True 4 [] [] False) := by

  rcases Bool.eq_false_or_eq_true (b (14 : Nat)) with h0 | h0
  ·
   rcases Bool.eq_false_or_eq_true (u (14 : Nat) != w (14 : Nat)) with h1 | h1
   · exact ff (by (simp [*] at *; done))
   ·
    rcases Bool.eq_false_or_eq_true (!b (14 : Nat)) with h2 | h2
    · exact ff (by (simp [*] at *; done))
    ·
     refine vcIntro [true, false, false] (an (an h2 (an h1 (an h0 tt))) (an (an (pB10_4 y i) (an (an (@Eq.refl (Nat) ((0 : Nat))) (an (show ∀ (k : Nat), k < (0 : Nat) → (0 : Int) = (0 : Int) from fun _ _ => rfl) (cB10_1 b q (ri (q (15 : Nat)))))) (an (an (@Eq.refl (Nat) ((0 : Nat))) (an (show ∀ (k : Nat), k < (0 : Nat) → (0 : Int) = (0 : Int) from fun _ _ => rfl) (pB10_2 w))) (an (an (@Eq.refl (Nat) ((0 : Nat))) (an (show ∀ (k : Nat), k < (0 : Nat) → (0 : Int) = (0 : Int) from fun _ _ => rfl) (pB10_3 u))) tt)))) tt)) ?_
     kernel_rfl
  ·
   rcases Bool.eq_false_or_eq_true (!b (14 : Nat)) with h3 | h3
   ·
    rcases Bool.eq_false_or_eq_true (w (14 : Nat) != q (14 : Nat)) with h4 | h4
    · exact ff (by (simp [*] at *; done))
    ·
     refine vcIntro [false, true, false] (an (an h4 (an h3 (an h0 tt))) (an (an (pB10_4 y i) (an (an (@Eq.refl (Nat) ((0 : Nat))) (an (show ∀ (k : Nat), k < (0 : Nat) → (0 : Int) = (0 : Int) from fun _ _ => rfl) (cB10_1 b q (ri (q (15 : Nat)))))) (an (an (@Eq.refl (Nat) ((0 : Nat))) (an (show ∀ (k : Nat), k < (0 : Nat) → (0 : Int) = (0 : Int) from fun _ _ => rfl) (pB10_2 w))) (an (an (@Eq.refl (Nat) ((0 : Nat))) (an (show ∀ (k : Nat), k < (0 : Nat) → (0 : Int) = (0 : Int) from fun _ _ => rfl) (pB10_3 u))) tt)))) tt)) ?_
     kernel_rfl
   · exact ff (by (simp [*] at *; done))
theorem nd_c15 (b : Nat → Bool) (q w u : Nat → Int) (y : Int) (i : Nat) (hu : b 15 = true → u 15 = w 15) (hq : b 15 = false → w 15 = q 15) : ∃ hh, vcOf (runAt Try.prog specD noL 6000 9 [1, 1, 1, 0, 1, 0, 0, 1, 0, 0, 1, 1, 0, 1, 0, 1, 1, 1, 1, 0, 1, 0, 0] (Tr.ofPairs (nT2 y i (.c 15))) (Hm (nB2 b q w u) 7) hh)
    (roundK 7 [0, 1, 2, 3, 4, 5, 6] (nT2 y i (.c 16)) (nB2 b q w u) True 4 [] [] False) := by

  rcases Bool.eq_false_or_eq_true (b (15 : Nat)) with h0 | h0
  ·
   rcases Bool.eq_false_or_eq_true (u (15 : Nat) != w (15 : Nat)) with h1 | h1
   · exact ff (by (simp [*] at *; done))
   ·
    rcases Bool.eq_false_or_eq_true (!b (15 : Nat)) with h2 | h2
    · exact ff (by (simp [*] at *; done))
    ·
     refine vcIntro [true, false, false] (an (an h2 (an h1 (an h0 tt))) (an (an (pB10_4 y i) (an (an (@Eq.refl (Nat) ((0 : Nat))) (an (show ∀ (k : Nat), k < (0 : Nat) → (0 : Int) = (0 : Int) from fun _ _ => rfl) (cB10_1 b q (ri (q (15 : Nat)))))) (an (an (@Eq.refl (Nat) ((0 : Nat))) (an (show ∀ (k : Nat), k < (0 : Nat) → (0 : Int) = (0 : Int) from fun _ _ => rfl) (pB10_2 w))) (an (an (@Eq.refl (Nat) ((0 : Nat))) (an (show ∀ (k : Nat), k < (0 : Nat) → (0 : Int) = (0 : Int) from fun _ _ => rfl) (pB10_3 u))) tt)))) tt)) ?_
     kernel_rfl
  ·
   rcases Bool.eq_false_or_eq_true (!b (15 : Nat)) with h3 | h3
   ·
    rcases Bool.eq_false_or_eq_true (w (15 : Nat) != q (15 : Nat)) with h4 | h4
    · exact ff (by (simp [*] at *; done))
    ·
     refine vcIntro [false, true, false] (an (an h4 (an h3 (an h0 tt))) (an (an (pB10_4 y i) (an (an (@Eq.refl (Nat) ((0 : Nat))) (an (show ∀ (k : Nat), k < (0 : Nat) → (0 : Int) = (0 : Int) from fun _ _ => rfl) (cB10_1 b q (ri (q (15 : Nat)))))) (an (an (@Eq.refl (Nat) ((0 : Nat))) (an (show ∀ (k : Nat), k < (0 : Nat) → (0 : Int) = (0 : Int) from fun _ _ => rfl) (pB10_2 w))) (an (an (@Eq.refl (Nat) ((0 : Nat))) (an (show ∀ (k : Nat), k < (0 : Nat) → (0 : Int) = (0 : Int) from fun _ _ => rfl) (pB10_3 u))) tt)))) tt)) ?_
     kernel_rfl
   · exact ff (by (simp [*] at *; done))
theorem nd_ret : ∃ hh, vcOf (runRet Try.prog specD noL 6000 9 [1, 1, 1, 0, 1, 0] .ret (Tr.ofPairs [(6, .bool (.c true))]) (Hm [] 2) hh) (fun v _ => isT v) := by

  refine vcIntro [] (an tt tt) ?_
  kernel_rfl
end Go.Ideal.B1
