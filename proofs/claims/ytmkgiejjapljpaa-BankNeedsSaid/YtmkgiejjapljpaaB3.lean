/- Chapter 5: what bank.Do computes, as plain functions. Own text. -/
import Derived.Test.YtmkgiejjapljpaaB2
import Derived.Test.YtmkgiejjapljpaaR2
namespace Go.Ideal.B1
open Go.Proofs Go.Ideal Go.Ideal.L1
set_option linter.unusedSimpArgs false
set_option linter.unusedVariables false
set_option maxRecDepth 100000
set_option maxHeartbeats 8000000

/-- A view's cells. -/
def viewOf (bs : List Bool) (zs : List Int) : List V := bs.map (fun b => .bool (.s b)) ++ zs.map (fun z => .int .i64 (.s z))
def sel {α : Type} (m0 m1 m2 m3 : α) (a : Int) : α := if a = 0 then m0 else if a = 1 then m1 else if a = 2 then m2 else m3
/-- The cell that must be known; -1: none. -/
def bkNeed (b0 b1 b2 b3 : Bool) (k a b : Int) : Int :=
  if k = 5 then (if b0 then if b1 then if b2 then if b3 then -1 else 3 else 2 else 1 else 0)
  else if sel b0 b1 b2 b3 a then (if k = 4 then (if sel b0 b1 b2 b3 b then -1 else b) else -1) else a
def bkCode (m0 m1 m2 m3 k a b x : Int) : Int :=
  let X := sel m0 m1 m2 m3 a
  let Y := sel m0 m1 m2 m3 b
  if k = 0 then (if X > 0 then 1 else 0)
  else if k = 1 then (if X > 0 then 0 else 2)
  else if k = 2 then (if X > 0 then (if X - 1 + x > 1048575 then 4 else 0) else 2)
  else if k = 3 then (if X > 0 then (if X - 1 < x then 3 else 0) else 2)
  else if k = 4 then (if X > 0 then (if Y > 0 then (if X - 1 < x then 3 else if a = b then 0 else if Y - 1 + x > 1048575 then 4 else 0) else 2) else 2)
  else 0
def pos (x : Int) : Int := if x > 0 then x - 1 else 0
def bkNum (m0 m1 m2 m3 k a b x : Int) : Int :=
  let X := sel m0 m1 m2 m3 a
  if bkCode m0 m1 m2 m3 k a b x = 0 then
    (if k = 0 then x else if k = 1 then X - 1 else if k = 2 then X - 1 + x else if k = 3 then X - 1 - x else if k = 4 then (if a = b then X - 1 else X - 1 - x) else pos m0 + pos m1 + pos m2 + pos m3)
  else 0
/-- A cell of an account, afterwards. -/
def bkNow (m0 m1 m2 m3 k a b x i : Int) : Int :=
  let X := sel m0 m1 m2 m3 i
  if bkCode m0 m1 m2 m3 k a b x = 0 then
    (if k = 0 then (if i = a then x + 1 else X) else if k = 1 then (if i = a then 0 else X) else if k = 2 then (if i = a then X + x else X) else if k = 3 then (if i = a then X - x else X)
     else if k = 4 then (if a = b then X else if i = a then X - x else if i = b then X + x else X) else X)
  else X
def bkMay (zs : List Int) (k a b x : Int) : Bool := allMay zs && opMay k a b x && decide (k < 6)

def badAsk (err : Int) : V := .tuple [.agg (.int .i64 (.c 0) :: List.replicate 16 (.bool (.c false)) ++ List.replicate 32 (.int .i64 (.c 0)) ++ [.nils]), .int .i64 (.c err)]
def needAsk (n : Int) (bs : List Bool) (zs : List Int) : V := .tuple [.agg (.int .i64 (.s n) :: viewOf bs zs ++ [.nils]), .int .i64 (.c 0)]
def doneAsk (bs : List Bool) (zs : List Int) : V := .tuple [.agg (.int .i64 (.c (-1)) :: viewOf bs zs ++ [.slice 0 (.c 0) (.c 1) 2 (.c 1)]), .int .i64 (.c 0)]
def ansB (c n : Int) : List (Option Blk) := [some (.own false 65 (fun _ => 0) 0 [.int .i64 (.s c), .int .i64 (.s n)])]
def bkZs (zs : List Int) (k a b x : Int) : List Int := match zs.drop 16 with
  | m0 :: m1 :: m2 :: m3 :: ms => zs.take 16 ++ bkNow m0 m1 m2 m3 k a b x 0 :: bkNow m0 m1 m2 m3 k a b x 1 :: bkNow m0 m1 m2 m3 k a b x 2 :: bkNow m0 m1 m2 m3 k a b x 3 :: ms
  | _ => zs
def bkA (zs : List Int) (k a b x : Int) : List (Option Blk) := match zs.drop 16 with
  | m0 :: m1 :: m2 :: m3 :: _ => ansB (bkCode m0 m1 m2 m3 k a b x) (bkNum m0 m1 m2 m3 k a b x)
  | _ => []
def bkD (bs : List Bool) (k a b : Int) : Int := match bs with
  | b0 :: b1 :: b2 :: b3 :: _ => bkNeed b0 b1 b2 b3 k a b
  | _ => 0
/-- The three shapes: what may not be, what must be known, what is answered. -/
def bkSh (bs : List Bool) (zs : List Int) (k a b x : Int) : List (Bool × Sh) × Sh :=
  ([(!bkMay zs k a b x, ⟨badAsk 500, []⟩), (decide (0 ≤ bkD bs k a b), ⟨needAsk (bkD bs k a b) bs zs, []⟩)], ⟨doneAsk bs (bkZs zs k a b x), bkA zs k a b x⟩)

/-- Runs over what may be. -/
def argL (bs : List Bool) (zs : List Int) (k a b x : E) : List V := [.agg (viewOf bs zs), .agg [.int .i64 k, .int .i64 a, .int .i64 b, .int .i64 x]]
def NeedRun (f : FuncId) (bs : List Bool) (zs : List Int) (k a b x : Int) : Prop := allMay zs = true → opMay k a b x = true → 0 ≤ bkD bs k a b →
  ∃ hh, vcOf (runCall Try.prog mays noL 6000 f (argL bs zs (.c k) (.c a) (.c b) (.s x)) H0 hh) (fun v H1 => retP 0 (lastBlk v) v H1 (needAsk (bkD bs k a b) bs zs) [] 0)
def DoneRun (f : FuncId) (bs : List Bool) (zs : List Int) (k a b x : Int) : Prop := allMay zs = true → opMay k a b x = true → ¬ 0 ≤ bkD bs k a b →
  ∃ hh, vcOf (runCall Try.prog mays noL 6000 f (argL bs zs (.c k) (.c a) (.c b) (.s x)) H0 hh) (fun v H1 => retP 0 (lastBlk v) v H1 (doneAsk bs (bkZs zs k a b x)) (bkA zs k a b x) 1)
def BadRun (f : FuncId) (bs : List Bool) (zs : List Int) (k a b x : Int) : Prop := bkMay zs k a b x = false →
  ∃ hh, vcOf (runCall Try.prog mays noL 6000 f (argL bs zs (.s k) (.s a) (.s b) (.s x)) H0 hh) (fun v H1 => retP 0 (lastBlk v) v H1 (badAsk 500) [] 0)
theorem m0_of {z0 z1 z2 z3 z4 z5 z6 z7 z8 z9 z10 z11 z12 z13 z14 z15 z16 z17 z18 z19 z20 z21 z22 z23 z24 z25 z26 z27 z28 z29 z30 z31 : Int} (hv : allMay [z0, z1, z2, z3, z4, z5, z6, z7, z8, z9, z10, z11, z12, z13, z14, z15, z16, z17, z18, z19, z20, z21, z22, z23, z24, z25, z26, z27, z28, z29, z30, z31] = true) : 0 ≤ z16 ∧ z16 < 1099511627776 ∧ 0 ≤ z17 ∧ z17 < 1099511627776 ∧ 0 ≤ z18 ∧ z18 < 1099511627776 ∧ 0 ≤ z19 ∧ z19 < 1099511627776 := by simp [allMay, valMay] at hv; omega
theorem hx_of {k a b x : Int} (ho : opMay k a b x = true) : 0 ≤ x ∧ x < 1048576 := by simp only [opMay, Bool.and_eq_true, decide_eq_true_eq] at ho; (repeat' split at ho) <;> omega

/-- Bools, worked out at once. -/
def boolsK {α : Type} : List V → (List Bool → α) → α
  | .bool b :: vs, k => b.force fun b => boolsK vs fun bs => k (b.val :: bs)
  | _, k => k []
def viewG (g : List Bool → List Int → Int → Int → Int → Int → List (Bool × Sh) × Sh) : List V → Option (List (Bool × Sh) × Sh)
  | [.agg vs, .agg os] => if Nat.beq vs.length 48 && Nat.beq os.length 4 then boolsK (vs.take 16) fun bs => intsK (vs.drop 16) fun zs => if Nat.beq bs.length 16 && Nat.beq zs.length 32 then intsK os fun ws => match ws with
    | [k, a, b, x] => some (g bs zs k a b x)
    | _ => none
    else none
    else none
  | _ => none
end Go.Ideal.B1
