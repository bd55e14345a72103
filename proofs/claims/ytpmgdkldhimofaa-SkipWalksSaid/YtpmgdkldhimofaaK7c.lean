/- Chapter 6: what is found of sets of keys; what is taken. Written by gen/skip7c.py. Own text. -/
import Derived.Test.YtpmgdkldhimofaaKI
namespace Go.Ideal.K6
open Go.Proofs Go.Ideal Go.Ideal.L1
set_option linter.unusedSimpArgs false
set_option linter.unusedVariables false
set_option maxRecDepth 100000
set_option maxHeartbeats 8000000

/-- With a key taken. -/
def outP (p : Nat → Bool) (A : Int) : Nat → Bool := fun j => p j && !decide ((j : Int) = A)
/-- The bits of a set, as the law puts them together (from above). -/
def bitsP (p : Nat → Bool) : Nat → Int
  | 0 => 0
  | 1 => if p 4 then bits .or .i64 0 16 else 0
  | 2 => if p 3 then bits .or .i64 (if p 4 then bits .or .i64 0 16 else 0) 8 else (if p 4 then bits .or .i64 0 16 else 0)
  | 3 => if p 2 then bits .or .i64 (if p 3 then bits .or .i64 (if p 4 then bits .or .i64 0 16 else 0) 8 else (if p 4 then bits .or .i64 0 16 else 0)) 4 else (if p 3 then bits .or .i64 (if p 4 then bits .or .i64 0 16 else 0) 8 else (if p 4 then bits .or .i64 0 16 else 0))
  | 4 => if p 1 then bits .or .i64 (if p 2 then bits .or .i64 (if p 3 then bits .or .i64 (if p 4 then bits .or .i64 0 16 else 0) 8 else (if p 4 then bits .or .i64 0 16 else 0)) 4 else (if p 3 then bits .or .i64 (if p 4 then bits .or .i64 0 16 else 0) 8 else (if p 4 then bits .or .i64 0 16 else 0))) 2 else (if p 2 then bits .or .i64 (if p 3 then bits .or .i64 (if p 4 then bits .or .i64 0 16 else 0) 8 else (if p 4 then bits .or .i64 0 16 else 0)) 4 else (if p 3 then bits .or .i64 (if p 4 then bits .or .i64 0 16 else 0) 8 else (if p 4 then bits .or .i64 0 16 else 0)))
  | _ => if p 0 then bits .or .i64 (if p 1 then bits .or .i64 (if p 2 then bits .or .i64 (if p 3 then bits .or .i64 (if p 4 then bits .or .i64 0 16 else 0) 8 else (if p 4 then bits .or .i64 0 16 else 0)) 4 else (if p 3 then bits .or .i64 (if p 4 then bits .or .i64 0 16 else 0) 8 else (if p 4 then bits .or .i64 0 16 else 0))) 2 else (if p 2 then bits .or .i64 (if p 3 then bits .or .i64 (if p 4 then bits .or .i64 0 16 else 0) 8 else (if p 4 then bits .or .i64 0 16 else 0)) 4 else (if p 3 then bits .or .i64 (if p 4 then bits .or .i64 0 16 else 0) 8 else (if p 4 then bits .or .i64 0 16 else 0)))) 1 else (if p 1 then bits .or .i64 (if p 2 then bits .or .i64 (if p 3 then bits .or .i64 (if p 4 then bits .or .i64 0 16 else 0) 8 else (if p 4 then bits .or .i64 0 16 else 0)) 4 else (if p 3 then bits .or .i64 (if p 4 then bits .or .i64 0 16 else 0) 8 else (if p 4 then bits .or .i64 0 16 else 0))) 2 else (if p 2 then bits .or .i64 (if p 3 then bits .or .i64 (if p 4 then bits .or .i64 0 16 else 0) 8 else (if p 4 then bits .or .i64 0 16 else 0)) 4 else (if p 3 then bits .or .i64 (if p 4 then bits .or .i64 0 16 else 0) 8 else (if p 4 then bits .or .i64 0 16 else 0))))
def leastP (p : Nat → Bool) : Int := if p 0 then 0 else if p 1 then 1 else if p 2 then 2 else if p 3 then 3 else if p 4 then 4 else -1
def chkFind (p q : Nat → Bool) : Bool := [0, 1, 2, 3, 4].all fun A => skNum tT (zsG (img p q)) 8 A 0 == (if p A.toNat then 1 else 0)
def chkErase (p q : Nat → Bool) : Bool := [0, 1, 2, 3, 4].all fun A => skZs tT (zsG (img p q)) 7 A 0 == zsG (img (outP p A) (outP q A)) && (skCode tT (zsG (img p q)) 7 A == (if p A.toNat then 0 else 2) && skNum tT (zsG (img p q)) 7 A 0 == (if p A.toNat then A else 0))
def chkMore (p q : Nat → Bool) : Bool := !subS p q || (chkFind p q && (chkErase p q && (skNum tT (zsG (img p q)) 10 0 4 == bitsP p 5 && (skCode tT (zsG (img p q)) 9 0 == (if leastP p == -1 then 2 else 0) && skNum tT (zsG (img p q)) 9 0 0 == (if leastP p == -1 then 0 else leastP p)))))
def chkQ (p : Nat → Bool) : Bool := allB fun a' => allB fun b' => allB fun c' => allB fun d' => allB fun e' => chkMore p (ofL [a', b', c', d', e'])
theorem cm0 : chkQ (ofL [false, false, false, false, false]) = true := by kernel_rfl
theorem cm1 : chkQ (ofL [false, false, false, false, true]) = true := by kernel_rfl
theorem cm2 : chkQ (ofL [false, false, false, true, false]) = true := by kernel_rfl
theorem cm3 : chkQ (ofL [false, false, false, true, true]) = true := by kernel_rfl
theorem cm4 : chkQ (ofL [false, false, true, false, false]) = true := by kernel_rfl
theorem cm5 : chkQ (ofL [false, false, true, false, true]) = true := by kernel_rfl
theorem cm6 : chkQ (ofL [false, false, true, true, false]) = true := by kernel_rfl
theorem cm7 : chkQ (ofL [false, false, true, true, true]) = true := by kernel_rfl
theorem cm8 : chkQ (ofL [false, true, false, false, false]) = true := by kernel_rfl
theorem cm9 : chkQ (ofL [false, true, false, false, true]) = true := by kernel_rfl
theorem cm10 : chkQ (ofL [false, true, false, true, false]) = true := by kernel_rfl
theorem cm11 : chkQ (ofL [false, true, false, true, true]) = true := by kernel_rfl
theorem cm12 : chkQ (ofL [false, true, true, false, false]) = true := by kernel_rfl
theorem cm13 : chkQ (ofL [false, true, true, false, true]) = true := by kernel_rfl
theorem cm14 : chkQ (ofL [false, true, true, true, false]) = true := by kernel_rfl
theorem cm15 : chkQ (ofL [false, true, true, true, true]) = true := by kernel_rfl
theorem cm16 : chkQ (ofL [true, false, false, false, false]) = true := by kernel_rfl
theorem cm17 : chkQ (ofL [true, false, false, false, true]) = true := by kernel_rfl
theorem cm18 : chkQ (ofL [true, false, false, true, false]) = true := by kernel_rfl
theorem cm19 : chkQ (ofL [true, false, false, true, true]) = true := by kernel_rfl
theorem cm20 : chkQ (ofL [true, false, true, false, false]) = true := by kernel_rfl
theorem cm21 : chkQ (ofL [true, false, true, false, true]) = true := by kernel_rfl
theorem cm22 : chkQ (ofL [true, false, true, true, false]) = true := by kernel_rfl
theorem cm23 : chkQ (ofL [true, false, true, true, true]) = true := by kernel_rfl
theorem cm24 : chkQ (ofL [true, true, false, false, false]) = true := by kernel_rfl
theorem cm25 : chkQ (ofL [true, true, false, false, true]) = true := by kernel_rfl
theorem cm26 : chkQ (ofL [true, true, false, true, false]) = true := by kernel_rfl
theorem cm27 : chkQ (ofL [true, true, false, true, true]) = true := by kernel_rfl
theorem cm28 : chkQ (ofL [true, true, true, false, false]) = true := by kernel_rfl
theorem cm29 : chkQ (ofL [true, true, true, false, true]) = true := by kernel_rfl
theorem cm30 : chkQ (ofL [true, true, true, true, false]) = true := by kernel_rfl
theorem cm31 : chkQ (ofL [true, true, true, true, true]) = true := by kernel_rfl
theorem cm_p : ∀ a b c d e : Bool, chkQ (ofL [a, b, c, d, e]) = true
  | false, false, false, false, false => cm0
  | false, false, false, false, true => cm1
  | false, false, false, true, false => cm2
  | false, false, false, true, true => cm3
  | false, false, true, false, false => cm4
  | false, false, true, false, true => cm5
  | false, false, true, true, false => cm6
  | false, false, true, true, true => cm7
  | false, true, false, false, false => cm8
  | false, true, false, false, true => cm9
  | false, true, false, true, false => cm10
  | false, true, false, true, true => cm11
  | false, true, true, false, false => cm12
  | false, true, true, false, true => cm13
  | false, true, true, true, false => cm14
  | false, true, true, true, true => cm15
  | true, false, false, false, false => cm16
  | true, false, false, false, true => cm17
  | true, false, false, true, false => cm18
  | true, false, false, true, true => cm19
  | true, false, true, false, false => cm20
  | true, false, true, false, true => cm21
  | true, false, true, true, false => cm22
  | true, false, true, true, true => cm23
  | true, true, false, false, false => cm24
  | true, true, false, false, true => cm25
  | true, true, false, true, false => cm26
  | true, true, false, true, true => cm27
  | true, true, true, false, false => cm28
  | true, true, true, false, true => cm29
  | true, true, true, true, false => cm30
  | true, true, true, true, true => cm31
theorem cm_pq (a b c d e a' b' c' d' e' : Bool) : chkMore (ofL [a, b, c, d, e]) (ofL [a', b', c', d', e']) = true :=
  allB_of (allB_of (allB_of (allB_of (allB_of (cm_p a b c d e) a') b') c') d') e'
end Go.Ideal.K6
