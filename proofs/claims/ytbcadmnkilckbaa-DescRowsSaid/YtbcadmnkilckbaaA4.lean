/- An arena's accesses: their contracts. Written by gen/arena.py. Own text. -/
import Derived.Test.YtbcadmnkilckbaaA3
import Derived.Test.YtbcadmnkilckbaaR1
namespace Go.Ideal.A2
open Go.Proofs Go.Ideal Go.Ideal.L1
set_option linter.unusedSimpArgs false
set_option linter.unusedVariables false
set_option maxRecDepth 100000
set_option maxHeartbeats 4000000

def upd (g : Nat → Int) (k : Nat) (x : Int) (j : Nat) : Int := if j = k then x else g j
def lastOf (kind k was now : Int) : List V := [.int .i64 (.c 0), .int .i64 (.c kind), .int .i64 (.s k), .int .i64 (.s was), .int .i64 (.s now), .int .i64 (.c 0), .int .i64 (.c 0), .int .i64 (.c 0), .bool (.c true)]
def arAny (e : TypeId) (g : Nat → Int) : List (Option Blk) := [some (.own false e g 634 (List.replicate 9 .any))]
def arAft (e : TypeId) (g : Nat → Int) (kind k now : Int) : List (Option Blk) := [some (.own false e (upd g k.toNat now) 634 (lastOf kind k (g k.toNat) now))]
def arV (g : Nat → Int) (k : Int) : V := .tuple [.int .i64 (.s (g k.toNat)), .int .i64 (.c 0)]
def inA : E → List Prop
  | .c k => if (match k with | .ofNat n => Nat.blt n 634 | _ => false) then [] else [False]
  | .s k => [0 ≤ k ∧ k < 634]
theorem inA_ok {k : E} (h : ∀ q, q ∈ inA k → q) : 0 ≤ k.val ∧ k.val < 634 := by
  cases k with
  | c k =>
    cases k with
    | ofNat n =>
      by_cases e : Nat.blt n 634 = true
      · have : n < 634 := Nat.le_of_ble_eq_true e
        exact ⟨Int.natCast_nonneg n, Int.ofNat_lt.2 this⟩
      · exact (h False (by simp only [inA, if_neg e]; simp)).elim
    | negSucc n => exact (h False (by simp [inA])).elim
  | s k => exact h (0 ≤ k ∧ k < 634) (by simp [inA])

def arCt (eT : TypeId) (kind : Int) (now : (Nat → Int) → Int → List Int → Int) (n : Nat) : List V → Hp → Option Ct
  | .ptr b (.c 0) :: .int .i64 k :: vs, H => match H.tr.get b with
    | some (.own false e g 634 rest) => if Nat.beq e eT && (Nat.beq rest.length 9 && Nat.beq vs.length n) then intsK vs fun zs => if Nat.beq zs.length n then some ⟨[b], [0], arV g k.val, arAft e g kind k.val (now g k.val zs), 1, inA k⟩ else none else none
    | _ => none
  | _, _ => none
theorem arCt_ok {f : FuncId} {e : TypeId} {kind : Int} {now : (Nat → Int) → Int → List Int → Int} {n : Nat} (h : ∀ (g : Nat → Int) (k : Int) (zs : List Int), zs.length = n → 0 ≤ k ∧ k < 634 → CallOk Try.prog f (.ptr 0 (.c 0) :: .int .i64 (.s k) :: zs.map (fun z => .int .i64 (.s z))) (St (Hm (arAny e g) 1)) (arV g k) (St (Hm (arAft e g kind k (now g k zs)) 1))) : SpecOk Try.prog (spG f (arCt e kind now n)) := spG_ok fun xs H c hc hq hb => by
  unfold arCt at hc
  split at hc
  · rename_i b0 k vs
    split at hc
    · rename_i e' g rest hB
      split at hc
      · rename_i hl
        simp only [Bool.and_eq_true] at hl
        have he := Nat.eq_of_beq_eq_true hl.1
        subst he
        have hl1 := Nat.eq_of_beq_eq_true hl.2.1
        have hl2 := Nat.eq_of_beq_eq_true hl.2.2
        rw [intsK_eq] at hc
        split at hc
        · rename_i hn
          have hn := Nat.eq_of_beq_eq_true hn
          simp only [Option.some.injEq] at hc
          subst hc
          have hpl0 : place [b0] H.n 0 = b0 := rfl
          have hle := intsOf_lePs vs (by rw [hn, hl2])
          have hall := anys_lePs [] 9 rest (by omega) (by rw [List.drop_of_length_le (by omega)]; simp [V.lePs])
          rw [List.append_nil] at hall
          refine ⟨.ptr 0 (.c 0) :: .int .i64 (.s k.val) :: (intsOf vs).map (fun z => .int .i64 (.s z)), arAny e' g, by simp [nodupB], by simp [blt_of (hb _ _ hB)], rfl, rfl, rfl, ?_, ?_, ?_, ?_, h g k.val (intsOf vs) hn (inA_ok hq)⟩
          · intro j b hj
            match j with
            | 0 =>
              simp only [arAny, List.getElem?_cons_zero, Option.some.injEq] at hj; subst hj
              refine ⟨by simp, _, hB, ?_⟩
              exact Wk.ownLe rfl (.inr fun _ _ => rfl) hall
            | j + 1 => simp [arAny] at hj
          · intro j b hj hj'
            match j with
            | 0 => simp at hj
            | j + 1 => simp [arAny] at hj'
          · intro j b _ hj
            match j with
            | 0 => simp only [arAft, List.getElem?_cons_zero, Option.some.injEq] at hj; subst hj; rfl
            | j + 1 => simp [arAft] at hj
          · intro r ys hy
            have hren : V.renL (place [b0] H.n) ((intsOf vs).map fun z => V.int .i64 (.s z)) = (intsOf vs).map fun z => V.int .i64 (.s z) := by
              rw [renL_eq, List.map_map]; rfl
            simp only [V.renL, V.ren, hren, hpl0]
            simp only [VRs, VR, N.val, E.val] at hy ⊢
            obtain ⟨y, zs, e1, g1, y2, zs2, e2, g2, g3⟩ := hy
            exact ⟨y, zs, e1, g1, y2, zs2, e2, g2, V.lePs_ok _ _ _ hle g3⟩
        · simp at hc
      · simp at hc
    · simp at hc
  · simp at hc

def nowLoad (g : Nat → Int) (k : Int) (_ : List Int) : Int := g k.toNat
def nowStore (_ : Nat → Int) (_ : Int) : List Int → Int
  | [x] => x
  | _ => 0
def nowSwap (g : Nat → Int) (k : Int) : List Int → Int
  | [w, n] => if g k.toNat = w then n else g k.toNat
  | _ => 0
theorem arLoadp (g : Nat → Int) (k  : Int) (hk : 0 ≤ k ∧ k < 634) : ∃ hh, vcOf (runCall Try.prog below noL 3000 41 [.ptr 0 (.c 0), .int .i64 (.s k)] (Hm (arAny 110 g) 1) hh) (fun v H1 => retP 1 [0] v H1 (arV g k) (arAft 110 g 0 k (nowLoad g k [])) 1) := by

  rcases Bool.eq_false_or_eq_true (!(decide ((0 : Int) ≤ k) && decide (k < (634 : Int)))) with h0 | h0
  · exact ff (by (simp at *; omega))
  ·
   refine vcIntro [false] (an (an (show k.toNat.succ ≤ (634 : Nat) by (simp at *; omega)) (an (an (show (0 : Int) ≤ k by (simp at *; omega)) (show k + (1 : Int) ≤ (634 : Int) by (simp at *; omega))) (an (show k.toNat.succ ≤ (634 : Nat) by (simp at *; omega)) (an (an (show (0 : Int) ≤ k by (simp at *; omega)) (show k + (1 : Int) ≤ (634 : Int) by (simp at *; omega))) (an (show k.toNat.succ ≤ (634 : Nat) by (simp at *; omega)) (an (an (show (0 : Int) ≤ k by (simp at *; omega)) (show k + (1 : Int) ≤ (634 : Int) by (simp at *; omega))) (an h0 tt))))))) (an (an (ri (g k.toNat)) tt) (an (an (@Eq.refl (Nat) ((634 : Nat))) (an (show ∀ (k_1 : Nat), k_1 < (634 : Nat) → (if k_1 = k.toNat then g k.toNat else g k_1) = if k_1 = k.toNat then g k.toNat else g k_1 from fun _ _ => rfl) (an tt (an tt (an (ri k) (an (ri (g k.toNat)) (an (show g k.toNat = if k.toNat = k.toNat then g k.toNat else g k.toNat by (simp [nowLoad, nowStore]; done)) (an tt (an tt (an tt tt)))))))))) tt))) ?_
   kernel_rfl
theorem arStorep (g : Nat → Int) (k x : Int) (hk : 0 ≤ k ∧ k < 634) : ∃ hh, vcOf (runCall Try.prog below noL 3000 17 [.ptr 0 (.c 0), .int .i64 (.s k), .int .i64 (.s x)] (Hm (arAny 110 g) 1) hh) (fun v H1 => retP 1 [0] v H1 (arV g k) (arAft 110 g 1 k (nowStore g k [x])) 1) := by

  rcases Bool.eq_false_or_eq_true (!(decide ((0 : Int) ≤ k) && decide (k < (634 : Int)))) with h0 | h0
  · exact ff (by (simp at *; omega))
  ·
   refine vcIntro [false] (an (an (show k.toNat.succ ≤ (634 : Nat) by (simp at *; omega)) (an (an (show (0 : Int) ≤ k by (simp at *; omega)) (show k + (1 : Int) ≤ (634 : Int) by (simp at *; omega))) (an (show k.toNat.succ ≤ (634 : Nat) by (simp at *; omega)) (an (an (show (0 : Int) ≤ k by (simp at *; omega)) (show k + (1 : Int) ≤ (634 : Int) by (simp at *; omega))) (an (show k.toNat.succ ≤ (634 : Nat) by (simp at *; omega)) (an (an (show (0 : Int) ≤ k by (simp at *; omega)) (show k + (1 : Int) ≤ (634 : Int) by (simp at *; omega))) (an h0 tt))))))) (an (an (ri (g k.toNat)) tt) (an (an (@Eq.refl (Nat) ((634 : Nat))) (an (show ∀ (k_1 : Nat), k_1 < (634 : Nat) → (if k_1 = k.toNat then x else g k_1) = if k_1 = k.toNat then x else g k_1 from fun _ _ => rfl) (an tt (an tt (an (ri k) (an (ri (g k.toNat)) (an (show x = if k.toNat = k.toNat then x else g k.toNat by (simp [nowLoad, nowStore]; done)) (an tt (an tt (an tt tt)))))))))) tt))) ?_
   kernel_rfl
theorem arSwapp (g : Nat → Int) (k x y : Int) (hk : 0 ≤ k ∧ k < 634) : ∃ hh, vcOf (runCall Try.prog below noL 3000 75 [.ptr 0 (.c 0), .int .i64 (.s k), .int .i64 (.s x), .int .i64 (.s y)] (Hm (arAny 110 g) 1) hh) (fun v H1 => retP 1 [0] v H1 (arV g k) (arAft 110 g 2 k (nowSwap g k [x, y])) 1) := by

  rcases Bool.eq_false_or_eq_true (!(decide ((0 : Int) ≤ k) && decide (k < (634 : Int)))) with h0 | h0
  · exact ff (by (simp at *; omega))
  ·
   rcases Bool.eq_false_or_eq_true (g k.toNat == x) with h1 | h1
   ·
    refine vcIntro [false, true] (an (an (show k.toNat.succ ≤ (634 : Nat) by (simp at *; omega)) (an (an (show (0 : Int) ≤ k by (simp at *; omega)) (show k + (1 : Int) ≤ (634 : Int) by (simp at *; omega))) (an (show k.toNat.succ ≤ (634 : Nat) by (simp at *; omega)) (an (an (show (0 : Int) ≤ k by (simp at *; omega)) (show k + (1 : Int) ≤ (634 : Int) by (simp at *; omega))) (an h1 (an (show k.toNat.succ ≤ (634 : Nat) by (simp at *; omega)) (an (an (show (0 : Int) ≤ k by (simp at *; omega)) (show k + (1 : Int) ≤ (634 : Int) by (simp at *; omega))) (an h0 tt)))))))) (an (an (ri (g k.toNat)) tt) (an (an (@Eq.refl (Nat) ((634 : Nat))) (an (show ∀ (k_1 : Nat), k_1 < (634 : Nat) → (if k_1 = k.toNat then if g k.toNat = x then y else g k.toNat else g k_1) = if k_1 = k.toNat then y else g k_1 by (simp at *; omega)) (an tt (an tt (an (ri k) (an (ri (g k.toNat)) (an (show (if g k.toNat = x then y else g k.toNat) = if k.toNat = k.toNat then y else g k.toNat by (simp at *; omega)) (an tt (an tt (an tt tt)))))))))) tt))) ?_
    kernel_rfl
   ·
    refine vcIntro [false, false] (an (an (show k.toNat.succ ≤ (634 : Nat) by (simp at *; omega)) (an (an (show (0 : Int) ≤ k by (simp at *; omega)) (show k + (1 : Int) ≤ (634 : Int) by (simp at *; omega))) (an (show k.toNat.succ ≤ (634 : Nat) by (simp at *; omega)) (an (an (show (0 : Int) ≤ k by (simp at *; omega)) (show k + (1 : Int) ≤ (634 : Int) by (simp at *; omega))) (an h1 (an (show k.toNat.succ ≤ (634 : Nat) by (simp at *; omega)) (an (an (show (0 : Int) ≤ k by (simp at *; omega)) (show k + (1 : Int) ≤ (634 : Int) by (simp at *; omega))) (an h0 tt)))))))) (an (an (ri (g k.toNat)) tt) (an (an (@Eq.refl (Nat) ((634 : Nat))) (an (show ∀ (k_1 : Nat), k_1 < (634 : Nat) → (if k_1 = k.toNat then if g k.toNat = x then y else g k.toNat else g k_1) = if k_1 = k.toNat then g k.toNat else g k_1 by (simp at *; omega)) (an tt (an tt (an (ri k) (an (ri (g k.toNat)) (an (show (if g k.toNat = x then y else g k.toNat) = if k.toNat = k.toNat then g k.toNat else g k.toNat by (simp at *; omega)) (an tt (an tt (an tt tt)))))))))) tt))) ?_
    kernel_rfl
theorem arLoadr (g : Nat → Int) (k  : Int) (hk : 0 ≤ k ∧ k < 634) : ∃ hh, vcOf (runCall Try.prog below noL 3000 79 [.ptr 0 (.c 0), .int .i64 (.s k)] (Hm (arAny 117 g) 1) hh) (fun v H1 => retP 1 [0] v H1 (arV g k) (arAft 117 g 0 k (nowLoad g k [])) 1) := by

  rcases Bool.eq_false_or_eq_true (decide (k < (0 : Int))) with h0 | h0
  · exact ff (by (simp at *; omega))
  ·
   rcases Bool.eq_false_or_eq_true (decide (k ≥ (634 : Int))) with h1 | h1
   · exact ff (by (simp at *; omega))
   ·
    refine vcIntro [false, false, false, false] (an (an (show k.toNat.succ ≤ (634 : Nat) by (simp at *; omega)) (an (an (show (0 : Int) ≤ k by (simp at *; omega)) (show k + (1 : Int) ≤ (634 : Int) by (simp at *; omega))) (an (show k.toNat.succ ≤ (634 : Nat) by (simp at *; omega)) (an (an (show (0 : Int) ≤ k by (simp at *; omega)) (show k + (1 : Int) ≤ (634 : Int) by (simp at *; omega))) (an h1 (an h0 (an (show k.toNat.succ ≤ (634 : Nat) by (simp at *; omega)) (an (an (show (0 : Int) ≤ k by (simp at *; omega)) (show k + (1 : Int) ≤ (634 : Int) by (simp at *; omega))) (an h1 (an h0 tt)))))))))) (an (an (ri (g k.toNat)) tt) (an (an (@Eq.refl (Nat) ((634 : Nat))) (an (show ∀ (k_1 : Nat), k_1 < (634 : Nat) → (if k_1 = k.toNat then g k.toNat else g k_1) = if k_1 = k.toNat then g k.toNat else g k_1 from fun _ _ => rfl) (an tt (an tt (an (ri k) (an (ri (g k.toNat)) (an (ri (g k.toNat)) (an tt (an tt (an tt tt)))))))))) tt))) ?_
    kernel_rfl
theorem arStorer (g : Nat → Int) (k x : Int) (hk : 0 ≤ k ∧ k < 634) : ∃ hh, vcOf (runCall Try.prog below noL 3000 56 [.ptr 0 (.c 0), .int .i64 (.s k), .int .i64 (.s x)] (Hm (arAny 117 g) 1) hh) (fun v H1 => retP 1 [0] v H1 (arV g k) (arAft 117 g 1 k (nowStore g k [x])) 1) := by

  rcases Bool.eq_false_or_eq_true (decide (k < (0 : Int))) with h0 | h0
  · exact ff (by (simp at *; omega))
  ·
   rcases Bool.eq_false_or_eq_true (decide (k ≥ (634 : Int))) with h1 | h1
   · exact ff (by (simp at *; omega))
   ·
    refine vcIntro [false, false] (an (an (show k.toNat.succ ≤ (634 : Nat) by (simp at *; omega)) (an (an (show (0 : Int) ≤ k by (simp at *; omega)) (show k + (1 : Int) ≤ (634 : Int) by (simp at *; omega))) (an (show k.toNat.succ ≤ (634 : Nat) by (simp at *; omega)) (an (an (show (0 : Int) ≤ k by (simp at *; omega)) (show k + (1 : Int) ≤ (634 : Int) by (simp at *; omega))) (an h1 (an h0 tt)))))) (an (an (ri (g k.toNat)) tt) (an (an (@Eq.refl (Nat) ((634 : Nat))) (an (show ∀ (k_1 : Nat), k_1 < (634 : Nat) → (if k_1 = k.toNat then x else g k_1) = if k_1 = k.toNat then x else g k_1 from fun _ _ => rfl) (an tt (an tt (an (ri k) (an (ri (g k.toNat)) (an (ri x) (an tt (an tt (an tt tt)))))))))) tt))) ?_
    kernel_rfl
theorem arSwapr (g : Nat → Int) (k x y : Int) (hk : 0 ≤ k ∧ k < 634) : ∃ hh, vcOf (runCall Try.prog below noL 3000 81 [.ptr 0 (.c 0), .int .i64 (.s k), .int .i64 (.s x), .int .i64 (.s y)] (Hm (arAny 117 g) 1) hh) (fun v H1 => retP 1 [0] v H1 (arV g k) (arAft 117 g 2 k (nowSwap g k [x, y])) 1) := by

  rcases Bool.eq_false_or_eq_true (decide (k < (0 : Int))) with h0 | h0
  · exact ff (by (simp at *; omega))
  ·
   rcases Bool.eq_false_or_eq_true (decide (k ≥ (634 : Int))) with h1 | h1
   · exact ff (by (simp at *; omega))
   ·
    rcases Bool.eq_false_or_eq_true (g k.toNat != x) with h2 | h2
    ·
     refine vcIntro [false, false, true, false, false] (an (an (show k.toNat.succ ≤ (634 : Nat) by (simp at *; omega)) (an (an (show (0 : Int) ≤ k by (simp at *; omega)) (show k + (1 : Int) ≤ (634 : Int) by (simp at *; omega))) (an (show k.toNat.succ ≤ (634 : Nat) by (simp at *; omega)) (an (an (show (0 : Int) ≤ k by (simp at *; omega)) (show k + (1 : Int) ≤ (634 : Int) by (simp at *; omega))) (an h1 (an h0 (an (show k.toNat.succ ≤ (634 : Nat) by (simp at *; omega)) (an (an (show (0 : Int) ≤ k by (simp at *; omega)) (show k + (1 : Int) ≤ (634 : Int) by (simp at *; omega))) (an h2 (an (show k.toNat.succ ≤ (634 : Nat) by (simp at *; omega)) (an (an (show (0 : Int) ≤ k by (simp at *; omega)) (show k + (1 : Int) ≤ (634 : Int) by (simp at *; omega))) (an h1 (an h0 tt))))))))))))) (an (an (ri (g k.toNat)) tt) (an (an (@Eq.refl (Nat) ((634 : Nat))) (an (show ∀ (k_1 : Nat), k_1 < (634 : Nat) → (if k_1 = k.toNat then if g k.toNat = x then y else g k.toNat else g k_1) = if k_1 = k.toNat then g k.toNat else g k_1 by (simp at *; omega)) (an tt (an tt (an (ri k) (an (ri (g k.toNat)) (an (show (if g k.toNat = x then y else g k.toNat) = g k.toNat by (simp at *; omega)) (an tt (an tt (an tt tt)))))))))) tt))) ?_
     kernel_rfl
    ·
     refine vcIntro [false, false, false, false, false] (an (an (show k.toNat.succ ≤ (634 : Nat) by (simp at *; omega)) (an (an (show (0 : Int) ≤ k by (simp at *; omega)) (show k + (1 : Int) ≤ (634 : Int) by (simp at *; omega))) (an (show k.toNat.succ ≤ (634 : Nat) by (simp at *; omega)) (an (an (show (0 : Int) ≤ k by (simp at *; omega)) (show k + (1 : Int) ≤ (634 : Int) by (simp at *; omega))) (an h1 (an h0 (an h2 (an (show k.toNat.succ ≤ (634 : Nat) by (simp at *; omega)) (an (an (show (0 : Int) ≤ k by (simp at *; omega)) (show k + (1 : Int) ≤ (634 : Int) by (simp at *; omega))) (an h1 (an h0 tt))))))))))) (an (an (ri (g k.toNat)) tt) (an (an (@Eq.refl (Nat) ((634 : Nat))) (an (show ∀ (k_1 : Nat), k_1 < (634 : Nat) → (if k_1 = k.toNat then if g k.toNat = x then y else g k.toNat else g k_1) = if k_1 = k.toNat then y else g k_1 by (simp at *; omega)) (an tt (an tt (an (ri k) (an (ri (g k.toNat)) (an (show (if g k.toNat = x then y else g k.toNat) = y by (simp at *; omega)) (an tt (an tt (an tt tt)))))))))) tt))) ?_
     kernel_rfl
end Go.Ideal.A2
