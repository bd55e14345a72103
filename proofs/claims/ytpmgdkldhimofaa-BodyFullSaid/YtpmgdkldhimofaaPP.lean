/- Put together of: P1a P1b P1 P2. Own text; nothing here is trusted. -/
import Derived.Test.YtpmgdkldhimofaaKB
import Derived.Test.YtpmgdkldhimofaaR11
import Derived.Test.YtpmgdkldhimofaaI26
namespace Go.Ideal.B1
section
open Go.Proofs Go.Ideal Go.Ideal.L1
set_option linter.unusedSimpArgs false
set_option linter.unusedVariables false
set_option maxRecDepth 100000
set_option maxHeartbeats 80000000

def roB (f : Nat → Int) (n:Nat) : List (Option Blk) := [some (.ext f (.s n))]
theorem omr0 (f : Nat → Int) (n:Nat) (hn : 4 ≤ n) : ∃ hh, vcOf (runCall Try.prog below noL 3000 30 [.ptr 0 (.c 0)] (Hm (roB f n) 1) hh) (fun v H1 => retP 1 [0] v H1 (.bool (.s (opMay (f 0) (f 1) (f 2) (f 3)))) [none] 1) := by

  rcases eb (!(decide ((0:Int) ≤ f 0) && decide (f 0 < (11:Int)))) with h0 | h0
  ·
   refine vcIntro [true] (an (an h0 (an (show (1:Nat) ≤ n by omega) tt)) (an (show opMay (f 0) (f 1) (f 2) (f 3) = false by simp [opMay] at *; omega) tt)) ?_
   kernel_rfl
  ·
   rcases eb (decide ((0:Int) ≤ f 1) && decide (f 1 < [(4:Int), (1:Int), (1048576:Int), (4:Int), (1:Int), (1:Int), (4:Int), (1:Int), (1048576:Int), (4:Int), (1:Int), (1048576:Int), (4:Int), (4:Int), (1048576:Int), (1:Int), (1:Int), (1:Int), (5:Int), (1:Int), (2:Int), (5:Int), (1:Int), (1:Int), (5:Int), (1:Int), (1:Int), (1:Int), (1:Int), (1:Int), (5:Int), (5:Int), (1:Int)].getD ((f 0).toNat * (3:Nat)) 0)) with h1 | h1
   ·
    rcases eb (decide ((0:Int) ≤ f 2) && decide (f 2 < [(4:Int), (1:Int), (1048576:Int), (4:Int), (1:Int), (1:Int), (4:Int), (1:Int), (1048576:Int), (4:Int), (1:Int), (1048576:Int), (4:Int), (4:Int), (1048576:Int), (1:Int), (1:Int), (1:Int), (5:Int), (1:Int), (2:Int), (5:Int), (1:Int), (1:Int), (5:Int), (1:Int), (1:Int), (1:Int), (1:Int), (1:Int), (5:Int), (5:Int), (1:Int)].getD ((f 0).toNat * (3:Nat) + (1:Nat)) 0)) with h2 | h2
    ·
     refine vcIntro (hx2 3 6) (an (an (show (4:Nat) ≤ n by omega) (an h2 (an (show (3:Nat) ≤ n by omega) (an h1 (an (show (2:Nat) ≤ n by omega) (an (show ((f 0).toNat * (3:Nat)).succ ≤ (33:Nat) by simp [opMay] at *; omega) (an (show ((f 0).toNat * (3:Nat) + (1:Nat)).succ ≤ (33:Nat) by simp [opMay] at *; omega) (an (show ((f 0).toNat * (3:Nat) + (1:Nat) + (1:Nat)).succ ≤ (33:Nat) by simp [opMay] at *; omega) (an (an (show (0:Int) ≤ f 0 by simp [opMay] at *; omega) (show f 0 + (1:Int) ≤ (11:Int) by simp [opMay] at *; omega)) (an (show (1:Nat) ≤ n by omega) (an h0 (an (show (1:Nat) ≤ n by omega) tt)))))))))))) (an (show opMay (f 0) (f 1) (f 2) (f 3) = (decide ((0:Int) ≤ f 3) && decide (f 3 < [(4:Int), (1:Int), (1048576:Int), (4:Int), (1:Int), (1:Int), (4:Int), (1:Int), (1048576:Int), (4:Int), (1:Int), (1048576:Int), (4:Int), (4:Int), (1048576:Int), (1:Int), (1:Int), (1:Int), (5:Int), (1:Int), (2:Int), (5:Int), (1:Int), (1:Int), (5:Int), (1:Int), (1:Int), (1:Int), (1:Int), (1:Int), (5:Int), (5:Int), (1:Int)].getD ((f 0).toNat * (3:Nat) + (1:Nat) + (1:Nat)) 0)) by (generalize f 0 = k at *; rcases (by simp at h0; omega : k = 0 ∨ k = 1 ∨ k = 2 ∨ k = 3 ∨ k = 4 ∨ k = 5 ∨ k = 6 ∨ k = 7 ∨ k = 8 ∨ k = 9 ∨ k = 10) with h | h | h | h | h | h | h | h | h | h | h <;> subst h <;> simp [opMay] at * <;> omega)) tt)) ?_
     kernel_rfl
    ·
     refine vcIntro (hx2 3 2) (an (an h2 (an (show (3:Nat) ≤ n by omega) (an h1 (an (show (2:Nat) ≤ n by omega) (an (show ((f 0).toNat * (3:Nat)).succ ≤ (33:Nat) by simp [opMay] at *; omega) (an (show ((f 0).toNat * (3:Nat) + (1:Nat)).succ ≤ (33:Nat) by simp [opMay] at *; omega) (an (show ((f 0).toNat * (3:Nat) + (1:Nat) + (1:Nat)).succ ≤ (33:Nat) by simp [opMay] at *; omega) (an (an (show (0:Int) ≤ f 0 by simp [opMay] at *; omega) (show f 0 + (1:Int) ≤ (11:Int) by simp [opMay] at *; omega)) (an (show (1:Nat) ≤ n by omega) (an h0 (an (show (1:Nat) ≤ n by omega) tt))))))))))) (an (show opMay (f 0) (f 1) (f 2) (f 3) = false by (generalize f 0 = k at *; rcases (by simp at h0; omega : k = 0 ∨ k = 1 ∨ k = 2 ∨ k = 3 ∨ k = 4 ∨ k = 5 ∨ k = 6 ∨ k = 7 ∨ k = 8 ∨ k = 9 ∨ k = 10) with h | h | h | h | h | h | h | h | h | h | h <;> subst h <;> simp [opMay] at * <;> omega)) tt)) ?_
     kernel_rfl
   ·
    refine vcIntro (hx2 2 0) (an (an h1 (an (show (2:Nat) ≤ n by omega) (an (show ((f 0).toNat * (3:Nat)).succ ≤ (33:Nat) by simp [opMay] at *; omega) (an (show ((f 0).toNat * (3:Nat) + (1:Nat)).succ ≤ (33:Nat) by simp [opMay] at *; omega) (an (show ((f 0).toNat * (3:Nat) + (1:Nat) + (1:Nat)).succ ≤ (33:Nat) by simp [opMay] at *; omega) (an (an (show (0:Int) ≤ f 0 by simp [opMay] at *; omega) (show f 0 + (1:Int) ≤ (11:Int) by simp [opMay] at *; omega)) (an (show (1:Nat) ≤ n by omega) (an h0 (an (show (1:Nat) ≤ n by omega) tt))))))))) (an (show opMay (f 0) (f 1) (f 2) (f 3) = false by (generalize f 0 = k at *; rcases (by simp at h0; omega : k = 0 ∨ k = 1 ∨ k = 2 ∨ k = 3 ∨ k = 4 ∨ k = 5 ∨ k = 6 ∨ k = 7 ∨ k = 8 ∨ k = 9 ∨ k = 10) with h | h | h | h | h | h | h | h | h | h | h <;> subst h <;> simp [opMay] at * <;> omega)) tt)) ?_
    kernel_rfl
theorem omr4 (f : Nat → Int) (n:Nat) (hn : 8 ≤ n) : ∃ hh, vcOf (runCall Try.prog below noL 3000 30 [.ptr 0 (.c 4)] (Hm (roB f n) 1) hh) (fun v H1 => retP 1 [0] v H1 (.bool (.s (opMay (f 4) (f 5) (f 6) (f 7)))) [none] 1) := by

  rcases eb (!(decide ((0:Int) ≤ f 4) && decide (f 4 < (11:Int)))) with h0 | h0
  ·
   refine vcIntro [true] (an (an h0 (an (show (5:Nat) ≤ n by omega) tt)) (an (show opMay (f 4) (f 5) (f 6) (f 7) = false by simp [opMay] at *; omega) tt)) ?_
   kernel_rfl
  ·
   rcases eb (decide ((0:Int) ≤ f 5) && decide (f 5 < [(4:Int), (1:Int), (1048576:Int), (4:Int), (1:Int), (1:Int), (4:Int), (1:Int), (1048576:Int), (4:Int), (1:Int), (1048576:Int), (4:Int), (4:Int), (1048576:Int), (1:Int), (1:Int), (1:Int), (5:Int), (1:Int), (2:Int), (5:Int), (1:Int), (1:Int), (5:Int), (1:Int), (1:Int), (1:Int), (1:Int), (1:Int), (5:Int), (5:Int), (1:Int)].getD ((f 4).toNat * (3:Nat)) 0)) with h1 | h1
   ·
    rcases eb (decide ((0:Int) ≤ f 6) && decide (f 6 < [(4:Int), (1:Int), (1048576:Int), (4:Int), (1:Int), (1:Int), (4:Int), (1:Int), (1048576:Int), (4:Int), (1:Int), (1048576:Int), (4:Int), (4:Int), (1048576:Int), (1:Int), (1:Int), (1:Int), (5:Int), (1:Int), (2:Int), (5:Int), (1:Int), (1:Int), (5:Int), (1:Int), (1:Int), (1:Int), (1:Int), (1:Int), (5:Int), (5:Int), (1:Int)].getD ((f 4).toNat * (3:Nat) + (1:Nat)) 0)) with h2 | h2
    ·
     refine vcIntro (hx2 3 6) (an (an (show (8:Nat) ≤ n by omega) (an h2 (an (show (7:Nat) ≤ n by omega) (an h1 (an (show (6:Nat) ≤ n by omega) (an (show ((f 4).toNat * (3:Nat)).succ ≤ (33:Nat) by simp [opMay] at *; omega) (an (show ((f 4).toNat * (3:Nat) + (1:Nat)).succ ≤ (33:Nat) by simp [opMay] at *; omega) (an (show ((f 4).toNat * (3:Nat) + (1:Nat) + (1:Nat)).succ ≤ (33:Nat) by simp [opMay] at *; omega) (an (an (show (0:Int) ≤ f 4 by simp [opMay] at *; omega) (show f 4 + (1:Int) ≤ (11:Int) by simp [opMay] at *; omega)) (an (show (5:Nat) ≤ n by omega) (an h0 (an (show (5:Nat) ≤ n by omega) tt)))))))))))) (an (show opMay (f 4) (f 5) (f 6) (f 7) = (decide ((0:Int) ≤ f 7) && decide (f 7 < [(4:Int), (1:Int), (1048576:Int), (4:Int), (1:Int), (1:Int), (4:Int), (1:Int), (1048576:Int), (4:Int), (1:Int), (1048576:Int), (4:Int), (4:Int), (1048576:Int), (1:Int), (1:Int), (1:Int), (5:Int), (1:Int), (2:Int), (5:Int), (1:Int), (1:Int), (5:Int), (1:Int), (1:Int), (1:Int), (1:Int), (1:Int), (5:Int), (5:Int), (1:Int)].getD ((f 4).toNat * (3:Nat) + (1:Nat) + (1:Nat)) 0)) by (generalize f 4 = k at *; rcases (by simp at h0; omega : k = 0 ∨ k = 1 ∨ k = 2 ∨ k = 3 ∨ k = 4 ∨ k = 5 ∨ k = 6 ∨ k = 7 ∨ k = 8 ∨ k = 9 ∨ k = 10) with h | h | h | h | h | h | h | h | h | h | h <;> subst h <;> simp [opMay] at * <;> omega)) tt)) ?_
     kernel_rfl
    ·
     refine vcIntro (hx2 3 2) (an (an h2 (an (show (7:Nat) ≤ n by omega) (an h1 (an (show (6:Nat) ≤ n by omega) (an (show ((f 4).toNat * (3:Nat)).succ ≤ (33:Nat) by simp [opMay] at *; omega) (an (show ((f 4).toNat * (3:Nat) + (1:Nat)).succ ≤ (33:Nat) by simp [opMay] at *; omega) (an (show ((f 4).toNat * (3:Nat) + (1:Nat) + (1:Nat)).succ ≤ (33:Nat) by simp [opMay] at *; omega) (an (an (show (0:Int) ≤ f 4 by simp [opMay] at *; omega) (show f 4 + (1:Int) ≤ (11:Int) by simp [opMay] at *; omega)) (an (show (5:Nat) ≤ n by omega) (an h0 (an (show (5:Nat) ≤ n by omega) tt))))))))))) (an (show opMay (f 4) (f 5) (f 6) (f 7) = false by (generalize f 4 = k at *; rcases (by simp at h0; omega : k = 0 ∨ k = 1 ∨ k = 2 ∨ k = 3 ∨ k = 4 ∨ k = 5 ∨ k = 6 ∨ k = 7 ∨ k = 8 ∨ k = 9 ∨ k = 10) with h | h | h | h | h | h | h | h | h | h | h <;> subst h <;> simp [opMay] at * <;> omega)) tt)) ?_
     kernel_rfl
   ·
    refine vcIntro (hx2 2 0) (an (an h1 (an (show (6:Nat) ≤ n by omega) (an (show ((f 4).toNat * (3:Nat)).succ ≤ (33:Nat) by simp [opMay] at *; omega) (an (show ((f 4).toNat * (3:Nat) + (1:Nat)).succ ≤ (33:Nat) by simp [opMay] at *; omega) (an (show ((f 4).toNat * (3:Nat) + (1:Nat) + (1:Nat)).succ ≤ (33:Nat) by simp [opMay] at *; omega) (an (an (show (0:Int) ≤ f 4 by simp [opMay] at *; omega) (show f 4 + (1:Int) ≤ (11:Int) by simp [opMay] at *; omega)) (an (show (5:Nat) ≤ n by omega) (an h0 (an (show (5:Nat) ≤ n by omega) tt))))))))) (an (show opMay (f 4) (f 5) (f 6) (f 7) = false by (generalize f 4 = k at *; rcases (by simp at h0; omega : k = 0 ∨ k = 1 ∨ k = 2 ∨ k = 3 ∨ k = 4 ∨ k = 5 ∨ k = 6 ∨ k = 7 ∨ k = 8 ∨ k = 9 ∨ k = 10) with h | h | h | h | h | h | h | h | h | h | h <;> subst h <;> simp [opMay] at * <;> omega)) tt)) ?_
    kernel_rfl
end
end Go.Ideal.B1

namespace Go.Ideal.B1
section
open Go.Proofs Go.Ideal Go.Ideal.L1
set_option linter.unusedSimpArgs false
set_option linter.unusedVariables false
set_option maxRecDepth 100000
set_option maxHeartbeats 8000000

def rowCt : List V → Hp → Option Ct
  | [.ptr b (.c o)], H => if Nat.beq o 0 || Nat.beq o 4 then match H.tr.get b with
    | some B => match B.row with
      | some (f, n) => some ⟨[b], [], .bool (.s (opMay (f o) (f (o + 1)) (f (o + 2)) (f (o + 3)))), [none], 1, [o + 4 ≤ n.val]⟩
      | none => none
    | none => none
    else none
  | _, _ => none
theorem row_ok : SpecOk Try.prog (spG 30 rowCt) := spG_ok fun xs H c hc hq hb => by
  unfold rowCt at hc
  split at hc
  · rename_i b o
    split at hc
    · rename_i ho
      split at hc
      · rename_i B hB
        split at hc
        · rename_i g m hr
          simp only [Option.some.injEq] at hc
          subst hc
          have hn : o + 4 ≤ m.val := hq _ (List.mem_singleton.2 rfl)
          refine ⟨[.ptr 0 (.c o)], [some (.ext g (.s m.val))], ⟨by simp [nodupB], by simp [blt_of (hb _ _ hB)], rfl, rfl, rfl, ?_, ?_, ?_, ?_, ?_⟩⟩
          · intro j b hj
            match j with
            | 0 => simp only [List.getElem?_cons_zero, Option.some.injEq] at hj; subst hj; exact ⟨by simp, B, hB, Blk.row_s hr⟩
            | j + 1 => simp at hj
          · intro j b _ hj
            match j with
            | 0 => simp only [List.getElem?_cons_zero, Option.some.injEq] at hj; subst hj; rfl
            | j + 1 => simp at hj
          · intro j b _ hj
            match j with
            | 0 => simp at hj
            | j + 1 => simp at hj
          · intro r ys hy
            have hpl0 : place [b] H.n 0 = b := rfl
            simpa only [V.renL, V.ren, hpl0, VRs, VR, N.val] using hy
          · simp only [Bool.or_eq_true] at ho
            rcases ho with ho | ho
            · have ho := Nat.eq_of_beq_eq_true ho
              subst ho
              exact callKeep below_ok (omr0 g m.val hn)
            · have ho := Nat.eq_of_beq_eq_true ho
              subst ho
              exact callKeep below_ok (omr4 g m.val hn)
        · simp at hc
      · simp at hc
    · simp at hc
  · simp at hc
def rowS : Spec := orS (spG 30 rowCt) below
theorem rowS_ok : SpecOk Try.prog rowS := orS_ok row_ok below_ok
end
end Go.Ideal.B1

namespace Go.Ideal.B1
section
open Go.Proofs Go.Ideal Go.Ideal.L1
set_option linter.unusedSimpArgs false
set_option linter.unusedVariables false
set_option maxRecDepth 100000
set_option maxHeartbeats 80000000

def roT (l c i:Nat) : List (Nat × V) := [(0, .slice 0 (.c 0) (.s l) 4 (.s c)), (4, .slice 0 (.c 0) (.s l) 4 (.s c)), (5, .int .i64 (.s l)), (6, .int .i64 (.s i))]
def opsB (f : Nat → Int) (l:Nat) : Bool := if l = 1 then opMay (f 0) (f 1) (f 2) (f 3) else if l = 2 then opMay (f 0) (f 1) (f 2) (f 3) && opMay (f 4) (f 5) (f 6) (f 7) else false
theorem ro_go (f : Nat → Int) (n l c:Nat) : ∃ hh, vcOf (runGo Try.prog below noL 3000 45 [] [1, 0, 1, 0] (Tr.ofList [.slice 0 (.c 0) (.s l) 4 (.s c)]) (Hm (roB f n) 1) hh) (reached fun T1 H1 => weakP T1 H1 (roT l c 0) (roB f n) 1) := by

  refine vcIntro [] (an tt (an (an (an tt (an (@Eq.refl (Nat) l) (show c ≤ c by simp))) (an (an tt (an (@Eq.refl (Nat) l) (show c ≤ c by simp))) (an (ri ((↑l:Int))) (an (ri ((0:Int))) tt)))) (an (an (show n ≤ n by simp) (show ∀ (k:Nat), k < n → f k = f k from fun _ _ => rfl)) tt))) ?_
  kernel_rfl
theorem ro_round (f : Nat → Int) (n l c i:Nat) (hb : l * 4 ≤ n) (hl : l < 9223372036854775808) (hi : i ≤ l) : ∃ hh, vcOf (runAt Try.prog below noL 3000 45 [1, 0, 1, 0, 0] (Tr.ofPairs (roT l c i)) (Hm (roB f n) 1) hh)
    (fun x H1 => match x.1 with | .norm => dwnP 1 [0] x.2 H1 (roT l c (i + 1)) (roB f n) 1 ∧ i + 1 ≤ l | .exit k => if Nat.beq k 0 then dwnP 1 [0] x.2 H1 (roT l c i) (roB f n) 1 else False | .ret => dwnP 1 [0] x.2 H1 [(2, .bool (.c false))] [] 1) := by

  rcases eb (decide ((↑i:Int) < (↑l:Int))) with h0 | h0
  ·
   rcases eb (!(decide ((0:Int) ≤ f (i * (4:Nat) + (0:Nat))) && decide (f (i * (4:Nat) + (0:Nat)) < (11:Int)))) with h1 | h1
   ·
    refine vcIntro (hx2 2 3) (an (an h1 (an (show (i * (4:Nat) + (0:Nat)).succ ≤ n by simp at *; omega) (an (an (show (0:Int) ≤ (↑i:Int) by simp) (show (↑i:Int) + (1:Int) ≤ (↑l:Int) by simp at *; omega)) (an h0 tt)))) (an (an tt tt) tt)) ?_
    kernel_rfl
   ·
    rcases eb (decide ((0:Int) ≤ f (i * (4:Nat) + (1:Nat))) && decide (f (i * (4:Nat) + (1:Nat)) < [(4:Int), (1:Int), (1048576:Int), (4:Int), (1:Int), (1:Int), (4:Int), (1:Int), (1048576:Int), (4:Int), (1:Int), (1048576:Int), (4:Int), (4:Int), (1048576:Int), (1:Int), (1:Int), (1:Int), (5:Int), (1:Int), (2:Int), (5:Int), (1:Int), (1:Int), (5:Int), (1:Int), (1:Int), (1:Int), (1:Int), (1:Int), (5:Int), (5:Int), (1:Int)].getD ((f (i * (4:Nat) + (0:Nat))).toNat * (3:Nat)) 0)) with h2 | h2
    ·
     rcases eb (decide ((0:Int) ≤ f (i * (4:Nat) + (2:Nat))) && decide (f (i * (4:Nat) + (2:Nat)) < [(4:Int), (1:Int), (1048576:Int), (4:Int), (1:Int), (1:Int), (4:Int), (1:Int), (1048576:Int), (4:Int), (1:Int), (1048576:Int), (4:Int), (4:Int), (1048576:Int), (1:Int), (1:Int), (1:Int), (5:Int), (1:Int), (2:Int), (5:Int), (1:Int), (1:Int), (5:Int), (1:Int), (1:Int), (1:Int), (1:Int), (1:Int), (5:Int), (5:Int), (1:Int)].getD ((f (i * (4:Nat) + (0:Nat))).toNat * (3:Nat) + (1:Nat)) 0)) with h3 | h3
     ·
      rcases eb (!(decide ((0:Int) ≤ f (i * (4:Nat) + (3:Nat))) && decide (f (i * (4:Nat) + (3:Nat)) < [(4:Int), (1:Int), (1048576:Int), (4:Int), (1:Int), (1:Int), (4:Int), (1:Int), (1048576:Int), (4:Int), (1:Int), (1048576:Int), (4:Int), (4:Int), (1048576:Int), (1:Int), (1:Int), (1:Int), (5:Int), (1:Int), (2:Int), (5:Int), (1:Int), (1:Int), (5:Int), (1:Int), (1:Int), (1:Int), (1:Int), (1:Int), (5:Int), (5:Int), (1:Int)].getD ((f (i * (4:Nat) + (0:Nat))).toNat * (3:Nat) + (1:Nat) + (1:Nat)) 0))) with h4 | h4
      ·
       refine vcIntro (hx2 5 29) (an (an h4 (an (show (i * (4:Nat) + (3:Nat)).succ ≤ n by simp at *; omega) (an h3 (an (show (i * (4:Nat) + (2:Nat)).succ ≤ n by simp at *; omega) (an h2 (an (show (i * (4:Nat) + (1:Nat)).succ ≤ n by simp at *; omega) (an (show ((f (i * (4:Nat) + (0:Nat))).toNat * (3:Nat)).succ ≤ (33:Nat) by simp at *; omega) (an (show ((f (i * (4:Nat) + (0:Nat))).toNat * (3:Nat) + (1:Nat)).succ ≤ (33:Nat) by simp at *; omega) (an (show ((f (i * (4:Nat) + (0:Nat))).toNat * (3:Nat) + (1:Nat) + (1:Nat)).succ ≤ (33:Nat) by simp at *; omega) (an (an (show (0:Int) ≤ f (i * (4:Nat) + (0:Nat)) by simp at *; omega) (show f (i * (4:Nat) + (0:Nat)) + (1:Int) ≤ (11:Int) by simp at *; omega)) (an (show (i * (4:Nat) + (0:Nat)).succ ≤ n by simp at *; omega) (an h1 (an (show (i * (4:Nat) + (0:Nat)).succ ≤ n by simp at *; omega) (an (an (show (0:Int) ≤ (↑i:Int) by simp) (show (↑i:Int) + (1:Int) ≤ (↑l:Int) by simp at *; omega)) (an h0 tt))))))))))))))) (an (an tt tt) tt)) ?_
       kernel_rfl
      ·
       refine vcIntro (hx2 5 13) (an (an h4 (an (show (i * (4:Nat) + (3:Nat)).succ ≤ n by simp at *; omega) (an h3 (an (show (i * (4:Nat) + (2:Nat)).succ ≤ n by simp at *; omega) (an h2 (an (show (i * (4:Nat) + (1:Nat)).succ ≤ n by simp at *; omega) (an (show ((f (i * (4:Nat) + (0:Nat))).toNat * (3:Nat)).succ ≤ (33:Nat) by simp at *; omega) (an (show ((f (i * (4:Nat) + (0:Nat))).toNat * (3:Nat) + (1:Nat)).succ ≤ (33:Nat) by simp at *; omega) (an (show ((f (i * (4:Nat) + (0:Nat))).toNat * (3:Nat) + (1:Nat) + (1:Nat)).succ ≤ (33:Nat) by simp at *; omega) (an (an (show (0:Int) ≤ f (i * (4:Nat) + (0:Nat)) by simp at *; omega) (show f (i * (4:Nat) + (0:Nat)) + (1:Int) ≤ (11:Int) by simp at *; omega)) (an (show (i * (4:Nat) + (0:Nat)).succ ≤ n by simp at *; omega) (an h1 (an (show (i * (4:Nat) + (0:Nat)).succ ≤ n by simp at *; omega) (an (an (show (0:Int) ≤ (↑i:Int) by simp) (show (↑i:Int) + (1:Int) ≤ (↑l:Int) by simp at *; omega)) (an h0 tt))))))))))))))) (an (an (an (an tt (an (@Eq.refl (Nat) l) (show c ≤ c by simp))) (an (an tt (an (@Eq.refl (Nat) l) (show c ≤ c by simp))) (an (ri ((↑l:Int))) (an (show (↑(i + (1:Nat)):Int) = IntKind.i64.wrap ((↑i:Int) + (1:Int)) by rw [wrapk _ (by simp at *; omega)]; simp) tt)))) (an (an (show n ≤ n by simp) (show ∀ (k:Nat), k < n → f k = f k from fun _ _ => rfl)) tt)) (show i + (1:Nat) ≤ l by simp at *; omega))) ?_
       kernel_rfl
     ·
      refine vcIntro (hx2 4 5) (an (an h3 (an (show (i * (4:Nat) + (2:Nat)).succ ≤ n by simp at *; omega) (an h2 (an (show (i * (4:Nat) + (1:Nat)).succ ≤ n by simp at *; omega) (an (show ((f (i * (4:Nat) + (0:Nat))).toNat * (3:Nat)).succ ≤ (33:Nat) by simp at *; omega) (an (show ((f (i * (4:Nat) + (0:Nat))).toNat * (3:Nat) + (1:Nat)).succ ≤ (33:Nat) by simp at *; omega) (an (show ((f (i * (4:Nat) + (0:Nat))).toNat * (3:Nat) + (1:Nat) + (1:Nat)).succ ≤ (33:Nat) by simp at *; omega) (an (an (show (0:Int) ≤ f (i * (4:Nat) + (0:Nat)) by simp at *; omega) (show f (i * (4:Nat) + (0:Nat)) + (1:Int) ≤ (11:Int) by simp at *; omega)) (an (show (i * (4:Nat) + (0:Nat)).succ ≤ n by simp at *; omega) (an h1 (an (show (i * (4:Nat) + (0:Nat)).succ ≤ n by simp at *; omega) (an (an (show (0:Int) ≤ (↑i:Int) by simp) (show (↑i:Int) + (1:Int) ≤ (↑l:Int) by simp at *; omega)) (an h0 tt))))))))))))) (an (an tt tt) tt)) ?_
      kernel_rfl
    ·
     refine vcIntro (hx2 3 1) (an (an h2 (an (show (i * (4:Nat) + (1:Nat)).succ ≤ n by simp at *; omega) (an (show ((f (i * (4:Nat) + (0:Nat))).toNat * (3:Nat)).succ ≤ (33:Nat) by simp at *; omega) (an (show ((f (i * (4:Nat) + (0:Nat))).toNat * (3:Nat) + (1:Nat)).succ ≤ (33:Nat) by simp at *; omega) (an (show ((f (i * (4:Nat) + (0:Nat))).toNat * (3:Nat) + (1:Nat) + (1:Nat)).succ ≤ (33:Nat) by simp at *; omega) (an (an (show (0:Int) ≤ f (i * (4:Nat) + (0:Nat)) by simp at *; omega) (show f (i * (4:Nat) + (0:Nat)) + (1:Int) ≤ (11:Int) by simp at *; omega)) (an (show (i * (4:Nat) + (0:Nat)).succ ≤ n by simp at *; omega) (an h1 (an (show (i * (4:Nat) + (0:Nat)).succ ≤ n by simp at *; omega) (an (an (show (0:Int) ≤ (↑i:Int) by simp) (show (↑i:Int) + (1:Int) ≤ (↑l:Int) by simp at *; omega)) (an h0 tt))))))))))) (an (an tt tt) tt)) ?_
     kernel_rfl
  ·
   refine vcIntro [false] (an (an h0 tt) (an (an (an tt (an (@Eq.refl (Nat) l) (show c ≤ c by simp))) (an (an tt (an (@Eq.refl (Nat) l) (show c ≤ c by simp))) (an (ri ((↑l:Int))) (an (ri ((↑i:Int))) tt)))) (an (an (show n ≤ n by simp) (show ∀ (k:Nat), k < n → f k = f k from fun _ _ => rfl)) tt))) ?_
   kernel_rfl
theorem ro_end (f : Nat → Int) (n l c i:Nat) (hl : l < 9223372036854775808) (h3 : l ≠ 1 ∧ l ≠ 2) (Z:Bool) (hZ : Z = false) : ∃ hh, vcOf (runRet Try.prog below noL 3000 45 [1, 0, 1, 0] (.exit 0) (Tr.ofPairs (roT l c i)) (Hm (roB f n) 1) hh) (fun v H1 => retP 1 [0] v H1 (.bool (.s Z)) [none] 1) := by

  rcases eb (decide ((↑l:Int) ≥ (1:Int))) with h0 | h0
  ·
   refine vcIntro [true] (an (an h0 tt) (an (show Z = decide ((↑l:Int) ≤ (2:Int)) by simp [hZ] at *; omega) tt)) ?_
   kernel_rfl
  ·
   refine vcIntro [false] (an (an h0 tt) (an (show Z = false by simp [hZ]) tt)) ?_
   kernel_rfl
theorem ro_ret (Z:Bool) (hZ : Z = false) : ∃ hh, vcOf (runRet Try.prog below noL 3000 45 [1, 0, 1, 0] .ret (Tr.ofPairs [(2, .bool (.c false))]) (Hm [] 1) hh) (fun v H1 => retP 1 [0] v H1 (.bool (.s Z)) [none] 1) := by

  refine vcIntro [] (an tt (an (show Z = false by simp [hZ]) tt)) ?_
  kernel_rfl
theorem ro_1 (f : Nat → Int) (n l c:Nat) (hb : l * 4 ≤ n) (hl1 : l = 1) : ∃ hh, vcOf (runCall Try.prog rowS noL 3000 45 [.slice 0 (.c 0) (.s l) 4 (.s c)] (Hm (roB f n) 1) hh) (fun v H1 => retP 1 [0] v H1 (.bool (.s (opsB f l))) [none] 1) := by

  rcases eb (decide ((0:Int) < (↑l:Int))) with h0 | h0
  ·
   rcases eb (!opMay (f 0) (f 1) (f 2) (f 3)) with h1 | h1
   ·
    refine vcIntro (hx2 2 3) (an (an h1 (an (show (4:Nat) ≤ n by simp at *; omega) (an (an (show (0:Int) ≤ (0:Int) by simp) (show (1:Int) ≤ (↑l:Int) by simp at *; omega)) (an h0 tt)))) (an (show opsB f l = false by subst hl1; simp [opsB] at *; simp [*]) tt)) ?_
    kernel_rfl
   ·
    rcases eb (decide ((1:Int) < (↑l:Int))) with h2 | h2
    · exact ff (by simp at *; omega)
    ·
     rcases eb (decide ((↑l:Int) ≥ (1:Int))) with h3 | h3
     ·
      refine vcIntro (hx2 4 9) (an (an h3 (an h2 (an h1 (an (show (4:Nat) ≤ n by simp at *; omega) (an (an (show (0:Int) ≤ (0:Int) by simp) (show (1:Int) ≤ (↑l:Int) by simp at *; omega)) (an h0 tt)))))) (an (show opsB f l = decide ((↑l:Int) ≤ (2:Int)) by subst hl1; simp [opsB] at *; simp [*]) tt)) ?_
      kernel_rfl
     · exact ff (by simp at *; omega)
  · exact ff (by simp at *; omega)
theorem ro_2 (f : Nat → Int) (n l c:Nat) (hb : l * 4 ≤ n) (hl1 : l = 2) : ∃ hh, vcOf (runCall Try.prog rowS noL 3000 45 [.slice 0 (.c 0) (.s l) 4 (.s c)] (Hm (roB f n) 1) hh) (fun v H1 => retP 1 [0] v H1 (.bool (.s (opsB f l))) [none] 1) := by

  rcases eb (decide ((0:Int) < (↑l:Int))) with h0 | h0
  ·
   rcases eb (!opMay (f 0) (f 1) (f 2) (f 3)) with h1 | h1
   ·
    refine vcIntro (hx2 2 3) (an (an h1 (an (show (4:Nat) ≤ n by simp at *; omega) (an (an (show (0:Int) ≤ (0:Int) by simp) (show (1:Int) ≤ (↑l:Int) by simp at *; omega)) (an h0 tt)))) (an (show opsB f l = false by subst hl1; simp [opsB] at *; simp [*]) tt)) ?_
    kernel_rfl
   ·
    rcases eb (decide ((1:Int) < (↑l:Int))) with h2 | h2
    ·
     rcases eb (!opMay (f 4) (f 5) (f 6) (f 7)) with h3 | h3
     ·
      refine vcIntro (hx2 4 13) (an (an h3 (an (show (8:Nat) ≤ n by simp at *; omega) (an (an (show (0:Int) ≤ (1:Int) by simp) (show (2:Int) ≤ (↑l:Int) by simp at *; omega)) (an h2 (an h1 (an (show (4:Nat) ≤ n by simp at *; omega) (an (an (show (0:Int) ≤ (0:Int) by simp) (show (1:Int) ≤ (↑l:Int) by simp at *; omega)) (an h0 tt)))))))) (an (show opsB f l = false by subst hl1; simp [opsB] at *; simp [*]) tt)) ?_
      kernel_rfl
     ·
      rcases eb (decide ((2:Int) < (↑l:Int))) with h4 | h4
      · exact ff (by simp at *; omega)
      ·
       rcases eb (decide ((↑l:Int) ≥ (1:Int))) with h5 | h5
       ·
        refine vcIntro (hx2 6 37) (an (an h5 (an h4 (an h3 (an (show (8:Nat) ≤ n by simp at *; omega) (an (an (show (0:Int) ≤ (1:Int) by simp) (show (2:Int) ≤ (↑l:Int) by simp at *; omega)) (an h2 (an h1 (an (show (4:Nat) ≤ n by simp at *; omega) (an (an (show (0:Int) ≤ (0:Int) by simp) (show (1:Int) ≤ (↑l:Int) by simp at *; omega)) (an h0 tt)))))))))) (an (show opsB f l = decide ((↑l:Int) ≤ (2:Int)) by subst hl1; simp [opsB] at *; simp [*]) tt)) ?_
        kernel_rfl
       · exact ff (by simp at *; omega)
    · exact ff (by simp at *; omega)
  · exact ff (by simp at *; omega)
end
end Go.Ideal.B1

namespace Go.Ideal.B1
section
open Go.Proofs Go.Ideal Go.Ideal.L1
set_option linter.unusedSimpArgs false
set_option linter.unusedVariables false
set_option maxRecDepth 100000
set_option maxHeartbeats 8000000

theorem ops_call (f : Nat → Int) (n l c:Nat) (hb : l * 4 ≤ n) (hl : l < 9223372036854775808) : CallOk Try.prog 45 [.slice 0 (.c 0) (.s l) 4 (.s c)] (St (Hm (roB f n) 1)) (.bool (.s (opsB f l))) (St (Hm [none] 1)) := by
  by_cases h1 : l = 1
  · exact callKeep rowS_ok (ro_1 f n l c hb h1)
  · by_cases h2 : l = 2
    · exact callKeep rowS_ok (ro_2 f n l c hb h2)
    · have hz : opsB f l = false := by simp [opsB, h1, h2]
      refine CallQ.keep (CallQ.loopR (n := 3000) below_ok mixed (ds := [1, 0, 1, 0]) (fun i : Nat => roT l c i) (fun _ => roB f n) 1 [0] (fun i => l - i) (fun i => i ≤ l) (fun i => i ≤ l) 0 [(2, .bool (.c false))] [] (by kernel_rfl) (by kernel_rfl) 0 (Nat.zero_le _) (ro_go f n l c) (fun i hi => ?_) (fun i hi => ?_) ?_)
      · obtain ⟨hh, hr⟩ := ro_round f n l c i hb hl hi
        refine AtQ.run below_ok noL_ok mixed (by kernel_rfl) ⟨hh, vcOf_mono hr fun x H hx => ?_⟩
        obtain ⟨oo, T⟩ := x
        cases oo with
        | norm => exact ⟨i + 1, hx.2, by have := hx.2; show l - (i + 1) < l - i; omega, hx.1⟩
        | exit k =>
          simp only at hx
          split at hx
          · next e => exact ⟨Nat.eq_of_beq_eq_true e, i, hi, hx⟩
          · exact hx.elim
        | ret => exact hx
      · obtain ⟨hh, hr⟩ := ro_end f n l c i hl ⟨h1, h2⟩ (opsB f l) hz
        exact ⟨hh, vcOf_mono hr fun v H hv => ⟨_, hv⟩⟩
      · obtain ⟨hh, hr⟩ := ro_ret (opsB f l) hz
        exact ⟨hh, vcOf_mono hr fun v H hv => ⟨_, hv⟩⟩
def opsCt : List V → Hp → Option Ct
  | [.slice b (.c 0) (.s l) 4 c], H => match H.tr.get b with
    | some B => match B.row with
      | some (f, n) => some ⟨[b], [], .bool (.s (opsB f l)), [none], 1, [l * 4 ≤ n.val ∧ l < 9223372036854775808]⟩
      | none => none
    | none => none
  | _, _ => none
def opsS : Spec := spG 45 opsCt
theorem opsS_ok : SpecOk Try.prog opsS := spG_ok fun xs H c hc hq hb => by
  unfold opsCt at hc
  split at hc
  · rename_i b l mc
    split at hc
    · rename_i B hB
      split at hc
      · rename_i g m hr
        simp only [Option.some.injEq] at hc
        subst hc
        obtain ⟨hn, hl⟩ := hq _ (List.mem_singleton.2 rfl)
        refine ⟨[.slice 0 (.c 0) (.s l) 4 (.s mc.val)], [some (.ext g (.s m.val))], ⟨by simp [nodupB], by simp [blt_of (hb _ _ hB)], rfl, rfl, rfl, ?_, ?_, ?_, ?_, ops_call g m.val l mc.val hn hl⟩⟩
        · intro j b hj
          match j with
          | 0 => simp only [List.getElem?_cons_zero, Option.some.injEq] at hj; subst hj; exact ⟨by simp, B, hB, Blk.row_s hr⟩
          | j + 1 => simp at hj
        · intro j b _ hj
          match j with
          | 0 => simp only [List.getElem?_cons_zero, Option.some.injEq] at hj; subst hj; rfl
          | j + 1 => simp at hj
        · intro j b _ hj
          match j with
          | 0 => simp at hj
          | j + 1 => simp at hj
        · intro r ys hy
          have hpl0 : place [b] H.n 0 = b := rfl
          simpa only [V.renL, V.ren, hpl0, VRs, VR, N.val] using hy
      · simp at hc
    · simp at hc
  · simp at hc
end
end Go.Ideal.B1
