/- Chapter 13: desc.may over a row of a length that isn't known, of which the second entry doesn't rise: the contract. Own text. -/
import Derived.Test.YtbcadmnkilckbaaD1b
namespace Go.Ideal.D1
open Go.Proofs Go.Ideal Go.Ideal.L1
set_option linter.unusedSimpArgs false
set_option linter.unusedVariables false
set_option maxRecDepth 100000
set_option maxHeartbeats 8000000

theorem mz (f : Nat → Int) (n l c : Nat) (hb : l * 3 ≤ n) (hl : l < 9223372036854775808) (hl2 : 2 ≤ l) (hf : f 3 ≤ f 0) : ∃ hh, vcOf (runCall Try.prog below noL 3000 50 [.slice 0 (.c 0) (.s l) 3 (.s c)] (Hm [some (.ext f (.s n))] 1) hh) (fun v H1 => retP 1 [0] v H1 (.bool (.c false)) [none] 1) := by

  rcases Bool.eq_false_or_eq_true (decide ((0 : Int) < (↑l : Int))) with h0 | h0
  ·
   rcases Bool.eq_false_or_eq_true (decide (f (0 : Nat) ≤ (-1 : Int))) with h1 | h1
   ·
    refine vcIntro [true, true] (an (an h1 (an (show (1 : Nat) ≤ n by omega) (an (show (2 : Nat) ≤ n by omega) (an (show (3 : Nat) ≤ n by omega) (an (an (show (0 : Int) ≤ (0 : Int) by (simp; done)) (show (1 : Int) ≤ (↑l : Int) by omega)) (an h0 tt)))))) (an tt tt)) ?_
    kernel_rfl
   ·
    rcases Bool.eq_false_or_eq_true (decide (f (0 : Nat) ≥ (16 : Int))) with h2 | h2
    ·
     refine vcIntro [true, false, true] (an (an h2 (an h1 (an (show (1 : Nat) ≤ n by omega) (an (show (2 : Nat) ≤ n by omega) (an (show (3 : Nat) ≤ n by omega) (an (an (show (0 : Int) ≤ (0 : Int) by (simp; done)) (show (1 : Int) ≤ (↑l : Int) by omega)) (an h0 tt))))))) (an tt tt)) ?_
     kernel_rfl
    ·
     rcases Bool.eq_false_or_eq_true (!(decide ((0 : Int) ≤ f (1 : Nat)) && decide (f (1 : Nat) < (1099511627776 : Int)))) with h3 | h3
     ·
      refine vcIntro [true, false, false, true] (an (an h3 (an h2 (an h1 (an (show (1 : Nat) ≤ n by omega) (an (show (2 : Nat) ≤ n by omega) (an (show (3 : Nat) ≤ n by omega) (an (an (show (0 : Int) ≤ (0 : Int) by (simp; done)) (show (1 : Int) ≤ (↑l : Int) by omega)) (an h0 tt)))))))) (an tt tt)) ?_
      kernel_rfl
     ·
      rcases Bool.eq_false_or_eq_true (!(decide ((0 : Int) ≤ f (2 : Nat)) && decide (f (2 : Nat) < (1099511627776 : Int)))) with h4 | h4
      ·
       refine vcIntro [true, false, false, false, true] (an (an h4 (an h3 (an h2 (an h1 (an (show (1 : Nat) ≤ n by omega) (an (show (2 : Nat) ≤ n by omega) (an (show (3 : Nat) ≤ n by omega) (an (an (show (0 : Int) ≤ (0 : Int) by (simp; done)) (show (1 : Int) ≤ (↑l : Int) by omega)) (an h0 tt))))))))) (an tt tt)) ?_
       kernel_rfl
      ·
       rcases Bool.eq_false_or_eq_true (decide ((1 : Int) < (↑l : Int))) with h5 | h5
       ·
        rcases Bool.eq_false_or_eq_true (decide (f (3 : Nat) ≤ f (0 : Nat))) with h6 | h6
        ·
         refine vcIntro [true, false, false, false, false, true, true] (an (an h6 (an (show (4 : Nat) ≤ n by omega) (an (show (5 : Nat) ≤ n by omega) (an (show (6 : Nat) ≤ n by omega) (an (an (show (0 : Int) ≤ (1 : Int) by (simp; done)) (show (2 : Int) ≤ (↑l : Int) by omega)) (an h5 (an h4 (an h3 (an h2 (an h1 (an (show (1 : Nat) ≤ n by omega) (an (show (2 : Nat) ≤ n by omega) (an (show (3 : Nat) ≤ n by omega) (an (an (show (0 : Int) ≤ (0 : Int) by (simp; done)) (show (1 : Int) ≤ (↑l : Int) by omega)) (an h0 tt))))))))))))))) (an tt tt)) ?_
         kernel_rfl
        · exact ff (by (simp at *; omega))
       · exact ff (by (simp at *; omega))
  · exact ff (by (simp at *; omega))
def mzCt : List V → Hp → Option Ct
  | [.slice b (.c 0) (.s l) 3 c], H => match H.tr.get b with
    | some B => match B.row with
      | some (f, n) => some ⟨[b], [], .bool (.c false), [none], 1, [l * 3 ≤ n.val ∧ l < 9223372036854775808 ∧ 2 ≤ l ∧ f 3 ≤ f 0]⟩
      | none => none
    | none => none
  | _, _ => none
def mzS : Spec := spG 50 mzCt
theorem mzS_ok : SpecOk Try.prog mzS := spG_ok fun xs H c hc hq hb => by
  unfold mzCt at hc
  split at hc
  · rename_i b l mc
    split at hc
    · rename_i B hB
      split at hc
      · rename_i g m hr
        simp only [Option.some.injEq] at hc
        subst hc
        obtain ⟨hn, hl, hl2, hf⟩ := hq _ (List.mem_singleton.2 rfl)
        refine ⟨[.slice 0 (.c 0) (.s l) 3 (.s mc.val)], [some (.ext g (.s m.val))], ⟨by simp [nodupB], by simp; exact hb _ _ hB, rfl, rfl, rfl, ?_, ?_, ?_, ?_, callKeep below_ok (mz g m.val l mc.val hn hl hl2 hf)⟩⟩
        · intro j b hj
          match j with
          | 0 => simp only [List.getElem?_cons_zero, Option.some.injEq] at hj; subst hj; exact ⟨by simp, B, hB, Blk.row_s hr⟩
          | j + 1 => simp at hj
        · intro j b _ hj
          match j with
          | 0 => simp only [List.getElem?_cons_zero, Option.some.injEq] at hj; subst hj; rfl
          | j + 1 => simp at hj
        · intro j b _ hj
          match j with
          | 0 => simp at hj
          | j + 1 => simp at hj
        · intro r ys hy
          have hpl0 : place [b] H.n 0 = b := rfl
          simpa only [V.renL, V.ren, hpl0, VRs, VR, N.val] using hy
      · simp at hc
    · simp at hc
  · simp at hc
def specsZ : Spec := orS mzS specs
theorem specsZ_ok : SpecOk Try.prog specsZ := orS_ok mzS_ok specs_ok
end Go.Ideal.D1
