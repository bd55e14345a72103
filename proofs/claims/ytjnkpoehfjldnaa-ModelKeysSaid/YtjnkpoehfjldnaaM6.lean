/- Chapter 8: model.skip: the way to its loop. Own text. -/
import Derived.Test.YtjnkpoehfjldnaaM4
namespace Go.Ideal.M2
open Go.Proofs Go.Ideal Go.Ideal.L1
set_option linter.unusedSimpArgs false
set_option linter.unusedVariables false
set_option maxRecDepth 100000
set_option maxHeartbeats 80000000

theorem sk_go (m0 m1 m2 m3 : Int) (i0 i1 i2 i3 i4 : Bool) (f : Nat → Int) (n o : Nat) (hn : o + 4 ≤ n) : ∃ hh, vcOf (runGo Try.prog noSpec noL 3000 35 [] [1,1,0,1,0] (Tr.ofList [.ptr 0 (.c 0), .ptr 1 (.s o)]) (Hm (stBk m0 m1 m2 m3 i0 i1 i2 i3 i4 f n) 2) hh)
    (reached fun T1 H1 => weakP T1 H1 (skT o i0 i1 i2 i3 i4 0 (-1) (.c 0)) (skB m0 m1 m2 m3 i0 i1 i2 i3 i4 f n) 3) := by

  refine vcIntro [] (an tt (an (an tt (an (@Eq.refl (Nat) o) (an tt (an (ri ((0 : Int))) (an (ri ((-1 : Int))) (an (an (rb i0) (an (rb i1) (an (rb i2) (an (rb i3) (rb i4))))) (an tt tt))))))) (an (an (@Eq.refl (Nat) ((0 : Nat))) (an (show ∀ (k : Nat), k < (0 : Nat) → (0 : Int) = (0 : Int) from fun _ _ => rfl) (an (ri m0) (an (ri m1) (an (ri m2) (an (ri m3) (an (rb i0) (an (rb i1) (an (rb i2) (an (rb i3) (rb i4))))))))))) (an (an (show n ≤ n by (simp; done)) (show ∀ (k : Nat), k < n → f k = f k from fun _ _ => rfl)) (an (an (@Eq.refl (Nat) ((0 : Nat))) (an (show ∀ (k : Nat), k < (0 : Nat) → (0 : Int) = (0 : Int) from fun _ _ => rfl) (an tt tt))) tt))))) ?_
  kernel_rfl
end Go.Ideal.M2
