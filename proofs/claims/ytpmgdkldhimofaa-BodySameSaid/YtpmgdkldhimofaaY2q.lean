/- Own text. -/
import Derived.Test.YtpmgdkldhimofaaY2
namespace Go.Ideal.Y1
open Go.Proofs Go.Ideal Go.Ideal.L1
set_option maxRecDepth 100000
theorem bodySame_q (fi : Nat → Int) (fb : Nat → Bool) (fs : Nat → ByteArray) (_ : ∀ i, (List.replicate 16 Lf.b ++ List.replicate 32 .i)[i]? = some .i → -9223372036854775808 ≤ fi i ∧ fi i ≤ 9223372036854775807)
    (gi : Nat → Int) (gb : Nat → Bool) (gs : Nat → ByteArray) (_ : ∀ i, (List.replicate 4 Lf.i)[i]? = some .i → -9223372036854775808 ≤ gi i ∧ gi i ≤ 9223372036854775807)
    (ki : Nat → Int) (kb : Nat → Bool) (ks : Nat → ByteArray) (_ : ∀ i, (List.replicate 4 Lf.i)[i]? = some .i → -9223372036854775808 ≤ ki i ∧ ki i ≤ 9223372036854775807) :
    CallQ Try.prog 11 [.agg (lfV fi fb fs 0 (List.replicate 16 Lf.b ++ List.replicate 32 .i)), .agg (lfV gi gb gs 0 (List.replicate 4 .i)), .agg (lfV ki kb ks 0 (List.replicate 4 .i))] (Hx []) (fun v _ => isT v) :=
  CallQ.run dosS_ok noL_ok mixed (same1 fb (fun j => fi (16 + j)) (gi 0) (gi 1) (gi 2) (gi 3) (ki 0) (ki 1) (ki 2) (ki 3))
end Go.Ideal.Y1
