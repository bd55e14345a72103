/- The law Bounds over numbers alone: the program's bound and the document's are one at every number. Conditions: none. -/
import Derived.Test.YtchgfecghackdaaPBoundsx1
namespace Go.Proofs.Ytchgfecghackdaa.Pure
open Go.RowKit Go.Proofs.Ytchgfecghackdaa.PBounds Go.Proofs.YtchgfecghackdaaW.PrintWords Go.Proofs.YtchgfecghackdaaW.PrintLast

theorem bounds_awake : pawllaw23_awake.f = some true := by decide +kernel

theorem Bounds : pawllaw23_Bounds.Pure := by
  intro a _
  have e : bound_Solo.f a = pawlref20_Solo.f a := rfl
  unfold pawllaw23_Bounds.f
  rw [bounds_awake, e]
  by_cases h1 : a < 1
  · simp [pawlref20_Solo.f, h1, pawllaw0_Num.f]
  · by_cases h2 : a > 4
    · simp [pawlref20_Solo.f, h1, h2, pawllaw0_Num.f]
    · simp [pawlref20_Solo.f, h1, h2, pawllaw0_Num.f]

end Go.Proofs.Ytchgfecghackdaa.Pure
