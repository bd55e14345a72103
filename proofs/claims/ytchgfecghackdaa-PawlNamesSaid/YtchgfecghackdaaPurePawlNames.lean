/- The law PawlNames over numbers alone: every error, limit and kind of the program is the document's: it computes to true. Conditions: none. -/
import Derived.Test.YtchgfecghackdaaPPawlNamesx1
namespace Go.Proofs.Ytchgfecghackdaa.Pure
open Go.RowKit Go.Proofs.Ytchgfecghackdaa.PPawlNames Go.Proofs.YtchgfecghackdaaW.PrintWords Go.Proofs.YtchgfecghackdaaW.PrintLast

theorem PawlNames : pawllaw0_PawlNames.Pure := by
  unfold pawllaw0_PawlNames.Pure
  decide

end Go.Proofs.Ytchgfecghackdaa.Pure
