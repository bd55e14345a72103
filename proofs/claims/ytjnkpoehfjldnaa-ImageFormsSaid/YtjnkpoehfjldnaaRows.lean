/-
  No cell of these rows narrows 'for every input' (looked for: loops, veiled, ifaces, maps, wideKeys, modest, calm, conditions, laid).
  DERIVED. THE GIVEN ROWS OF THIS SEAT. 10 by the template 'for every input the law returns true; each argument reads behind the call as it read before'; 0 by the template 'total and deterministic' (their statements: YtjnkpoehfjldnaaTotals.lean).
  GIVEN WITH THE SEED: the statements are not yours to turn. If you find one false, say at which input.
  Laid BY PROGRAM, IN A SANDBOX (cutbox-rows.mjs): the forced cells as the released guide's own fill.sh prints them over the translation bcc7baed7638b861… (all of the seat's roots in one cut). By AI agents, Wed Nov 11 2026. No macro, syntax, notation, axiom, sorry.
-/
import Derived.Test.YtjnkpoehfjldnaaChecked
import GoSem.Claim
import GoSem.ClaimJoined
import GoSem.ClaimMapViews
import Derived.JoinedTies
import Derived.KernelRfl
namespace Go.Proofs.Ytjnkpoehfjldnaa
/- THE CELL 'sum', in the pinned program and in every row, IS THE sha256 OF THE DUMP (.gsa) THAT YtjnkpoehfjldnaaProg.lean LOADS. Nothing in Lean hashes anything: it is a label: what it is worth is what the hold of that sum in a sandbox is worth. -/
noncomputable def Try.pinned : Pinned := { name := "ytjnkpoehfjldnaa", sum := "bcc7baed7638b86193f3f6b10662b8cbee039ac2a2de7a37dfac89c11dc3c6bf", checked := Try.checked }
namespace Rows
def none {H : Type} : Left H := { results := [], args := [] }

/-- 'pawllaw8.Models': WHATEVER THE INPUT: true; the input reads as it did. -/
def modelsSpec : ChangeSpec := { name := "models", fn := fun _ => fun
  | [d1, d2] => { results := [.lit (.bool true)], args := [d1, d2] }
  | _ => none }
def modelsRow : OpenClaim := { program := "ytjnkpoehfjldnaa", sum := "bcc7baed7638b86193f3f6b10662b8cbee039ac2a2de7a37dfac89c11dc3c6bf", func := "pawl/pawllaw8.Models", spec := "models", unfollowed := true, recurses := true, apart := false }
def ModelsSaid : Prop := modelsRow.holds Try.pinned (OpenSpec.ofChange modelsSpec)

/-- ITS FALSE NEIGHBOUR: 'it returns false'. Refute it at one input. -/
def modelsWrong : ChangeSpec := { name := "models", fn := fun _ => fun
  | [d1, d2] => { results := [.lit (.bool false)], args := [d1, d2] }
  | _ => none }
def ModelsWrongFalsely : Prop := modelsRow.holds Try.pinned (OpenSpec.ofChange modelsWrong)

/-- 'pawllaw8.ModelSums': WHATEVER THE INPUT: true; the input reads as it did. -/
def modelSumsSpec : ChangeSpec := { name := "modelSums", fn := fun _ => fun
  | [d] => { results := [.lit (.bool true)], args := [d] }
  | _ => none }
def modelSumsRow : OpenClaim := { program := "ytjnkpoehfjldnaa", sum := "bcc7baed7638b86193f3f6b10662b8cbee039ac2a2de7a37dfac89c11dc3c6bf", func := "pawl/pawllaw8.ModelSums", spec := "modelSums", unfollowed := true, recurses := true, apart := false }
def ModelSumsSaid : Prop := modelSumsRow.holds Try.pinned (OpenSpec.ofChange modelSumsSpec)

/-- ITS FALSE NEIGHBOUR: 'it returns false'. Refute it at one input. -/
def modelSumsWrong : ChangeSpec := { name := "modelSums", fn := fun _ => fun
  | [d] => { results := [.lit (.bool false)], args := [d] }
  | _ => none }
def ModelSumsWrongFalsely : Prop := modelSumsRow.holds Try.pinned (OpenSpec.ofChange modelSumsWrong)

/-- 'pawllaw8.ModelKeys': WHATEVER THE INPUT: true; the input reads as it did. -/
def modelKeysSpec : ChangeSpec := { name := "modelKeys", fn := fun _ => fun
  | [d1, d2, d3] => { results := [.lit (.bool true)], args := [d1, d2, d3] }
  | _ => none }
def modelKeysRow : OpenClaim := { program := "ytjnkpoehfjldnaa", sum := "bcc7baed7638b86193f3f6b10662b8cbee039ac2a2de7a37dfac89c11dc3c6bf", func := "pawl/pawllaw8.ModelKeys", spec := "modelKeys", unfollowed := true, recurses := true, apart := false }
def ModelKeysSaid : Prop := modelKeysRow.holds Try.pinned (OpenSpec.ofChange modelKeysSpec)

/-- ITS FALSE NEIGHBOUR: 'it returns false'. Refute it at one input. -/
def modelKeysWrong : ChangeSpec := { name := "modelKeys", fn := fun _ => fun
  | [d1, d2, d3] => { results := [.lit (.bool false)], args := [d1, d2, d3] }
  | _ => none }
def ModelKeysWrongFalsely : Prop := modelKeysRow.holds Try.pinned (OpenSpec.ofChange modelKeysWrong)

/-- 'pawllaw8.ModelForms': WHATEVER THE INPUT: true; the input reads as it did. -/
def modelFormsSpec : ChangeSpec := { name := "modelForms", fn := fun _ => fun
  | [d1, d2, d3] => { results := [.lit (.bool true)], args := [d1, d2, d3] }
  | _ => none }
def modelFormsRow : OpenClaim := { program := "ytjnkpoehfjldnaa", sum := "bcc7baed7638b86193f3f6b10662b8cbee039ac2a2de7a37dfac89c11dc3c6bf", func := "pawl/pawllaw8.ModelForms", spec := "modelForms", unfollowed := true, recurses := true, apart := false }
def ModelFormsSaid : Prop := modelFormsRow.holds Try.pinned (OpenSpec.ofChange modelFormsSpec)

/-- ITS FALSE NEIGHBOUR: 'it returns false'. Refute it at one input. -/
def modelFormsWrong : ChangeSpec := { name := "modelForms", fn := fun _ => fun
  | [d1, d2, d3] => { results := [.lit (.bool false)], args := [d1, d2, d3] }
  | _ => none }
def ModelFormsWrongFalsely : Prop := modelFormsRow.holds Try.pinned (OpenSpec.ofChange modelFormsWrong)

/-- 'pawllaw8.ModelPairs': WHATEVER THE INPUT: true; the input reads as it did. -/
def modelPairsSpec : ChangeSpec := { name := "modelPairs", fn := fun _ => fun
  | [d1, d2, d3] => { results := [.lit (.bool true)], args := [d1, d2, d3] }
  | _ => none }
def modelPairsRow : OpenClaim := { program := "ytjnkpoehfjldnaa", sum := "bcc7baed7638b86193f3f6b10662b8cbee039ac2a2de7a37dfac89c11dc3c6bf", func := "pawl/pawllaw8.ModelPairs", spec := "modelPairs", unfollowed := true, recurses := true, apart := false }
def ModelPairsSaid : Prop := modelPairsRow.holds Try.pinned (OpenSpec.ofChange modelPairsSpec)

/-- ITS FALSE NEIGHBOUR: 'it returns false'. Refute it at one input. -/
def modelPairsWrong : ChangeSpec := { name := "modelPairs", fn := fun _ => fun
  | [d1, d2, d3] => { results := [.lit (.bool false)], args := [d1, d2, d3] }
  | _ => none }
def ModelPairsWrongFalsely : Prop := modelPairsRow.holds Try.pinned (OpenSpec.ofChange modelPairsWrong)

/-- 'pawllaw9.Images': WHATEVER THE INPUT: true; the input reads as it did. -/
def imagesSpec : ChangeSpec := { name := "images", fn := fun _ => fun
  | [d1, d2, d3] => { results := [.lit (.bool true)], args := [d1, d2, d3] }
  | _ => none }
def imagesRow : OpenClaim := { program := "ytjnkpoehfjldnaa", sum := "bcc7baed7638b86193f3f6b10662b8cbee039ac2a2de7a37dfac89c11dc3c6bf", func := "pawl/pawllaw9.Images", spec := "images", unfollowed := true, recurses := true, apart := false }
def ImagesSaid : Prop := imagesRow.holds Try.pinned (OpenSpec.ofChange imagesSpec)

/-- ITS FALSE NEIGHBOUR: 'it returns false'. Refute it at one input. -/
def imagesWrong : ChangeSpec := { name := "images", fn := fun _ => fun
  | [d1, d2, d3] => { results := [.lit (.bool false)], args := [d1, d2, d3] }
  | _ => none }
def ImagesWrongFalsely : Prop := imagesRow.holds Try.pinned (OpenSpec.ofChange imagesWrong)

/-- 'pawllaw9.ImageForms': WHATEVER THE INPUT: true; the input reads as it did. -/
def imageFormsSpec : ChangeSpec := { name := "imageForms", fn := fun _ => fun
  | [d1, d2] => { results := [.lit (.bool true)], args := [d1, d2] }
  | _ => none }
def imageFormsRow : OpenClaim := { program := "ytjnkpoehfjldnaa", sum := "bcc7baed7638b86193f3f6b10662b8cbee039ac2a2de7a37dfac89c11dc3c6bf", func := "pawl/pawllaw9.ImageForms", spec := "imageForms", unfollowed := true, recurses := true, apart := false }
def ImageFormsSaid : Prop := imageFormsRow.holds Try.pinned (OpenSpec.ofChange imageFormsSpec)

/-- ITS FALSE NEIGHBOUR: 'it returns false'. Refute it at one input. -/
def imageFormsWrong : ChangeSpec := { name := "imageForms", fn := fun _ => fun
  | [d1, d2] => { results := [.lit (.bool false)], args := [d1, d2] }
  | _ => none }
def ImageFormsWrongFalsely : Prop := imageFormsRow.holds Try.pinned (OpenSpec.ofChange imageFormsWrong)

/-- 'pawllaw9.ImageLevels': WHATEVER THE INPUT: true; the input reads as it did. -/
def imageLevelsSpec : ChangeSpec := { name := "imageLevels", fn := fun _ => fun
  | [d1, d2, d3] => { results := [.lit (.bool true)], args := [d1, d2, d3] }
  | _ => none }
def imageLevelsRow : OpenClaim := { program := "ytjnkpoehfjldnaa", sum := "bcc7baed7638b86193f3f6b10662b8cbee039ac2a2de7a37dfac89c11dc3c6bf", func := "pawl/pawllaw9.ImageLevels", spec := "imageLevels", unfollowed := true, recurses := true, apart := false }
def ImageLevelsSaid : Prop := imageLevelsRow.holds Try.pinned (OpenSpec.ofChange imageLevelsSpec)

/-- ITS FALSE NEIGHBOUR: 'it returns false'. Refute it at one input. -/
def imageLevelsWrong : ChangeSpec := { name := "imageLevels", fn := fun _ => fun
  | [d1, d2, d3] => { results := [.lit (.bool false)], args := [d1, d2, d3] }
  | _ => none }
def ImageLevelsWrongFalsely : Prop := imageLevelsRow.holds Try.pinned (OpenSpec.ofChange imageLevelsWrong)

/-- 'pawllaw9.ImageTells': WHATEVER THE INPUT: true; the input reads as it did. -/
def imageTellsSpec : ChangeSpec := { name := "imageTells", fn := fun _ => fun
  | [d1, d2, d3] => { results := [.lit (.bool true)], args := [d1, d2, d3] }
  | _ => none }
def imageTellsRow : OpenClaim := { program := "ytjnkpoehfjldnaa", sum := "bcc7baed7638b86193f3f6b10662b8cbee039ac2a2de7a37dfac89c11dc3c6bf", func := "pawl/pawllaw9.ImageTells", spec := "imageTells", unfollowed := true, recurses := true, apart := false }
def ImageTellsSaid : Prop := imageTellsRow.holds Try.pinned (OpenSpec.ofChange imageTellsSpec)

/-- ITS FALSE NEIGHBOUR: 'it returns false'. Refute it at one input. -/
def imageTellsWrong : ChangeSpec := { name := "imageTells", fn := fun _ => fun
  | [d1, d2, d3] => { results := [.lit (.bool false)], args := [d1, d2, d3] }
  | _ => none }
def ImageTellsWrongFalsely : Prop := imageTellsRow.holds Try.pinned (OpenSpec.ofChange imageTellsWrong)

/-- 'pawllaw9.ImageRuns': WHATEVER THE INPUT: true; the input reads as it did. -/
def imageRunsSpec : ChangeSpec := { name := "imageRuns", fn := fun _ => fun
  | [d] => { results := [.lit (.bool true)], args := [d] }
  | _ => none }
def imageRunsRow : OpenClaim := { program := "ytjnkpoehfjldnaa", sum := "bcc7baed7638b86193f3f6b10662b8cbee039ac2a2de7a37dfac89c11dc3c6bf", func := "pawl/pawllaw9.ImageRuns", spec := "imageRuns", unfollowed := true, recurses := true, apart := false }
def ImageRunsSaid : Prop := imageRunsRow.holds Try.pinned (OpenSpec.ofChange imageRunsSpec)

/-- ITS FALSE NEIGHBOUR: 'it returns false'. Refute it at one input. -/
def imageRunsWrong : ChangeSpec := { name := "imageRuns", fn := fun _ => fun
  | [d] => { results := [.lit (.bool false)], args := [d] }
  | _ => none }
def ImageRunsWrongFalsely : Prop := imageRunsRow.holds Try.pinned (OpenSpec.ofChange imageRunsWrong)

/- THE SECOND FORM. 'bulk': how many values and letters a reading holds, each counted each time it is reached (what is shared counts as often as it is met; a slice's spare places count too). A statement '..UptoSaid' is the law's where the arguments, and the package variables that the reading takes, are together of bulk at most 1048576: NARROWER than '..Said'. Prove '..Said' where nothing that the law and all that it calls make is longer than what came in: it says more and counts as full. Else prove '..UptoSaid'. A law counts once. -/
mutual
def uptoBulk {H : Type} : DataW H → Nat
  | .lit (.string bytes) => bytes.length + 1
  | .lit _ => 1
  | .nil => 1
  | .ptr d => uptoBulk d + 1
  | .slice elems spare => uptoBulkAll elems + uptoBulkAll spare + 1
  | .agg parts => uptoBulkAll parts + 1
  | .iface _ d => uptoBulk d + 1
  | .map entries => uptoBulkEntries entries + 1
  | .held _ => 1
def uptoBulkAll {H : Type} : List (DataW H) → Nat
  | [] => 0
  | d :: r => uptoBulk d + uptoBulkAll r
def uptoBulkEntries {H : Type} : List (Lit × DataW H) → Nat
  | [] => 0
  | x :: r => uptoBulkEntry x + uptoBulkEntries r
def uptoBulkEntry {H : Type} : Lit × DataW H → Nat
  | (.string bytes, d) => bytes.length + uptoBulk d + 1
  | (_, d) => uptoBulk d + 1
 end
def uptoSmall : (H : Type) → List (DataW H) → Bool := fun _ ds => decide (uptoBulkAll ds ≤ 1048576)
def OpenSpec.upto (s : _root_.Go.ChangeSpec) : _root_.Go.OpenSpec := { _root_.Go.OpenSpec.ofChange s with cond := some uptoSmall }

/-- 'pawllaw8.Models', WHERE WHAT IT READS IS OF BULK AT MOST 1048576: true; the input reads as it did. -/
def modelsUptoRow : OpenClaim := { program := "ytjnkpoehfjldnaa", sum := "bcc7baed7638b86193f3f6b10662b8cbee039ac2a2de7a37dfac89c11dc3c6bf", func := "pawl/pawllaw8.Models", spec := "models", unfollowed := true, recurses := true, apart := false, narrowed := true }
def ModelsUptoSaid : Prop := modelsUptoRow.holds Try.pinned (OpenSpec.upto modelsSpec)

/-- 'pawllaw8.ModelSums', WHERE WHAT IT READS IS OF BULK AT MOST 1048576: true; the input reads as it did. -/
def modelSumsUptoRow : OpenClaim := { program := "ytjnkpoehfjldnaa", sum := "bcc7baed7638b86193f3f6b10662b8cbee039ac2a2de7a37dfac89c11dc3c6bf", func := "pawl/pawllaw8.ModelSums", spec := "modelSums", unfollowed := true, recurses := true, apart := false, narrowed := true }
def ModelSumsUptoSaid : Prop := modelSumsUptoRow.holds Try.pinned (OpenSpec.upto modelSumsSpec)

/-- 'pawllaw8.ModelKeys', WHERE WHAT IT READS IS OF BULK AT MOST 1048576: true; the input reads as it did. -/
def modelKeysUptoRow : OpenClaim := { program := "ytjnkpoehfjldnaa", sum := "bcc7baed7638b86193f3f6b10662b8cbee039ac2a2de7a37dfac89c11dc3c6bf", func := "pawl/pawllaw8.ModelKeys", spec := "modelKeys", unfollowed := true, recurses := true, apart := false, narrowed := true }
def ModelKeysUptoSaid : Prop := modelKeysUptoRow.holds Try.pinned (OpenSpec.upto modelKeysSpec)

/-- 'pawllaw8.ModelForms', WHERE WHAT IT READS IS OF BULK AT MOST 1048576: true; the input reads as it did. -/
def modelFormsUptoRow : OpenClaim := { program := "ytjnkpoehfjldnaa", sum := "bcc7baed7638b86193f3f6b10662b8cbee039ac2a2de7a37dfac89c11dc3c6bf", func := "pawl/pawllaw8.ModelForms", spec := "modelForms", unfollowed := true, recurses := true, apart := false, narrowed := true }
def ModelFormsUptoSaid : Prop := modelFormsUptoRow.holds Try.pinned (OpenSpec.upto modelFormsSpec)

/-- 'pawllaw8.ModelPairs', WHERE WHAT IT READS IS OF BULK AT MOST 1048576: true; the input reads as it did. -/
def modelPairsUptoRow : OpenClaim := { program := "ytjnkpoehfjldnaa", sum := "bcc7baed7638b86193f3f6b10662b8cbee039ac2a2de7a37dfac89c11dc3c6bf", func := "pawl/pawllaw8.ModelPairs", spec := "modelPairs", unfollowed := true, recurses := true, apart := false, narrowed := true }
def ModelPairsUptoSaid : Prop := modelPairsUptoRow.holds Try.pinned (OpenSpec.upto modelPairsSpec)

/-- 'pawllaw9.Images', WHERE WHAT IT READS IS OF BULK AT MOST 1048576: true; the input reads as it did. -/
def imagesUptoRow : OpenClaim := { program := "ytjnkpoehfjldnaa", sum := "bcc7baed7638b86193f3f6b10662b8cbee039ac2a2de7a37dfac89c11dc3c6bf", func := "pawl/pawllaw9.Images", spec := "images", unfollowed := true, recurses := true, apart := false, narrowed := true }
def ImagesUptoSaid : Prop := imagesUptoRow.holds Try.pinned (OpenSpec.upto imagesSpec)

/-- 'pawllaw9.ImageForms', WHERE WHAT IT READS IS OF BULK AT MOST 1048576: true; the input reads as it did. -/
def imageFormsUptoRow : OpenClaim := { program := "ytjnkpoehfjldnaa", sum := "bcc7baed7638b86193f3f6b10662b8cbee039ac2a2de7a37dfac89c11dc3c6bf", func := "pawl/pawllaw9.ImageForms", spec := "imageForms", unfollowed := true, recurses := true, apart := false, narrowed := true }
def ImageFormsUptoSaid : Prop := imageFormsUptoRow.holds Try.pinned (OpenSpec.upto imageFormsSpec)

/-- 'pawllaw9.ImageLevels', WHERE WHAT IT READS IS OF BULK AT MOST 1048576: true; the input reads as it did. -/
def imageLevelsUptoRow : OpenClaim := { program := "ytjnkpoehfjldnaa", sum := "bcc7baed7638b86193f3f6b10662b8cbee039ac2a2de7a37dfac89c11dc3c6bf", func := "pawl/pawllaw9.ImageLevels", spec := "imageLevels", unfollowed := true, recurses := true, apart := false, narrowed := true }
def ImageLevelsUptoSaid : Prop := imageLevelsUptoRow.holds Try.pinned (OpenSpec.upto imageLevelsSpec)

/-- 'pawllaw9.ImageTells', WHERE WHAT IT READS IS OF BULK AT MOST 1048576: true; the input reads as it did. -/
def imageTellsUptoRow : OpenClaim := { program := "ytjnkpoehfjldnaa", sum := "bcc7baed7638b86193f3f6b10662b8cbee039ac2a2de7a37dfac89c11dc3c6bf", func := "pawl/pawllaw9.ImageTells", spec := "imageTells", unfollowed := true, recurses := true, apart := false, narrowed := true }
def ImageTellsUptoSaid : Prop := imageTellsUptoRow.holds Try.pinned (OpenSpec.upto imageTellsSpec)

/-- 'pawllaw9.ImageRuns', WHERE WHAT IT READS IS OF BULK AT MOST 1048576: true; the input reads as it did. -/
def imageRunsUptoRow : OpenClaim := { program := "ytjnkpoehfjldnaa", sum := "bcc7baed7638b86193f3f6b10662b8cbee039ac2a2de7a37dfac89c11dc3c6bf", func := "pawl/pawllaw9.ImageRuns", spec := "imageRuns", unfollowed := true, recurses := true, apart := false, narrowed := true }
def ImageRunsUptoSaid : Prop := imageRunsUptoRow.holds Try.pinned (OpenSpec.upto imageRunsSpec)

end Rows
end Go.Proofs.Ytjnkpoehfjldnaa
