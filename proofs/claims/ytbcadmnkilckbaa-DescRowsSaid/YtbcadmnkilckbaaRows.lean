/-
  No cell of these rows narrows 'for every input' (looked for: loops, veiled, ifaces, maps, wideKeys, modest, calm, conditions, laid).
  DERIVED. THE GIVEN ROWS OF THIS SEAT. 11 by the template 'for every input the law returns true; each argument reads behind the call as it read before'; 0 by the template 'total and deterministic' (their statements: YtbcadmnkilckbaaTotals.lean).
  GIVEN WITH THE SEED: the statements are not yours to turn. If you find one false, say at which input.
  Laid BY PROGRAM, IN A SANDBOX (cutbox-rows.mjs): the forced cells as the released guide's own fill.sh prints them over the translation ffa330fb7faf1e79… (all of the seat's roots in one cut). By AI agents, Wed Nov 11 2026. No macro, syntax, notation, axiom, sorry.
-/
import Derived.Test.YtbcadmnkilckbaaChecked
import GoSem.Claim
import GoSem.ClaimJoined
import GoSem.ClaimMapViews
import Derived.JoinedTies
import Derived.KernelRfl
namespace Go.Proofs.Ytbcadmnkilckbaa
/- THE CELL 'sum', in the pinned program and in every row, IS THE sha256 OF THE DUMP (.gsa) THAT YtbcadmnkilckbaaProg.lean LOADS. Nothing in Lean hashes anything: it is a label: what it is worth is what the hold of that sum in a sandbox is worth. -/
noncomputable def Try.pinned : Pinned := { name := "ytbcadmnkilckbaa", sum := "ffa330fb7faf1e794a89222098c2e18ceefc1a84f87d6e08bb9700da678bfb7c", checked := Try.checked }
namespace Rows
def none {H : Type} : Left H := { results := [], args := [] }

/-- 'pawllaw13.DescForms': WHATEVER THE INPUT: true; the input reads as it did. -/
def descFormsSpec : ChangeSpec := { name := "descForms", fn := fun _ => fun
  | [d1, d2] => { results := [.lit (.bool true)], args := [d1, d2] }
  | _ => none }
def descFormsRow : OpenClaim := { program := "ytbcadmnkilckbaa", sum := "ffa330fb7faf1e794a89222098c2e18ceefc1a84f87d6e08bb9700da678bfb7c", func := "pawl/pawllaw13.DescForms", spec := "descForms", unfollowed := true, recurses := true, apart := false }
def DescFormsSaid : Prop := descFormsRow.holds Try.pinned (OpenSpec.ofChange descFormsSpec)

/-- ITS FALSE NEIGHBOUR: 'it returns false'. Refute it at one input. -/
def descFormsWrong : ChangeSpec := { name := "descForms", fn := fun _ => fun
  | [d1, d2] => { results := [.lit (.bool false)], args := [d1, d2] }
  | _ => none }
def DescFormsWrongFalsely : Prop := descFormsRow.holds Try.pinned (OpenSpec.ofChange descFormsWrong)

/-- 'pawllaw13.DescBack': WHATEVER THE INPUT: true; the input reads as it did. -/
def descBackSpec : ChangeSpec := { name := "descBack", fn := fun _ => fun
  | [d1, d2, d3] => { results := [.lit (.bool true)], args := [d1, d2, d3] }
  | _ => none }
def descBackRow : OpenClaim := { program := "ytbcadmnkilckbaa", sum := "ffa330fb7faf1e794a89222098c2e18ceefc1a84f87d6e08bb9700da678bfb7c", func := "pawl/pawllaw13.DescBack", spec := "descBack", unfollowed := true, recurses := true, apart := false }
def DescBackSaid : Prop := descBackRow.holds Try.pinned (OpenSpec.ofChange descBackSpec)

/-- ITS FALSE NEIGHBOUR: 'it returns false'. Refute it at one input. -/
def descBackWrong : ChangeSpec := { name := "descBack", fn := fun _ => fun
  | [d1, d2, d3] => { results := [.lit (.bool false)], args := [d1, d2, d3] }
  | _ => none }
def DescBackWrongFalsely : Prop := descBackRow.holds Try.pinned (OpenSpec.ofChange descBackWrong)

/-- 'pawllaw13.DescRows': WHATEVER THE INPUT: true; the input reads as it did. -/
def descRowsSpec : ChangeSpec := { name := "descRows", fn := fun _ => fun
  | [d] => { results := [.lit (.bool true)], args := [d] }
  | _ => none }
def descRowsRow : OpenClaim := { program := "ytbcadmnkilckbaa", sum := "ffa330fb7faf1e794a89222098c2e18ceefc1a84f87d6e08bb9700da678bfb7c", func := "pawl/pawllaw13.DescRows", spec := "descRows", unfollowed := true, recurses := true, apart := false }
def DescRowsSaid : Prop := descRowsRow.holds Try.pinned (OpenSpec.ofChange descRowsSpec)

/-- ITS FALSE NEIGHBOUR: 'it returns false'. Refute it at one input. -/
def descRowsWrong : ChangeSpec := { name := "descRows", fn := fun _ => fun
  | [d] => { results := [.lit (.bool false)], args := [d] }
  | _ => none }
def DescRowsWrongFalsely : Prop := descRowsRow.holds Try.pinned (OpenSpec.ofChange descRowsWrong)

/-- 'pawllaw13.DescAnew': WHATEVER THE INPUT: true; the input reads as it did. -/
def descAnewSpec : ChangeSpec := { name := "descAnew", fn := fun _ => fun
  | [d1, d2, d3] => { results := [.lit (.bool true)], args := [d1, d2, d3] }
  | _ => none }
def descAnewRow : OpenClaim := { program := "ytbcadmnkilckbaa", sum := "ffa330fb7faf1e794a89222098c2e18ceefc1a84f87d6e08bb9700da678bfb7c", func := "pawl/pawllaw13.DescAnew", spec := "descAnew", unfollowed := true, recurses := true, apart := false }
def DescAnewSaid : Prop := descAnewRow.holds Try.pinned (OpenSpec.ofChange descAnewSpec)

/-- ITS FALSE NEIGHBOUR: 'it returns false'. Refute it at one input. -/
def descAnewWrong : ChangeSpec := { name := "descAnew", fn := fun _ => fun
  | [d1, d2, d3] => { results := [.lit (.bool false)], args := [d1, d2, d3] }
  | _ => none }
def DescAnewWrongFalsely : Prop := descAnewRow.holds Try.pinned (OpenSpec.ofChange descAnewWrong)

/-- 'pawllaw13.Descs': WHATEVER THE INPUT: true; the input reads as it did. -/
def descsSpec : ChangeSpec := { name := "descs", fn := fun _ => fun
  | [d1, d2, d3, d4, d5, d6] => { results := [.lit (.bool true)], args := [d1, d2, d3, d4, d5, d6] }
  | _ => none }
def descsRow : OpenClaim := { program := "ytbcadmnkilckbaa", sum := "ffa330fb7faf1e794a89222098c2e18ceefc1a84f87d6e08bb9700da678bfb7c", func := "pawl/pawllaw13.Descs", spec := "descs", unfollowed := true, recurses := true, apart := false }
def DescsSaid : Prop := descsRow.holds Try.pinned (OpenSpec.ofChange descsSpec)

/-- ITS FALSE NEIGHBOUR: 'it returns false'. Refute it at one input. -/
def descsWrong : ChangeSpec := { name := "descs", fn := fun _ => fun
  | [d1, d2, d3, d4, d5, d6] => { results := [.lit (.bool false)], args := [d1, d2, d3, d4, d5, d6] }
  | _ => none }
def DescsWrongFalsely : Prop := descsRow.holds Try.pinned (OpenSpec.ofChange descsWrong)

/-- 'pawllaw11.EpochNear': WHATEVER THE INPUT: true; the input reads as it did. -/
def epochNearSpec : ChangeSpec := { name := "epochNear", fn := fun _ => fun
  | [d] => { results := [.lit (.bool true)], args := [d] }
  | _ => none }
def epochNearRow : OpenClaim := { program := "ytbcadmnkilckbaa", sum := "ffa330fb7faf1e794a89222098c2e18ceefc1a84f87d6e08bb9700da678bfb7c", func := "pawl/pawllaw11.EpochNear", spec := "epochNear", unfollowed := true, recurses := true, apart := false }
def EpochNearSaid : Prop := epochNearRow.holds Try.pinned (OpenSpec.ofChange epochNearSpec)

/-- ITS FALSE NEIGHBOUR: 'it returns false'. Refute it at one input. -/
def epochNearWrong : ChangeSpec := { name := "epochNear", fn := fun _ => fun
  | [d] => { results := [.lit (.bool false)], args := [d] }
  | _ => none }
def EpochNearWrongFalsely : Prop := epochNearRow.holds Try.pinned (OpenSpec.ofChange epochNearWrong)

/-- 'pawllaw11.EpochForms': WHATEVER THE INPUT: true; the input reads as it did. -/
def epochFormsSpec : ChangeSpec := { name := "epochForms", fn := fun _ => fun
  | [d1, d2] => { results := [.lit (.bool true)], args := [d1, d2] }
  | _ => none }
def epochFormsRow : OpenClaim := { program := "ytbcadmnkilckbaa", sum := "ffa330fb7faf1e794a89222098c2e18ceefc1a84f87d6e08bb9700da678bfb7c", func := "pawl/pawllaw11.EpochForms", spec := "epochForms", unfollowed := true, recurses := true, apart := false }
def EpochFormsSaid : Prop := epochFormsRow.holds Try.pinned (OpenSpec.ofChange epochFormsSpec)

/-- ITS FALSE NEIGHBOUR: 'it returns false'. Refute it at one input. -/
def epochFormsWrong : ChangeSpec := { name := "epochForms", fn := fun _ => fun
  | [d1, d2] => { results := [.lit (.bool false)], args := [d1, d2] }
  | _ => none }
def EpochFormsWrongFalsely : Prop := epochFormsRow.holds Try.pinned (OpenSpec.ofChange epochFormsWrong)

/-- 'pawllaw11.EpochBlocks': WHATEVER THE INPUT: true; the input reads as it did. -/
def epochBlocksSpec : ChangeSpec := { name := "epochBlocks", fn := fun _ => fun
  | [d1, d2, d3] => { results := [.lit (.bool true)], args := [d1, d2, d3] }
  | _ => none }
def epochBlocksRow : OpenClaim := { program := "ytbcadmnkilckbaa", sum := "ffa330fb7faf1e794a89222098c2e18ceefc1a84f87d6e08bb9700da678bfb7c", func := "pawl/pawllaw11.EpochBlocks", spec := "epochBlocks", unfollowed := true, recurses := true, apart := false }
def EpochBlocksSaid : Prop := epochBlocksRow.holds Try.pinned (OpenSpec.ofChange epochBlocksSpec)

/-- ITS FALSE NEIGHBOUR: 'it returns false'. Refute it at one input. -/
def epochBlocksWrong : ChangeSpec := { name := "epochBlocks", fn := fun _ => fun
  | [d1, d2, d3] => { results := [.lit (.bool false)], args := [d1, d2, d3] }
  | _ => none }
def EpochBlocksWrongFalsely : Prop := epochBlocksRow.holds Try.pinned (OpenSpec.ofChange epochBlocksWrong)

/-- 'pawllaw11.EpochAlone': WHATEVER THE INPUT: true; the input reads as it did. -/
def epochAloneSpec : ChangeSpec := { name := "epochAlone", fn := fun _ => fun
  | [d1, d2] => { results := [.lit (.bool true)], args := [d1, d2] }
  | _ => none }
def epochAloneRow : OpenClaim := { program := "ytbcadmnkilckbaa", sum := "ffa330fb7faf1e794a89222098c2e18ceefc1a84f87d6e08bb9700da678bfb7c", func := "pawl/pawllaw11.EpochAlone", spec := "epochAlone", unfollowed := true, recurses := true, apart := false }
def EpochAloneSaid : Prop := epochAloneRow.holds Try.pinned (OpenSpec.ofChange epochAloneSpec)

/-- ITS FALSE NEIGHBOUR: 'it returns false'. Refute it at one input. -/
def epochAloneWrong : ChangeSpec := { name := "epochAlone", fn := fun _ => fun
  | [d1, d2] => { results := [.lit (.bool false)], args := [d1, d2] }
  | _ => none }
def EpochAloneWrongFalsely : Prop := epochAloneRow.holds Try.pinned (OpenSpec.ofChange epochAloneWrong)

/-- 'pawllaw11.EpochRises': WHATEVER THE INPUT: true; the input reads as it did. -/
def epochRisesSpec : ChangeSpec := { name := "epochRises", fn := fun _ => fun
  | [d] => { results := [.lit (.bool true)], args := [d] }
  | _ => none }
def epochRisesRow : OpenClaim := { program := "ytbcadmnkilckbaa", sum := "ffa330fb7faf1e794a89222098c2e18ceefc1a84f87d6e08bb9700da678bfb7c", func := "pawl/pawllaw11.EpochRises", spec := "epochRises", unfollowed := true, recurses := true, apart := false }
def EpochRisesSaid : Prop := epochRisesRow.holds Try.pinned (OpenSpec.ofChange epochRisesSpec)

/-- ITS FALSE NEIGHBOUR: 'it returns false'. Refute it at one input. -/
def epochRisesWrong : ChangeSpec := { name := "epochRises", fn := fun _ => fun
  | [d] => { results := [.lit (.bool false)], args := [d] }
  | _ => none }
def EpochRisesWrongFalsely : Prop := epochRisesRow.holds Try.pinned (OpenSpec.ofChange epochRisesWrong)

/-- 'pawllaw11.Epochs': WHATEVER THE INPUT: true; the input reads as it did. -/
def epochsSpec : ChangeSpec := { name := "epochs", fn := fun _ => fun
  | [d1, d2, d3, d4] => { results := [.lit (.bool true)], args := [d1, d2, d3, d4] }
  | _ => none }
def epochsRow : OpenClaim := { program := "ytbcadmnkilckbaa", sum := "ffa330fb7faf1e794a89222098c2e18ceefc1a84f87d6e08bb9700da678bfb7c", func := "pawl/pawllaw11.Epochs", spec := "epochs", unfollowed := true, recurses := true, apart := false }
def EpochsSaid : Prop := epochsRow.holds Try.pinned (OpenSpec.ofChange epochsSpec)

/-- ITS FALSE NEIGHBOUR: 'it returns false'. Refute it at one input. -/
def epochsWrong : ChangeSpec := { name := "epochs", fn := fun _ => fun
  | [d1, d2, d3, d4] => { results := [.lit (.bool false)], args := [d1, d2, d3, d4] }
  | _ => none }
def EpochsWrongFalsely : Prop := epochsRow.holds Try.pinned (OpenSpec.ofChange epochsWrong)

/- THE SECOND FORM. 'bulk': how many values and letters a reading holds, each counted each time it is reached (what is shared counts as often as it is met; a slice's spare places count too). A statement '..UptoSaid' is the law's where the arguments, and the package variables that the reading takes, are together of bulk at most 1048576: NARROWER than '..Said'. Prove '..Said' where nothing that the law and all that it calls make is longer than what came in: it says more and counts as full. Else prove '..UptoSaid'. A law counts once. -/
mutual
def uptoBulk {H : Type} : DataW H → Nat
  | .lit (.string bytes) => bytes.length + 1
  | .lit _ => 1
  | .nil => 1
  | .ptr d => uptoBulk d + 1
  | .slice elems spare => uptoBulkAll elems + uptoBulkAll spare + 1
  | .agg parts => uptoBulkAll parts + 1
  | .iface _ d => uptoBulk d + 1
  | .map entries => uptoBulkEntries entries + 1
  | .held _ => 1
def uptoBulkAll {H : Type} : List (DataW H) → Nat
  | [] => 0
  | d :: r => uptoBulk d + uptoBulkAll r
def uptoBulkEntries {H : Type} : List (Lit × DataW H) → Nat
  | [] => 0
  | x :: r => uptoBulkEntry x + uptoBulkEntries r
def uptoBulkEntry {H : Type} : Lit × DataW H → Nat
  | (.string bytes, d) => bytes.length + uptoBulk d + 1
  | (_, d) => uptoBulk d + 1
 end
def uptoSmall : (H : Type) → List (DataW H) → Bool := fun _ ds => decide (uptoBulkAll ds ≤ 1048576)
def OpenSpec.upto (s : _root_.Go.ChangeSpec) : _root_.Go.OpenSpec := { _root_.Go.OpenSpec.ofChange s with cond := some uptoSmall }

/-- 'pawllaw13.DescForms', WHERE WHAT IT READS IS OF BULK AT MOST 1048576: true; the input reads as it did. -/
def descFormsUptoRow : OpenClaim := { program := "ytbcadmnkilckbaa", sum := "ffa330fb7faf1e794a89222098c2e18ceefc1a84f87d6e08bb9700da678bfb7c", func := "pawl/pawllaw13.DescForms", spec := "descForms", unfollowed := true, recurses := true, apart := false, narrowed := true }
def DescFormsUptoSaid : Prop := descFormsUptoRow.holds Try.pinned (OpenSpec.upto descFormsSpec)

/-- 'pawllaw13.DescBack', WHERE WHAT IT READS IS OF BULK AT MOST 1048576: true; the input reads as it did. -/
def descBackUptoRow : OpenClaim := { program := "ytbcadmnkilckbaa", sum := "ffa330fb7faf1e794a89222098c2e18ceefc1a84f87d6e08bb9700da678bfb7c", func := "pawl/pawllaw13.DescBack", spec := "descBack", unfollowed := true, recurses := true, apart := false, narrowed := true }
def DescBackUptoSaid : Prop := descBackUptoRow.holds Try.pinned (OpenSpec.upto descBackSpec)

/-- 'pawllaw13.DescRows', WHERE WHAT IT READS IS OF BULK AT MOST 1048576: true; the input reads as it did. -/
def descRowsUptoRow : OpenClaim := { program := "ytbcadmnkilckbaa", sum := "ffa330fb7faf1e794a89222098c2e18ceefc1a84f87d6e08bb9700da678bfb7c", func := "pawl/pawllaw13.DescRows", spec := "descRows", unfollowed := true, recurses := true, apart := false, narrowed := true }
def DescRowsUptoSaid : Prop := descRowsUptoRow.holds Try.pinned (OpenSpec.upto descRowsSpec)

/-- 'pawllaw13.DescAnew', WHERE WHAT IT READS IS OF BULK AT MOST 1048576: true; the input reads as it did. -/
def descAnewUptoRow : OpenClaim := { program := "ytbcadmnkilckbaa", sum := "ffa330fb7faf1e794a89222098c2e18ceefc1a84f87d6e08bb9700da678bfb7c", func := "pawl/pawllaw13.DescAnew", spec := "descAnew", unfollowed := true, recurses := true, apart := false, narrowed := true }
def DescAnewUptoSaid : Prop := descAnewUptoRow.holds Try.pinned (OpenSpec.upto descAnewSpec)

/-- 'pawllaw13.Descs', WHERE WHAT IT READS IS OF BULK AT MOST 1048576: true; the input reads as it did. -/
def descsUptoRow : OpenClaim := { program := "ytbcadmnkilckbaa", sum := "ffa330fb7faf1e794a89222098c2e18ceefc1a84f87d6e08bb9700da678bfb7c", func := "pawl/pawllaw13.Descs", spec := "descs", unfollowed := true, recurses := true, apart := false, narrowed := true }
def DescsUptoSaid : Prop := descsUptoRow.holds Try.pinned (OpenSpec.upto descsSpec)

/-- 'pawllaw11.EpochNear', WHERE WHAT IT READS IS OF BULK AT MOST 1048576: true; the input reads as it did. -/
def epochNearUptoRow : OpenClaim := { program := "ytbcadmnkilckbaa", sum := "ffa330fb7faf1e794a89222098c2e18ceefc1a84f87d6e08bb9700da678bfb7c", func := "pawl/pawllaw11.EpochNear", spec := "epochNear", unfollowed := true, recurses := true, apart := false, narrowed := true }
def EpochNearUptoSaid : Prop := epochNearUptoRow.holds Try.pinned (OpenSpec.upto epochNearSpec)

/-- 'pawllaw11.EpochForms', WHERE WHAT IT READS IS OF BULK AT MOST 1048576: true; the input reads as it did. -/
def epochFormsUptoRow : OpenClaim := { program := "ytbcadmnkilckbaa", sum := "ffa330fb7faf1e794a89222098c2e18ceefc1a84f87d6e08bb9700da678bfb7c", func := "pawl/pawllaw11.EpochForms", spec := "epochForms", unfollowed := true, recurses := true, apart := false, narrowed := true }
def EpochFormsUptoSaid : Prop := epochFormsUptoRow.holds Try.pinned (OpenSpec.upto epochFormsSpec)

/-- 'pawllaw11.EpochBlocks', WHERE WHAT IT READS IS OF BULK AT MOST 1048576: true; the input reads as it did. -/
def epochBlocksUptoRow : OpenClaim := { program := "ytbcadmnkilckbaa", sum := "ffa330fb7faf1e794a89222098c2e18ceefc1a84f87d6e08bb9700da678bfb7c", func := "pawl/pawllaw11.EpochBlocks", spec := "epochBlocks", unfollowed := true, recurses := true, apart := false, narrowed := true }
def EpochBlocksUptoSaid : Prop := epochBlocksUptoRow.holds Try.pinned (OpenSpec.upto epochBlocksSpec)

/-- 'pawllaw11.EpochAlone', WHERE WHAT IT READS IS OF BULK AT MOST 1048576: true; the input reads as it did. -/
def epochAloneUptoRow : OpenClaim := { program := "ytbcadmnkilckbaa", sum := "ffa330fb7faf1e794a89222098c2e18ceefc1a84f87d6e08bb9700da678bfb7c", func := "pawl/pawllaw11.EpochAlone", spec := "epochAlone", unfollowed := true, recurses := true, apart := false, narrowed := true }
def EpochAloneUptoSaid : Prop := epochAloneUptoRow.holds Try.pinned (OpenSpec.upto epochAloneSpec)

/-- 'pawllaw11.EpochRises', WHERE WHAT IT READS IS OF BULK AT MOST 1048576: true; the input reads as it did. -/
def epochRisesUptoRow : OpenClaim := { program := "ytbcadmnkilckbaa", sum := "ffa330fb7faf1e794a89222098c2e18ceefc1a84f87d6e08bb9700da678bfb7c", func := "pawl/pawllaw11.EpochRises", spec := "epochRises", unfollowed := true, recurses := true, apart := false, narrowed := true }
def EpochRisesUptoSaid : Prop := epochRisesUptoRow.holds Try.pinned (OpenSpec.upto epochRisesSpec)

/-- 'pawllaw11.Epochs', WHERE WHAT IT READS IS OF BULK AT MOST 1048576: true; the input reads as it did. -/
def epochsUptoRow : OpenClaim := { program := "ytbcadmnkilckbaa", sum := "ffa330fb7faf1e794a89222098c2e18ceefc1a84f87d6e08bb9700da678bfb7c", func := "pawl/pawllaw11.Epochs", spec := "epochs", unfollowed := true, recurses := true, apart := false, narrowed := true }
def EpochsUptoSaid : Prop := epochsUptoRow.holds Try.pinned (OpenSpec.upto epochsSpec)

end Rows
end Go.Proofs.Ytbcadmnkilckbaa
