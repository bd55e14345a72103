/-
  No cell of these rows narrows 'for every input' (looked for: loops, veiled, ifaces, maps, wideKeys, modest, calm, conditions, laid).
  DERIVED. THE GIVEN ROWS OF THIS SEAT. 10 by the template 'for every input the law returns true; each argument reads behind the call as it read before'; 0 by the template 'total and deterministic' (their statements: YtchgfecghackdaaTotals.lean).
  GIVEN WITH THE SEED: the statements are not yours to turn. If you find one false, say at which input.
  Laid BY PROGRAM, IN A SANDBOX (cutbox-rows.mjs): the forced cells as the released guide's own fill.sh prints them over the translation 7f9cfad68da499b8… (all of the seat's roots in one cut). By AI agents, Wed Nov 11 2026. No macro, syntax, notation, axiom, sorry.
-/
import Derived.Test.YtchgfecghackdaaChecked
import GoSem.Claim
import GoSem.ClaimJoined
import GoSem.ClaimMapViews
import Derived.JoinedTies
import Derived.KernelRfl
namespace Go.Proofs.Ytchgfecghackdaa
/- THE CELL 'sum', in the pinned program and in every row, IS THE sha256 OF THE DUMP (.gsa) THAT YtchgfecghackdaaProg.lean LOADS. Nothing in Lean hashes anything: it is a label: what it is worth is what the hold of that sum in a sandbox is worth. -/
noncomputable def Try.pinned : Pinned := { name := "ytchgfecghackdaa", sum := "7f9cfad68da499b8de2bcf719ff28d3febacf224d4a8954f30a911abeec9edb5", checked := Try.checked }
namespace Rows
def none {H : Type} : Left H := { results := [], args := [] }

/-- 'pawllaw0.PawlNames': WHATEVER THE INPUT: true; the input reads as it did. -/
def pawlNamesSpec : ChangeSpec := { name := "pawlNames", fn := fun _ => fun
  | [] => { results := [.lit (.bool true)], args := [] }
  | _ => none }
def pawlNamesRow : OpenClaim := { program := "ytchgfecghackdaa", sum := "7f9cfad68da499b8de2bcf719ff28d3febacf224d4a8954f30a911abeec9edb5", func := "pawl/pawllaw0.PawlNames", spec := "pawlNames", apart := false }
def PawlNamesSaid : Prop := pawlNamesRow.holds Try.pinned (OpenSpec.ofChange pawlNamesSpec)

/-- ITS FALSE NEIGHBOUR: 'it returns false'. Refute it at one input. -/
def pawlNamesWrong : ChangeSpec := { name := "pawlNames", fn := fun _ => fun
  | [] => { results := [.lit (.bool false)], args := [] }
  | _ => none }
def PawlNamesWrongFalsely : Prop := pawlNamesRow.holds Try.pinned (OpenSpec.ofChange pawlNamesWrong)

/-- 'pawllaw23.Bounds': WHATEVER THE INPUT: true; the input reads as it did. -/
def boundsSpec : ChangeSpec := { name := "bounds", fn := fun _ => fun
  | [d] => { results := [.lit (.bool true)], args := [d] }
  | _ => none }
def boundsRow : OpenClaim := { program := "ytchgfecghackdaa", sum := "7f9cfad68da499b8de2bcf719ff28d3febacf224d4a8954f30a911abeec9edb5", func := "pawl/pawllaw23.Bounds", spec := "bounds", apart := false }
def BoundsSaid : Prop := boundsRow.holds Try.pinned (OpenSpec.ofChange boundsSpec)

/-- ITS FALSE NEIGHBOUR: 'it returns false'. Refute it at one input. -/
def boundsWrong : ChangeSpec := { name := "bounds", fn := fun _ => fun
  | [d] => { results := [.lit (.bool false)], args := [d] }
  | _ => none }
def BoundsWrongFalsely : Prop := boundsRow.holds Try.pinned (OpenSpec.ofChange boundsWrong)

/-- 'pawllaw23.BoundRises': WHATEVER THE INPUT: true; the input reads as it did. -/
def boundRisesSpec : ChangeSpec := { name := "boundRises", fn := fun _ => fun
  | [d] => { results := [.lit (.bool true)], args := [d] }
  | _ => none }
def boundRisesRow : OpenClaim := { program := "ytchgfecghackdaa", sum := "7f9cfad68da499b8de2bcf719ff28d3febacf224d4a8954f30a911abeec9edb5", func := "pawl/pawllaw23.BoundRises", spec := "boundRises", apart := false }
def BoundRisesSaid : Prop := boundRisesRow.holds Try.pinned (OpenSpec.ofChange boundRisesSpec)

/-- ITS FALSE NEIGHBOUR: 'it returns false'. Refute it at one input. -/
def boundRisesWrong : ChangeSpec := { name := "boundRises", fn := fun _ => fun
  | [d] => { results := [.lit (.bool false)], args := [d] }
  | _ => none }
def BoundRisesWrongFalsely : Prop := boundRisesRow.holds Try.pinned (OpenSpec.ofChange boundRisesWrong)

/-- 'pawllaw4.CellRows': WHATEVER THE INPUT: true; the input reads as it did. -/
def cellRowsSpec : ChangeSpec := { name := "cellRows", fn := fun _ => fun
  | [d1, d2, d3, d4] => { results := [.lit (.bool true)], args := [d1, d2, d3, d4] }
  | _ => none }
def cellRowsRow : OpenClaim := { program := "ytchgfecghackdaa", sum := "7f9cfad68da499b8de2bcf719ff28d3febacf224d4a8954f30a911abeec9edb5", func := "pawl/pawllaw4.CellRows", spec := "cellRows", apart := false }
def CellRowsSaid : Prop := cellRowsRow.holds Try.pinned (OpenSpec.ofChange cellRowsSpec)

/-- ITS FALSE NEIGHBOUR: 'it returns false'. Refute it at one input. -/
def cellRowsWrong : ChangeSpec := { name := "cellRows", fn := fun _ => fun
  | [d1, d2, d3, d4] => { results := [.lit (.bool false)], args := [d1, d2, d3, d4] }
  | _ => none }
def CellRowsWrongFalsely : Prop := cellRowsRow.holds Try.pinned (OpenSpec.ofChange cellRowsWrong)

/-- 'pawllaw4.CellApart': WHATEVER THE INPUT: true; the input reads as it did. -/
def cellApartSpec : ChangeSpec := { name := "cellApart", fn := fun _ => fun
  | [d] => { results := [.lit (.bool true)], args := [d] }
  | _ => none }
def cellApartRow : OpenClaim := { program := "ytchgfecghackdaa", sum := "7f9cfad68da499b8de2bcf719ff28d3febacf224d4a8954f30a911abeec9edb5", func := "pawl/pawllaw4.CellApart", spec := "cellApart", apart := false }
def CellApartSaid : Prop := cellApartRow.holds Try.pinned (OpenSpec.ofChange cellApartSpec)

/-- ITS FALSE NEIGHBOUR: 'it returns false'. Refute it at one input. -/
def cellApartWrong : ChangeSpec := { name := "cellApart", fn := fun _ => fun
  | [d] => { results := [.lit (.bool false)], args := [d] }
  | _ => none }
def CellApartWrongFalsely : Prop := cellApartRow.holds Try.pinned (OpenSpec.ofChange cellApartWrong)

/-- 'pawllaw4.CellFull': WHATEVER THE INPUT: true; the input reads as it did. -/
def cellFullSpec : ChangeSpec := { name := "cellFull", fn := fun _ => fun
  | [d1, d2, d3] => { results := [.lit (.bool true)], args := [d1, d2, d3] }
  | _ => none }
def cellFullRow : OpenClaim := { program := "ytchgfecghackdaa", sum := "7f9cfad68da499b8de2bcf719ff28d3febacf224d4a8954f30a911abeec9edb5", func := "pawl/pawllaw4.CellFull", spec := "cellFull", apart := false }
def CellFullSaid : Prop := cellFullRow.holds Try.pinned (OpenSpec.ofChange cellFullSpec)

/-- ITS FALSE NEIGHBOUR: 'it returns false'. Refute it at one input. -/
def cellFullWrong : ChangeSpec := { name := "cellFull", fn := fun _ => fun
  | [d1, d2, d3] => { results := [.lit (.bool false)], args := [d1, d2, d3] }
  | _ => none }
def CellFullWrongFalsely : Prop := cellFullRow.holds Try.pinned (OpenSpec.ofChange cellFullWrong)

/-- 'pawllaw2.Arenas': WHATEVER THE INPUT: true; the input reads as it did. -/
def arenasSpec : ChangeSpec := { name := "arenas", fn := fun _ => fun
  | [d] => { results := [.lit (.bool true)], args := [d] }
  | _ => none }
def arenasRow : OpenClaim := { program := "ytchgfecghackdaa", sum := "7f9cfad68da499b8de2bcf719ff28d3febacf224d4a8954f30a911abeec9edb5", func := "pawl/pawllaw2.Arenas", spec := "arenas", unfollowed := true, recurses := true, apart := false }
def ArenasSaid : Prop := arenasRow.holds Try.pinned (OpenSpec.ofChange arenasSpec)

/-- ITS FALSE NEIGHBOUR: 'it returns false'. Refute it at one input. -/
def arenasWrong : ChangeSpec := { name := "arenas", fn := fun _ => fun
  | [d] => { results := [.lit (.bool false)], args := [d] }
  | _ => none }
def ArenasWrongFalsely : Prop := arenasRow.holds Try.pinned (OpenSpec.ofChange arenasWrong)

/-- 'pawllaw2.ArenaSwaps': WHATEVER THE INPUT: true; the input reads as it did. -/
def arenaSwapsSpec : ChangeSpec := { name := "arenaSwaps", fn := fun _ => fun
  | [d] => { results := [.lit (.bool true)], args := [d] }
  | _ => none }
def arenaSwapsRow : OpenClaim := { program := "ytchgfecghackdaa", sum := "7f9cfad68da499b8de2bcf719ff28d3febacf224d4a8954f30a911abeec9edb5", func := "pawl/pawllaw2.ArenaSwaps", spec := "arenaSwaps", unfollowed := true, recurses := true, apart := false }
def ArenaSwapsSaid : Prop := arenaSwapsRow.holds Try.pinned (OpenSpec.ofChange arenaSwapsSpec)

/-- ITS FALSE NEIGHBOUR: 'it returns false'. Refute it at one input. -/
def arenaSwapsWrong : ChangeSpec := { name := "arenaSwaps", fn := fun _ => fun
  | [d] => { results := [.lit (.bool false)], args := [d] }
  | _ => none }
def ArenaSwapsWrongFalsely : Prop := arenaSwapsRow.holds Try.pinned (OpenSpec.ofChange arenaSwapsWrong)

/-- 'pawllaw2.ArenaForms': WHATEVER THE INPUT: true; the input reads as it did. -/
def arenaFormsSpec : ChangeSpec := { name := "arenaForms", fn := fun _ => fun
  | [d1, d2] => { results := [.lit (.bool true)], args := [d1, d2] }
  | _ => none }
def arenaFormsRow : OpenClaim := { program := "ytchgfecghackdaa", sum := "7f9cfad68da499b8de2bcf719ff28d3febacf224d4a8954f30a911abeec9edb5", func := "pawl/pawllaw2.ArenaForms", spec := "arenaForms", unfollowed := true, recurses := true, apart := false }
def ArenaFormsSaid : Prop := arenaFormsRow.holds Try.pinned (OpenSpec.ofChange arenaFormsSpec)

/-- ITS FALSE NEIGHBOUR: 'it returns false'. Refute it at one input. -/
def arenaFormsWrong : ChangeSpec := { name := "arenaForms", fn := fun _ => fun
  | [d1, d2] => { results := [.lit (.bool false)], args := [d1, d2] }
  | _ => none }
def ArenaFormsWrongFalsely : Prop := arenaFormsRow.holds Try.pinned (OpenSpec.ofChange arenaFormsWrong)

/-- 'pawllaw2.ArenaApart': WHATEVER THE INPUT: true; the input reads as it did. -/
def arenaApartSpec : ChangeSpec := { name := "arenaApart", fn := fun _ => fun
  | [d] => { results := [.lit (.bool true)], args := [d] }
  | _ => none }
def arenaApartRow : OpenClaim := { program := "ytchgfecghackdaa", sum := "7f9cfad68da499b8de2bcf719ff28d3febacf224d4a8954f30a911abeec9edb5", func := "pawl/pawllaw2.ArenaApart", spec := "arenaApart", unfollowed := true, recurses := true, apart := false }
def ArenaApartSaid : Prop := arenaApartRow.holds Try.pinned (OpenSpec.ofChange arenaApartSpec)

/-- ITS FALSE NEIGHBOUR: 'it returns false'. Refute it at one input. -/
def arenaApartWrong : ChangeSpec := { name := "arenaApart", fn := fun _ => fun
  | [d] => { results := [.lit (.bool false)], args := [d] }
  | _ => none }
def ArenaApartWrongFalsely : Prop := arenaApartRow.holds Try.pinned (OpenSpec.ofChange arenaApartWrong)

/- THE SECOND FORM. 'bulk': how many values and letters a reading holds, each counted each time it is reached (what is shared counts as often as it is met; a slice's spare places count too). A statement '..UptoSaid' is the law's where the arguments, and the package variables that the reading takes, are together of bulk at most 1048576: NARROWER than '..Said'. Prove '..Said' where nothing that the law and all that it calls make is longer than what came in: it says more and counts as full. Else prove '..UptoSaid'. A law counts once. -/
mutual
def uptoBulk {H : Type} : DataW H → Nat
  | .lit (.string bytes) => bytes.length + 1
  | .lit _ => 1
  | .nil => 1
  | .ptr d => uptoBulk d + 1
  | .slice elems spare => uptoBulkAll elems + uptoBulkAll spare + 1
  | .agg parts => uptoBulkAll parts + 1
  | .iface _ d => uptoBulk d + 1
  | .map entries => uptoBulkEntries entries + 1
  | .held _ => 1
def uptoBulkAll {H : Type} : List (DataW H) → Nat
  | [] => 0
  | d :: r => uptoBulk d + uptoBulkAll r
def uptoBulkEntries {H : Type} : List (Lit × DataW H) → Nat
  | [] => 0
  | x :: r => uptoBulkEntry x + uptoBulkEntries r
def uptoBulkEntry {H : Type} : Lit × DataW H → Nat
  | (.string bytes, d) => bytes.length + uptoBulk d + 1
  | (_, d) => uptoBulk d + 1
 end
def uptoSmall : (H : Type) → List (DataW H) → Bool := fun _ ds => decide (uptoBulkAll ds ≤ 1048576)
def OpenSpec.upto (s : _root_.Go.ChangeSpec) : _root_.Go.OpenSpec := { _root_.Go.OpenSpec.ofChange s with cond := some uptoSmall }

/-- 'pawllaw0.PawlNames', WHERE WHAT IT READS IS OF BULK AT MOST 1048576: true; the input reads as it did. -/
def pawlNamesUptoRow : OpenClaim := { program := "ytchgfecghackdaa", sum := "7f9cfad68da499b8de2bcf719ff28d3febacf224d4a8954f30a911abeec9edb5", func := "pawl/pawllaw0.PawlNames", spec := "pawlNames", apart := false, narrowed := true }
def PawlNamesUptoSaid : Prop := pawlNamesUptoRow.holds Try.pinned (OpenSpec.upto pawlNamesSpec)

/-- 'pawllaw23.Bounds', WHERE WHAT IT READS IS OF BULK AT MOST 1048576: true; the input reads as it did. -/
def boundsUptoRow : OpenClaim := { program := "ytchgfecghackdaa", sum := "7f9cfad68da499b8de2bcf719ff28d3febacf224d4a8954f30a911abeec9edb5", func := "pawl/pawllaw23.Bounds", spec := "bounds", apart := false, narrowed := true }
def BoundsUptoSaid : Prop := boundsUptoRow.holds Try.pinned (OpenSpec.upto boundsSpec)

/-- 'pawllaw23.BoundRises', WHERE WHAT IT READS IS OF BULK AT MOST 1048576: true; the input reads as it did. -/
def boundRisesUptoRow : OpenClaim := { program := "ytchgfecghackdaa", sum := "7f9cfad68da499b8de2bcf719ff28d3febacf224d4a8954f30a911abeec9edb5", func := "pawl/pawllaw23.BoundRises", spec := "boundRises", apart := false, narrowed := true }
def BoundRisesUptoSaid : Prop := boundRisesUptoRow.holds Try.pinned (OpenSpec.upto boundRisesSpec)

/-- 'pawllaw4.CellRows', WHERE WHAT IT READS IS OF BULK AT MOST 1048576: true; the input reads as it did. -/
def cellRowsUptoRow : OpenClaim := { program := "ytchgfecghackdaa", sum := "7f9cfad68da499b8de2bcf719ff28d3febacf224d4a8954f30a911abeec9edb5", func := "pawl/pawllaw4.CellRows", spec := "cellRows", apart := false, narrowed := true }
def CellRowsUptoSaid : Prop := cellRowsUptoRow.holds Try.pinned (OpenSpec.upto cellRowsSpec)

/-- 'pawllaw4.CellApart', WHERE WHAT IT READS IS OF BULK AT MOST 1048576: true; the input reads as it did. -/
def cellApartUptoRow : OpenClaim := { program := "ytchgfecghackdaa", sum := "7f9cfad68da499b8de2bcf719ff28d3febacf224d4a8954f30a911abeec9edb5", func := "pawl/pawllaw4.CellApart", spec := "cellApart", apart := false, narrowed := true }
def CellApartUptoSaid : Prop := cellApartUptoRow.holds Try.pinned (OpenSpec.upto cellApartSpec)

/-- 'pawllaw4.CellFull', WHERE WHAT IT READS IS OF BULK AT MOST 1048576: true; the input reads as it did. -/
def cellFullUptoRow : OpenClaim := { program := "ytchgfecghackdaa", sum := "7f9cfad68da499b8de2bcf719ff28d3febacf224d4a8954f30a911abeec9edb5", func := "pawl/pawllaw4.CellFull", spec := "cellFull", apart := false, narrowed := true }
def CellFullUptoSaid : Prop := cellFullUptoRow.holds Try.pinned (OpenSpec.upto cellFullSpec)

/-- 'pawllaw2.Arenas', WHERE WHAT IT READS IS OF BULK AT MOST 1048576: true; the input reads as it did. -/
def arenasUptoRow : OpenClaim := { program := "ytchgfecghackdaa", sum := "7f9cfad68da499b8de2bcf719ff28d3febacf224d4a8954f30a911abeec9edb5", func := "pawl/pawllaw2.Arenas", spec := "arenas", unfollowed := true, recurses := true, apart := false, narrowed := true }
def ArenasUptoSaid : Prop := arenasUptoRow.holds Try.pinned (OpenSpec.upto arenasSpec)

/-- 'pawllaw2.ArenaSwaps', WHERE WHAT IT READS IS OF BULK AT MOST 1048576: true; the input reads as it did. -/
def arenaSwapsUptoRow : OpenClaim := { program := "ytchgfecghackdaa", sum := "7f9cfad68da499b8de2bcf719ff28d3febacf224d4a8954f30a911abeec9edb5", func := "pawl/pawllaw2.ArenaSwaps", spec := "arenaSwaps", unfollowed := true, recurses := true, apart := false, narrowed := true }
def ArenaSwapsUptoSaid : Prop := arenaSwapsUptoRow.holds Try.pinned (OpenSpec.upto arenaSwapsSpec)

/-- 'pawllaw2.ArenaForms', WHERE WHAT IT READS IS OF BULK AT MOST 1048576: true; the input reads as it did. -/
def arenaFormsUptoRow : OpenClaim := { program := "ytchgfecghackdaa", sum := "7f9cfad68da499b8de2bcf719ff28d3febacf224d4a8954f30a911abeec9edb5", func := "pawl/pawllaw2.ArenaForms", spec := "arenaForms", unfollowed := true, recurses := true, apart := false, narrowed := true }
def ArenaFormsUptoSaid : Prop := arenaFormsUptoRow.holds Try.pinned (OpenSpec.upto arenaFormsSpec)

/-- 'pawllaw2.ArenaApart', WHERE WHAT IT READS IS OF BULK AT MOST 1048576: true; the input reads as it did. -/
def arenaApartUptoRow : OpenClaim := { program := "ytchgfecghackdaa", sum := "7f9cfad68da499b8de2bcf719ff28d3febacf224d4a8954f30a911abeec9edb5", func := "pawl/pawllaw2.ArenaApart", spec := "arenaApart", unfollowed := true, recurses := true, apart := false, narrowed := true }
def ArenaApartUptoSaid : Prop := arenaApartUptoRow.holds Try.pinned (OpenSpec.upto arenaApartSpec)

end Rows
end Go.Proofs.Ytchgfecghackdaa
