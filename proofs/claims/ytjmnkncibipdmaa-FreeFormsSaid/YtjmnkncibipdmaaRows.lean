/-
  No cell of these rows narrows 'for every input' (looked for: loops, veiled, ifaces, maps, wideKeys, modest, calm, conditions, laid).
  DERIVED. THE GIVEN ROWS OF THIS SEAT. 10 by the template 'for every input the law returns true; each argument reads behind the call as it read before'; 0 by the template 'total and deterministic' (their statements: YtjmnkncibipdmaaTotals.lean).
  GIVEN WITH THE SEED: the statements are not yours to turn. If you find one false, say at which input.
  Laid BY PROGRAM, IN A SANDBOX (cutbox-rows.mjs): the forced cells as the released guide's own fill.sh prints them over the translation 8d125fe277a253fc… (all of the seat's roots in one cut). By AI agents, Wed Nov 11 2026. No macro, syntax, notation, axiom, sorry.
-/
import Derived.Test.YtjmnkncibipdmaaChecked
import GoSem.Claim
import GoSem.ClaimJoined
import GoSem.ClaimMapViews
import Derived.JoinedTies
import Derived.KernelRfl
namespace Go.Proofs.Ytjmnkncibipdmaa
/- THE CELL 'sum', in the pinned program and in every row, IS THE sha256 OF THE DUMP (.gsa) THAT YtjmnkncibipdmaaProg.lean LOADS. Nothing in Lean hashes anything: it is a label: what it is worth is what the hold of that sum in a sandbox is worth. -/
noncomputable def Try.pinned : Pinned := { name := "ytjmnkncibipdmaa", sum := "8d125fe277a253fc31cc130a00aa5b9a38490c15d30d453c44082764b026f46b", checked := Try.checked }
namespace Rows
def none {H : Type} : Left H := { results := [], args := [] }

/-- 'pawllaw10.FreeRows': WHATEVER THE INPUT: true; the input reads as it did. -/
def freeRowsSpec : ChangeSpec := { name := "freeRows", fn := fun _ => fun
  | [d] => { results := [.lit (.bool true)], args := [d] }
  | _ => none }
def freeRowsRow : OpenClaim := { program := "ytjmnkncibipdmaa", sum := "8d125fe277a253fc31cc130a00aa5b9a38490c15d30d453c44082764b026f46b", func := "pawl/pawllaw10.FreeRows", spec := "freeRows", unfollowed := true, recurses := true, apart := false }
def FreeRowsSaid : Prop := freeRowsRow.holds Try.pinned (OpenSpec.ofChange freeRowsSpec)

/-- ITS FALSE NEIGHBOUR: 'it returns false'. Refute it at one input. -/
def freeRowsWrong : ChangeSpec := { name := "freeRows", fn := fun _ => fun
  | [d] => { results := [.lit (.bool false)], args := [d] }
  | _ => none }
def FreeRowsWrongFalsely : Prop := freeRowsRow.holds Try.pinned (OpenSpec.ofChange freeRowsWrong)

/-- 'pawllaw10.FreeForms': WHATEVER THE INPUT: true; the input reads as it did. -/
def freeFormsSpec : ChangeSpec := { name := "freeForms", fn := fun _ => fun
  | [d1, d2] => { results := [.lit (.bool true)], args := [d1, d2] }
  | _ => none }
def freeFormsRow : OpenClaim := { program := "ytjmnkncibipdmaa", sum := "8d125fe277a253fc31cc130a00aa5b9a38490c15d30d453c44082764b026f46b", func := "pawl/pawllaw10.FreeForms", spec := "freeForms", unfollowed := true, recurses := true, apart := false }
def FreeFormsSaid : Prop := freeFormsRow.holds Try.pinned (OpenSpec.ofChange freeFormsSpec)

/-- ITS FALSE NEIGHBOUR: 'it returns false'. Refute it at one input. -/
def freeFormsWrong : ChangeSpec := { name := "freeForms", fn := fun _ => fun
  | [d1, d2] => { results := [.lit (.bool false)], args := [d1, d2] }
  | _ => none }
def FreeFormsWrongFalsely : Prop := freeFormsRow.holds Try.pinned (OpenSpec.ofChange freeFormsWrong)

/-- 'pawllaw10.FreeLast': WHATEVER THE INPUT: true; the input reads as it did. -/
def freeLastSpec : ChangeSpec := { name := "freeLast", fn := fun _ => fun
  | [d] => { results := [.lit (.bool true)], args := [d] }
  | _ => none }
def freeLastRow : OpenClaim := { program := "ytjmnkncibipdmaa", sum := "8d125fe277a253fc31cc130a00aa5b9a38490c15d30d453c44082764b026f46b", func := "pawl/pawllaw10.FreeLast", spec := "freeLast", unfollowed := true, recurses := true, apart := false }
def FreeLastSaid : Prop := freeLastRow.holds Try.pinned (OpenSpec.ofChange freeLastSpec)

/-- ITS FALSE NEIGHBOUR: 'it returns false'. Refute it at one input. -/
def freeLastWrong : ChangeSpec := { name := "freeLast", fn := fun _ => fun
  | [d] => { results := [.lit (.bool false)], args := [d] }
  | _ => none }
def FreeLastWrongFalsely : Prop := freeLastRow.holds Try.pinned (OpenSpec.ofChange freeLastWrong)

/-- 'pawllaw10.FreeCounts': WHATEVER THE INPUT: true; the input reads as it did. -/
def freeCountsSpec : ChangeSpec := { name := "freeCounts", fn := fun _ => fun
  | [d] => { results := [.lit (.bool true)], args := [d] }
  | _ => none }
def freeCountsRow : OpenClaim := { program := "ytjmnkncibipdmaa", sum := "8d125fe277a253fc31cc130a00aa5b9a38490c15d30d453c44082764b026f46b", func := "pawl/pawllaw10.FreeCounts", spec := "freeCounts", unfollowed := true, recurses := true, apart := false }
def FreeCountsSaid : Prop := freeCountsRow.holds Try.pinned (OpenSpec.ofChange freeCountsSpec)

/-- ITS FALSE NEIGHBOUR: 'it returns false'. Refute it at one input. -/
def freeCountsWrong : ChangeSpec := { name := "freeCounts", fn := fun _ => fun
  | [d] => { results := [.lit (.bool false)], args := [d] }
  | _ => none }
def FreeCountsWrongFalsely : Prop := freeCountsRow.holds Try.pinned (OpenSpec.ofChange freeCountsWrong)

/-- 'pawllaw10.Frees': WHATEVER THE INPUT: true; the input reads as it did. -/
def freesSpec : ChangeSpec := { name := "frees", fn := fun _ => fun
  | [d1, d2, d3, d4] => { results := [.lit (.bool true)], args := [d1, d2, d3, d4] }
  | _ => none }
def freesRow : OpenClaim := { program := "ytjmnkncibipdmaa", sum := "8d125fe277a253fc31cc130a00aa5b9a38490c15d30d453c44082764b026f46b", func := "pawl/pawllaw10.Frees", spec := "frees", unfollowed := true, recurses := true, apart := false }
def FreesSaid : Prop := freesRow.holds Try.pinned (OpenSpec.ofChange freesSpec)

/-- ITS FALSE NEIGHBOUR: 'it returns false'. Refute it at one input. -/
def freesWrong : ChangeSpec := { name := "frees", fn := fun _ => fun
  | [d1, d2, d3, d4] => { results := [.lit (.bool false)], args := [d1, d2, d3, d4] }
  | _ => none }
def FreesWrongFalsely : Prop := freesRow.holds Try.pinned (OpenSpec.ofChange freesWrong)

/-- 'pawllaw20.Orders': WHATEVER THE INPUT: true; the input reads as it did. -/
def ordersSpec : ChangeSpec := { name := "orders", fn := fun _ => fun
  | [d1, d2] => { results := [.lit (.bool true)], args := [d1, d2] }
  | _ => none }
def ordersRow : OpenClaim := { program := "ytjmnkncibipdmaa", sum := "8d125fe277a253fc31cc130a00aa5b9a38490c15d30d453c44082764b026f46b", func := "pawl/pawllaw20.Orders", spec := "orders", inPlace := ["slices.overlaps[pawl/api.Event]"], unfollowed := true, recurses := true, apart := false }
def OrdersSaid : Prop := ordersRow.holds Try.pinned (OpenSpec.ofChange ordersSpec)

/-- ITS FALSE NEIGHBOUR: 'it returns false'. Refute it at one input. -/
def ordersWrong : ChangeSpec := { name := "orders", fn := fun _ => fun
  | [d1, d2] => { results := [.lit (.bool false)], args := [d1, d2] }
  | _ => none }
def OrdersWrongFalsely : Prop := ordersRow.holds Try.pinned (OpenSpec.ofChange ordersWrong)

/-- 'pawllaw20.OrderRises': WHATEVER THE INPUT: true; the input reads as it did. -/
def orderRisesSpec : ChangeSpec := { name := "orderRises", fn := fun _ => fun
  | [d] => { results := [.lit (.bool true)], args := [d] }
  | _ => none }
def orderRisesRow : OpenClaim := { program := "ytjmnkncibipdmaa", sum := "8d125fe277a253fc31cc130a00aa5b9a38490c15d30d453c44082764b026f46b", func := "pawl/pawllaw20.OrderRises", spec := "orderRises", inPlace := ["slices.overlaps[pawl/api.Event]"], unfollowed := true, recurses := true, apart := false }
def OrderRisesSaid : Prop := orderRisesRow.holds Try.pinned (OpenSpec.ofChange orderRisesSpec)

/-- ITS FALSE NEIGHBOUR: 'it returns false'. Refute it at one input. -/
def orderRisesWrong : ChangeSpec := { name := "orderRises", fn := fun _ => fun
  | [d] => { results := [.lit (.bool false)], args := [d] }
  | _ => none }
def OrderRisesWrongFalsely : Prop := orderRisesRow.holds Try.pinned (OpenSpec.ofChange orderRisesWrong)

/-- 'pawllaw20.OrderForms': WHATEVER THE INPUT: true; the input reads as it did. -/
def orderFormsSpec : ChangeSpec := { name := "orderForms", fn := fun _ => fun
  | [d1, d2] => { results := [.lit (.bool true)], args := [d1, d2] }
  | _ => none }
def orderFormsRow : OpenClaim := { program := "ytjmnkncibipdmaa", sum := "8d125fe277a253fc31cc130a00aa5b9a38490c15d30d453c44082764b026f46b", func := "pawl/pawllaw20.OrderForms", spec := "orderForms", inPlace := ["slices.overlaps[pawl/api.Event]"], unfollowed := true, recurses := true, apart := false }
def OrderFormsSaid : Prop := orderFormsRow.holds Try.pinned (OpenSpec.ofChange orderFormsSpec)

/-- ITS FALSE NEIGHBOUR: 'it returns false'. Refute it at one input. -/
def orderFormsWrong : ChangeSpec := { name := "orderForms", fn := fun _ => fun
  | [d1, d2] => { results := [.lit (.bool false)], args := [d1, d2] }
  | _ => none }
def OrderFormsWrongFalsely : Prop := orderFormsRow.holds Try.pinned (OpenSpec.ofChange orderFormsWrong)

/-- 'pawllaw20.OrderAny': WHATEVER THE INPUT: true; the input reads as it did. -/
def orderAnySpec : ChangeSpec := { name := "orderAny", fn := fun _ => fun
  | [d1, d2, d3] => { results := [.lit (.bool true)], args := [d1, d2, d3] }
  | _ => none }
def orderAnyRow : OpenClaim := { program := "ytjmnkncibipdmaa", sum := "8d125fe277a253fc31cc130a00aa5b9a38490c15d30d453c44082764b026f46b", func := "pawl/pawllaw20.OrderAny", spec := "orderAny", inPlace := ["slices.overlaps[pawl/api.Event]"], unfollowed := true, recurses := true, apart := false }
def OrderAnySaid : Prop := orderAnyRow.holds Try.pinned (OpenSpec.ofChange orderAnySpec)

/-- ITS FALSE NEIGHBOUR: 'it returns false'. Refute it at one input. -/
def orderAnyWrong : ChangeSpec := { name := "orderAny", fn := fun _ => fun
  | [d1, d2, d3] => { results := [.lit (.bool false)], args := [d1, d2, d3] }
  | _ => none }
def OrderAnyWrongFalsely : Prop := orderAnyRow.holds Try.pinned (OpenSpec.ofChange orderAnyWrong)

/-- 'pawllaw20.OrderNone': WHATEVER THE INPUT: true; the input reads as it did. -/
def orderNoneSpec : ChangeSpec := { name := "orderNone", fn := fun _ => fun
  | [d1, d2] => { results := [.lit (.bool true)], args := [d1, d2] }
  | _ => none }
def orderNoneRow : OpenClaim := { program := "ytjmnkncibipdmaa", sum := "8d125fe277a253fc31cc130a00aa5b9a38490c15d30d453c44082764b026f46b", func := "pawl/pawllaw20.OrderNone", spec := "orderNone", inPlace := ["slices.overlaps[pawl/api.Event]"], unfollowed := true, recurses := true, apart := false }
def OrderNoneSaid : Prop := orderNoneRow.holds Try.pinned (OpenSpec.ofChange orderNoneSpec)

/-- ITS FALSE NEIGHBOUR: 'it returns false'. Refute it at one input. -/
def orderNoneWrong : ChangeSpec := { name := "orderNone", fn := fun _ => fun
  | [d1, d2] => { results := [.lit (.bool false)], args := [d1, d2] }
  | _ => none }
def OrderNoneWrongFalsely : Prop := orderNoneRow.holds Try.pinned (OpenSpec.ofChange orderNoneWrong)

/- THE SECOND FORM. 'bulk': how many values and letters a reading holds, each counted each time it is reached (what is shared counts as often as it is met; a slice's spare places count too). A statement '..UptoSaid' is the law's where the arguments, and the package variables that the reading takes, are together of bulk at most 1048576: NARROWER than '..Said'. Prove '..Said' where nothing that the law and all that it calls make is longer than what came in: it says more and counts as full. Else prove '..UptoSaid'. A law counts once. -/
mutual
def uptoBulk {H : Type} : DataW H → Nat
  | .lit (.string bytes) => bytes.length + 1
  | .lit _ => 1
  | .nil => 1
  | .ptr d => uptoBulk d + 1
  | .slice elems spare => uptoBulkAll elems + uptoBulkAll spare + 1
  | .agg parts => uptoBulkAll parts + 1
  | .iface _ d => uptoBulk d + 1
  | .map entries => uptoBulkEntries entries + 1
  | .held _ => 1
def uptoBulkAll {H : Type} : List (DataW H) → Nat
  | [] => 0
  | d :: r => uptoBulk d + uptoBulkAll r
def uptoBulkEntries {H : Type} : List (Lit × DataW H) → Nat
  | [] => 0
  | x :: r => uptoBulkEntry x + uptoBulkEntries r
def uptoBulkEntry {H : Type} : Lit × DataW H → Nat
  | (.string bytes, d) => bytes.length + uptoBulk d + 1
  | (_, d) => uptoBulk d + 1
 end
def uptoSmall : (H : Type) → List (DataW H) → Bool := fun _ ds => decide (uptoBulkAll ds ≤ 1048576)
def OpenSpec.upto (s : _root_.Go.ChangeSpec) : _root_.Go.OpenSpec := { _root_.Go.OpenSpec.ofChange s with cond := some uptoSmall }

/-- 'pawllaw10.FreeRows', WHERE WHAT IT READS IS OF BULK AT MOST 1048576: true; the input reads as it did. -/
def freeRowsUptoRow : OpenClaim := { program := "ytjmnkncibipdmaa", sum := "8d125fe277a253fc31cc130a00aa5b9a38490c15d30d453c44082764b026f46b", func := "pawl/pawllaw10.FreeRows", spec := "freeRows", unfollowed := true, recurses := true, apart := false, narrowed := true }
def FreeRowsUptoSaid : Prop := freeRowsUptoRow.holds Try.pinned (OpenSpec.upto freeRowsSpec)

/-- 'pawllaw10.FreeForms', WHERE WHAT IT READS IS OF BULK AT MOST 1048576: true; the input reads as it did. -/
def freeFormsUptoRow : OpenClaim := { program := "ytjmnkncibipdmaa", sum := "8d125fe277a253fc31cc130a00aa5b9a38490c15d30d453c44082764b026f46b", func := "pawl/pawllaw10.FreeForms", spec := "freeForms", unfollowed := true, recurses := true, apart := false, narrowed := true }
def FreeFormsUptoSaid : Prop := freeFormsUptoRow.holds Try.pinned (OpenSpec.upto freeFormsSpec)

/-- 'pawllaw10.FreeLast', WHERE WHAT IT READS IS OF BULK AT MOST 1048576: true; the input reads as it did. -/
def freeLastUptoRow : OpenClaim := { program := "ytjmnkncibipdmaa", sum := "8d125fe277a253fc31cc130a00aa5b9a38490c15d30d453c44082764b026f46b", func := "pawl/pawllaw10.FreeLast", spec := "freeLast", unfollowed := true, recurses := true, apart := false, narrowed := true }
def FreeLastUptoSaid : Prop := freeLastUptoRow.holds Try.pinned (OpenSpec.upto freeLastSpec)

/-- 'pawllaw10.FreeCounts', WHERE WHAT IT READS IS OF BULK AT MOST 1048576: true; the input reads as it did. -/
def freeCountsUptoRow : OpenClaim := { program := "ytjmnkncibipdmaa", sum := "8d125fe277a253fc31cc130a00aa5b9a38490c15d30d453c44082764b026f46b", func := "pawl/pawllaw10.FreeCounts", spec := "freeCounts", unfollowed := true, recurses := true, apart := false, narrowed := true }
def FreeCountsUptoSaid : Prop := freeCountsUptoRow.holds Try.pinned (OpenSpec.upto freeCountsSpec)

/-- 'pawllaw10.Frees', WHERE WHAT IT READS IS OF BULK AT MOST 1048576: true; the input reads as it did. -/
def freesUptoRow : OpenClaim := { program := "ytjmnkncibipdmaa", sum := "8d125fe277a253fc31cc130a00aa5b9a38490c15d30d453c44082764b026f46b", func := "pawl/pawllaw10.Frees", spec := "frees", unfollowed := true, recurses := true, apart := false, narrowed := true }
def FreesUptoSaid : Prop := freesUptoRow.holds Try.pinned (OpenSpec.upto freesSpec)

/-- 'pawllaw20.Orders', WHERE WHAT IT READS IS OF BULK AT MOST 1048576: true; the input reads as it did. -/
def ordersUptoRow : OpenClaim := { program := "ytjmnkncibipdmaa", sum := "8d125fe277a253fc31cc130a00aa5b9a38490c15d30d453c44082764b026f46b", func := "pawl/pawllaw20.Orders", spec := "orders", inPlace := ["slices.overlaps[pawl/api.Event]"], unfollowed := true, recurses := true, apart := false, narrowed := true }
def OrdersUptoSaid : Prop := ordersUptoRow.holds Try.pinned (OpenSpec.upto ordersSpec)

/-- 'pawllaw20.OrderRises', WHERE WHAT IT READS IS OF BULK AT MOST 1048576: true; the input reads as it did. -/
def orderRisesUptoRow : OpenClaim := { program := "ytjmnkncibipdmaa", sum := "8d125fe277a253fc31cc130a00aa5b9a38490c15d30d453c44082764b026f46b", func := "pawl/pawllaw20.OrderRises", spec := "orderRises", inPlace := ["slices.overlaps[pawl/api.Event]"], unfollowed := true, recurses := true, apart := false, narrowed := true }
def OrderRisesUptoSaid : Prop := orderRisesUptoRow.holds Try.pinned (OpenSpec.upto orderRisesSpec)

/-- 'pawllaw20.OrderForms', WHERE WHAT IT READS IS OF BULK AT MOST 1048576: true; the input reads as it did. -/
def orderFormsUptoRow : OpenClaim := { program := "ytjmnkncibipdmaa", sum := "8d125fe277a253fc31cc130a00aa5b9a38490c15d30d453c44082764b026f46b", func := "pawl/pawllaw20.OrderForms", spec := "orderForms", inPlace := ["slices.overlaps[pawl/api.Event]"], unfollowed := true, recurses := true, apart := false, narrowed := true }
def OrderFormsUptoSaid : Prop := orderFormsUptoRow.holds Try.pinned (OpenSpec.upto orderFormsSpec)

/-- 'pawllaw20.OrderAny', WHERE WHAT IT READS IS OF BULK AT MOST 1048576: true; the input reads as it did. -/
def orderAnyUptoRow : OpenClaim := { program := "ytjmnkncibipdmaa", sum := "8d125fe277a253fc31cc130a00aa5b9a38490c15d30d453c44082764b026f46b", func := "pawl/pawllaw20.OrderAny", spec := "orderAny", inPlace := ["slices.overlaps[pawl/api.Event]"], unfollowed := true, recurses := true, apart := false, narrowed := true }
def OrderAnyUptoSaid : Prop := orderAnyUptoRow.holds Try.pinned (OpenSpec.upto orderAnySpec)

/-- 'pawllaw20.OrderNone', WHERE WHAT IT READS IS OF BULK AT MOST 1048576: true; the input reads as it did. -/
def orderNoneUptoRow : OpenClaim := { program := "ytjmnkncibipdmaa", sum := "8d125fe277a253fc31cc130a00aa5b9a38490c15d30d453c44082764b026f46b", func := "pawl/pawllaw20.OrderNone", spec := "orderNone", inPlace := ["slices.overlaps[pawl/api.Event]"], unfollowed := true, recurses := true, apart := false, narrowed := true }
def OrderNoneUptoSaid : Prop := orderNoneUptoRow.holds Try.pinned (OpenSpec.upto orderNoneSpec)

end Rows
end Go.Proofs.Ytjmnkncibipdmaa
