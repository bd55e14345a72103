/-
  No cell of these rows narrows 'for every input' (looked for: loops, veiled, ifaces, maps, wideKeys, modest, calm, conditions, laid).
  DERIVED. THE GIVEN ROWS OF THIS SEAT. 10 by the template 'for every input the law returns true; each argument reads behind the call as it read before'; 0 by the template 'total and deterministic' (their statements: YtpmgdkldhimofaaTotals.lean).
  GIVEN WITH THE SEED: the statements are not yours to turn. If you find one false, say at which input.
  Laid BY PROGRAM, IN A SANDBOX (cutbox-rows.mjs): the forced cells as the released guide's own fill.sh prints them over the translation a8984cf8c55b6aba… (all of the seat's roots in one cut). By AI agents, Wed Nov 11 2026. No macro, syntax, notation, axiom, sorry.
-/
import Derived.Test.YtpmgdkldhimofaaChecked
import GoSem.Claim
import GoSem.ClaimJoined
import GoSem.ClaimMapViews
import Derived.JoinedTies
import Derived.KernelRfl
namespace Go.Proofs.Ytpmgdkldhimofaa
/- THE CELL 'sum', in the pinned program and in every row, IS THE sha256 OF THE DUMP (.gsa) THAT YtpmgdkldhimofaaProg.lean LOADS. Nothing in Lean hashes anything: it is a label: what it is worth is what the hold of that sum in a sandbox is worth. -/
noncomputable def Try.pinned : Pinned := { name := "ytpmgdkldhimofaa", sum := "a8984cf8c55b6abafb75f2675acf2a7a741dd562a8a6847d1933fd2641d8d5bb", checked := Try.checked }
namespace Rows
def none {H : Type} : Left H := { results := [], args := [] }

/-- 'pawllaw6.Skips': WHATEVER THE INPUT: true; the input reads as it did. -/
def skipsSpec : ChangeSpec := { name := "skips", fn := fun _ => fun
  | [d1, d2] => { results := [.lit (.bool true)], args := [d1, d2] }
  | _ => none }
def skipsRow : OpenClaim := { program := "ytpmgdkldhimofaa", sum := "a8984cf8c55b6abafb75f2675acf2a7a741dd562a8a6847d1933fd2641d8d5bb", func := "pawl/pawllaw6.Skips", spec := "skips", unfollowed := true, recurses := true, apart := false }
def SkipsSaid : Prop := skipsRow.holds Try.pinned (OpenSpec.ofChange skipsSpec)

/-- ITS FALSE NEIGHBOUR: 'it returns false'. Refute it at one input. -/
def skipsWrong : ChangeSpec := { name := "skips", fn := fun _ => fun
  | [d1, d2] => { results := [.lit (.bool false)], args := [d1, d2] }
  | _ => none }
def SkipsWrongFalsely : Prop := skipsRow.holds Try.pinned (OpenSpec.ofChange skipsWrong)

/-- 'pawllaw6.SkipNeeds': WHATEVER THE INPUT: true; the input reads as it did. -/
def skipNeedsSpec : ChangeSpec := { name := "skipNeeds", fn := fun _ => fun
  | [d1, d2, d3] => { results := [.lit (.bool true)], args := [d1, d2, d3] }
  | _ => none }
def skipNeedsRow : OpenClaim := { program := "ytpmgdkldhimofaa", sum := "a8984cf8c55b6abafb75f2675acf2a7a741dd562a8a6847d1933fd2641d8d5bb", func := "pawl/pawllaw6.SkipNeeds", spec := "skipNeeds", unfollowed := true, recurses := true, apart := false }
def SkipNeedsSaid : Prop := skipNeedsRow.holds Try.pinned (OpenSpec.ofChange skipNeedsSpec)

/-- ITS FALSE NEIGHBOUR: 'it returns false'. Refute it at one input. -/
def skipNeedsWrong : ChangeSpec := { name := "skipNeeds", fn := fun _ => fun
  | [d1, d2, d3] => { results := [.lit (.bool false)], args := [d1, d2, d3] }
  | _ => none }
def SkipNeedsWrongFalsely : Prop := skipNeedsRow.holds Try.pinned (OpenSpec.ofChange skipNeedsWrong)

/-- 'pawllaw6.SkipWalks': WHATEVER THE INPUT: true; the input reads as it did. -/
def skipWalksSpec : ChangeSpec := { name := "skipWalks", fn := fun _ => fun
  | [d] => { results := [.lit (.bool true)], args := [d] }
  | _ => none }
def skipWalksRow : OpenClaim := { program := "ytpmgdkldhimofaa", sum := "a8984cf8c55b6abafb75f2675acf2a7a741dd562a8a6847d1933fd2641d8d5bb", func := "pawl/pawllaw6.SkipWalks", spec := "skipWalks", unfollowed := true, recurses := true, apart := false }
def SkipWalksSaid : Prop := skipWalksRow.holds Try.pinned (OpenSpec.ofChange skipWalksSpec)

/-- ITS FALSE NEIGHBOUR: 'it returns false'. Refute it at one input. -/
def skipWalksWrong : ChangeSpec := { name := "skipWalks", fn := fun _ => fun
  | [d] => { results := [.lit (.bool false)], args := [d] }
  | _ => none }
def SkipWalksWrongFalsely : Prop := skipWalksRow.holds Try.pinned (OpenSpec.ofChange skipWalksWrong)

/-- 'pawllaw6.SkipRaw': WHATEVER THE INPUT: true; the input reads as it did. -/
def skipRawSpec : ChangeSpec := { name := "skipRaw", fn := fun _ => fun
  | [d1, d2] => { results := [.lit (.bool true)], args := [d1, d2] }
  | _ => none }
def skipRawRow : OpenClaim := { program := "ytpmgdkldhimofaa", sum := "a8984cf8c55b6abafb75f2675acf2a7a741dd562a8a6847d1933fd2641d8d5bb", func := "pawl/pawllaw6.SkipRaw", spec := "skipRaw", unfollowed := true, recurses := true, apart := false }
def SkipRawSaid : Prop := skipRawRow.holds Try.pinned (OpenSpec.ofChange skipRawSpec)

/-- ITS FALSE NEIGHBOUR: 'it returns false'. Refute it at one input. -/
def skipRawWrong : ChangeSpec := { name := "skipRaw", fn := fun _ => fun
  | [d1, d2] => { results := [.lit (.bool false)], args := [d1, d2] }
  | _ => none }
def SkipRawWrongFalsely : Prop := skipRawRow.holds Try.pinned (OpenSpec.ofChange skipRawWrong)

/-- 'pawllaw6.SkipBack': WHATEVER THE INPUT: true; the input reads as it did. -/
def skipBackSpec : ChangeSpec := { name := "skipBack", fn := fun _ => fun
  | [d1, d2, d3] => { results := [.lit (.bool true)], args := [d1, d2, d3] }
  | _ => none }
def skipBackRow : OpenClaim := { program := "ytpmgdkldhimofaa", sum := "a8984cf8c55b6abafb75f2675acf2a7a741dd562a8a6847d1933fd2641d8d5bb", func := "pawl/pawllaw6.SkipBack", spec := "skipBack", unfollowed := true, recurses := true, apart := false }
def SkipBackSaid : Prop := skipBackRow.holds Try.pinned (OpenSpec.ofChange skipBackSpec)

/-- ITS FALSE NEIGHBOUR: 'it returns false'. Refute it at one input. -/
def skipBackWrong : ChangeSpec := { name := "skipBack", fn := fun _ => fun
  | [d1, d2, d3] => { results := [.lit (.bool false)], args := [d1, d2, d3] }
  | _ => none }
def SkipBackWrongFalsely : Prop := skipBackRow.holds Try.pinned (OpenSpec.ofChange skipBackWrong)

/-- 'pawllaw7.Bodies': WHATEVER THE INPUT: true; the input reads as it did. -/
def bodiesSpec : ChangeSpec := { name := "bodies", fn := fun _ => fun
  | [d1, d2, d3] => { results := [.lit (.bool true)], args := [d1, d2, d3] }
  | _ => none }
def bodiesRow : OpenClaim := { program := "ytpmgdkldhimofaa", sum := "a8984cf8c55b6abafb75f2675acf2a7a741dd562a8a6847d1933fd2641d8d5bb", func := "pawl/pawllaw7.Bodies", spec := "bodies", unfollowed := true, recurses := true, apart := false }
def BodiesSaid : Prop := bodiesRow.holds Try.pinned (OpenSpec.ofChange bodiesSpec)

/-- ITS FALSE NEIGHBOUR: 'it returns false'. Refute it at one input. -/
def bodiesWrong : ChangeSpec := { name := "bodies", fn := fun _ => fun
  | [d1, d2, d3] => { results := [.lit (.bool false)], args := [d1, d2, d3] }
  | _ => none }
def BodiesWrongFalsely : Prop := bodiesRow.holds Try.pinned (OpenSpec.ofChange bodiesWrong)

/-- 'pawllaw7.BodyNone': WHATEVER THE INPUT: true; the input reads as it did. -/
def bodyNoneSpec : ChangeSpec := { name := "bodyNone", fn := fun _ => fun
  | [d1, d2] => { results := [.lit (.bool true)], args := [d1, d2] }
  | _ => none }
def bodyNoneRow : OpenClaim := { program := "ytpmgdkldhimofaa", sum := "a8984cf8c55b6abafb75f2675acf2a7a741dd562a8a6847d1933fd2641d8d5bb", func := "pawl/pawllaw7.BodyNone", spec := "bodyNone", unfollowed := true, recurses := true, apart := false }
def BodyNoneSaid : Prop := bodyNoneRow.holds Try.pinned (OpenSpec.ofChange bodyNoneSpec)

/-- ITS FALSE NEIGHBOUR: 'it returns false'. Refute it at one input. -/
def bodyNoneWrong : ChangeSpec := { name := "bodyNone", fn := fun _ => fun
  | [d1, d2] => { results := [.lit (.bool false)], args := [d1, d2] }
  | _ => none }
def BodyNoneWrongFalsely : Prop := bodyNoneRow.holds Try.pinned (OpenSpec.ofChange bodyNoneWrong)

/-- 'pawllaw7.BodyForms': WHATEVER THE INPUT: true; the input reads as it did. -/
def bodyFormsSpec : ChangeSpec := { name := "bodyForms", fn := fun _ => fun
  | [d1, d2] => { results := [.lit (.bool true)], args := [d1, d2] }
  | _ => none }
def bodyFormsRow : OpenClaim := { program := "ytpmgdkldhimofaa", sum := "a8984cf8c55b6abafb75f2675acf2a7a741dd562a8a6847d1933fd2641d8d5bb", func := "pawl/pawllaw7.BodyForms", spec := "bodyForms", unfollowed := true, recurses := true, apart := false }
def BodyFormsSaid : Prop := bodyFormsRow.holds Try.pinned (OpenSpec.ofChange bodyFormsSpec)

/-- ITS FALSE NEIGHBOUR: 'it returns false'. Refute it at one input. -/
def bodyFormsWrong : ChangeSpec := { name := "bodyForms", fn := fun _ => fun
  | [d1, d2] => { results := [.lit (.bool false)], args := [d1, d2] }
  | _ => none }
def BodyFormsWrongFalsely : Prop := bodyFormsRow.holds Try.pinned (OpenSpec.ofChange bodyFormsWrong)

/-- 'pawllaw7.BodySame': WHATEVER THE INPUT: true; the input reads as it did. -/
def bodySameSpec : ChangeSpec := { name := "bodySame", fn := fun _ => fun
  | [d1, d2, d3] => { results := [.lit (.bool true)], args := [d1, d2, d3] }
  | _ => none }
def bodySameRow : OpenClaim := { program := "ytpmgdkldhimofaa", sum := "a8984cf8c55b6abafb75f2675acf2a7a741dd562a8a6847d1933fd2641d8d5bb", func := "pawl/pawllaw7.BodySame", spec := "bodySame", unfollowed := true, recurses := true, apart := false }
def BodySameSaid : Prop := bodySameRow.holds Try.pinned (OpenSpec.ofChange bodySameSpec)

/-- ITS FALSE NEIGHBOUR: 'it returns false'. Refute it at one input. -/
def bodySameWrong : ChangeSpec := { name := "bodySame", fn := fun _ => fun
  | [d1, d2, d3] => { results := [.lit (.bool false)], args := [d1, d2, d3] }
  | _ => none }
def BodySameWrongFalsely : Prop := bodySameRow.holds Try.pinned (OpenSpec.ofChange bodySameWrong)

/-- 'pawllaw7.BodyFull': WHATEVER THE INPUT: true; the input reads as it did. -/
def bodyFullSpec : ChangeSpec := { name := "bodyFull", fn := fun _ => fun
  | [d1, d2, d3] => { results := [.lit (.bool true)], args := [d1, d2, d3] }
  | _ => none }
def bodyFullRow : OpenClaim := { program := "ytpmgdkldhimofaa", sum := "a8984cf8c55b6abafb75f2675acf2a7a741dd562a8a6847d1933fd2641d8d5bb", func := "pawl/pawllaw7.BodyFull", spec := "bodyFull", unfollowed := true, recurses := true, apart := false }
def BodyFullSaid : Prop := bodyFullRow.holds Try.pinned (OpenSpec.ofChange bodyFullSpec)

/-- ITS FALSE NEIGHBOUR: 'it returns false'. Refute it at one input. -/
def bodyFullWrong : ChangeSpec := { name := "bodyFull", fn := fun _ => fun
  | [d1, d2, d3] => { results := [.lit (.bool false)], args := [d1, d2, d3] }
  | _ => none }
def BodyFullWrongFalsely : Prop := bodyFullRow.holds Try.pinned (OpenSpec.ofChange bodyFullWrong)

/- THE SECOND FORM. 'bulk': how many values and letters a reading holds, each counted each time it is reached (what is shared counts as often as it is met; a slice's spare places count too). A statement '..UptoSaid' is the law's where the arguments, and the package variables that the reading takes, are together of bulk at most 1048576: NARROWER than '..Said'. Prove '..Said' where nothing that the law and all that it calls make is longer than what came in: it says more and counts as full. Else prove '..UptoSaid'. A law counts once. -/
mutual
def uptoBulk {H : Type} : DataW H → Nat
  | .lit (.string bytes) => bytes.length + 1
  | .lit _ => 1
  | .nil => 1
  | .ptr d => uptoBulk d + 1
  | .slice elems spare => uptoBulkAll elems + uptoBulkAll spare + 1
  | .agg parts => uptoBulkAll parts + 1
  | .iface _ d => uptoBulk d + 1
  | .map entries => uptoBulkEntries entries + 1
  | .held _ => 1
def uptoBulkAll {H : Type} : List (DataW H) → Nat
  | [] => 0
  | d :: r => uptoBulk d + uptoBulkAll r
def uptoBulkEntries {H : Type} : List (Lit × DataW H) → Nat
  | [] => 0
  | x :: r => uptoBulkEntry x + uptoBulkEntries r
def uptoBulkEntry {H : Type} : Lit × DataW H → Nat
  | (.string bytes, d) => bytes.length + uptoBulk d + 1
  | (_, d) => uptoBulk d + 1
 end
def uptoSmall : (H : Type) → List (DataW H) → Bool := fun _ ds => decide (uptoBulkAll ds ≤ 1048576)
def OpenSpec.upto (s : _root_.Go.ChangeSpec) : _root_.Go.OpenSpec := { _root_.Go.OpenSpec.ofChange s with cond := some uptoSmall }

/-- 'pawllaw6.Skips', WHERE WHAT IT READS IS OF BULK AT MOST 1048576: true; the input reads as it did. -/
def skipsUptoRow : OpenClaim := { program := "ytpmgdkldhimofaa", sum := "a8984cf8c55b6abafb75f2675acf2a7a741dd562a8a6847d1933fd2641d8d5bb", func := "pawl/pawllaw6.Skips", spec := "skips", unfollowed := true, recurses := true, apart := false, narrowed := true }
def SkipsUptoSaid : Prop := skipsUptoRow.holds Try.pinned (OpenSpec.upto skipsSpec)

/-- 'pawllaw6.SkipNeeds', WHERE WHAT IT READS IS OF BULK AT MOST 1048576: true; the input reads as it did. -/
def skipNeedsUptoRow : OpenClaim := { program := "ytpmgdkldhimofaa", sum := "a8984cf8c55b6abafb75f2675acf2a7a741dd562a8a6847d1933fd2641d8d5bb", func := "pawl/pawllaw6.SkipNeeds", spec := "skipNeeds", unfollowed := true, recurses := true, apart := false, narrowed := true }
def SkipNeedsUptoSaid : Prop := skipNeedsUptoRow.holds Try.pinned (OpenSpec.upto skipNeedsSpec)

/-- 'pawllaw6.SkipWalks', WHERE WHAT IT READS IS OF BULK AT MOST 1048576: true; the input reads as it did. -/
def skipWalksUptoRow : OpenClaim := { program := "ytpmgdkldhimofaa", sum := "a8984cf8c55b6abafb75f2675acf2a7a741dd562a8a6847d1933fd2641d8d5bb", func := "pawl/pawllaw6.SkipWalks", spec := "skipWalks", unfollowed := true, recurses := true, apart := false, narrowed := true }
def SkipWalksUptoSaid : Prop := skipWalksUptoRow.holds Try.pinned (OpenSpec.upto skipWalksSpec)

/-- 'pawllaw6.SkipRaw', WHERE WHAT IT READS IS OF BULK AT MOST 1048576: true; the input reads as it did. -/
def skipRawUptoRow : OpenClaim := { program := "ytpmgdkldhimofaa", sum := "a8984cf8c55b6abafb75f2675acf2a7a741dd562a8a6847d1933fd2641d8d5bb", func := "pawl/pawllaw6.SkipRaw", spec := "skipRaw", unfollowed := true, recurses := true, apart := false, narrowed := true }
def SkipRawUptoSaid : Prop := skipRawUptoRow.holds Try.pinned (OpenSpec.upto skipRawSpec)

/-- 'pawllaw6.SkipBack', WHERE WHAT IT READS IS OF BULK AT MOST 1048576: true; the input reads as it did. -/
def skipBackUptoRow : OpenClaim := { program := "ytpmgdkldhimofaa", sum := "a8984cf8c55b6abafb75f2675acf2a7a741dd562a8a6847d1933fd2641d8d5bb", func := "pawl/pawllaw6.SkipBack", spec := "skipBack", unfollowed := true, recurses := true, apart := false, narrowed := true }
def SkipBackUptoSaid : Prop := skipBackUptoRow.holds Try.pinned (OpenSpec.upto skipBackSpec)

/-- 'pawllaw7.Bodies', WHERE WHAT IT READS IS OF BULK AT MOST 1048576: true; the input reads as it did. -/
def bodiesUptoRow : OpenClaim := { program := "ytpmgdkldhimofaa", sum := "a8984cf8c55b6abafb75f2675acf2a7a741dd562a8a6847d1933fd2641d8d5bb", func := "pawl/pawllaw7.Bodies", spec := "bodies", unfollowed := true, recurses := true, apart := false, narrowed := true }
def BodiesUptoSaid : Prop := bodiesUptoRow.holds Try.pinned (OpenSpec.upto bodiesSpec)

/-- 'pawllaw7.BodyNone', WHERE WHAT IT READS IS OF BULK AT MOST 1048576: true; the input reads as it did. -/
def bodyNoneUptoRow : OpenClaim := { program := "ytpmgdkldhimofaa", sum := "a8984cf8c55b6abafb75f2675acf2a7a741dd562a8a6847d1933fd2641d8d5bb", func := "pawl/pawllaw7.BodyNone", spec := "bodyNone", unfollowed := true, recurses := true, apart := false, narrowed := true }
def BodyNoneUptoSaid : Prop := bodyNoneUptoRow.holds Try.pinned (OpenSpec.upto bodyNoneSpec)

/-- 'pawllaw7.BodyForms', WHERE WHAT IT READS IS OF BULK AT MOST 1048576: true; the input reads as it did. -/
def bodyFormsUptoRow : OpenClaim := { program := "ytpmgdkldhimofaa", sum := "a8984cf8c55b6abafb75f2675acf2a7a741dd562a8a6847d1933fd2641d8d5bb", func := "pawl/pawllaw7.BodyForms", spec := "bodyForms", unfollowed := true, recurses := true, apart := false, narrowed := true }
def BodyFormsUptoSaid : Prop := bodyFormsUptoRow.holds Try.pinned (OpenSpec.upto bodyFormsSpec)

/-- 'pawllaw7.BodySame', WHERE WHAT IT READS IS OF BULK AT MOST 1048576: true; the input reads as it did. -/
def bodySameUptoRow : OpenClaim := { program := "ytpmgdkldhimofaa", sum := "a8984cf8c55b6abafb75f2675acf2a7a741dd562a8a6847d1933fd2641d8d5bb", func := "pawl/pawllaw7.BodySame", spec := "bodySame", unfollowed := true, recurses := true, apart := false, narrowed := true }
def BodySameUptoSaid : Prop := bodySameUptoRow.holds Try.pinned (OpenSpec.upto bodySameSpec)

/-- 'pawllaw7.BodyFull', WHERE WHAT IT READS IS OF BULK AT MOST 1048576: true; the input reads as it did. -/
def bodyFullUptoRow : OpenClaim := { program := "ytpmgdkldhimofaa", sum := "a8984cf8c55b6abafb75f2675acf2a7a741dd562a8a6847d1933fd2641d8d5bb", func := "pawl/pawllaw7.BodyFull", spec := "bodyFull", unfollowed := true, recurses := true, apart := false, narrowed := true }
def BodyFullUptoSaid : Prop := bodyFullUptoRow.holds Try.pinned (OpenSpec.upto bodyFullSpec)

end Rows
end Go.Proofs.Ytpmgdkldhimofaa
