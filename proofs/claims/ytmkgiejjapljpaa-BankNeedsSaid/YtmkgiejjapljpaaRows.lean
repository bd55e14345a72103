/-
  No cell of these rows narrows 'for every input' (looked for: loops, veiled, ifaces, maps, wideKeys, modest, calm, conditions, laid).
  DERIVED. THE GIVEN ROWS OF THIS SEAT. 10 by the template 'for every input the law returns true; each argument reads behind the call as it read before'; 0 by the template 'total and deterministic' (their statements: YtmkgiejjapljpaaTotals.lean).
  GIVEN WITH THE SEED: the statements are not yours to turn. If you find one false, say at which input.
  Laid BY PROGRAM, IN A SANDBOX (cutbox-rows.mjs): the forced cells as the released guide's own fill.sh prints them over the translation 5a3b4c086ffb2f1a… (all of the seat's roots in one cut). By AI agents, Wed Nov 11 2026. No macro, syntax, notation, axiom, sorry.
-/
import Derived.Test.YtmkgiejjapljpaaChecked
import GoSem.Claim
import GoSem.ClaimJoined
import GoSem.ClaimMapViews
import Derived.JoinedTies
import Derived.KernelRfl
namespace Go.Proofs.Ytmkgiejjapljpaa
/- THE CELL 'sum', in the pinned program and in every row, IS THE sha256 OF THE DUMP (.gsa) THAT YtmkgiejjapljpaaProg.lean LOADS. Nothing in Lean hashes anything: it is a label: what it is worth is what the hold of that sum in a sandbox is worth. -/
noncomputable def Try.pinned : Pinned := { name := "ytmkgiejjapljpaa", sum := "5a3b4c086ffb2f1a575d5eddeef27d9edc33a811b7a176d1193b07b233989f77", checked := Try.checked }
namespace Rows
def none {H : Type} : Left H := { results := [], args := [] }

/-- 'pawllaw1.Words': WHATEVER THE INPUT: true; the input reads as it did. -/
def wordsSpec : ChangeSpec := { name := "words", fn := fun _ => fun
  | [d1, d2] => { results := [.lit (.bool true)], args := [d1, d2] }
  | _ => none }
def wordsRow : OpenClaim := { program := "ytmkgiejjapljpaa", sum := "5a3b4c086ffb2f1a575d5eddeef27d9edc33a811b7a176d1193b07b233989f77", func := "pawl/pawllaw1.Words", spec := "words", unfollowed := true, recurses := true, apart := false }
def WordsSaid : Prop := wordsRow.holds Try.pinned (OpenSpec.ofChange wordsSpec)

/-- ITS FALSE NEIGHBOUR: 'it returns false'. Refute it at one input. -/
def wordsWrong : ChangeSpec := { name := "words", fn := fun _ => fun
  | [d1, d2] => { results := [.lit (.bool false)], args := [d1, d2] }
  | _ => none }
def WordsWrongFalsely : Prop := wordsRow.holds Try.pinned (OpenSpec.ofChange wordsWrong)

/-- 'pawllaw1.WordBack': WHATEVER THE INPUT: true; the input reads as it did. -/
def wordBackSpec : ChangeSpec := { name := "wordBack", fn := fun _ => fun
  | [d1, d2, d3] => { results := [.lit (.bool true)], args := [d1, d2, d3] }
  | _ => none }
def wordBackRow : OpenClaim := { program := "ytmkgiejjapljpaa", sum := "5a3b4c086ffb2f1a575d5eddeef27d9edc33a811b7a176d1193b07b233989f77", func := "pawl/pawllaw1.WordBack", spec := "wordBack", unfollowed := true, recurses := true, apart := false }
def WordBackSaid : Prop := wordBackRow.holds Try.pinned (OpenSpec.ofChange wordBackSpec)

/-- ITS FALSE NEIGHBOUR: 'it returns false'. Refute it at one input. -/
def wordBackWrong : ChangeSpec := { name := "wordBack", fn := fun _ => fun
  | [d1, d2, d3] => { results := [.lit (.bool false)], args := [d1, d2, d3] }
  | _ => none }
def WordBackWrongFalsely : Prop := wordBackRow.holds Try.pinned (OpenSpec.ofChange wordBackWrong)

/-- 'pawllaw1.WordForms': WHATEVER THE INPUT: true; the input reads as it did. -/
def wordFormsSpec : ChangeSpec := { name := "wordForms", fn := fun _ => fun
  | [d1, d2] => { results := [.lit (.bool true)], args := [d1, d2] }
  | _ => none }
def wordFormsRow : OpenClaim := { program := "ytmkgiejjapljpaa", sum := "5a3b4c086ffb2f1a575d5eddeef27d9edc33a811b7a176d1193b07b233989f77", func := "pawl/pawllaw1.WordForms", spec := "wordForms", unfollowed := true, recurses := true, apart := false }
def WordFormsSaid : Prop := wordFormsRow.holds Try.pinned (OpenSpec.ofChange wordFormsSpec)

/-- ITS FALSE NEIGHBOUR: 'it returns false'. Refute it at one input. -/
def wordFormsWrong : ChangeSpec := { name := "wordForms", fn := fun _ => fun
  | [d1, d2] => { results := [.lit (.bool false)], args := [d1, d2] }
  | _ => none }
def WordFormsWrongFalsely : Prop := wordFormsRow.holds Try.pinned (OpenSpec.ofChange wordFormsWrong)

/-- 'pawllaw1.WordKinds': WHATEVER THE INPUT: true; the input reads as it did. -/
def wordKindsSpec : ChangeSpec := { name := "wordKinds", fn := fun _ => fun
  | [d1, d2, d3, d4] => { results := [.lit (.bool true)], args := [d1, d2, d3, d4] }
  | _ => none }
def wordKindsRow : OpenClaim := { program := "ytmkgiejjapljpaa", sum := "5a3b4c086ffb2f1a575d5eddeef27d9edc33a811b7a176d1193b07b233989f77", func := "pawl/pawllaw1.WordKinds", spec := "wordKinds", unfollowed := true, recurses := true, apart := false }
def WordKindsSaid : Prop := wordKindsRow.holds Try.pinned (OpenSpec.ofChange wordKindsSpec)

/-- ITS FALSE NEIGHBOUR: 'it returns false'. Refute it at one input. -/
def wordKindsWrong : ChangeSpec := { name := "wordKinds", fn := fun _ => fun
  | [d1, d2, d3, d4] => { results := [.lit (.bool false)], args := [d1, d2, d3, d4] }
  | _ => none }
def WordKindsWrongFalsely : Prop := wordKindsRow.holds Try.pinned (OpenSpec.ofChange wordKindsWrong)

/-- 'pawllaw1.WordUnique': WHATEVER THE INPUT: true; the input reads as it did. -/
def wordUniqueSpec : ChangeSpec := { name := "wordUnique", fn := fun _ => fun
  | [d1, d2, d3] => { results := [.lit (.bool true)], args := [d1, d2, d3] }
  | _ => none }
def wordUniqueRow : OpenClaim := { program := "ytmkgiejjapljpaa", sum := "5a3b4c086ffb2f1a575d5eddeef27d9edc33a811b7a176d1193b07b233989f77", func := "pawl/pawllaw1.WordUnique", spec := "wordUnique", unfollowed := true, recurses := true, apart := false }
def WordUniqueSaid : Prop := wordUniqueRow.holds Try.pinned (OpenSpec.ofChange wordUniqueSpec)

/-- ITS FALSE NEIGHBOUR: 'it returns false'. Refute it at one input. -/
def wordUniqueWrong : ChangeSpec := { name := "wordUnique", fn := fun _ => fun
  | [d1, d2, d3] => { results := [.lit (.bool false)], args := [d1, d2, d3] }
  | _ => none }
def WordUniqueWrongFalsely : Prop := wordUniqueRow.holds Try.pinned (OpenSpec.ofChange wordUniqueWrong)

/-- 'pawllaw5.Banks': WHATEVER THE INPUT: true; the input reads as it did. -/
def banksSpec : ChangeSpec := { name := "banks", fn := fun _ => fun
  | [d1, d2] => { results := [.lit (.bool true)], args := [d1, d2] }
  | _ => none }
def banksRow : OpenClaim := { program := "ytmkgiejjapljpaa", sum := "5a3b4c086ffb2f1a575d5eddeef27d9edc33a811b7a176d1193b07b233989f77", func := "pawl/pawllaw5.Banks", spec := "banks", unfollowed := true, recurses := true, apart := false }
def BanksSaid : Prop := banksRow.holds Try.pinned (OpenSpec.ofChange banksSpec)

/-- ITS FALSE NEIGHBOUR: 'it returns false'. Refute it at one input. -/
def banksWrong : ChangeSpec := { name := "banks", fn := fun _ => fun
  | [d1, d2] => { results := [.lit (.bool false)], args := [d1, d2] }
  | _ => none }
def BanksWrongFalsely : Prop := banksRow.holds Try.pinned (OpenSpec.ofChange banksWrong)

/-- 'pawllaw5.BankNeeds': WHATEVER THE INPUT: true; the input reads as it did. -/
def bankNeedsSpec : ChangeSpec := { name := "bankNeeds", fn := fun _ => fun
  | [d1, d2, d3] => { results := [.lit (.bool true)], args := [d1, d2, d3] }
  | _ => none }
def bankNeedsRow : OpenClaim := { program := "ytmkgiejjapljpaa", sum := "5a3b4c086ffb2f1a575d5eddeef27d9edc33a811b7a176d1193b07b233989f77", func := "pawl/pawllaw5.BankNeeds", spec := "bankNeeds", unfollowed := true, recurses := true, apart := false }
def BankNeedsSaid : Prop := bankNeedsRow.holds Try.pinned (OpenSpec.ofChange bankNeedsSpec)

/-- ITS FALSE NEIGHBOUR: 'it returns false'. Refute it at one input. -/
def bankNeedsWrong : ChangeSpec := { name := "bankNeeds", fn := fun _ => fun
  | [d1, d2, d3] => { results := [.lit (.bool false)], args := [d1, d2, d3] }
  | _ => none }
def BankNeedsWrongFalsely : Prop := bankNeedsRow.holds Try.pinned (OpenSpec.ofChange bankNeedsWrong)

/-- 'pawllaw5.BankWalks': WHATEVER THE INPUT: true; the input reads as it did. -/
def bankWalksSpec : ChangeSpec := { name := "bankWalks", fn := fun _ => fun
  | [d] => { results := [.lit (.bool true)], args := [d] }
  | _ => none }
def bankWalksRow : OpenClaim := { program := "ytmkgiejjapljpaa", sum := "5a3b4c086ffb2f1a575d5eddeef27d9edc33a811b7a176d1193b07b233989f77", func := "pawl/pawllaw5.BankWalks", spec := "bankWalks", unfollowed := true, recurses := true, apart := false }
def BankWalksSaid : Prop := bankWalksRow.holds Try.pinned (OpenSpec.ofChange bankWalksSpec)

/-- ITS FALSE NEIGHBOUR: 'it returns false'. Refute it at one input. -/
def bankWalksWrong : ChangeSpec := { name := "bankWalks", fn := fun _ => fun
  | [d] => { results := [.lit (.bool false)], args := [d] }
  | _ => none }
def BankWalksWrongFalsely : Prop := bankWalksRow.holds Try.pinned (OpenSpec.ofChange bankWalksWrong)

/-- 'pawllaw5.BankLimits': WHATEVER THE INPUT: true; the input reads as it did. -/
def bankLimitsSpec : ChangeSpec := { name := "bankLimits", fn := fun _ => fun
  | [d1, d2] => { results := [.lit (.bool true)], args := [d1, d2] }
  | _ => none }
def bankLimitsRow : OpenClaim := { program := "ytmkgiejjapljpaa", sum := "5a3b4c086ffb2f1a575d5eddeef27d9edc33a811b7a176d1193b07b233989f77", func := "pawl/pawllaw5.BankLimits", spec := "bankLimits", unfollowed := true, recurses := true, apart := false }
def BankLimitsSaid : Prop := bankLimitsRow.holds Try.pinned (OpenSpec.ofChange bankLimitsSpec)

/-- ITS FALSE NEIGHBOUR: 'it returns false'. Refute it at one input. -/
def bankLimitsWrong : ChangeSpec := { name := "bankLimits", fn := fun _ => fun
  | [d1, d2] => { results := [.lit (.bool false)], args := [d1, d2] }
  | _ => none }
def BankLimitsWrongFalsely : Prop := bankLimitsRow.holds Try.pinned (OpenSpec.ofChange bankLimitsWrong)

/-- 'pawllaw5.BankRefuses': WHATEVER THE INPUT: true; the input reads as it did. -/
def bankRefusesSpec : ChangeSpec := { name := "bankRefuses", fn := fun _ => fun
  | [d1, d2] => { results := [.lit (.bool true)], args := [d1, d2] }
  | _ => none }
def bankRefusesRow : OpenClaim := { program := "ytmkgiejjapljpaa", sum := "5a3b4c086ffb2f1a575d5eddeef27d9edc33a811b7a176d1193b07b233989f77", func := "pawl/pawllaw5.BankRefuses", spec := "bankRefuses", unfollowed := true, recurses := true, apart := false }
def BankRefusesSaid : Prop := bankRefusesRow.holds Try.pinned (OpenSpec.ofChange bankRefusesSpec)

/-- ITS FALSE NEIGHBOUR: 'it returns false'. Refute it at one input. -/
def bankRefusesWrong : ChangeSpec := { name := "bankRefuses", fn := fun _ => fun
  | [d1, d2] => { results := [.lit (.bool false)], args := [d1, d2] }
  | _ => none }
def BankRefusesWrongFalsely : Prop := bankRefusesRow.holds Try.pinned (OpenSpec.ofChange bankRefusesWrong)

/- THE SECOND FORM. 'bulk': how many values and letters a reading holds, each counted each time it is reached (what is shared counts as often as it is met; a slice's spare places count too). A statement '..UptoSaid' is the law's where the arguments, and the package variables that the reading takes, are together of bulk at most 1048576: NARROWER than '..Said'. Prove '..Said' where nothing that the law and all that it calls make is longer than what came in: it says more and counts as full. Else prove '..UptoSaid'. A law counts once. -/
mutual
def uptoBulk {H : Type} : DataW H → Nat
  | .lit (.string bytes) => bytes.length + 1
  | .lit _ => 1
  | .nil => 1
  | .ptr d => uptoBulk d + 1
  | .slice elems spare => uptoBulkAll elems + uptoBulkAll spare + 1
  | .agg parts => uptoBulkAll parts + 1
  | .iface _ d => uptoBulk d + 1
  | .map entries => uptoBulkEntries entries + 1
  | .held _ => 1
def uptoBulkAll {H : Type} : List (DataW H) → Nat
  | [] => 0
  | d :: r => uptoBulk d + uptoBulkAll r
def uptoBulkEntries {H : Type} : List (Lit × DataW H) → Nat
  | [] => 0
  | x :: r => uptoBulkEntry x + uptoBulkEntries r
def uptoBulkEntry {H : Type} : Lit × DataW H → Nat
  | (.string bytes, d) => bytes.length + uptoBulk d + 1
  | (_, d) => uptoBulk d + 1
 end
def uptoSmall : (H : Type) → List (DataW H) → Bool := fun _ ds => decide (uptoBulkAll ds ≤ 1048576)
def OpenSpec.upto (s : _root_.Go.ChangeSpec) : _root_.Go.OpenSpec := { _root_.Go.OpenSpec.ofChange s with cond := some uptoSmall }

/-- 'pawllaw1.Words', WHERE WHAT IT READS IS OF BULK AT MOST 1048576: true; the input reads as it did. -/
def wordsUptoRow : OpenClaim := { program := "ytmkgiejjapljpaa", sum := "5a3b4c086ffb2f1a575d5eddeef27d9edc33a811b7a176d1193b07b233989f77", func := "pawl/pawllaw1.Words", spec := "words", unfollowed := true, recurses := true, apart := false, narrowed := true }
def WordsUptoSaid : Prop := wordsUptoRow.holds Try.pinned (OpenSpec.upto wordsSpec)

/-- 'pawllaw1.WordBack', WHERE WHAT IT READS IS OF BULK AT MOST 1048576: true; the input reads as it did. -/
def wordBackUptoRow : OpenClaim := { program := "ytmkgiejjapljpaa", sum := "5a3b4c086ffb2f1a575d5eddeef27d9edc33a811b7a176d1193b07b233989f77", func := "pawl/pawllaw1.WordBack", spec := "wordBack", unfollowed := true, recurses := true, apart := false, narrowed := true }
def WordBackUptoSaid : Prop := wordBackUptoRow.holds Try.pinned (OpenSpec.upto wordBackSpec)

/-- 'pawllaw1.WordForms', WHERE WHAT IT READS IS OF BULK AT MOST 1048576: true; the input reads as it did. -/
def wordFormsUptoRow : OpenClaim := { program := "ytmkgiejjapljpaa", sum := "5a3b4c086ffb2f1a575d5eddeef27d9edc33a811b7a176d1193b07b233989f77", func := "pawl/pawllaw1.WordForms", spec := "wordForms", unfollowed := true, recurses := true, apart := false, narrowed := true }
def WordFormsUptoSaid : Prop := wordFormsUptoRow.holds Try.pinned (OpenSpec.upto wordFormsSpec)

/-- 'pawllaw1.WordKinds', WHERE WHAT IT READS IS OF BULK AT MOST 1048576: true; the input reads as it did. -/
def wordKindsUptoRow : OpenClaim := { program := "ytmkgiejjapljpaa", sum := "5a3b4c086ffb2f1a575d5eddeef27d9edc33a811b7a176d1193b07b233989f77", func := "pawl/pawllaw1.WordKinds", spec := "wordKinds", unfollowed := true, recurses := true, apart := false, narrowed := true }
def WordKindsUptoSaid : Prop := wordKindsUptoRow.holds Try.pinned (OpenSpec.upto wordKindsSpec)

/-- 'pawllaw1.WordUnique', WHERE WHAT IT READS IS OF BULK AT MOST 1048576: true; the input reads as it did. -/
def wordUniqueUptoRow : OpenClaim := { program := "ytmkgiejjapljpaa", sum := "5a3b4c086ffb2f1a575d5eddeef27d9edc33a811b7a176d1193b07b233989f77", func := "pawl/pawllaw1.WordUnique", spec := "wordUnique", unfollowed := true, recurses := true, apart := false, narrowed := true }
def WordUniqueUptoSaid : Prop := wordUniqueUptoRow.holds Try.pinned (OpenSpec.upto wordUniqueSpec)

/-- 'pawllaw5.Banks', WHERE WHAT IT READS IS OF BULK AT MOST 1048576: true; the input reads as it did. -/
def banksUptoRow : OpenClaim := { program := "ytmkgiejjapljpaa", sum := "5a3b4c086ffb2f1a575d5eddeef27d9edc33a811b7a176d1193b07b233989f77", func := "pawl/pawllaw5.Banks", spec := "banks", unfollowed := true, recurses := true, apart := false, narrowed := true }
def BanksUptoSaid : Prop := banksUptoRow.holds Try.pinned (OpenSpec.upto banksSpec)

/-- 'pawllaw5.BankNeeds', WHERE WHAT IT READS IS OF BULK AT MOST 1048576: true; the input reads as it did. -/
def bankNeedsUptoRow : OpenClaim := { program := "ytmkgiejjapljpaa", sum := "5a3b4c086ffb2f1a575d5eddeef27d9edc33a811b7a176d1193b07b233989f77", func := "pawl/pawllaw5.BankNeeds", spec := "bankNeeds", unfollowed := true, recurses := true, apart := false, narrowed := true }
def BankNeedsUptoSaid : Prop := bankNeedsUptoRow.holds Try.pinned (OpenSpec.upto bankNeedsSpec)

/-- 'pawllaw5.BankWalks', WHERE WHAT IT READS IS OF BULK AT MOST 1048576: true; the input reads as it did. -/
def bankWalksUptoRow : OpenClaim := { program := "ytmkgiejjapljpaa", sum := "5a3b4c086ffb2f1a575d5eddeef27d9edc33a811b7a176d1193b07b233989f77", func := "pawl/pawllaw5.BankWalks", spec := "bankWalks", unfollowed := true, recurses := true, apart := false, narrowed := true }
def BankWalksUptoSaid : Prop := bankWalksUptoRow.holds Try.pinned (OpenSpec.upto bankWalksSpec)

/-- 'pawllaw5.BankLimits', WHERE WHAT IT READS IS OF BULK AT MOST 1048576: true; the input reads as it did. -/
def bankLimitsUptoRow : OpenClaim := { program := "ytmkgiejjapljpaa", sum := "5a3b4c086ffb2f1a575d5eddeef27d9edc33a811b7a176d1193b07b233989f77", func := "pawl/pawllaw5.BankLimits", spec := "bankLimits", unfollowed := true, recurses := true, apart := false, narrowed := true }
def BankLimitsUptoSaid : Prop := bankLimitsUptoRow.holds Try.pinned (OpenSpec.upto bankLimitsSpec)

/-- 'pawllaw5.BankRefuses', WHERE WHAT IT READS IS OF BULK AT MOST 1048576: true; the input reads as it did. -/
def bankRefusesUptoRow : OpenClaim := { program := "ytmkgiejjapljpaa", sum := "5a3b4c086ffb2f1a575d5eddeef27d9edc33a811b7a176d1193b07b233989f77", func := "pawl/pawllaw5.BankRefuses", spec := "bankRefuses", unfollowed := true, recurses := true, apart := false, narrowed := true }
def BankRefusesUptoSaid : Prop := bankRefusesUptoRow.holds Try.pinned (OpenSpec.upto bankRefusesSpec)

end Rows
end Go.Proofs.Ytmkgiejjapljpaa
