/-
  No cell of these rows narrows 'for every input' (looked for: loops, veiled, ifaces, maps, wideKeys, modest, calm, conditions, laid).
  DERIVED. THE GIVEN ROWS OF THIS SEAT. 11 by the template 'for every input the law returns true; each argument reads behind the call as it read before'; 0 by the template 'total and deterministic' (their statements: YtfdcimkdhioepaaTotals.lean).
  GIVEN WITH THE SEED: the statements are not yours to turn. If you find one false, say at which input.
  Laid BY PROGRAM, IN A SANDBOX (cutbox-rows.mjs): the forced cells as the released guide's own fill.sh prints them over the translation 398c49b659c532cb… (all of the seat's roots in one cut). By AI agents, Wed Nov 11 2026. No macro, syntax, notation, axiom, sorry.
-/
import Derived.Test.YtfdcimkdhioepaaChecked
import GoSem.Claim
import GoSem.ClaimJoined
import GoSem.ClaimMapViews
import Derived.JoinedTies
import Derived.KernelRfl
namespace Go.Proofs.Ytfdcimkdhioepaa
/- THE CELL 'sum', in the pinned program and in every row, IS THE sha256 OF THE DUMP (.gsa) THAT YtfdcimkdhioepaaProg.lean LOADS. Nothing in Lean hashes anything: it is a label: what it is worth is what the hold of that sum in a sandbox is worth. -/
noncomputable def Try.pinned : Pinned := { name := "ytfdcimkdhioepaa", sum := "398c49b659c532cb1fbeedb550e842bf866d2435cd8f0eeb1620bd83049e08f3", checked := Try.checked }
namespace Rows
def none {H : Type} : Left H := { results := [], args := [] }

/-- 'mistlaw01.CharsChecks': WHATEVER THE INPUT: true; the input reads as it did. -/
def charsChecksSpec : ChangeSpec := { name := "charsChecks", fn := fun _ => fun
  | [d] => { results := [.lit (.bool true)], args := [d] }
  | _ => none }
def charsChecksRow : OpenClaim := { program := "ytfdcimkdhioepaa", sum := "398c49b659c532cb1fbeedb550e842bf866d2435cd8f0eeb1620bd83049e08f3", func := "mist/mistlaw01.CharsChecks", spec := "charsChecks", inPlace := ["internal/bytealg.CountString", "internal/bytealg.IndexByteString", "internal/bytealg.IndexString", "internal/abi.NoEscape", "internal/bytealg.MakeNoZero"], unfollowed := true, recurses := true, named := ["internal/bytealg.MaxLen"], apart := false }
def CharsChecksSaid : Prop := charsChecksRow.holds Try.pinned (OpenSpec.ofChange charsChecksSpec)

/-- ITS FALSE NEIGHBOUR: 'it returns false'. Refute it at one input. -/
def charsChecksWrong : ChangeSpec := { name := "charsChecks", fn := fun _ => fun
  | [d] => { results := [.lit (.bool false)], args := [d] }
  | _ => none }
def CharsChecksWrongFalsely : Prop := charsChecksRow.holds Try.pinned (OpenSpec.ofChange charsChecksWrong)

/-- 'mistlaw01.CharsPlaces': WHATEVER THE INPUT: true; the input reads as it did. -/
def charsPlacesSpec : ChangeSpec := { name := "charsPlaces", fn := fun _ => fun
  | [d1, d2, d3] => { results := [.lit (.bool true)], args := [d1, d2, d3] }
  | _ => none }
def charsPlacesRow : OpenClaim := { program := "ytfdcimkdhioepaa", sum := "398c49b659c532cb1fbeedb550e842bf866d2435cd8f0eeb1620bd83049e08f3", func := "mist/mistlaw01.CharsPlaces", spec := "charsPlaces", inPlace := ["internal/bytealg.CountString", "internal/bytealg.IndexByteString", "internal/bytealg.IndexString", "internal/abi.NoEscape", "internal/bytealg.MakeNoZero"], unfollowed := true, recurses := true, named := ["internal/bytealg.MaxLen"], apart := false }
def CharsPlacesSaid : Prop := charsPlacesRow.holds Try.pinned (OpenSpec.ofChange charsPlacesSpec)

/-- ITS FALSE NEIGHBOUR: 'it returns false'. Refute it at one input. -/
def charsPlacesWrong : ChangeSpec := { name := "charsPlaces", fn := fun _ => fun
  | [d1, d2, d3] => { results := [.lit (.bool false)], args := [d1, d2, d3] }
  | _ => none }
def CharsPlacesWrongFalsely : Prop := charsPlacesRow.holds Try.pinned (OpenSpec.ofChange charsPlacesWrong)

/-- 'mistlaw01.CharsCleans': WHATEVER THE INPUT: true; the input reads as it did. -/
def charsCleansSpec : ChangeSpec := { name := "charsCleans", fn := fun _ => fun
  | [d] => { results := [.lit (.bool true)], args := [d] }
  | _ => none }
def charsCleansRow : OpenClaim := { program := "ytfdcimkdhioepaa", sum := "398c49b659c532cb1fbeedb550e842bf866d2435cd8f0eeb1620bd83049e08f3", func := "mist/mistlaw01.CharsCleans", spec := "charsCleans", inPlace := ["internal/bytealg.CountString", "internal/bytealg.IndexByteString", "internal/bytealg.IndexString", "internal/abi.NoEscape", "internal/bytealg.MakeNoZero"], unfollowed := true, recurses := true, named := ["internal/bytealg.MaxLen"], apart := false }
def CharsCleansSaid : Prop := charsCleansRow.holds Try.pinned (OpenSpec.ofChange charsCleansSpec)

/-- ITS FALSE NEIGHBOUR: 'it returns false'. Refute it at one input. -/
def charsCleansWrong : ChangeSpec := { name := "charsCleans", fn := fun _ => fun
  | [d] => { results := [.lit (.bool false)], args := [d] }
  | _ => none }
def CharsCleansWrongFalsely : Prop := charsCleansRow.holds Try.pinned (OpenSpec.ofChange charsCleansWrong)

/-- 'mistlaw01.CharsFinds': WHATEVER THE INPUT: true; the input reads as it did. -/
def charsFindsSpec : ChangeSpec := { name := "charsFinds", fn := fun _ => fun
  | [d1, d2] => { results := [.lit (.bool true)], args := [d1, d2] }
  | _ => none }
def charsFindsRow : OpenClaim := { program := "ytfdcimkdhioepaa", sum := "398c49b659c532cb1fbeedb550e842bf866d2435cd8f0eeb1620bd83049e08f3", func := "mist/mistlaw01.CharsFinds", spec := "charsFinds", inPlace := ["internal/bytealg.CountString", "internal/bytealg.IndexByteString", "internal/bytealg.IndexString", "internal/abi.NoEscape", "internal/bytealg.MakeNoZero"], unfollowed := true, recurses := true, named := ["internal/bytealg.MaxLen"], apart := false }
def CharsFindsSaid : Prop := charsFindsRow.holds Try.pinned (OpenSpec.ofChange charsFindsSpec)

/-- ITS FALSE NEIGHBOUR: 'it returns false'. Refute it at one input. -/
def charsFindsWrong : ChangeSpec := { name := "charsFinds", fn := fun _ => fun
  | [d1, d2] => { results := [.lit (.bool false)], args := [d1, d2] }
  | _ => none }
def CharsFindsWrongFalsely : Prop := charsFindsRow.holds Try.pinned (OpenSpec.ofChange charsFindsWrong)

/-- 'mistlaw01.CharsSplices': WHATEVER THE INPUT: true; the input reads as it did. -/
def charsSplicesSpec : ChangeSpec := { name := "charsSplices", fn := fun _ => fun
  | [d1, d2] => { results := [.lit (.bool true)], args := [d1, d2] }
  | _ => none }
def charsSplicesRow : OpenClaim := { program := "ytfdcimkdhioepaa", sum := "398c49b659c532cb1fbeedb550e842bf866d2435cd8f0eeb1620bd83049e08f3", func := "mist/mistlaw01.CharsSplices", spec := "charsSplices", inPlace := ["internal/bytealg.CountString", "internal/bytealg.IndexByteString", "internal/bytealg.IndexString", "internal/abi.NoEscape", "internal/bytealg.MakeNoZero"], unfollowed := true, recurses := true, named := ["internal/bytealg.MaxLen"], apart := false }
def CharsSplicesSaid : Prop := charsSplicesRow.holds Try.pinned (OpenSpec.ofChange charsSplicesSpec)

/-- ITS FALSE NEIGHBOUR: 'it returns false'. Refute it at one input. -/
def charsSplicesWrong : ChangeSpec := { name := "charsSplices", fn := fun _ => fun
  | [d1, d2] => { results := [.lit (.bool false)], args := [d1, d2] }
  | _ => none }
def CharsSplicesWrongFalsely : Prop := charsSplicesRow.holds Try.pinned (OpenSpec.ofChange charsSplicesWrong)

/-- 'mistlaw01.CharsBack': WHATEVER THE INPUT: true; the input reads as it did. -/
def charsBackSpec : ChangeSpec := { name := "charsBack", fn := fun _ => fun
  | [d] => { results := [.lit (.bool true)], args := [d] }
  | _ => none }
def charsBackRow : OpenClaim := { program := "ytfdcimkdhioepaa", sum := "398c49b659c532cb1fbeedb550e842bf866d2435cd8f0eeb1620bd83049e08f3", func := "mist/mistlaw01.CharsBack", spec := "charsBack", inPlace := ["internal/bytealg.CountString", "internal/bytealg.IndexByteString", "internal/bytealg.IndexString", "internal/abi.NoEscape", "internal/bytealg.MakeNoZero"], unfollowed := true, recurses := true, named := ["internal/bytealg.MaxLen"], apart := false }
def CharsBackSaid : Prop := charsBackRow.holds Try.pinned (OpenSpec.ofChange charsBackSpec)

/-- ITS FALSE NEIGHBOUR: 'it returns false'. Refute it at one input. -/
def charsBackWrong : ChangeSpec := { name := "charsBack", fn := fun _ => fun
  | [d] => { results := [.lit (.bool false)], args := [d] }
  | _ => none }
def CharsBackWrongFalsely : Prop := charsBackRow.holds Try.pinned (OpenSpec.ofChange charsBackWrong)

/-- 'mistlaw01.CharsUndone': WHATEVER THE INPUT: true; the input reads as it did. -/
def charsUndoneSpec : ChangeSpec := { name := "charsUndone", fn := fun _ => fun
  | [d1, d2, d3] => { results := [.lit (.bool true)], args := [d1, d2, d3] }
  | _ => none }
def charsUndoneRow : OpenClaim := { program := "ytfdcimkdhioepaa", sum := "398c49b659c532cb1fbeedb550e842bf866d2435cd8f0eeb1620bd83049e08f3", func := "mist/mistlaw01.CharsUndone", spec := "charsUndone", inPlace := ["internal/bytealg.CountString", "internal/bytealg.IndexByteString", "internal/bytealg.IndexString", "internal/abi.NoEscape", "internal/bytealg.MakeNoZero"], unfollowed := true, recurses := true, named := ["internal/bytealg.MaxLen"], apart := false }
def CharsUndoneSaid : Prop := charsUndoneRow.holds Try.pinned (OpenSpec.ofChange charsUndoneSpec)

/-- ITS FALSE NEIGHBOUR: 'it returns false'. Refute it at one input. -/
def charsUndoneWrong : ChangeSpec := { name := "charsUndone", fn := fun _ => fun
  | [d1, d2, d3] => { results := [.lit (.bool false)], args := [d1, d2, d3] }
  | _ => none }
def CharsUndoneWrongFalsely : Prop := charsUndoneRow.holds Try.pinned (OpenSpec.ofChange charsUndoneWrong)

/-- 'mistlaw01.CharsCleaned': WHATEVER THE INPUT: true; the input reads as it did. -/
def charsCleanedSpec : ChangeSpec := { name := "charsCleaned", fn := fun _ => fun
  | [d] => { results := [.lit (.bool true)], args := [d] }
  | _ => none }
def charsCleanedRow : OpenClaim := { program := "ytfdcimkdhioepaa", sum := "398c49b659c532cb1fbeedb550e842bf866d2435cd8f0eeb1620bd83049e08f3", func := "mist/mistlaw01.CharsCleaned", spec := "charsCleaned", inPlace := ["internal/bytealg.IndexByteString", "internal/bytealg.IndexString", "internal/abi.NoEscape", "internal/bytealg.MakeNoZero", "internal/bytealg.CountString"], unfollowed := true, recurses := true, named := ["internal/bytealg.MaxLen"], apart := false }
def CharsCleanedSaid : Prop := charsCleanedRow.holds Try.pinned (OpenSpec.ofChange charsCleanedSpec)

/-- ITS FALSE NEIGHBOUR: 'it returns false'. Refute it at one input. -/
def charsCleanedWrong : ChangeSpec := { name := "charsCleaned", fn := fun _ => fun
  | [d] => { results := [.lit (.bool false)], args := [d] }
  | _ => none }
def CharsCleanedWrongFalsely : Prop := charsCleanedRow.holds Try.pinned (OpenSpec.ofChange charsCleanedWrong)

/-- 'mistlaw01.CharsFound': WHATEVER THE INPUT: true; the input reads as it did. -/
def charsFoundSpec : ChangeSpec := { name := "charsFound", fn := fun _ => fun
  | [d1, d2, d3] => { results := [.lit (.bool true)], args := [d1, d2, d3] }
  | _ => none }
def charsFoundRow : OpenClaim := { program := "ytfdcimkdhioepaa", sum := "398c49b659c532cb1fbeedb550e842bf866d2435cd8f0eeb1620bd83049e08f3", func := "mist/mistlaw01.CharsFound", spec := "charsFound", inPlace := ["internal/bytealg.CountString", "internal/bytealg.IndexByteString", "internal/bytealg.IndexString", "internal/abi.NoEscape", "internal/bytealg.MakeNoZero"], unfollowed := true, recurses := true, named := ["internal/bytealg.MaxLen"], apart := false }
def CharsFoundSaid : Prop := charsFoundRow.holds Try.pinned (OpenSpec.ofChange charsFoundSpec)

/-- ITS FALSE NEIGHBOUR: 'it returns false'. Refute it at one input. -/
def charsFoundWrong : ChangeSpec := { name := "charsFound", fn := fun _ => fun
  | [d1, d2, d3] => { results := [.lit (.bool false)], args := [d1, d2, d3] }
  | _ => none }
def CharsFoundWrongFalsely : Prop := charsFoundRow.holds Try.pinned (OpenSpec.ofChange charsFoundWrong)

/-- 'mistlaw01.CharsShows': WHATEVER THE INPUT: true; the input reads as it did. -/
def charsShowsSpec : ChangeSpec := { name := "charsShows", fn := fun _ => fun
  | [d1, d2, d3] => { results := [.lit (.bool true)], args := [d1, d2, d3] }
  | _ => none }
def charsShowsRow : OpenClaim := { program := "ytfdcimkdhioepaa", sum := "398c49b659c532cb1fbeedb550e842bf866d2435cd8f0eeb1620bd83049e08f3", func := "mist/mistlaw01.CharsShows", spec := "charsShows", inPlace := ["internal/bytealg.CountString", "internal/bytealg.IndexByteString", "internal/bytealg.IndexString", "internal/abi.NoEscape", "internal/bytealg.MakeNoZero"], unfollowed := true, recurses := true, named := ["internal/bytealg.MaxLen"], apart := false }
def CharsShowsSaid : Prop := charsShowsRow.holds Try.pinned (OpenSpec.ofChange charsShowsSpec)

/-- ITS FALSE NEIGHBOUR: 'it returns false'. Refute it at one input. -/
def charsShowsWrong : ChangeSpec := { name := "charsShows", fn := fun _ => fun
  | [d1, d2, d3] => { results := [.lit (.bool false)], args := [d1, d2, d3] }
  | _ => none }
def CharsShowsWrongFalsely : Prop := charsShowsRow.holds Try.pinned (OpenSpec.ofChange charsShowsWrong)

/-- 'mistlaw01.CharsWhole': WHATEVER THE INPUT: true; the input reads as it did. -/
def charsWholeSpec : ChangeSpec := { name := "charsWhole", fn := fun _ => fun
  | [d1, d2] => { results := [.lit (.bool true)], args := [d1, d2] }
  | _ => none }
def charsWholeRow : OpenClaim := { program := "ytfdcimkdhioepaa", sum := "398c49b659c532cb1fbeedb550e842bf866d2435cd8f0eeb1620bd83049e08f3", func := "mist/mistlaw01.CharsWhole", spec := "charsWhole", inPlace := ["internal/bytealg.CountString", "internal/bytealg.IndexByteString", "internal/bytealg.IndexString", "internal/abi.NoEscape", "internal/bytealg.MakeNoZero"], unfollowed := true, recurses := true, named := ["internal/bytealg.MaxLen"], apart := false }
def CharsWholeSaid : Prop := charsWholeRow.holds Try.pinned (OpenSpec.ofChange charsWholeSpec)

/-- ITS FALSE NEIGHBOUR: 'it returns false'. Refute it at one input. -/
def charsWholeWrong : ChangeSpec := { name := "charsWhole", fn := fun _ => fun
  | [d1, d2] => { results := [.lit (.bool false)], args := [d1, d2] }
  | _ => none }
def CharsWholeWrongFalsely : Prop := charsWholeRow.holds Try.pinned (OpenSpec.ofChange charsWholeWrong)

/- THE SECOND FORM. 'bulk': how many values and letters a reading holds, each counted each time it is reached (what is shared counts as often as it is met; a slice's spare places count too). A statement '..UptoSaid' is the law's where the arguments, and the package variables that the reading takes, are together of bulk at most 1048576: NARROWER than '..Said'. Prove '..Said' where nothing that the law and all that it calls make is longer than what came in: it says more and counts as full. Else prove '..UptoSaid'. A law counts once. -/
mutual
def uptoBulk {H : Type} : DataW H → Nat
  | .lit (.string bytes) => bytes.length + 1
  | .lit _ => 1
  | .nil => 1
  | .ptr d => uptoBulk d + 1
  | .slice elems spare => uptoBulkAll elems + uptoBulkAll spare + 1
  | .agg parts => uptoBulkAll parts + 1
  | .iface _ d => uptoBulk d + 1
  | .map entries => uptoBulkEntries entries + 1
  | .held _ => 1
def uptoBulkAll {H : Type} : List (DataW H) → Nat
  | [] => 0
  | d :: r => uptoBulk d + uptoBulkAll r
def uptoBulkEntries {H : Type} : List (Lit × DataW H) → Nat
  | [] => 0
  | x :: r => uptoBulkEntry x + uptoBulkEntries r
def uptoBulkEntry {H : Type} : Lit × DataW H → Nat
  | (.string bytes, d) => bytes.length + uptoBulk d + 1
  | (_, d) => uptoBulk d + 1
 end
def uptoSmall : (H : Type) → List (DataW H) → Bool := fun _ ds => decide (uptoBulkAll ds ≤ 1048576)
def OpenSpec.upto (s : _root_.Go.ChangeSpec) : _root_.Go.OpenSpec := { _root_.Go.OpenSpec.ofChange s with cond := some uptoSmall }

/-- 'mistlaw01.CharsChecks', WHERE WHAT IT READS IS OF BULK AT MOST 1048576: true; the input reads as it did. -/
def charsChecksUptoRow : OpenClaim := { program := "ytfdcimkdhioepaa", sum := "398c49b659c532cb1fbeedb550e842bf866d2435cd8f0eeb1620bd83049e08f3", func := "mist/mistlaw01.CharsChecks", spec := "charsChecks", inPlace := ["internal/bytealg.CountString", "internal/bytealg.IndexByteString", "internal/bytealg.IndexString", "internal/abi.NoEscape", "internal/bytealg.MakeNoZero"], unfollowed := true, recurses := true, named := ["internal/bytealg.MaxLen"], apart := false, narrowed := true }
def CharsChecksUptoSaid : Prop := charsChecksUptoRow.holds Try.pinned (OpenSpec.upto charsChecksSpec)

/-- 'mistlaw01.CharsPlaces', WHERE WHAT IT READS IS OF BULK AT MOST 1048576: true; the input reads as it did. -/
def charsPlacesUptoRow : OpenClaim := { program := "ytfdcimkdhioepaa", sum := "398c49b659c532cb1fbeedb550e842bf866d2435cd8f0eeb1620bd83049e08f3", func := "mist/mistlaw01.CharsPlaces", spec := "charsPlaces", inPlace := ["internal/bytealg.CountString", "internal/bytealg.IndexByteString", "internal/bytealg.IndexString", "internal/abi.NoEscape", "internal/bytealg.MakeNoZero"], unfollowed := true, recurses := true, named := ["internal/bytealg.MaxLen"], apart := false, narrowed := true }
def CharsPlacesUptoSaid : Prop := charsPlacesUptoRow.holds Try.pinned (OpenSpec.upto charsPlacesSpec)

/-- 'mistlaw01.CharsCleans', WHERE WHAT IT READS IS OF BULK AT MOST 1048576: true; the input reads as it did. -/
def charsCleansUptoRow : OpenClaim := { program := "ytfdcimkdhioepaa", sum := "398c49b659c532cb1fbeedb550e842bf866d2435cd8f0eeb1620bd83049e08f3", func := "mist/mistlaw01.CharsCleans", spec := "charsCleans", inPlace := ["internal/bytealg.CountString", "internal/bytealg.IndexByteString", "internal/bytealg.IndexString", "internal/abi.NoEscape", "internal/bytealg.MakeNoZero"], unfollowed := true, recurses := true, named := ["internal/bytealg.MaxLen"], apart := false, narrowed := true }
def CharsCleansUptoSaid : Prop := charsCleansUptoRow.holds Try.pinned (OpenSpec.upto charsCleansSpec)

/-- 'mistlaw01.CharsFinds', WHERE WHAT IT READS IS OF BULK AT MOST 1048576: true; the input reads as it did. -/
def charsFindsUptoRow : OpenClaim := { program := "ytfdcimkdhioepaa", sum := "398c49b659c532cb1fbeedb550e842bf866d2435cd8f0eeb1620bd83049e08f3", func := "mist/mistlaw01.CharsFinds", spec := "charsFinds", inPlace := ["internal/bytealg.CountString", "internal/bytealg.IndexByteString", "internal/bytealg.IndexString", "internal/abi.NoEscape", "internal/bytealg.MakeNoZero"], unfollowed := true, recurses := true, named := ["internal/bytealg.MaxLen"], apart := false, narrowed := true }
def CharsFindsUptoSaid : Prop := charsFindsUptoRow.holds Try.pinned (OpenSpec.upto charsFindsSpec)

/-- 'mistlaw01.CharsSplices', WHERE WHAT IT READS IS OF BULK AT MOST 1048576: true; the input reads as it did. -/
def charsSplicesUptoRow : OpenClaim := { program := "ytfdcimkdhioepaa", sum := "398c49b659c532cb1fbeedb550e842bf866d2435cd8f0eeb1620bd83049e08f3", func := "mist/mistlaw01.CharsSplices", spec := "charsSplices", inPlace := ["internal/bytealg.CountString", "internal/bytealg.IndexByteString", "internal/bytealg.IndexString", "internal/abi.NoEscape", "internal/bytealg.MakeNoZero"], unfollowed := true, recurses := true, named := ["internal/bytealg.MaxLen"], apart := false, narrowed := true }
def CharsSplicesUptoSaid : Prop := charsSplicesUptoRow.holds Try.pinned (OpenSpec.upto charsSplicesSpec)

/-- 'mistlaw01.CharsBack', WHERE WHAT IT READS IS OF BULK AT MOST 1048576: true; the input reads as it did. -/
def charsBackUptoRow : OpenClaim := { program := "ytfdcimkdhioepaa", sum := "398c49b659c532cb1fbeedb550e842bf866d2435cd8f0eeb1620bd83049e08f3", func := "mist/mistlaw01.CharsBack", spec := "charsBack", inPlace := ["internal/bytealg.CountString", "internal/bytealg.IndexByteString", "internal/bytealg.IndexString", "internal/abi.NoEscape", "internal/bytealg.MakeNoZero"], unfollowed := true, recurses := true, named := ["internal/bytealg.MaxLen"], apart := false, narrowed := true }
def CharsBackUptoSaid : Prop := charsBackUptoRow.holds Try.pinned (OpenSpec.upto charsBackSpec)

/-- 'mistlaw01.CharsUndone', WHERE WHAT IT READS IS OF BULK AT MOST 1048576: true; the input reads as it did. -/
def charsUndoneUptoRow : OpenClaim := { program := "ytfdcimkdhioepaa", sum := "398c49b659c532cb1fbeedb550e842bf866d2435cd8f0eeb1620bd83049e08f3", func := "mist/mistlaw01.CharsUndone", spec := "charsUndone", inPlace := ["internal/bytealg.CountString", "internal/bytealg.IndexByteString", "internal/bytealg.IndexString", "internal/abi.NoEscape", "internal/bytealg.MakeNoZero"], unfollowed := true, recurses := true, named := ["internal/bytealg.MaxLen"], apart := false, narrowed := true }
def CharsUndoneUptoSaid : Prop := charsUndoneUptoRow.holds Try.pinned (OpenSpec.upto charsUndoneSpec)

/-- 'mistlaw01.CharsCleaned', WHERE WHAT IT READS IS OF BULK AT MOST 1048576: true; the input reads as it did. -/
def charsCleanedUptoRow : OpenClaim := { program := "ytfdcimkdhioepaa", sum := "398c49b659c532cb1fbeedb550e842bf866d2435cd8f0eeb1620bd83049e08f3", func := "mist/mistlaw01.CharsCleaned", spec := "charsCleaned", inPlace := ["internal/bytealg.IndexByteString", "internal/bytealg.IndexString", "internal/abi.NoEscape", "internal/bytealg.MakeNoZero", "internal/bytealg.CountString"], unfollowed := true, recurses := true, named := ["internal/bytealg.MaxLen"], apart := false, narrowed := true }
def CharsCleanedUptoSaid : Prop := charsCleanedUptoRow.holds Try.pinned (OpenSpec.upto charsCleanedSpec)

/-- 'mistlaw01.CharsFound', WHERE WHAT IT READS IS OF BULK AT MOST 1048576: true; the input reads as it did. -/
def charsFoundUptoRow : OpenClaim := { program := "ytfdcimkdhioepaa", sum := "398c49b659c532cb1fbeedb550e842bf866d2435cd8f0eeb1620bd83049e08f3", func := "mist/mistlaw01.CharsFound", spec := "charsFound", inPlace := ["internal/bytealg.CountString", "internal/bytealg.IndexByteString", "internal/bytealg.IndexString", "internal/abi.NoEscape", "internal/bytealg.MakeNoZero"], unfollowed := true, recurses := true, named := ["internal/bytealg.MaxLen"], apart := false, narrowed := true }
def CharsFoundUptoSaid : Prop := charsFoundUptoRow.holds Try.pinned (OpenSpec.upto charsFoundSpec)

/-- 'mistlaw01.CharsShows', WHERE WHAT IT READS IS OF BULK AT MOST 1048576: true; the input reads as it did. -/
def charsShowsUptoRow : OpenClaim := { program := "ytfdcimkdhioepaa", sum := "398c49b659c532cb1fbeedb550e842bf866d2435cd8f0eeb1620bd83049e08f3", func := "mist/mistlaw01.CharsShows", spec := "charsShows", inPlace := ["internal/bytealg.CountString", "internal/bytealg.IndexByteString", "internal/bytealg.IndexString", "internal/abi.NoEscape", "internal/bytealg.MakeNoZero"], unfollowed := true, recurses := true, named := ["internal/bytealg.MaxLen"], apart := false, narrowed := true }
def CharsShowsUptoSaid : Prop := charsShowsUptoRow.holds Try.pinned (OpenSpec.upto charsShowsSpec)

/-- 'mistlaw01.CharsWhole', WHERE WHAT IT READS IS OF BULK AT MOST 1048576: true; the input reads as it did. -/
def charsWholeUptoRow : OpenClaim := { program := "ytfdcimkdhioepaa", sum := "398c49b659c532cb1fbeedb550e842bf866d2435cd8f0eeb1620bd83049e08f3", func := "mist/mistlaw01.CharsWhole", spec := "charsWhole", inPlace := ["internal/bytealg.CountString", "internal/bytealg.IndexByteString", "internal/bytealg.IndexString", "internal/abi.NoEscape", "internal/bytealg.MakeNoZero"], unfollowed := true, recurses := true, named := ["internal/bytealg.MaxLen"], apart := false, narrowed := true }
def CharsWholeUptoSaid : Prop := charsWholeUptoRow.holds Try.pinned (OpenSpec.upto charsWholeSpec)

end Rows
end Go.Proofs.Ytfdcimkdhioepaa
