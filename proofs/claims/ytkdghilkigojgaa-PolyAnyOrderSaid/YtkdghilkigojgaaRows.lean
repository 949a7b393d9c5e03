/-
  No cell of these rows narrows 'for every input' (looked for: loops, veiled, ifaces, maps, wideKeys, modest, calm, conditions, laid).
  DERIVED. THE GIVEN ROWS OF THIS SEAT. 15 by the template 'for every input the law returns true; each argument reads behind the call as it read before'; 0 by the template 'total and deterministic' (their statements: YtkdghilkigojgaaTotals.lean).
  GIVEN WITH THE SEED: the statements are not yours to turn. If you find one false, say at which input.
  Laid BY PROGRAM, IN A SANDBOX (cutbox-rows.mjs): the forced cells as the released guide's own fill.sh prints them over the translation 93575f1412768efd… (all of the seat's roots in one cut). By AI agents, Wed Nov 11 2026. No macro, syntax, notation, axiom, sorry.
-/
import Derived.Test.YtkdghilkigojgaaChecked
import GoSem.Claim
import GoSem.ClaimJoined
import GoSem.ClaimMapViews
import Derived.JoinedTies
import Derived.KernelRfl
namespace Go.Proofs.Ytkdghilkigojgaa
/- THE CELL 'sum', in the pinned program and in every row, IS THE sha256 OF THE DUMP (.gsa) THAT YtkdghilkigojgaaProg.lean LOADS. Nothing in Lean hashes anything: it is a label: what it is worth is what the hold of that sum in a sandbox is worth. -/
noncomputable def Try.pinned : Pinned := { name := "ytkdghilkigojgaa", sum := "93575f1412768efd7f62e89abea6519bf97526374737e20c57cd356fb5cb25a9", checked := Try.checked }
namespace Rows
def none {H : Type} : Left H := { results := [], args := [] }

/-- 'headendlaw04.PolySecrets': WHATEVER THE INPUT: true; the input reads as it did. -/
def polySecretsSpec : ChangeSpec := { name := "polySecrets", fn := fun _ => fun
  | [d1, d2, d3] => { results := [.lit (.bool true)], args := [d1, d2, d3] }
  | _ => none }
def polySecretsRow : OpenClaim := { program := "ytkdghilkigojgaa", sum := "93575f1412768efd7f62e89abea6519bf97526374737e20c57cd356fb5cb25a9", func := "headend/headendlaw04.PolySecrets", spec := "polySecrets", unfollowed := true, recurses := true, apart := false }
def PolySecretsSaid : Prop := polySecretsRow.holds Try.pinned (OpenSpec.ofChange polySecretsSpec)

/-- ITS FALSE NEIGHBOUR: 'it returns false'. Refute it at one input. -/
def polySecretsWrong : ChangeSpec := { name := "polySecrets", fn := fun _ => fun
  | [d1, d2, d3] => { results := [.lit (.bool false)], args := [d1, d2, d3] }
  | _ => none }
def PolySecretsWrongFalsely : Prop := polySecretsRow.holds Try.pinned (OpenSpec.ofChange polySecretsWrong)

/-- 'headendlaw04.PolySeals': WHATEVER THE INPUT: true; the input reads as it did. -/
def polySealsSpec : ChangeSpec := { name := "polySeals", fn := fun _ => fun
  | [d1, d2, d3, d4, d5] => { results := [.lit (.bool true)], args := [d1, d2, d3, d4, d5] }
  | _ => none }
def polySealsRow : OpenClaim := { program := "ytkdghilkigojgaa", sum := "93575f1412768efd7f62e89abea6519bf97526374737e20c57cd356fb5cb25a9", func := "headend/headendlaw04.PolySeals", spec := "polySeals", unfollowed := true, recurses := true, apart := false }
def PolySealsSaid : Prop := polySealsRow.holds Try.pinned (OpenSpec.ofChange polySealsSpec)

/-- ITS FALSE NEIGHBOUR: 'it returns false'. Refute it at one input. -/
def polySealsWrong : ChangeSpec := { name := "polySeals", fn := fun _ => fun
  | [d1, d2, d3, d4, d5] => { results := [.lit (.bool false)], args := [d1, d2, d3, d4, d5] }
  | _ => none }
def PolySealsWrongFalsely : Prop := polySealsRow.holds Try.pinned (OpenSpec.ofChange polySealsWrong)

/-- 'headendlaw04.PolyOpens': WHATEVER THE INPUT: true; the input reads as it did. -/
def polyOpensSpec : ChangeSpec := { name := "polyOpens", fn := fun _ => fun
  | [d1, d2, d3] => { results := [.lit (.bool true)], args := [d1, d2, d3] }
  | _ => none }
def polyOpensRow : OpenClaim := { program := "ytkdghilkigojgaa", sum := "93575f1412768efd7f62e89abea6519bf97526374737e20c57cd356fb5cb25a9", func := "headend/headendlaw04.PolyOpens", spec := "polyOpens", unfollowed := true, recurses := true, apart := false }
def PolyOpensSaid : Prop := polyOpensRow.holds Try.pinned (OpenSpec.ofChange polyOpensSpec)

/-- ITS FALSE NEIGHBOUR: 'it returns false'. Refute it at one input. -/
def polyOpensWrong : ChangeSpec := { name := "polyOpens", fn := fun _ => fun
  | [d1, d2, d3] => { results := [.lit (.bool false)], args := [d1, d2, d3] }
  | _ => none }
def PolyOpensWrongFalsely : Prop := polyOpensRow.holds Try.pinned (OpenSpec.ofChange polyOpensWrong)

/-- 'headendlaw04.PolyValues': WHATEVER THE INPUT: true; the input reads as it did. -/
def polyValuesSpec : ChangeSpec := { name := "polyValues", fn := fun _ => fun
  | [d1, d2, d3, d4, d5] => { results := [.lit (.bool true)], args := [d1, d2, d3, d4, d5] }
  | _ => none }
def polyValuesRow : OpenClaim := { program := "ytkdghilkigojgaa", sum := "93575f1412768efd7f62e89abea6519bf97526374737e20c57cd356fb5cb25a9", func := "headend/headendlaw04.PolyValues", spec := "polyValues", unfollowed := true, recurses := true, apart := false }
def PolyValuesSaid : Prop := polyValuesRow.holds Try.pinned (OpenSpec.ofChange polyValuesSpec)

/-- ITS FALSE NEIGHBOUR: 'it returns false'. Refute it at one input. -/
def polyValuesWrong : ChangeSpec := { name := "polyValues", fn := fun _ => fun
  | [d1, d2, d3, d4, d5] => { results := [.lit (.bool false)], args := [d1, d2, d3, d4, d5] }
  | _ => none }
def PolyValuesWrongFalsely : Prop := polyValuesRow.holds Try.pinned (OpenSpec.ofChange polyValuesWrong)

/-- 'headendlaw04.PolyPunctures': WHATEVER THE INPUT: true; the input reads as it did. -/
def polyPuncturesSpec : ChangeSpec := { name := "polyPunctures", fn := fun _ => fun
  | [d1, d2, d3, d4] => { results := [.lit (.bool true)], args := [d1, d2, d3, d4] }
  | _ => none }
def polyPuncturesRow : OpenClaim := { program := "ytkdghilkigojgaa", sum := "93575f1412768efd7f62e89abea6519bf97526374737e20c57cd356fb5cb25a9", func := "headend/headendlaw04.PolyPunctures", spec := "polyPunctures", unfollowed := true, recurses := true, apart := false }
def PolyPuncturesSaid : Prop := polyPuncturesRow.holds Try.pinned (OpenSpec.ofChange polyPuncturesSpec)

/-- ITS FALSE NEIGHBOUR: 'it returns false'. Refute it at one input. -/
def polyPuncturesWrong : ChangeSpec := { name := "polyPunctures", fn := fun _ => fun
  | [d1, d2, d3, d4] => { results := [.lit (.bool false)], args := [d1, d2, d3, d4] }
  | _ => none }
def PolyPuncturesWrongFalsely : Prop := polyPuncturesRow.holds Try.pinned (OpenSpec.ofChange polyPuncturesWrong)

/-- 'headendlaw04.PolyExamples': WHATEVER THE INPUT: true; the input reads as it did. -/
def polyExamplesSpec : ChangeSpec := { name := "polyExamples", fn := fun _ => fun
  | [] => { results := [.lit (.bool true)], args := [] }
  | _ => none }
def polyExamplesRow : OpenClaim := { program := "ytkdghilkigojgaa", sum := "93575f1412768efd7f62e89abea6519bf97526374737e20c57cd356fb5cb25a9", func := "headend/headendlaw04.PolyExamples", spec := "polyExamples", unfollowed := true, recurses := true, apart := false }
def PolyExamplesSaid : Prop := polyExamplesRow.holds Try.pinned (OpenSpec.ofChange polyExamplesSpec)

/-- ITS FALSE NEIGHBOUR: 'it returns false'. Refute it at one input. -/
def polyExamplesWrong : ChangeSpec := { name := "polyExamples", fn := fun _ => fun
  | [] => { results := [.lit (.bool false)], args := [] }
  | _ => none }
def PolyExamplesWrongFalsely : Prop := polyExamplesRow.holds Try.pinned (OpenSpec.ofChange polyExamplesWrong)

/-- 'headendlaw04.PolyLie': WHATEVER THE INPUT: true; the input reads as it did. -/
def polyLieSpec : ChangeSpec := { name := "polyLie", fn := fun _ => fun
  | [d1, d2] => { results := [.lit (.bool true)], args := [d1, d2] }
  | _ => none }
def polyLieRow : OpenClaim := { program := "ytkdghilkigojgaa", sum := "93575f1412768efd7f62e89abea6519bf97526374737e20c57cd356fb5cb25a9", func := "headend/headendlaw04.PolyLie", spec := "polyLie", unfollowed := true, recurses := true, apart := false }
def PolyLieSaid : Prop := polyLieRow.holds Try.pinned (OpenSpec.ofChange polyLieSpec)

/-- ITS FALSE NEIGHBOUR: 'it returns false'. Refute it at one input. -/
def polyLieWrong : ChangeSpec := { name := "polyLie", fn := fun _ => fun
  | [d1, d2] => { results := [.lit (.bool false)], args := [d1, d2] }
  | _ => none }
def PolyLieWrongFalsely : Prop := polyLieRow.holds Try.pinned (OpenSpec.ofChange polyLieWrong)

/-- 'headendlaw04.PolyOne': WHATEVER THE INPUT: true; the input reads as it did. -/
def polyOneSpec : ChangeSpec := { name := "polyOne", fn := fun _ => fun
  | [d1, d2, d3] => { results := [.lit (.bool true)], args := [d1, d2, d3] }
  | _ => none }
def polyOneRow : OpenClaim := { program := "ytkdghilkigojgaa", sum := "93575f1412768efd7f62e89abea6519bf97526374737e20c57cd356fb5cb25a9", func := "headend/headendlaw04.PolyOne", spec := "polyOne", unfollowed := true, recurses := true, apart := false }
def PolyOneSaid : Prop := polyOneRow.holds Try.pinned (OpenSpec.ofChange polyOneSpec)

/-- ITS FALSE NEIGHBOUR: 'it returns false'. Refute it at one input. -/
def polyOneWrong : ChangeSpec := { name := "polyOne", fn := fun _ => fun
  | [d1, d2, d3] => { results := [.lit (.bool false)], args := [d1, d2, d3] }
  | _ => none }
def PolyOneWrongFalsely : Prop := polyOneRow.holds Try.pinned (OpenSpec.ofChange polyOneWrong)

/-- 'headendlaw04.PolyOpened': WHATEVER THE INPUT: true; the input reads as it did. -/
def polyOpenedSpec : ChangeSpec := { name := "polyOpened", fn := fun _ => fun
  | [d1, d2, d3, d4, d5, d6] => { results := [.lit (.bool true)], args := [d1, d2, d3, d4, d5, d6] }
  | _ => none }
def polyOpenedRow : OpenClaim := { program := "ytkdghilkigojgaa", sum := "93575f1412768efd7f62e89abea6519bf97526374737e20c57cd356fb5cb25a9", func := "headend/headendlaw04.PolyOpened", spec := "polyOpened", unfollowed := true, recurses := true, apart := false }
def PolyOpenedSaid : Prop := polyOpenedRow.holds Try.pinned (OpenSpec.ofChange polyOpenedSpec)

/-- ITS FALSE NEIGHBOUR: 'it returns false'. Refute it at one input. -/
def polyOpenedWrong : ChangeSpec := { name := "polyOpened", fn := fun _ => fun
  | [d1, d2, d3, d4, d5, d6] => { results := [.lit (.bool false)], args := [d1, d2, d3, d4, d5, d6] }
  | _ => none }
def PolyOpenedWrongFalsely : Prop := polyOpenedRow.holds Try.pinned (OpenSpec.ofChange polyOpenedWrong)

/-- 'headendlaw04.PolyPunctured': WHATEVER THE INPUT: true; the input reads as it did. -/
def polyPuncturedSpec : ChangeSpec := { name := "polyPunctured", fn := fun _ => fun
  | [d1, d2, d3, d4] => { results := [.lit (.bool true)], args := [d1, d2, d3, d4] }
  | _ => none }
def polyPuncturedRow : OpenClaim := { program := "ytkdghilkigojgaa", sum := "93575f1412768efd7f62e89abea6519bf97526374737e20c57cd356fb5cb25a9", func := "headend/headendlaw04.PolyPunctured", spec := "polyPunctured", unfollowed := true, recurses := true, apart := false }
def PolyPuncturedSaid : Prop := polyPuncturedRow.holds Try.pinned (OpenSpec.ofChange polyPuncturedSpec)

/-- ITS FALSE NEIGHBOUR: 'it returns false'. Refute it at one input. -/
def polyPuncturedWrong : ChangeSpec := { name := "polyPunctured", fn := fun _ => fun
  | [d1, d2, d3, d4] => { results := [.lit (.bool false)], args := [d1, d2, d3, d4] }
  | _ => none }
def PolyPuncturedWrongFalsely : Prop := polyPuncturedRow.holds Try.pinned (OpenSpec.ofChange polyPuncturedWrong)

/-- 'headendlaw04.PolyAnyOrder': WHATEVER THE INPUT: true; the input reads as it did. -/
def polyAnyOrderSpec : ChangeSpec := { name := "polyAnyOrder", fn := fun _ => fun
  | [d1, d2, d3, d4, d5] => { results := [.lit (.bool true)], args := [d1, d2, d3, d4, d5] }
  | _ => none }
def polyAnyOrderRow : OpenClaim := { program := "ytkdghilkigojgaa", sum := "93575f1412768efd7f62e89abea6519bf97526374737e20c57cd356fb5cb25a9", func := "headend/headendlaw04.PolyAnyOrder", spec := "polyAnyOrder", unfollowed := true, recurses := true, apart := false }
def PolyAnyOrderSaid : Prop := polyAnyOrderRow.holds Try.pinned (OpenSpec.ofChange polyAnyOrderSpec)

/-- ITS FALSE NEIGHBOUR: 'it returns false'. Refute it at one input. -/
def polyAnyOrderWrong : ChangeSpec := { name := "polyAnyOrder", fn := fun _ => fun
  | [d1, d2, d3, d4, d5] => { results := [.lit (.bool false)], args := [d1, d2, d3, d4, d5] }
  | _ => none }
def PolyAnyOrderWrongFalsely : Prop := polyAnyOrderRow.holds Try.pinned (OpenSpec.ofChange polyAnyOrderWrong)

/-- 'headendlaw04.PolyLess': WHATEVER THE INPUT: true; the input reads as it did. -/
def polyLessSpec : ChangeSpec := { name := "polyLess", fn := fun _ => fun
  | [d1, d2, d3] => { results := [.lit (.bool true)], args := [d1, d2, d3] }
  | _ => none }
def polyLessRow : OpenClaim := { program := "ytkdghilkigojgaa", sum := "93575f1412768efd7f62e89abea6519bf97526374737e20c57cd356fb5cb25a9", func := "headend/headendlaw04.PolyLess", spec := "polyLess", unfollowed := true, recurses := true, apart := false }
def PolyLessSaid : Prop := polyLessRow.holds Try.pinned (OpenSpec.ofChange polyLessSpec)

/-- ITS FALSE NEIGHBOUR: 'it returns false'. Refute it at one input. -/
def polyLessWrong : ChangeSpec := { name := "polyLess", fn := fun _ => fun
  | [d1, d2, d3] => { results := [.lit (.bool false)], args := [d1, d2, d3] }
  | _ => none }
def PolyLessWrongFalsely : Prop := polyLessRow.holds Try.pinned (OpenSpec.ofChange polyLessWrong)

/-- 'headendlaw04.PolyShares': WHATEVER THE INPUT: true; the input reads as it did. -/
def polySharesSpec : ChangeSpec := { name := "polyShares", fn := fun _ => fun
  | [d1, d2, d3] => { results := [.lit (.bool true)], args := [d1, d2, d3] }
  | _ => none }
def polySharesRow : OpenClaim := { program := "ytkdghilkigojgaa", sum := "93575f1412768efd7f62e89abea6519bf97526374737e20c57cd356fb5cb25a9", func := "headend/headendlaw04.PolyShares", spec := "polyShares", unfollowed := true, recurses := true, apart := false }
def PolySharesSaid : Prop := polySharesRow.holds Try.pinned (OpenSpec.ofChange polySharesSpec)

/-- ITS FALSE NEIGHBOUR: 'it returns false'. Refute it at one input. -/
def polySharesWrong : ChangeSpec := { name := "polyShares", fn := fun _ => fun
  | [d1, d2, d3] => { results := [.lit (.bool false)], args := [d1, d2, d3] }
  | _ => none }
def PolySharesWrongFalsely : Prop := polySharesRow.holds Try.pinned (OpenSpec.ofChange polySharesWrong)

/-- 'headendlaw04.PolyHidden': WHATEVER THE INPUT: true; the input reads as it did. -/
def polyHiddenSpec : ChangeSpec := { name := "polyHidden", fn := fun _ => fun
  | [d1, d2, d3, d4, d5, d6, d7] => { results := [.lit (.bool true)], args := [d1, d2, d3, d4, d5, d6, d7] }
  | _ => none }
def polyHiddenRow : OpenClaim := { program := "ytkdghilkigojgaa", sum := "93575f1412768efd7f62e89abea6519bf97526374737e20c57cd356fb5cb25a9", func := "headend/headendlaw04.PolyHidden", spec := "polyHidden", unfollowed := true, recurses := true, apart := false }
def PolyHiddenSaid : Prop := polyHiddenRow.holds Try.pinned (OpenSpec.ofChange polyHiddenSpec)

/-- ITS FALSE NEIGHBOUR: 'it returns false'. Refute it at one input. -/
def polyHiddenWrong : ChangeSpec := { name := "polyHidden", fn := fun _ => fun
  | [d1, d2, d3, d4, d5, d6, d7] => { results := [.lit (.bool false)], args := [d1, d2, d3, d4, d5, d6, d7] }
  | _ => none }
def PolyHiddenWrongFalsely : Prop := polyHiddenRow.holds Try.pinned (OpenSpec.ofChange polyHiddenWrong)

/-- 'headendlaw04.PolyMask': WHATEVER THE INPUT: true; the input reads as it did. -/
def polyMaskSpec : ChangeSpec := { name := "polyMask", fn := fun _ => fun
  | [d1, d2, d3, d4, d5] => { results := [.lit (.bool true)], args := [d1, d2, d3, d4, d5] }
  | _ => none }
def polyMaskRow : OpenClaim := { program := "ytkdghilkigojgaa", sum := "93575f1412768efd7f62e89abea6519bf97526374737e20c57cd356fb5cb25a9", func := "headend/headendlaw04.PolyMask", spec := "polyMask", unfollowed := true, recurses := true, apart := false }
def PolyMaskSaid : Prop := polyMaskRow.holds Try.pinned (OpenSpec.ofChange polyMaskSpec)

/-- ITS FALSE NEIGHBOUR: 'it returns false'. Refute it at one input. -/
def polyMaskWrong : ChangeSpec := { name := "polyMask", fn := fun _ => fun
  | [d1, d2, d3, d4, d5] => { results := [.lit (.bool false)], args := [d1, d2, d3, d4, d5] }
  | _ => none }
def PolyMaskWrongFalsely : Prop := polyMaskRow.holds Try.pinned (OpenSpec.ofChange polyMaskWrong)

/- THE SECOND FORM. 'bulk': how many values and letters a reading holds, each counted each time it is reached (what is shared counts as often as it is met; a slice's spare places count too). A statement '..UptoSaid' is the law's where the arguments, and the package variables that the reading takes, are together of bulk at most 1048576: NARROWER than '..Said'. Prove '..Said' where nothing that the law and all that it calls make is longer than what came in: it says more and counts as full. Else prove '..UptoSaid'. A law counts once. -/
mutual
def uptoBulk {H : Type} : DataW H → Nat
  | .lit (.string bytes) => bytes.length + 1
  | .lit _ => 1
  | .nil => 1
  | .ptr d => uptoBulk d + 1
  | .slice elems spare => uptoBulkAll elems + uptoBulkAll spare + 1
  | .agg parts => uptoBulkAll parts + 1
  | .iface _ d => uptoBulk d + 1
  | .map entries => uptoBulkEntries entries + 1
  | .held _ => 1
def uptoBulkAll {H : Type} : List (DataW H) → Nat
  | [] => 0
  | d :: r => uptoBulk d + uptoBulkAll r
def uptoBulkEntries {H : Type} : List (Lit × DataW H) → Nat
  | [] => 0
  | x :: r => uptoBulkEntry x + uptoBulkEntries r
def uptoBulkEntry {H : Type} : Lit × DataW H → Nat
  | (.string bytes, d) => bytes.length + uptoBulk d + 1
  | (_, d) => uptoBulk d + 1
 end
def uptoSmall : (H : Type) → List (DataW H) → Bool := fun _ ds => decide (uptoBulkAll ds ≤ 1048576)
def OpenSpec.upto (s : _root_.Go.ChangeSpec) : _root_.Go.OpenSpec := { _root_.Go.OpenSpec.ofChange s with cond := some uptoSmall }

/-- 'headendlaw04.PolySecrets', WHERE WHAT IT READS IS OF BULK AT MOST 1048576: true; the input reads as it did. -/
def polySecretsUptoRow : OpenClaim := { program := "ytkdghilkigojgaa", sum := "93575f1412768efd7f62e89abea6519bf97526374737e20c57cd356fb5cb25a9", func := "headend/headendlaw04.PolySecrets", spec := "polySecrets", unfollowed := true, recurses := true, apart := false, narrowed := true }
def PolySecretsUptoSaid : Prop := polySecretsUptoRow.holds Try.pinned (OpenSpec.upto polySecretsSpec)

/-- 'headendlaw04.PolySeals', WHERE WHAT IT READS IS OF BULK AT MOST 1048576: true; the input reads as it did. -/
def polySealsUptoRow : OpenClaim := { program := "ytkdghilkigojgaa", sum := "93575f1412768efd7f62e89abea6519bf97526374737e20c57cd356fb5cb25a9", func := "headend/headendlaw04.PolySeals", spec := "polySeals", unfollowed := true, recurses := true, apart := false, narrowed := true }
def PolySealsUptoSaid : Prop := polySealsUptoRow.holds Try.pinned (OpenSpec.upto polySealsSpec)

/-- 'headendlaw04.PolyOpens', WHERE WHAT IT READS IS OF BULK AT MOST 1048576: true; the input reads as it did. -/
def polyOpensUptoRow : OpenClaim := { program := "ytkdghilkigojgaa", sum := "93575f1412768efd7f62e89abea6519bf97526374737e20c57cd356fb5cb25a9", func := "headend/headendlaw04.PolyOpens", spec := "polyOpens", unfollowed := true, recurses := true, apart := false, narrowed := true }
def PolyOpensUptoSaid : Prop := polyOpensUptoRow.holds Try.pinned (OpenSpec.upto polyOpensSpec)

/-- 'headendlaw04.PolyValues', WHERE WHAT IT READS IS OF BULK AT MOST 1048576: true; the input reads as it did. -/
def polyValuesUptoRow : OpenClaim := { program := "ytkdghilkigojgaa", sum := "93575f1412768efd7f62e89abea6519bf97526374737e20c57cd356fb5cb25a9", func := "headend/headendlaw04.PolyValues", spec := "polyValues", unfollowed := true, recurses := true, apart := false, narrowed := true }
def PolyValuesUptoSaid : Prop := polyValuesUptoRow.holds Try.pinned (OpenSpec.upto polyValuesSpec)

/-- 'headendlaw04.PolyPunctures', WHERE WHAT IT READS IS OF BULK AT MOST 1048576: true; the input reads as it did. -/
def polyPuncturesUptoRow : OpenClaim := { program := "ytkdghilkigojgaa", sum := "93575f1412768efd7f62e89abea6519bf97526374737e20c57cd356fb5cb25a9", func := "headend/headendlaw04.PolyPunctures", spec := "polyPunctures", unfollowed := true, recurses := true, apart := false, narrowed := true }
def PolyPuncturesUptoSaid : Prop := polyPuncturesUptoRow.holds Try.pinned (OpenSpec.upto polyPuncturesSpec)

/-- 'headendlaw04.PolyExamples', WHERE WHAT IT READS IS OF BULK AT MOST 1048576: true; the input reads as it did. -/
def polyExamplesUptoRow : OpenClaim := { program := "ytkdghilkigojgaa", sum := "93575f1412768efd7f62e89abea6519bf97526374737e20c57cd356fb5cb25a9", func := "headend/headendlaw04.PolyExamples", spec := "polyExamples", unfollowed := true, recurses := true, apart := false, narrowed := true }
def PolyExamplesUptoSaid : Prop := polyExamplesUptoRow.holds Try.pinned (OpenSpec.upto polyExamplesSpec)

/-- 'headendlaw04.PolyLie', WHERE WHAT IT READS IS OF BULK AT MOST 1048576: true; the input reads as it did. -/
def polyLieUptoRow : OpenClaim := { program := "ytkdghilkigojgaa", sum := "93575f1412768efd7f62e89abea6519bf97526374737e20c57cd356fb5cb25a9", func := "headend/headendlaw04.PolyLie", spec := "polyLie", unfollowed := true, recurses := true, apart := false, narrowed := true }
def PolyLieUptoSaid : Prop := polyLieUptoRow.holds Try.pinned (OpenSpec.upto polyLieSpec)

/-- 'headendlaw04.PolyOne', WHERE WHAT IT READS IS OF BULK AT MOST 1048576: true; the input reads as it did. -/
def polyOneUptoRow : OpenClaim := { program := "ytkdghilkigojgaa", sum := "93575f1412768efd7f62e89abea6519bf97526374737e20c57cd356fb5cb25a9", func := "headend/headendlaw04.PolyOne", spec := "polyOne", unfollowed := true, recurses := true, apart := false, narrowed := true }
def PolyOneUptoSaid : Prop := polyOneUptoRow.holds Try.pinned (OpenSpec.upto polyOneSpec)

/-- 'headendlaw04.PolyOpened', WHERE WHAT IT READS IS OF BULK AT MOST 1048576: true; the input reads as it did. -/
def polyOpenedUptoRow : OpenClaim := { program := "ytkdghilkigojgaa", sum := "93575f1412768efd7f62e89abea6519bf97526374737e20c57cd356fb5cb25a9", func := "headend/headendlaw04.PolyOpened", spec := "polyOpened", unfollowed := true, recurses := true, apart := false, narrowed := true }
def PolyOpenedUptoSaid : Prop := polyOpenedUptoRow.holds Try.pinned (OpenSpec.upto polyOpenedSpec)

/-- 'headendlaw04.PolyPunctured', WHERE WHAT IT READS IS OF BULK AT MOST 1048576: true; the input reads as it did. -/
def polyPuncturedUptoRow : OpenClaim := { program := "ytkdghilkigojgaa", sum := "93575f1412768efd7f62e89abea6519bf97526374737e20c57cd356fb5cb25a9", func := "headend/headendlaw04.PolyPunctured", spec := "polyPunctured", unfollowed := true, recurses := true, apart := false, narrowed := true }
def PolyPuncturedUptoSaid : Prop := polyPuncturedUptoRow.holds Try.pinned (OpenSpec.upto polyPuncturedSpec)

/-- 'headendlaw04.PolyAnyOrder', WHERE WHAT IT READS IS OF BULK AT MOST 1048576: true; the input reads as it did. -/
def polyAnyOrderUptoRow : OpenClaim := { program := "ytkdghilkigojgaa", sum := "93575f1412768efd7f62e89abea6519bf97526374737e20c57cd356fb5cb25a9", func := "headend/headendlaw04.PolyAnyOrder", spec := "polyAnyOrder", unfollowed := true, recurses := true, apart := false, narrowed := true }
def PolyAnyOrderUptoSaid : Prop := polyAnyOrderUptoRow.holds Try.pinned (OpenSpec.upto polyAnyOrderSpec)

/-- 'headendlaw04.PolyLess', WHERE WHAT IT READS IS OF BULK AT MOST 1048576: true; the input reads as it did. -/
def polyLessUptoRow : OpenClaim := { program := "ytkdghilkigojgaa", sum := "93575f1412768efd7f62e89abea6519bf97526374737e20c57cd356fb5cb25a9", func := "headend/headendlaw04.PolyLess", spec := "polyLess", unfollowed := true, recurses := true, apart := false, narrowed := true }
def PolyLessUptoSaid : Prop := polyLessUptoRow.holds Try.pinned (OpenSpec.upto polyLessSpec)

/-- 'headendlaw04.PolyShares', WHERE WHAT IT READS IS OF BULK AT MOST 1048576: true; the input reads as it did. -/
def polySharesUptoRow : OpenClaim := { program := "ytkdghilkigojgaa", sum := "93575f1412768efd7f62e89abea6519bf97526374737e20c57cd356fb5cb25a9", func := "headend/headendlaw04.PolyShares", spec := "polyShares", unfollowed := true, recurses := true, apart := false, narrowed := true }
def PolySharesUptoSaid : Prop := polySharesUptoRow.holds Try.pinned (OpenSpec.upto polySharesSpec)

/-- 'headendlaw04.PolyHidden', WHERE WHAT IT READS IS OF BULK AT MOST 1048576: true; the input reads as it did. -/
def polyHiddenUptoRow : OpenClaim := { program := "ytkdghilkigojgaa", sum := "93575f1412768efd7f62e89abea6519bf97526374737e20c57cd356fb5cb25a9", func := "headend/headendlaw04.PolyHidden", spec := "polyHidden", unfollowed := true, recurses := true, apart := false, narrowed := true }
def PolyHiddenUptoSaid : Prop := polyHiddenUptoRow.holds Try.pinned (OpenSpec.upto polyHiddenSpec)

/-- 'headendlaw04.PolyMask', WHERE WHAT IT READS IS OF BULK AT MOST 1048576: true; the input reads as it did. -/
def polyMaskUptoRow : OpenClaim := { program := "ytkdghilkigojgaa", sum := "93575f1412768efd7f62e89abea6519bf97526374737e20c57cd356fb5cb25a9", func := "headend/headendlaw04.PolyMask", spec := "polyMask", unfollowed := true, recurses := true, apart := false, narrowed := true }
def PolyMaskUptoSaid : Prop := polyMaskUptoRow.holds Try.pinned (OpenSpec.upto polyMaskSpec)

end Rows
end Go.Proofs.Ytkdghilkigojgaa
