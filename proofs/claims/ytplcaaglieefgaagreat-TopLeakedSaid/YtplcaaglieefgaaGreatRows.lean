/-
  No cell of these rows narrows 'for every input' (looked for: loops, veiled, ifaces, maps, wideKeys, modest, calm, conditions, laid).
  DERIVED. THE GIVEN ROWS OF THIS SEAT. 5 by the template 'for every input the law returns true; each argument reads behind the call as it read before'; 0 by the template 'total and deterministic' (their statements: YtplcaaglieefgaaGreatTotals.lean).
  GIVEN WITH THE SEED: the statements are not yours to turn. If you find one false, say at which input.
  Laid BY PROGRAM, IN A SANDBOX (cutbox-rows.mjs): the forced cells as the released guide's own fill.sh prints them over the translation a2f9c6b39e4f7a99… (all of the seat's roots in one cut). By AI agents, Wed Nov 11 2026. No macro, syntax, notation, axiom, sorry.
-/
import Derived.Test.YtplcaaglieefgaaGreatChecked
import GoSem.Claim
import GoSem.ClaimJoined
import GoSem.ClaimMapViews
import Derived.JoinedTies
import Derived.KernelRfl
namespace Go.Proofs.YtplcaaglieefgaaGreat
/- THE CELL 'sum', in the pinned program and in every row, IS THE sha256 OF THE DUMP (.gsa) THAT YtplcaaglieefgaaGreatProg.lean LOADS. Nothing in Lean hashes anything: it is a label: what it is worth is what the hold of that sum in a sandbox is worth. -/
noncomputable def Tryz.pinned : Pinned := { name := "ytplcaaglieefgaagreat", sum := "a2f9c6b39e4f7a99b8a4edace509cca99a54424b8197e18a23d57e0ade2f3d1a", checked := Tryz.checked }
namespace Rows
def none {H : Type} : Left H := { results := [], args := [] }

/-- 'headendtop.TopPlanned': WHATEVER THE INPUT: true; the input reads as it did. -/
def topPlannedSpec : ChangeSpec := { name := "topPlanned", fn := fun _ => fun
  | [d1, d2, d3, d4, d5, d6] => { results := [.lit (.bool true)], args := [d1, d2, d3, d4, d5, d6] }
  | _ => none }
def topPlannedRow : OpenClaim := { program := "ytplcaaglieefgaagreat", sum := "a2f9c6b39e4f7a99b8a4edace509cca99a54424b8197e18a23d57e0ade2f3d1a", func := "headend/headendtop.TopPlanned", spec := "topPlanned", unfollowed := true, recurses := true, apart := false }
def TopPlannedSaid : Prop := topPlannedRow.holds Tryz.pinned (OpenSpec.ofChange topPlannedSpec)

/-- ITS FALSE NEIGHBOUR: 'it returns false'. Refute it at one input. -/
def topPlannedWrong : ChangeSpec := { name := "topPlanned", fn := fun _ => fun
  | [d1, d2, d3, d4, d5, d6] => { results := [.lit (.bool false)], args := [d1, d2, d3, d4, d5, d6] }
  | _ => none }
def TopPlannedWrongFalsely : Prop := topPlannedRow.holds Tryz.pinned (OpenSpec.ofChange topPlannedWrong)

/-- 'headendtop.TopLeaked': WHATEVER THE INPUT: true; the input reads as it did. -/
def topLeakedSpec : ChangeSpec := { name := "topLeaked", fn := fun _ => fun
  | [d1, d2, d3, d4, d5, d6, d7, d8] => { results := [.lit (.bool true)], args := [d1, d2, d3, d4, d5, d6, d7, d8] }
  | _ => none }
def topLeakedRow : OpenClaim := { program := "ytplcaaglieefgaagreat", sum := "a2f9c6b39e4f7a99b8a4edace509cca99a54424b8197e18a23d57e0ade2f3d1a", func := "headend/headendtop.TopLeaked", spec := "topLeaked", unfollowed := true, recurses := true, named := ["math/bits.overflowError"], apart := false }
def TopLeakedSaid : Prop := topLeakedRow.holds Tryz.pinned (OpenSpec.ofChange topLeakedSpec)

/-- ITS FALSE NEIGHBOUR: 'it returns false'. Refute it at one input. -/
def topLeakedWrong : ChangeSpec := { name := "topLeaked", fn := fun _ => fun
  | [d1, d2, d3, d4, d5, d6, d7, d8] => { results := [.lit (.bool false)], args := [d1, d2, d3, d4, d5, d6, d7, d8] }
  | _ => none }
def TopLeakedWrongFalsely : Prop := topLeakedRow.holds Tryz.pinned (OpenSpec.ofChange topLeakedWrong)

/-- 'headendlaw05.EpochSends': WHATEVER THE INPUT: true; the input reads as it did. -/
def epochSendsSpec : ChangeSpec := { name := "epochSends", fn := fun _ => fun
  | [d1, d2, d3, d4, d5, d6, d7, d8] => { results := [.lit (.bool true)], args := [d1, d2, d3, d4, d5, d6, d7, d8] }
  | _ => none }
def epochSendsRow : OpenClaim := { program := "ytplcaaglieefgaagreat", sum := "a2f9c6b39e4f7a99b8a4edace509cca99a54424b8197e18a23d57e0ade2f3d1a", func := "headend/headendlaw05.EpochSends", spec := "epochSends", unfollowed := true, recurses := true, apart := false }
def EpochSendsSaid : Prop := epochSendsRow.holds Tryz.pinned (OpenSpec.ofChange epochSendsSpec)

/-- ITS FALSE NEIGHBOUR: 'it returns false'. Refute it at one input. -/
def epochSendsWrong : ChangeSpec := { name := "epochSends", fn := fun _ => fun
  | [d1, d2, d3, d4, d5, d6, d7, d8] => { results := [.lit (.bool false)], args := [d1, d2, d3, d4, d5, d6, d7, d8] }
  | _ => none }
def EpochSendsWrongFalsely : Prop := epochSendsRow.holds Tryz.pinned (OpenSpec.ofChange epochSendsWrong)

/-- 'headendlaw05.EpochTakes': WHATEVER THE INPUT: true; the input reads as it did. -/
def epochTakesSpec : ChangeSpec := { name := "epochTakes", fn := fun _ => fun
  | [d1, d2, d3, d4, d5, d6] => { results := [.lit (.bool true)], args := [d1, d2, d3, d4, d5, d6] }
  | _ => none }
def epochTakesRow : OpenClaim := { program := "ytplcaaglieefgaagreat", sum := "a2f9c6b39e4f7a99b8a4edace509cca99a54424b8197e18a23d57e0ade2f3d1a", func := "headend/headendlaw05.EpochTakes", spec := "epochTakes", unfollowed := true, recurses := true, apart := false }
def EpochTakesSaid : Prop := epochTakesRow.holds Tryz.pinned (OpenSpec.ofChange epochTakesSpec)

/-- ITS FALSE NEIGHBOUR: 'it returns false'. Refute it at one input. -/
def epochTakesWrong : ChangeSpec := { name := "epochTakes", fn := fun _ => fun
  | [d1, d2, d3, d4, d5, d6] => { results := [.lit (.bool false)], args := [d1, d2, d3, d4, d5, d6] }
  | _ => none }
def EpochTakesWrongFalsely : Prop := epochTakesRow.holds Tryz.pinned (OpenSpec.ofChange epochTakesWrong)

/-- 'headendlaw05.EpochExamples': WHATEVER THE INPUT: true; the input reads as it did. -/
def epochExamplesSpec : ChangeSpec := { name := "epochExamples", fn := fun _ => fun
  | [] => { results := [.lit (.bool true)], args := [] }
  | _ => none }
def epochExamplesRow : OpenClaim := { program := "ytplcaaglieefgaagreat", sum := "a2f9c6b39e4f7a99b8a4edace509cca99a54424b8197e18a23d57e0ade2f3d1a", func := "headend/headendlaw05.EpochExamples", spec := "epochExamples", unfollowed := true, recurses := true, apart := false }
def EpochExamplesSaid : Prop := epochExamplesRow.holds Tryz.pinned (OpenSpec.ofChange epochExamplesSpec)

/-- ITS FALSE NEIGHBOUR: 'it returns false'. Refute it at one input. -/
def epochExamplesWrong : ChangeSpec := { name := "epochExamples", fn := fun _ => fun
  | [] => { results := [.lit (.bool false)], args := [] }
  | _ => none }
def EpochExamplesWrongFalsely : Prop := epochExamplesRow.holds Tryz.pinned (OpenSpec.ofChange epochExamplesWrong)

/- THE SECOND FORM. 'bulk': how many values and letters a reading holds, each counted each time it is reached (what is shared counts as often as it is met; a slice's spare places count too). A statement '..UptoSaid' is the law's where the arguments, and the package variables that the reading takes, are together of bulk at most 1048576: NARROWER than '..Said'. Prove '..Said' where nothing that the law and all that it calls make is longer than what came in: it says more and counts as full. Else prove '..UptoSaid'. A law counts once. -/
mutual
def uptoBulk {H : Type} : DataW H → Nat
  | .lit (.string bytes) => bytes.length + 1
  | .lit _ => 1
  | .nil => 1
  | .ptr d => uptoBulk d + 1
  | .slice elems spare => uptoBulkAll elems + uptoBulkAll spare + 1
  | .agg parts => uptoBulkAll parts + 1
  | .iface _ d => uptoBulk d + 1
  | .map entries => uptoBulkEntries entries + 1
  | .held _ => 1
def uptoBulkAll {H : Type} : List (DataW H) → Nat
  | [] => 0
  | d :: r => uptoBulk d + uptoBulkAll r
def uptoBulkEntries {H : Type} : List (Lit × DataW H) → Nat
  | [] => 0
  | x :: r => uptoBulkEntry x + uptoBulkEntries r
def uptoBulkEntry {H : Type} : Lit × DataW H → Nat
  | (.string bytes, d) => bytes.length + uptoBulk d + 1
  | (_, d) => uptoBulk d + 1
 end
def uptoSmall : (H : Type) → List (DataW H) → Bool := fun _ ds => decide (uptoBulkAll ds ≤ 1048576)
def OpenSpec.upto (s : _root_.Go.ChangeSpec) : _root_.Go.OpenSpec := { _root_.Go.OpenSpec.ofChange s with cond := some uptoSmall }

/-- 'headendtop.TopPlanned', WHERE WHAT IT READS IS OF BULK AT MOST 1048576: true; the input reads as it did. -/
def topPlannedUptoRow : OpenClaim := { program := "ytplcaaglieefgaagreat", sum := "a2f9c6b39e4f7a99b8a4edace509cca99a54424b8197e18a23d57e0ade2f3d1a", func := "headend/headendtop.TopPlanned", spec := "topPlanned", unfollowed := true, recurses := true, apart := false, narrowed := true }
def TopPlannedUptoSaid : Prop := topPlannedUptoRow.holds Tryz.pinned (OpenSpec.upto topPlannedSpec)

/-- 'headendtop.TopLeaked', WHERE WHAT IT READS IS OF BULK AT MOST 1048576: true; the input reads as it did. -/
def topLeakedUptoRow : OpenClaim := { program := "ytplcaaglieefgaagreat", sum := "a2f9c6b39e4f7a99b8a4edace509cca99a54424b8197e18a23d57e0ade2f3d1a", func := "headend/headendtop.TopLeaked", spec := "topLeaked", unfollowed := true, recurses := true, named := ["math/bits.overflowError"], apart := false, narrowed := true }
def TopLeakedUptoSaid : Prop := topLeakedUptoRow.holds Tryz.pinned (OpenSpec.upto topLeakedSpec)

/-- 'headendlaw05.EpochSends', WHERE WHAT IT READS IS OF BULK AT MOST 1048576: true; the input reads as it did. -/
def epochSendsUptoRow : OpenClaim := { program := "ytplcaaglieefgaagreat", sum := "a2f9c6b39e4f7a99b8a4edace509cca99a54424b8197e18a23d57e0ade2f3d1a", func := "headend/headendlaw05.EpochSends", spec := "epochSends", unfollowed := true, recurses := true, apart := false, narrowed := true }
def EpochSendsUptoSaid : Prop := epochSendsUptoRow.holds Tryz.pinned (OpenSpec.upto epochSendsSpec)

/-- 'headendlaw05.EpochTakes', WHERE WHAT IT READS IS OF BULK AT MOST 1048576: true; the input reads as it did. -/
def epochTakesUptoRow : OpenClaim := { program := "ytplcaaglieefgaagreat", sum := "a2f9c6b39e4f7a99b8a4edace509cca99a54424b8197e18a23d57e0ade2f3d1a", func := "headend/headendlaw05.EpochTakes", spec := "epochTakes", unfollowed := true, recurses := true, apart := false, narrowed := true }
def EpochTakesUptoSaid : Prop := epochTakesUptoRow.holds Tryz.pinned (OpenSpec.upto epochTakesSpec)

/-- 'headendlaw05.EpochExamples', WHERE WHAT IT READS IS OF BULK AT MOST 1048576: true; the input reads as it did. -/
def epochExamplesUptoRow : OpenClaim := { program := "ytplcaaglieefgaagreat", sum := "a2f9c6b39e4f7a99b8a4edace509cca99a54424b8197e18a23d57e0ade2f3d1a", func := "headend/headendlaw05.EpochExamples", spec := "epochExamples", unfollowed := true, recurses := true, apart := false, narrowed := true }
def EpochExamplesUptoSaid : Prop := epochExamplesUptoRow.holds Tryz.pinned (OpenSpec.upto epochExamplesSpec)

end Rows
end Go.Proofs.YtplcaaglieefgaaGreat
