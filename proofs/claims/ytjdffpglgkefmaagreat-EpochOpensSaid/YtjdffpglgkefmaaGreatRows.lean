/-
  No cell of these rows narrows 'for every input' (looked for: loops, veiled, ifaces, maps, wideKeys, modest, calm, conditions, laid).
  DERIVED. THE GIVEN ROWS OF THIS SEAT. 10 by the template 'for every input the law returns true; each argument reads behind the call as it read before'; 0 by the template 'total and deterministic' (their statements: YtjdffpglgkefmaaGreatTotals.lean).
  GIVEN WITH THE SEED: the statements are not yours to turn. If you find one false, say at which input.
  Laid BY PROGRAM, IN A SANDBOX (cutbox-rows.mjs): the forced cells as the released guide's own fill.sh prints them over the translation f6063e7bcd65e03c… (all of the seat's roots in one cut). By AI agents, Wed Nov 11 2026. No macro, syntax, notation, axiom, sorry.
-/
import Derived.Test.YtjdffpglgkefmaaGreatChecked
import GoSem.Claim
import GoSem.ClaimJoined
import GoSem.ClaimMapViews
import Derived.JoinedTies
import Derived.KernelRfl
namespace Go.Proofs.YtjdffpglgkefmaaGreat
/- THE CELL 'sum', in the pinned program and in every row, IS THE sha256 OF THE DUMP (.gsa) THAT YtjdffpglgkefmaaGreatProg.lean LOADS. Nothing in Lean hashes anything: it is a label: what it is worth is what the hold of that sum in a sandbox is worth. -/
noncomputable def Tryz.pinned : Pinned := { name := "ytjdffpglgkefmaagreat", sum := "f6063e7bcd65e03c714736ffc6d66c50aa567de4495b6ade6f468296e24a111a", checked := Tryz.checked }
namespace Rows
def none {H : Type} : Left H := { results := [], args := [] }

/-- 'headendlaw05.EpochKeys': WHATEVER THE INPUT: true; the input reads as it did. -/
def epochKeysSpec : ChangeSpec := { name := "epochKeys", fn := fun _ => fun
  | [d1, d2, d3, d4] => { results := [.lit (.bool true)], args := [d1, d2, d3, d4] }
  | _ => none }
def epochKeysRow : OpenClaim := { program := "ytjdffpglgkefmaagreat", sum := "f6063e7bcd65e03c714736ffc6d66c50aa567de4495b6ade6f468296e24a111a", func := "headend/headendlaw05.EpochKeys", spec := "epochKeys", unfollowed := true, recurses := true, apart := false }
def EpochKeysSaid : Prop := epochKeysRow.holds Tryz.pinned (OpenSpec.ofChange epochKeysSpec)

/-- ITS FALSE NEIGHBOUR: 'it returns false'. Refute it at one input. -/
def epochKeysWrong : ChangeSpec := { name := "epochKeys", fn := fun _ => fun
  | [d1, d2, d3, d4] => { results := [.lit (.bool false)], args := [d1, d2, d3, d4] }
  | _ => none }
def EpochKeysWrongFalsely : Prop := epochKeysRow.holds Tryz.pinned (OpenSpec.ofChange epochKeysWrong)

/-- 'headendlaw05.EpochSeals': WHATEVER THE INPUT: true; the input reads as it did. -/
def epochSealsSpec : ChangeSpec := { name := "epochSeals", fn := fun _ => fun
  | [d1, d2, d3, d4, d5, d6] => { results := [.lit (.bool true)], args := [d1, d2, d3, d4, d5, d6] }
  | _ => none }
def epochSealsRow : OpenClaim := { program := "ytjdffpglgkefmaagreat", sum := "f6063e7bcd65e03c714736ffc6d66c50aa567de4495b6ade6f468296e24a111a", func := "headend/headendlaw05.EpochSeals", spec := "epochSeals", unfollowed := true, recurses := true, apart := false }
def EpochSealsSaid : Prop := epochSealsRow.holds Tryz.pinned (OpenSpec.ofChange epochSealsSpec)

/-- ITS FALSE NEIGHBOUR: 'it returns false'. Refute it at one input. -/
def epochSealsWrong : ChangeSpec := { name := "epochSeals", fn := fun _ => fun
  | [d1, d2, d3, d4, d5, d6] => { results := [.lit (.bool false)], args := [d1, d2, d3, d4, d5, d6] }
  | _ => none }
def EpochSealsWrongFalsely : Prop := epochSealsRow.holds Tryz.pinned (OpenSpec.ofChange epochSealsWrong)

/-- 'headendlaw05.EpochSends': WHATEVER THE INPUT: true; the input reads as it did. -/
def epochSendsSpec : ChangeSpec := { name := "epochSends", fn := fun _ => fun
  | [d1, d2, d3, d4, d5, d6, d7, d8] => { results := [.lit (.bool true)], args := [d1, d2, d3, d4, d5, d6, d7, d8] }
  | _ => none }
def epochSendsRow : OpenClaim := { program := "ytjdffpglgkefmaagreat", sum := "f6063e7bcd65e03c714736ffc6d66c50aa567de4495b6ade6f468296e24a111a", func := "headend/headendlaw05.EpochSends", spec := "epochSends", unfollowed := true, recurses := true, apart := false }
def EpochSendsSaid : Prop := epochSendsRow.holds Tryz.pinned (OpenSpec.ofChange epochSendsSpec)

/-- ITS FALSE NEIGHBOUR: 'it returns false'. Refute it at one input. -/
def epochSendsWrong : ChangeSpec := { name := "epochSends", fn := fun _ => fun
  | [d1, d2, d3, d4, d5, d6, d7, d8] => { results := [.lit (.bool false)], args := [d1, d2, d3, d4, d5, d6, d7, d8] }
  | _ => none }
def EpochSendsWrongFalsely : Prop := epochSendsRow.holds Tryz.pinned (OpenSpec.ofChange epochSendsWrong)

/-- 'headendlaw05.EpochTakes': WHATEVER THE INPUT: true; the input reads as it did. -/
def epochTakesSpec : ChangeSpec := { name := "epochTakes", fn := fun _ => fun
  | [d1, d2, d3, d4, d5, d6] => { results := [.lit (.bool true)], args := [d1, d2, d3, d4, d5, d6] }
  | _ => none }
def epochTakesRow : OpenClaim := { program := "ytjdffpglgkefmaagreat", sum := "f6063e7bcd65e03c714736ffc6d66c50aa567de4495b6ade6f468296e24a111a", func := "headend/headendlaw05.EpochTakes", spec := "epochTakes", unfollowed := true, recurses := true, apart := false }
def EpochTakesSaid : Prop := epochTakesRow.holds Tryz.pinned (OpenSpec.ofChange epochTakesSpec)

/-- ITS FALSE NEIGHBOUR: 'it returns false'. Refute it at one input. -/
def epochTakesWrong : ChangeSpec := { name := "epochTakes", fn := fun _ => fun
  | [d1, d2, d3, d4, d5, d6] => { results := [.lit (.bool false)], args := [d1, d2, d3, d4, d5, d6] }
  | _ => none }
def EpochTakesWrongFalsely : Prop := epochTakesRow.holds Tryz.pinned (OpenSpec.ofChange epochTakesWrong)

/-- 'headendlaw05.EpochRight': WHATEVER THE INPUT: true; the input reads as it did. -/
def epochRightSpec : ChangeSpec := { name := "epochRight", fn := fun _ => fun
  | [d1, d2, d3, d4] => { results := [.lit (.bool true)], args := [d1, d2, d3, d4] }
  | _ => none }
def epochRightRow : OpenClaim := { program := "ytjdffpglgkefmaagreat", sum := "f6063e7bcd65e03c714736ffc6d66c50aa567de4495b6ade6f468296e24a111a", func := "headend/headendlaw05.EpochRight", spec := "epochRight", unfollowed := true, recurses := true, apart := false }
def EpochRightSaid : Prop := epochRightRow.holds Tryz.pinned (OpenSpec.ofChange epochRightSpec)

/-- ITS FALSE NEIGHBOUR: 'it returns false'. Refute it at one input. -/
def epochRightWrong : ChangeSpec := { name := "epochRight", fn := fun _ => fun
  | [d1, d2, d3, d4] => { results := [.lit (.bool false)], args := [d1, d2, d3, d4] }
  | _ => none }
def EpochRightWrongFalsely : Prop := epochRightRow.holds Tryz.pinned (OpenSpec.ofChange epochRightWrong)

/-- 'headendlaw05.EpochWindow': WHATEVER THE INPUT: true; the input reads as it did. -/
def epochWindowSpec : ChangeSpec := { name := "epochWindow", fn := fun _ => fun
  | [d1, d2, d3, d4, d5] => { results := [.lit (.bool true)], args := [d1, d2, d3, d4, d5] }
  | _ => none }
def epochWindowRow : OpenClaim := { program := "ytjdffpglgkefmaagreat", sum := "f6063e7bcd65e03c714736ffc6d66c50aa567de4495b6ade6f468296e24a111a", func := "headend/headendlaw05.EpochWindow", spec := "epochWindow", unfollowed := true, recurses := true, apart := false }
def EpochWindowSaid : Prop := epochWindowRow.holds Tryz.pinned (OpenSpec.ofChange epochWindowSpec)

/-- ITS FALSE NEIGHBOUR: 'it returns false'. Refute it at one input. -/
def epochWindowWrong : ChangeSpec := { name := "epochWindow", fn := fun _ => fun
  | [d1, d2, d3, d4, d5] => { results := [.lit (.bool false)], args := [d1, d2, d3, d4, d5] }
  | _ => none }
def EpochWindowWrongFalsely : Prop := epochWindowRow.holds Tryz.pinned (OpenSpec.ofChange epochWindowWrong)

/-- 'headendlaw05.EpochChosen': WHATEVER THE INPUT: true; the input reads as it did. -/
def epochChosenSpec : ChangeSpec := { name := "epochChosen", fn := fun _ => fun
  | [d1, d2, d3, d4, d5] => { results := [.lit (.bool true)], args := [d1, d2, d3, d4, d5] }
  | _ => none }
def epochChosenRow : OpenClaim := { program := "ytjdffpglgkefmaagreat", sum := "f6063e7bcd65e03c714736ffc6d66c50aa567de4495b6ade6f468296e24a111a", func := "headend/headendlaw05.EpochChosen", spec := "epochChosen", unfollowed := true, recurses := true, apart := false }
def EpochChosenSaid : Prop := epochChosenRow.holds Tryz.pinned (OpenSpec.ofChange epochChosenSpec)

/-- ITS FALSE NEIGHBOUR: 'it returns false'. Refute it at one input. -/
def epochChosenWrong : ChangeSpec := { name := "epochChosen", fn := fun _ => fun
  | [d1, d2, d3, d4, d5] => { results := [.lit (.bool false)], args := [d1, d2, d3, d4, d5] }
  | _ => none }
def EpochChosenWrongFalsely : Prop := epochChosenRow.holds Tryz.pinned (OpenSpec.ofChange epochChosenWrong)

/-- 'headendlaw05.EpochOpens': WHATEVER THE INPUT: true; the input reads as it did. -/
def epochOpensSpec : ChangeSpec := { name := "epochOpens", fn := fun _ => fun
  | [d1, d2, d3, d4, d5] => { results := [.lit (.bool true)], args := [d1, d2, d3, d4, d5] }
  | _ => none }
def epochOpensRow : OpenClaim := { program := "ytjdffpglgkefmaagreat", sum := "f6063e7bcd65e03c714736ffc6d66c50aa567de4495b6ade6f468296e24a111a", func := "headend/headendlaw05.EpochOpens", spec := "epochOpens", unfollowed := true, recurses := true, apart := false }
def EpochOpensSaid : Prop := epochOpensRow.holds Tryz.pinned (OpenSpec.ofChange epochOpensSpec)

/-- ITS FALSE NEIGHBOUR: 'it returns false'. Refute it at one input. -/
def epochOpensWrong : ChangeSpec := { name := "epochOpens", fn := fun _ => fun
  | [d1, d2, d3, d4, d5] => { results := [.lit (.bool false)], args := [d1, d2, d3, d4, d5] }
  | _ => none }
def EpochOpensWrongFalsely : Prop := epochOpensRow.holds Tryz.pinned (OpenSpec.ofChange epochOpensWrong)

/-- 'headendlaw05.EpochExamples': WHATEVER THE INPUT: true; the input reads as it did. -/
def epochExamplesSpec : ChangeSpec := { name := "epochExamples", fn := fun _ => fun
  | [] => { results := [.lit (.bool true)], args := [] }
  | _ => none }
def epochExamplesRow : OpenClaim := { program := "ytjdffpglgkefmaagreat", sum := "f6063e7bcd65e03c714736ffc6d66c50aa567de4495b6ade6f468296e24a111a", func := "headend/headendlaw05.EpochExamples", spec := "epochExamples", unfollowed := true, recurses := true, apart := false }
def EpochExamplesSaid : Prop := epochExamplesRow.holds Tryz.pinned (OpenSpec.ofChange epochExamplesSpec)

/-- ITS FALSE NEIGHBOUR: 'it returns false'. Refute it at one input. -/
def epochExamplesWrong : ChangeSpec := { name := "epochExamples", fn := fun _ => fun
  | [] => { results := [.lit (.bool false)], args := [] }
  | _ => none }
def EpochExamplesWrongFalsely : Prop := epochExamplesRow.holds Tryz.pinned (OpenSpec.ofChange epochExamplesWrong)

/-- 'headendlaw05.EpochBack': WHATEVER THE INPUT: true; the input reads as it did. -/
def epochBackSpec : ChangeSpec := { name := "epochBack", fn := fun _ => fun
  | [d1, d2, d3] => { results := [.lit (.bool true)], args := [d1, d2, d3] }
  | _ => none }
def epochBackRow : OpenClaim := { program := "ytjdffpglgkefmaagreat", sum := "f6063e7bcd65e03c714736ffc6d66c50aa567de4495b6ade6f468296e24a111a", func := "headend/headendlaw05.EpochBack", spec := "epochBack", unfollowed := true, recurses := true, apart := false }
def EpochBackSaid : Prop := epochBackRow.holds Tryz.pinned (OpenSpec.ofChange epochBackSpec)

/-- ITS FALSE NEIGHBOUR: 'it returns false'. Refute it at one input. -/
def epochBackWrong : ChangeSpec := { name := "epochBack", fn := fun _ => fun
  | [d1, d2, d3] => { results := [.lit (.bool false)], args := [d1, d2, d3] }
  | _ => none }
def EpochBackWrongFalsely : Prop := epochBackRow.holds Tryz.pinned (OpenSpec.ofChange epochBackWrong)

/- THE SECOND FORM. 'bulk': how many values and letters a reading holds, each counted each time it is reached (what is shared counts as often as it is met; a slice's spare places count too). A statement '..UptoSaid' is the law's where the arguments, and the package variables that the reading takes, are together of bulk at most 1048576: NARROWER than '..Said'. Prove '..Said' where nothing that the law and all that it calls make is longer than what came in: it says more and counts as full. Else prove '..UptoSaid'. A law counts once. -/
mutual
def uptoBulk {H : Type} : DataW H → Nat
  | .lit (.string bytes) => bytes.length + 1
  | .lit _ => 1
  | .nil => 1
  | .ptr d => uptoBulk d + 1
  | .slice elems spare => uptoBulkAll elems + uptoBulkAll spare + 1
  | .agg parts => uptoBulkAll parts + 1
  | .iface _ d => uptoBulk d + 1
  | .map entries => uptoBulkEntries entries + 1
  | .held _ => 1
def uptoBulkAll {H : Type} : List (DataW H) → Nat
  | [] => 0
  | d :: r => uptoBulk d + uptoBulkAll r
def uptoBulkEntries {H : Type} : List (Lit × DataW H) → Nat
  | [] => 0
  | x :: r => uptoBulkEntry x + uptoBulkEntries r
def uptoBulkEntry {H : Type} : Lit × DataW H → Nat
  | (.string bytes, d) => bytes.length + uptoBulk d + 1
  | (_, d) => uptoBulk d + 1
 end
def uptoSmall : (H : Type) → List (DataW H) → Bool := fun _ ds => decide (uptoBulkAll ds ≤ 1048576)
def OpenSpec.upto (s : _root_.Go.ChangeSpec) : _root_.Go.OpenSpec := { _root_.Go.OpenSpec.ofChange s with cond := some uptoSmall }

/-- 'headendlaw05.EpochKeys', WHERE WHAT IT READS IS OF BULK AT MOST 1048576: true; the input reads as it did. -/
def epochKeysUptoRow : OpenClaim := { program := "ytjdffpglgkefmaagreat", sum := "f6063e7bcd65e03c714736ffc6d66c50aa567de4495b6ade6f468296e24a111a", func := "headend/headendlaw05.EpochKeys", spec := "epochKeys", unfollowed := true, recurses := true, apart := false, narrowed := true }
def EpochKeysUptoSaid : Prop := epochKeysUptoRow.holds Tryz.pinned (OpenSpec.upto epochKeysSpec)

/-- 'headendlaw05.EpochSeals', WHERE WHAT IT READS IS OF BULK AT MOST 1048576: true; the input reads as it did. -/
def epochSealsUptoRow : OpenClaim := { program := "ytjdffpglgkefmaagreat", sum := "f6063e7bcd65e03c714736ffc6d66c50aa567de4495b6ade6f468296e24a111a", func := "headend/headendlaw05.EpochSeals", spec := "epochSeals", unfollowed := true, recurses := true, apart := false, narrowed := true }
def EpochSealsUptoSaid : Prop := epochSealsUptoRow.holds Tryz.pinned (OpenSpec.upto epochSealsSpec)

/-- 'headendlaw05.EpochSends', WHERE WHAT IT READS IS OF BULK AT MOST 1048576: true; the input reads as it did. -/
def epochSendsUptoRow : OpenClaim := { program := "ytjdffpglgkefmaagreat", sum := "f6063e7bcd65e03c714736ffc6d66c50aa567de4495b6ade6f468296e24a111a", func := "headend/headendlaw05.EpochSends", spec := "epochSends", unfollowed := true, recurses := true, apart := false, narrowed := true }
def EpochSendsUptoSaid : Prop := epochSendsUptoRow.holds Tryz.pinned (OpenSpec.upto epochSendsSpec)

/-- 'headendlaw05.EpochTakes', WHERE WHAT IT READS IS OF BULK AT MOST 1048576: true; the input reads as it did. -/
def epochTakesUptoRow : OpenClaim := { program := "ytjdffpglgkefmaagreat", sum := "f6063e7bcd65e03c714736ffc6d66c50aa567de4495b6ade6f468296e24a111a", func := "headend/headendlaw05.EpochTakes", spec := "epochTakes", unfollowed := true, recurses := true, apart := false, narrowed := true }
def EpochTakesUptoSaid : Prop := epochTakesUptoRow.holds Tryz.pinned (OpenSpec.upto epochTakesSpec)

/-- 'headendlaw05.EpochRight', WHERE WHAT IT READS IS OF BULK AT MOST 1048576: true; the input reads as it did. -/
def epochRightUptoRow : OpenClaim := { program := "ytjdffpglgkefmaagreat", sum := "f6063e7bcd65e03c714736ffc6d66c50aa567de4495b6ade6f468296e24a111a", func := "headend/headendlaw05.EpochRight", spec := "epochRight", unfollowed := true, recurses := true, apart := false, narrowed := true }
def EpochRightUptoSaid : Prop := epochRightUptoRow.holds Tryz.pinned (OpenSpec.upto epochRightSpec)

/-- 'headendlaw05.EpochWindow', WHERE WHAT IT READS IS OF BULK AT MOST 1048576: true; the input reads as it did. -/
def epochWindowUptoRow : OpenClaim := { program := "ytjdffpglgkefmaagreat", sum := "f6063e7bcd65e03c714736ffc6d66c50aa567de4495b6ade6f468296e24a111a", func := "headend/headendlaw05.EpochWindow", spec := "epochWindow", unfollowed := true, recurses := true, apart := false, narrowed := true }
def EpochWindowUptoSaid : Prop := epochWindowUptoRow.holds Tryz.pinned (OpenSpec.upto epochWindowSpec)

/-- 'headendlaw05.EpochChosen', WHERE WHAT IT READS IS OF BULK AT MOST 1048576: true; the input reads as it did. -/
def epochChosenUptoRow : OpenClaim := { program := "ytjdffpglgkefmaagreat", sum := "f6063e7bcd65e03c714736ffc6d66c50aa567de4495b6ade6f468296e24a111a", func := "headend/headendlaw05.EpochChosen", spec := "epochChosen", unfollowed := true, recurses := true, apart := false, narrowed := true }
def EpochChosenUptoSaid : Prop := epochChosenUptoRow.holds Tryz.pinned (OpenSpec.upto epochChosenSpec)

/-- 'headendlaw05.EpochOpens', WHERE WHAT IT READS IS OF BULK AT MOST 1048576: true; the input reads as it did. -/
def epochOpensUptoRow : OpenClaim := { program := "ytjdffpglgkefmaagreat", sum := "f6063e7bcd65e03c714736ffc6d66c50aa567de4495b6ade6f468296e24a111a", func := "headend/headendlaw05.EpochOpens", spec := "epochOpens", unfollowed := true, recurses := true, apart := false, narrowed := true }
def EpochOpensUptoSaid : Prop := epochOpensUptoRow.holds Tryz.pinned (OpenSpec.upto epochOpensSpec)

/-- 'headendlaw05.EpochExamples', WHERE WHAT IT READS IS OF BULK AT MOST 1048576: true; the input reads as it did. -/
def epochExamplesUptoRow : OpenClaim := { program := "ytjdffpglgkefmaagreat", sum := "f6063e7bcd65e03c714736ffc6d66c50aa567de4495b6ade6f468296e24a111a", func := "headend/headendlaw05.EpochExamples", spec := "epochExamples", unfollowed := true, recurses := true, apart := false, narrowed := true }
def EpochExamplesUptoSaid : Prop := epochExamplesUptoRow.holds Tryz.pinned (OpenSpec.upto epochExamplesSpec)

/-- 'headendlaw05.EpochBack', WHERE WHAT IT READS IS OF BULK AT MOST 1048576: true; the input reads as it did. -/
def epochBackUptoRow : OpenClaim := { program := "ytjdffpglgkefmaagreat", sum := "f6063e7bcd65e03c714736ffc6d66c50aa567de4495b6ade6f468296e24a111a", func := "headend/headendlaw05.EpochBack", spec := "epochBack", unfollowed := true, recurses := true, apart := false, narrowed := true }
def EpochBackUptoSaid : Prop := epochBackUptoRow.holds Tryz.pinned (OpenSpec.upto epochBackSpec)

end Rows
end Go.Proofs.YtjdffpglgkefmaaGreat
