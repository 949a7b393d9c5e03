/-
  No cell of these rows narrows 'for every input' (looked for: loops, veiled, ifaces, maps, wideKeys, modest, calm, conditions, laid).
  DERIVED. THE GIVEN ROWS OF THIS SEAT. 11 by the template 'for every input the law returns true; each argument reads behind the call as it read before'; 0 by the template 'total and deterministic' (their statements: YtopkalcefepilaaTotals.lean).
  GIVEN WITH THE SEED: the statements are not yours to turn. If you find one false, say at which input.
  Laid BY PROGRAM, IN A SANDBOX (cutbox-rows.mjs): the forced cells as the released guide's own fill.sh prints them over the translation 0f2dcabf0d5dbff8… (all of the seat's roots in one cut). By AI agents, Wed Nov 11 2026. No macro, syntax, notation, axiom, sorry.
-/
import Derived.Test.YtopkalcefepilaaChecked
import GoSem.Claim
import GoSem.ClaimJoined
import GoSem.ClaimMapViews
import Derived.JoinedTies
import Derived.KernelRfl
namespace Go.Proofs.Ytopkalcefepilaa
/- THE CELL 'sum', in the pinned program and in every row, IS THE sha256 OF THE DUMP (.gsa) THAT YtopkalcefepilaaProg.lean LOADS. Nothing in Lean hashes anything: it is a label: what it is worth is what the hold of that sum in a sandbox is worth. -/
noncomputable def Try.pinned : Pinned := { name := "ytopkalcefepilaa", sum := "0f2dcabf0d5dbff817f377e3dd4f8cf48edf9e9b78e0e2bc733376a00ecf06a3", checked := Try.checked }
namespace Rows
def none {H : Type} : Left H := { results := [], args := [] }

/-- 'headendlaw10.PlanWorsts': WHATEVER THE INPUT: true; the input reads as it did. -/
def planWorstsSpec : ChangeSpec := { name := "planWorsts", fn := fun _ => fun
  | [d1, d2] => { results := [.lit (.bool true)], args := [d1, d2] }
  | _ => none }
def planWorstsRow : OpenClaim := { program := "ytopkalcefepilaa", sum := "0f2dcabf0d5dbff817f377e3dd4f8cf48edf9e9b78e0e2bc733376a00ecf06a3", func := "headend/headendlaw10.PlanWorsts", spec := "planWorsts", unfollowed := true, recurses := true, apart := false }
def PlanWorstsSaid : Prop := planWorstsRow.holds Try.pinned (OpenSpec.ofChange planWorstsSpec)

/-- ITS FALSE NEIGHBOUR: 'it returns false'. Refute it at one input. -/
def planWorstsWrong : ChangeSpec := { name := "planWorsts", fn := fun _ => fun
  | [d1, d2] => { results := [.lit (.bool false)], args := [d1, d2] }
  | _ => none }
def PlanWorstsWrongFalsely : Prop := planWorstsRow.holds Try.pinned (OpenSpec.ofChange planWorstsWrong)

/-- 'headendlaw10.PlanTables': WHATEVER THE INPUT: true; the input reads as it did. -/
def planTablesSpec : ChangeSpec := { name := "planTables", fn := fun _ => fun
  | [d1, d2] => { results := [.lit (.bool true)], args := [d1, d2] }
  | _ => none }
def planTablesRow : OpenClaim := { program := "ytopkalcefepilaa", sum := "0f2dcabf0d5dbff817f377e3dd4f8cf48edf9e9b78e0e2bc733376a00ecf06a3", func := "headend/headendlaw10.PlanTables", spec := "planTables", unfollowed := true, recurses := true, apart := false }
def PlanTablesSaid : Prop := planTablesRow.holds Try.pinned (OpenSpec.ofChange planTablesSpec)

/-- ITS FALSE NEIGHBOUR: 'it returns false'. Refute it at one input. -/
def planTablesWrong : ChangeSpec := { name := "planTables", fn := fun _ => fun
  | [d1, d2] => { results := [.lit (.bool false)], args := [d1, d2] }
  | _ => none }
def PlanTablesWrongFalsely : Prop := planTablesRow.holds Try.pinned (OpenSpec.ofChange planTablesWrong)

/-- 'headendlaw10.PlanMakes': WHATEVER THE INPUT: true; the input reads as it did. -/
def planMakesSpec : ChangeSpec := { name := "planMakes", fn := fun _ => fun
  | [d1, d2] => { results := [.lit (.bool true)], args := [d1, d2] }
  | _ => none }
def planMakesRow : OpenClaim := { program := "ytopkalcefepilaa", sum := "0f2dcabf0d5dbff817f377e3dd4f8cf48edf9e9b78e0e2bc733376a00ecf06a3", func := "headend/headendlaw10.PlanMakes", spec := "planMakes", unfollowed := true, recurses := true, apart := false }
def PlanMakesSaid : Prop := planMakesRow.holds Try.pinned (OpenSpec.ofChange planMakesSpec)

/-- ITS FALSE NEIGHBOUR: 'it returns false'. Refute it at one input. -/
def planMakesWrong : ChangeSpec := { name := "planMakes", fn := fun _ => fun
  | [d1, d2] => { results := [.lit (.bool false)], args := [d1, d2] }
  | _ => none }
def PlanMakesWrongFalsely : Prop := planMakesRow.holds Try.pinned (OpenSpec.ofChange planMakesWrong)

/-- 'headendlaw10.PlanGrows': WHATEVER THE INPUT: true; the input reads as it did. -/
def planGrowsSpec : ChangeSpec := { name := "planGrows", fn := fun _ => fun
  | [d1, d2] => { results := [.lit (.bool true)], args := [d1, d2] }
  | _ => none }
def planGrowsRow : OpenClaim := { program := "ytopkalcefepilaa", sum := "0f2dcabf0d5dbff817f377e3dd4f8cf48edf9e9b78e0e2bc733376a00ecf06a3", func := "headend/headendlaw10.PlanGrows", spec := "planGrows", unfollowed := true, recurses := true, apart := false }
def PlanGrowsSaid : Prop := planGrowsRow.holds Try.pinned (OpenSpec.ofChange planGrowsSpec)

/-- ITS FALSE NEIGHBOUR: 'it returns false'. Refute it at one input. -/
def planGrowsWrong : ChangeSpec := { name := "planGrows", fn := fun _ => fun
  | [d1, d2] => { results := [.lit (.bool false)], args := [d1, d2] }
  | _ => none }
def PlanGrowsWrongFalsely : Prop := planGrowsRow.holds Try.pinned (OpenSpec.ofChange planGrowsWrong)

/-- 'headendlaw10.PlanScales': WHATEVER THE INPUT: true; the input reads as it did. -/
def planScalesSpec : ChangeSpec := { name := "planScales", fn := fun _ => fun
  | [d1, d2, d3] => { results := [.lit (.bool true)], args := [d1, d2, d3] }
  | _ => none }
def planScalesRow : OpenClaim := { program := "ytopkalcefepilaa", sum := "0f2dcabf0d5dbff817f377e3dd4f8cf48edf9e9b78e0e2bc733376a00ecf06a3", func := "headend/headendlaw10.PlanScales", spec := "planScales", unfollowed := true, recurses := true, apart := false }
def PlanScalesSaid : Prop := planScalesRow.holds Try.pinned (OpenSpec.ofChange planScalesSpec)

/-- ITS FALSE NEIGHBOUR: 'it returns false'. Refute it at one input. -/
def planScalesWrong : ChangeSpec := { name := "planScales", fn := fun _ => fun
  | [d1, d2, d3] => { results := [.lit (.bool false)], args := [d1, d2, d3] }
  | _ => none }
def PlanScalesWrongFalsely : Prop := planScalesRow.holds Try.pinned (OpenSpec.ofChange planScalesWrong)

/-- 'headendlaw10.PlanRules': WHATEVER THE INPUT: true; the input reads as it did. -/
def planRulesSpec : ChangeSpec := { name := "planRules", fn := fun _ => fun
  | [d1, d2] => { results := [.lit (.bool true)], args := [d1, d2] }
  | _ => none }
def planRulesRow : OpenClaim := { program := "ytopkalcefepilaa", sum := "0f2dcabf0d5dbff817f377e3dd4f8cf48edf9e9b78e0e2bc733376a00ecf06a3", func := "headend/headendlaw10.PlanRules", spec := "planRules", unfollowed := true, recurses := true, apart := false }
def PlanRulesSaid : Prop := planRulesRow.holds Try.pinned (OpenSpec.ofChange planRulesSpec)

/-- ITS FALSE NEIGHBOUR: 'it returns false'. Refute it at one input. -/
def planRulesWrong : ChangeSpec := { name := "planRules", fn := fun _ => fun
  | [d1, d2] => { results := [.lit (.bool false)], args := [d1, d2] }
  | _ => none }
def PlanRulesWrongFalsely : Prop := planRulesRow.holds Try.pinned (OpenSpec.ofChange planRulesWrong)

/-- 'headendlaw10.PlanBounds': WHATEVER THE INPUT: true; the input reads as it did. -/
def planBoundsSpec : ChangeSpec := { name := "planBounds", fn := fun _ => fun
  | [d1, d2, d3] => { results := [.lit (.bool true)], args := [d1, d2, d3] }
  | _ => none }
def planBoundsRow : OpenClaim := { program := "ytopkalcefepilaa", sum := "0f2dcabf0d5dbff817f377e3dd4f8cf48edf9e9b78e0e2bc733376a00ecf06a3", func := "headend/headendlaw10.PlanBounds", spec := "planBounds", unfollowed := true, recurses := true, apart := false }
def PlanBoundsSaid : Prop := planBoundsRow.holds Try.pinned (OpenSpec.ofChange planBoundsSpec)

/-- ITS FALSE NEIGHBOUR: 'it returns false'. Refute it at one input. -/
def planBoundsWrong : ChangeSpec := { name := "planBounds", fn := fun _ => fun
  | [d1, d2, d3] => { results := [.lit (.bool false)], args := [d1, d2, d3] }
  | _ => none }
def PlanBoundsWrongFalsely : Prop := planBoundsRow.holds Try.pinned (OpenSpec.ofChange planBoundsWrong)

/-- 'headendlaw10.PlanAttains': WHATEVER THE INPUT: true; the input reads as it did. -/
def planAttainsSpec : ChangeSpec := { name := "planAttains", fn := fun _ => fun
  | [d1, d2] => { results := [.lit (.bool true)], args := [d1, d2] }
  | _ => none }
def planAttainsRow : OpenClaim := { program := "ytopkalcefepilaa", sum := "0f2dcabf0d5dbff817f377e3dd4f8cf48edf9e9b78e0e2bc733376a00ecf06a3", func := "headend/headendlaw10.PlanAttains", spec := "planAttains", unfollowed := true, recurses := true, apart := false }
def PlanAttainsSaid : Prop := planAttainsRow.holds Try.pinned (OpenSpec.ofChange planAttainsSpec)

/-- ITS FALSE NEIGHBOUR: 'it returns false'. Refute it at one input. -/
def planAttainsWrong : ChangeSpec := { name := "planAttains", fn := fun _ => fun
  | [d1, d2] => { results := [.lit (.bool false)], args := [d1, d2] }
  | _ => none }
def PlanAttainsWrongFalsely : Prop := planAttainsRow.holds Try.pinned (OpenSpec.ofChange planAttainsWrong)

/-- 'headendlaw10.PlanLeast': WHATEVER THE INPUT: true; the input reads as it did. -/
def planLeastSpec : ChangeSpec := { name := "planLeast", fn := fun _ => fun
  | [d] => { results := [.lit (.bool true)], args := [d] }
  | _ => none }
def planLeastRow : OpenClaim := { program := "ytopkalcefepilaa", sum := "0f2dcabf0d5dbff817f377e3dd4f8cf48edf9e9b78e0e2bc733376a00ecf06a3", func := "headend/headendlaw10.PlanLeast", spec := "planLeast", unfollowed := true, recurses := true, apart := false }
def PlanLeastSaid : Prop := planLeastRow.holds Try.pinned (OpenSpec.ofChange planLeastSpec)

/-- ITS FALSE NEIGHBOUR: 'it returns false'. Refute it at one input. -/
def planLeastWrong : ChangeSpec := { name := "planLeast", fn := fun _ => fun
  | [d] => { results := [.lit (.bool false)], args := [d] }
  | _ => none }
def PlanLeastWrongFalsely : Prop := planLeastRow.holds Try.pinned (OpenSpec.ofChange planLeastWrong)

/-- 'headendlaw10.PlanRefuses': WHATEVER THE INPUT: true; the input reads as it did. -/
def planRefusesSpec : ChangeSpec := { name := "planRefuses", fn := fun _ => fun
  | [d1, d2, d3, d4, d5] => { results := [.lit (.bool true)], args := [d1, d2, d3, d4, d5] }
  | _ => none }
def planRefusesRow : OpenClaim := { program := "ytopkalcefepilaa", sum := "0f2dcabf0d5dbff817f377e3dd4f8cf48edf9e9b78e0e2bc733376a00ecf06a3", func := "headend/headendlaw10.PlanRefuses", spec := "planRefuses", unfollowed := true, recurses := true, apart := false }
def PlanRefusesSaid : Prop := planRefusesRow.holds Try.pinned (OpenSpec.ofChange planRefusesSpec)

/-- ITS FALSE NEIGHBOUR: 'it returns false'. Refute it at one input. -/
def planRefusesWrong : ChangeSpec := { name := "planRefuses", fn := fun _ => fun
  | [d1, d2, d3, d4, d5] => { results := [.lit (.bool false)], args := [d1, d2, d3, d4, d5] }
  | _ => none }
def PlanRefusesWrongFalsely : Prop := planRefusesRow.holds Try.pinned (OpenSpec.ofChange planRefusesWrong)

/-- 'headendlaw10.PlanExamples': WHATEVER THE INPUT: true; the input reads as it did. -/
def planExamplesSpec : ChangeSpec := { name := "planExamples", fn := fun _ => fun
  | [] => { results := [.lit (.bool true)], args := [] }
  | _ => none }
def planExamplesRow : OpenClaim := { program := "ytopkalcefepilaa", sum := "0f2dcabf0d5dbff817f377e3dd4f8cf48edf9e9b78e0e2bc733376a00ecf06a3", func := "headend/headendlaw10.PlanExamples", spec := "planExamples", unfollowed := true, recurses := true, apart := false }
def PlanExamplesSaid : Prop := planExamplesRow.holds Try.pinned (OpenSpec.ofChange planExamplesSpec)

/-- ITS FALSE NEIGHBOUR: 'it returns false'. Refute it at one input. -/
def planExamplesWrong : ChangeSpec := { name := "planExamples", fn := fun _ => fun
  | [] => { results := [.lit (.bool false)], args := [] }
  | _ => none }
def PlanExamplesWrongFalsely : Prop := planExamplesRow.holds Try.pinned (OpenSpec.ofChange planExamplesWrong)

/- THE SECOND FORM. 'bulk': how many values and letters a reading holds, each counted each time it is reached (what is shared counts as often as it is met; a slice's spare places count too). A statement '..UptoSaid' is the law's where the arguments, and the package variables that the reading takes, are together of bulk at most 1048576: NARROWER than '..Said'. Prove '..Said' where nothing that the law and all that it calls make is longer than what came in: it says more and counts as full. Else prove '..UptoSaid'. A law counts once. -/
mutual
def uptoBulk {H : Type} : DataW H → Nat
  | .lit (.string bytes) => bytes.length + 1
  | .lit _ => 1
  | .nil => 1
  | .ptr d => uptoBulk d + 1
  | .slice elems spare => uptoBulkAll elems + uptoBulkAll spare + 1
  | .agg parts => uptoBulkAll parts + 1
  | .iface _ d => uptoBulk d + 1
  | .map entries => uptoBulkEntries entries + 1
  | .held _ => 1
def uptoBulkAll {H : Type} : List (DataW H) → Nat
  | [] => 0
  | d :: r => uptoBulk d + uptoBulkAll r
def uptoBulkEntries {H : Type} : List (Lit × DataW H) → Nat
  | [] => 0
  | x :: r => uptoBulkEntry x + uptoBulkEntries r
def uptoBulkEntry {H : Type} : Lit × DataW H → Nat
  | (.string bytes, d) => bytes.length + uptoBulk d + 1
  | (_, d) => uptoBulk d + 1
 end
def uptoSmall : (H : Type) → List (DataW H) → Bool := fun _ ds => decide (uptoBulkAll ds ≤ 1048576)
def OpenSpec.upto (s : _root_.Go.ChangeSpec) : _root_.Go.OpenSpec := { _root_.Go.OpenSpec.ofChange s with cond := some uptoSmall }

/-- 'headendlaw10.PlanWorsts', WHERE WHAT IT READS IS OF BULK AT MOST 1048576: true; the input reads as it did. -/
def planWorstsUptoRow : OpenClaim := { program := "ytopkalcefepilaa", sum := "0f2dcabf0d5dbff817f377e3dd4f8cf48edf9e9b78e0e2bc733376a00ecf06a3", func := "headend/headendlaw10.PlanWorsts", spec := "planWorsts", unfollowed := true, recurses := true, apart := false, narrowed := true }
def PlanWorstsUptoSaid : Prop := planWorstsUptoRow.holds Try.pinned (OpenSpec.upto planWorstsSpec)

/-- 'headendlaw10.PlanTables', WHERE WHAT IT READS IS OF BULK AT MOST 1048576: true; the input reads as it did. -/
def planTablesUptoRow : OpenClaim := { program := "ytopkalcefepilaa", sum := "0f2dcabf0d5dbff817f377e3dd4f8cf48edf9e9b78e0e2bc733376a00ecf06a3", func := "headend/headendlaw10.PlanTables", spec := "planTables", unfollowed := true, recurses := true, apart := false, narrowed := true }
def PlanTablesUptoSaid : Prop := planTablesUptoRow.holds Try.pinned (OpenSpec.upto planTablesSpec)

/-- 'headendlaw10.PlanMakes', WHERE WHAT IT READS IS OF BULK AT MOST 1048576: true; the input reads as it did. -/
def planMakesUptoRow : OpenClaim := { program := "ytopkalcefepilaa", sum := "0f2dcabf0d5dbff817f377e3dd4f8cf48edf9e9b78e0e2bc733376a00ecf06a3", func := "headend/headendlaw10.PlanMakes", spec := "planMakes", unfollowed := true, recurses := true, apart := false, narrowed := true }
def PlanMakesUptoSaid : Prop := planMakesUptoRow.holds Try.pinned (OpenSpec.upto planMakesSpec)

/-- 'headendlaw10.PlanGrows', WHERE WHAT IT READS IS OF BULK AT MOST 1048576: true; the input reads as it did. -/
def planGrowsUptoRow : OpenClaim := { program := "ytopkalcefepilaa", sum := "0f2dcabf0d5dbff817f377e3dd4f8cf48edf9e9b78e0e2bc733376a00ecf06a3", func := "headend/headendlaw10.PlanGrows", spec := "planGrows", unfollowed := true, recurses := true, apart := false, narrowed := true }
def PlanGrowsUptoSaid : Prop := planGrowsUptoRow.holds Try.pinned (OpenSpec.upto planGrowsSpec)

/-- 'headendlaw10.PlanScales', WHERE WHAT IT READS IS OF BULK AT MOST 1048576: true; the input reads as it did. -/
def planScalesUptoRow : OpenClaim := { program := "ytopkalcefepilaa", sum := "0f2dcabf0d5dbff817f377e3dd4f8cf48edf9e9b78e0e2bc733376a00ecf06a3", func := "headend/headendlaw10.PlanScales", spec := "planScales", unfollowed := true, recurses := true, apart := false, narrowed := true }
def PlanScalesUptoSaid : Prop := planScalesUptoRow.holds Try.pinned (OpenSpec.upto planScalesSpec)

/-- 'headendlaw10.PlanRules', WHERE WHAT IT READS IS OF BULK AT MOST 1048576: true; the input reads as it did. -/
def planRulesUptoRow : OpenClaim := { program := "ytopkalcefepilaa", sum := "0f2dcabf0d5dbff817f377e3dd4f8cf48edf9e9b78e0e2bc733376a00ecf06a3", func := "headend/headendlaw10.PlanRules", spec := "planRules", unfollowed := true, recurses := true, apart := false, narrowed := true }
def PlanRulesUptoSaid : Prop := planRulesUptoRow.holds Try.pinned (OpenSpec.upto planRulesSpec)

/-- 'headendlaw10.PlanBounds', WHERE WHAT IT READS IS OF BULK AT MOST 1048576: true; the input reads as it did. -/
def planBoundsUptoRow : OpenClaim := { program := "ytopkalcefepilaa", sum := "0f2dcabf0d5dbff817f377e3dd4f8cf48edf9e9b78e0e2bc733376a00ecf06a3", func := "headend/headendlaw10.PlanBounds", spec := "planBounds", unfollowed := true, recurses := true, apart := false, narrowed := true }
def PlanBoundsUptoSaid : Prop := planBoundsUptoRow.holds Try.pinned (OpenSpec.upto planBoundsSpec)

/-- 'headendlaw10.PlanAttains', WHERE WHAT IT READS IS OF BULK AT MOST 1048576: true; the input reads as it did. -/
def planAttainsUptoRow : OpenClaim := { program := "ytopkalcefepilaa", sum := "0f2dcabf0d5dbff817f377e3dd4f8cf48edf9e9b78e0e2bc733376a00ecf06a3", func := "headend/headendlaw10.PlanAttains", spec := "planAttains", unfollowed := true, recurses := true, apart := false, narrowed := true }
def PlanAttainsUptoSaid : Prop := planAttainsUptoRow.holds Try.pinned (OpenSpec.upto planAttainsSpec)

/-- 'headendlaw10.PlanLeast', WHERE WHAT IT READS IS OF BULK AT MOST 1048576: true; the input reads as it did. -/
def planLeastUptoRow : OpenClaim := { program := "ytopkalcefepilaa", sum := "0f2dcabf0d5dbff817f377e3dd4f8cf48edf9e9b78e0e2bc733376a00ecf06a3", func := "headend/headendlaw10.PlanLeast", spec := "planLeast", unfollowed := true, recurses := true, apart := false, narrowed := true }
def PlanLeastUptoSaid : Prop := planLeastUptoRow.holds Try.pinned (OpenSpec.upto planLeastSpec)

/-- 'headendlaw10.PlanRefuses', WHERE WHAT IT READS IS OF BULK AT MOST 1048576: true; the input reads as it did. -/
def planRefusesUptoRow : OpenClaim := { program := "ytopkalcefepilaa", sum := "0f2dcabf0d5dbff817f377e3dd4f8cf48edf9e9b78e0e2bc733376a00ecf06a3", func := "headend/headendlaw10.PlanRefuses", spec := "planRefuses", unfollowed := true, recurses := true, apart := false, narrowed := true }
def PlanRefusesUptoSaid : Prop := planRefusesUptoRow.holds Try.pinned (OpenSpec.upto planRefusesSpec)

/-- 'headendlaw10.PlanExamples', WHERE WHAT IT READS IS OF BULK AT MOST 1048576: true; the input reads as it did. -/
def planExamplesUptoRow : OpenClaim := { program := "ytopkalcefepilaa", sum := "0f2dcabf0d5dbff817f377e3dd4f8cf48edf9e9b78e0e2bc733376a00ecf06a3", func := "headend/headendlaw10.PlanExamples", spec := "planExamples", unfollowed := true, recurses := true, apart := false, narrowed := true }
def PlanExamplesUptoSaid : Prop := planExamplesUptoRow.holds Try.pinned (OpenSpec.upto planExamplesSpec)

end Rows
end Go.Proofs.Ytopkalcefepilaa
