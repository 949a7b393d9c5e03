/- Several texts in one: GeM GfM GdM GkM GbM GtM GwM MaM OpnMa MirT MirM BitL Srt SrtSub Pl Pt Tr Ts Fx Mb Lb Tm Cv Tk Fy SecN Fd Kn Cp Pu Nm Pg. -/
import Derived.Test.YtopkalcefepilaaZc
import Derived.Test.YtopkalcefepilaaRows
import Derived.KernelRfl
import Derived.Test.YtopkalcefepilaaZb
import Derived.Shelf.SlSortCmp.NoneTotal
import Derived.Shelf.SlGeneric
import Derived.Test.YtopkalcefepilaaProg
set_option linter.unusedVariables false
set_option linter.unusedSimpArgs false
section
set_option linter.unusedVariables false
set_option maxRecDepth 100000
namespace Go.Sx
open Go Go.RowKit
def ref03_SameInts_L1 (p0 : List Int) (p1 : List Int) (rec1 : (Int) → Option (Bool)) (a2 : Int) : Option (Bool) := (if a2 < (p0.length : Int) then Option.bind (getI p0 a2) fun y3 => (Option.bind (getI p1 a2) fun y4 => ((if y3 ≠ y4 then (some false) else (rec1 (w64 (a2 + 1)))))) else (some true))
/-- headend/headendref03.SameInts -/
def ref03_SameInts (p0 : List Int) (p1 : List Int) : Option (Bool) := (if (p0.length : Int) ≠ (p1.length : Int) then (some false) else (fixN (ref03_SameInts_L1 p0 p1) FUEL 0))
/-- headend/headendref10.SameNumbers -/
def ref10_SameNumbers (p0 : TChoice) (p1 : TChoice) : Option (Bool) := (if p0.Kind = p1.Kind then (bif (p0.Fits == p1.Fits) then (if p0.Items = p1.Items then (if p0.Points = p1.Points then (if p0.Header = p1.Header then (if p0.Storage = p1.Storage then (some (decide (p0.Cost = p1.Cost))) else (some false)) else (some false)) else (some false)) else (some false)) else (some false)) else (some false))
/-- headend/headendref10.SameChoice -/
def ref10_SameChoice (p0 : TChoice) (p1 : TChoice) : Option (Bool) := Option.bind (ref10_SameNumbers p0 p1) fun x1 => ((bif x1 then Option.bind (ref03_SameInts p0.Witness p1.Witness) fun x2 => ((some x2)) else (some false)))
end Go.Sx

end
section
set_option linter.unusedVariables false
set_option maxRecDepth 100000
namespace Go.Sx
open Go Go.RowKit
/-- headend/headendlaw10.tree -/
def law10_tree (p0 : BitVec 8) (p1 : Int) : Option (TScheme) := (some (TScheme.mk p0 p1 0 (TGroup.mk 0#64 0#64 0#64)))
/-- headend/headendlaw10.small -/
def law10_small  : Option (TNeed) := (some (TNeed.mk 2 1 48 10 1 2 (TGroup.mk 0#64 0#64 0#64)))
def law10_worsts_J2 (a2 : Int) (rec1 : (Int) → Option (Bool)) (a4 : Bool) : Option (Bool) := (bif a4 then (some false) else (rec1 (w64 (a2 + 1))))
def law10_worsts_L1 (p0 : TScheme) (p1 : List Int) (rec1 : (Int) → Option (Bool)) (a2 : Int) : Option (Bool) := (if a2 < (p1.length : Int) then Option.bind (plan_Worst p0 a2) fun x3 => ((if x3.2 ≠ 0 then (law10_worsts_J2 a2 rec1 true) else Option.bind (getI p1 a2) fun y5 => ((law10_worsts_J2 a2 rec1 (decide (x3.1 ≠ y5)))))) else (some true))
/-- headend/headendlaw10.worsts -/
def law10_worsts (p0 : TScheme) (p1 : List Int) : Option (Bool) := (fixN (law10_worsts_L1 p0 p1) FUEL 0)
def law10_alive_J1 (x6 : TChoice × Int) (x8 : TPlan × Int) (a9 : Bool) : Option (Bool) := (bif a9 then (some false) else Option.bind (law10_tree 1#8 2) fun x10 => (Option.bind (law10_worsts x10 [1, 2, 2, 2, 2]) fun x11 => ((bif x11 then Option.bind (law10_tree 2#8 2) fun x12 => (Option.bind (law10_worsts x12 [1, 1, 2, 2, 2]) fun x13 => ((bif x13 then Option.bind (ref10_SameChoice x6.1 (TChoice.mk 1#8 true 2 0 103 48 1414 [3])) fun x14 => ((bif x14 then (if x8.1.Best = 1#8 then (some (decide ((x8.1.Choices.length : Int) = 4))) else (some false)) else (some false))) else (some false)))) else (some false)))))
/-- headend/headendlaw10.alive -/
def law10_alive  : Option (Bool) := Option.bind (law10_tree 1#8 2) fun x1 => (Option.bind (plan_Witness x1 2) fun x2 => (Option.bind (law10_tree 2#8 2) fun x3 => (Option.bind (plan_Witness x3 2) fun x4 => (Option.bind (law10_small) fun x5 => (Option.bind (plan_Choose x5 1#8) fun x6 => (Option.bind (law10_small) fun x7 => (Option.bind (plan_Make x7) fun x8 => ((if x2.2 ≠ 0 then (law10_alive_J1 x6 x8 true) else (if x4.2 ≠ 0 then (law10_alive_J1 x6 x8 true) else (if x6.2 ≠ 0 then (law10_alive_J1 x6 x8 true) else (if x8.2 ≠ 0 then (law10_alive_J1 x6 x8 true) else Option.bind (ref03_SameInts x2.1 [3]) fun x15 => ((bif (!x15) then (law10_alive_J1 x6 x8 true) else Option.bind (ref03_SameInts x4.1 [1, 3]) fun x16 => ((law10_alive_J1 x6 x8 (!x16)))))))))))))))))
end Go.Sx

end
section
set_option linter.unusedVariables false
set_option maxRecDepth 100000
namespace Go.Sx
open Go Go.RowKit
noncomputable section
/-- (headend/cover.tree).receiver -/
def cover_tree_receiver (p0 : Tcover_tree) (p1 : Int) : Option (Bool) := (if (0 : Int) ≤ p1 then Option.bind (cover_tree_size p0) fun x1 => ((some (decide (p1 < x1)))) else (some false))
def cover_tree_list_J2 (a2 : Int) (rec1 : (Int) → Option (Bool)) (a4 : Bool) : Option (Bool) := (bif a4 then (some false) else (rec1 (w64 (a2 + 1))))
def cover_tree_list_L1 (p0 : Tcover_tree) (p1 : List Int) (rec1 : (Int) → Option (Bool)) (a2 : Int) : Option (Bool) := (if a2 < (p1.length : Int) then Option.bind (getI p1 a2) fun y3 => (Option.bind (cover_tree_receiver p0 y3) fun x5 => ((bif (!x5) then (cover_tree_list_J2 a2 rec1 true) else (if (0 : Int) < a2 then Option.bind (getI p1 (w64 (a2 - 1))) fun y6 => ((cover_tree_list_J2 a2 rec1 (decide (y3 ≤ y6)))) else (cover_tree_list_J2 a2 rec1 false))))) else (some true))
/-- (headend/cover.tree).list -/
def cover_tree_list (p0 : Tcover_tree) (p1 : List Int) : Option (Bool) := (fixN (cover_tree_list_L1 p0 p1) FUEL 0)
/-- headend/cover.Cover$1 -/
def cover_Cover_1 (p0 : Int) (p1 : Int) (p2 : List TSubset) : Option (List TSubset) := Option.bind (appG 16 p2 [(TSubset.mk p0 p1)]) fun l1 => ((some l1))
def cover_Cover_L2 (a5 : Int) (rec1 : (Int × List Int) → Option (List TSubset × Int)) (rec2 : (Int × List Int) → Option (List TSubset × Int)) (s2 : Int × List Int) : Option (List TSubset × Int) := match s2 with | (a11, a12) => (if (0 : Int) < a11 then Option.bind (shG (un 1#64)) fun nn13 => ((rec2 (shrI a11 nn13, insS a12 a11))) else (rec1 (w64 (a5 + 1), a12)))
def cover_Cover_J4 (a16 : List TSubset) (nx3 : (List TSubset) → Option (List TSubset × Int)) (k18 : Int) (a20 : Bool) : Option (List TSubset × Int) := (bif a20 then Option.bind (cover_node_sibling k18) fun x21 => (Option.bind (cover_Cover_1 x21 0 a16) fun x22 => ((nx3 x22))) else (nx3 a16))
def cover_Cover_J7 (nx3 : (List TSubset) → Option (List TSubset × Int)) (a26 : Int) (a27 : Int) (a28 : List TSubset) : Option (List TSubset × Int) := Option.bind (cover_Cover_1 a27 a26 a28) fun x30 => ((nx3 x30))
def cover_Cover_J8 (a16 : List TSubset) (nx3 : (List TSubset) → Option (List TSubset × Int)) (k18 : Int) (a26 : Int) (x31 : Int) (a32 : Bool) : Option (List TSubset × Int) := (bif a32 then Option.bind (cover_Cover_1 k18 x31 a16) fun x33 => ((cover_Cover_J7 nx3 a26 x31 x33)) else (cover_Cover_J7 nx3 a26 k18 a16))
def cover_Cover_L6 (x1 : Tcover_tree × Int) (a6 : List Int) (a16 : List TSubset) (nx3 : (List TSubset) → Option (List TSubset × Int)) (k18 : Int) (rec6 : (Int) → Option (List TSubset × Int)) (a26 : Int) : Option (List TSubset × Int) := (bif ((decide ((w64 (2 * a26)) ∈ a6)) != (decide ((w64 ((w64 (2 * a26)) + 1)) ∈ a6))) then (if ¬ ((w64 (a26 * 2)) ∈ a6) then (rec6 (w64 ((w64 (a26 * 2)) + 1))) else (rec6 (w64 (a26 * 2)))) else (if a26 = k18 then (nx3 a16) else Option.bind (cover_tree_cut x1.1 k18 a26) fun x31 => ((if x31 ≠ 0 then (if x1.1.kind = 3#8 then Option.bind (cover_tree_special x1.1 k18) fun x34 => ((cover_Cover_J8 a16 nx3 k18 a26 x31 (!x34))) else (cover_Cover_J8 a16 nx3 k18 a26 x31 false)) else (cover_Cover_J8 a16 nx3 k18 a26 x31 false)))))
def cover_Cover_J5 (x1 : Tcover_tree × Int) (a6 : List Int) (a16 : List TSubset) (nx3 : (List TSubset) → Option (List TSubset × Int)) (k18 : Int) (a24 : Bool) : Option (List TSubset × Int) := (bif a24 then (nx3 a16) else (fixN (cover_Cover_L6 x1 a6 a16 nx3 k18) FUEL k18))
def cover_Cover_E3  (a16 : List TSubset) : Option (List TSubset × Int) := Option.bind (srtBy TSubset.Node a16) fun l19 => ((some (l19, 0)))
def cover_Cover_S3 (x1 : Tcover_tree × Int) (a6 : List Int) (k18 : Int) (nx3 : (List TSubset) → Option (List TSubset × Int)) (a16 : List TSubset) : Option (List TSubset × Int) := (if x1.1.kind = 1#8 then (if (1 : Int) < k18 then Option.bind (cover_node_sibling k18) fun x23 => ((cover_Cover_J4 a16 nx3 k18 (decide (¬ (x23 ∈ a6))))) else (cover_Cover_J4 a16 nx3 k18 false)) else (if (1 : Int) < k18 then Option.bind (cover_node_sibling k18) fun x35 => ((cover_Cover_J5 x1 a6 a16 nx3 k18 (decide (¬ (x35 ∈ a6))))) else (cover_Cover_J5 x1 a6 a16 nx3 k18 false)))
def cover_Cover_L1 (p1 : List Int) (x1 : Tcover_tree × Int) (rec1 : (Int × List Int) → Option (List TSubset × Int)) (s1 : Int × List Int) : Option (List TSubset × Int) := match s1 with | (a5, a6) => (if a5 < (p1.length : Int) then Option.bind (getI p1 a5) fun y7 => (Option.bind (cover_tree_leaf x1.1 y7) fun x8 => ((fixN (cover_Cover_L2 a5 rec1) FUEL (x8, a6)))) else (rngM (cover_Cover_S3 x1 a6) cover_Cover_E3 FUEL a6 []))
/-- headend/cover.Cover -/
def cover_Cover (p0 : TScheme) (p1 : List Int) : Option (List TSubset × Int) := Option.bind (cover_enter p0 ([] : List TSubset)) fun x1 => ((if x1.2 ≠ 0 then (some ([], x1.2)) else Option.bind (cover_tree_list x1.1 p1) fun x2 => ((bif (!x2) then (some ([], 2)) else (if (p1.length : Int) = 0 then (some ([(TSubset.mk 1 0)], 0)) else (fixN (cover_Cover_L1 p1 x1) FUEL (0, [])))))))
end
end Go.Sx

end
section
set_option linter.unusedVariables false
set_option maxRecDepth 100000
namespace Go.Sx
open Go Go.RowKit
noncomputable section
structure TA5_i64 where
  a0 : Int
  a1 : Int
  a2 : Int
  a3 : Int
  a4 : Int
deriving DecidableEq, Inhabited
def TA5_i64.cs (x : TA5_i64)  : List Value := [.int .i64 x.a0, .int .i64 x.a1, .int .i64 x.a2, .int .i64 x.a3, .int .i64 x.a4]
theorem TA5_i64.cs_ones (x : TA5_i64)   : ones (TA5_i64.cs x ) = true := by simp only [TA5_i64.cs, List.cons_append, List.nil_append, kb, ones, one_int, one_bool, one_str, cond_true]
theorem TA5_i64.cs_inj {x y : TA5_i64} (h : TA5_i64.cs x = TA5_i64.cs y) : x = y := by
  have h0 : x.a0 = y.a0 := ci_inj (congrArg (fun l => l[0]?) h)
  have h1 : x.a1 = y.a1 := ci_inj (congrArg (fun l => l[1]?) h)
  have h2 : x.a2 = y.a2 := ci_inj (congrArg (fun l => l[2]?) h)
  have h3 : x.a3 = y.a3 := ci_inj (congrArg (fun l => l[3]?) h)
  have h4 : x.a4 = y.a4 := ci_inj (congrArg (fun l => l[4]?) h)
  cases x; cases y; simp only at *; subst h0; subst h1; subst h2; subst h3; subst h4; rfl
theorem TA5_i64.ws (l : List TA5_i64) : Ws 5 (l.map TA5_i64.cs) := ws_map l (fun _ => rfl) (fun _ => rfl)
def plan_agrees_J2 (p0 : TNeed) (p1 : TChoice) (a1 : Bool) (a2 : Bool) : Option (Bool) := (bif a2 then (bif a1 then (some (decide ((p1.Witness.length : Int) = 0))) else (some false)) else Option.bind (cover_Cover (TScheme.mk p1.Kind p0.Depth 0 (TGroup.mk 0#64 0#64 0#64)) p1.Witness) fun x3 => ((if x3.2 = 0 then (if (p1.Witness.length : Int) ≤ p0.Revoked then (some (decide ((x3.1.length : Int) = p1.Items))) else (some false)) else (some false))))
def plan_agrees_J1 (p0 : TNeed) (p1 : TChoice) (a1 : Bool) : Option (Bool) := (bif (!a1) then (plan_agrees_J2 p0 p1 a1 true) else (plan_agrees_J2 p0 p1 a1 (decide (p1.Kind = 4#8))))
/-- headend/plan.agrees -/
def plan_agrees (p0 : TNeed) (p1 : TChoice) (p2 : TChoice) : Option (Bool) := (if p1.Kind = p2.Kind then (bif (p1.Fits == p2.Fits) then (plan_agrees_J1 p0 p1 (decide ((TA5_i64.mk p1.Items p1.Points p1.Header p1.Storage p1.Cost) = (TA5_i64.mk p2.Items p2.Points p2.Header p2.Storage p2.Cost)))) else (plan_agrees_J1 p0 p1 false)) else (plan_agrees_J1 p0 p1 false))
/-- headend/plan.Check$1 -/
def plan_Check_1 (p0 : TChoice) (p1 : TChoice) (p2 : TNeed) : Option (Bool) := Option.bind (plan_agrees p2 p0 p1) fun x1 => ((some x1))
def slices_EqualFunc_ff82_plan_Check_1_L1 (p0 : List TChoice) (p1 : List TChoice) (p2_0 : TNeed) (rec1 : (Int) → Option (Bool)) (a2 : Int) : Option (Bool) := (if a2 < (p0.length : Int) then Option.bind (getI p0 a2) fun y3 => (Option.bind (getI p1 a2) fun y4 => (Option.bind (plan_Check_1 y3 y4 p2_0) fun x5 => ((bif (!x5) then (some false) else (rec1 (w64 (a2 + 1))))))) else (some true))
/-- slices.EqualFunc[[]headend/api.Choice,[]headend/api.Choice,headend/api.Choice,headend/api.Choice] -/
def slices_EqualFunc_ff82_plan_Check_1 (p0 : List TChoice) (p1 : List TChoice) (p2_0 : TNeed) : Option (Bool) := (if (p0.length : Int) ≠ (p1.length : Int) then (some false) else (fixN (slices_EqualFunc_ff82_plan_Check_1_L1 p0 p1 p2_0) FUEL 0))
def plan_Check_J1 (a2 : Bool) : Option (Int) := (bif a2 then (some 100) else (some 0))
/-- headend/plan.Check -/
def plan_Check (p0 : TNeed) (p1 : TPlan) : Option (Int) := Option.bind (plan_Make p0) fun x1 => ((if x1.2 ≠ 0 then (some x1.2) else (if p1.Best ≠ x1.1.Best then (plan_Check_J1 true) else Option.bind (slices_EqualFunc_ff82_plan_Check_1 p1.Choices x1.1.Choices p0) fun x3 => ((plan_Check_J1 (!x3))))))
end
end Go.Sx

end
section
set_option linter.unusedVariables false
set_option maxRecDepth 100000
namespace Go.Sx
open Go Go.RowKit
noncomputable section
/-- slices.Clone[[]int,int] -/
def slices_Clone_8a9f (p0 : List Int) : Option (List Int) := Option.bind (appG 8 [] p0) fun l1 => ((some l1))
def plan_Tables_L2 (p0 : TScheme) (x2 : Tplan_tables) (a6 : List (List (List Int))) (a8 : Int) (rec1 : (List (List (List Int)) × Int) → Option (List (List (List Int)) × Int)) (rec2 : (List (List Int) × Int) → Option (List (List (List Int)) × Int)) (s2 : List (List Int) × Int) : Option (List (List (List Int)) × Int) := match s2 with | (a12, a14) => (if a14 < w64 (p0.Depth + 1) then Option.bind (plan_tables_at x2 a8 a14) fun x15 => (Option.bind (slices_Clone_8a9f x15) fun x16 => (Option.bind (appG 24 a12 [x16]) fun l17 => ((rec2 (l17, w64 (a14 + 1)))))) else Option.bind (appG 24 a6 [a12]) fun l18 => ((rec1 (l18, w64 (a8 + 1)))))
def plan_Tables_L1 (p0 : TScheme) (x2 : Tplan_tables) (rec1 : (List (List (List Int)) × Int) → Option (List (List (List Int)) × Int)) (s1 : List (List (List Int)) × Int) : Option (List (List (List Int)) × Int) := match s1 with | (a6, a8) => (if a8 < x2.states then (fixN (plan_Tables_L2 p0 x2 a6 a8 rec1) FUEL ([], 0)) else (some (a6, 0)))
/-- headend/plan.Tables -/
def plan_Tables (p0 : TScheme) : Option (List (List (List Int)) × Int) := Option.bind (cover_Check p0) fun x1 => ((if x1 ≠ 0 then (some ([], x1)) else Option.bind (plan_newTables p0) fun x2 => ((fixN (plan_Tables_L1 p0 x2) FUEL ([], 0)))))
def slices_Equal_dd32_L1 (p0 : List Int) (p1 : List Int) (rec1 : (Int) → Option (Bool)) (a2 : Int) : Option (Bool) := (if a2 < (p0.length : Int) then Option.bind (getI p0 a2) fun y3 => (Option.bind (getI p1 a2) fun y4 => ((if y3 ≠ y4 then (some false) else (rec1 (w64 (a2 + 1)))))) else (some true))
/-- slices.Equal[[]int,int] -/
def slices_Equal_dd32 (p0 : List Int) (p1 : List Int) : Option (Bool) := (if (p0.length : Int) ≠ (p1.length : Int) then (some false) else (fixN (slices_Equal_dd32_L1 p0 p1) FUEL 0))
def slices_EqualFunc_2be1_slices_Equal_dd32_L1 (p0 : List (List Int)) (p1 : List (List Int)) (rec1 : (Int) → Option (Bool)) (a2 : Int) : Option (Bool) := (if a2 < (p0.length : Int) then Option.bind (getI p0 a2) fun y3 => (Option.bind (getI p1 a2) fun y4 => (Option.bind (slices_Equal_dd32 y3 y4) fun x5 => ((bif (!x5) then (some false) else (rec1 (w64 (a2 + 1))))))) else (some true))
/-- slices.EqualFunc[[][]int,[][]int,[]int,[]int] -/
def slices_EqualFunc_2be1_slices_Equal_dd32 (p0 : List (List Int)) (p1 : List (List Int)) : Option (Bool) := (if (p0.length : Int) ≠ (p1.length : Int) then (some false) else (fixN (slices_EqualFunc_2be1_slices_Equal_dd32_L1 p0 p1) FUEL 0))
/-- headend/plan.CheckTables$1 -/
def plan_CheckTables_1 (p0 : List (List Int)) (p1 : List (List Int)) : Option (Bool) := Option.bind (slices_EqualFunc_2be1_slices_Equal_dd32 p0 p1) fun x1 => ((some x1))
def slices_EqualFunc_83f6_plan_CheckTables_1_L1 (p0 : List (List (List Int))) (p1 : List (List (List Int))) (rec1 : (Int) → Option (Bool)) (a2 : Int) : Option (Bool) := (if a2 < (p0.length : Int) then Option.bind (getI p0 a2) fun y3 => (Option.bind (getI p1 a2) fun y4 => (Option.bind (plan_CheckTables_1 y3 y4) fun x5 => ((bif (!x5) then (some false) else (rec1 (w64 (a2 + 1))))))) else (some true))
/-- slices.EqualFunc[[][][]int,[][][]int,[][]int,[][]int] -/
def slices_EqualFunc_83f6_plan_CheckTables_1 (p0 : List (List (List Int))) (p1 : List (List (List Int))) : Option (Bool) := (if (p0.length : Int) ≠ (p1.length : Int) then (some false) else (fixN (slices_EqualFunc_83f6_plan_CheckTables_1_L1 p0 p1) FUEL 0))
/-- headend/plan.CheckTables -/
def plan_CheckTables (p0 : TScheme) (p1 : List (List (List Int))) : Option (Int) := Option.bind (plan_Tables p0) fun x1 => ((if x1.2 ≠ 0 then (some x1.2) else Option.bind (slices_EqualFunc_83f6_plan_CheckTables_1 x1.1 p1) fun x2 => ((bif (!x2) then (some 100) else (some 0)))))
end
end Go.Sx

end
section
set_option linter.unusedVariables false
set_option maxRecDepth 100000
namespace Go.Sx
open Go Go.RowKit
noncomputable section
/-- headend/headendref03.Valid -/
def ref03_Valid (p0 : TScheme) : Option (Bool) := (if 1#8 ≤ p0.Kind then (if p0.Kind ≤ 3#8 then (if (0 : Int) ≤ p0.Depth then (if p0.Depth ≤ 6 then (if p0.Degree = 0 then (some (decide (p0.Group = (TGroup.mk 0#64 0#64 0#64)))) else (some false)) else (some false)) else (some false)) else (some false)) else (some false))
/-- headend/headendref03.Check -/
def ref03_Check (p0 : TScheme) : Option (Int) := Option.bind (ref03_Valid p0) fun x1 => ((bif (!x1) then (some 30) else (some 0)))
/-- headend/headendref10.states -/
def ref10_states (p0 : BitVec 8) : Option (Int) := Option.bind (getI [0, 1, 2, 4] (un8 p0)) fun y1 => ((some y1))
/-- headend/headendref10.more -/
def ref10_more (p0 : Int) : Option (Int) := Option.bind (getI [0, 1, 1, 2] p0) fun y1 => ((some y1))
/-- headend/headendref10.start -/
def ref10_start (p0 : BitVec 8) (p1 : Int) (p2 : Int) : Option (Int) := (if p0 = 1#8 then (some (w64 (1 - p2))) else Option.bind (ref10_more p1) fun x1 => ((some (w64 (p2 * x1)))))
def ref03_Stride_L1 (p0 : Int) (rec1 : (Int) → Option (Int)) (a2 : Int) : Option (Int) := (if w64 (a2 * a2) < p0 then (rec1 (w64 (a2 + 1))) else (some a2))
/-- headend/headendref03.Stride -/
def ref03_Stride (p0 : Int) : Option (Int) := (fixN (ref03_Stride_L1 p0) FUEL 1)
def ref10_below_J1 (p0 : TScheme) (p1 : Int) (p2 : Int) (a1 : Bool) : Option (Int) := (bif a1 then (some (mxI p1 1)) else Option.bind (ref03_Stride p0.Depth) fun x2 => (Option.bind (remI (w64 (p0.Depth - p2)) x2) fun x3 => ((if x3 = 0 then Option.bind (getI [1, 1, 3] p1) fun y4 => ((some y4)) else (some 2)))))
/-- headend/headendref10.below -/
def ref10_below (p0 : TScheme) (p1 : Int) (p2 : Int) : Option (Int) := (if p0.Kind = 2#8 then (ref10_below_J1 p0 p1 p2 true) else (if p1 = 1 then (ref10_below_J1 p0 p1 p2 true) else (ref10_below_J1 p0 p1 p2 (decide (p1 = 3)))))
def ref10_value_J1 (p0 : TScheme) (p1 : List (List (List Int))) (p2 : Int) (p3 : Int) (p4 : Int) (p5 : Int) (a7 : Bool) : Option (Int) := (bif a7 then Option.bind (getI p1 0) fun y8 => (Option.bind (getI y8 (w64 (p3 - 1))) fun y9 => (Option.bind (getI y9 p5) fun y10 => (Option.bind (getI p1 0) fun y11 => (Option.bind (getI y11 (w64 (p3 - 1))) fun y12 => (Option.bind (getI y12 (w64 (p4 - p5))) fun y13 => (Option.bind (ref10_more p2) fun x14 => ((some (w64 ((w64 (y10 + y13)) + x14)))))))))) else Option.bind (ref10_below p0 p2 p3) fun x15 => (Option.bind (getI p1 x15) fun y16 => (Option.bind (getI y16 (w64 (p3 - 1))) fun y17 => (Option.bind (getI y17 p4) fun y18 => ((some y18))))))
/-- headend/headendref10.value -/
def ref10_value (p0 : TScheme) (p1 : List (List (List Int))) (p2 : Int) (p3 : Int) (p4 : Int) (p5 : Int) : Option (Int) := (if p0.Kind = 1#8 then Option.bind (getI p1 0) fun y1 => (Option.bind (getI y1 (w64 (p3 - 1))) fun y2 => (Option.bind (getI y2 p5) fun y3 => (Option.bind (getI p1 0) fun y4 => (Option.bind (getI y4 (w64 (p3 - 1))) fun y5 => (Option.bind (getI y5 (w64 (p4 - p5))) fun y6 => ((some (w64 (y3 + y6))))))))) else (if (0 : Int) < p5 then (ref10_value_J1 p0 p1 p2 p3 p4 p5 (decide (p5 < p4))) else (ref10_value_J1 p0 p1 p2 p3 p4 p5 false)))
def ref10_best_L1 (p0 : TScheme) (p1 : List (List (List Int))) (p2 : Int) (p3 : Int) (p4 : Int) (nn1 : Nat) (rec1 : (Int × Int × Int) → Option (Int × Int)) (s1 : Int × Int × Int) : Option (Int × Int) := match s1 with | (a5, a6, a7) => (if a7 ≤ mnI p4 (shlI 1 nn1) then Option.bind (ref10_value p0 p1 p2 p3 p4 a7) fun x8 => ((if a5 < x8 then (rec1 (x8, a7, w64 (a7 + 1))) else (rec1 (a5, a6, w64 (a7 + 1))))) else (some (a5, a6)))
/-- headend/headendref10.best -/
def ref10_best (p0 : TScheme) (p1 : List (List (List Int))) (p2 : Int) (p3 : Int) (p4 : Int) : Option (Int × Int) := Option.bind (shG (un (wd (w64 (p3 - 1))))) fun nn1 => ((fixN (ref10_best_L1 p0 p1 p2 p3 p4 nn1) FUEL ((-1), (-1), mxI 0 (w64 (p4 - (shlI 1 nn1))))))
def ref10_TablesOf_J5 (p0 : TScheme) (a6 : Int) (a18 : Int) (a21 : List (List (List Int))) (a22 : Int) (rec4 : (List (List (List Int)) × Int) → Option (List (List (List Int)))) (a24 : Bool) : Option (List (List (List Int))) := (bif a24 then Option.bind (getI a21 a18) fun y25 => (Option.bind (getI y25 a6) fun y26 => (Option.bind (ref10_start p0.Kind a18 a22) fun x27 => (Option.bind (getI y26 a22) fun y28 => ((rec4 (a21.set a18.toNat (y25.set a6.toNat (y26.set a22.toNat x27)), w64 (a22 + 1))))))) else Option.bind (getI a21 a18) fun y29 => (Option.bind (getI y29 a6) fun y30 => (Option.bind (ref10_best p0 a21 a18 a6 a22) fun x31 => (Option.bind (getI y30 a22) fun y32 => ((rec4 (a21.set a18.toNat (y29.set a6.toNat (y30.set a22.toNat x31.1)), w64 (a22 + 1))))))))
def ref10_TablesOf_L4 (p0 : TScheme) (a6 : Int) (a18 : Int) (rec3 : (List (List (List Int)) × Int) → Option (List (List (List Int)))) (rec4 : (List (List (List Int)) × Int) → Option (List (List (List Int)))) (s4 : List (List (List Int)) × Int) : Option (List (List (List Int))) := match s4 with | (a21, a22) => Option.bind (shG (un (wd a6))) fun nn23 => ((if a22 ≤ shlI 1 nn23 then (if a22 = 0 then (ref10_TablesOf_J5 p0 a6 a18 a21 a22 rec4 true) else (ref10_TablesOf_J5 p0 a6 a18 a21 a22 rec4 (decide (a6 = 0)))) else (rec3 (a21, w64 (a18 + 1)))))
def ref10_TablesOf_L3 (p0 : TScheme) (a6 : Int) (rec1 : (List (List (List Int)) × Int) → Option (List (List (List Int)))) (rec3 : (List (List (List Int)) × Int) → Option (List (List (List Int)))) (s3 : List (List (List Int)) × Int) : Option (List (List (List Int))) := match s3 with | (a17, a18) => (if a18 < (a17.length : Int) then (fixN (ref10_TablesOf_L4 p0 a6 a18 rec3) FUEL (a17, 0)) else (rec1 (a17, w64 (a6 + 1))))
def ref10_TablesOf_L2 (p0 : TScheme) (a6 : Int) (rec1 : (List (List (List Int)) × Int) → Option (List (List (List Int)))) (rec2 : (List (List (List Int)) × Int) → Option (List (List (List Int)))) (s2 : List (List (List Int)) × Int) : Option (List (List (List Int))) := match s2 with | (a9, a10) => (if a10 < (a9.length : Int) then Option.bind (getI a9 a10) fun y11 => (Option.bind (shG (un (wd a6))) fun nn12 => (Option.bind (mkL 8 (w64 (1 + (shlI 1 nn12))) 0) fun l13 => (Option.bind (appG 24 y11 [l13]) fun l14 => ((rec2 (a9.set a10.toNat (y11 ++ [l13]), w64 (a10 + 1))))))) else (fixN (ref10_TablesOf_L3 p0 a6 rec1) FUEL (a9, 0)))
def ref10_TablesOf_L1 (p0 : TScheme) (rec1 : (List (List (List Int)) × Int) → Option (List (List (List Int)))) (s1 : List (List (List Int)) × Int) : Option (List (List (List Int))) := match s1 with | (a5, a6) => (if a6 ≤ p0.Depth then (fixN (ref10_TablesOf_L2 p0 a6 rec1) FUEL (a5, 0)) else (some a5))
/-- headend/headendref10.TablesOf -/
def ref10_TablesOf (p0 : TScheme) : Option (List (List (List Int))) := Option.bind (ref10_states p0.Kind) fun x1 => (Option.bind (mkL 24 x1 ([] : List (List Int))) fun l2 => ((fixN (ref10_TablesOf_L1 p0) FUEL (l2, 0))))
def ref10_SameTables_L2 (p0 : List (List (List Int))) (p1 : List (List (List Int))) (a2 : Int) (rec1 : (Int) → Option (Bool)) (rec2 : (Int) → Option (Bool)) (a6 : Int) : Option (Bool) := Option.bind (getI p0 a2) fun y7 => ((if a6 < (y7.length : Int) then Option.bind (getI p0 a2) fun y8 => (Option.bind (getI y8 a6) fun y9 => (Option.bind (getI p1 a2) fun y10 => (Option.bind (getI y10 a6) fun y11 => (Option.bind (ref03_SameInts y9 y11) fun x12 => ((bif (!x12) then (some false) else (rec2 (w64 (a6 + 1))))))))) else (rec1 (w64 (a2 + 1)))))
def ref10_SameTables_L1 (p0 : List (List (List Int))) (p1 : List (List (List Int))) (rec1 : (Int) → Option (Bool)) (a2 : Int) : Option (Bool) := (if a2 < (p0.length : Int) then Option.bind (getI p0 a2) fun y3 => (Option.bind (getI p1 a2) fun y4 => ((if (y3.length : Int) ≠ (y4.length : Int) then (some false) else (fixN (ref10_SameTables_L2 p0 p1 a2 rec1) FUEL 0)))) else (some true))
/-- headend/headendref10.SameTables -/
def ref10_SameTables (p0 : List (List (List Int))) (p1 : List (List (List Int))) : Option (Bool) := (if (p0.length : Int) ≠ (p1.length : Int) then (some false) else (fixN (ref10_SameTables_L1 p0 p1) FUEL 0))
end
end Go.Sx

end
section
set_option linter.unusedVariables false
set_option maxRecDepth 100000
namespace Go.Sx
open Go Go.RowKit
noncomputable section
def ref03_Receivers_L1 (p0 : Int) (rec1 : (Int × Int) → Option (Int)) (s1 : Int × Int) : Option (Int) := match s1 with | (a3, a4) => (if a4 < p0 then (rec1 (w64 (2 * a3), w64 (a4 + 1))) else (some a3))
/-- headend/headendref03.Receivers -/
def ref03_Receivers (p0 : Int) : Option (Int) := (fixN (ref03_Receivers_L1 p0) FUEL (1, 0))
def ref10_asked_J1 (a2 : Bool) : Option (Int) := (bif a2 then (some 2) else (some 0))
/-- headend/headendref10.asked -/
def ref10_asked (p0 : TScheme) (p1 : Int) : Option (Int) := Option.bind (ref03_Check p0) fun x1 => ((if x1 ≠ 0 then (some x1) else (if p1 < 0 then (ref10_asked_J1 true) else Option.bind (ref03_Receivers p0.Depth) fun x3 => ((ref10_asked_J1 (decide (x3 < p1)))))))
/-- headend/headendref10.count -/
def ref10_count (p0 : TScheme) (p1 : List (List (List Int))) (p2 : Int) : Option (Int) := (if p2 = 0 then (some 1) else Option.bind (getI p1 0) fun y1 => (Option.bind (getI y1 p0.Depth) fun y2 => (Option.bind (getI y2 p2) fun y3 => ((some y3)))))
def ref10_greatest_L1 (p0 : TScheme) (p1 : List (List (List Int))) (p2 : Int) (rec1 : (Int × Int × Int) → Option (Int × Int)) (s1 : Int × Int × Int) : Option (Int × Int) := match s1 with | (a4, a5, a6) => (if a6 ≤ p2 then Option.bind (ref10_count p0 p1 a6) fun x7 => ((if a4 < x7 then (rec1 (x7, a6, w64 (a6 + 1))) else (rec1 (a4, a5, w64 (a6 + 1))))) else (some (a4, a5)))
/-- headend/headendref10.greatest -/
def ref10_greatest (p0 : TScheme) (p1 : List (List (List Int))) (p2 : Int) : Option (Int × Int) := (fixN (ref10_greatest_L1 p0 p1 p2) FUEL ((-1), (-1), 0))
/-- headend/headendref10.Worst -/
def ref10_Worst (p0 : TScheme) (p1 : Int) : Option (Int × Int) := Option.bind (ref10_asked p0 p1) fun x1 => ((if x1 ≠ 0 then (some (0, x1)) else Option.bind (ref10_TablesOf p0) fun x2 => (Option.bind (ref10_greatest p0 x2 p1) fun x3 => ((some (x3.1, 0))))))
def ref10_listed_J1 (p0 : TScheme) (p1 : List (List (List Int))) (p2 : Int) (p4 : Int) (p5 : Int) (rec0 : (TScheme × List (List (List Int)) × Int × Int × Int × Int) → Option (List Int)) (x2 : Int × Int) (a3 : Int) : Option (List Int) := Option.bind (rec0 (p0, p1, w64 (2 * p2), a3, w64 (p4 - 1), x2.2)) fun x4 => (Option.bind (rec0 (p0, p1, w64 ((w64 (2 * p2)) + 1), a3, w64 (p4 - 1), w64 (p5 - x2.2))) fun x5 => (Option.bind (appG 8 x4 x5) fun l6 => ((some l6))))
def ref10_listed_J2 (p0 : TScheme) (p1 : List (List (List Int))) (p2 : Int) (p3 : Int) (p4 : Int) (p5 : Int) (rec0 : (TScheme × List (List (List Int)) × Int × Int × Int × Int) → Option (List Int)) (x2 : Int × Int) (a7 : Bool) : Option (List Int) := (bif a7 then Option.bind (ref10_below p0 p3 p4) fun x8 => ((ref10_listed_J1 p0 p1 p2 p4 p5 rec0 x2 x8)) else (ref10_listed_J1 p0 p1 p2 p4 p5 rec0 x2 0))
def ref10_listed_R (rec0 : ((TScheme × List (List (List Int)) × Int × Int × Int × Int) → Option (List Int))) (p0 : TScheme) (p1 : List (List (List Int))) (p2 : Int) (p3 : Int) (p4 : Int) (p5 : Int) : Option (List Int) := (if p5 = 0 then (some []) else (if p4 = 0 then Option.bind (ref03_Receivers p0.Depth) fun x1 => ((some [w64 (p2 - x1)])) else Option.bind (ref10_best p0 p1 p3 p4 p5) fun x2 => ((if p0.Kind ≠ 1#8 then (if x2.2 = 0 then (ref10_listed_J2 p0 p1 p2 p3 p4 p5 rec0 x2 true) else (ref10_listed_J2 p0 p1 p2 p3 p4 p5 rec0 x2 (decide (x2.2 = p5)))) else (ref10_listed_J2 p0 p1 p2 p3 p4 p5 rec0 x2 false)))))
def ref10_listed_F (rec0 : ((TScheme × List (List (List Int)) × Int × Int × Int × Int) → Option (List Int))) (s : TScheme × List (List (List Int)) × Int × Int × Int × Int) : Option (List Int) := match s with | (p0, p1, p2, p3, p4, p5) => ref10_listed_R rec0 p0 p1 p2 p3 p4 p5
/-- headend/headendref10.listed -/
def ref10_listed (p0 : TScheme) (p1 : List (List (List Int))) (p2 : Int) (p3 : Int) (p4 : Int) (p5 : Int) : Option (List Int) := fixN ref10_listed_F FUEL (p0, p1, p2, p3, p4, p5)
/-- headend/headendref10.WitnessOf -/
def ref10_WitnessOf (p0 : TScheme) (p1 : Int) : Option (List Int) := Option.bind (ref10_TablesOf p0) fun x1 => (Option.bind (ref10_greatest p0 x1 p1) fun x2 => (Option.bind (ref10_listed p0 x1 1 0 p0.Depth x2.2) fun x3 => ((some x3))))
/-- headend/headendref10.Witness -/
def ref10_Witness (p0 : TScheme) (p1 : Int) : Option (List Int × Int) := Option.bind (ref10_asked p0 p1) fun x1 => ((if x1 ≠ 0 then (some ([], x1)) else Option.bind (ref10_WitnessOf p0 p1) fun x2 => ((some (x2, 0)))))
end
end Go.Sx

end
section
set_option linter.unusedVariables false
set_option maxRecDepth 100000
namespace Go.Sx
open Go Go.RowKit
noncomputable section
def ref10_ValidNeed_J1 (p0 : TNeed) (a1 : Bool) : Option (Bool) := (bif a1 then (some false) else (if (0 : Int) ≤ p0.Headers then (if p0.Headers ≤ 1000 then (if (0 : Int) ≤ p0.HeaderPrice then (if p0.HeaderPrice ≤ 1000 then (if (0 : Int) ≤ p0.StoragePrice then (some (decide (p0.StoragePrice ≤ 1000))) else (some false)) else (some false)) else (some false)) else (some false)) else (some false)))
/-- headend/headendref10.ValidNeed -/
def ref10_ValidNeed (p0 : TNeed) : Option (Bool) := (if p0.Depth < 0 then (ref10_ValidNeed_J1 p0 true) else (if (6 : Int) < p0.Depth then (ref10_ValidNeed_J1 p0 true) else (if p0.Revoked < 0 then (ref10_ValidNeed_J1 p0 true) else Option.bind (ref03_Receivers p0.Depth) fun x2 => ((if x2 < p0.Revoked then (ref10_ValidNeed_J1 p0 true) else (if p0.Storage < 0 then (ref10_ValidNeed_J1 p0 true) else (ref10_ValidNeed_J1 p0 (decide ((10000 : Int) < p0.Storage)))))))))
/-- headend/headendref10.SchemeOf -/
def ref10_SchemeOf (p0 : TNeed) (p1 : BitVec 8) : Option (TScheme) := (if p1 = 4#8 then (some (TScheme.mk p1 p0.Depth (mxI p0.Revoked 1) p0.Group)) else (some (TScheme.mk p1 p0.Depth 0 (TGroup.mk 0#64 0#64 0#64))))
def ref01_IsPrime_L1 (p0 : BitVec 64) (rec1 : (BitVec 64) → Option (Bool)) (a2 : BitVec 64) : Option (Bool) := (if a2 * a2 ≤ p0 then Option.bind (remU p0 a2) fun x3 => ((if x3 = 0#64 then (some false) else (rec1 (a2 + 1#64)))) else (some (decide (2#64 ≤ p0))))
/-- headend/headendref01.IsPrime -/
def ref01_IsPrime (p0 : BitVec 64) : Option (Bool) := (fixN (ref01_IsPrime_L1 p0) FUEL 2#64)
def ref01_Power_J2 (p2 : BitVec 64) (a6 : BitVec 64) (a8 : BitVec 64) (rec1 : (BitVec 64 × BitVec 64 × BitVec 64) → Option (BitVec 64)) (a9 : BitVec 64) : Option (BitVec 64) := Option.bind (remU (a8 * a8) p2) fun x10 => (Option.bind (quoU a6 2#64) fun x11 => ((rec1 (x11, a9, x10))))
def ref01_Power_L1 (p2 : BitVec 64) (rec1 : (BitVec 64 × BitVec 64 × BitVec 64) → Option (BitVec 64)) (s1 : BitVec 64 × BitVec 64 × BitVec 64) : Option (BitVec 64) := match s1 with | (a6, a7, a8) => (if 0#64 < a6 then Option.bind (remU a6 2#64) fun x12 => ((if x12 = 1#64 then Option.bind (remU (a7 * a8) p2) fun x13 => ((ref01_Power_J2 p2 a6 a8 rec1 x13)) else (ref01_Power_J2 p2 a6 a8 rec1 a7))) else (some a7))
/-- headend/headendref01.Power -/
def ref01_Power (p0 : BitVec 64) (p1 : BitVec 64) (p2 : BitVec 64) : Option (BitVec 64) := Option.bind (remU 1#64 p2) fun x1 => (Option.bind (remU p0 p2) fun x2 => ((fixN (ref01_Power_L1 p2) FUEL (p1, x1, x2))))
def ref01_ValidGroup_J1 (p0 : TGroup) (a1 : Bool) : Option (Bool) := (bif a1 then (some false) else (if 2#64 ≤ p0.G then (if p0.G < p0.P then Option.bind (ref01_Power p0.G p0.Q p0.P) fun x2 => ((some (decide (x2 = 1#64)))) else (some false)) else (some false)))
/-- headend/headendref01.ValidGroup -/
def ref01_ValidGroup (p0 : TGroup) : Option (Bool) := (if 1048575#64 < p0.P then (ref01_ValidGroup_J1 p0 true) else Option.bind (ref01_IsPrime p0.P) fun x3 => ((bif (!x3) then (ref01_ValidGroup_J1 p0 true) else (if 1048575#64 < p0.Q then (ref01_ValidGroup_J1 p0 true) else Option.bind (ref01_IsPrime p0.Q) fun x4 => ((bif (!x4) then (ref01_ValidGroup_J1 p0 true) else Option.bind (remU (p0.P - 1#64) p0.Q) fun x5 => ((ref01_ValidGroup_J1 p0 (decide (x5 ≠ 0#64))))))))))
def ref04_Valid_J1 (p0 : TScheme) (a1 : Bool) : Option (Bool) := (bif a1 then (some false) else Option.bind (ref03_Receivers p0.Depth) fun x2 => ((some (decide (wd (w64 (x2 + p0.Degree)) < p0.Group.Q)))))
/-- headend/headendref04.Valid -/
def ref04_Valid (p0 : TScheme) : Option (Bool) := (if p0.Kind ≠ 4#8 then (ref04_Valid_J1 p0 true) else (if p0.Depth < 0 then (ref04_Valid_J1 p0 true) else (if (6 : Int) < p0.Depth then (ref04_Valid_J1 p0 true) else (if p0.Degree < 1 then (ref04_Valid_J1 p0 true) else (if (8 : Int) < p0.Degree then (ref04_Valid_J1 p0 true) else Option.bind (ref01_ValidGroup p0.Group) fun x3 => ((ref04_Valid_J1 p0 (!x3))))))))
def ref03_Path_L1 (p0 : Int) (rec1 : (Int × List Int) → Option (List Int)) (s1 : Int × List Int) : Option (List Int) := match s1 with | (a4, a5) => (if a4 ≠ p0 then Option.bind (appG 8 [a4] a5) fun l7 => (Option.bind (quoI a4 2) fun x8 => ((rec1 (x8, l7)))) else Option.bind (appG 8 [p0] a5) fun l9 => ((some l9)))
/-- headend/headendref03.Path -/
def ref03_Path (p0 : Int) (p1 : Int) : Option (List Int) := (fixN (ref03_Path_L1 p0) FUEL (p1, []))
/-- headend/headendref03.Node -/
def ref03_Node (p0 : Int) (p1 : Int) : Option (Bool) := (if (1 : Int) ≤ p1 then Option.bind (ref03_Receivers p0) fun x1 => ((some (decide (p1 < w64 (2 * x1))))) else (some false))
def ref03_Below_L1 (p1 : Int) (rec1 : (Int) → Option (Bool)) (a2 : Int) : Option (Bool) := (if p1 < a2 then Option.bind (quoI a2 2) fun x3 => ((rec1 x3)) else (some (decide (a2 = p1))))
/-- headend/headendref03.Below -/
def ref03_Below (p0 : Int) (p1 : Int) : Option (Bool) := (fixN (ref03_Below_L1 p1) FUEL p0)
def ref03_Level_L1  (rec1 : (Int × Int) → Option (Int)) (s1 : Int × Int) : Option (Int) := match s1 with | (a3, a4) => (if (1 : Int) < a3 then Option.bind (quoI a3 2) fun x5 => ((rec1 (x5, w64 (a4 + 1)))) else (some a4))
/-- headend/headendref03.Level -/
def ref03_Level (p0 : Int) : Option (Int) := (fixN (ref03_Level_L1) FUEL (p0, 0))
/-- headend/headendref03.Special -/
def ref03_Special (p0 : Int) (p1 : Int) : Option (Bool) := Option.bind (ref03_Level p1) fun x1 => (Option.bind (ref03_Stride p0) fun x2 => (Option.bind (remI x1 x2) fun x3 => ((some (decide (x3 = 0))))))
def ref03_between_L1 (p0 : Int) (x1 : List Int) (rec1 : (Int) → Option (Int)) (a3 : Int) : Option (Int) := (if a3 < w64 ((x1.length : Int) - 1) then Option.bind (getI x1 a3) fun y4 => (Option.bind (ref03_Special p0 y4) fun x5 => ((bif x5 then Option.bind (getI x1 a3) fun y6 => ((some y6)) else (rec1 (w64 (a3 + 1)))))) else (some 0))
/-- headend/headendref03.between -/
def ref03_between (p0 : Int) (p1 : Int) (p2 : Int) : Option (Int) := Option.bind (ref03_Path p1 p2) fun x1 => ((fixN (ref03_between_L1 p0 x1) FUEL 1))
def ref03_IsSubset_J1 (p0 : TScheme) (p1 : TSubset) (a2 : Bool) : Option (Bool) := (bif a2 then (some false) else (if p0.Kind = 2#8 then (some true) else Option.bind (ref03_Special p0.Depth p1.Node) fun x3 => ((bif x3 then (some true) else Option.bind (ref03_between p0.Depth p1.Node p1.Minus) fun x4 => ((some (decide (x4 = 0))))))))
/-- headend/headendref03.IsSubset -/
def ref03_IsSubset (p0 : TScheme) (p1 : TSubset) : Option (Bool) := Option.bind (ref03_Node p0.Depth p1.Node) fun x1 => ((bif (!x1) then (some false) else (if p0.Kind = 1#8 then (some (decide (p1.Minus = 0))) else (if p1.Minus = 0 then (some (decide (p1.Node = 1))) else Option.bind (ref03_Node p0.Depth p1.Minus) fun x5 => ((bif (!x5) then (ref03_IsSubset_J1 p0 p1 true) else (if p1.Minus = p1.Node then (ref03_IsSubset_J1 p0 p1 true) else Option.bind (ref03_Below p1.Minus p1.Node) fun x6 => ((ref03_IsSubset_J1 p0 p1 (!x6))))))))))
def ref03_LabelsOf_L1 (x2 : List Int) (rec1 : (List TSubset × Int) → Option (List TSubset)) (s1 : List TSubset × Int) : Option (List TSubset) := match s1 with | (a6, a8) => (if a8 < (x2.length : Int) then Option.bind (getI x2 a8) fun y9 => (Option.bind (appG 16 a6 [(TSubset.mk y9 0)]) fun l10 => ((rec1 (l10, w64 (a8 + 1))))) else (some a6))
def ref03_LabelsOf_L3 (p0 : TScheme) (x2 : List Int) (a17 : Int) (rec2 : (List TSubset × Int) → Option (List TSubset)) (rec3 : (List TSubset × Int) → Option (List TSubset)) (s3 : List TSubset × Int) : Option (List TSubset) := match s3 with | (a21, a23) => (if a23 < (x2.length : Int) then Option.bind (getI x2 a17) fun y24 => (Option.bind (getI x2 a23) fun y25 => (Option.bind (ref03_IsSubset p0 (TSubset.mk y24 (bitI .xor y25 1))) fun x26 => ((bif x26 then Option.bind (appG 16 a21 [(TSubset.mk y24 (bitI .xor y25 1))]) fun l27 => ((rec3 (l27, w64 (a23 + 1)))) else (rec3 (a21, w64 (a23 + 1))))))) else (rec2 (a21, w64 (a17 + 1))))
def ref03_LabelsOf_L2 (p0 : TScheme) (x2 : List Int) (rec2 : (List TSubset × Int) → Option (List TSubset)) (s2 : List TSubset × Int) : Option (List TSubset) := match s2 with | (a15, a17) => (if a17 < (x2.length : Int) then (fixN (ref03_LabelsOf_L3 p0 x2 a17 rec2) FUEL (a15, w64 (a17 + 1))) else (some a15))
/-- headend/headendref03.LabelsOf -/
def ref03_LabelsOf (p0 : TScheme) (p1 : Int) : Option (List TSubset) := Option.bind (ref03_Receivers p0.Depth) fun x1 => (Option.bind (ref03_Path 1 (w64 (x1 + p1))) fun x2 => ((if p0.Kind = 1#8 then (fixN (ref03_LabelsOf_L1 x2) FUEL ([], 0)) else Option.bind (appG 16 [] [(TSubset.mk 1 0)]) fun l11 => ((fixN (ref03_LabelsOf_L2 p0 x2) FUEL (l11, 0))))))
/-- headend/headendref03.Storage -/
def ref03_Storage (p0 : TScheme) : Option (Int × Int) := Option.bind (ref03_Valid p0) fun x1 => ((bif (!x1) then (some (0, 30)) else Option.bind (ref03_LabelsOf p0 0) fun x2 => ((some ((x2.length : Int), 0)))))
def ref10_Chosen_J1 (p0 : TNeed) (p1 : BitVec 8) (a2 : Int) (a3 : Int) (a4 : Int) (a5 : List Int) : Option (TChoice) := Option.bind (ref03_Receivers p0.Depth) fun x7 => ((some (TChoice.mk p1 (decide (a4 ≤ p0.Storage)) a2 a3 (w64 ((w64 (67 + (w64 (18 * a2)))) + (w64 (16 * a3)))) a4 (w64 ((w64 ((w64 (p0.Headers * p0.HeaderPrice)) * (w64 ((w64 (67 + (w64 (18 * a2)))) + (w64 (16 * a3)))))) + (w64 ((w64 (x7 * p0.StoragePrice)) * a4)))) a5)))
/-- headend/headendref10.Chosen -/
def ref10_Chosen (p0 : TNeed) (p1 : BitVec 8) : Option (TChoice) := Option.bind (ref10_SchemeOf p0 p1) fun x1 => ((if p1 = 4#8 then Option.bind (ref04_Valid x1) fun x8 => ((bif (!x8) then (some (TChoice.mk p1 false 0 0 0 0 0 [])) else (ref10_Chosen_J1 p0 p1 0 x1.Degree 8 []))) else Option.bind (ref03_Storage x1) fun x9 => (Option.bind (ref10_Worst x1 p0.Revoked) fun x10 => (Option.bind (ref10_WitnessOf x1 p0.Revoked) fun x11 => ((ref10_Chosen_J1 p0 p1 x10.1 0 (w64 (16 * x9.1)) x11))))))
def ref10_Choose_J1 (p0 : TNeed) (p1 : BitVec 8) (a1 : Bool) : Option (TChoice × Int) := (bif a1 then (some ((TChoice.mk 0#8 false 0 0 0 0 0 []), 2)) else Option.bind (ref10_Chosen p0 p1) fun x2 => ((some (x2, 0))))
/-- headend/headendref10.Choose -/
def ref10_Choose (p0 : TNeed) (p1 : BitVec 8) : Option (TChoice × Int) := Option.bind (ref10_ValidNeed p0) fun x3 => ((bif (!x3) then (ref10_Choose_J1 p0 p1 true) else (if p1 < 1#8 then (ref10_Choose_J1 p0 p1 true) else (ref10_Choose_J1 p0 p1 (decide (4#8 < p1))))))
def ref10_Made_J2 (a5 : BitVec 8) (a7 : BitVec 8) (rec1 : (BitVec 8 × List TChoice × BitVec 8) → Option (TPlan)) (l10 : List TChoice) (a11 : Bool) : Option (TPlan) := (bif a11 then (rec1 (a5 + 1#8, l10, a5)) else (rec1 (a5 + 1#8, l10, a7)))
def ref10_Made_L1 (p0 : TNeed) (rec1 : (BitVec 8 × List TChoice × BitVec 8) → Option (TPlan)) (s1 : BitVec 8 × List TChoice × BitVec 8) : Option (TPlan) := match s1 with | (a5, a6, a7) => (if a5 ≤ 4#8 then Option.bind (ref10_Chosen p0 a5) fun x9 => (Option.bind (appG 72 a6 [x9]) fun l10 => ((bif x9.Fits then (if a7 = 0#8 then (ref10_Made_J2 a5 a7 rec1 l10 true) else Option.bind (getI l10 (un8 (a7 - 1#8))) fun y12 => ((ref10_Made_J2 a5 a7 rec1 l10 (decide (x9.Cost < y12.Cost))))) else (ref10_Made_J2 a5 a7 rec1 l10 false)))) else (some (TPlan.mk a6 a7)))
/-- headend/headendref10.Made -/
def ref10_Made (p0 : TNeed) : Option (TPlan) := (fixN (ref10_Made_L1 p0) FUEL (1#8, [], 0#8))
/-- headend/headendref10.Make -/
def ref10_Make (p0 : TNeed) : Option (TPlan × Int) := Option.bind (ref10_ValidNeed p0) fun x1 => ((bif (!x1) then (some ((TPlan.mk [] 0#8), 2)) else Option.bind (ref10_Made p0) fun x2 => ((some (x2, 0)))))
/-- headend/headendref10.CheckNeed -/
def ref10_CheckNeed (p0 : TNeed) : Option (Int) := Option.bind (ref10_ValidNeed p0) fun x1 => ((bif (!x1) then (some 2) else (some 0)))
def ref10_Same_J3 (a3 : Int) (rec2 : (Int) → Option (Bool)) (a4 : Bool) : Option (Bool) := (bif a4 then (some false) else (rec2 (w64 (a3 + 1))))
def ref10_Same_L2 (p0 : TPlan) (p1 : TPlan) (rec2 : (Int) → Option (Bool)) (a3 : Int) : Option (Bool) := (if a3 < (p0.Choices.length : Int) then Option.bind (getI p0.Choices a3) fun y5 => (Option.bind (getI p1.Choices a3) fun y6 => (Option.bind (ref10_SameChoice y5 y6) fun x7 => ((ref10_Same_J3 a3 rec2 (!x7))))) else (some true))
def ref10_Same_J1 (p0 : TPlan) (p1 : TPlan) (a1 : Bool) : Option (Bool) := (bif a1 then (some false) else (fixN (ref10_Same_L2 p0 p1) FUEL 0))
/-- headend/headendref10.Same -/
def ref10_Same (p0 : TPlan) (p1 : TPlan) : Option (Bool) := (if (p0.Choices.length : Int) ≠ (p1.Choices.length : Int) then (ref10_Same_J1 p0 p1 true) else (ref10_Same_J1 p0 p1 (decide (p0.Best ≠ p1.Best))))
/-- headend/headendlaw10.PlanMakes -/
def law10_PlanMakes (p0 : TNeed) (p1 : BitVec 8) : Option (Bool) := Option.bind (plan_Choose p0 p1) fun x1 => (Option.bind (ref10_Choose p0 p1) fun x2 => (Option.bind (plan_Make p0) fun x3 => (Option.bind (ref10_Make p0) fun x4 => (Option.bind (plan_CheckNeed p0) fun x5 => (Option.bind (ref10_CheckNeed p0) fun x6 => ((if x5 = x6 then Option.bind (ref10_SameChoice x1.1 x2.1) fun x7 => ((bif x7 then (if x1.2 = x2.2 then Option.bind (ref10_Same x3.1 x4.1) fun x8 => ((bif x8 then (some (decide (x3.2 = x4.2))) else (some false))) else (some false)) else (some false))) else (some false))))))))
end
end Go.Sx

end
section
set_option linter.unusedVariables false
set_option linter.unusedSimpArgs false
set_option maxRecDepth 100000
namespace Go.Sx
open Go Go.RowKit Go.Proofs
theorem op_TGroup {H : Type} {enc : TypeId × Value → H} {W : World} {fuel : Nat} {cs : List Value} {x : DataW H × List MemPlace} (h : Tr enc Try.prog W fuel 24 cs x) : ∃ (m : TGroup), cs = TGroup.cs m := by
  obtain ⟨xs, n, rfl, rfl, hl, hx, hf⟩ := DataW.trod_struct Try.underlying24 h
  replace hl : cs.length = 3 := hl.trans (by kernel_rfl)
  replace hx : xs.length = 3 := hx
  obtain ⟨y0, e0⟩ := some_at (i := 0) hx rfl
  have h0 : Tr enc Try.prog W n 22 ((cs.drop 0).take 1) y0 := fld hf (i := 0) rfl rfl rfl (by kernel_rfl) e0
  obtain ⟨m0, c0⟩ := op_u64 Try.underlying22 h0
  obtain ⟨y1, e1⟩ := some_at (i := 1) hx rfl
  have h1 : Tr enc Try.prog W n 22 ((cs.drop 1).take 1) y1 := fld hf (i := 1) rfl rfl rfl (by kernel_rfl) e1
  obtain ⟨m1, c1⟩ := op_u64 Try.underlying22 h1
  obtain ⟨y2, e2⟩ := some_at (i := 2) hx rfl
  have h2 : Tr enc Try.prog W n 22 ((cs.drop 2).take 1) y2 := fld hf (i := 2) rfl rfl rfl (by kernel_rfl) e2
  obtain ⟨m2, c2⟩ := op_u64 Try.underlying22 h2
  have q := cat_end hl
  replace q := cat_step (o := 2) (k := 1) c2 q
  replace q := cat_step (o := 1) (k := 1) c1 q
  replace q := cat_step (o := 0) (k := 1) c0 q
  exact ⟨⟨m0, m1, m2⟩, q⟩
def TNeed.ok (x : TNeed) : Prop := I64 x.Depth ∧ I64 x.Revoked ∧ I64 x.Storage ∧ I64 x.Headers ∧ I64 x.HeaderPrice ∧ I64 x.StoragePrice
theorem op_TNeed {H : Type} {enc : TypeId × Value → H} {W : World} {fuel : Nat} {cs : List Value} {x : DataW H × List MemPlace} (h : Tr enc Try.prog W fuel 50 cs x) : ∃ (m : TNeed), cs = TNeed.cs m ∧ TNeed.ok m := by
  obtain ⟨xs, n, rfl, rfl, hl, hx, hf⟩ := DataW.trod_struct Try.underlying50 h
  replace hl : cs.length = 9 := hl.trans (by kernel_rfl)
  replace hx : xs.length = 7 := hx
  obtain ⟨y0, e0⟩ := some_at (i := 0) hx rfl
  have h0 : Tr enc Try.prog W n 3 ((cs.drop 0).take 1) y0 := fld hf (i := 0) rfl rfl rfl (by kernel_rfl) e0
  obtain ⟨m0, c0, k0⟩ := op_i64 Try.underlying3 h0
  obtain ⟨y1, e1⟩ := some_at (i := 1) hx rfl
  have h1 : Tr enc Try.prog W n 3 ((cs.drop 1).take 1) y1 := fld hf (i := 1) rfl rfl rfl (by kernel_rfl) e1
  obtain ⟨m1, c1, k1⟩ := op_i64 Try.underlying3 h1
  obtain ⟨y2, e2⟩ := some_at (i := 2) hx rfl
  have h2 : Tr enc Try.prog W n 3 ((cs.drop 2).take 1) y2 := fld hf (i := 2) rfl rfl rfl (by kernel_rfl) e2
  obtain ⟨m2, c2, k2⟩ := op_i64 Try.underlying3 h2
  obtain ⟨y3, e3⟩ := some_at (i := 3) hx rfl
  have h3 : Tr enc Try.prog W n 3 ((cs.drop 3).take 1) y3 := fld hf (i := 3) rfl rfl rfl (by kernel_rfl) e3
  obtain ⟨m3, c3, k3⟩ := op_i64 Try.underlying3 h3
  obtain ⟨y4, e4⟩ := some_at (i := 4) hx rfl
  have h4 : Tr enc Try.prog W n 3 ((cs.drop 4).take 1) y4 := fld hf (i := 4) rfl rfl rfl (by kernel_rfl) e4
  obtain ⟨m4, c4, k4⟩ := op_i64 Try.underlying3 h4
  obtain ⟨y5, e5⟩ := some_at (i := 5) hx rfl
  have h5 : Tr enc Try.prog W n 3 ((cs.drop 5).take 1) y5 := fld hf (i := 5) rfl rfl rfl (by kernel_rfl) e5
  obtain ⟨m5, c5, k5⟩ := op_i64 Try.underlying3 h5
  obtain ⟨y6, e6⟩ := some_at (i := 6) hx rfl
  have h6 : Tr enc Try.prog W n 24 ((cs.drop 6).take 3) y6 := fld hf (i := 6) rfl rfl rfl (by kernel_rfl) e6
  obtain ⟨m6, c6⟩ := op_TGroup h6
  have q := cat_end hl
  replace q := cat_step (o := 6) (k := 3) c6 q
  replace q := cat_step (o := 5) (k := 1) c5 q
  replace q := cat_step (o := 4) (k := 1) c4 q
  replace q := cat_step (o := 3) (k := 1) c3 q
  replace q := cat_step (o := 2) (k := 1) c2 q
  replace q := cat_step (o := 1) (k := 1) c1 q
  replace q := cat_step (o := 0) (k := 1) c0 q
  exact ⟨⟨m0, m1, m2, m3, m4, m5, m6⟩, q, ⟨k0, k1, k2, k3, k4, k5⟩⟩
end Go.Sx

end
section
set_option linter.unusedVariables false
set_option linter.unusedSimpArgs false
namespace Go.Sx
open Go Go.RowKit
/-- a header of one cell -/
abbrev h1c (v : Value) : List Value := [v]
/-- a list of rows: its header and block; its rows' headers and blocks -/
structure Hd3 where
  v : Value
  z : Nat
  g : Nat
  q : List (Value × Nat)
def Hd3.bl (h : Hd3) : List Nat := zf h.z h.g ++ h.q.map Prod.snd
/-- how it lies in memory -/
structure HdO (e1 e0 : TypeId) (w : World) (h : Hd3) (l : List (List Int)) : Prop where
  own : Own w h.z h.g e1 1 h.v ((h.q.map Prod.fst).map h1c)
  len : h.q.length = l.length
  row : ∀ (j : Nat) q r, h.q[j]? = some q → l[j]? = some r → Own w 1 q.2 e0 1 q.1 (r.map ic)
/-- the tables: block g, and blocks that are apart from it and from each other, all of them from n0 on -/
structure TabO (e2 e1 e0 : TypeId) (w : World) (n0 z g : Nat) (v : Value) (L : List (List (List Int))) (H : List Hd3) : Prop where
  own : Own w z g e2 1 v ((H.map Hd3.v).map h1c)
  len : H.length = L.length
  sub : ∀ (i : Nat) h l, H[i]? = some h → L[i]? = some l → HdO e1 e0 w h l
  nd : ∀ (i : Nat) h, H[i]? = some h → h.bl.Nodup
  ap : ∀ (i j : Nat) h k, i ≠ j → H[i]? = some h → H[j]? = some k → ∀ x ∈ h.bl, x ∉ k.bl
  out : ∀ (i : Nat) h, H[i]? = some h → ∀ x ∈ h.bl, x ≠ g ∧ n0 ≤ x ∧ x < w.heap.size
  top : z = 1 ∧ n0 ≤ g
def Tab (e2 e1 e0 : TypeId) (w : World) (n0 z g : Nat) (v : Value) (L : List (List (List Int))) : Prop := ∃ H, TabO e2 e1 e0 w n0 z g v L H
section
variable {e2 e1 e0 : TypeId} {w w' : World} {n0 z g : Nat} {v : Value} {L : List (List (List Int))} {H : List Hd3}
theorem HdO.keep {h : Hd3} {l : List (List Int)} (a : HdO e1 e0 w h l) (hb : ∀ x ∈ h.bl, x < w.heap.size → w'.heap[x]? = w.heap[x]?) : HdO e1 e0 w' h l := by
  refine ⟨a.own.keep ?_, a.len, fun j q r hj hr => (a.row j q r hj hr).keep (.inr ?_)⟩
  · by_cases hz : h.z = 0
    · exact .inl hz
    · exact .inr (hb _ (List.mem_append_left _ (mem_zf.2 ⟨hz, rfl⟩)))
  · exact hb _ (List.mem_append_right _ (List.mem_map.2 ⟨q, List.mem_of_getElem? hj, rfl⟩))
theorem TabO.keep (a : TabO e2 e1 e0 w n0 z g v L H) (hs : w.heap.size ≤ w'.heap.size) (hb : ∀ x, n0 ≤ x → x < w.heap.size → w'.heap[x]? = w.heap[x]?) : TabO e2 e1 e0 w' n0 z g v L H :=
  ⟨a.own.keep (.inr fun hl => hb g a.top.2 hl), a.len, fun i h l hi hl => (a.sub i h l hi hl).keep fun x hx hl2 => hb x (a.out i h hi x hx).2.1 hl2, a.nd, a.ap, fun i h hi x hx => by
    obtain ⟨b1, b2, b3⟩ := a.out i h hi x hx
    exact ⟨b1, b2, Nat.lt_of_lt_of_le b3 hs⟩, a.top⟩
theorem Tab.gr (a : Tab e2 e1 e0 w n0 z g v L) (k : Gr w w') : Tab e2 e1 e0 w' n0 z g v L := by
  obtain ⟨H, a⟩ := a; exact ⟨H, a.keep k.size fun x _ hl => k.block x hl⟩
theorem Tab.kz (a : Tab e2 e1 e0 w n0 z g v L) (k : Kz [] w w') : Tab e2 e1 e0 w' n0 z g v L := by
  obtain ⟨H, a⟩ := a; exact ⟨H, a.keep k.size fun x _ hl => k.block x hl trivial⟩
theorem Tab.lth (a : Tab e2 e1 e0 w n0 z g v L) : Hdn (z = 0 ∨ (z = 1 ∧ g < w.heap.size)) := by obtain ⟨H, a⟩ := a; exact a.own.lth
theorem Tab.oneB (a : Tab e2 e1 e0 w n0 z g v L) : Sx.oneB v = true := by obtain ⟨H, a⟩ := a; exact a.own.oneB
/-- the blocks that are behind the first -/
def tabF (H : List Hd3) : List Nat := H.flatMap Hd3.bl
theorem row_rp {h : Hd3} {l : List (List Int)} {F : List Nat} (a : HdO e1 e0 w h l) (hF : ∀ x ∈ h.bl, x ∈ F) (hlt : ∀ b ∈ F, b < w.heap.size) : RdD (rpSl 1 ic) w h.z h.g 0 h.v F l := by
  obtain ⟨zq, hzq⟩ : ∃ zq : List Value, zq = h.q.map Prod.fst := ⟨_, rfl⟩
  have hlen : zq.length = l.length := by rw [hzq, List.length_map, a.len]
  have h2 : (l.zip zq).map Prod.snd = zq := List.map_snd_zip (by omega)
  have h3 : (l.zip zq).map (fun p => [p.2]) = zq.map h1c := by
    calc (l.zip zq).map (fun p => [p.2]) = ((l.zip zq).map Prod.snd).map h1c := by rw [List.map_map]; rfl
      _ = _ := by rw [h2]
  have key : ∀ p : List Int × Value, p ∈ l.zip zq → (rpSl 1 ic).S w F p := by
    intro p hp
    obtain ⟨j, hj⟩ := List.getElem?_of_mem hp
    rw [List.getElem?_zip_eq_some] at hj
    obtain ⟨j1, j2⟩ := hj
    rw [hzq, List.getElem?_map] at j2
    cases hq : h.q[j]? with
    | none => rw [hq] at j2; cases j2
    | some q =>
      rw [hq] at j2
      have e : q.1 = p.2 := Option.some.inj j2
      have o := a.row j q p.1 hq j1
      refine ⟨1, q.2, 0, ?_, .inr (hF _ (List.mem_append_right _ (List.mem_map.2 ⟨q, List.mem_of_getElem? hq, rfl⟩)))⟩
      rw [← e]; exact o.rd
  refine ⟨(l.zip zq : List (List Int × Value)), List.map_fst_zip (Nat.le_of_eq hlen.symm), ?_, key, hlt⟩
  show Rd w h.z h.g 0 1 h.v ((l.zip zq).map (fun p => [p.2]))
  rw [h3, hzq]; exact a.own.rd
theorem tab_zip (a : TabO e2 e1 e0 w n0 z g v L H) : (L.zip (H.map Hd3.v)).map (fun p => [p.2]) = (H.map Hd3.v).map h1c ∧ (L.zip (H.map Hd3.v)).map Prod.fst = L := by
  have h2 : (L.zip (H.map Hd3.v)).map Prod.snd = H.map Hd3.v := List.map_snd_zip (by rw [List.length_map, a.len]; exact Nat.le_refl _)
  refine ⟨?_, List.map_fst_zip (by rw [List.length_map, a.len]; exact Nat.le_refl _)⟩
  calc (L.zip (H.map Hd3.v)).map (fun p => [p.2]) = ((L.zip (H.map Hd3.v)).map Prod.snd).map h1c := by rw [List.map_map]; rfl
    _ = _ := by rw [h2]
theorem tab_lt (a : TabO e2 e1 e0 w n0 z g v L H) : ∀ b ∈ tabF H, n0 ≤ b ∧ b < w.heap.size ∧ b ≠ g := fun b hb => by
  obtain ⟨h, hh, hx⟩ := List.mem_flatMap.1 hb
  obtain ⟨i, hi⟩ := List.getElem?_of_mem hh
  obtain ⟨b1, b2, b3⟩ := a.out i h hi b hx
  exact ⟨b2, b3, b1⟩
theorem tab_S (a : TabO e2 e1 e0 w n0 z g v L H) : ∀ p ∈ L.zip (H.map Hd3.v), (rpSd (rpSl 1 ic)).S w (tabF H) p := fun p hp => by
  obtain ⟨i, hi⟩ := List.getElem?_of_mem hp
  rw [List.getElem?_zip_eq_some] at hi
  obtain ⟨j1, j2⟩ := hi
  rw [List.getElem?_map] at j2
  cases hh : H[i]? with
  | none => rw [hh] at j2; cases j2
  | some h =>
    rw [hh] at j2
    have e : h.v = p.2 := Option.some.inj j2
    have hbF : ∀ x ∈ h.bl, x ∈ tabF H := fun x hx => List.mem_flatMap.2 ⟨h, List.mem_of_getElem? hh, hx⟩
    have o := row_rp (a.sub i h p.1 hh j1) hbF (fun b hb => (tab_lt a b hb).2.1)
    have hz : h.z = 0 ∨ h.g ∈ tabF H := by
      by_cases hz : h.z = 0
      · exact .inl hz
      · exact .inr (hbF _ (List.mem_append_left _ (mem_zf.2 ⟨hz, rfl⟩)))
    have := rpSd_mk o hz fun b hb => hb
    rw [e] at this; exact this
/-- the tables, read -/
theorem Tab.rdD (a : Tab e2 e1 e0 w n0 z g v L) : ∃ F, RdD (rpSd (rpSl 1 ic)) w z g 0 v F L ∧ (∀ x ∈ F, Pv [] [] n0 x) ∧ ∀ x ∈ F, x < w.heap.size := by
  obtain ⟨H, a⟩ := a
  obtain ⟨z1, z2⟩ := tab_zip a
  refine ⟨tabF H, ⟨L.zip (H.map Hd3.v), z2, ?_, tab_S a, fun b hb => (tab_lt a b hb).2.1⟩, fun x hx => .inr (.inr (tab_lt a x hx).1), fun b hb => (tab_lt a b hb).2.1⟩
  show Rd w z g 0 1 v ((L.zip (H.map Hd3.v)).map (fun p => [p.2]))
  rw [z1]; exact a.own.rd
/-- the tables, aas an owned slice -/
theorem Tab.ownD (a : Tab e2 e1 e0 w n0 z g v L) : ∃ F, OwnD (rpSd (rpSl 1 ic)) w z g e2 v F L ∧ ∀ x ∈ F, Pv [] [] n0 x := by
  obtain ⟨H, a⟩ := a
  obtain ⟨z1, z2⟩ := tab_zip a
  refine ⟨tabF H, ⟨L.zip (H.map Hd3.v), z2, ?_, tab_S a, fun b hb => (tab_lt a b hb).2.1, .inr fun b hb => (tab_lt a b hb).2.2⟩, fun x hx => .inr (.inr (tab_lt a x hx).1)⟩
  show Own w z g e2 1 v ((L.zip (H.map Hd3.v)).map (fun p => [p.2]))
  rw [z1]; exact a.own
theorem getH {i : Int} {l : List (List Int)} (a : TabO e2 e1 e0 w n0 z g v L H) (hi : getI L i = some l) : ∃ h, H[i.toNat]? = some h ∧ L[i.toNat]? = some l ∧ getI (H.map Hd3.v) i = some h.v := by
  have h1 := getI_at hi
  have h0 := getI_nn hi
  have hlt := (List.getElem?_eq_some_iff.1 h1).1
  have hlt2 : i.toNat < H.length := by rw [a.len]; exact hlt
  exact ⟨H[i.toNat], List.getElem?_eq_getElem hlt2, h1, by unfold getI; rw [if_pos h0, List.getElem?_map, List.getElem?_eq_getElem hlt2]; rfl⟩
theorem nodup_ix {l : List Nat} (h : l.Nodup) {i j : Nat} {x : Nat} (hi : l[i]? = some x) (hj : l[j]? = some x) : i = j := by
  obtain ⟨a1, a2⟩ := List.getElem?_eq_some_iff.1 hi
  obtain ⟨b1, b2⟩ := List.getElem?_eq_some_iff.1 hj
  exact (List.getElem_inj (h₀ := a1) (h₁ := b1) h).1 (a2.trans b2.symm)
/-- one row, to be turned -/
theorem Tab.row {i j : Int} {l : List (List Int)} {r : List Int} (a : Tab e2 e1 e0 w n0 z g v L) (hi : getI L i = some l) (hj : getI l j = some r) :
    ∃ (hs qs : List Value) (vi : Value) (gi : Nat) (u : Value) (b : Nat), Rd w z g 0 1 v (hs.map h1c) ∧ getI hs i = some vi ∧ Rd w 1 gi 0 1 vi (qs.map h1c) ∧ getI qs j = some u ∧ Own w 1 b e0 1 u (r.map ic) ∧
      Hdn (1 = 0 ∨ n0 ≤ b) ∧ Hdn (z = 0 ∨ 1 = 0 ∨ g ≠ b) ∧ Hdn (1 = 0 ∨ 1 = 0 ∨ gi ≠ b) ∧ Hdn (1 = 0 ∨ (1 = 1 ∧ gi < w.heap.size)) ∧
      ∀ w' r', w.heap.size ≤ w'.heap.size → (∀ x, x < w.heap.size → x ≠ b → w'.heap[x]? = w.heap[x]?) → Own w' 1 b e0 1 u (r'.map ic) → Tab e2 e1 e0 w' n0 z g v (L.set i.toNat (l.set j.toNat r')) := by
  obtain ⟨H, a⟩ := a
  obtain ⟨h, hh, hl, hv⟩ := getH a hi
  have s := a.sub _ h l hh hl
  have k1 := getI_at hj
  have k0 := getI_nn hj
  have hlt := (List.getElem?_eq_some_iff.1 k1).1
  have hlt2 : j.toNat < h.q.length := by rw [s.len]; exact hlt
  obtain ⟨q, hq⟩ : ∃ q, h.q[j.toNat]? = some q := ⟨_, List.getElem?_eq_getElem hlt2⟩
  have o := s.row _ q r hq k1
  have hz : h.z = 1 := by
    rcases s.own.2 with ⟨_, _, h0⟩ | ⟨h0, _⟩
    · have : (h.q.map Prod.fst).length = 0 := by rw [← List.length_map (f := h1c), h0]; rfl
      rw [List.length_map] at this; omega
    · exact h0
  have hqb : q.2 ∈ h.bl := List.mem_append_right _ (List.mem_map.2 ⟨q, List.mem_of_getElem? hq, rfl⟩)
  have hgb : h.g ∈ h.bl := List.mem_append_left _ (mem_zf.2 ⟨by omega, rfl⟩)
  obtain ⟨n1, n2, n3⟩ := List.nodup_append.1 (a.nd _ h hh)
  have hne : h.g ≠ q.2 := n3 _ (mem_zf.2 ⟨by omega, rfl⟩) _ (List.mem_map.2 ⟨q, List.mem_of_getElem? hq, rfl⟩)
  obtain ⟨b1, b2, b3⟩ := a.out _ h hh _ hqb
  have hrd := s.own.rd
  rw [hz] at hrd
  refine ⟨H.map Hd3.v, h.q.map Prod.fst, h.v, h.g, q.1, q.2, a.own.rd, hv, hrd, ?_, o, ⟨.inr b2⟩, ⟨.inr (.inr (Ne.symm b1))⟩, ⟨.inr (.inr hne)⟩, ⟨.inr ⟨rfl, (a.out _ h hh _ hgb).2.2⟩⟩, ?_⟩
  · unfold getI; rw [if_pos k0, List.getElem?_map, hq]; rfl
  · intro w' r' hs hk ho
    have hgl : g < w.heap.size := by have := a.own.lt; have := a.top; omega
    refine ⟨H, a.own.keep (.inr fun hl => hk g hl (Ne.symm b1)), by rw [List.length_set]; exact a.len, fun i' h' l' hi' hl' => ?_, a.nd, a.ap, fun i' h' hi' x hx => by
      obtain ⟨c1, c2, c3⟩ := a.out i' h' hi' x hx
      exact ⟨c1, c2, Nat.lt_of_lt_of_le c3 hs⟩, a.top⟩
    by_cases he : i' = i.toNat
    · subst he
      rw [hh] at hi'; obtain rfl := Option.some.inj hi'
      rw [List.getElem?_set_self (List.getElem?_eq_some_iff.1 hl).1] at hl'; obtain rfl := Option.some.inj hl'
      refine ⟨s.own.keep (.inr fun hx => hk _ hx hne), by rw [List.length_set]; exact s.len, fun j' q' r'' hj' hr' => ?_⟩
      by_cases hje : j' = j.toNat
      · subst hje
        rw [hq] at hj'; obtain rfl := Option.some.inj hj'
        rw [List.getElem?_set_self hlt] at hr'; obtain rfl := Option.some.inj hr'
        exact ho
      · rw [List.getElem?_set_ne (Ne.symm hje)] at hr'
        refine (s.row j' q' r'' hj' hr').keep (.inr fun hx => hk _ hx fun hc => ?_)
        -- two rows with one block
        have x1 : (h.q.map Prod.snd)[j']? = some q.2 := by rw [List.getElem?_map, hj']; simp [hc]
        have x2 : (h.q.map Prod.snd)[j.toNat]? = some q.2 := by rw [List.getElem?_map, hq]; rfl
        exact hje (nodup_ix n2 x1 x2)
    · rw [List.getElem?_set_ne (Ne.symm he)] at hl'
      exact (a.sub i' h' l' hi' hl').keep fun x hx hxl => hk x hxl fun hc => a.ap i' i.toNat h' h he hi' hh x hx (hc ▸ hqb)
/-- a row more, to be appended -/
theorem Tab.app {i : Int} {l : List (List Int)} (a : Tab e2 e1 e0 w n0 z g v L) (hi : getI L i = some l) :
    ∃ (hs qs : List Value) (vi : Value) (zi gi : Nat), Own w z g e2 1 v (hs.map h1c) ∧ getI hs i = some vi ∧ Own w zi gi e1 1 vi (qs.map h1c) ∧ qs.length = l.length ∧
      Hdn (zi = 0 ∨ n0 ≤ gi) ∧ Hdn (z = 0 ∨ n0 ≤ g) ∧ Hdn (z = 0 ∨ zi = 0 ∨ g ≠ gi) ∧
      ∀ w' v' z' g' u b r, w.heap.size ≤ w'.heap.size → (∀ x, x < w.heap.size → x ≠ g → (zi = 0 ∨ x ≠ gi) → w'.heap[x]? = w.heap[x]?) → w.heap.size ≤ b → b < w'.heap.size → Own w' 1 b e0 1 u (r.map ic) →
        Own w' z' g' e1 1 v' ((qs ++ [u]).map h1c) → Hdn ((g' = gi ∧ zi = 1) ∨ w.heap.size ≤ g' ∨ z' = 0) → Hdn (z' = 0 ∨ 1 = 0 ∨ g' ≠ b) → Hdn (z' = 0 ∨ z = 0 ∨ g' ≠ g) → Own w' z g e2 1 v ((hs.set i.toNat v').map h1c) → n0 ≤ w.heap.size →
        Tab e2 e1 e0 w' n0 z g v (L.set i.toNat (l ++ [r])) := by
  obtain ⟨H, a⟩ := a
  obtain ⟨h, hh, hl, hv⟩ := getH a hi
  have s := a.sub _ h l hh hl
  have hhl := (List.getElem?_eq_some_iff.1 hh).1
  have hll := (List.getElem?_eq_some_iff.1 hl).1
  have hgb : h.z = 0 ∨ h.g ∈ h.bl := by
    by_cases hz : h.z = 0
    · exact .inl hz
    · exact .inr (List.mem_append_left _ (mem_zf.2 ⟨hz, rfl⟩))
  refine ⟨H.map Hd3.v, h.q.map Prod.fst, h.v, h.z, h.g, a.own, hv, s.own, by rw [List.length_map]; exact s.len, ⟨hgb.imp id fun x => (a.out _ h hh _ x).2.1⟩, ⟨.inr a.top.2⟩, ⟨.inr (hgb.imp id fun x => Ne.symm (a.out _ h hh _ x).1)⟩, ?_⟩
  intro w' v' z' g' u b r hsz hk hb0 hb1 hor hoa hgg hgb' hgt hot hn0
  obtain ⟨n1, n2, n3⟩ := List.nodup_append.1 (a.nd _ h hh)
  have hz' : z' = 1 := by
    rcases hoa.2 with ⟨_, _, h0⟩ | ⟨h0, _⟩
    · have : ((h.q.map Prod.fst ++ [u]).map h1c).length = 0 := by rw [h0]; rfl
      simp at this
    · exact h0
  have hg' : (g' = h.g ∧ h.z = 1) ∨ w.heap.size ≤ g' := by rcases hgg.o with x | x | x; exact .inl x; exact .inr x; omega
  have hgb2 : g' ≠ b := by have := hgb'.o; omega
  have hgt2 : g' ≠ g := by have := hgt.o; have := a.top; omega
  have hg'lt : g' < w'.heap.size := by have := hoa.lt; omega
  obtain ⟨k, hk'⟩ : ∃ k : Hd3, k = ⟨v', z', g', h.q ++ [(u, b)]⟩ := ⟨_, rfl⟩
  -- the blocks of the new list: those of the old one, or new
  have hin : ∀ x ∈ k.bl, x ∈ h.bl ∨ w.heap.size ≤ x := fun x hx => by
    rw [hk'] at hx
    rcases List.mem_append.1 hx with hx | hx
    · obtain ⟨_, rfl⟩ := mem_zf.1 hx
      rcases hg' with ⟨rfl, hz⟩ | hg'
      · exact .inl (List.mem_append_left _ (mem_zf.2 ⟨by omega, rfl⟩))
      · exact .inr hg'
    · rw [List.map_append, List.mem_append] at hx
      rcases hx with hx | hx
      · exact .inl (List.mem_append_right _ hx)
      · simp at hx; subst hx; exact .inr hb0
  have hgl : g < w.heap.size := by have := a.own.lt; have := a.top; omega
  refine ⟨H.set i.toNat k, ?_, by rw [List.length_set, List.length_set]; exact a.len, ?_, ?_, ?_, ?_, a.top⟩
  · rw [List.map_set, hk']; exact hot
  · intro i' h' l' hi' hl'
    by_cases he : i' = i.toNat
    · subst he
      rw [List.getElem?_set_self hhl] at hi'; obtain rfl := Option.some.inj hi'
      rw [List.getElem?_set_self hll] at hl'; obtain rfl := Option.some.inj hl'
      rw [hk']
      refine ⟨?_, by simp [s.len], fun j' q' r' hj' hr' => ?_⟩
      · show Own w' z' g' e1 1 v' (((h.q ++ [(u, b)]).map Prod.fst).map h1c)
        rw [List.map_append]; exact hoa
      · by_cases hjl : j' < h.q.length
        · rw [List.getElem?_append_left hjl] at hj'
          rw [List.getElem?_append_left (by rw [← s.len]; exact hjl)] at hr'
          have hqm : q'.2 ∈ h.bl := List.mem_append_right _ (List.mem_map.2 ⟨q', List.mem_of_getElem? hj', rfl⟩)
          refine (s.row j' q' r' hj' hr').keep (.inr fun hx => hk _ hx (a.out _ h hh _ hqm).1 ?_)
          by_cases hz : h.z = 0
          · exact .inl hz
          · exact .inr (Ne.symm (n3 _ (mem_zf.2 ⟨hz, rfl⟩) _ (List.mem_map.2 ⟨q', List.mem_of_getElem? hj', rfl⟩)))
        · have hj2 : j' < (h.q ++ [(u, b)]).length := (List.getElem?_eq_some_iff.1 hj').1
          rw [List.length_append, List.length_singleton] at hj2
          obtain rfl : j' = h.q.length := by omega
          rw [List.getElem?_append_right (Nat.le_refl _), Nat.sub_self] at hj'
          rw [List.getElem?_append_right (by rw [s.len]; exact Nat.le_refl _), s.len, Nat.sub_self] at hr'
          obtain rfl := Option.some.inj hj'
          obtain rfl := Option.some.inj hr'
          exact hor
    · rw [List.getElem?_set_ne (Ne.symm he)] at hi' hl'
      refine (a.sub i' h' l' hi' hl').keep fun x hx hxl => hk x hxl (a.out i' h' hi' x hx).1 ?_
      exact hgb.imp id fun y hc => a.ap i' i.toNat h' h he hi' hh x hx (hc ▸ y)
  · intro i' h' hi'
    by_cases he : i' = i.toNat
    · subst he
      rw [List.getElem?_set_self hhl] at hi'; obtain rfl := Option.some.inj hi'
      rw [hk']
      refine List.nodup_append.2 ⟨?_, ?_, ?_⟩
      · show (zf z' g').Nodup
        unfold zf; split <;> simp
      · show ((h.q ++ [(u, b)]).map Prod.snd).Nodup
        rw [List.map_append]
        refine List.nodup_append.2 ⟨n2, by simp, fun x hx y hy => ?_⟩
        simp at hy; subst hy
        have := (a.out _ h hh x (List.mem_append_right _ hx)).2.2
        omega
      · intro x hx y hy
        obtain ⟨_, rfl⟩ := mem_zf.1 hx
        rw [List.map_append, List.mem_append] at hy
        rcases hy with hy | hy
        · rcases hg' with ⟨rfl, hz⟩ | hg'
          · exact n3 _ (mem_zf.2 ⟨by omega, rfl⟩) y hy
          · have h9 := (a.out _ h hh y (List.mem_append_right _ hy)).2.2
            exact fun hc => by omega
        · simp at hy; subst hy; exact hgb2
    · rw [List.getElem?_set_ne (Ne.symm he)] at hi'; exact a.nd i' h' hi'
  · intro i' j' h' k' hij hi' hj' x hx
    by_cases he : i' = i.toNat
    · subst he
      rw [List.getElem?_set_self hhl] at hi'; obtain rfl := Option.some.inj hi'
      rw [List.getElem?_set_ne hij] at hj'
      rcases hin x hx with y | y
      · exact a.ap _ j' h k' hij hh hj' x y
      · intro hc; have := (a.out j' k' hj' x hc).2.2; omega
    · rw [List.getElem?_set_ne (Ne.symm he)] at hi'
      by_cases hje : j' = i.toNat
      · subst hje
        rw [List.getElem?_set_self hhl] at hj'; obtain rfl := Option.some.inj hj'
        intro hc
        rcases hin x hc with y | y
        · exact a.ap i' _ h' h hij hi' hh x hx y
        · have := (a.out i' h' hi' x hx).2.2; omega
      · rw [List.getElem?_set_ne (Ne.symm hje)] at hj'; exact a.ap i' j' h' k' hij hi' hj' x hx
  · intro i' h' hi' x hx
    by_cases he : i' = i.toNat
    · subst he
      rw [List.getElem?_set_self hhl] at hi'; obtain rfl := Option.some.inj hi'
      have hxl : x ≠ g ∧ x < w'.heap.size := by
        rw [hk'] at hx
        rcases List.mem_append.1 hx with hx | hx
        · obtain ⟨_, rfl⟩ := mem_zf.1 hx; exact ⟨hgt2, hg'lt⟩
        · rw [List.map_append, List.mem_append] at hx
          rcases hx with hx | hx
          · obtain ⟨c1, c2, c3⟩ := a.out _ h hh x (List.mem_append_right _ hx); exact ⟨c1, by omega⟩
          · simp at hx; subst hx; exact ⟨by omega, hb1⟩
      rcases hin x hx with y | y
      · exact ⟨hxl.1, (a.out _ h hh x y).2.1, hxl.2⟩
      · exact ⟨hxl.1, by omega, hxl.2⟩
    · rw [List.getElem?_set_ne (Ne.symm he)] at hi'
      obtain ⟨c1, c2, c3⟩ := a.out i' h' hi' x hx
      exact ⟨c1, c2, by omega⟩
/-- tables without rows yet -/
theorem Tab.mk {n : Nat} (o : Own w 1 g e2 1 v ((List.replicate n (.slice none 0 0 : Value)).map h1c)) (hg : n0 ≤ g) : Tab e2 e1 e0 w n0 1 g v (List.replicate n []) := by
  refine ⟨List.replicate n ⟨.slice none 0 0, 0, 0, []⟩, ?_, by simp, fun i h l hi hl => ?_, fun i h hi => ?_, fun i j h k _ hi _ x hx => ?_, fun i h hi x hx => ?_, rfl, hg⟩
  · rw [List.map_replicate]; exact o
  all_goals
    have := List.eq_of_mem_replicate (List.mem_of_getElem? hi)
    subst this
  · have := List.eq_of_mem_replicate (List.mem_of_getElem? hl)
    subst this
    exact ⟨own_nil w 0 e1 1, rfl, fun j q r hj _ => by simp at hj⟩
  · simp [Hd3.bl, zf]
  · simp [Hd3.bl, zf] at hx
  · simp [Hd3.bl, zf] at hx
end
section
variable {P : Program} {Ls : Slots} {w : World} {dst : Option Nat} {ty : TypeId} {pos : String} {af : Array Edge} {gu : Option (Nat × Bool)} {x y : Operand} {t : TypeId} {e2 e1 e0 : TypeId}
/-- the tables, made -/
theorem ev_mkTab {bytes : Nat} {n : Int} {l : List (List (List Int))} (ha : ApT P t e2 1 bytes) (hz : ZV P e2 (.slice none 0 0)) (hx : ev Ls x = some (.int .i64 n)) (hl : mkL bytes n ([] : List (List Int)) = some l) (hpos : 1 ≤ bytes) :
    EV P Ls ⟨dst, .makeSlice t x x, ty, pos, af, gu⟩ w fun v' w' => ∃ g', w.heap.size ≤ g' ∧ Tab e2 e1 e0 w' w.heap.size 1 g' v' l ∧ Gr w w' := by
  obtain ⟨rfl, h0, hb⟩ := mkL_eq hl
  have hl' : mkL bytes n (.slice none 0 0 : Value) = some (List.replicate n.toNat (.slice none 0 0)) := by unfold mkL; rw [if_pos ⟨h0, hb⟩]
  refine (ev_mkT (c := h1c) ha hz rfl ⟨rfl, rfl⟩ hx hl' hpos).mono ?_
  rintro v' w' ⟨g', h1, h2, h3⟩
  exact ⟨g', h1, Tab.mk h2 h1, h3⟩
theorem app_h {b : Nat} {α : Type} {l : List α} {r : α} {k : List α} {qs : List Value} {u : Value} (h : appG b l [r] = some k) (hq : qs.length = l.length) : appG b qs [u] = some (qs ++ [u]) ∧ k = l ++ [r] := by
  obtain ⟨h1, h2⟩ := appG_eq h
  exact ⟨by unfold appG; rw [if_pos (by rw [hq]; exact h2)], h1⟩
theorem kz_b1 {w w' : World} {b : Nat} (k : Kz [(1, b)] w w') : ∀ x, x < w.heap.size → x ≠ b → w'.heap[x]? = w.heap[x]? := fun x hx hn => k.block x hx (by simp [Nin, hn])
theorem kz_b2 {w w' : World} {z g zi gi : Nat} (k : Kz [(z, g), (zi, gi)] w w') : ∀ x, x < w.heap.size → x ≠ g → (zi = 0 ∨ x ≠ gi) → w'.heap[x]? = w.heap[x]? := fun x hx h1 h2 => k.block x hx (by
  rcases h2 with h2 | h2 <;> simp [Nin, h1, h2])
theorem lit_ws (u : Value) (h : oneB u = true) : Ws 1 ([u].map h1c) := by
  intro y hy
  obtain rfl : y = h1c u := by simpa using hy
  exact ⟨rfl, by simp [h1c, ones, h]⟩
end
end Go.Sx

end
section
set_option linter.unusedVariables false
set_option linter.unusedSimpArgs false
namespace Go.Sx
open Go Go.RowKit
section
variable {P : Program} {L : Slots} {w : World} {dst : Option Nat} {ty : TypeId} {pos : String} {af : Array Edge} {gu : Option (Nat × Bool)} {x y p q r : Operand} {t e : TypeId} {v : Value} {z g o sz : Nat} {α : Type} {l m : List α} {c : α → List Value} {lo hi : Int} {kl kh km : IntKind}
theorem run_sli3 {ρ : Operand → Value} {a : Option Addr} {len cap : Nat} (hρ : Cons L ρ) (hu : P.underlying t = some (.slice e)) (hs : Siz P e sz) (hp : ev L p = some (.int kl lo)) (hq : ev L q = some (.int kh hi)) (hm : ev L r = some (.int km hi)) (h0 : 0 ≤ lo) (h1 : lo ≤ hi) (h2 : hi ≤ (cap : Int)) :
    (Instr.sliceAt t (.slice a len cap) (some (ρ p)) (some (ρ q)) (some (ρ r))).run P w = .ok (sliced a lo.toNat hi.toNat hi.toNat sz) w := by
  have he : P.elem t = e := by simp [Program.elem, hu]
  have hu' : P.underlying t = some (.slice (P.elem t)) := by rw [he]; exact hu
  rw [run_sliceAt_slice _ _ _ _ _ _ hu', hρ _ _ hp, hρ _ _ hq, hρ _ _ hm, run_slice_lhm _ _ _ _ _ hu' _ _ _ _ _ _ h0 h1 (by omega) h2, he, hs w]; simp [Result.andThen]
theorem vv_sliT3 (hu : P.underlying t = some (.slice e)) (hs : Siz P e sz) (hx : ev L x = some v) (hr : Rd w z g o sz v (l.map c)) (hp : ev L p = some (.int kl lo)) (hq : ev L q = some (.int kh hi)) (hmx : ev L r = some (.int km hi)) (hl : sliG l lo hi = some m) :
    ∃ v' o', (∀ w1, VV P L ⟨dst, .slice t x (some p) (some q) (some r), ty, pos, af, gu⟩ w1 v') ∧ Rd w z g o' sz v' (m.map c) := by
  obtain ⟨rfl, h3, h4, h5⟩ := sliG_eq hl
  rcases hr.2 with ⟨hz, hnil, a, cap, rfl⟩ | ⟨hz, cap, rfl, ⟨hg, hcap⟩, hcell⟩
  · have hl0 : l = [] := by simpa using hnil
    subst hl0
    simp only [List.length_nil] at h5
    have e1 : lo = 0 := by omega
    have e2 : hi = 0 := by omega
    subst e1 e2
    refine ⟨_, 0, fun w1 ρ hρ => run_v (by rw [hρ _ _ hx]; exact run_sli3 hρ hu hs hp hq hmx (by omega) (by omega) (by omega)), by simpa using hr.1, .inl ⟨hz, by simp, ?_⟩⟩
    exact ⟨_, _, rfl⟩
  · rw [List.length_map] at hcap hx
    have hlen : ((l.map c).take hi.toNat).length = hi.toNat := by rw [List.length_take, List.length_map]; omega
    have hm : (((l.take hi.toNat).drop lo.toNat).map c) = ((l.map c).take hi.toNat).drop lo.toNat := by rw [List.map_drop, List.map_take]
    have hml : (((l.take hi.toNat).drop lo.toNat).map c).length = hi.toNat - lo.toNat := by rw [hm, List.length_drop, hlen]
    refine ⟨_, if hi.toNat = lo.toNat then o else o + lo.toNat * sz, fun w1 ρ hρ => run_v (by rw [hρ _ _ hx]; exact run_sli3 hρ hu hs hp hq hmx h3 h4 (by omega)), by rw [hm]; exact hr.1.take.drop, .inr ⟨hz, hi.toNat - lo.toNat, ?_, ⟨hg, by rw [hml]; omega⟩, fun j u hj => ?_⟩⟩
    · simp only [sliced, hml]
      by_cases e : hi.toNat = lo.toNat
      · rw [if_pos e, if_pos e]
      · rw [if_neg e, if_neg e]; simp [Addr.add_lit]
    · rw [hm, flat_drop _ _ hr.1.take, flat_take _ _ hr.1, List.getElem?_drop] at hj
      have hj2 : (l.map c).flatten[lo.toNat * sz + j]? = some u := by
        rw [List.getElem?_take] at hj
        split at hj
        · exact hj
        · cases hj
      by_cases e : hi.toNat = lo.toNat
      · exfalso
        rw [List.getElem?_take, e] at hj
        split at hj
        · omega
        · cases hj
      · rw [if_neg e, Nat.add_assoc]; exact hcell _ _ hj2
/-- a part of an owned slice -/
theorem vv_sliV {n : Nat} (hu : P.underlying t = some (.slice e)) (hs : Siz P e sz) (hx : ev L x = some v) (h : Own w z g e sz v (l.map c)) (hp : ev L p = some (.int kl lo)) (hq : ev L q = some (.int kh hi)) (hm : ev L r = some (.int km hi)) (hl : viewG l lo hi = some n) :
    VV P L ⟨dst, .slice t x (some p) (some q) (some r), ty, pos, af, gu⟩ w (.slice (some ⟨g, lo.toNat * sz, none⟩) n n) := fun ρ hρ => by
  unfold viewG at hl
  split at hl
  · rename_i hh
    obtain ⟨h0, h1, h2⟩ := hh
    cases hl
    rcases h.2 with ⟨_, _, h0'⟩ | ⟨hz, cap, cur, rfl, h1', h2', h3⟩
    · have : l = [] := by simpa using h0'
      subst this; simp at h2; omega
    · rw [List.length_map] at h2'
      refine run_v ?_
      rw [hρ _ _ hx]
      show (Instr.sliceAt t (.slice (some ⟨g, 0, none⟩) _ cap) (some (ρ p)) (some (ρ q)) (some (ρ r))).run P w = _
      rw [run_sli3 hρ hu hs hp hq hm h0 (by omega) (by omega)]
      simp only [sliced]
      rw [if_neg (by omega)]
      simp [Addr.add_lit]
      omega
  · cases hl
theorem vv_ixVw {n : Nat} {i j : Int} {k : IntKind} {v : Value} (hv : v = .slice (some ⟨g, lo.toNat * sz, none⟩) n n) (h0 : 0 ≤ lo) (hu : P.underlying t = some (.slice e)) (hs : Siz P e sz) (hx : ev L x = some v) (hy : ev L y = some (.int k i)) (hj : ixG lo n i = some j) :
    VV P L ⟨dst, .indexAddr t x y, ty, pos, af, gu⟩ w (.pointer (some ⟨g, 0 + j.toNat * sz, none⟩)) := by
  unfold ixG at hj
  split at hj
  · rename_i hh
    cases hj
    subst hv
    have := vv_indexAddrS (dst := dst) (ty := ty) (pos := pos) (af := af) (gu := gu) (w := w) hu hs hx hy hh.1 hh.2
    have e : lo.toNat * sz + i.toNat * sz = 0 + (lo + i).toNat * sz := by rw [← Nat.add_mul, Int.toNat_add h0 hh.1]; omega
    rwa [e] at this
  · cases hj
theorem viewG_nn {n : Nat} (hl : viewG l lo hi = some n) : 0 ≤ lo := by
  unfold viewG at hl; split at hl
  · rename_i hh; exact hh.1
  · cases hl
/-- an index in an array that is held -/
theorem vv_ixE {len b' off : Nat} {i : Int} {k : IntKind} (j : Nat) (hu : P.underlying t = some (.array len e)) (hs : Siz P e sz) (hx : ev L x = some (.pointer (some ⟨b', off, none⟩))) (hy : ev L y = some (.int k i)) (h : i = (j : Int)) (hj : j < len) :
    VV P L ⟨dst, .indexAddr t x y, ty, pos, af, gu⟩ w (.pointer (some ⟨b', off + j * sz, none⟩)) := by
  have := vv_indexAddr (dst := dst) (ty := ty) (pos := pos) (af := af) (gu := gu) (w := w) hu hs hx hy (by omega) (by omega)
  rwa [show i.toNat = j from by omega] at this
theorem vv_ixV1 {len : Nat} {i : Int} {k : IntKind} {a : α} {u : Value} {cs : List Value} (hu : P.underlying t = some (.array len e)) (hs : Siz P e 1) (h1 : One P e) (hx : ev L x = some (.agg cs.toArray)) (hcs : cs = (l.map c).flatten) (hl : l.length = len) (hw : Ws 1 (l.map c)) (hy : ev L y = some (.int k i)) (hg : getI l i = some a) (hc : c a = [u]) :
    VV P L ⟨dst, .index t x y, ty, pos, af, gu⟩ w u := fun ρ hρ => by
  have h0 := getI_nn hg
  have h2 := getI_lt hg
  have h2' : i < (len : Int) := by omega
  have hp : (part e cs.toArray (i.toNat * 1)).run P w = .ok u w := by
    have hq : cs[i.toNat]? = some u := by
      have := Ws.at (sz := 1) i.toNat 0 (c a) hw (getm (getI_at hg)) (by omega)
      rw [hcs]; rw [hc] at this; simpa using this
    have hq2 : cs.toArray[i.toNat]? = some u := by simpa using hq
    simp [part, (h1 w).1, hq2]
  rw [Nat.mul_one] at hp
  refine run_v ?_
  rw [hρ _ _ hx, hρ _ _ hy]
  simp [Instr.index, run_underlying hu, asIntOf, h0, h2', hs w, hp]
end
end Go.Sx

end
section
set_option linter.unusedVariables false
set_option linter.unusedSimpArgs false
namespace Go.Proofs.Ytopkalcefepilaa
open Go Go.RowKit Go.Sx
theorem cv_22_5 : CV Try.prog 22 5 .u8 := fun _ _ _ => by kernel_rfl
theorem cv_5_3 : CV Try.prog 5 3 .i64 := fun _ _ _ => by kernel_rfl
theorem en_130 : En Try.prog 130 := fun _ _ => by kernel_rfl
theorem log2_shift (n k : Nat) (h : 2 ^ k ≤ n) : Nat.log2 n = Nat.log2 (n / 2 ^ k) + k := by
  induction k generalizing n with
  | zero => simp
  | succ k ih =>
    have h2 : 2 ^ k ≤ n / 2 := by rw [Nat.le_div_iff_mul_le (by omega)]; rw [Nat.pow_succ] at h; omega
    have h1 : 2 ≤ n := by have : 0 < 2 ^ k := Nat.two_pow_pos k; rw [Nat.pow_succ] at h; omega
    rw [Nat.log2_def, if_pos h1, ih (n / 2) h2, Nat.div_div_eq_div_mul, Nat.pow_succ, Nat.mul_comm 2]; omega
theorem lg_shift (a : Int) (k m : Nat) (hm : 2 ^ k = m) (h : (m : Int) ≤ a) : lg a = lg (a / (m : Int)) + k := by
  obtain ⟨n, rfl⟩ := Int.eq_ofNat_of_zero_le (show 0 ≤ a by omega)
  subst hm
  have hp : 0 < 2 ^ k := Nat.two_pow_pos k
  have h' : 2 ^ k ≤ n := by omega
  have e : ((n : Int) / ((2 ^ k : Nat) : Int)).toNat = n / 2 ^ k := by rw [← Int.natCast_ediv]; rfl
  have h1 : ¬ (n / 2 ^ k = 0) := by rw [Nat.div_eq_zero_iff]; omega
  unfold lg
  rw [e, Int.toNat_natCast, if_neg h1, if_neg (by omega), log2_shift n k h']
  omega
def lenTab : ByteArray := ⟨#[0, 1, 2, 2, 3, 3, 3, 3, 4, 4, 4, 4, 4, 4, 4, 4, 5, 5, 5, 5, 5, 5, 5, 5, 5, 5, 5, 5, 5, 5, 5, 5, 6, 6, 6, 6, 6, 6, 6, 6, 6, 6, 6, 6, 6, 6, 6, 6, 6, 6, 6, 6, 6, 6, 6, 6, 6, 6, 6, 6, 6, 6, 6, 6, 7, 7, 7, 7, 7, 7, 7, 7, 7, 7, 7, 7, 7, 7, 7, 7, 7, 7, 7, 7, 7, 7, 7, 7, 7, 7, 7, 7, 7, 7, 7, 7, 7, 7, 7, 7, 7, 7, 7, 7, 7, 7, 7, 7, 7, 7, 7, 7, 7, 7, 7, 7, 7, 7, 7, 7, 7, 7, 7, 7, 7, 7, 7, 7, 8, 8, 8, 8, 8, 8, 8, 8, 8, 8, 8, 8, 8, 8, 8, 8, 8, 8, 8, 8, 8, 8, 8, 8, 8, 8, 8, 8, 8, 8, 8, 8, 8, 8, 8, 8, 8, 8, 8, 8, 8, 8, 8, 8, 8, 8, 8, 8, 8, 8, 8, 8, 8, 8, 8, 8, 8, 8, 8, 8, 8, 8, 8, 8, 8, 8, 8, 8, 8, 8, 8, 8, 8, 8, 8, 8, 8, 8, 8, 8, 8, 8, 8, 8, 8, 8, 8, 8, 8, 8, 8, 8, 8, 8, 8, 8, 8, 8, 8, 8, 8, 8, 8, 8, 8, 8, 8, 8, 8, 8, 8, 8, 8, 8, 8, 8, 8, 8, 8, 8, 8, 8, 8, 8, 8, 8, 8, 8]⟩
theorem lenTab_fin : ∀ k : Fin 256, lenTab[k.1]? = some (UInt8.ofNat (lg (k.1 : Int)).toNat) ∧ lg (k.1 : Int) = ((UInt8.ofNat (lg (k.1 : Int)).toNat).toNat : Int) := by decide +kernel
theorem lenTab_at {a : Int} (h0 : 0 ≤ a) (h1 : a < 256) : lenTab[a.toNat]? = some (UInt8.ofNat (lg a).toNat) ∧ lg a = ((UInt8.ofNat (lg a).toNat).toNat : Int) := by
  obtain ⟨n, rfl⟩ := Int.eq_ofNat_of_zero_le h0
  exact lenTab_fin ⟨n, by omega⟩
theorem lg_lo (a : Int) : -9223372036854775808 ≤ lg a := by unfold lg; split <;> omega
theorem lg_hi {a : Int} (h0 : 0 ≤ a) (h1 : a < 256) : lg a ≤ 9223372036854775807 := by have := (lenTab_at h0 h1).2; have := (UInt8.ofNat (lg a).toNat).toNat_lt; omega
theorem lg_add {b : Int} (a : Int) (h : 0 ≤ b) : -9223372036854775808 ≤ b + lg a := by unfold lg; split <;> omega
theorem lg_add2 {a b : Int} (h0 : 0 ≤ a) (h1 : a < 256) (hb : b ≤ 1000) : b + lg a ≤ 9223372036854775807 := by have := (lenTab_at h0 h1).2; have := (UInt8.ofNat (lg a).toNat).toNat_lt; omega
set_option maxRecDepth 20000 in
set_option maxHeartbeats 1000000 in
theorem len64_c (a : Int) (ha1 : 0 ≤ a) (ha2 : a < 18446744073709551616) (w : World) :
    Calls Try.prog 130 [.int .u64 a].toArray w fun e w' => ∃ v, e = .returned v ∧ (v = .int .i64 (lg a) ∧ Gr w w') := by
  refine calls_of_sw (R := fun v w' => v = .int .i64 (lg a) ∧ Gr w w') 25 Try.func130 rfl rfl rfl ?_
  refine sw_seq ?_
  -- region 0 bits.go:337
  refine sw_region [(0, 0)] rfl rfl rfl ?_
  refine sd_vv rfl rfl rfl (vv_assign rfl) ?_
  refine sd_done ?_
  refine sw_seq ?_
  refine sw_seq ?_
  -- region 1 bits.go:338
  refine sw_region [(0, 0), (1, 0)] rfl rfl rfl ?_
  refine sd_vv rfl rfl rfl (vv_move rfl) ?_
  refine sd_vv rfl rfl rfl (vv_geq rfl rfl) ?_
  refine sd_done ?_
  refine sw_cond rfl (fun h1 => ?_) (fun h1 => ?_)
  · -- h1 True
    replace h1 := of_decide_eq_true h1
    refine sw_seq ?_
    -- region 2 bits.go:339
    refine sw_region [(0, 0), (1, 0), (2, 0)] rfl rfl rfl ?_
    refine sd_vv rfl rfl rfl (vv_move rfl) ?_
    refine sd_vv rfl rfl rfl (vv_shrN (n := 32) (m := 4294967296) rfl rfl rfl (by decide)) ?_
    refine sd_vv rfl rfl rfl (vv_assign rfl) ?_
    refine sd_done ?_
    -- region 3 bits.go:340
    refine sw_region [(0, 0)] rfl rfl rfl ?_
    refine sd_vv rfl rfl rfl (vv_assign rfl) ?_
    refine sd_done ?_
    refine sw_seq ?_
    refine sw_seq ?_
    -- region 4 bits.go:342
    refine sw_region [(0, 0), (1, 0)] rfl rfl rfl ?_
    refine sd_vv rfl rfl rfl (vv_move rfl) ?_
    refine sd_vv rfl rfl rfl (vv_geq rfl rfl) ?_
    refine sd_done ?_
    refine sw_cond rfl (fun h2 => ?_) (fun h2 => ?_)
    · -- h2 True
      replace h2 := of_decide_eq_true h2
      refine sw_seq ?_
      -- region 5 bits.go:343
      refine sw_region [(0, 0), (1, 0), (2, 0)] rfl rfl rfl ?_
      refine sd_vv rfl rfl rfl (vv_move rfl) ?_
      refine sd_vv rfl rfl rfl (vv_shrN (n := 16) (m := 65536) rfl rfl rfl (by decide)) ?_
      refine sd_vv rfl rfl rfl (vv_assign rfl) ?_
      refine sd_done ?_
      -- region 6 bits.go:344
      refine sw_region [(0, 0), (1, 0), (2, 0)] rfl rfl rfl ?_
      refine sd_vv rfl rfl rfl (vv_move rfl) ?_
      refine sd_vv rfl rfl rfl (vv_add64 rfl rfl (by omega) (by omega)) ?_
      refine sd_vv rfl rfl rfl (vv_assign rfl) ?_
      refine sd_done ?_
      refine sw_seq ?_
      refine sw_seq ?_
      -- region 7 bits.go:346
      refine sw_region [(0, 0), (1, 0)] rfl rfl rfl ?_
      refine sd_vv rfl rfl rfl (vv_move rfl) ?_
      refine sd_vv rfl rfl rfl (vv_geq rfl rfl) ?_
      refine sd_done ?_
      refine sw_cond rfl (fun h3 => ?_) (fun h3 => ?_)
      · -- h3 True
        replace h3 := of_decide_eq_true h3
        refine sw_seq ?_
        -- region 8 bits.go:347
        refine sw_region [(0, 0), (1, 0), (2, 0)] rfl rfl rfl ?_
        refine sd_vv rfl rfl rfl (vv_move rfl) ?_
        refine sd_vv rfl rfl rfl (vv_shrN (n := 8) (m := 256) rfl rfl rfl (by decide)) ?_
        refine sd_vv rfl rfl rfl (vv_assign rfl) ?_
        refine sd_done ?_
        -- region 9 bits.go:348
        refine sw_region [(0, 0), (1, 0), (2, 0)] rfl rfl rfl ?_
        refine sd_vv rfl rfl rfl (vv_move rfl) ?_
        refine sd_vv rfl rfl rfl (vv_add64 rfl rfl (by omega) (by omega)) ?_
        refine sd_vv rfl rfl rfl (vv_assign rfl) ?_
        refine sd_done ?_
        refine sw_seq ?_
        -- region 10 bits.go:350
        refine sw_region [(0, 0), (1, 0), (2, 0), (3, 0), (4, 0), (5, 0), (6, 0)] rfl rfl rfl ?_
        refine sd_vv rfl rfl rfl (vv_move rfl) ?_
        refine sd_vv rfl rfl rfl (vv_move rfl) ?_
        refine sd_vv rfl rfl rfl (vv_convB cv_22_5 rfl (by omega) (by omega)) ?_
        refine sd_vv rfl rfl rfl (vv_eq (vv_ixStr Try.underlying9 rfl rfl (by omega) (show lenTab[_]? = _ from (lenTab_at (by omega) (by omega)).1)) (congrArg (Value.int .u8) (lenTab_at (by omega) (by omega)).2.symm)) ?_
        refine sd_vv rfl rfl rfl (vv_conv64 cv_5_3 rfl (lg_lo _) (lg_hi (by omega) (by omega))) ?_
        refine sd_vv rfl rfl rfl (vv_add64 rfl rfl (lg_add _ (by decide)) (lg_add2 (by omega) (by omega) (by decide))) ?_
        refine sd_vv rfl rfl rfl (vv_assign rfl) ?_
        refine sd_done ?_
        refine sw_ret ?_
        refine ⟨_, _, rfl, res_tmp rfl rfl, ?_⟩
        refine ⟨congrArg (Value.int .i64) ?_, (Gr.refl w)⟩
        have e0 : lg (a : Int) = lg ((a : Int) / 4294967296) + 32 := lg_shift (a : Int) 32 4294967296 (by decide) (by omega)
        have e1 : lg ((a : Int) / 4294967296) = lg (((a : Int) / 4294967296) / 65536) + 16 := lg_shift ((a : Int) / 4294967296) 16 65536 (by decide) (by omega)
        have e2 : lg (((a : Int) / 4294967296) / 65536) = lg ((((a : Int) / 4294967296) / 65536) / 256) + 8 := lg_shift (((a : Int) / 4294967296) / 65536) 8 256 (by decide) (by omega)
        omega
      · -- h3 False
        replace h3 := of_decide_eq_false h3
        refine sw_skip ?_
        refine then_n ?_
        refine sw_seq ?_
        -- region 10 bits.go:350
        refine sw_region [(0, 0), (1, 0), (2, 0), (3, 0), (4, 0), (5, 0), (6, 0)] rfl rfl rfl ?_
        refine sd_vv rfl rfl rfl (vv_move rfl) ?_
        refine sd_vv rfl rfl rfl (vv_move rfl) ?_
        refine sd_vv rfl rfl rfl (vv_convB cv_22_5 rfl (by omega) (by omega)) ?_
        refine sd_vv rfl rfl rfl (vv_eq (vv_ixStr Try.underlying9 rfl rfl (by omega) (show lenTab[_]? = _ from (lenTab_at (by omega) (by omega)).1)) (congrArg (Value.int .u8) (lenTab_at (by omega) (by omega)).2.symm)) ?_
        refine sd_vv rfl rfl rfl (vv_conv64 cv_5_3 rfl (lg_lo _) (lg_hi (by omega) (by omega))) ?_
        refine sd_vv rfl rfl rfl (vv_add64 rfl rfl (lg_add _ (by decide)) (lg_add2 (by omega) (by omega) (by decide))) ?_
        refine sd_vv rfl rfl rfl (vv_assign rfl) ?_
        refine sd_done ?_
        refine sw_ret ?_
        refine ⟨_, _, rfl, res_tmp rfl rfl, ?_⟩
        refine ⟨congrArg (Value.int .i64) ?_, (Gr.refl w)⟩
        have e0 : lg (a : Int) = lg ((a : Int) / 4294967296) + 32 := lg_shift (a : Int) 32 4294967296 (by decide) (by omega)
        have e1 : lg ((a : Int) / 4294967296) = lg (((a : Int) / 4294967296) / 65536) + 16 := lg_shift ((a : Int) / 4294967296) 16 65536 (by decide) (by omega)
        omega
    · -- h2 False
      replace h2 := of_decide_eq_false h2
      refine sw_skip ?_
      refine then_n ?_
      refine sw_seq ?_
      refine sw_seq ?_
      -- region 7 bits.go:346
      refine sw_region [(0, 0), (1, 0)] rfl rfl rfl ?_
      refine sd_vv rfl rfl rfl (vv_move rfl) ?_
      refine sd_vv rfl rfl rfl (vv_geq rfl rfl) ?_
      refine sd_done ?_
      refine sw_cond rfl (fun h4 => ?_) (fun h4 => ?_)
      · -- h4 True
        replace h4 := of_decide_eq_true h4
        refine sw_seq ?_
        -- region 8 bits.go:347
        refine sw_region [(0, 0), (1, 0), (2, 0)] rfl rfl rfl ?_
        refine sd_vv rfl rfl rfl (vv_move rfl) ?_
        refine sd_vv rfl rfl rfl (vv_shrN (n := 8) (m := 256) rfl rfl rfl (by decide)) ?_
        refine sd_vv rfl rfl rfl (vv_assign rfl) ?_
        refine sd_done ?_
        -- region 9 bits.go:348
        refine sw_region [(0, 0), (1, 0), (2, 0)] rfl rfl rfl ?_
        refine sd_vv rfl rfl rfl (vv_move rfl) ?_
        refine sd_vv rfl rfl rfl (vv_add64 rfl rfl (by omega) (by omega)) ?_
        refine sd_vv rfl rfl rfl (vv_assign rfl) ?_
        refine sd_done ?_
        refine sw_seq ?_
        -- region 10 bits.go:350
        refine sw_region [(0, 0), (1, 0), (2, 0), (3, 0), (4, 0), (5, 0), (6, 0)] rfl rfl rfl ?_
        refine sd_vv rfl rfl rfl (vv_move rfl) ?_
        refine sd_vv rfl rfl rfl (vv_move rfl) ?_
        refine sd_vv rfl rfl rfl (vv_convB cv_22_5 rfl (by omega) (by omega)) ?_
        refine sd_vv rfl rfl rfl (vv_eq (vv_ixStr Try.underlying9 rfl rfl (by omega) (show lenTab[_]? = _ from (lenTab_at (by omega) (by omega)).1)) (congrArg (Value.int .u8) (lenTab_at (by omega) (by omega)).2.symm)) ?_
        refine sd_vv rfl rfl rfl (vv_conv64 cv_5_3 rfl (lg_lo _) (lg_hi (by omega) (by omega))) ?_
        refine sd_vv rfl rfl rfl (vv_add64 rfl rfl (lg_add _ (by decide)) (lg_add2 (by omega) (by omega) (by decide))) ?_
        refine sd_vv rfl rfl rfl (vv_assign rfl) ?_
        refine sd_done ?_
        refine sw_ret ?_
        refine ⟨_, _, rfl, res_tmp rfl rfl, ?_⟩
        refine ⟨congrArg (Value.int .i64) ?_, (Gr.refl w)⟩
        have e0 : lg (a : Int) = lg ((a : Int) / 4294967296) + 32 := lg_shift (a : Int) 32 4294967296 (by decide) (by omega)
        have e1 : lg ((a : Int) / 4294967296) = lg (((a : Int) / 4294967296) / 256) + 8 := lg_shift ((a : Int) / 4294967296) 8 256 (by decide) (by omega)
        omega
      · -- h4 False
        replace h4 := of_decide_eq_false h4
        refine sw_skip ?_
        refine then_n ?_
        refine sw_seq ?_
        -- region 10 bits.go:350
        refine sw_region [(0, 0), (1, 0), (2, 0), (3, 0), (4, 0), (5, 0), (6, 0)] rfl rfl rfl ?_
        refine sd_vv rfl rfl rfl (vv_move rfl) ?_
        refine sd_vv rfl rfl rfl (vv_move rfl) ?_
        refine sd_vv rfl rfl rfl (vv_convB cv_22_5 rfl (by omega) (by omega)) ?_
        refine sd_vv rfl rfl rfl (vv_eq (vv_ixStr Try.underlying9 rfl rfl (by omega) (show lenTab[_]? = _ from (lenTab_at (by omega) (by omega)).1)) (congrArg (Value.int .u8) (lenTab_at (by omega) (by omega)).2.symm)) ?_
        refine sd_vv rfl rfl rfl (vv_conv64 cv_5_3 rfl (lg_lo _) (lg_hi (by omega) (by omega))) ?_
        refine sd_vv rfl rfl rfl (vv_add64 rfl rfl (lg_add _ (by decide)) (lg_add2 (by omega) (by omega) (by decide))) ?_
        refine sd_vv rfl rfl rfl (vv_assign rfl) ?_
        refine sd_done ?_
        refine sw_ret ?_
        refine ⟨_, _, rfl, res_tmp rfl rfl, ?_⟩
        refine ⟨congrArg (Value.int .i64) ?_, (Gr.refl w)⟩
        have e0 : lg (a : Int) = lg ((a : Int) / 4294967296) + 32 := lg_shift (a : Int) 32 4294967296 (by decide) (by omega)
        omega
  · -- h1 False
    replace h1 := of_decide_eq_false h1
    refine sw_skip ?_
    refine then_n ?_
    refine sw_seq ?_
    refine sw_seq ?_
    -- region 4 bits.go:342
    refine sw_region [(0, 0), (1, 0)] rfl rfl rfl ?_
    refine sd_vv rfl rfl rfl (vv_move rfl) ?_
    refine sd_vv rfl rfl rfl (vv_geq rfl rfl) ?_
    refine sd_done ?_
    refine sw_cond rfl (fun h5 => ?_) (fun h5 => ?_)
    · -- h5 True
      replace h5 := of_decide_eq_true h5
      refine sw_seq ?_
      -- region 5 bits.go:343
      refine sw_region [(0, 0), (1, 0), (2, 0)] rfl rfl rfl ?_
      refine sd_vv rfl rfl rfl (vv_move rfl) ?_
      refine sd_vv rfl rfl rfl (vv_shrN (n := 16) (m := 65536) rfl rfl rfl (by decide)) ?_
      refine sd_vv rfl rfl rfl (vv_assign rfl) ?_
      refine sd_done ?_
      -- region 6 bits.go:344
      refine sw_region [(0, 0), (1, 0), (2, 0)] rfl rfl rfl ?_
      refine sd_vv rfl rfl rfl (vv_move rfl) ?_
      refine sd_vv rfl rfl rfl (vv_add64 rfl rfl (by omega) (by omega)) ?_
      refine sd_vv rfl rfl rfl (vv_assign rfl) ?_
      refine sd_done ?_
      refine sw_seq ?_
      refine sw_seq ?_
      -- region 7 bits.go:346
      refine sw_region [(0, 0), (1, 0)] rfl rfl rfl ?_
      refine sd_vv rfl rfl rfl (vv_move rfl) ?_
      refine sd_vv rfl rfl rfl (vv_geq rfl rfl) ?_
      refine sd_done ?_
      refine sw_cond rfl (fun h6 => ?_) (fun h6 => ?_)
      · -- h6 True
        replace h6 := of_decide_eq_true h6
        refine sw_seq ?_
        -- region 8 bits.go:347
        refine sw_region [(0, 0), (1, 0), (2, 0)] rfl rfl rfl ?_
        refine sd_vv rfl rfl rfl (vv_move rfl) ?_
        refine sd_vv rfl rfl rfl (vv_shrN (n := 8) (m := 256) rfl rfl rfl (by decide)) ?_
        refine sd_vv rfl rfl rfl (vv_assign rfl) ?_
        refine sd_done ?_
        -- region 9 bits.go:348
        refine sw_region [(0, 0), (1, 0), (2, 0)] rfl rfl rfl ?_
        refine sd_vv rfl rfl rfl (vv_move rfl) ?_
        refine sd_vv rfl rfl rfl (vv_add64 rfl rfl (by omega) (by omega)) ?_
        refine sd_vv rfl rfl rfl (vv_assign rfl) ?_
        refine sd_done ?_
        refine sw_seq ?_
        -- region 10 bits.go:350
        refine sw_region [(0, 0), (1, 0), (2, 0), (3, 0), (4, 0), (5, 0), (6, 0)] rfl rfl rfl ?_
        refine sd_vv rfl rfl rfl (vv_move rfl) ?_
        refine sd_vv rfl rfl rfl (vv_move rfl) ?_
        refine sd_vv rfl rfl rfl (vv_convB cv_22_5 rfl (by omega) (by omega)) ?_
        refine sd_vv rfl rfl rfl (vv_eq (vv_ixStr Try.underlying9 rfl rfl (by omega) (show lenTab[_]? = _ from (lenTab_at (by omega) (by omega)).1)) (congrArg (Value.int .u8) (lenTab_at (by omega) (by omega)).2.symm)) ?_
        refine sd_vv rfl rfl rfl (vv_conv64 cv_5_3 rfl (lg_lo _) (lg_hi (by omega) (by omega))) ?_
        refine sd_vv rfl rfl rfl (vv_add64 rfl rfl (lg_add _ (by decide)) (lg_add2 (by omega) (by omega) (by decide))) ?_
        refine sd_vv rfl rfl rfl (vv_assign rfl) ?_
        refine sd_done ?_
        refine sw_ret ?_
        refine ⟨_, _, rfl, res_tmp rfl rfl, ?_⟩
        refine ⟨congrArg (Value.int .i64) ?_, (Gr.refl w)⟩
        have e0 : lg (a : Int) = lg ((a : Int) / 65536) + 16 := lg_shift (a : Int) 16 65536 (by decide) (by omega)
        have e1 : lg ((a : Int) / 65536) = lg (((a : Int) / 65536) / 256) + 8 := lg_shift ((a : Int) / 65536) 8 256 (by decide) (by omega)
        omega
      · -- h6 False
        replace h6 := of_decide_eq_false h6
        refine sw_skip ?_
        refine then_n ?_
        refine sw_seq ?_
        -- region 10 bits.go:350
        refine sw_region [(0, 0), (1, 0), (2, 0), (3, 0), (4, 0), (5, 0), (6, 0)] rfl rfl rfl ?_
        refine sd_vv rfl rfl rfl (vv_move rfl) ?_
        refine sd_vv rfl rfl rfl (vv_move rfl) ?_
        refine sd_vv rfl rfl rfl (vv_convB cv_22_5 rfl (by omega) (by omega)) ?_
        refine sd_vv rfl rfl rfl (vv_eq (vv_ixStr Try.underlying9 rfl rfl (by omega) (show lenTab[_]? = _ from (lenTab_at (by omega) (by omega)).1)) (congrArg (Value.int .u8) (lenTab_at (by omega) (by omega)).2.symm)) ?_
        refine sd_vv rfl rfl rfl (vv_conv64 cv_5_3 rfl (lg_lo _) (lg_hi (by omega) (by omega))) ?_
        refine sd_vv rfl rfl rfl (vv_add64 rfl rfl (lg_add _ (by decide)) (lg_add2 (by omega) (by omega) (by decide))) ?_
        refine sd_vv rfl rfl rfl (vv_assign rfl) ?_
        refine sd_done ?_
        refine sw_ret ?_
        refine ⟨_, _, rfl, res_tmp rfl rfl, ?_⟩
        refine ⟨congrArg (Value.int .i64) ?_, (Gr.refl w)⟩
        have e0 : lg (a : Int) = lg ((a : Int) / 65536) + 16 := lg_shift (a : Int) 16 65536 (by decide) (by omega)
        omega
    · -- h5 False
      replace h5 := of_decide_eq_false h5
      refine sw_skip ?_
      refine then_n ?_
      refine sw_seq ?_
      refine sw_seq ?_
      -- region 7 bits.go:346
      refine sw_region [(0, 0), (1, 0)] rfl rfl rfl ?_
      refine sd_vv rfl rfl rfl (vv_move rfl) ?_
      refine sd_vv rfl rfl rfl (vv_geq rfl rfl) ?_
      refine sd_done ?_
      refine sw_cond rfl (fun h7 => ?_) (fun h7 => ?_)
      · -- h7 True
        replace h7 := of_decide_eq_true h7
        refine sw_seq ?_
        -- region 8 bits.go:347
        refine sw_region [(0, 0), (1, 0), (2, 0)] rfl rfl rfl ?_
        refine sd_vv rfl rfl rfl (vv_move rfl) ?_
        refine sd_vv rfl rfl rfl (vv_shrN (n := 8) (m := 256) rfl rfl rfl (by decide)) ?_
        refine sd_vv rfl rfl rfl (vv_assign rfl) ?_
        refine sd_done ?_
        -- region 9 bits.go:348
        refine sw_region [(0, 0), (1, 0), (2, 0)] rfl rfl rfl ?_
        refine sd_vv rfl rfl rfl (vv_move rfl) ?_
        refine sd_vv rfl rfl rfl (vv_add64 rfl rfl (by omega) (by omega)) ?_
        refine sd_vv rfl rfl rfl (vv_assign rfl) ?_
        refine sd_done ?_
        refine sw_seq ?_
        -- region 10 bits.go:350
        refine sw_region [(0, 0), (1, 0), (2, 0), (3, 0), (4, 0), (5, 0), (6, 0)] rfl rfl rfl ?_
        refine sd_vv rfl rfl rfl (vv_move rfl) ?_
        refine sd_vv rfl rfl rfl (vv_move rfl) ?_
        refine sd_vv rfl rfl rfl (vv_convB cv_22_5 rfl (by omega) (by omega)) ?_
        refine sd_vv rfl rfl rfl (vv_eq (vv_ixStr Try.underlying9 rfl rfl (by omega) (show lenTab[_]? = _ from (lenTab_at (by omega) (by omega)).1)) (congrArg (Value.int .u8) (lenTab_at (by omega) (by omega)).2.symm)) ?_
        refine sd_vv rfl rfl rfl (vv_conv64 cv_5_3 rfl (lg_lo _) (lg_hi (by omega) (by omega))) ?_
        refine sd_vv rfl rfl rfl (vv_add64 rfl rfl (lg_add _ (by decide)) (lg_add2 (by omega) (by omega) (by decide))) ?_
        refine sd_vv rfl rfl rfl (vv_assign rfl) ?_
        refine sd_done ?_
        refine sw_ret ?_
        refine ⟨_, _, rfl, res_tmp rfl rfl, ?_⟩
        refine ⟨congrArg (Value.int .i64) ?_, (Gr.refl w)⟩
        have e0 : lg (a : Int) = lg ((a : Int) / 256) + 8 := lg_shift (a : Int) 8 256 (by decide) (by omega)
        omega
      · -- h7 False
        replace h7 := of_decide_eq_false h7
        refine sw_skip ?_
        refine then_n ?_
        refine sw_seq ?_
        -- region 10 bits.go:350
        refine sw_region [(0, 0), (1, 0), (2, 0), (3, 0), (4, 0), (5, 0), (6, 0)] rfl rfl rfl ?_
        refine sd_vv rfl rfl rfl (vv_move rfl) ?_
        refine sd_vv rfl rfl rfl (vv_move rfl) ?_
        refine sd_vv rfl rfl rfl (vv_convB cv_22_5 rfl (by omega) (by omega)) ?_
        refine sd_vv rfl rfl rfl (vv_eq (vv_ixStr Try.underlying9 rfl rfl (by omega) (show lenTab[_]? = _ from (lenTab_at (by omega) (by omega)).1)) (congrArg (Value.int .u8) (lenTab_at (by omega) (by omega)).2.symm)) ?_
        refine sd_vv rfl rfl rfl (vv_conv64 cv_5_3 rfl (lg_lo _) (lg_hi (by omega) (by omega))) ?_
        refine sd_vv rfl rfl rfl (vv_add64 rfl rfl (lg_add _ (by decide)) (lg_add2 (by omega) (by omega) (by decide))) ?_
        refine sd_vv rfl rfl rfl (vv_assign rfl) ?_
        refine sd_done ?_
        refine sw_ret ?_
        refine ⟨_, _, rfl, res_tmp rfl rfl, ?_⟩
        refine ⟨congrArg (Value.int .i64) ?_, (Gr.refl w)⟩
        omega
set_option maxHeartbeats 1000000 in
theorem len_c (a : Int) (ha1 : 0 ≤ a) (ha2 : a < 18446744073709551616) (w : World) :
    Calls Try.prog 104 [.int .u64 a].toArray w fun e w' => ∃ v, e = .returned v ∧ (v = .int .i64 (lg a) ∧ Gr w w') := by
  refine calls_of_sw (R := fun v w' => v = .int .i64 (lg a) ∧ Gr w w') 8 Try.func104 rfl rfl rfl ?_
  refine sw_seq ?_
  -- region 0 bits.go:302
  refine sw_region [(0, 0)] rfl rfl rfl ?_
  refine sd_vv rfl rfl rfl (vv_assign rfl) ?_
  refine sd_done ?_
  refine sw_seq ?_
  refine sw_condF rfl ?_
  refine sw_skip ?_
  refine then_n ?_
  refine sw_seq ?_
  -- region 2 bits.go:306
  refine sw_region [(0, 0), (1, 0), (2, 0)] rfl rfl rfl ?_
  refine sd_vv rfl rfl rfl (vv_move rfl) ?_
  refine sd_ev rfl rfl rfl (ev_call en_130 rfl (len64_c _ (by omega) (by omega) _)) ?_
  rintro _ w1 ⟨rfl, Gw1⟩
  have z1 := Gw1.size
  refine sd_vv rfl rfl rfl (vv_assign rfl) ?_
  refine sd_done ?_
  refine sw_ret ?_
  have X2 : Gr w w1 := (Gr.trans (Gr.refl w) Gw1)
  refine ⟨_, _, rfl, res_tmp rfl rfl, ?_⟩
  exact ⟨rfl, X2⟩
end Go.Proofs.Ytopkalcefepilaa

end
section
set_option linter.unusedVariables false
set_option linter.unusedSimpArgs false
namespace Go.Sx
open Go Go.RowKit Go.Proofs Go.Sort Go.Shelf
def Ws' (k : Nat) (xs : List (List Value)) : Prop := ∀ y ∈ xs, y.length = k
/-- what the sort leaves -/
theorem sortW {β : Type} [Inhabited β] (enc : β → List Value) (k : Nat) (hk : 1 ≤ k) (hc : ∀ b, (enc b).length = k) (w : World) (g n : Nat) (d : Array β) (os : Array Obj) (e : TypeId) (cur : Array Value) (hb : w.heap[g]? = some (.cells cur e (0, 0))) (hl : d.size * k ≤ cur.size) :
    ∃ cur' : Array Value, (sortWorldK enc k w g 0 n d os).heap[g]? = some (.cells cur' e (0, 0)) ∧ cur'.size = cur.size ∧ cur'.toList.take (d.size * k) = (d.toList.map enc).flatten ∧ Kz [(1, g)] w (sortWorldK enc k w g 0 n d os) := by
  have hlt : g < w.heap.size := (Array.getElem?_eq_some_iff.1 hb).1
  have hh : (sortWorldK enc k w g 0 n d os).heap = (w.heap.modify g (onCells (putCells id 0 (flatK enc k d)))) ++ os := rfl
  refine ⟨putCells id 0 (flatK enc k d) cur, ?_, by simp [putCells], ?_, ?_⟩
  · rw [hh, Array.getElem?_append_left (by simpa using hlt), Array.getElem?_modify, if_pos rfl, hb]; rfl
  · apply List.ext_getElem?
    intro t
    rw [List.getElem?_take]
    have hfl : ((d.toList.map enc).flatten).length = d.size * k := by
      have : Ws' k (d.toList.map enc) := by
        intro y hy; obtain ⟨b, _, rfl⟩ := List.mem_map.1 hy; exact hc b
      have h2 : ∀ (xs : List (List Value)), Ws' k xs → xs.flatten.length = xs.length * k := by
        intro xs
        induction xs with
        | nil => intro _; simp
        | cons a xs ih => intro h; rw [List.flatten_cons, List.length_append, ih (fun y hy => h y (List.mem_cons_of_mem _ hy)), h a (by simp), List.length_cons, Nat.add_mul]; omega
      rw [h2 _ this]; simp
    by_cases ht : t < d.size * k
    · rw [if_pos ht]
      have htc : t < cur.size := by omega
      have h3 : (putCells id 0 (flatK enc k d) cur).toList[t]? = some ((flatK enc k d)[t]!) := by
        simp only [putCells, Array.getElem?_toList, Array.getElem?_mapIdx, Array.getElem?_eq_getElem htc, Option.map_some, Nat.zero_le, true_and, Nat.zero_add, size_flatK, ht, if_true, Nat.sub_zero, id]
      rw [h3, get_flatK enc k d t ht]
      have hq : t / k < d.size := (Nat.div_lt_iff_lt_mul (by omega)).2 ht
      have hm : t % k < k := Nat.mod_lt _ (by omega)
      have hgen : ∀ (xs : List (List Value)), Ws' k xs → ∀ i j c, xs[i]? = some c → j < k → xs.flatten[i * k + j]? = c[j]? := by
        intro xs
        induction xs with
        | nil => intro _ i j c h; simp at h
        | cons a xs ih =>
          intro hw i j c h hj
          have ha := hw a (by simp)
          rw [List.flatten_cons]
          cases i with
          | zero => simp at h; subst h; rw [Nat.zero_mul, Nat.zero_add, List.getElem?_append_left (by omega)]
          | succ i =>
            rw [List.getElem?_append_right (by rw [ha, Nat.add_mul]; omega), show (i + 1) * k + j - a.length = i * k + j from by rw [ha, Nat.add_mul]; omega]
            exact ih (fun y hy => hw y (List.mem_cons_of_mem _ hy)) i j c (by simpa using h) hj
      have h4 := hgen (d.toList.map enc) (fun y hy => by obtain ⟨b, _, rfl⟩ := List.mem_map.1 hy; exact hc b) (t / k) (t % k) (enc d[t / k]!) (by simp [hq]) hm
      have hdm : t / k * k + t % k = t := by rw [Nat.mul_comm]; exact Nat.div_add_mod t k
      rw [hdm] at h4
      rw [h4]
      have h5 : t % k < (enc d[t / k]!).length := by rw [hc]; exact hm
      simp [h5]
    · rw [if_neg ht, List.getElem?_eq_none (by omega)]
  · refine ⟨rfl, rfl, rfl, by rw [hh]; simp, fun i hi hn => ?_⟩
    have hne : g ≠ i := by
      simp only [Nin] at hn
      rcases hn.1 with h | h
      · omega
      · exact fun e => h e.symm
    rw [hh, Array.getElem?_append_left (by simpa using hi), Array.getElem?_modify, if_neg hne]
section
variable {P : Program} {ρ : Ren}
/-- the shelf's contract, in the words of the mirrors -/
theorem sort_gen {β : Type} (c : β → List Value) (k : Nat) (hc : ∀ b, (c b).length = k) (h1 : ∀ b, ones (c b) = true) (hk : 1 ≤ k) (key : β → Int) (cf : Nat) (L : SlLaysF0.n6 P ρ) (aE : ∀ w, (isAgg (ρ.t 24)).run P w = .ok true w) (zE : ∀ w, (Go.sizeOf (ρ.t 24)).run P w = .ok k w)
    (eg : ∀ args w, (callFunc cf args).run P w = .ok (.enter cf args) w)
    (hcmp : ∀ (x y : β) (W : World), 0 ≤ key x ∧ key x < 4611686018427387904 → 0 ≤ key y ∧ key y < 4611686018427387904 → Calls P cf #[.agg (c x).toArray, .agg (c y).toArray] W fun e w' => e = .returned (.int .i64 (key x - key y)) ∧ ∃ q os', w' = grow (W.drewN q) os')
    {l m : List β} (hm : srtBy key l = some m) (w : World) (z g : Nat) (e : TypeId) (v : Value) (h : Own w z g e k v (l.map c)) :
    Calls P (ρ.f 6) #[v, .func (.func cf) #[] #[]] w fun e' w' => ∃ v', e' = .returned v' ∧ (Own w' z g e k v (m.map c) ∧ Kz [(z, g)] w w') := by
  obtain ⟨rfl, hbd, hnd, hlen⟩ := srtBy_eq hm
  rcases h.2 with ⟨hz, rfl, h0⟩ | ⟨hz, cap, cur, rfl, hb, hn, hcap, hsz, htk⟩
  · have hl0 : l = [] := by simpa using h0
    subst hl0
    refine (AnyF.slices_SortFunc_none L none 0 (.func (.func cf) #[] #[]) w).mono ?_
    rintro e' w' ⟨rfl, rfl⟩
    exact ⟨_, rfl, by simpa using h, Kz.refl _ _⟩
  · by_cases hl0 : l = []
    · subst hl0
      have : (([] : List β).map c).length = 0 := rfl
      rw [this]
      refine (AnyF.slices_SortFunc_none L (some ⟨g, 0, none⟩) cap (.func (.func cf) #[] #[]) w).mono ?_
      rintro e' w' ⟨rfl, rfl⟩
      exact ⟨_, rfl, by simpa using h, Kz.refl _ _⟩
    · obtain ⟨b0, hb0⟩ := List.exists_mem_of_ne_nil l hl0
      let A := { x : β // x ∈ l }
      letI : Inhabited A := ⟨⟨b0, hb0⟩⟩
      let enc : A → List Value := fun x => c x.1
      let d : Array A := l.attach.toArray
      let cfn : A → A → Int := fun x y => key x.1 - key y.1
      have hds : d.size = l.length := by show l.attach.toArray.size = l.length; simp
      have hlt : ∀ x y : A, ltOf cfn x y = decide (key x.1 < key y.1) := fun x y => by
        unfold ltOf; apply decide_eq_decide.2; show key x.1 - key y.1 < 0 ↔ _; omega
      have hO : SWO (ltOf cfn) := ⟨fun x => by rw [hlt]; simp, fun x y z h1 h2 => by rw [hlt] at *; simp at *; omega, fun x y z h1 h2 => by rw [hlt] at *; simp at *; omega⟩
      have hT : ∀ x y : A, ltOf cfn x y = false → ltOf cfn y x = false → x = y := fun x y h1 h2 => by
        rw [hlt] at h1 h2
        simp at h1 h2
        have he : key x.1 = key y.1 := by omega
        apply Subtype.ext
        obtain ⟨i, hi, ei⟩ := List.mem_iff_getElem.1 x.2
        obtain ⟨j, hj, ej⟩ := List.mem_iff_getElem.1 y.2
        have hij : i = j := (List.getElem_inj (h₀ := by simpa using hi) (h₁ := by simpa using hj) hnd).1 (by rw [List.getElem_map, List.getElem_map, ei, ej]; exact he)
        subst hij; rw [← ei, ← ej]
      have hmk : d.toList.map enc = l.map c := by
        show l.attach.toArray.toList.map (fun x : A => c x.1) = l.map c
        show List.map (fun x : { x : β // x ∈ l } => c x.1) l.attach = l.map c
        exact List.attach_map_val
      rw [List.length_map] at hn htk
      have hle : d.size * k ≤ cur.size := by rw [hds, hsz]; exact Nat.mul_le_mul_right _ hn
      have hH : HoldsK enc k w g 0 d := by
        intro j hj
        rw [size_flatK] at hj
        rw [get_flatK enc k d j hj]
        have hq : j / k < d.size := (Nat.div_lt_iff_lt_mul (by omega)).2 hj
        have hm' : j % k < k := Nat.mod_lt _ (by omega)
        have hcell : w.cell? ⟨g, 0 + j, none⟩ = cur[j]? := by rw [Nat.zero_add, cell_of_row w g j _ e _ hb]
        have hws : Ws k (l.map c) := h.1
        have hat := hws.at (j / k) (j % k) (c (l[j / k]'(by omega))) (by simp [show j / k < l.length by omega]) hm'
        have hdm : j / k * k + j % k = j := by rw [Nat.mul_comm]; exact Nat.div_add_mod j k
        rw [hdm, ← htk, List.getElem?_take, if_pos (by rw [hds] at hj; exact hj), Array.getElem?_toList] at hat
        have hdj : enc d[j / k]! = c (l[j / k]'(by omega)) := by
          have : d[j / k]! = ⟨l[j / k]'(by omega), List.getElem_mem _⟩ := by
            have hjl : j / k < d.size := hq
            rw [getElem!_pos d (j / k) hjl]
            show (l.attach.toArray)[j / k]'(by simpa using (show j / k < l.length by omega)) = _
            simp
          rw [this]
        refine ⟨?_, ?_⟩
        · rw [hcell, hat, hdj]
          have h5 : j % k < (c (l[j / k]'(by omega))).length := by rw [hc]; exact hm'
          simp [h5]
        · simp [World.frozen?, hb]
      have hcl : CmpLays P cf #[] enc k cfn g 0 d.size w := fun mm os dk hs x y => by
        have := hcmp x.1 y.1 (sortWorldK enc k w g 0 mm dk os) (hbd _ x.2) (hbd _ y.2)
        simpa [enc, cfn] using this
      have hone : ∀ x : A, ∀ u ∈ enc x, u.oneCell' = true := fun x u hu => by
        have hws : Ws k (l.map c) := h.1
        exact hws.one u (List.mem_flatten.2 ⟨c x.1, List.mem_map.2 ⟨x.1, x.2, rfl⟩, hu⟩)
      have := AnyQ.slices_SortFunc_total L k aE zE enc (fun x => hc x.1) hone cfn hO cf #[] g 0 cap d w eg hcl hH (Array.getElem?_eq_some_iff.1 hb).1 (by omega) hT
      rw [hds] at this
      rw [List.length_map]
      refine this.mono ?_
      rintro e' w' ⟨rfl, n, os, rfl⟩
      have hms : (d.toList.mergeSort fun x y => !(ltOf cfn) y x).map enc = (l.mergeSort fun a b => decide (key a ≤ key b)).map c := by
        have e1 : (d.toList.mergeSort fun x y => !(ltOf cfn) y x).map Subtype.val = (l.mergeSort fun a b => decide (key a ≤ key b)) := by
          rw [List.map_mergeSort (s := fun a b => decide (key a ≤ key b)) (fun a _ b _ => by rw [hlt]; by_cases hh : key b.1 < key a.1 <;> simp [hh] <;> omega)]
          congr 1
          show List.map Subtype.val l.attach = l
          simp
        rw [← e1, List.map_map]; rfl
      have hsl : (d.toList.mergeSort fun x y => !(ltOf cfn) y x).toArray.size = l.length := by rw [List.size_toArray, List.length_mergeSort]; exact hds
      obtain ⟨cur', q1, q2, q3, q4⟩ := sortW enc k hk (fun x => hc x.1) w g n (d.toList.mergeSort fun x y => !(ltOf cfn) y x).toArray os e cur hb (by rw [hsl, ← hds]; exact hle)
      rw [hsl, List.toList_toArray, hms] at q3
      refine ⟨_, rfl, ⟨?_, .inr ⟨hz, cap, cur', ?_, q1, ?_, ?_, ?_, ?_⟩⟩, by rw [hz]; exact q4⟩
      · exact ws_map' fun x _ => ⟨hc x, h1 x⟩
      · rw [List.length_map, List.length_mergeSort]
      · rw [List.length_map, List.length_mergeSort]; exact hn
      · exact hcap
      · rw [q2]; exact hsz
      · rw [List.length_map, List.length_mergeSort]; exact q3
end
end Go.Sx

end
section
set_option linter.unusedVariables false
set_option linter.unusedSimpArgs false
set_option maxRecDepth 100000
namespace Go.Proofs.Ytopkalcefepilaa.Mx
open Go Go.RowKit Go.Sx Go.Proofs Go.Shelf Go.Lib Go.Sort
def laySub_ren : Go.Shelf.Ren := ⟨fun | 6 => 69 | 15 => 104 | 14 => 103 | 28 => 129 | 29 => 130 | 20 => 121 | 21 => 122 | 22 => 123 | 23 => 124 | 24 => 125 | 25 => 126 | 26 => 127 | 27 => 128 | 46 => 139 | 47 => 140 | 48 => 141 | 49 => 142 | 50 => 143 | 57 => 148 | n => n, fun | 22 => 74 | 24 => 114 | 25 => 124 | 3 => 3 | 39 => 118 | 0 => 0 | 53 => 178 | 55 => 22 | 4 => 4 | 46 => 171 | 45 => 170 | 50 => 175 | 5 => 5 | 9 => 9 | 66 => 183 | 70 => 187 | 76 => 190 | 77 => 30 | n => n, fun | n => n⟩
theorem laySub : Go.Proofs.SlLaysF0.n6 Try.prog laySub_ren := {
  mixed := by kernel_rfl
  f6 := ⟨Try.f69.name, by decide, Try.func69.trans (congrArg some (by kernel_rfl))⟩
  f14 := ⟨Try.f103.name, by decide, Try.func103.trans (congrArg some (by kernel_rfl))⟩
  f15 := Try.func104.trans (congrArg some (by kernel_rfl))
  f20 := ⟨Try.f121.name, by decide, Try.func121.trans (congrArg some (by kernel_rfl))⟩
  f21 := ⟨Try.f122.name, by decide, Try.func122.trans (congrArg some (by kernel_rfl))⟩
  f22 := ⟨Try.f123.name, by decide, Try.func123.trans (congrArg some (by kernel_rfl))⟩
  f23 := ⟨Try.f124.name, by decide, Try.func124.trans (congrArg some (by kernel_rfl))⟩
  f24 := ⟨Try.f125.name, by decide, Try.func125.trans (congrArg some (by kernel_rfl))⟩
  f25 := ⟨Try.f126.name, by decide, Try.func126.trans (congrArg some (by kernel_rfl))⟩
  f26 := ⟨Try.f127.name, by decide, Try.func127.trans (congrArg some (by kernel_rfl))⟩
  f27 := ⟨Try.f128.name, by decide, Try.func128.trans (congrArg some (by kernel_rfl))⟩
  f28 := Try.func129.trans (congrArg some (by kernel_rfl))
  f29 := Try.func130.trans (congrArg some (by kernel_rfl))
  f46 := ⟨Try.f139.name, by decide, Try.func139.trans (congrArg some (by kernel_rfl))⟩
  f47 := Try.func140.trans (congrArg some (by kernel_rfl))
  f48 := Try.func141.trans (congrArg some (by kernel_rfl))
  f49 := ⟨Try.f142.name, by decide, Try.func142.trans (congrArg some (by kernel_rfl))⟩
  f50 := ⟨Try.f143.name, by decide, Try.func143.trans (congrArg some (by kernel_rfl))⟩
  f57 := ⟨Try.f148.name, by decide, Try.func148.trans (congrArg some (by kernel_rfl))⟩
  t0 := Try.underlying0
  a0 := Try.isAgg0
  z0 := Try.sizeOf0
  v0 := Try.zeroValue0
  t3 := Try.underlying3
  a3 := Try.isAgg3
  z3 := Try.sizeOf3
  v3 := Try.zeroValue3
  t4 := Try.underlying4
  a4 := Try.isAgg4
  z4 := Try.sizeOf4
  v4 := Try.zeroValue4
  t5 := Try.underlying5
  a5 := Try.isAgg5
  z5 := Try.sizeOf5
  v5 := Try.zeroValue5
  t9 := Try.underlying9
  a9 := Try.isAgg9
  z9 := Try.sizeOf9
  v9 := Try.zeroValue9
  t22 := Try.underlying74
  a22 := Try.isAgg74
  z22 := Try.sizeOf74
  v22 := Try.zeroValue74
  t25 := Try.underlying124
  a25 := Try.isAgg124
  z25 := Try.sizeOf124
  v25 := Try.zeroValue124
  t39 := Try.underlying118
  a39 := Try.isAgg118
  z39 := Try.sizeOf118
  v39 := Try.zeroValue118
  t45 := Try.underlying170
  a45 := Try.isAgg170
  z45 := Try.sizeOf170
  v45 := Try.zeroValue170
  t46 := Try.underlying171
  a46 := Try.isAgg171
  z46 := Try.sizeOf171
  v46 := Try.zeroValue171
  t50 := Try.underlying175
  a50 := Try.isAgg175
  z50 := Try.sizeOf175
  v50 := Try.zeroValue175
  t53 := Try.underlying178
  a53 := Try.isAgg178
  z53 := Try.sizeOf178
  v53 := Try.zeroValue178
  t55 := Try.underlying22
  a55 := Try.isAgg22
  z55 := Try.sizeOf22
  v55 := Try.zeroValue22
  t66 := Try.underlying183
  a66 := Try.isAgg183
  z66 := Try.sizeOf183
  v66 := Try.zeroValue183
  t70 := Try.underlying187
  a70 := Try.isAgg187
  z70 := Try.sizeOf187
  v70 := Try.zeroValue187
  t76 := Try.underlying190
  a76 := Try.isAgg190
  z76 := Try.sizeOf190
  v76 := Try.zeroValue190
  t77 := Try.underlying30
  a77 := Try.isAgg30
  z77 := Try.sizeOf30
  v77 := Try.zeroValue30 }
theorem w64_sub {a b : Int} (ha : 0 ≤ a ∧ a < 4611686018427387904) (hb : 0 ≤ b ∧ b < 4611686018427387904) : IntKind.i64.wrap (a - b) = a - b := by rw [IntKind.wrap_i64]; omega
set_option maxHeartbeats 1000000 in
theorem cloSub (x y : TSubset) (W : World) (hx : 0 ≤ x.Node ∧ x.Node < 4611686018427387904) (hy : 0 ≤ y.Node ∧ y.Node < 4611686018427387904) : Calls Try.prog 70 #[.agg #[.int .i64 x.Node, .int .i64 x.Minus], .agg #[.int .i64 y.Node, .int .i64 y.Minus]] W fun e w' => e = .returned (.int .i64 (x.Node - y.Node)) ∧ ∃ q os', w' = grow (W.drewN q) os' := by
  have hw := w64_sub hx hy
  go_enter Try.func70, Try.ntmps70
  go_wp2
  go_ret
  exact ⟨rfl, 0, _, by rw [alloc_eq_grow, alloc_eq_grow, grow_grow]; rfl⟩
theorem sortSub_c {l m : List TSubset} (hm : srtBy TSubset.Node l = some m) (w : World) (z g : Nat) (v : Value) (h : Own w z g 114 2 v (l.map TSubset.cs)) : Calls Try.prog 69 [v, .func (.func 70) #[] #[]].toArray w fun e' w' => ∃ v', e' = .returned v' ∧ (Own w' z g 114 2 v (m.map TSubset.cs) ∧ Kz [(z, g)] w w') :=
  sort_gen (ρ := laySub_ren) TSubset.cs 2 (fun _ => rfl) (fun x => TSubset.cs_ones x) (by decide) TSubset.Node 70 laySub (fun _ => by kernel_rfl) (fun _ => by kernel_rfl) (fun _ _ => by kernel_rfl) (fun x y W hx hy => cloSub x y W hx hy) hm w z g 114 v h
end Go.Proofs.Ytopkalcefepilaa.Mx

end
section
set_option linter.unusedVariables false
set_option linter.unusedSimpArgs false
namespace Go.Sx
open Go
theorem fuel_lt {n : Nat} (h : n < 9223372036854775808) : n < FUEL := by unfold FUEL; omega
theorem w64_id {n : Int} (h0 : -9223372036854775808 ≤ n) (h1 : n ≤ 9223372036854775807) : w64 n = n := by
  have := IntKind.wrap_i64 n
  unfold w64; rw [this]; omega
theorem bind_some {α β : Type} (a : α) (f : α → Option β) : Option.bind (some a) f = f a := rfl
theorem appG_some {α : Type} {b : Nat} {l m : List α} (h : (l.length + m.length) * b ≤ 140737488355328) : appG b l m = some (l ++ m) := if_pos h
theorem getI_some {α : Type} {l : List α} {i : Nat} (h : i < l.length) : getI l (i : Int) = some l[i] := by unfold getI; rw [if_pos (by omega)]; simp [h]
/-- the bytes of a word, the highest first -/
def w8 (x : BitVec 64) : List (BitVec 8) := [byt x 0, byt x 1, byt x 2, byt x 3, byt x 4, byt x 5, byt x 6, byt x 7]
end Go.Sx

end
section
set_option linter.unusedVariables false
set_option linter.unusedSimpArgs false
set_option maxRecDepth 100000
namespace Go.Sx.Pn
open Go Go.Sx
def sch (k d : Nat) : TScheme := ⟨BitVec.ofNat 8 k, (d : Int), 0, ⟨0#64, 0#64, 0#64⟩⟩
def tb_1_0 : Tplan_tables := ⟨sch 1 0, 1, ⟨[1, 0], [], [], []⟩, 1⟩
theorem nt_1_0 : plan_newTables (sch 1 0) = some tb_1_0 := by kernel_rfl
def tb_1_1 : Tplan_tables := ⟨sch 1 1, 1, ⟨[1, 0, 1, 1, 0], [], [], []⟩, 1⟩
theorem nt_1_1 : plan_newTables (sch 1 1) = some tb_1_1 := by kernel_rfl
def tb_1_2 : Tplan_tables := ⟨sch 1 2, 2, ⟨[1, 0, 1, 1, 0, 1, 2, 2, 1, 0], [], [], []⟩, 1⟩
theorem nt_1_2 : plan_newTables (sch 1 2) = some tb_1_2 := by kernel_rfl
def tb_1_3 : Tplan_tables := ⟨sch 1 3, 2, ⟨[1, 0, 1, 1, 0, 1, 2, 2, 1, 0, 1, 3, 4, 4, 4, 3, 2, 1, 0], [], [], []⟩, 1⟩
theorem nt_1_3 : plan_newTables (sch 1 3) = some tb_1_3 := by kernel_rfl
def tb_1_4 : Tplan_tables := ⟨sch 1 4, 2, ⟨[1, 0, 1, 1, 0, 1, 2, 2, 1, 0, 1, 3, 4, 4, 4, 3, 2, 1, 0, 1, 4, 6, 7, 8, 8, 8, 8, 8, 7, 6, 5, 4, 3, 2, 1, 0], [], [], []⟩, 1⟩
theorem nt_1_4 : plan_newTables (sch 1 4) = some tb_1_4 := by kernel_rfl
def tb_1_5 : Tplan_tables := ⟨sch 1 5, 3, ⟨[1, 0, 1, 1, 0, 1, 2, 2, 1, 0, 1, 3, 4, 4, 4, 3, 2, 1, 0, 1, 4, 6, 7, 8, 8, 8, 8, 8, 7, 6, 5, 4, 3, 2, 1, 0, 1, 5, 8, 10, 12, 13, 14, 15, 16, 16, 16, 16, 16, 16, 16, 16, 16, 15, 14, 13, 12, 11, 10, 9, 8, 7, 6, 5, 4, 3, 2, 1, 0], [], [], []⟩, 1⟩
theorem nt_1_5 : plan_newTables (sch 1 5) = some tb_1_5 := by kernel_rfl
def tb_1_6 : Tplan_tables := ⟨sch 1 6, 3, ⟨[1, 0, 1, 1, 0, 1, 2, 2, 1, 0, 1, 3, 4, 4, 4, 3, 2, 1, 0, 1, 4, 6, 7, 8, 8, 8, 8, 8, 7, 6, 5, 4, 3, 2, 1, 0, 1, 5, 8, 10, 12, 13, 14, 15, 16, 16, 16, 16, 16, 16, 16, 16, 16, 15, 14, 13, 12, 11, 10, 9, 8, 7, 6, 5, 4, 3, 2, 1, 0, 1, 6, 10, 13, 16, 18, 20, 22, 24, 25, 26, 27, 28, 29, 30, 31, 32, 32, 32, 32, 32, 32, 32, 32, 32, 32, 32, 32, 32, 32, 32, 32, 32, 31, 30, 29, 28, 27, 26, 25, 24, 23, 22, 21, 20, 19, 18, 17, 16, 15, 14, 13, 12, 11, 10, 9, 8, 7, 6, 5, 4, 3, 2, 1, 0], [], [], []⟩, 1⟩
theorem nt_1_6 : plan_newTables (sch 1 6) = some tb_1_6 := by kernel_rfl
def tb_2_0 : Tplan_tables := ⟨sch 2 0, 1, ⟨[0, 0], [0, 1], [], []⟩, 2⟩
theorem nt_2_0 : plan_newTables (sch 2 0) = some tb_2_0 := by kernel_rfl
def tb_2_1 : Tplan_tables := ⟨sch 2 1, 1, ⟨[0, 0, 0, 1, 0], [0, 1, 0, 1, 1], [], []⟩, 2⟩
theorem nt_2_1 : plan_newTables (sch 2 1) = some tb_2_1 := by kernel_rfl
def tb_2_2 : Tplan_tables := ⟨sch 2 2, 2, ⟨[0, 0, 0, 1, 0, 0, 1, 2, 1, 0], [0, 1, 0, 1, 1, 0, 1, 3, 2, 1], [], []⟩, 2⟩
theorem nt_2_2 : plan_newTables (sch 2 2) = some tb_2_2 := by kernel_rfl
def tb_2_3 : Tplan_tables := ⟨sch 2 3, 2, ⟨[0, 0, 0, 1, 0, 0, 1, 2, 1, 0, 0, 1, 3, 3, 4, 3, 2, 1, 0], [0, 1, 0, 1, 1, 0, 1, 3, 2, 1, 0, 1, 3, 4, 5, 4, 3, 2, 1], [], []⟩, 2⟩
theorem nt_2_3 : plan_newTables (sch 2 3) = some tb_2_3 := by kernel_rfl
def tb_2_4 : Tplan_tables := ⟨sch 2 4, 2, ⟨[0, 0, 0, 1, 0, 0, 1, 2, 1, 0, 0, 1, 3, 3, 4, 3, 2, 1, 0, 0, 1, 3, 4, 6, 6, 7, 7, 8, 7, 6, 5, 4, 3, 2, 1, 0], [0, 1, 0, 1, 1, 0, 1, 3, 2, 1, 0, 1, 3, 4, 5, 4, 3, 2, 1, 0, 1, 3, 5, 7, 7, 8, 8, 9, 8, 7, 6, 5, 4, 3, 2, 1], [], []⟩, 2⟩
theorem nt_2_4 : plan_newTables (sch 2 4) = some tb_2_4 := by kernel_rfl
def tb_2_5 : Tplan_tables := ⟨sch 2 5, 3, ⟨[0, 0, 0, 1, 0, 0, 1, 2, 1, 0, 0, 1, 3, 3, 4, 3, 2, 1, 0, 0, 1, 3, 4, 6, 6, 7, 7, 8, 7, 6, 5, 4, 3, 2, 1, 0, 0, 1, 3, 5, 7, 7, 9, 10, 12, 12, 13, 13, 14, 14, 15, 15, 16, 15, 14, 13, 12, 11, 10, 9, 8, 7, 6, 5, 4, 3, 2, 1, 0], [0, 1, 0, 1, 1, 0, 1, 3, 2, 1, 0, 1, 3, 4, 5, 4, 3, 2, 1, 0, 1, 3, 5, 7, 7, 8, 8, 9, 8, 7, 6, 5, 4, 3, 2, 1, 0, 1, 3, 5, 7, 8, 10, 11, 13, 13, 14, 14, 15, 15, 16, 16, 17, 16, 15, 14, 13, 12, 11, 10, 9, 8, 7, 6, 5, 4, 3, 2, 1], [], []⟩, 2⟩
theorem nt_2_5 : plan_newTables (sch 2 5) = some tb_2_5 := by kernel_rfl
def tb_2_6 : Tplan_tables := ⟨sch 2 6, 3, ⟨[0, 0, 0, 1, 0, 0, 1, 2, 1, 0, 0, 1, 3, 3, 4, 3, 2, 1, 0, 0, 1, 3, 4, 6, 6, 7, 7, 8, 7, 6, 5, 4, 3, 2, 1, 0, 0, 1, 3, 5, 7, 7, 9, 10, 12, 12, 13, 13, 14, 14, 15, 15, 16, 15, 14, 13, 12, 11, 10, 9, 8, 7, 6, 5, 4, 3, 2, 1, 0, 0, 1, 3, 5, 7, 8, 10, 12, 14, 14, 16, 17, 19, 19, 21, 22, 24, 24, 25, 25, 26, 26, 27, 27, 28, 28, 29, 29, 30, 30, 31, 31, 32, 31, 30, 29, 28, 27, 26, 25, 24, 23, 22, 21, 20, 19, 18, 17, 16, 15, 14, 13, 12, 11, 10, 9, 8, 7, 6, 5, 4, 3, 2, 1, 0], [0, 1, 0, 1, 1, 0, 1, 3, 2, 1, 0, 1, 3, 4, 5, 4, 3, 2, 1, 0, 1, 3, 5, 7, 7, 8, 8, 9, 8, 7, 6, 5, 4, 3, 2, 1, 0, 1, 3, 5, 7, 8, 10, 11, 13, 13, 14, 14, 15, 15, 16, 16, 17, 16, 15, 14, 13, 12, 11, 10, 9, 8, 7, 6, 5, 4, 3, 2, 1, 0, 1, 3, 5, 7, 9, 11, 13, 15, 15, 17, 18, 20, 20, 22, 23, 25, 25, 26, 26, 27, 27, 28, 28, 29, 29, 30, 30, 31, 31, 32, 32, 33, 32, 31, 30, 29, 28, 27, 26, 25, 24, 23, 22, 21, 20, 19, 18, 17, 16, 15, 14, 13, 12, 11, 10, 9, 8, 7, 6, 5, 4, 3, 2, 1], [], []⟩, 2⟩
theorem nt_2_6 : plan_newTables (sch 2 6) = some tb_2_6 := by kernel_rfl
def tb_3_0 : Tplan_tables := ⟨sch 3 0, 1, ⟨[0, 0], [0, 1], [0, 1], [0, 2]⟩, 4⟩
theorem nt_3_0 : plan_newTables (sch 3 0) = some tb_3_0 := by kernel_rfl
def tb_3_1 : Tplan_tables := ⟨sch 3 1, 1, ⟨[0, 0, 0, 1, 0], [0, 1, 0, 1, 1], [0, 1, 0, 2, 1], [0, 2, 0, 2, 2]⟩, 4⟩
theorem nt_3_1 : plan_newTables (sch 3 1) = some tb_3_1 := by kernel_rfl
def tb_3_2 : Tplan_tables := ⟨sch 3 2, 2, ⟨[0, 0, 0, 1, 0, 0, 1, 2, 1, 0], [0, 1, 0, 1, 1, 0, 1, 3, 2, 1], [0, 1, 0, 1, 1, 0, 2, 3, 2, 1], [0, 2, 0, 2, 2, 0, 2, 4, 3, 2]⟩, 4⟩
theorem nt_3_2 : plan_newTables (sch 3 2) = some tb_3_2 := by kernel_rfl
def tb_3_3 : Tplan_tables := ⟨sch 3 3, 2, ⟨[0, 0, 0, 1, 0, 0, 2, 2, 1, 0, 0, 1, 4, 4, 4, 3, 2, 1, 0], [0, 1, 0, 1, 1, 0, 1, 3, 2, 1, 0, 1, 5, 5, 5, 4, 3, 2, 1], [0, 1, 0, 2, 1, 0, 2, 3, 2, 1, 0, 2, 5, 5, 5, 4, 3, 2, 1], [0, 2, 0, 2, 2, 0, 2, 4, 3, 2, 0, 2, 6, 6, 6, 5, 4, 3, 2]⟩, 4⟩
theorem nt_3_3 : plan_newTables (sch 3 3) = some tb_3_3 := by kernel_rfl
def tb_3_4 : Tplan_tables := ⟨sch 3 4, 2, ⟨[0, 0, 0, 1, 0, 0, 1, 2, 1, 0, 0, 2, 3, 3, 4, 3, 2, 1, 0, 0, 1, 4, 5, 6, 6, 7, 7, 8, 7, 6, 5, 4, 3, 2, 1, 0], [0, 1, 0, 1, 1, 0, 1, 3, 2, 1, 0, 1, 3, 4, 5, 4, 3, 2, 1, 0, 1, 5, 6, 7, 7, 8, 8, 9, 8, 7, 6, 5, 4, 3, 2, 1], [0, 1, 0, 1, 1, 0, 2, 3, 2, 1, 0, 2, 3, 4, 5, 4, 3, 2, 1, 0, 2, 5, 6, 7, 7, 8, 8, 9, 8, 7, 6, 5, 4, 3, 2, 1], [0, 2, 0, 2, 2, 0, 2, 4, 3, 2, 0, 2, 4, 5, 6, 5, 4, 3, 2, 0, 2, 6, 7, 8, 8, 9, 9, 10, 9, 8, 7, 6, 5, 4, 3, 2]⟩, 4⟩
theorem nt_3_4 : plan_newTables (sch 3 4) = some tb_3_4 := by kernel_rfl
def tb_3_5 : Tplan_tables := ⟨sch 3 5, 3, ⟨[0, 0, 0, 1, 0, 0, 1, 2, 1, 0, 0, 2, 3, 3, 4, 3, 2, 1, 0, 0, 2, 4, 5, 6, 6, 7, 7, 8, 7, 6, 5, 4, 3, 2, 1, 0, 0, 1, 5, 6, 8, 9, 10, 11, 12, 12, 13, 13, 14, 14, 15, 15, 16, 15, 14, 13, 12, 11, 10, 9, 8, 7, 6, 5, 4, 3, 2, 1, 0], [0, 1, 0, 1, 1, 0, 1, 3, 2, 1, 0, 1, 3, 4, 5, 4, 3, 2, 1, 0, 1, 5, 6, 7, 7, 8, 8, 9, 8, 7, 6, 5, 4, 3, 2, 1, 0, 1, 5, 7, 9, 10, 11, 12, 13, 13, 14, 14, 15, 15, 16, 16, 17, 16, 15, 14, 13, 12, 11, 10, 9, 8, 7, 6, 5, 4, 3, 2, 1], [0, 1, 0, 1, 1, 0, 2, 3, 2, 1, 0, 2, 3, 4, 5, 4, 3, 2, 1, 0, 2, 5, 6, 7, 7, 8, 8, 9, 8, 7, 6, 5, 4, 3, 2, 1, 0, 2, 6, 7, 9, 10, 11, 12, 13, 13, 14, 14, 15, 15, 16, 16, 17, 16, 15, 14, 13, 12, 11, 10, 9, 8, 7, 6, 5, 4, 3, 2, 1], [0, 2, 0, 2, 2, 0, 2, 4, 3, 2, 0, 2, 4, 5, 6, 5, 4, 3, 2, 0, 2, 6, 7, 8, 8, 9, 9, 10, 9, 8, 7, 6, 5, 4, 3, 2, 0, 2, 6, 8, 10, 11, 12, 13, 14, 14, 15, 15, 16, 16, 17, 17, 18, 17, 16, 15, 14, 13, 12, 11, 10, 9, 8, 7, 6, 5, 4, 3, 2]⟩, 4⟩
theorem nt_3_5 : plan_newTables (sch 3 5) = some tb_3_5 := by kernel_rfl
def tb_3_6 : Tplan_tables := ⟨sch 3 6, 3, ⟨[0, 0, 0, 1, 0, 0, 1, 2, 1, 0, 0, 1, 3, 3, 4, 3, 2, 1, 0, 0, 2, 4, 4, 6, 6, 7, 7, 8, 7, 6, 5, 4, 3, 2, 1, 0, 0, 2, 4, 6, 8, 8, 10, 10, 12, 12, 13, 13, 14, 14, 15, 15, 16, 15, 14, 13, 12, 11, 10, 9, 8, 7, 6, 5, 4, 3, 2, 1, 0, 0, 1, 5, 7, 9, 10, 12, 14, 16, 16, 18, 18, 20, 20, 22, 22, 24, 24, 25, 25, 26, 26, 27, 27, 28, 28, 29, 29, 30, 30, 31, 31, 32, 31, 30, 29, 28, 27, 26, 25, 24, 23, 22, 21, 20, 19, 18, 17, 16, 15, 14, 13, 12, 11, 10, 9, 8, 7, 6, 5, 4, 3, 2, 1, 0], [0, 1, 0, 1, 1, 0, 1, 3, 2, 1, 0, 1, 3, 4, 5, 4, 3, 2, 1, 0, 1, 3, 5, 7, 7, 8, 8, 9, 8, 7, 6, 5, 4, 3, 2, 1, 0, 1, 5, 7, 9, 9, 11, 11, 13, 13, 14, 14, 15, 15, 16, 16, 17, 16, 15, 14, 13, 12, 11, 10, 9, 8, 7, 6, 5, 4, 3, 2, 1, 0, 1, 5, 7, 9, 11, 13, 15, 17, 17, 19, 19, 21, 21, 23, 23, 25, 25, 26, 26, 27, 27, 28, 28, 29, 29, 30, 30, 31, 31, 32, 32, 33, 32, 31, 30, 29, 28, 27, 26, 25, 24, 23, 22, 21, 20, 19, 18, 17, 16, 15, 14, 13, 12, 11, 10, 9, 8, 7, 6, 5, 4, 3, 2, 1], [0, 1, 0, 1, 1, 0, 1, 3, 2, 1, 0, 2, 4, 4, 5, 4, 3, 2, 1, 0, 2, 4, 5, 7, 7, 8, 8, 9, 8, 7, 6, 5, 4, 3, 2, 1, 0, 2, 5, 7, 9, 9, 11, 11, 13, 13, 14, 14, 15, 15, 16, 16, 17, 16, 15, 14, 13, 12, 11, 10, 9, 8, 7, 6, 5, 4, 3, 2, 1, 0, 2, 6, 8, 10, 11, 13, 15, 17, 17, 19, 19, 21, 21, 23, 23, 25, 25, 26, 26, 27, 27, 28, 28, 29, 29, 30, 30, 31, 31, 32, 32, 33, 32, 31, 30, 29, 28, 27, 26, 25, 24, 23, 22, 21, 20, 19, 18, 17, 16, 15, 14, 13, 12, 11, 10, 9, 8, 7, 6, 5, 4, 3, 2, 1], [0, 2, 0, 2, 2, 0, 2, 4, 3, 2, 0, 2, 4, 5, 6, 5, 4, 3, 2, 0, 2, 4, 6, 8, 8, 9, 9, 10, 9, 8, 7, 6, 5, 4, 3, 2, 0, 2, 6, 8, 10, 10, 12, 12, 14, 14, 15, 15, 16, 16, 17, 17, 18, 17, 16, 15, 14, 13, 12, 11, 10, 9, 8, 7, 6, 5, 4, 3, 2, 0, 2, 6, 8, 10, 12, 14, 16, 18, 18, 20, 20, 22, 22, 24, 24, 26, 26, 27, 27, 28, 28, 29, 29, 30, 30, 31, 31, 32, 32, 33, 33, 34, 33, 32, 31, 30, 29, 28, 27, 26, 25, 24, 23, 22, 21, 20, 19, 18, 17, 16, 15, 14, 13, 12, 11, 10, 9, 8, 7, 6, 5, 4, 3, 2]⟩, 4⟩
theorem nt_3_6 : plan_newTables (sch 3 6) = some tb_3_6 := by kernel_rfl
def tb (k d : Nat) : Tplan_tables := match k, d with
  | 1, 0 => tb_1_0
  | 1, 1 => tb_1_1
  | 1, 2 => tb_1_2
  | 1, 3 => tb_1_3
  | 1, 4 => tb_1_4
  | 1, 5 => tb_1_5
  | 1, 6 => tb_1_6
  | 2, 0 => tb_2_0
  | 2, 1 => tb_2_1
  | 2, 2 => tb_2_2
  | 2, 3 => tb_2_3
  | 2, 4 => tb_2_4
  | 2, 5 => tb_2_5
  | 2, 6 => tb_2_6
  | 3, 0 => tb_3_0
  | 3, 1 => tb_3_1
  | 3, 2 => tb_3_2
  | 3, 3 => tb_3_3
  | 3, 4 => tb_3_4
  | 3, 5 => tb_3_5
  | 3, 6 => tb_3_6
  | _, _ => tb_1_0
theorem nt {k d : Nat} (hk : 1 ≤ k ∧ k ≤ 3) (hd : d ≤ 6) : plan_newTables (sch k d) = some (tb k d) := by
  rcases (show k = 1 ∨ k = 2 ∨ k = 3 by omega) with rfl | rfl | rfl <;> rcases (show d = 0 ∨ d = 1 ∨ d = 2 ∨ d = 3 ∨ d = 4 ∨ d = 5 ∨ d = 6 by omega) with rfl | rfl | rfl | rfl | rfl | rfl | rfl
  · exact nt_1_0
  · exact nt_1_1
  · exact nt_1_2
  · exact nt_1_3
  · exact nt_1_4
  · exact nt_1_5
  · exact nt_1_6
  · exact nt_2_0
  · exact nt_2_1
  · exact nt_2_2
  · exact nt_2_3
  · exact nt_2_4
  · exact nt_2_5
  · exact nt_2_6
  · exact nt_3_0
  · exact nt_3_1
  · exact nt_3_2
  · exact nt_3_3
  · exact nt_3_4
  · exact nt_3_5
  · exact nt_3_6
/-- the worst numbers, and the least numbers of revoked receivers that have them -/
def wl (k d : Nat) : List (Int × Int) := match k, d with
  | 1, 0 => [(1, 0), (1, 0)]
  | 1, 1 => [(1, 0), (1, 0), (1, 0)]
  | 1, 2 => [(1, 0), (2, 1), (2, 1), (2, 1), (2, 1)]
  | 1, 3 => [(1, 0), (3, 1), (4, 2), (4, 2), (4, 2), (4, 2), (4, 2), (4, 2), (4, 2)]
  | 1, 4 => [(1, 0), (4, 1), (6, 2), (7, 3), (8, 4), (8, 4), (8, 4), (8, 4), (8, 4), (8, 4), (8, 4), (8, 4), (8, 4), (8, 4), (8, 4), (8, 4), (8, 4)]
  | 1, 5 => [(1, 0), (5, 1), (8, 2), (10, 3), (12, 4), (13, 5), (14, 6), (15, 7), (16, 8), (16, 8), (16, 8), (16, 8), (16, 8), (16, 8), (16, 8), (16, 8), (16, 8), (16, 8), (16, 8), (16, 8), (16, 8), (16, 8), (16, 8), (16, 8), (16, 8), (16, 8), (16, 8), (16, 8), (16, 8), (16, 8), (16, 8), (16, 8), (16, 8)]
  | 1, 6 => [(1, 0), (6, 1), (10, 2), (13, 3), (16, 4), (18, 5), (20, 6), (22, 7), (24, 8), (25, 9), (26, 10), (27, 11), (28, 12), (29, 13), (30, 14), (31, 15), (32, 16), (32, 16), (32, 16), (32, 16), (32, 16), (32, 16), (32, 16), (32, 16), (32, 16), (32, 16), (32, 16), (32, 16), (32, 16), (32, 16), (32, 16), (32, 16), (32, 16), (32, 16), (32, 16), (32, 16), (32, 16), (32, 16), (32, 16), (32, 16), (32, 16), (32, 16), (32, 16), (32, 16), (32, 16), (32, 16), (32, 16), (32, 16), (32, 16), (32, 16), (32, 16), (32, 16), (32, 16), (32, 16), (32, 16), (32, 16), (32, 16), (32, 16), (32, 16), (32, 16), (32, 16), (32, 16), (32, 16), (32, 16), (32, 16)]
  | 2, 0 => [(1, 0), (1, 0)]
  | 2, 1 => [(1, 0), (1, 0), (1, 0)]
  | 2, 2 => [(1, 0), (1, 0), (2, 2), (2, 2), (2, 2)]
  | 2, 3 => [(1, 0), (1, 0), (3, 2), (3, 2), (4, 4), (4, 4), (4, 4), (4, 4), (4, 4)]
  | 2, 4 => [(1, 0), (1, 0), (3, 2), (4, 3), (6, 4), (6, 4), (7, 6), (7, 6), (8, 8), (8, 8), (8, 8), (8, 8), (8, 8), (8, 8), (8, 8), (8, 8), (8, 8)]
  | 2, 5 => [(1, 0), (1, 0), (3, 2), (5, 3), (7, 4), (7, 4), (9, 6), (10, 7), (12, 8), (12, 8), (13, 10), (13, 10), (14, 12), (14, 12), (15, 14), (15, 14), (16, 16), (16, 16), (16, 16), (16, 16), (16, 16), (16, 16), (16, 16), (16, 16), (16, 16), (16, 16), (16, 16), (16, 16), (16, 16), (16, 16), (16, 16), (16, 16), (16, 16)]
  | 2, 6 => [(1, 0), (1, 0), (3, 2), (5, 3), (7, 4), (8, 5), (10, 6), (12, 7), (14, 8), (14, 8), (16, 10), (17, 11), (19, 12), (19, 12), (21, 14), (22, 15), (24, 16), (24, 16), (25, 18), (25, 18), (26, 20), (26, 20), (27, 22), (27, 22), (28, 24), (28, 24), (29, 26), (29, 26), (30, 28), (30, 28), (31, 30), (31, 30), (32, 32), (32, 32), (32, 32), (32, 32), (32, 32), (32, 32), (32, 32), (32, 32), (32, 32), (32, 32), (32, 32), (32, 32), (32, 32), (32, 32), (32, 32), (32, 32), (32, 32), (32, 32), (32, 32), (32, 32), (32, 32), (32, 32), (32, 32), (32, 32), (32, 32), (32, 32), (32, 32), (32, 32), (32, 32), (32, 32), (32, 32), (32, 32), (32, 32)]
  | 3, 0 => [(1, 0), (1, 0)]
  | 3, 1 => [(1, 0), (1, 0), (1, 0)]
  | 3, 2 => [(1, 0), (1, 0), (2, 2), (2, 2), (2, 2)]
  | 3, 3 => [(1, 0), (1, 0), (4, 2), (4, 2), (4, 2), (4, 2), (4, 2), (4, 2), (4, 2)]
  | 3, 4 => [(1, 0), (1, 0), (4, 2), (5, 3), (6, 4), (6, 4), (7, 6), (7, 6), (8, 8), (8, 8), (8, 8), (8, 8), (8, 8), (8, 8), (8, 8), (8, 8), (8, 8)]
  | 3, 5 => [(1, 0), (1, 0), (5, 2), (6, 3), (8, 4), (9, 5), (10, 6), (11, 7), (12, 8), (12, 8), (13, 10), (13, 10), (14, 12), (14, 12), (15, 14), (15, 14), (16, 16), (16, 16), (16, 16), (16, 16), (16, 16), (16, 16), (16, 16), (16, 16), (16, 16), (16, 16), (16, 16), (16, 16), (16, 16), (16, 16), (16, 16), (16, 16), (16, 16)]
  | 3, 6 => [(1, 0), (1, 0), (5, 2), (7, 3), (9, 4), (10, 5), (12, 6), (14, 7), (16, 8), (16, 8), (18, 10), (18, 10), (20, 12), (20, 12), (22, 14), (22, 14), (24, 16), (24, 16), (25, 18), (25, 18), (26, 20), (26, 20), (27, 22), (27, 22), (28, 24), (28, 24), (29, 26), (29, 26), (30, 28), (30, 28), (31, 30), (31, 30), (32, 32), (32, 32), (32, 32), (32, 32), (32, 32), (32, 32), (32, 32), (32, 32), (32, 32), (32, 32), (32, 32), (32, 32), (32, 32), (32, 32), (32, 32), (32, 32), (32, 32), (32, 32), (32, 32), (32, 32), (32, 32), (32, 32), (32, 32), (32, 32), (32, 32), (32, 32), (32, 32), (32, 32), (32, 32), (32, 32), (32, 32), (32, 32), (32, 32)]
  | _, _ => []
def wst (k d r : Nat) : Int × Int := (wl k d).getD r (0, 0)
theorem worst_all : ∀ k ∈ [1, 2, 3], ∀ d ∈ List.range 7, ∀ r ∈ List.range (2 ^ d + 1), plan_tables_worst (tb k d) (r : Int) = some (wst k d r) := by decide +kernel
/-- the worst lists -/
def ll (k d : Nat) : List (Int × List Int × Int) := match k, d with
  | 1, 0 => [(0, [], 1)]
  | 1, 1 => [(0, [], 1)]
  | 1, 2 => [(0, [], 1), (1, [3], 2)]
  | 1, 3 => [(0, [], 1), (1, [7], 3), (2, [3, 7], 4)]
  | 1, 4 => [(0, [], 1), (1, [15], 4), (2, [7, 15], 6), (3, [7, 11, 15], 7), (4, [3, 7, 11, 15], 8)]
  | 1, 5 => [(0, [], 1), (1, [31], 5), (2, [15, 31], 8), (3, [15, 23, 31], 10), (4, [7, 15, 23, 31], 12), (5, [7, 15, 23, 27, 31], 13), (6, [7, 15, 19, 23, 27, 31], 14), (7, [7, 11, 15, 19, 23, 27, 31], 15), (8, [3, 7, 11, 15, 19, 23, 27, 31], 16)]
  | 1, 6 => [(0, [], 1), (1, [63], 6), (2, [31, 63], 10), (3, [31, 47, 63], 13), (4, [15, 31, 47, 63], 16), (5, [15, 31, 47, 55, 63], 18), (6, [15, 31, 39, 47, 55, 63], 20), (7, [15, 23, 31, 39, 47, 55, 63], 22), (8, [7, 15, 23, 31, 39, 47, 55, 63], 24), (9, [7, 15, 23, 31, 39, 47, 55, 59, 63], 25), (10, [7, 15, 23, 31, 39, 47, 51, 55, 59, 63], 26), (11, [7, 15, 23, 31, 39, 43, 47, 51, 55, 59, 63], 27), (12, [7, 15, 23, 31, 35, 39, 43, 47, 51, 55, 59, 63], 28), (13, [7, 15, 23, 27, 31, 35, 39, 43, 47, 51, 55, 59, 63], 29), (14, [7, 15, 19, 23, 27, 31, 35, 39, 43, 47, 51, 55, 59, 63], 30), (15, [7, 11, 15, 19, 23, 27, 31, 35, 39, 43, 47, 51, 55, 59, 63], 31), (16, [3, 7, 11, 15, 19, 23, 27, 31, 35, 39, 43, 47, 51, 55, 59, 63], 32)]
  | 2, 0 => [(0, [], 1)]
  | 2, 1 => [(0, [], 1)]
  | 2, 2 => [(0, [], 1), (2, [1, 3], 2)]
  | 2, 3 => [(0, [], 1), (2, [5, 7], 3), (4, [1, 3, 5, 7], 4)]
  | 2, 4 => [(0, [], 1), (2, [13, 15], 3), (3, [11, 13, 15], 4), (4, [5, 7, 13, 15], 6), (6, [5, 7, 9, 11, 13, 15], 7), (8, [1, 3, 5, 7, 9, 11, 13, 15], 8)]
  | 2, 5 => [(0, [], 1), (2, [29, 31], 3), (3, [23, 29, 31], 5), (4, [21, 23, 29, 31], 7), (6, [13, 15, 21, 23, 29, 31], 9), (7, [11, 13, 15, 21, 23, 29, 31], 10), (8, [5, 7, 13, 15, 21, 23, 29, 31], 12), (10, [5, 7, 13, 15, 21, 23, 25, 27, 29, 31], 13), (12, [5, 7, 13, 15, 17, 19, 21, 23, 25, 27, 29, 31], 14), (14, [5, 7, 9, 11, 13, 15, 17, 19, 21, 23, 25, 27, 29, 31], 15), (16, [1, 3, 5, 7, 9, 11, 13, 15, 17, 19, 21, 23, 25, 27, 29, 31], 16)]
  | 2, 6 => [(0, [], 1), (2, [61, 63], 3), (3, [55, 61, 63], 5), (4, [53, 55, 61, 63], 7), (5, [47, 53, 55, 61, 63], 8), (6, [45, 47, 53, 55, 61, 63], 10), (7, [23, 29, 31, 53, 55, 61, 63], 12), (8, [21, 23, 29, 31, 53, 55, 61, 63], 14), (10, [21, 23, 29, 31, 45, 47, 53, 55, 61, 63], 16), (11, [23, 29, 31, 37, 39, 45, 47, 53, 55, 61, 63], 17), (12, [21, 23, 29, 31, 37, 39, 45, 47, 53, 55, 61, 63], 19), (14, [13, 15, 21, 23, 29, 31, 37, 39, 45, 47, 53, 55, 61, 63], 21), (15, [11, 13, 15, 21, 23, 29, 31, 37, 39, 45, 47, 53, 55, 61, 63], 22), (16, [5, 7, 13, 15, 21, 23, 29, 31, 37, 39, 45, 47, 53, 55, 61, 63], 24), (18, [5, 7, 13, 15, 21, 23, 29, 31, 37, 39, 45, 47, 53, 55, 57, 59, 61, 63], 25), (20, [5, 7, 13, 15, 21, 23, 29, 31, 37, 39, 45, 47, 49, 51, 53, 55, 57, 59, 61, 63], 26), (22, [5, 7, 13, 15, 21, 23, 29, 31, 37, 39, 41, 43, 45, 47, 49, 51, 53, 55, 57, 59, 61, 63], 27), (24, [5, 7, 13, 15, 21, 23, 29, 31, 33, 35, 37, 39, 41, 43, 45, 47, 49, 51, 53, 55, 57, 59, 61, 63], 28), (26, [5, 7, 13, 15, 21, 23, 25, 27, 29, 31, 33, 35, 37, 39, 41, 43, 45, 47, 49, 51, 53, 55, 57, 59, 61, 63], 29), (28, [5, 7, 13, 15, 17, 19, 21, 23, 25, 27, 29, 31, 33, 35, 37, 39, 41, 43, 45, 47, 49, 51, 53, 55, 57, 59, 61, 63], 30), (30, [5, 7, 9, 11, 13, 15, 17, 19, 21, 23, 25, 27, 29, 31, 33, 35, 37, 39, 41, 43, 45, 47, 49, 51, 53, 55, 57, 59, 61, 63], 31), (32, [1, 3, 5, 7, 9, 11, 13, 15, 17, 19, 21, 23, 25, 27, 29, 31, 33, 35, 37, 39, 41, 43, 45, 47, 49, 51, 53, 55, 57, 59, 61, 63], 32)]
  | 3, 0 => [(0, [], 1)]
  | 3, 1 => [(0, [], 1)]
  | 3, 2 => [(0, [], 1), (2, [1, 3], 2)]
  | 3, 3 => [(0, [], 1), (2, [3, 7], 4)]
  | 3, 4 => [(0, [], 1), (2, [7, 15], 4), (3, [7, 13, 15], 5), (4, [5, 7, 13, 15], 6), (6, [5, 7, 9, 11, 13, 15], 7), (8, [1, 3, 5, 7, 9, 11, 13, 15], 8)]
  | 3, 5 => [(0, [], 1), (2, [23, 31], 5), (3, [23, 29, 31], 6), (4, [7, 15, 23, 31], 8), (5, [7, 15, 23, 29, 31], 9), (6, [7, 15, 21, 23, 29, 31], 10), (7, [7, 13, 15, 21, 23, 29, 31], 11), (8, [5, 7, 13, 15, 21, 23, 29, 31], 12), (10, [5, 7, 13, 15, 21, 23, 25, 27, 29, 31], 13), (12, [5, 7, 13, 15, 17, 19, 21, 23, 25, 27, 29, 31], 14), (14, [5, 7, 9, 11, 13, 15, 17, 19, 21, 23, 25, 27, 29, 31], 15), (16, [1, 3, 5, 7, 9, 11, 13, 15, 17, 19, 21, 23, 25, 27, 29, 31], 16)]
  | 3, 6 => [(0, [], 1), (2, [47, 63], 5), (3, [47, 61, 63], 7), (4, [45, 47, 61, 63], 9), (5, [31, 45, 47, 61, 63], 10), (6, [29, 31, 45, 47, 61, 63], 12), (7, [15, 29, 31, 45, 47, 61, 63], 14), (8, [13, 15, 29, 31, 45, 47, 61, 63], 16), (10, [13, 15, 29, 31, 45, 47, 53, 55, 61, 63], 18), (12, [13, 15, 29, 31, 37, 39, 45, 47, 53, 55, 61, 63], 20), (14, [13, 15, 21, 23, 29, 31, 37, 39, 45, 47, 53, 55, 61, 63], 22), (16, [5, 7, 13, 15, 21, 23, 29, 31, 37, 39, 45, 47, 53, 55, 61, 63], 24), (18, [5, 7, 13, 15, 21, 23, 29, 31, 37, 39, 45, 47, 53, 55, 57, 59, 61, 63], 25), (20, [5, 7, 13, 15, 21, 23, 29, 31, 37, 39, 45, 47, 49, 51, 53, 55, 57, 59, 61, 63], 26), (22, [5, 7, 13, 15, 21, 23, 29, 31, 37, 39, 41, 43, 45, 47, 49, 51, 53, 55, 57, 59, 61, 63], 27), (24, [5, 7, 13, 15, 21, 23, 29, 31, 33, 35, 37, 39, 41, 43, 45, 47, 49, 51, 53, 55, 57, 59, 61, 63], 28), (26, [5, 7, 13, 15, 21, 23, 25, 27, 29, 31, 33, 35, 37, 39, 41, 43, 45, 47, 49, 51, 53, 55, 57, 59, 61, 63], 29), (28, [5, 7, 13, 15, 17, 19, 21, 23, 25, 27, 29, 31, 33, 35, 37, 39, 41, 43, 45, 47, 49, 51, 53, 55, 57, 59, 61, 63], 30), (30, [5, 7, 9, 11, 13, 15, 17, 19, 21, 23, 25, 27, 29, 31, 33, 35, 37, 39, 41, 43, 45, 47, 49, 51, 53, 55, 57, 59, 61, 63], 31), (32, [1, 3, 5, 7, 9, 11, 13, 15, 17, 19, 21, 23, 25, 27, 29, 31, 33, 35, 37, 39, 41, 43, 45, 47, 49, 51, 53, 55, 57, 59, 61, 63], 32)]
  | _, _ => []
def lst (k d r : Nat) : List Int := ((ll k d).find? fun x => decide (x.1 = (wst k d r).2)).elim [] (·.2.1)
theorem list_ll : ∀ k ∈ [1, 2, 3], ∀ d ∈ List.range 7, ∀ x ∈ ll k d, plan_tables_list (tb k d) [] 1 0 (d : Int) x.1 = some x.2.1 ∧ x.2.1.length = x.1.toNat := by decide +kernel
theorem list_has : ∀ k ∈ [1, 2, 3], ∀ d ∈ List.range 7, ∀ r ∈ List.range (2 ^ d + 1), ∃ x ∈ (ll k d).find? (fun x => decide (x.1 = (wst k d r).2)), x.2.2 = (wst k d r).1 ∧ 0 ≤ x.1 ∧ x.1 ≤ (r : Int) := by decide +kernel
end Go.Sx.Pn

end
section
set_option linter.unusedVariables false
set_option linter.unusedSimpArgs false
namespace Go.Sx
open Go
/-! sizes -/
theorem pow_le64 {d : Nat} (h : d ≤ 6) : 2 ^ d ≤ 64 := Nat.le_trans (Nat.pow_le_pow_right (by omega) h) (by decide)
theorem shl1 {d : Nat} (h : d ≤ 6) : shlI 1 d = ((2 ^ d : Nat) : Int) := by
  have := pow_le64 h
  unfold shlI
  rw [Nat.min_eq_left (by omega), Int.one_mul, show (2 : Int) ^ d = ((2 ^ d : Nat) : Int) from by rw [Int.natCast_pow]; rfl]
  generalize 2 ^ d = m at *
  exact w64_id (by omega) (by omega)
theorem shG_nat (n : Nat) : shG (n : Int) = some n := by unfold shG; rw [if_pos (by omega)]; rfl
/-! special nodes -/
/-! paths -/
end Go.Sx

end
section
set_option linter.unusedVariables false
set_option linter.unusedSimpArgs false
namespace Go.Sx
open Go
def zG : TGroup := TGroup.mk 0#64 0#64 0#64
def vldB (s : TScheme) : Bool := decide (1#8 ≤ s.Kind ∧ s.Kind ≤ 3#8 ∧ 0 ≤ s.Depth ∧ s.Depth ≤ 6 ∧ s.Degree = 0 ∧ s.Group = zG)
/-! the first special node -/
end Go.Sx

end
section
set_option linter.unusedVariables false
set_option linter.unusedSimpArgs false
namespace Go.Sx
open Go
end Go.Sx

end
section
set_option linter.unusedVariables false
set_option linter.unusedSimpArgs false
namespace Go.Sx
open Go
/-! both sides' way in -/
end Go.Sx

end
section
set_option linter.unusedVariables false
set_option linter.unusedSimpArgs false
set_option maxRecDepth 100000
namespace Go.Sx
open Go
end Go.Sx

end
section
set_option linter.unusedVariables false
set_option linter.unusedSimpArgs false
set_option maxRecDepth 100000
namespace Go.Sx
open Go
/-! siblings -/
/-! paths -/
theorem leaf_log {d u : Nat} (hu : u < 2 ^ d) : Nat.log2 (2 ^ d + u) = d := by
  rw [Nat.log2_eq_iff (by have := Nat.two_pow_pos d; omega), Nat.pow_succ]; omega
end Go.Sx

end
section
set_option linter.unusedVariables false
set_option linter.unusedSimpArgs false
set_option maxRecDepth 100000
namespace Go.Sx
open Go
section
variable {d : Nat} {R : List Nat}
/-- receivers -/
def Rcv (d : Nat) (R : List Nat) : Prop := d ≤ 6 ∧ ∀ u ∈ R, u < 2 ^ d
theorem Rcv.leaf (h : Rcv d R) {u : Nat} (hu : u ∈ R) : 1 ≤ 2 ^ d + u ∧ 2 ^ d + u < 128 ∧ Nat.log2 (2 ^ d + u) = d := by
  have := pow_le64 h.1
  have := h.2 u hu
  have := Nat.two_pow_pos d
  exact ⟨by omega, by omega, leaf_log (h.2 u hu)⟩
end
end Go.Sx

end
section
set_option linter.unusedVariables false
set_option linter.unusedSimpArgs false
namespace Go.Sx
open Go
end Go.Sx

end
section
set_option linter.unusedVariables false
set_option linter.unusedSimpArgs false
namespace Go.Sx
open Go
end Go.Sx

end
section
set_option linter.unusedVariables false
set_option linter.unusedSimpArgs false
namespace Go.Sx
open Go
end Go.Sx

end
section
set_option linter.unusedVariables false
set_option linter.unusedSimpArgs false
namespace Go.Sx
open Go
/-! subsets, plainly -/
end Go.Sx

end
section
set_option linter.unusedVariables false
set_option linter.unusedSimpArgs false
namespace Go.Sx
open Go
section
variable {s : TScheme} {d u n m : Nat}
end
/-! lists of receivers -/
theorem getD_some {l : List Int} {j : Nat} (h : j < l.length) : l.getD j 0 = l[j] := by simp [List.getD, h]
end Go.Sx

end
section
set_option linter.unusedVariables false
set_option linter.unusedSimpArgs false
set_option maxRecDepth 100000
namespace Go.Sx
open Go
/-! the hot nodes -/
/-! a round -/
/-! any order -/
end Go.Sx

end
section
set_option linter.unusedVariables false
set_option linter.unusedSimpArgs false
set_option maxRecDepth 100000
namespace Go.Sx.Pn
open Go Go.Sx
theorem kd_mem {k d : Nat} (hk : 1 ≤ k ∧ k ≤ 3) (hd : d ≤ 6) : k ∈ [1, 2, 3] ∧ d ∈ List.range 7 := by
  refine ⟨?_, List.mem_range.2 (by omega)⟩
  rcases (show k = 1 ∨ k = 2 ∨ k = 3 by omega) with rfl | rfl | rfl <;> simp
theorem sch_vld {k d : Nat} (hk : 1 ≤ k ∧ k ≤ 3) (hd : d ≤ 6) : vldB (sch k d) = true := by
  unfold vldB sch
  apply decide_eq_true
  refine ⟨?_, ?_, by simp only; omega, by simp only; omega, rfl, rfl⟩ <;> rcases (show k = 1 ∨ k = 2 ∨ k = 3 by omega) with rfl | rfl | rfl <;> (simp only; decide)
theorem pow64 {d : Nat} (h : d ≤ 6) : 2 ^ d ≤ 64 := Nat.le_trans (Nat.pow_le_pow_right (by omega) h) (by decide)
theorem shlD {d : Nat} (h : d ≤ 6) : shlI 1 d = ((2 ^ d : Nat) : Int) := by
  have := pow64 h
  unfold shlI
  rw [Nat.min_eq_left (by omega), Int.one_mul, show (2 : Int) ^ d = ((2 ^ d : Nat) : Int) from by rw [Int.natCast_pow]; rfl]
  generalize 2 ^ d = m at *
  exact w64_id (by omega) (by omega)
theorem shGn (n : Nat) : shG (n : Int) = some n := by unfold shG; rw [if_pos (by omega)]; rfl
section
variable {k d r : Nat}
theorem worst_tb (hk : 1 ≤ k ∧ k ≤ 3) (hd : d ≤ 6) (hr : r ≤ 2 ^ d) : plan_tables_worst (tb k d) (r : Int) = some (wst k d r) := by
  obtain ⟨h1, h2⟩ := kd_mem hk hd
  exact worst_all k h1 d h2 r (List.mem_range.2 (by omega))
theorem list_tb (hk : 1 ≤ k ∧ k ≤ 3) (hd : d ≤ 6) (hr : r ≤ 2 ^ d) : plan_tables_list (tb k d) [] 1 0 (d : Int) (wst k d r).2 = some (lst k d r) ∧ ((wst k d r).2, lst k d r, (wst k d r).1) ∈ ll k d ∧ (lst k d r).length ≤ r := by
  obtain ⟨h1, h2⟩ := kd_mem hk hd
  obtain ⟨x, hx, e1, e2, e3⟩ := list_has k h1 d h2 r (List.mem_range.2 (by omega))
  have hf : (ll k d).find? (fun x => decide (x.1 = (wst k d r).2)) = some x := hx
  have h5 := List.mem_of_find?_eq_some hf
  have h6 : x.1 = (wst k d r).2 := by have := List.find?_some hf; simpa using this
  obtain ⟨h7, h8⟩ := list_ll k h1 d h2 x h5
  have hl : lst k d r = x.2.1 := by unfold lst; rw [hf]; rfl
  refine ⟨by rw [← h6, hl]; exact h7, by rw [hl, ← h6, ← e1]; exact h5, by rw [hl, h8]; omega⟩
end
end Go.Sx.Pn

end
section
set_option linter.unusedVariables false
set_option linter.unusedSimpArgs false
set_option maxRecDepth 100000
namespace Go.Sx.Po
open Go
abbrev bn (n : Nat) : BitVec 64 := BitVec.ofNat 64 n
theorem bn_of (x : BitVec 64) : ∃ n, n < 18446744073709551616 ∧ x = bn n := ⟨x.toNat, x.isLt, by simp [bn]⟩
theorem bn_nat {n : Nat} (h : n < 18446744073709551616) : (bn n).toNat = n := by rw [bn, BitVec.toNat_ofNat]; exact Nat.mod_eq_of_lt h
theorem bn_inj {a b : Nat} (ha : a < 18446744073709551616) (hb : b < 18446744073709551616) : bn a = bn b ↔ a = b := by
  constructor
  · intro h; rw [← bn_nat ha, ← bn_nat hb, h]
  · intro h; rw [h]
theorem bn_lt {a b : Nat} (ha : a < 18446744073709551616) (hb : b < 18446744073709551616) : bn a < bn b ↔ a < b := by rw [BitVec.lt_def, bn_nat ha, bn_nat hb]
theorem bn_le {a b : Nat} (ha : a < 18446744073709551616) (hb : b < 18446744073709551616) : bn a ≤ bn b ↔ a ≤ b := by rw [BitVec.le_def, bn_nat ha, bn_nat hb]
theorem bn_mul (a b : Nat) : bn a * bn b = bn (a * b) := by apply BitVec.eq_of_toNat_eq; simp [bn]
theorem bn_add (a b : Nat) : bn a + bn b = bn (a + b) := by apply BitVec.eq_of_toNat_eq; simp [bn]
theorem bn_sub {a b : Nat} (ha : a < 18446744073709551616) (h : b ≤ a) : bn a - bn b = bn (a - b) := by
  apply BitVec.eq_of_toNat_eq
  rw [BitVec.toNat_sub, bn_nat ha, bn_nat (by omega), bn_nat (by omega)]; omega
theorem bn_shr (n : Nat) (h : n < 18446744073709551616) : bn n >>> 1 = bn (n / 2) := by
  apply BitVec.eq_of_toNat_eq
  rw [BitVec.toNat_ushiftRight, bn_nat h, bn_nat (by omega), Nat.shiftRight_eq_div_pow]
theorem bn_and1 (n : Nat) (h : n < 18446744073709551616) : bn n &&& 1#64 = bn (n % 2) := by
  apply BitVec.eq_of_toNat_eq
  rw [BitVec.toNat_and, bn_nat h, bn_nat (n := n % 2) (by omega)]
  exact Nat.and_one_is_mod n
theorem remU_bn {a m : Nat} (ha : a < 18446744073709551616) (hm : 0 < m) (hm2 : m < 18446744073709551616) : remU (bn a) (bn m) = some (bn (a % m)) := by
  have := Nat.mod_lt a hm
  unfold remU
  rw [if_neg (fun h => by have := (bn_inj (b := 0) hm2 (by omega)).1 h; omega)]
  congr 1
  apply BitVec.eq_of_toNat_eq
  rw [BitVec.toNat_umod, bn_nat ha, bn_nat hm2, bn_nat (by omega)]
theorem quoU_bn {a m : Nat} (ha : a < 18446744073709551616) (hm : 0 < m) (hm2 : m < 18446744073709551616) : quoU (bn a) (bn m) = some (bn (a / m)) := by
  have := Nat.div_le_self a m
  unfold quoU
  rw [if_neg (fun h => by have := (bn_inj (b := 0) hm2 (by omega)).1 h; omega)]
  congr 1
  apply BitVec.eq_of_toNat_eq
  rw [BitVec.toNat_udiv, bn_nat ha, bn_nat hm2, bn_nat (by omega)]
/-! primes -/
def Prm (n : Nat) : Prop := 2 ≤ n ∧ ∀ e, 2 ≤ e → e * e ≤ n → n % e ≠ 0
theorem prime_loop {n : Nat} (hn : n ≤ 1048575) (T : Bool) (F : (BitVec 64 → Option Bool) → BitVec 64 → Option Bool) (hF : ∀ rec a, F rec a = if a * a ≤ bn n then Option.bind (remU (bn n) a) fun x4 => if x4 = 0#64 then some false else rec (a + 1#64) else some T) :
    ∀ (m d f : Nat), d + m = 1025 → m < f → 2 ≤ d → ∃ b, fixN F f (bn d) = some b ∧ (b = true ↔ T = true ∧ ∀ e, d ≤ e → e * e ≤ n → n % e ≠ 0)
  | m, d, 0, _, h, _ => by omega
  | 0, d, f + 1, hd, _, h2 => by
    obtain rfl : d = 1025 := by omega
    rw [fix_step, hF, bn_mul, if_neg (by rw [bn_le (by omega) (by omega)]; omega)]
    refine ⟨T, rfl, fun h => ⟨h, fun e he hen => ?_⟩, fun h => h.1⟩
    have := Nat.mul_le_mul he he
    omega
  | m + 1, d, f + 1, hd, hf, h2 => by
    have hdd : d * d ≤ 1025 * 1025 := Nat.mul_le_mul (by omega) (by omega)
    rw [fix_step, hF, bn_mul]
    by_cases hle : d * d ≤ n
    · rw [if_pos ((bn_le (by omega) (by omega)).2 hle), remU_bn (by omega) (by omega) (by omega), bind_some]
      by_cases hz : n % d = 0
      · rw [hz, if_pos rfl]
        exact ⟨false, rfl, (fun h => by cases h), fun h => absurd hz (h.2 d (Nat.le_refl _) hle)⟩
      · have hzn : ¬ bn (n % d) = 0#64 := fun h => hz ((bn_inj (b := 0) (by have := Nat.mod_lt n (show 0 < d by omega); omega) (by omega)).1 h)
        rw [if_neg hzn, show (1#64) = bn 1 from rfl, bn_add]
        obtain ⟨b, e1, e2⟩ := prime_loop hn T F hF m (d + 1) f (by omega) (by omega) (by omega)
        refine ⟨b, e1, ?_⟩
        rw [e2]
        refine and_congr_right fun _ => ⟨fun h e he hen => ?_, fun h e he => h e (by omega)⟩
        rcases Nat.lt_or_ge d e with h' | h'
        · exact h e (by omega) hen
        · obtain rfl : e = d := by omega
          exact hz
    · rw [if_neg (fun h => hle ((bn_le (by omega) (by omega)).1 h))]
      refine ⟨T, rfl, fun h => ⟨h, fun e he hen => ?_⟩, fun h => h.1⟩
      have := Nat.mul_le_mul he he
      omega
theorem prime_eq {n : Nat} (h64 : n < 18446744073709551616) : ∃ b, number_prime (bn n) = some b ∧ (b = true ↔ n ≤ 1048575 ∧ Prm n) := by
  unfold number_prime number_prime_J1
  by_cases h2 : n < 2
  · rw [if_pos ((bn_lt h64 (b := 2) (by omega)).2 h2)]
    exact ⟨false, rfl, (fun h => by cases h), fun h => by have := h.2.1; omega⟩
  · rw [if_neg (fun h => h2 ((bn_lt h64 (b := 2) (by omega)).1 h))]
    by_cases hg : 1048575 < n
    · rw [decide_eq_true ((bn_lt (a := 1048575) (by omega) h64).2 hg)]
      exact ⟨false, rfl, (fun h => by cases h), fun h => by omega⟩
    · rw [decide_eq_false (fun h => hg ((bn_lt (a := 1048575) (by omega) h64).1 h)), cond_false]
      obtain ⟨b, e1, e2⟩ := prime_loop (n := n) (by omega) true (number_prime_L2 (bn n)) (fun rec a => rfl) 1023 2 FUEL (by omega) (fuel_lt (by omega)) (by omega)
      refine ⟨b, e1, ?_⟩
      rw [e2]; unfold Prm
      exact ⟨fun h => ⟨by omega, by omega, h.2⟩, fun h => ⟨rfl, h.2.2⟩⟩
/-! powers -/
theorem pow_half (x n : Nat) : x ^ n = x ^ (n % 2) * (x * x) ^ (n / 2) := by
  have : x ^ n = x ^ (n % 2 + 2 * (n / 2)) := by congr 1; omega
  rw [this, Nat.pow_add, Nat.pow_mul, Nat.pow_two]
theorem pow_step {m x n o : Nat} : o * x ^ n % m = (if n % 2 = 1 then o * x % m else o) * (x * x % m) ^ (n / 2) % m := by
  rw [pow_half x n]
  rcases Nat.mod_two_eq_zero_or_one n with h | h
  · rw [h, if_neg (by omega), Nat.pow_zero, Nat.one_mul, Nat.mul_mod o ((x * x % m) ^ (n / 2)), ← Nat.pow_mod, ← Nat.mul_mod]
  · rw [h, if_pos rfl, Nat.pow_one, Nat.mul_mod (o * x % m), Nat.mod_mod, ← Nat.pow_mod, ← Nat.mul_mod, Nat.mul_assoc]
theorem power_loop {m : Nat} (hm : 0 < m) (hm2 : m < 4294967296) : ∀ (k n x o f : Nat), n < 2 ^ k → k ≤ 64 → k < f → x < m → o < m → fixN (number_power_L1 (bn m)) f (bn x, bn n, bn o) = some (bn (o * x ^ n % m))
  | k, n, x, o, 0, _, _, h, _, _ => by omega
  | 0, n, x, o, f + 1, hn, _, _, hx, ho => by
    obtain rfl : n = 0 := by simp at hn; exact hn
    rw [fix_step]; simp only [number_power_L1]
    rw [if_neg (by decide), Nat.pow_zero, Nat.mul_one, Nat.mod_eq_of_lt ho]
  | k + 1, n, x, o, f + 1, hn, hk, hf, hx, ho => by
    have hn64 : n < 18446744073709551616 := Nat.lt_of_lt_of_le hn (Nat.le_trans (Nat.pow_le_pow_right (by omega) hk) (by decide))
    have hxx : x * x < 18446744073709551616 := Nat.lt_of_le_of_lt (Nat.mul_le_mul (Nat.le_of_lt hx) (Nat.le_of_lt hx)) (by have := Nat.mul_lt_mul'' hm2 hm2; omega)
    have hox : o * x < 18446744073709551616 := Nat.lt_of_le_of_lt (Nat.mul_le_mul (Nat.le_of_lt ho) (Nat.le_of_lt hx)) (by have := Nat.mul_lt_mul'' hm2 hm2; omega)
    rw [fix_step]; simp only [number_power_L1]
    by_cases h0 : n = 0
    · subst h0
      rw [if_neg (by decide), Nat.pow_zero, Nat.mul_one, Nat.mod_eq_of_lt ho]
    · rw [if_pos ((bn_lt (a := 0) (by omega) hn64).2 (by omega)), bn_and1 n hn64, show shG (un 1#64) = some 1 from by decide, bn_mul, bn_mul, remU_bn hxx hm (by omega), remU_bn hox hm (by omega), pow_step]
      simp only [bind_some]
      rw [bn_shr n hn64]
      have hlt : n / 2 < 2 ^ k := by rw [Nat.pow_succ] at hn; omega
      have h1 := Nat.mod_lt (x * x) hm
      have h2 := Nat.mod_lt (o * x) hm
      by_cases hodd : n % 2 = 1
      · rw [if_pos (by rw [hodd]), if_pos hodd]
        exact power_loop hm hm2 k (n / 2) _ _ f hlt (by omega) (by omega) h1 h2
      · rw [if_neg (fun h => hodd ((bn_inj (b := 1) (by omega) (by omega)).1 h)), if_neg hodd]
        exact power_loop hm hm2 k (n / 2) _ _ f hlt (by omega) (by omega) h1 ho
theorem power_eq {b n m : Nat} (hb : b < 18446744073709551616) (hn : n < 18446744073709551616) (hm : 0 < m) (hm2 : m < 4294967296) : number_power (bn b) (bn n) (bn m) = some (bn (b ^ n % m)) := by
  unfold number_power
  rw [show (1#64) = bn 1 from rfl, remU_bn (by omega) hm (by omega), bind_some, remU_bn hb hm (by omega), bind_some, power_loop hm hm2 64 n _ _ FUEL (by omega) (by omega) (fuel_lt (by omega)) (Nat.mod_lt _ hm) (Nat.mod_lt _ hm), Nat.mod_mul_mod, Nat.one_mul, ← Nat.pow_mod]
end Go.Sx.Po

end
section
set_option linter.unusedVariables false
set_option linter.unusedSimpArgs false
set_option maxRecDepth 100000
namespace Go.Sx.Po
open Go
theorem pgroup_tot {p q g : Nat} (hp : p < 18446744073709551616) (hq : q < 18446744073709551616) (hg : g < 18446744073709551616) : ∃ b : Bool, number_CheckGroup ⟨bn p, bn q, bn g⟩ = some (if b = true then 0 else 13) := by
  obtain ⟨b1, e1, i1⟩ := prime_eq hp
  obtain ⟨b2, e2, i2⟩ := prime_eq hq
  unfold number_CheckGroup
  simp only
  rw [e1, bind_some]
  cases b1 with
  | false => exact ⟨false, rfl⟩
  | true =>
    have hP := i1.1 rfl
    simp only [Bool.not_true, cond_false]
    rw [e2, bind_some]
    cases b2 with
    | false => exact ⟨false, rfl⟩
    | true =>
      have hQ := i2.1 rfl
      simp only [Bool.not_true, cond_false]
      have hp2 := hP.2.1
      have hq2 := hQ.2.1
      rw [show (1#64) = bn 1 from rfl, bn_sub hp (by omega), remU_bn (by omega) (by omega) hq, bind_some]
      by_cases hz : bn ((p - 1) % q) ≠ 0#64
      · rw [if_pos hz]; exact ⟨false, rfl⟩
      · rw [if_neg hz]
        by_cases c3 : bn g < 2#64
        · rw [if_pos c3]; exact ⟨false, rfl⟩
        · rw [if_neg c3]
          by_cases c5 : bn p ≤ bn g
          · rw [if_pos c5]; exact ⟨false, rfl⟩
          · rw [if_neg c5, power_eq hg hq (by omega) (by omega), bind_some]
            unfold number_CheckGroup_J1
            by_cases h4 : bn (g ^ q % p) = bn 1
            · rw [decide_eq_false (by simpa using h4)]; exact ⟨true, rfl⟩
            · rw [decide_eq_true h4]; exact ⟨false, rfl⟩
theorem pvalid_tot (s : TScheme) : ∃ b : Bool, poly_valid s = some b ∧ (b = true → s.Kind = 4#8 ∧ 0 ≤ s.Depth ∧ s.Depth ≤ 6 ∧ 1 ≤ s.Degree ∧ s.Degree ≤ 8) := by
  obtain ⟨kd, dp, dg, ⟨P, Q, G⟩⟩ := s
  obtain ⟨p, hp, rfl⟩ := bn_of P
  obtain ⟨q, hq, rfl⟩ := bn_of Q
  obtain ⟨g, hg, rfl⟩ := bn_of G
  unfold poly_valid
  simp only
  by_cases h1 : kd = 4#8
  · rw [if_pos h1]
    by_cases h2 : 0 ≤ dp
    · rw [if_pos h2]
      by_cases h3 : dp ≤ 6
      · rw [if_pos h3]
        by_cases h4 : 1 ≤ dg
        · rw [if_pos h4]
          by_cases h5 : dg ≤ 8
          · rw [if_pos h5]
            obtain ⟨b, e1⟩ := pgroup_tot hp hq hg
            rw [e1, bind_some]
            split
            · have : shG dp = some dp.toNat := by unfold shG; rw [if_pos h2]
              rw [this, bind_some]
              exact ⟨_, rfl, fun _ => ⟨h1, h2, h3, h4, h5⟩⟩
            · exact ⟨false, rfl, nofun⟩
          · rw [if_neg h5]; exact ⟨false, rfl, nofun⟩
        · rw [if_neg h4]; exact ⟨false, rfl, nofun⟩
      · rw [if_neg h3]; exact ⟨false, rfl, nofun⟩
    · rw [if_neg h2]; exact ⟨false, rfl, nofun⟩
  · rw [if_neg h1]; exact ⟨false, rfl, nofun⟩
/-- a scheme with a polynomial is valid -/
def plV (s : TScheme) : Bool := (poly_valid s).getD false
theorem pcheck_eq (s : TScheme) : poly_Check s = some (if plV s = true then 0 else 30) := by
  obtain ⟨b, e, _⟩ := pvalid_tot s
  unfold poly_Check plV
  rw [e, bind_some]
  cases b <;> rfl
theorem plV_deg {s : TScheme} (h : plV s = true) : s.Kind = 4#8 ∧ 0 ≤ s.Depth ∧ s.Depth ≤ 6 ∧ 1 ≤ s.Degree ∧ s.Degree ≤ 8 := by
  obtain ⟨b, e, i⟩ := pvalid_tot s
  unfold plV at h
  rw [e] at h
  exact i h
end Go.Sx.Po

end
