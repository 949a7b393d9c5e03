/- Several texts in one: GeM GfM GdM GkM GbM RuM OpnRu MirM BitL Srt SrtSub Pl Tr Ts Fx Mb Lb Tm Cv Cx Bd Pt Tk Fy SecN Fd Kn Cp Pu Be Ala LawRu. -/
import Derived.Test.YtopkalcefepilaaZc
import Derived.Test.YtopkalcefepilaaRows
import Derived.KernelRfl
import Derived.Test.YtopkalcefepilaaZb
import Derived.Shelf.SlSortCmp.NoneTotal
import Derived.Shelf.SlGeneric
import Derived.Test.YtopkalcefepilaaProg
set_option linter.unusedVariables false
set_option linter.unusedSimpArgs false
section
set_option linter.unusedVariables false
set_option maxRecDepth 100000
namespace Go.Sx
open Go Go.RowKit
def ref03_SameInts_L1 (p0 : List Int) (p1 : List Int) (rec1 : (Int) → Option (Bool)) (a2 : Int) : Option (Bool) := (if a2 < (p0.length : Int) then Option.bind (getI p0 a2) fun y3 => (Option.bind (getI p1 a2) fun y4 => ((if y3 ≠ y4 then (some false) else (rec1 (w64 (a2 + 1)))))) else (some true))
/-- headend/headendref03.SameInts -/
def ref03_SameInts (p0 : List Int) (p1 : List Int) : Option (Bool) := (if (p0.length : Int) ≠ (p1.length : Int) then (some false) else (fixN (ref03_SameInts_L1 p0 p1) FUEL 0))
/-- headend/headendref10.SameNumbers -/
def ref10_SameNumbers (p0 : TChoice) (p1 : TChoice) : Option (Bool) := (if p0.Kind = p1.Kind then (bif (p0.Fits == p1.Fits) then (if p0.Items = p1.Items then (if p0.Points = p1.Points then (if p0.Header = p1.Header then (if p0.Storage = p1.Storage then (some (decide (p0.Cost = p1.Cost))) else (some false)) else (some false)) else (some false)) else (some false)) else (some false)) else (some false))
/-- headend/headendref10.SameChoice -/
def ref10_SameChoice (p0 : TChoice) (p1 : TChoice) : Option (Bool) := Option.bind (ref10_SameNumbers p0 p1) fun x1 => ((bif x1 then Option.bind (ref03_SameInts p0.Witness p1.Witness) fun x2 => ((some x2)) else (some false)))
end Go.Sx

end
section
set_option linter.unusedVariables false
set_option maxRecDepth 100000
namespace Go.Sx
open Go Go.RowKit
/-- headend/headendlaw10.tree -/
def law10_tree (p0 : BitVec 8) (p1 : Int) : Option (TScheme) := (some (TScheme.mk p0 p1 0 (TGroup.mk 0#64 0#64 0#64)))
/-- headend/headendlaw10.small -/
def law10_small  : Option (TNeed) := (some (TNeed.mk 2 1 48 10 1 2 (TGroup.mk 0#64 0#64 0#64)))
def law10_worsts_J2 (a2 : Int) (rec1 : (Int) → Option (Bool)) (a4 : Bool) : Option (Bool) := (bif a4 then (some false) else (rec1 (w64 (a2 + 1))))
def law10_worsts_L1 (p0 : TScheme) (p1 : List Int) (rec1 : (Int) → Option (Bool)) (a2 : Int) : Option (Bool) := (if a2 < (p1.length : Int) then Option.bind (plan_Worst p0 a2) fun x3 => ((if x3.2 ≠ 0 then (law10_worsts_J2 a2 rec1 true) else Option.bind (getI p1 a2) fun y5 => ((law10_worsts_J2 a2 rec1 (decide (x3.1 ≠ y5)))))) else (some true))
/-- headend/headendlaw10.worsts -/
def law10_worsts (p0 : TScheme) (p1 : List Int) : Option (Bool) := (fixN (law10_worsts_L1 p0 p1) FUEL 0)
def law10_alive_J1 (x6 : TChoice × Int) (x8 : TPlan × Int) (a9 : Bool) : Option (Bool) := (bif a9 then (some false) else Option.bind (law10_tree 1#8 2) fun x10 => (Option.bind (law10_worsts x10 [1, 2, 2, 2, 2]) fun x11 => ((bif x11 then Option.bind (law10_tree 2#8 2) fun x12 => (Option.bind (law10_worsts x12 [1, 1, 2, 2, 2]) fun x13 => ((bif x13 then Option.bind (ref10_SameChoice x6.1 (TChoice.mk 1#8 true 2 0 103 48 1414 [3])) fun x14 => ((bif x14 then (if x8.1.Best = 1#8 then (some (decide ((x8.1.Choices.length : Int) = 4))) else (some false)) else (some false))) else (some false)))) else (some false)))))
/-- headend/headendlaw10.alive -/
def law10_alive  : Option (Bool) := Option.bind (law10_tree 1#8 2) fun x1 => (Option.bind (plan_Witness x1 2) fun x2 => (Option.bind (law10_tree 2#8 2) fun x3 => (Option.bind (plan_Witness x3 2) fun x4 => (Option.bind (law10_small) fun x5 => (Option.bind (plan_Choose x5 1#8) fun x6 => (Option.bind (law10_small) fun x7 => (Option.bind (plan_Make x7) fun x8 => ((if x2.2 ≠ 0 then (law10_alive_J1 x6 x8 true) else (if x4.2 ≠ 0 then (law10_alive_J1 x6 x8 true) else (if x6.2 ≠ 0 then (law10_alive_J1 x6 x8 true) else (if x8.2 ≠ 0 then (law10_alive_J1 x6 x8 true) else Option.bind (ref03_SameInts x2.1 [3]) fun x15 => ((bif (!x15) then (law10_alive_J1 x6 x8 true) else Option.bind (ref03_SameInts x4.1 [1, 3]) fun x16 => ((law10_alive_J1 x6 x8 (!x16)))))))))))))))))
end Go.Sx

end
section
set_option linter.unusedVariables false
set_option maxRecDepth 100000
namespace Go.Sx
open Go Go.RowKit
noncomputable section
/-- (headend/cover.tree).receiver -/
def cover_tree_receiver (p0 : Tcover_tree) (p1 : Int) : Option (Bool) := (if (0 : Int) ≤ p1 then Option.bind (cover_tree_size p0) fun x1 => ((some (decide (p1 < x1)))) else (some false))
def cover_tree_list_J2 (a2 : Int) (rec1 : (Int) → Option (Bool)) (a4 : Bool) : Option (Bool) := (bif a4 then (some false) else (rec1 (w64 (a2 + 1))))
def cover_tree_list_L1 (p0 : Tcover_tree) (p1 : List Int) (rec1 : (Int) → Option (Bool)) (a2 : Int) : Option (Bool) := (if a2 < (p1.length : Int) then Option.bind (getI p1 a2) fun y3 => (Option.bind (cover_tree_receiver p0 y3) fun x5 => ((bif (!x5) then (cover_tree_list_J2 a2 rec1 true) else (if (0 : Int) < a2 then Option.bind (getI p1 (w64 (a2 - 1))) fun y6 => ((cover_tree_list_J2 a2 rec1 (decide (y3 ≤ y6)))) else (cover_tree_list_J2 a2 rec1 false))))) else (some true))
/-- (headend/cover.tree).list -/
def cover_tree_list (p0 : Tcover_tree) (p1 : List Int) : Option (Bool) := (fixN (cover_tree_list_L1 p0 p1) FUEL 0)
/-- headend/cover.Cover$1 -/
def cover_Cover_1 (p0 : Int) (p1 : Int) (p2 : List TSubset) : Option (List TSubset) := Option.bind (appG 16 p2 [(TSubset.mk p0 p1)]) fun l1 => ((some l1))
def cover_Cover_L2 (a5 : Int) (rec1 : (Int × List Int) → Option (List TSubset × Int)) (rec2 : (Int × List Int) → Option (List TSubset × Int)) (s2 : Int × List Int) : Option (List TSubset × Int) := match s2 with | (a11, a12) => (if (0 : Int) < a11 then Option.bind (shG (un 1#64)) fun nn13 => ((rec2 (shrI a11 nn13, insS a12 a11))) else (rec1 (w64 (a5 + 1), a12)))
def cover_Cover_J4 (a16 : List TSubset) (nx3 : (List TSubset) → Option (List TSubset × Int)) (k18 : Int) (a20 : Bool) : Option (List TSubset × Int) := (bif a20 then Option.bind (cover_node_sibling k18) fun x21 => (Option.bind (cover_Cover_1 x21 0 a16) fun x22 => ((nx3 x22))) else (nx3 a16))
def cover_Cover_J7 (nx3 : (List TSubset) → Option (List TSubset × Int)) (a26 : Int) (a27 : Int) (a28 : List TSubset) : Option (List TSubset × Int) := Option.bind (cover_Cover_1 a27 a26 a28) fun x30 => ((nx3 x30))
def cover_Cover_J8 (a16 : List TSubset) (nx3 : (List TSubset) → Option (List TSubset × Int)) (k18 : Int) (a26 : Int) (x31 : Int) (a32 : Bool) : Option (List TSubset × Int) := (bif a32 then Option.bind (cover_Cover_1 k18 x31 a16) fun x33 => ((cover_Cover_J7 nx3 a26 x31 x33)) else (cover_Cover_J7 nx3 a26 k18 a16))
def cover_Cover_L6 (x1 : Tcover_tree × Int) (a6 : List Int) (a16 : List TSubset) (nx3 : (List TSubset) → Option (List TSubset × Int)) (k18 : Int) (rec6 : (Int) → Option (List TSubset × Int)) (a26 : Int) : Option (List TSubset × Int) := (bif ((decide ((w64 (2 * a26)) ∈ a6)) != (decide ((w64 ((w64 (2 * a26)) + 1)) ∈ a6))) then (if ¬ ((w64 (a26 * 2)) ∈ a6) then (rec6 (w64 ((w64 (a26 * 2)) + 1))) else (rec6 (w64 (a26 * 2)))) else (if a26 = k18 then (nx3 a16) else Option.bind (cover_tree_cut x1.1 k18 a26) fun x31 => ((if x31 ≠ 0 then (if x1.1.kind = 3#8 then Option.bind (cover_tree_special x1.1 k18) fun x34 => ((cover_Cover_J8 a16 nx3 k18 a26 x31 (!x34))) else (cover_Cover_J8 a16 nx3 k18 a26 x31 false)) else (cover_Cover_J8 a16 nx3 k18 a26 x31 false)))))
def cover_Cover_J5 (x1 : Tcover_tree × Int) (a6 : List Int) (a16 : List TSubset) (nx3 : (List TSubset) → Option (List TSubset × Int)) (k18 : Int) (a24 : Bool) : Option (List TSubset × Int) := (bif a24 then (nx3 a16) else (fixN (cover_Cover_L6 x1 a6 a16 nx3 k18) FUEL k18))
def cover_Cover_E3  (a16 : List TSubset) : Option (List TSubset × Int) := Option.bind (srtBy TSubset.Node a16) fun l19 => ((some (l19, 0)))
def cover_Cover_S3 (x1 : Tcover_tree × Int) (a6 : List Int) (k18 : Int) (nx3 : (List TSubset) → Option (List TSubset × Int)) (a16 : List TSubset) : Option (List TSubset × Int) := (if x1.1.kind = 1#8 then (if (1 : Int) < k18 then Option.bind (cover_node_sibling k18) fun x23 => ((cover_Cover_J4 a16 nx3 k18 (decide (¬ (x23 ∈ a6))))) else (cover_Cover_J4 a16 nx3 k18 false)) else (if (1 : Int) < k18 then Option.bind (cover_node_sibling k18) fun x35 => ((cover_Cover_J5 x1 a6 a16 nx3 k18 (decide (¬ (x35 ∈ a6))))) else (cover_Cover_J5 x1 a6 a16 nx3 k18 false)))
def cover_Cover_L1 (p1 : List Int) (x1 : Tcover_tree × Int) (rec1 : (Int × List Int) → Option (List TSubset × Int)) (s1 : Int × List Int) : Option (List TSubset × Int) := match s1 with | (a5, a6) => (if a5 < (p1.length : Int) then Option.bind (getI p1 a5) fun y7 => (Option.bind (cover_tree_leaf x1.1 y7) fun x8 => ((fixN (cover_Cover_L2 a5 rec1) FUEL (x8, a6)))) else (rngM (cover_Cover_S3 x1 a6) cover_Cover_E3 FUEL a6 []))
/-- headend/cover.Cover -/
def cover_Cover (p0 : TScheme) (p1 : List Int) : Option (List TSubset × Int) := Option.bind (cover_enter p0 ([] : List TSubset)) fun x1 => ((if x1.2 ≠ 0 then (some ([], x1.2)) else Option.bind (cover_tree_list x1.1 p1) fun x2 => ((bif (!x2) then (some ([], 2)) else (if (p1.length : Int) = 0 then (some ([(TSubset.mk 1 0)], 0)) else (fixN (cover_Cover_L1 p1 x1) FUEL (0, [])))))))
end
end Go.Sx

end
section
set_option linter.unusedVariables false
set_option maxRecDepth 100000
namespace Go.Sx
open Go Go.RowKit
noncomputable section
structure TA5_i64 where
  a0 : Int
  a1 : Int
  a2 : Int
  a3 : Int
  a4 : Int
deriving DecidableEq, Inhabited
def TA5_i64.cs (x : TA5_i64)  : List Value := [.int .i64 x.a0, .int .i64 x.a1, .int .i64 x.a2, .int .i64 x.a3, .int .i64 x.a4]
theorem TA5_i64.cs_ones (x : TA5_i64)   : ones (TA5_i64.cs x ) = true := by simp only [TA5_i64.cs, List.cons_append, List.nil_append, kb, ones, one_int, one_bool, one_str, cond_true]
theorem TA5_i64.cs_inj {x y : TA5_i64} (h : TA5_i64.cs x = TA5_i64.cs y) : x = y := by
  have h0 : x.a0 = y.a0 := ci_inj (congrArg (fun l => l[0]?) h)
  have h1 : x.a1 = y.a1 := ci_inj (congrArg (fun l => l[1]?) h)
  have h2 : x.a2 = y.a2 := ci_inj (congrArg (fun l => l[2]?) h)
  have h3 : x.a3 = y.a3 := ci_inj (congrArg (fun l => l[3]?) h)
  have h4 : x.a4 = y.a4 := ci_inj (congrArg (fun l => l[4]?) h)
  cases x; cases y; simp only at *; subst h0; subst h1; subst h2; subst h3; subst h4; rfl
theorem TA5_i64.ws (l : List TA5_i64) : Ws 5 (l.map TA5_i64.cs) := ws_map l (fun _ => rfl) (fun _ => rfl)
def plan_agrees_J2 (p0 : TNeed) (p1 : TChoice) (a1 : Bool) (a2 : Bool) : Option (Bool) := (bif a2 then (bif a1 then (some (decide ((p1.Witness.length : Int) = 0))) else (some false)) else Option.bind (cover_Cover (TScheme.mk p1.Kind p0.Depth 0 (TGroup.mk 0#64 0#64 0#64)) p1.Witness) fun x3 => ((if x3.2 = 0 then (if (p1.Witness.length : Int) ≤ p0.Revoked then (some (decide ((x3.1.length : Int) = p1.Items))) else (some false)) else (some false))))
def plan_agrees_J1 (p0 : TNeed) (p1 : TChoice) (a1 : Bool) : Option (Bool) := (bif (!a1) then (plan_agrees_J2 p0 p1 a1 true) else (plan_agrees_J2 p0 p1 a1 (decide (p1.Kind = 4#8))))
/-- headend/plan.agrees -/
def plan_agrees (p0 : TNeed) (p1 : TChoice) (p2 : TChoice) : Option (Bool) := (if p1.Kind = p2.Kind then (bif (p1.Fits == p2.Fits) then (plan_agrees_J1 p0 p1 (decide ((TA5_i64.mk p1.Items p1.Points p1.Header p1.Storage p1.Cost) = (TA5_i64.mk p2.Items p2.Points p2.Header p2.Storage p2.Cost)))) else (plan_agrees_J1 p0 p1 false)) else (plan_agrees_J1 p0 p1 false))
/-- headend/plan.Check$1 -/
def plan_Check_1 (p0 : TChoice) (p1 : TChoice) (p2 : TNeed) : Option (Bool) := Option.bind (plan_agrees p2 p0 p1) fun x1 => ((some x1))
def slices_EqualFunc_ff82_plan_Check_1_L1 (p0 : List TChoice) (p1 : List TChoice) (p2_0 : TNeed) (rec1 : (Int) → Option (Bool)) (a2 : Int) : Option (Bool) := (if a2 < (p0.length : Int) then Option.bind (getI p0 a2) fun y3 => (Option.bind (getI p1 a2) fun y4 => (Option.bind (plan_Check_1 y3 y4 p2_0) fun x5 => ((bif (!x5) then (some false) else (rec1 (w64 (a2 + 1))))))) else (some true))
/-- slices.EqualFunc[[]headend/api.Choice,[]headend/api.Choice,headend/api.Choice,headend/api.Choice] -/
def slices_EqualFunc_ff82_plan_Check_1 (p0 : List TChoice) (p1 : List TChoice) (p2_0 : TNeed) : Option (Bool) := (if (p0.length : Int) ≠ (p1.length : Int) then (some false) else (fixN (slices_EqualFunc_ff82_plan_Check_1_L1 p0 p1 p2_0) FUEL 0))
def plan_Check_J1 (a2 : Bool) : Option (Int) := (bif a2 then (some 100) else (some 0))
/-- headend/plan.Check -/
def plan_Check (p0 : TNeed) (p1 : TPlan) : Option (Int) := Option.bind (plan_Make p0) fun x1 => ((if x1.2 ≠ 0 then (some x1.2) else (if p1.Best ≠ x1.1.Best then (plan_Check_J1 true) else Option.bind (slices_EqualFunc_ff82_plan_Check_1 p1.Choices x1.1.Choices p0) fun x3 => ((plan_Check_J1 (!x3))))))
end
end Go.Sx

end
section
set_option linter.unusedVariables false
set_option maxRecDepth 100000
namespace Go.Sx
open Go Go.RowKit
noncomputable section
/-- slices.Clone[[]int,int] -/
def slices_Clone_8a9f (p0 : List Int) : Option (List Int) := Option.bind (appG 8 [] p0) fun l1 => ((some l1))
def plan_Tables_L2 (p0 : TScheme) (x2 : Tplan_tables) (a6 : List (List (List Int))) (a8 : Int) (rec1 : (List (List (List Int)) × Int) → Option (List (List (List Int)) × Int)) (rec2 : (List (List Int) × Int) → Option (List (List (List Int)) × Int)) (s2 : List (List Int) × Int) : Option (List (List (List Int)) × Int) := match s2 with | (a12, a14) => (if a14 < w64 (p0.Depth + 1) then Option.bind (plan_tables_at x2 a8 a14) fun x15 => (Option.bind (slices_Clone_8a9f x15) fun x16 => (Option.bind (appG 24 a12 [x16]) fun l17 => ((rec2 (l17, w64 (a14 + 1)))))) else Option.bind (appG 24 a6 [a12]) fun l18 => ((rec1 (l18, w64 (a8 + 1)))))
def plan_Tables_L1 (p0 : TScheme) (x2 : Tplan_tables) (rec1 : (List (List (List Int)) × Int) → Option (List (List (List Int)) × Int)) (s1 : List (List (List Int)) × Int) : Option (List (List (List Int)) × Int) := match s1 with | (a6, a8) => (if a8 < x2.states then (fixN (plan_Tables_L2 p0 x2 a6 a8 rec1) FUEL ([], 0)) else (some (a6, 0)))
/-- headend/plan.Tables -/
def plan_Tables (p0 : TScheme) : Option (List (List (List Int)) × Int) := Option.bind (cover_Check p0) fun x1 => ((if x1 ≠ 0 then (some ([], x1)) else Option.bind (plan_newTables p0) fun x2 => ((fixN (plan_Tables_L1 p0 x2) FUEL ([], 0)))))
def slices_Equal_dd32_L1 (p0 : List Int) (p1 : List Int) (rec1 : (Int) → Option (Bool)) (a2 : Int) : Option (Bool) := (if a2 < (p0.length : Int) then Option.bind (getI p0 a2) fun y3 => (Option.bind (getI p1 a2) fun y4 => ((if y3 ≠ y4 then (some false) else (rec1 (w64 (a2 + 1)))))) else (some true))
/-- slices.Equal[[]int,int] -/
def slices_Equal_dd32 (p0 : List Int) (p1 : List Int) : Option (Bool) := (if (p0.length : Int) ≠ (p1.length : Int) then (some false) else (fixN (slices_Equal_dd32_L1 p0 p1) FUEL 0))
def slices_EqualFunc_2be1_slices_Equal_dd32_L1 (p0 : List (List Int)) (p1 : List (List Int)) (rec1 : (Int) → Option (Bool)) (a2 : Int) : Option (Bool) := (if a2 < (p0.length : Int) then Option.bind (getI p0 a2) fun y3 => (Option.bind (getI p1 a2) fun y4 => (Option.bind (slices_Equal_dd32 y3 y4) fun x5 => ((bif (!x5) then (some false) else (rec1 (w64 (a2 + 1))))))) else (some true))
/-- slices.EqualFunc[[][]int,[][]int,[]int,[]int] -/
def slices_EqualFunc_2be1_slices_Equal_dd32 (p0 : List (List Int)) (p1 : List (List Int)) : Option (Bool) := (if (p0.length : Int) ≠ (p1.length : Int) then (some false) else (fixN (slices_EqualFunc_2be1_slices_Equal_dd32_L1 p0 p1) FUEL 0))
/-- headend/plan.CheckTables$1 -/
def plan_CheckTables_1 (p0 : List (List Int)) (p1 : List (List Int)) : Option (Bool) := Option.bind (slices_EqualFunc_2be1_slices_Equal_dd32 p0 p1) fun x1 => ((some x1))
def slices_EqualFunc_83f6_plan_CheckTables_1_L1 (p0 : List (List (List Int))) (p1 : List (List (List Int))) (rec1 : (Int) → Option (Bool)) (a2 : Int) : Option (Bool) := (if a2 < (p0.length : Int) then Option.bind (getI p0 a2) fun y3 => (Option.bind (getI p1 a2) fun y4 => (Option.bind (plan_CheckTables_1 y3 y4) fun x5 => ((bif (!x5) then (some false) else (rec1 (w64 (a2 + 1))))))) else (some true))
/-- slices.EqualFunc[[][][]int,[][][]int,[][]int,[][]int] -/
def slices_EqualFunc_83f6_plan_CheckTables_1 (p0 : List (List (List Int))) (p1 : List (List (List Int))) : Option (Bool) := (if (p0.length : Int) ≠ (p1.length : Int) then (some false) else (fixN (slices_EqualFunc_83f6_plan_CheckTables_1_L1 p0 p1) FUEL 0))
/-- headend/plan.CheckTables -/
def plan_CheckTables (p0 : TScheme) (p1 : List (List (List Int))) : Option (Int) := Option.bind (plan_Tables p0) fun x1 => ((if x1.2 ≠ 0 then (some x1.2) else Option.bind (slices_EqualFunc_83f6_plan_CheckTables_1 x1.1 p1) fun x2 => ((bif (!x2) then (some 100) else (some 0)))))
end
end Go.Sx

end
section
set_option linter.unusedVariables false
set_option maxRecDepth 100000
namespace Go.Sx
open Go Go.RowKit
noncomputable section
def law10_PlanRules_L3 (a5 : Int) (rec2 : (Int) → Option (Bool)) (y6 : List (List Int)) (rec3 : (Int) → Option (Bool)) (a8 : Int) : Option (Bool) := (if a8 < (y6.length : Int) then Option.bind (getI y6 a8) fun y9 => (Option.bind (shG a8) fun nn10 => ((if (y9.length : Int) ≠ w64 (1 + (shlI 1 nn10)) then (some false) else (rec3 (w64 (a8 + 1)))))) else (rec2 (w64 (a5 + 1))))
def law10_PlanRules_J9 (a18 : Int) (rec6 : (Int) → Option (Bool)) (a22 : Bool) : Option (Bool) := (bif a22 then (some false) else (rec6 (w64 (a18 + 1))))
def law10_PlanRules_J8 (p0 : TScheme) (x2 : List (List (List Int)) × Int) (y11 : List (List Int)) (a13 : Int) (a15 : Int) (a18 : Int) (rec6 : (Int) → Option (Bool)) (a20 : Bool) (a21 : Bool) : Option (Bool) := (bif a21 then (some false) else (bif a20 then (if 1#8 < p0.Kind then Option.bind (getI x2.1 1) fun y23 => (Option.bind (getI y23 a13) fun y24 => (Option.bind (getI y24 (w64 (a15 + a18))) fun y25 => (Option.bind (getI y11 (w64 (a13 - 1))) fun y26 => (Option.bind (getI y26 a15) fun y27 => (Option.bind (getI y11 (w64 (a13 - 1))) fun y28 => (Option.bind (getI y28 a18) fun y29 => ((law10_PlanRules_J9 a18 rec6 (decide (y25 < w64 ((w64 (1 + y27)) + y29))))))))))) else (law10_PlanRules_J9 a18 rec6 false)) else (law10_PlanRules_J9 a18 rec6 false)))
def law10_PlanRules_J7 (p0 : TScheme) (x2 : List (List (List Int)) × Int) (y11 : List (List Int)) (a13 : Int) (a15 : Int) (a18 : Int) (rec6 : (Int) → Option (Bool)) (a20 : Bool) : Option (Bool) := (if p0.Kind = 1#8 then (if (0 : Int) < w64 (a15 + a18) then Option.bind (getI y11 a13) fun y30 => (Option.bind (getI y30 (w64 (a15 + a18))) fun y31 => (Option.bind (getI y11 (w64 (a13 - 1))) fun y32 => (Option.bind (getI y32 a15) fun y33 => (Option.bind (getI y11 (w64 (a13 - 1))) fun y34 => (Option.bind (getI y34 a18) fun y35 => ((law10_PlanRules_J8 p0 x2 y11 a13 a15 a18 rec6 a20 (decide (y31 < w64 (y33 + y35)))))))))) else (bif a20 then Option.bind (getI y11 a13) fun y36 => (Option.bind (getI y36 (w64 (a15 + a18))) fun y37 => (Option.bind (getI y11 (w64 (a13 - 1))) fun y38 => (Option.bind (getI y38 a15) fun y39 => (Option.bind (getI y11 (w64 (a13 - 1))) fun y40 => (Option.bind (getI y40 a18) fun y41 => ((law10_PlanRules_J8 p0 x2 y11 a13 a15 a18 rec6 a20 (decide (y37 < w64 (y39 + y41)))))))))) else (law10_PlanRules_J8 p0 x2 y11 a13 a15 a18 rec6 a20 false))) else (bif a20 then Option.bind (getI y11 a13) fun y42 => (Option.bind (getI y42 (w64 (a15 + a18))) fun y43 => (Option.bind (getI y11 (w64 (a13 - 1))) fun y44 => (Option.bind (getI y44 a15) fun y45 => (Option.bind (getI y11 (w64 (a13 - 1))) fun y46 => (Option.bind (getI y46 a18) fun y47 => ((law10_PlanRules_J8 p0 x2 y11 a13 a15 a18 rec6 a20 (decide (y43 < w64 (y45 + y47)))))))))) else (law10_PlanRules_J8 p0 x2 y11 a13 a15 a18 rec6 a20 false)))
def law10_PlanRules_L6 (p0 : TScheme) (x2 : List (List (List Int)) × Int) (y11 : List (List Int)) (a13 : Int) (a15 : Int) (rec5 : (Int) → Option (Bool)) (rec6 : (Int) → Option (Bool)) (a18 : Int) : Option (Bool) := Option.bind (shG (w64 (a13 - 1))) fun nn19 => ((if a18 ≤ shlI 1 nn19 then (if (0 : Int) < a15 then (law10_PlanRules_J7 p0 x2 y11 a13 a15 a18 rec6 (decide ((0 : Int) < a18))) else (law10_PlanRules_J7 p0 x2 y11 a13 a15 a18 rec6 false)) else (rec5 (w64 (a15 + 1)))))
def law10_PlanRules_L5 (p0 : TScheme) (x2 : List (List (List Int)) × Int) (y11 : List (List Int)) (a13 : Int) (rec4 : (Int) → Option (Bool)) (rec5 : (Int) → Option (Bool)) (a15 : Int) : Option (Bool) := Option.bind (shG (w64 (a13 - 1))) fun nn16 => ((if a15 ≤ shlI 1 nn16 then (fixN (law10_PlanRules_L6 p0 x2 y11 a13 a15 rec5) FUEL 0) else (rec4 (w64 (a13 + 1)))))
def law10_PlanRules_J11 (p0 : TScheme) (x1 : Bool) (y11 : List (List Int)) (x48 : Int × Int) (a51 : Int) (a52 : Int) (rec10 : (Int × Int) → Option (Bool)) (a53 : Bool) : Option (Bool) := (bif a53 then Option.bind (getI y11 p0.Depth) fun y54 => (Option.bind (getI y54 a52) fun y55 => ((rec10 (mxI a51 y55, w64 (a52 + 1))))) else (bif x1 then (some (decide (x48.1 = a51))) else (some false)))
def law10_PlanRules_L10 (p0 : TScheme) (p1 : Int) (x1 : Bool) (y11 : List (List Int)) (x48 : Int × Int) (rec10 : (Int × Int) → Option (Bool)) (s10 : Int × Int) : Option (Bool) := match s10 with | (a51, a52) => (if a52 ≤ p1 then Option.bind (getI y11 p0.Depth) fun y56 => ((law10_PlanRules_J11 p0 x1 y11 x48 a51 a52 rec10 (decide (a52 < (y56.length : Int))))) else (law10_PlanRules_J11 p0 x1 y11 x48 a51 a52 rec10 false))
def law10_PlanRules_L4 (p0 : TScheme) (p1 : Int) (x1 : Bool) (x2 : List (List (List Int)) × Int) (y11 : List (List Int)) (rec4 : (Int) → Option (Bool)) (a13 : Int) : Option (Bool) := (if a13 ≤ p0.Depth then (fixN (law10_PlanRules_L5 p0 x2 y11 a13 rec4) FUEL 0) else Option.bind (plan_Worst p0 p1) fun x48 => ((if x48.2 ≠ 0 then (bif x1 then (some (decide (x48.2 = 2))) else (some false)) else (fixN (law10_PlanRules_L10 p0 p1 x1 y11 x48) FUEL (1, 1)))))
def law10_PlanRules_L2 (p0 : TScheme) (p1 : Int) (x1 : Bool) (x2 : List (List (List Int)) × Int) (rec2 : (Int) → Option (Bool)) (a5 : Int) : Option (Bool) := (if a5 < (x2.1.length : Int) then Option.bind (getI x2.1 a5) fun y6 => ((if (y6.length : Int) ≠ w64 (p0.Depth + 1) then (some false) else (fixN (law10_PlanRules_L3 a5 rec2 y6) FUEL 0))) else Option.bind (getI x2.1 0) fun y11 => ((fixN (law10_PlanRules_L4 p0 p1 x1 x2 y11) FUEL 1)))
def law10_PlanRules_J1 (p0 : TScheme) (p1 : Int) (x1 : Bool) (x2 : List (List (List Int)) × Int) (a3 : Bool) : Option (Bool) := (bif a3 then (some false) else (fixN (law10_PlanRules_L2 p0 p1 x1 x2) FUEL 0))
/-- headend/headendlaw10.PlanRules -/
def law10_PlanRules (p0 : TScheme) (p1 : Int) : Option (Bool) := Option.bind (law10_alive) fun x1 => (Option.bind (plan_Tables p0) fun x2 => ((if x2.2 ≠ 0 then (bif x1 then (some (decide ((x2.1.length : Int) = 0))) else (some false)) else (if p0.Kind < 1#8 then (law10_PlanRules_J1 p0 p1 x1 x2 true) else (if 3#8 < p0.Kind then (law10_PlanRules_J1 p0 p1 x1 x2 true) else (if p0.Depth < 0 then (law10_PlanRules_J1 p0 p1 x1 x2 true) else (if (6 : Int) < p0.Depth then (law10_PlanRules_J1 p0 p1 x1 x2 true) else Option.bind (getI [0, 1, 2, 4] (un8 p0.Kind)) fun y57 => ((if (x2.1.length : Int) ≠ y57 then (law10_PlanRules_J1 p0 p1 x1 x2 true) else Option.bind (plan_CheckTables p0 x2.1) fun x58 => ((law10_PlanRules_J1 p0 p1 x1 x2 (decide (x58 ≠ 0)))))))))))))
end
end Go.Sx

end
section
set_option linter.unusedVariables false
set_option linter.unusedSimpArgs false
set_option maxRecDepth 100000
namespace Go.Sx
open Go Go.RowKit Go.Proofs
theorem op_TGroup {H : Type} {enc : TypeId × Value → H} {W : World} {fuel : Nat} {cs : List Value} {x : DataW H × List MemPlace} (h : Tr enc Try.prog W fuel 24 cs x) : ∃ (m : TGroup), cs = TGroup.cs m := by
  obtain ⟨xs, n, rfl, rfl, hl, hx, hf⟩ := DataW.trod_struct Try.underlying24 h
  replace hl : cs.length = 3 := hl.trans (by kernel_rfl)
  replace hx : xs.length = 3 := hx
  obtain ⟨y0, e0⟩ := some_at (i := 0) hx rfl
  have h0 : Tr enc Try.prog W n 22 ((cs.drop 0).take 1) y0 := fld hf (i := 0) rfl rfl rfl (by kernel_rfl) e0
  obtain ⟨m0, c0⟩ := op_u64 Try.underlying22 h0
  obtain ⟨y1, e1⟩ := some_at (i := 1) hx rfl
  have h1 : Tr enc Try.prog W n 22 ((cs.drop 1).take 1) y1 := fld hf (i := 1) rfl rfl rfl (by kernel_rfl) e1
  obtain ⟨m1, c1⟩ := op_u64 Try.underlying22 h1
  obtain ⟨y2, e2⟩ := some_at (i := 2) hx rfl
  have h2 : Tr enc Try.prog W n 22 ((cs.drop 2).take 1) y2 := fld hf (i := 2) rfl rfl rfl (by kernel_rfl) e2
  obtain ⟨m2, c2⟩ := op_u64 Try.underlying22 h2
  have q := cat_end hl
  replace q := cat_step (o := 2) (k := 1) c2 q
  replace q := cat_step (o := 1) (k := 1) c1 q
  replace q := cat_step (o := 0) (k := 1) c0 q
  exact ⟨⟨m0, m1, m2⟩, q⟩
def TScheme.ok (x : TScheme) : Prop := I64 x.Depth ∧ I64 x.Degree
theorem op_TScheme {H : Type} {enc : TypeId × Value → H} {W : World} {fuel : Nat} {cs : List Value} {x : DataW H × List MemPlace} (h : Tr enc Try.prog W fuel 26 cs x) : ∃ (m : TScheme), cs = TScheme.cs m ∧ TScheme.ok m := by
  obtain ⟨xs, n, rfl, rfl, hl, hx, hf⟩ := DataW.trod_struct Try.underlying26 h
  replace hl : cs.length = 6 := hl.trans (by kernel_rfl)
  replace hx : xs.length = 4 := hx
  obtain ⟨y0, e0⟩ := some_at (i := 0) hx rfl
  have h0 : Tr enc Try.prog W n 5 ((cs.drop 0).take 1) y0 := fld hf (i := 0) rfl rfl rfl (by kernel_rfl) e0
  obtain ⟨m0, c0⟩ := op_u8 Try.underlying5 h0
  obtain ⟨y1, e1⟩ := some_at (i := 1) hx rfl
  have h1 : Tr enc Try.prog W n 3 ((cs.drop 1).take 1) y1 := fld hf (i := 1) rfl rfl rfl (by kernel_rfl) e1
  obtain ⟨m1, c1, k1⟩ := op_i64 Try.underlying3 h1
  obtain ⟨y2, e2⟩ := some_at (i := 2) hx rfl
  have h2 : Tr enc Try.prog W n 3 ((cs.drop 2).take 1) y2 := fld hf (i := 2) rfl rfl rfl (by kernel_rfl) e2
  obtain ⟨m2, c2, k2⟩ := op_i64 Try.underlying3 h2
  obtain ⟨y3, e3⟩ := some_at (i := 3) hx rfl
  have h3 : Tr enc Try.prog W n 24 ((cs.drop 3).take 3) y3 := fld hf (i := 3) rfl rfl rfl (by kernel_rfl) e3
  obtain ⟨m3, c3⟩ := op_TGroup h3
  have q := cat_end hl
  replace q := cat_step (o := 3) (k := 3) c3 q
  replace q := cat_step (o := 2) (k := 1) c2 q
  replace q := cat_step (o := 1) (k := 1) c1 q
  replace q := cat_step (o := 0) (k := 1) c0 q
  exact ⟨⟨m0, m1, m2, m3⟩, q, ⟨k1, k2⟩⟩
end Go.Sx

end
section
set_option linter.unusedVariables false
set_option linter.unusedSimpArgs false
namespace Go.Sx
open Go Go.RowKit
section
variable {P : Program} {L : Slots} {w : World} {dst : Option Nat} {ty : TypeId} {pos : String} {af : Array Edge} {gu : Option (Nat × Bool)} {x y p q r : Operand} {t e : TypeId} {v : Value} {z g o sz : Nat} {α : Type} {l m : List α} {c : α → List Value} {lo hi : Int} {kl kh km : IntKind}
theorem run_sli3 {ρ : Operand → Value} {a : Option Addr} {len cap : Nat} (hρ : Cons L ρ) (hu : P.underlying t = some (.slice e)) (hs : Siz P e sz) (hp : ev L p = some (.int kl lo)) (hq : ev L q = some (.int kh hi)) (hm : ev L r = some (.int km hi)) (h0 : 0 ≤ lo) (h1 : lo ≤ hi) (h2 : hi ≤ (cap : Int)) :
    (Instr.sliceAt t (.slice a len cap) (some (ρ p)) (some (ρ q)) (some (ρ r))).run P w = .ok (sliced a lo.toNat hi.toNat hi.toNat sz) w := by
  have he : P.elem t = e := by simp [Program.elem, hu]
  have hu' : P.underlying t = some (.slice (P.elem t)) := by rw [he]; exact hu
  rw [run_sliceAt_slice _ _ _ _ _ _ hu', hρ _ _ hp, hρ _ _ hq, hρ _ _ hm, run_slice_lhm _ _ _ _ _ hu' _ _ _ _ _ _ h0 h1 (by omega) h2, he, hs w]; simp [Result.andThen]
theorem vv_sliT3 (hu : P.underlying t = some (.slice e)) (hs : Siz P e sz) (hx : ev L x = some v) (hr : Rd w z g o sz v (l.map c)) (hp : ev L p = some (.int kl lo)) (hq : ev L q = some (.int kh hi)) (hmx : ev L r = some (.int km hi)) (hl : sliG l lo hi = some m) :
    ∃ v' o', (∀ w1, VV P L ⟨dst, .slice t x (some p) (some q) (some r), ty, pos, af, gu⟩ w1 v') ∧ Rd w z g o' sz v' (m.map c) := by
  obtain ⟨rfl, h3, h4, h5⟩ := sliG_eq hl
  rcases hr.2 with ⟨hz, hnil, a, cap, rfl⟩ | ⟨hz, cap, rfl, ⟨hg, hcap⟩, hcell⟩
  · have hl0 : l = [] := by simpa using hnil
    subst hl0
    simp only [List.length_nil] at h5
    have e1 : lo = 0 := by omega
    have e2 : hi = 0 := by omega
    subst e1 e2
    refine ⟨_, 0, fun w1 ρ hρ => run_v (by rw [hρ _ _ hx]; exact run_sli3 hρ hu hs hp hq hmx (by omega) (by omega) (by omega)), by simpa using hr.1, .inl ⟨hz, by simp, ?_⟩⟩
    exact ⟨_, _, rfl⟩
  · rw [List.length_map] at hcap hx
    have hlen : ((l.map c).take hi.toNat).length = hi.toNat := by rw [List.length_take, List.length_map]; omega
    have hm : (((l.take hi.toNat).drop lo.toNat).map c) = ((l.map c).take hi.toNat).drop lo.toNat := by rw [List.map_drop, List.map_take]
    have hml : (((l.take hi.toNat).drop lo.toNat).map c).length = hi.toNat - lo.toNat := by rw [hm, List.length_drop, hlen]
    refine ⟨_, if hi.toNat = lo.toNat then o else o + lo.toNat * sz, fun w1 ρ hρ => run_v (by rw [hρ _ _ hx]; exact run_sli3 hρ hu hs hp hq hmx h3 h4 (by omega)), by rw [hm]; exact hr.1.take.drop, .inr ⟨hz, hi.toNat - lo.toNat, ?_, ⟨hg, by rw [hml]; omega⟩, fun j u hj => ?_⟩⟩
    · simp only [sliced, hml]
      by_cases e : hi.toNat = lo.toNat
      · rw [if_pos e, if_pos e]
      · rw [if_neg e, if_neg e]; simp [Addr.add_lit]
    · rw [hm, flat_drop _ _ hr.1.take, flat_take _ _ hr.1, List.getElem?_drop] at hj
      have hj2 : (l.map c).flatten[lo.toNat * sz + j]? = some u := by
        rw [List.getElem?_take] at hj
        split at hj
        · exact hj
        · cases hj
      by_cases e : hi.toNat = lo.toNat
      · exfalso
        rw [List.getElem?_take, e] at hj
        split at hj
        · omega
        · cases hj
      · rw [if_neg e, Nat.add_assoc]; exact hcell _ _ hj2
/-- a part of an owned slice -/
theorem vv_sliV {n : Nat} (hu : P.underlying t = some (.slice e)) (hs : Siz P e sz) (hx : ev L x = some v) (h : Own w z g e sz v (l.map c)) (hp : ev L p = some (.int kl lo)) (hq : ev L q = some (.int kh hi)) (hm : ev L r = some (.int km hi)) (hl : viewG l lo hi = some n) :
    VV P L ⟨dst, .slice t x (some p) (some q) (some r), ty, pos, af, gu⟩ w (.slice (some ⟨g, lo.toNat * sz, none⟩) n n) := fun ρ hρ => by
  unfold viewG at hl
  split at hl
  · rename_i hh
    obtain ⟨h0, h1, h2⟩ := hh
    cases hl
    rcases h.2 with ⟨_, _, h0'⟩ | ⟨hz, cap, cur, rfl, h1', h2', h3⟩
    · have : l = [] := by simpa using h0'
      subst this; simp at h2; omega
    · rw [List.length_map] at h2'
      refine run_v ?_
      rw [hρ _ _ hx]
      show (Instr.sliceAt t (.slice (some ⟨g, 0, none⟩) _ cap) (some (ρ p)) (some (ρ q)) (some (ρ r))).run P w = _
      rw [run_sli3 hρ hu hs hp hq hm h0 (by omega) (by omega)]
      simp only [sliced]
      rw [if_neg (by omega)]
      simp [Addr.add_lit]
      omega
  · cases hl
theorem vv_ixVw {n : Nat} {i j : Int} {k : IntKind} {v : Value} (hv : v = .slice (some ⟨g, lo.toNat * sz, none⟩) n n) (h0 : 0 ≤ lo) (hu : P.underlying t = some (.slice e)) (hs : Siz P e sz) (hx : ev L x = some v) (hy : ev L y = some (.int k i)) (hj : ixG lo n i = some j) :
    VV P L ⟨dst, .indexAddr t x y, ty, pos, af, gu⟩ w (.pointer (some ⟨g, 0 + j.toNat * sz, none⟩)) := by
  unfold ixG at hj
  split at hj
  · rename_i hh
    cases hj
    subst hv
    have := vv_indexAddrS (dst := dst) (ty := ty) (pos := pos) (af := af) (gu := gu) (w := w) hu hs hx hy hh.1 hh.2
    have e : lo.toNat * sz + i.toNat * sz = 0 + (lo + i).toNat * sz := by rw [← Nat.add_mul, Int.toNat_add h0 hh.1]; omega
    rwa [e] at this
  · cases hj
theorem viewG_nn {n : Nat} (hl : viewG l lo hi = some n) : 0 ≤ lo := by
  unfold viewG at hl; split at hl
  · rename_i hh; exact hh.1
  · cases hl
/-- an index in an array that is held -/
theorem vv_ixE {len b' off : Nat} {i : Int} {k : IntKind} (j : Nat) (hu : P.underlying t = some (.array len e)) (hs : Siz P e sz) (hx : ev L x = some (.pointer (some ⟨b', off, none⟩))) (hy : ev L y = some (.int k i)) (h : i = (j : Int)) (hj : j < len) :
    VV P L ⟨dst, .indexAddr t x y, ty, pos, af, gu⟩ w (.pointer (some ⟨b', off + j * sz, none⟩)) := by
  have := vv_indexAddr (dst := dst) (ty := ty) (pos := pos) (af := af) (gu := gu) (w := w) hu hs hx hy (by omega) (by omega)
  rwa [show i.toNat = j from by omega] at this
theorem vv_ixV1 {len : Nat} {i : Int} {k : IntKind} {a : α} {u : Value} {cs : List Value} (hu : P.underlying t = some (.array len e)) (hs : Siz P e 1) (h1 : One P e) (hx : ev L x = some (.agg cs.toArray)) (hcs : cs = (l.map c).flatten) (hl : l.length = len) (hw : Ws 1 (l.map c)) (hy : ev L y = some (.int k i)) (hg : getI l i = some a) (hc : c a = [u]) :
    VV P L ⟨dst, .index t x y, ty, pos, af, gu⟩ w u := fun ρ hρ => by
  have h0 := getI_nn hg
  have h2 := getI_lt hg
  have h2' : i < (len : Int) := by omega
  have hp : (part e cs.toArray (i.toNat * 1)).run P w = .ok u w := by
    have hq : cs[i.toNat]? = some u := by
      have := Ws.at (sz := 1) i.toNat 0 (c a) hw (getm (getI_at hg)) (by omega)
      rw [hcs]; rw [hc] at this; simpa using this
    have hq2 : cs.toArray[i.toNat]? = some u := by simpa using hq
    simp [part, (h1 w).1, hq2]
  rw [Nat.mul_one] at hp
  refine run_v ?_
  rw [hρ _ _ hx, hρ _ _ hy]
  simp [Instr.index, run_underlying hu, asIntOf, h0, h2', hs w, hp]
end
end Go.Sx

end
section
set_option linter.unusedVariables false
set_option linter.unusedSimpArgs false
namespace Go.Proofs.Ytopkalcefepilaa
open Go Go.RowKit Go.Sx
theorem cv_22_5 : CV Try.prog 22 5 .u8 := fun _ _ _ => by kernel_rfl
theorem cv_5_3 : CV Try.prog 5 3 .i64 := fun _ _ _ => by kernel_rfl
theorem en_130 : En Try.prog 130 := fun _ _ => by kernel_rfl
theorem log2_shift (n k : Nat) (h : 2 ^ k ≤ n) : Nat.log2 n = Nat.log2 (n / 2 ^ k) + k := by
  induction k generalizing n with
  | zero => simp
  | succ k ih =>
    have h2 : 2 ^ k ≤ n / 2 := by rw [Nat.le_div_iff_mul_le (by omega)]; rw [Nat.pow_succ] at h; omega
    have h1 : 2 ≤ n := by have : 0 < 2 ^ k := Nat.two_pow_pos k; rw [Nat.pow_succ] at h; omega
    rw [Nat.log2_def, if_pos h1, ih (n / 2) h2, Nat.div_div_eq_div_mul, Nat.pow_succ, Nat.mul_comm 2]; omega
theorem lg_shift (a : Int) (k m : Nat) (hm : 2 ^ k = m) (h : (m : Int) ≤ a) : lg a = lg (a / (m : Int)) + k := by
  obtain ⟨n, rfl⟩ := Int.eq_ofNat_of_zero_le (show 0 ≤ a by omega)
  subst hm
  have hp : 0 < 2 ^ k := Nat.two_pow_pos k
  have h' : 2 ^ k ≤ n := by omega
  have e : ((n : Int) / ((2 ^ k : Nat) : Int)).toNat = n / 2 ^ k := by rw [← Int.natCast_ediv]; rfl
  have h1 : ¬ (n / 2 ^ k = 0) := by rw [Nat.div_eq_zero_iff]; omega
  unfold lg
  rw [e, Int.toNat_natCast, if_neg h1, if_neg (by omega), log2_shift n k h']
  omega
def lenTab : ByteArray := ⟨#[0, 1, 2, 2, 3, 3, 3, 3, 4, 4, 4, 4, 4, 4, 4, 4, 5, 5, 5, 5, 5, 5, 5, 5, 5, 5, 5, 5, 5, 5, 5, 5, 6, 6, 6, 6, 6, 6, 6, 6, 6, 6, 6, 6, 6, 6, 6, 6, 6, 6, 6, 6, 6, 6, 6, 6, 6, 6, 6, 6, 6, 6, 6, 6, 7, 7, 7, 7, 7, 7, 7, 7, 7, 7, 7, 7, 7, 7, 7, 7, 7, 7, 7, 7, 7, 7, 7, 7, 7, 7, 7, 7, 7, 7, 7, 7, 7, 7, 7, 7, 7, 7, 7, 7, 7, 7, 7, 7, 7, 7, 7, 7, 7, 7, 7, 7, 7, 7, 7, 7, 7, 7, 7, 7, 7, 7, 7, 7, 8, 8, 8, 8, 8, 8, 8, 8, 8, 8, 8, 8, 8, 8, 8, 8, 8, 8, 8, 8, 8, 8, 8, 8, 8, 8, 8, 8, 8, 8, 8, 8, 8, 8, 8, 8, 8, 8, 8, 8, 8, 8, 8, 8, 8, 8, 8, 8, 8, 8, 8, 8, 8, 8, 8, 8, 8, 8, 8, 8, 8, 8, 8, 8, 8, 8, 8, 8, 8, 8, 8, 8, 8, 8, 8, 8, 8, 8, 8, 8, 8, 8, 8, 8, 8, 8, 8, 8, 8, 8, 8, 8, 8, 8, 8, 8, 8, 8, 8, 8, 8, 8, 8, 8, 8, 8, 8, 8, 8, 8, 8, 8, 8, 8, 8, 8, 8, 8, 8, 8, 8, 8, 8, 8, 8, 8, 8, 8]⟩
theorem lenTab_fin : ∀ k : Fin 256, lenTab[k.1]? = some (UInt8.ofNat (lg (k.1 : Int)).toNat) ∧ lg (k.1 : Int) = ((UInt8.ofNat (lg (k.1 : Int)).toNat).toNat : Int) := by decide +kernel
theorem lenTab_at {a : Int} (h0 : 0 ≤ a) (h1 : a < 256) : lenTab[a.toNat]? = some (UInt8.ofNat (lg a).toNat) ∧ lg a = ((UInt8.ofNat (lg a).toNat).toNat : Int) := by
  obtain ⟨n, rfl⟩ := Int.eq_ofNat_of_zero_le h0
  exact lenTab_fin ⟨n, by omega⟩
theorem lg_lo (a : Int) : -9223372036854775808 ≤ lg a := by unfold lg; split <;> omega
theorem lg_hi {a : Int} (h0 : 0 ≤ a) (h1 : a < 256) : lg a ≤ 9223372036854775807 := by have := (lenTab_at h0 h1).2; have := (UInt8.ofNat (lg a).toNat).toNat_lt; omega
theorem lg_add {b : Int} (a : Int) (h : 0 ≤ b) : -9223372036854775808 ≤ b + lg a := by unfold lg; split <;> omega
theorem lg_add2 {a b : Int} (h0 : 0 ≤ a) (h1 : a < 256) (hb : b ≤ 1000) : b + lg a ≤ 9223372036854775807 := by have := (lenTab_at h0 h1).2; have := (UInt8.ofNat (lg a).toNat).toNat_lt; omega
set_option maxRecDepth 20000 in
set_option maxHeartbeats 1000000 in
theorem len64_c (a : Int) (ha1 : 0 ≤ a) (ha2 : a < 18446744073709551616) (w : World) :
    Calls Try.prog 130 [.int .u64 a].toArray w fun e w' => ∃ v, e = .returned v ∧ (v = .int .i64 (lg a) ∧ Gr w w') := by
  refine calls_of_sw (R := fun v w' => v = .int .i64 (lg a) ∧ Gr w w') 25 Try.func130 rfl rfl rfl ?_
  refine sw_seq ?_
  -- region 0 bits.go:337
  refine sw_region [(0, 0)] rfl rfl rfl ?_
  refine sd_vv rfl rfl rfl (vv_assign rfl) ?_
  refine sd_done ?_
  refine sw_seq ?_
  refine sw_seq ?_
  -- region 1 bits.go:338
  refine sw_region [(0, 0), (1, 0)] rfl rfl rfl ?_
  refine sd_vv rfl rfl rfl (vv_move rfl) ?_
  refine sd_vv rfl rfl rfl (vv_geq rfl rfl) ?_
  refine sd_done ?_
  refine sw_cond rfl (fun h1 => ?_) (fun h1 => ?_)
  · -- h1 True
    replace h1 := of_decide_eq_true h1
    refine sw_seq ?_
    -- region 2 bits.go:339
    refine sw_region [(0, 0), (1, 0), (2, 0)] rfl rfl rfl ?_
    refine sd_vv rfl rfl rfl (vv_move rfl) ?_
    refine sd_vv rfl rfl rfl (vv_shrN (n := 32) (m := 4294967296) rfl rfl rfl (by decide)) ?_
    refine sd_vv rfl rfl rfl (vv_assign rfl) ?_
    refine sd_done ?_
    -- region 3 bits.go:340
    refine sw_region [(0, 0)] rfl rfl rfl ?_
    refine sd_vv rfl rfl rfl (vv_assign rfl) ?_
    refine sd_done ?_
    refine sw_seq ?_
    refine sw_seq ?_
    -- region 4 bits.go:342
    refine sw_region [(0, 0), (1, 0)] rfl rfl rfl ?_
    refine sd_vv rfl rfl rfl (vv_move rfl) ?_
    refine sd_vv rfl rfl rfl (vv_geq rfl rfl) ?_
    refine sd_done ?_
    refine sw_cond rfl (fun h2 => ?_) (fun h2 => ?_)
    · -- h2 True
      replace h2 := of_decide_eq_true h2
      refine sw_seq ?_
      -- region 5 bits.go:343
      refine sw_region [(0, 0), (1, 0), (2, 0)] rfl rfl rfl ?_
      refine sd_vv rfl rfl rfl (vv_move rfl) ?_
      refine sd_vv rfl rfl rfl (vv_shrN (n := 16) (m := 65536) rfl rfl rfl (by decide)) ?_
      refine sd_vv rfl rfl rfl (vv_assign rfl) ?_
      refine sd_done ?_
      -- region 6 bits.go:344
      refine sw_region [(0, 0), (1, 0), (2, 0)] rfl rfl rfl ?_
      refine sd_vv rfl rfl rfl (vv_move rfl) ?_
      refine sd_vv rfl rfl rfl (vv_add64 rfl rfl (by omega) (by omega)) ?_
      refine sd_vv rfl rfl rfl (vv_assign rfl) ?_
      refine sd_done ?_
      refine sw_seq ?_
      refine sw_seq ?_
      -- region 7 bits.go:346
      refine sw_region [(0, 0), (1, 0)] rfl rfl rfl ?_
      refine sd_vv rfl rfl rfl (vv_move rfl) ?_
      refine sd_vv rfl rfl rfl (vv_geq rfl rfl) ?_
      refine sd_done ?_
      refine sw_cond rfl (fun h3 => ?_) (fun h3 => ?_)
      · -- h3 True
        replace h3 := of_decide_eq_true h3
        refine sw_seq ?_
        -- region 8 bits.go:347
        refine sw_region [(0, 0), (1, 0), (2, 0)] rfl rfl rfl ?_
        refine sd_vv rfl rfl rfl (vv_move rfl) ?_
        refine sd_vv rfl rfl rfl (vv_shrN (n := 8) (m := 256) rfl rfl rfl (by decide)) ?_
        refine sd_vv rfl rfl rfl (vv_assign rfl) ?_
        refine sd_done ?_
        -- region 9 bits.go:348
        refine sw_region [(0, 0), (1, 0), (2, 0)] rfl rfl rfl ?_
        refine sd_vv rfl rfl rfl (vv_move rfl) ?_
        refine sd_vv rfl rfl rfl (vv_add64 rfl rfl (by omega) (by omega)) ?_
        refine sd_vv rfl rfl rfl (vv_assign rfl) ?_
        refine sd_done ?_
        refine sw_seq ?_
        -- region 10 bits.go:350
        refine sw_region [(0, 0), (1, 0), (2, 0), (3, 0), (4, 0), (5, 0), (6, 0)] rfl rfl rfl ?_
        refine sd_vv rfl rfl rfl (vv_move rfl) ?_
        refine sd_vv rfl rfl rfl (vv_move rfl) ?_
        refine sd_vv rfl rfl rfl (vv_convB cv_22_5 rfl (by omega) (by omega)) ?_
        refine sd_vv rfl rfl rfl (vv_eq (vv_ixStr Try.underlying9 rfl rfl (by omega) (show lenTab[_]? = _ from (lenTab_at (by omega) (by omega)).1)) (congrArg (Value.int .u8) (lenTab_at (by omega) (by omega)).2.symm)) ?_
        refine sd_vv rfl rfl rfl (vv_conv64 cv_5_3 rfl (lg_lo _) (lg_hi (by omega) (by omega))) ?_
        refine sd_vv rfl rfl rfl (vv_add64 rfl rfl (lg_add _ (by decide)) (lg_add2 (by omega) (by omega) (by decide))) ?_
        refine sd_vv rfl rfl rfl (vv_assign rfl) ?_
        refine sd_done ?_
        refine sw_ret ?_
        refine ⟨_, _, rfl, res_tmp rfl rfl, ?_⟩
        refine ⟨congrArg (Value.int .i64) ?_, (Gr.refl w)⟩
        have e0 : lg (a : Int) = lg ((a : Int) / 4294967296) + 32 := lg_shift (a : Int) 32 4294967296 (by decide) (by omega)
        have e1 : lg ((a : Int) / 4294967296) = lg (((a : Int) / 4294967296) / 65536) + 16 := lg_shift ((a : Int) / 4294967296) 16 65536 (by decide) (by omega)
        have e2 : lg (((a : Int) / 4294967296) / 65536) = lg ((((a : Int) / 4294967296) / 65536) / 256) + 8 := lg_shift (((a : Int) / 4294967296) / 65536) 8 256 (by decide) (by omega)
        omega
      · -- h3 False
        replace h3 := of_decide_eq_false h3
        refine sw_skip ?_
        refine then_n ?_
        refine sw_seq ?_
        -- region 10 bits.go:350
        refine sw_region [(0, 0), (1, 0), (2, 0), (3, 0), (4, 0), (5, 0), (6, 0)] rfl rfl rfl ?_
        refine sd_vv rfl rfl rfl (vv_move rfl) ?_
        refine sd_vv rfl rfl rfl (vv_move rfl) ?_
        refine sd_vv rfl rfl rfl (vv_convB cv_22_5 rfl (by omega) (by omega)) ?_
        refine sd_vv rfl rfl rfl (vv_eq (vv_ixStr Try.underlying9 rfl rfl (by omega) (show lenTab[_]? = _ from (lenTab_at (by omega) (by omega)).1)) (congrArg (Value.int .u8) (lenTab_at (by omega) (by omega)).2.symm)) ?_
        refine sd_vv rfl rfl rfl (vv_conv64 cv_5_3 rfl (lg_lo _) (lg_hi (by omega) (by omega))) ?_
        refine sd_vv rfl rfl rfl (vv_add64 rfl rfl (lg_add _ (by decide)) (lg_add2 (by omega) (by omega) (by decide))) ?_
        refine sd_vv rfl rfl rfl (vv_assign rfl) ?_
        refine sd_done ?_
        refine sw_ret ?_
        refine ⟨_, _, rfl, res_tmp rfl rfl, ?_⟩
        refine ⟨congrArg (Value.int .i64) ?_, (Gr.refl w)⟩
        have e0 : lg (a : Int) = lg ((a : Int) / 4294967296) + 32 := lg_shift (a : Int) 32 4294967296 (by decide) (by omega)
        have e1 : lg ((a : Int) / 4294967296) = lg (((a : Int) / 4294967296) / 65536) + 16 := lg_shift ((a : Int) / 4294967296) 16 65536 (by decide) (by omega)
        omega
    · -- h2 False
      replace h2 := of_decide_eq_false h2
      refine sw_skip ?_
      refine then_n ?_
      refine sw_seq ?_
      refine sw_seq ?_
      -- region 7 bits.go:346
      refine sw_region [(0, 0), (1, 0)] rfl rfl rfl ?_
      refine sd_vv rfl rfl rfl (vv_move rfl) ?_
      refine sd_vv rfl rfl rfl (vv_geq rfl rfl) ?_
      refine sd_done ?_
      refine sw_cond rfl (fun h4 => ?_) (fun h4 => ?_)
      · -- h4 True
        replace h4 := of_decide_eq_true h4
        refine sw_seq ?_
        -- region 8 bits.go:347
        refine sw_region [(0, 0), (1, 0), (2, 0)] rfl rfl rfl ?_
        refine sd_vv rfl rfl rfl (vv_move rfl) ?_
        refine sd_vv rfl rfl rfl (vv_shrN (n := 8) (m := 256) rfl rfl rfl (by decide)) ?_
        refine sd_vv rfl rfl rfl (vv_assign rfl) ?_
        refine sd_done ?_
        -- region 9 bits.go:348
        refine sw_region [(0, 0), (1, 0), (2, 0)] rfl rfl rfl ?_
        refine sd_vv rfl rfl rfl (vv_move rfl) ?_
        refine sd_vv rfl rfl rfl (vv_add64 rfl rfl (by omega) (by omega)) ?_
        refine sd_vv rfl rfl rfl (vv_assign rfl) ?_
        refine sd_done ?_
        refine sw_seq ?_
        -- region 10 bits.go:350
        refine sw_region [(0, 0), (1, 0), (2, 0), (3, 0), (4, 0), (5, 0), (6, 0)] rfl rfl rfl ?_
        refine sd_vv rfl rfl rfl (vv_move rfl) ?_
        refine sd_vv rfl rfl rfl (vv_move rfl) ?_
        refine sd_vv rfl rfl rfl (vv_convB cv_22_5 rfl (by omega) (by omega)) ?_
        refine sd_vv rfl rfl rfl (vv_eq (vv_ixStr Try.underlying9 rfl rfl (by omega) (show lenTab[_]? = _ from (lenTab_at (by omega) (by omega)).1)) (congrArg (Value.int .u8) (lenTab_at (by omega) (by omega)).2.symm)) ?_
        refine sd_vv rfl rfl rfl (vv_conv64 cv_5_3 rfl (lg_lo _) (lg_hi (by omega) (by omega))) ?_
        refine sd_vv rfl rfl rfl (vv_add64 rfl rfl (lg_add _ (by decide)) (lg_add2 (by omega) (by omega) (by decide))) ?_
        refine sd_vv rfl rfl rfl (vv_assign rfl) ?_
        refine sd_done ?_
        refine sw_ret ?_
        refine ⟨_, _, rfl, res_tmp rfl rfl, ?_⟩
        refine ⟨congrArg (Value.int .i64) ?_, (Gr.refl w)⟩
        have e0 : lg (a : Int) = lg ((a : Int) / 4294967296) + 32 := lg_shift (a : Int) 32 4294967296 (by decide) (by omega)
        have e1 : lg ((a : Int) / 4294967296) = lg (((a : Int) / 4294967296) / 256) + 8 := lg_shift ((a : Int) / 4294967296) 8 256 (by decide) (by omega)
        omega
      · -- h4 False
        replace h4 := of_decide_eq_false h4
        refine sw_skip ?_
        refine then_n ?_
        refine sw_seq ?_
        -- region 10 bits.go:350
        refine sw_region [(0, 0), (1, 0), (2, 0), (3, 0), (4, 0), (5, 0), (6, 0)] rfl rfl rfl ?_
        refine sd_vv rfl rfl rfl (vv_move rfl) ?_
        refine sd_vv rfl rfl rfl (vv_move rfl) ?_
        refine sd_vv rfl rfl rfl (vv_convB cv_22_5 rfl (by omega) (by omega)) ?_
        refine sd_vv rfl rfl rfl (vv_eq (vv_ixStr Try.underlying9 rfl rfl (by omega) (show lenTab[_]? = _ from (lenTab_at (by omega) (by omega)).1)) (congrArg (Value.int .u8) (lenTab_at (by omega) (by omega)).2.symm)) ?_
        refine sd_vv rfl rfl rfl (vv_conv64 cv_5_3 rfl (lg_lo _) (lg_hi (by omega) (by omega))) ?_
        refine sd_vv rfl rfl rfl (vv_add64 rfl rfl (lg_add _ (by decide)) (lg_add2 (by omega) (by omega) (by decide))) ?_
        refine sd_vv rfl rfl rfl (vv_assign rfl) ?_
        refine sd_done ?_
        refine sw_ret ?_
        refine ⟨_, _, rfl, res_tmp rfl rfl, ?_⟩
        refine ⟨congrArg (Value.int .i64) ?_, (Gr.refl w)⟩
        have e0 : lg (a : Int) = lg ((a : Int) / 4294967296) + 32 := lg_shift (a : Int) 32 4294967296 (by decide) (by omega)
        omega
  · -- h1 False
    replace h1 := of_decide_eq_false h1
    refine sw_skip ?_
    refine then_n ?_
    refine sw_seq ?_
    refine sw_seq ?_
    -- region 4 bits.go:342
    refine sw_region [(0, 0), (1, 0)] rfl rfl rfl ?_
    refine sd_vv rfl rfl rfl (vv_move rfl) ?_
    refine sd_vv rfl rfl rfl (vv_geq rfl rfl) ?_
    refine sd_done ?_
    refine sw_cond rfl (fun h5 => ?_) (fun h5 => ?_)
    · -- h5 True
      replace h5 := of_decide_eq_true h5
      refine sw_seq ?_
      -- region 5 bits.go:343
      refine sw_region [(0, 0), (1, 0), (2, 0)] rfl rfl rfl ?_
      refine sd_vv rfl rfl rfl (vv_move rfl) ?_
      refine sd_vv rfl rfl rfl (vv_shrN (n := 16) (m := 65536) rfl rfl rfl (by decide)) ?_
      refine sd_vv rfl rfl rfl (vv_assign rfl) ?_
      refine sd_done ?_
      -- region 6 bits.go:344
      refine sw_region [(0, 0), (1, 0), (2, 0)] rfl rfl rfl ?_
      refine sd_vv rfl rfl rfl (vv_move rfl) ?_
      refine sd_vv rfl rfl rfl (vv_add64 rfl rfl (by omega) (by omega)) ?_
      refine sd_vv rfl rfl rfl (vv_assign rfl) ?_
      refine sd_done ?_
      refine sw_seq ?_
      refine sw_seq ?_
      -- region 7 bits.go:346
      refine sw_region [(0, 0), (1, 0)] rfl rfl rfl ?_
      refine sd_vv rfl rfl rfl (vv_move rfl) ?_
      refine sd_vv rfl rfl rfl (vv_geq rfl rfl) ?_
      refine sd_done ?_
      refine sw_cond rfl (fun h6 => ?_) (fun h6 => ?_)
      · -- h6 True
        replace h6 := of_decide_eq_true h6
        refine sw_seq ?_
        -- region 8 bits.go:347
        refine sw_region [(0, 0), (1, 0), (2, 0)] rfl rfl rfl ?_
        refine sd_vv rfl rfl rfl (vv_move rfl) ?_
        refine sd_vv rfl rfl rfl (vv_shrN (n := 8) (m := 256) rfl rfl rfl (by decide)) ?_
        refine sd_vv rfl rfl rfl (vv_assign rfl) ?_
        refine sd_done ?_
        -- region 9 bits.go:348
        refine sw_region [(0, 0), (1, 0), (2, 0)] rfl rfl rfl ?_
        refine sd_vv rfl rfl rfl (vv_move rfl) ?_
        refine sd_vv rfl rfl rfl (vv_add64 rfl rfl (by omega) (by omega)) ?_
        refine sd_vv rfl rfl rfl (vv_assign rfl) ?_
        refine sd_done ?_
        refine sw_seq ?_
        -- region 10 bits.go:350
        refine sw_region [(0, 0), (1, 0), (2, 0), (3, 0), (4, 0), (5, 0), (6, 0)] rfl rfl rfl ?_
        refine sd_vv rfl rfl rfl (vv_move rfl) ?_
        refine sd_vv rfl rfl rfl (vv_move rfl) ?_
        refine sd_vv rfl rfl rfl (vv_convB cv_22_5 rfl (by omega) (by omega)) ?_
        refine sd_vv rfl rfl rfl (vv_eq (vv_ixStr Try.underlying9 rfl rfl (by omega) (show lenTab[_]? = _ from (lenTab_at (by omega) (by omega)).1)) (congrArg (Value.int .u8) (lenTab_at (by omega) (by omega)).2.symm)) ?_
        refine sd_vv rfl rfl rfl (vv_conv64 cv_5_3 rfl (lg_lo _) (lg_hi (by omega) (by omega))) ?_
        refine sd_vv rfl rfl rfl (vv_add64 rfl rfl (lg_add _ (by decide)) (lg_add2 (by omega) (by omega) (by decide))) ?_
        refine sd_vv rfl rfl rfl (vv_assign rfl) ?_
        refine sd_done ?_
        refine sw_ret ?_
        refine ⟨_, _, rfl, res_tmp rfl rfl, ?_⟩
        refine ⟨congrArg (Value.int .i64) ?_, (Gr.refl w)⟩
        have e0 : lg (a : Int) = lg ((a : Int) / 65536) + 16 := lg_shift (a : Int) 16 65536 (by decide) (by omega)
        have e1 : lg ((a : Int) / 65536) = lg (((a : Int) / 65536) / 256) + 8 := lg_shift ((a : Int) / 65536) 8 256 (by decide) (by omega)
        omega
      · -- h6 False
        replace h6 := of_decide_eq_false h6
        refine sw_skip ?_
        refine then_n ?_
        refine sw_seq ?_
        -- region 10 bits.go:350
        refine sw_region [(0, 0), (1, 0), (2, 0), (3, 0), (4, 0), (5, 0), (6, 0)] rfl rfl rfl ?_
        refine sd_vv rfl rfl rfl (vv_move rfl) ?_
        refine sd_vv rfl rfl rfl (vv_move rfl) ?_
        refine sd_vv rfl rfl rfl (vv_convB cv_22_5 rfl (by omega) (by omega)) ?_
        refine sd_vv rfl rfl rfl (vv_eq (vv_ixStr Try.underlying9 rfl rfl (by omega) (show lenTab[_]? = _ from (lenTab_at (by omega) (by omega)).1)) (congrArg (Value.int .u8) (lenTab_at (by omega) (by omega)).2.symm)) ?_
        refine sd_vv rfl rfl rfl (vv_conv64 cv_5_3 rfl (lg_lo _) (lg_hi (by omega) (by omega))) ?_
        refine sd_vv rfl rfl rfl (vv_add64 rfl rfl (lg_add _ (by decide)) (lg_add2 (by omega) (by omega) (by decide))) ?_
        refine sd_vv rfl rfl rfl (vv_assign rfl) ?_
        refine sd_done ?_
        refine sw_ret ?_
        refine ⟨_, _, rfl, res_tmp rfl rfl, ?_⟩
        refine ⟨congrArg (Value.int .i64) ?_, (Gr.refl w)⟩
        have e0 : lg (a : Int) = lg ((a : Int) / 65536) + 16 := lg_shift (a : Int) 16 65536 (by decide) (by omega)
        omega
    · -- h5 False
      replace h5 := of_decide_eq_false h5
      refine sw_skip ?_
      refine then_n ?_
      refine sw_seq ?_
      refine sw_seq ?_
      -- region 7 bits.go:346
      refine sw_region [(0, 0), (1, 0)] rfl rfl rfl ?_
      refine sd_vv rfl rfl rfl (vv_move rfl) ?_
      refine sd_vv rfl rfl rfl (vv_geq rfl rfl) ?_
      refine sd_done ?_
      refine sw_cond rfl (fun h7 => ?_) (fun h7 => ?_)
      · -- h7 True
        replace h7 := of_decide_eq_true h7
        refine sw_seq ?_
        -- region 8 bits.go:347
        refine sw_region [(0, 0), (1, 0), (2, 0)] rfl rfl rfl ?_
        refine sd_vv rfl rfl rfl (vv_move rfl) ?_
        refine sd_vv rfl rfl rfl (vv_shrN (n := 8) (m := 256) rfl rfl rfl (by decide)) ?_
        refine sd_vv rfl rfl rfl (vv_assign rfl) ?_
        refine sd_done ?_
        -- region 9 bits.go:348
        refine sw_region [(0, 0), (1, 0), (2, 0)] rfl rfl rfl ?_
        refine sd_vv rfl rfl rfl (vv_move rfl) ?_
        refine sd_vv rfl rfl rfl (vv_add64 rfl rfl (by omega) (by omega)) ?_
        refine sd_vv rfl rfl rfl (vv_assign rfl) ?_
        refine sd_done ?_
        refine sw_seq ?_
        -- region 10 bits.go:350
        refine sw_region [(0, 0), (1, 0), (2, 0), (3, 0), (4, 0), (5, 0), (6, 0)] rfl rfl rfl ?_
        refine sd_vv rfl rfl rfl (vv_move rfl) ?_
        refine sd_vv rfl rfl rfl (vv_move rfl) ?_
        refine sd_vv rfl rfl rfl (vv_convB cv_22_5 rfl (by omega) (by omega)) ?_
        refine sd_vv rfl rfl rfl (vv_eq (vv_ixStr Try.underlying9 rfl rfl (by omega) (show lenTab[_]? = _ from (lenTab_at (by omega) (by omega)).1)) (congrArg (Value.int .u8) (lenTab_at (by omega) (by omega)).2.symm)) ?_
        refine sd_vv rfl rfl rfl (vv_conv64 cv_5_3 rfl (lg_lo _) (lg_hi (by omega) (by omega))) ?_
        refine sd_vv rfl rfl rfl (vv_add64 rfl rfl (lg_add _ (by decide)) (lg_add2 (by omega) (by omega) (by decide))) ?_
        refine sd_vv rfl rfl rfl (vv_assign rfl) ?_
        refine sd_done ?_
        refine sw_ret ?_
        refine ⟨_, _, rfl, res_tmp rfl rfl, ?_⟩
        refine ⟨congrArg (Value.int .i64) ?_, (Gr.refl w)⟩
        have e0 : lg (a : Int) = lg ((a : Int) / 256) + 8 := lg_shift (a : Int) 8 256 (by decide) (by omega)
        omega
      · -- h7 False
        replace h7 := of_decide_eq_false h7
        refine sw_skip ?_
        refine then_n ?_
        refine sw_seq ?_
        -- region 10 bits.go:350
        refine sw_region [(0, 0), (1, 0), (2, 0), (3, 0), (4, 0), (5, 0), (6, 0)] rfl rfl rfl ?_
        refine sd_vv rfl rfl rfl (vv_move rfl) ?_
        refine sd_vv rfl rfl rfl (vv_move rfl) ?_
        refine sd_vv rfl rfl rfl (vv_convB cv_22_5 rfl (by omega) (by omega)) ?_
        refine sd_vv rfl rfl rfl (vv_eq (vv_ixStr Try.underlying9 rfl rfl (by omega) (show lenTab[_]? = _ from (lenTab_at (by omega) (by omega)).1)) (congrArg (Value.int .u8) (lenTab_at (by omega) (by omega)).2.symm)) ?_
        refine sd_vv rfl rfl rfl (vv_conv64 cv_5_3 rfl (lg_lo _) (lg_hi (by omega) (by omega))) ?_
        refine sd_vv rfl rfl rfl (vv_add64 rfl rfl (lg_add _ (by decide)) (lg_add2 (by omega) (by omega) (by decide))) ?_
        refine sd_vv rfl rfl rfl (vv_assign rfl) ?_
        refine sd_done ?_
        refine sw_ret ?_
        refine ⟨_, _, rfl, res_tmp rfl rfl, ?_⟩
        refine ⟨congrArg (Value.int .i64) ?_, (Gr.refl w)⟩
        omega
set_option maxHeartbeats 1000000 in
theorem len_c (a : Int) (ha1 : 0 ≤ a) (ha2 : a < 18446744073709551616) (w : World) :
    Calls Try.prog 104 [.int .u64 a].toArray w fun e w' => ∃ v, e = .returned v ∧ (v = .int .i64 (lg a) ∧ Gr w w') := by
  refine calls_of_sw (R := fun v w' => v = .int .i64 (lg a) ∧ Gr w w') 8 Try.func104 rfl rfl rfl ?_
  refine sw_seq ?_
  -- region 0 bits.go:302
  refine sw_region [(0, 0)] rfl rfl rfl ?_
  refine sd_vv rfl rfl rfl (vv_assign rfl) ?_
  refine sd_done ?_
  refine sw_seq ?_
  refine sw_condF rfl ?_
  refine sw_skip ?_
  refine then_n ?_
  refine sw_seq ?_
  -- region 2 bits.go:306
  refine sw_region [(0, 0), (1, 0), (2, 0)] rfl rfl rfl ?_
  refine sd_vv rfl rfl rfl (vv_move rfl) ?_
  refine sd_ev rfl rfl rfl (ev_call en_130 rfl (len64_c _ (by omega) (by omega) _)) ?_
  rintro _ w1 ⟨rfl, Gw1⟩
  have z1 := Gw1.size
  refine sd_vv rfl rfl rfl (vv_assign rfl) ?_
  refine sd_done ?_
  refine sw_ret ?_
  have X2 : Gr w w1 := (Gr.trans (Gr.refl w) Gw1)
  refine ⟨_, _, rfl, res_tmp rfl rfl, ?_⟩
  exact ⟨rfl, X2⟩
end Go.Proofs.Ytopkalcefepilaa

end
section
set_option linter.unusedVariables false
set_option linter.unusedSimpArgs false
namespace Go.Sx
open Go Go.RowKit Go.Proofs Go.Sort Go.Shelf
def Ws' (k : Nat) (xs : List (List Value)) : Prop := ∀ y ∈ xs, y.length = k
/-- what the sort leaves -/
theorem sortW {β : Type} [Inhabited β] (enc : β → List Value) (k : Nat) (hk : 1 ≤ k) (hc : ∀ b, (enc b).length = k) (w : World) (g n : Nat) (d : Array β) (os : Array Obj) (e : TypeId) (cur : Array Value) (hb : w.heap[g]? = some (.cells cur e (0, 0))) (hl : d.size * k ≤ cur.size) :
    ∃ cur' : Array Value, (sortWorldK enc k w g 0 n d os).heap[g]? = some (.cells cur' e (0, 0)) ∧ cur'.size = cur.size ∧ cur'.toList.take (d.size * k) = (d.toList.map enc).flatten ∧ Kz [(1, g)] w (sortWorldK enc k w g 0 n d os) := by
  have hlt : g < w.heap.size := (Array.getElem?_eq_some_iff.1 hb).1
  have hh : (sortWorldK enc k w g 0 n d os).heap = (w.heap.modify g (onCells (putCells id 0 (flatK enc k d)))) ++ os := rfl
  refine ⟨putCells id 0 (flatK enc k d) cur, ?_, by simp [putCells], ?_, ?_⟩
  · rw [hh, Array.getElem?_append_left (by simpa using hlt), Array.getElem?_modify, if_pos rfl, hb]; rfl
  · apply List.ext_getElem?
    intro t
    rw [List.getElem?_take]
    have hfl : ((d.toList.map enc).flatten).length = d.size * k := by
      have : Ws' k (d.toList.map enc) := by
        intro y hy; obtain ⟨b, _, rfl⟩ := List.mem_map.1 hy; exact hc b
      have h2 : ∀ (xs : List (List Value)), Ws' k xs → xs.flatten.length = xs.length * k := by
        intro xs
        induction xs with
        | nil => intro _; simp
        | cons a xs ih => intro h; rw [List.flatten_cons, List.length_append, ih (fun y hy => h y (List.mem_cons_of_mem _ hy)), h a (by simp), List.length_cons, Nat.add_mul]; omega
      rw [h2 _ this]; simp
    by_cases ht : t < d.size * k
    · rw [if_pos ht]
      have htc : t < cur.size := by omega
      have h3 : (putCells id 0 (flatK enc k d) cur).toList[t]? = some ((flatK enc k d)[t]!) := by
        simp only [putCells, Array.getElem?_toList, Array.getElem?_mapIdx, Array.getElem?_eq_getElem htc, Option.map_some, Nat.zero_le, true_and, Nat.zero_add, size_flatK, ht, if_true, Nat.sub_zero, id]
      rw [h3, get_flatK enc k d t ht]
      have hq : t / k < d.size := (Nat.div_lt_iff_lt_mul (by omega)).2 ht
      have hm : t % k < k := Nat.mod_lt _ (by omega)
      have hgen : ∀ (xs : List (List Value)), Ws' k xs → ∀ i j c, xs[i]? = some c → j < k → xs.flatten[i * k + j]? = c[j]? := by
        intro xs
        induction xs with
        | nil => intro _ i j c h; simp at h
        | cons a xs ih =>
          intro hw i j c h hj
          have ha := hw a (by simp)
          rw [List.flatten_cons]
          cases i with
          | zero => simp at h; subst h; rw [Nat.zero_mul, Nat.zero_add, List.getElem?_append_left (by omega)]
          | succ i =>
            rw [List.getElem?_append_right (by rw [ha, Nat.add_mul]; omega), show (i + 1) * k + j - a.length = i * k + j from by rw [ha, Nat.add_mul]; omega]
            exact ih (fun y hy => hw y (List.mem_cons_of_mem _ hy)) i j c (by simpa using h) hj
      have h4 := hgen (d.toList.map enc) (fun y hy => by obtain ⟨b, _, rfl⟩ := List.mem_map.1 hy; exact hc b) (t / k) (t % k) (enc d[t / k]!) (by simp [hq]) hm
      have hdm : t / k * k + t % k = t := by rw [Nat.mul_comm]; exact Nat.div_add_mod t k
      rw [hdm] at h4
      rw [h4]
      have h5 : t % k < (enc d[t / k]!).length := by rw [hc]; exact hm
      simp [h5]
    · rw [if_neg ht, List.getElem?_eq_none (by omega)]
  · refine ⟨rfl, rfl, rfl, by rw [hh]; simp, fun i hi hn => ?_⟩
    have hne : g ≠ i := by
      simp only [Nin] at hn
      rcases hn.1 with h | h
      · omega
      · exact fun e => h e.symm
    rw [hh, Array.getElem?_append_left (by simpa using hi), Array.getElem?_modify, if_neg hne]
section
variable {P : Program} {ρ : Ren}
/-- the shelf's contract, in the words of the mirrors -/
theorem sort_gen {β : Type} (c : β → List Value) (k : Nat) (hc : ∀ b, (c b).length = k) (h1 : ∀ b, ones (c b) = true) (hk : 1 ≤ k) (key : β → Int) (cf : Nat) (L : SlLaysF0.n6 P ρ) (aE : ∀ w, (isAgg (ρ.t 24)).run P w = .ok true w) (zE : ∀ w, (Go.sizeOf (ρ.t 24)).run P w = .ok k w)
    (eg : ∀ args w, (callFunc cf args).run P w = .ok (.enter cf args) w)
    (hcmp : ∀ (x y : β) (W : World), 0 ≤ key x ∧ key x < 4611686018427387904 → 0 ≤ key y ∧ key y < 4611686018427387904 → Calls P cf #[.agg (c x).toArray, .agg (c y).toArray] W fun e w' => e = .returned (.int .i64 (key x - key y)) ∧ ∃ q os', w' = grow (W.drewN q) os')
    {l m : List β} (hm : srtBy key l = some m) (w : World) (z g : Nat) (e : TypeId) (v : Value) (h : Own w z g e k v (l.map c)) :
    Calls P (ρ.f 6) #[v, .func (.func cf) #[] #[]] w fun e' w' => ∃ v', e' = .returned v' ∧ (Own w' z g e k v (m.map c) ∧ Kz [(z, g)] w w') := by
  obtain ⟨rfl, hbd, hnd, hlen⟩ := srtBy_eq hm
  rcases h.2 with ⟨hz, rfl, h0⟩ | ⟨hz, cap, cur, rfl, hb, hn, hcap, hsz, htk⟩
  · have hl0 : l = [] := by simpa using h0
    subst hl0
    refine (AnyF.slices_SortFunc_none L none 0 (.func (.func cf) #[] #[]) w).mono ?_
    rintro e' w' ⟨rfl, rfl⟩
    exact ⟨_, rfl, by simpa using h, Kz.refl _ _⟩
  · by_cases hl0 : l = []
    · subst hl0
      have : (([] : List β).map c).length = 0 := rfl
      rw [this]
      refine (AnyF.slices_SortFunc_none L (some ⟨g, 0, none⟩) cap (.func (.func cf) #[] #[]) w).mono ?_
      rintro e' w' ⟨rfl, rfl⟩
      exact ⟨_, rfl, by simpa using h, Kz.refl _ _⟩
    · obtain ⟨b0, hb0⟩ := List.exists_mem_of_ne_nil l hl0
      let A := { x : β // x ∈ l }
      letI : Inhabited A := ⟨⟨b0, hb0⟩⟩
      let enc : A → List Value := fun x => c x.1
      let d : Array A := l.attach.toArray
      let cfn : A → A → Int := fun x y => key x.1 - key y.1
      have hds : d.size = l.length := by show l.attach.toArray.size = l.length; simp
      have hlt : ∀ x y : A, ltOf cfn x y = decide (key x.1 < key y.1) := fun x y => by
        unfold ltOf; apply decide_eq_decide.2; show key x.1 - key y.1 < 0 ↔ _; omega
      have hO : SWO (ltOf cfn) := ⟨fun x => by rw [hlt]; simp, fun x y z h1 h2 => by rw [hlt] at *; simp at *; omega, fun x y z h1 h2 => by rw [hlt] at *; simp at *; omega⟩
      have hT : ∀ x y : A, ltOf cfn x y = false → ltOf cfn y x = false → x = y := fun x y h1 h2 => by
        rw [hlt] at h1 h2
        simp at h1 h2
        have he : key x.1 = key y.1 := by omega
        apply Subtype.ext
        obtain ⟨i, hi, ei⟩ := List.mem_iff_getElem.1 x.2
        obtain ⟨j, hj, ej⟩ := List.mem_iff_getElem.1 y.2
        have hij : i = j := (List.getElem_inj (h₀ := by simpa using hi) (h₁ := by simpa using hj) hnd).1 (by rw [List.getElem_map, List.getElem_map, ei, ej]; exact he)
        subst hij; rw [← ei, ← ej]
      have hmk : d.toList.map enc = l.map c := by
        show l.attach.toArray.toList.map (fun x : A => c x.1) = l.map c
        show List.map (fun x : { x : β // x ∈ l } => c x.1) l.attach = l.map c
        exact List.attach_map_val
      rw [List.length_map] at hn htk
      have hle : d.size * k ≤ cur.size := by rw [hds, hsz]; exact Nat.mul_le_mul_right _ hn
      have hH : HoldsK enc k w g 0 d := by
        intro j hj
        rw [size_flatK] at hj
        rw [get_flatK enc k d j hj]
        have hq : j / k < d.size := (Nat.div_lt_iff_lt_mul (by omega)).2 hj
        have hm' : j % k < k := Nat.mod_lt _ (by omega)
        have hcell : w.cell? ⟨g, 0 + j, none⟩ = cur[j]? := by rw [Nat.zero_add, cell_of_row w g j _ e _ hb]
        have hws : Ws k (l.map c) := h.1
        have hat := hws.at (j / k) (j % k) (c (l[j / k]'(by omega))) (by simp [show j / k < l.length by omega]) hm'
        have hdm : j / k * k + j % k = j := by rw [Nat.mul_comm]; exact Nat.div_add_mod j k
        rw [hdm, ← htk, List.getElem?_take, if_pos (by rw [hds] at hj; exact hj), Array.getElem?_toList] at hat
        have hdj : enc d[j / k]! = c (l[j / k]'(by omega)) := by
          have : d[j / k]! = ⟨l[j / k]'(by omega), List.getElem_mem _⟩ := by
            have hjl : j / k < d.size := hq
            rw [getElem!_pos d (j / k) hjl]
            show (l.attach.toArray)[j / k]'(by simpa using (show j / k < l.length by omega)) = _
            simp
          rw [this]
        refine ⟨?_, ?_⟩
        · rw [hcell, hat, hdj]
          have h5 : j % k < (c (l[j / k]'(by omega))).length := by rw [hc]; exact hm'
          simp [h5]
        · simp [World.frozen?, hb]
      have hcl : CmpLays P cf #[] enc k cfn g 0 d.size w := fun mm os dk hs x y => by
        have := hcmp x.1 y.1 (sortWorldK enc k w g 0 mm dk os) (hbd _ x.2) (hbd _ y.2)
        simpa [enc, cfn] using this
      have hone : ∀ x : A, ∀ u ∈ enc x, u.oneCell' = true := fun x u hu => by
        have hws : Ws k (l.map c) := h.1
        exact hws.one u (List.mem_flatten.2 ⟨c x.1, List.mem_map.2 ⟨x.1, x.2, rfl⟩, hu⟩)
      have := AnyQ.slices_SortFunc_total L k aE zE enc (fun x => hc x.1) hone cfn hO cf #[] g 0 cap d w eg hcl hH (Array.getElem?_eq_some_iff.1 hb).1 (by omega) hT
      rw [hds] at this
      rw [List.length_map]
      refine this.mono ?_
      rintro e' w' ⟨rfl, n, os, rfl⟩
      have hms : (d.toList.mergeSort fun x y => !(ltOf cfn) y x).map enc = (l.mergeSort fun a b => decide (key a ≤ key b)).map c := by
        have e1 : (d.toList.mergeSort fun x y => !(ltOf cfn) y x).map Subtype.val = (l.mergeSort fun a b => decide (key a ≤ key b)) := by
          rw [List.map_mergeSort (s := fun a b => decide (key a ≤ key b)) (fun a _ b _ => by rw [hlt]; by_cases hh : key b.1 < key a.1 <;> simp [hh] <;> omega)]
          congr 1
          show List.map Subtype.val l.attach = l
          simp
        rw [← e1, List.map_map]; rfl
      have hsl : (d.toList.mergeSort fun x y => !(ltOf cfn) y x).toArray.size = l.length := by rw [List.size_toArray, List.length_mergeSort]; exact hds
      obtain ⟨cur', q1, q2, q3, q4⟩ := sortW enc k hk (fun x => hc x.1) w g n (d.toList.mergeSort fun x y => !(ltOf cfn) y x).toArray os e cur hb (by rw [hsl, ← hds]; exact hle)
      rw [hsl, List.toList_toArray, hms] at q3
      refine ⟨_, rfl, ⟨?_, .inr ⟨hz, cap, cur', ?_, q1, ?_, ?_, ?_, ?_⟩⟩, by rw [hz]; exact q4⟩
      · exact ws_map' fun x _ => ⟨hc x, h1 x⟩
      · rw [List.length_map, List.length_mergeSort]
      · rw [List.length_map, List.length_mergeSort]; exact hn
      · exact hcap
      · rw [q2]; exact hsz
      · rw [List.length_map, List.length_mergeSort]; exact q3
end
end Go.Sx

end
section
set_option linter.unusedVariables false
set_option linter.unusedSimpArgs false
set_option maxRecDepth 100000
namespace Go.Proofs.Ytopkalcefepilaa.Mx
open Go Go.RowKit Go.Sx Go.Proofs Go.Shelf Go.Lib Go.Sort
def laySub_ren : Go.Shelf.Ren := ⟨fun | 6 => 69 | 15 => 104 | 14 => 103 | 28 => 129 | 29 => 130 | 20 => 121 | 21 => 122 | 22 => 123 | 23 => 124 | 24 => 125 | 25 => 126 | 26 => 127 | 27 => 128 | 46 => 139 | 47 => 140 | 48 => 141 | 49 => 142 | 50 => 143 | 57 => 148 | n => n, fun | 22 => 74 | 24 => 114 | 25 => 124 | 3 => 3 | 39 => 118 | 0 => 0 | 53 => 178 | 55 => 22 | 4 => 4 | 46 => 171 | 45 => 170 | 50 => 175 | 5 => 5 | 9 => 9 | 66 => 183 | 70 => 187 | 76 => 190 | 77 => 30 | n => n, fun | n => n⟩
theorem laySub : Go.Proofs.SlLaysF0.n6 Try.prog laySub_ren := {
  mixed := by kernel_rfl
  f6 := ⟨Try.f69.name, by decide, Try.func69.trans (congrArg some (by kernel_rfl))⟩
  f14 := ⟨Try.f103.name, by decide, Try.func103.trans (congrArg some (by kernel_rfl))⟩
  f15 := Try.func104.trans (congrArg some (by kernel_rfl))
  f20 := ⟨Try.f121.name, by decide, Try.func121.trans (congrArg some (by kernel_rfl))⟩
  f21 := ⟨Try.f122.name, by decide, Try.func122.trans (congrArg some (by kernel_rfl))⟩
  f22 := ⟨Try.f123.name, by decide, Try.func123.trans (congrArg some (by kernel_rfl))⟩
  f23 := ⟨Try.f124.name, by decide, Try.func124.trans (congrArg some (by kernel_rfl))⟩
  f24 := ⟨Try.f125.name, by decide, Try.func125.trans (congrArg some (by kernel_rfl))⟩
  f25 := ⟨Try.f126.name, by decide, Try.func126.trans (congrArg some (by kernel_rfl))⟩
  f26 := ⟨Try.f127.name, by decide, Try.func127.trans (congrArg some (by kernel_rfl))⟩
  f27 := ⟨Try.f128.name, by decide, Try.func128.trans (congrArg some (by kernel_rfl))⟩
  f28 := Try.func129.trans (congrArg some (by kernel_rfl))
  f29 := Try.func130.trans (congrArg some (by kernel_rfl))
  f46 := ⟨Try.f139.name, by decide, Try.func139.trans (congrArg some (by kernel_rfl))⟩
  f47 := Try.func140.trans (congrArg some (by kernel_rfl))
  f48 := Try.func141.trans (congrArg some (by kernel_rfl))
  f49 := ⟨Try.f142.name, by decide, Try.func142.trans (congrArg some (by kernel_rfl))⟩
  f50 := ⟨Try.f143.name, by decide, Try.func143.trans (congrArg some (by kernel_rfl))⟩
  f57 := ⟨Try.f148.name, by decide, Try.func148.trans (congrArg some (by kernel_rfl))⟩
  t0 := Try.underlying0
  a0 := Try.isAgg0
  z0 := Try.sizeOf0
  v0 := Try.zeroValue0
  t3 := Try.underlying3
  a3 := Try.isAgg3
  z3 := Try.sizeOf3
  v3 := Try.zeroValue3
  t4 := Try.underlying4
  a4 := Try.isAgg4
  z4 := Try.sizeOf4
  v4 := Try.zeroValue4
  t5 := Try.underlying5
  a5 := Try.isAgg5
  z5 := Try.sizeOf5
  v5 := Try.zeroValue5
  t9 := Try.underlying9
  a9 := Try.isAgg9
  z9 := Try.sizeOf9
  v9 := Try.zeroValue9
  t22 := Try.underlying74
  a22 := Try.isAgg74
  z22 := Try.sizeOf74
  v22 := Try.zeroValue74
  t25 := Try.underlying124
  a25 := Try.isAgg124
  z25 := Try.sizeOf124
  v25 := Try.zeroValue124
  t39 := Try.underlying118
  a39 := Try.isAgg118
  z39 := Try.sizeOf118
  v39 := Try.zeroValue118
  t45 := Try.underlying170
  a45 := Try.isAgg170
  z45 := Try.sizeOf170
  v45 := Try.zeroValue170
  t46 := Try.underlying171
  a46 := Try.isAgg171
  z46 := Try.sizeOf171
  v46 := Try.zeroValue171
  t50 := Try.underlying175
  a50 := Try.isAgg175
  z50 := Try.sizeOf175
  v50 := Try.zeroValue175
  t53 := Try.underlying178
  a53 := Try.isAgg178
  z53 := Try.sizeOf178
  v53 := Try.zeroValue178
  t55 := Try.underlying22
  a55 := Try.isAgg22
  z55 := Try.sizeOf22
  v55 := Try.zeroValue22
  t66 := Try.underlying183
  a66 := Try.isAgg183
  z66 := Try.sizeOf183
  v66 := Try.zeroValue183
  t70 := Try.underlying187
  a70 := Try.isAgg187
  z70 := Try.sizeOf187
  v70 := Try.zeroValue187
  t76 := Try.underlying190
  a76 := Try.isAgg190
  z76 := Try.sizeOf190
  v76 := Try.zeroValue190
  t77 := Try.underlying30
  a77 := Try.isAgg30
  z77 := Try.sizeOf30
  v77 := Try.zeroValue30 }
theorem w64_sub {a b : Int} (ha : 0 ≤ a ∧ a < 4611686018427387904) (hb : 0 ≤ b ∧ b < 4611686018427387904) : IntKind.i64.wrap (a - b) = a - b := by rw [IntKind.wrap_i64]; omega
set_option maxHeartbeats 1000000 in
theorem cloSub (x y : TSubset) (W : World) (hx : 0 ≤ x.Node ∧ x.Node < 4611686018427387904) (hy : 0 ≤ y.Node ∧ y.Node < 4611686018427387904) : Calls Try.prog 70 #[.agg #[.int .i64 x.Node, .int .i64 x.Minus], .agg #[.int .i64 y.Node, .int .i64 y.Minus]] W fun e w' => e = .returned (.int .i64 (x.Node - y.Node)) ∧ ∃ q os', w' = grow (W.drewN q) os' := by
  have hw := w64_sub hx hy
  go_enter Try.func70, Try.ntmps70
  go_wp2
  go_ret
  exact ⟨rfl, 0, _, by rw [alloc_eq_grow, alloc_eq_grow, grow_grow]; rfl⟩
theorem sortSub_c {l m : List TSubset} (hm : srtBy TSubset.Node l = some m) (w : World) (z g : Nat) (v : Value) (h : Own w z g 114 2 v (l.map TSubset.cs)) : Calls Try.prog 69 [v, .func (.func 70) #[] #[]].toArray w fun e' w' => ∃ v', e' = .returned v' ∧ (Own w' z g 114 2 v (m.map TSubset.cs) ∧ Kz [(z, g)] w w') :=
  sort_gen (ρ := laySub_ren) TSubset.cs 2 (fun _ => rfl) (fun x => TSubset.cs_ones x) (by decide) TSubset.Node 70 laySub (fun _ => by kernel_rfl) (fun _ => by kernel_rfl) (fun _ _ => by kernel_rfl) (fun x y W hx hy => cloSub x y W hx hy) hm w z g 114 v h
end Go.Proofs.Ytopkalcefepilaa.Mx

end
section
set_option linter.unusedVariables false
set_option linter.unusedSimpArgs false
namespace Go.Sx
open Go
theorem w64_id {n : Int} (h0 : -9223372036854775808 ≤ n) (h1 : n ≤ 9223372036854775807) : w64 n = n := by
  have := IntKind.wrap_i64 n
  unfold w64; rw [this]; omega
theorem bind_some {α β : Type} (a : α) (f : α → Option β) : Option.bind (some a) f = f a := rfl
/-- the bytes of a word, the highest first -/
def w8 (x : BitVec 64) : List (BitVec 8) := [byt x 0, byt x 1, byt x 2, byt x 3, byt x 4, byt x 5, byt x 6, byt x 7]
end Go.Sx

end
section
set_option linter.unusedVariables false
set_option linter.unusedSimpArgs false
namespace Go.Sx
open Go
/-! sizes -/
def strd (d : Nat) : Nat := if d ≤ 1 then 1 else if d ≤ 4 then 2 else 3
theorem pow_le64 {d : Nat} (h : d ≤ 6) : 2 ^ d ≤ 64 := Nat.le_trans (Nat.pow_le_pow_right (by omega) h) (by decide)
/-! special nodes -/
/-! paths -/
end Go.Sx

end
section
set_option linter.unusedVariables false
set_option linter.unusedSimpArgs false
namespace Go.Sx
open Go
def zG : TGroup := TGroup.mk 0#64 0#64 0#64
def vldB (s : TScheme) : Bool := decide (1#8 ≤ s.Kind ∧ s.Kind ≤ 3#8 ∧ 0 ≤ s.Depth ∧ s.Depth ≤ 6 ∧ s.Degree = 0 ∧ s.Group = zG)
theorem vld_depth {s : TScheme} (h : vldB s = true) : ∃ d : Nat, s.Depth = (d : Int) ∧ d ≤ 6 := by
  unfold vldB at h
  have := of_decide_eq_true h
  exact ⟨s.Depth.toNat, by omega, by omega⟩
theorem treeOf_step (s : TScheme) (n : Nat) (a : Int) : fixN (cover_treeOf_L2 s) (n + 1) a = if w64 (a * a) < s.Depth then fixN (cover_treeOf_L2 s) n (w64 (a + 1)) else some (Tcover_tree.mk s.Kind s.Depth a, true) := rfl
theorem treeOf_loop (s : TScheme) {d : Nat} (hd : s.Depth = (d : Int)) (h : d ≤ 6) : fixN (cover_treeOf_L2 s) FUEL 1 = some (Tcover_tree.mk s.Kind (d : Int) (strd d : Int), true) := by
  have e1 : w64 (1 * 1) = 1 := by decide
  have e2 : w64 (1 + 1) = 2 := by decide
  have e3 : w64 (2 * 2) = 4 := by decide
  have e4 : w64 (2 + 1) = 3 := by decide
  have e5 : w64 (3 * 3) = 9 := by decide
  rw [show FUEL = 18446744073709551613 + 3 from rfl, treeOf_step, e1, e2, hd]
  unfold strd
  by_cases h1 : d ≤ 1
  · rw [if_neg (by omega), if_pos h1, ← hd]; rfl
  · rw [if_pos (by omega), if_neg h1, show 18446744073709551613 + 2 = 18446744073709551614 + 1 from rfl, treeOf_step, e3, e4, hd]
    by_cases h2 : d ≤ 4
    · rw [if_neg (by omega), if_pos h2, ← hd]; rfl
    · rw [if_pos (by omega), if_neg h2, show 18446744073709551614 = 18446744073709551613 + 1 from rfl, treeOf_step, e5, hd, if_neg (by omega), ← hd]; rfl
def treeI (s : TScheme) : Tcover_tree := Tcover_tree.mk s.Kind s.Depth (strd s.Depth.toNat : Int)
theorem treeOf_eq (s : TScheme) : cover_treeOf s = some (if vldB s then (treeI s, true) else (Tcover_tree.mk 0#8 0 0, false)) := by
  unfold cover_treeOf cover_treeOf_J1
  by_cases hv : vldB s = true
  · rw [if_pos hv]
    obtain ⟨d, hd, h6⟩ := vld_depth hv
    unfold vldB at hv
    obtain ⟨h1, h2, h3, h4, h5, h7⟩ := of_decide_eq_true hv
    have hs : s = TScheme.mk s.Kind s.Depth 0 (TGroup.mk 0#64 0#64 0#64) := by cases s; simp only at *; rw [h5, h7]; rfl
    rw [if_neg (by rw [BitVec.not_lt]; exact h1), if_neg (by rw [BitVec.not_lt]; exact h2), if_neg (by omega), if_neg (by omega), decide_eq_false (by simpa using hs)]
    simp only [cond_false]
    rw [treeOf_loop s hd h6]
    unfold treeI
    rw [hd, Int.toNat_natCast]
  · rw [if_neg hv]
    have hn : ¬ (1#8 ≤ s.Kind ∧ s.Kind ≤ 3#8 ∧ 0 ≤ s.Depth ∧ s.Depth ≤ 6 ∧ s.Degree = 0 ∧ s.Group = zG) := fun h => hv (by unfold vldB; exact decide_eq_true h)
    by_cases h1 : s.Kind < 1#8
    · rw [if_pos h1]; rfl
    · rw [if_neg h1]
      by_cases h2 : 3#8 < s.Kind
      · rw [if_pos h2]; rfl
      · rw [if_neg h2]
        by_cases h3 : s.Depth < 0
        · rw [if_pos h3]; rfl
        · rw [if_neg h3]
          by_cases h4 : (6 : Int) < s.Depth
          · rw [if_pos h4]; rfl
          · rw [if_neg h4, decide_eq_true (p := s ≠ _)]
            · rfl
            · intro hs
              refine hn ⟨BitVec.not_lt.1 h1, BitVec.not_lt.1 h2, by omega, by omega, ?_, ?_⟩
              · rw [hs]
              · rw [hs]; rfl
/-! the first special node -/
end Go.Sx

end
section
set_option linter.unusedVariables false
set_option linter.unusedSimpArgs false
namespace Go.Sx
open Go
end Go.Sx

end
section
set_option linter.unusedVariables false
set_option linter.unusedSimpArgs false
namespace Go.Sx
open Go
/-! both sides' way in -/
end Go.Sx

end
section
set_option linter.unusedVariables false
set_option linter.unusedSimpArgs false
set_option maxRecDepth 100000
namespace Go.Sx
open Go
end Go.Sx

end
section
set_option linter.unusedVariables false
set_option linter.unusedSimpArgs false
set_option maxRecDepth 100000
namespace Go.Sx
open Go
/-! siblings -/
/-! paths -/
theorem leaf_log {d u : Nat} (hu : u < 2 ^ d) : Nat.log2 (2 ^ d + u) = d := by
  rw [Nat.log2_eq_iff (by have := Nat.two_pow_pos d; omega), Nat.pow_succ]; omega
end Go.Sx

end
section
set_option linter.unusedVariables false
set_option linter.unusedSimpArgs false
set_option maxRecDepth 100000
namespace Go.Sx
open Go
section
variable {d : Nat} {R : List Nat}
/-- receivers -/
def Rcv (d : Nat) (R : List Nat) : Prop := d ≤ 6 ∧ ∀ u ∈ R, u < 2 ^ d
theorem Rcv.leaf (h : Rcv d R) {u : Nat} (hu : u ∈ R) : 1 ≤ 2 ^ d + u ∧ 2 ^ d + u < 128 ∧ Nat.log2 (2 ^ d + u) = d := by
  have := pow_le64 h.1
  have := h.2 u hu
  have := Nat.two_pow_pos d
  exact ⟨by omega, by omega, leaf_log (h.2 u hu)⟩
end
end Go.Sx

end
section
set_option linter.unusedVariables false
set_option linter.unusedSimpArgs false
set_option maxRecDepth 100000
namespace Go.Sx
open Go
variable {d : Nat} {R : List Nat}
end Go.Sx

end
section
set_option linter.unusedVariables false
set_option linter.unusedSimpArgs false
set_option maxRecDepth 100000
namespace Go.Sx
open Go
variable {d : Nat} {R : List Nat}
end Go.Sx

end
section
set_option linter.unusedVariables false
set_option linter.unusedSimpArgs false
set_option maxRecDepth 100000
namespace Go.Sx.Pn
open Go Go.Sx
def sch (k d : Nat) : TScheme := ⟨BitVec.ofNat 8 k, (d : Int), 0, ⟨0#64, 0#64, 0#64⟩⟩
def tb_1_0 : Tplan_tables := ⟨sch 1 0, 1, ⟨[1, 0], [], [], []⟩, 1⟩
theorem nt_1_0 : plan_newTables (sch 1 0) = some tb_1_0 := by kernel_rfl
def tb_1_1 : Tplan_tables := ⟨sch 1 1, 1, ⟨[1, 0, 1, 1, 0], [], [], []⟩, 1⟩
theorem nt_1_1 : plan_newTables (sch 1 1) = some tb_1_1 := by kernel_rfl
def tb_1_2 : Tplan_tables := ⟨sch 1 2, 2, ⟨[1, 0, 1, 1, 0, 1, 2, 2, 1, 0], [], [], []⟩, 1⟩
theorem nt_1_2 : plan_newTables (sch 1 2) = some tb_1_2 := by kernel_rfl
def tb_1_3 : Tplan_tables := ⟨sch 1 3, 2, ⟨[1, 0, 1, 1, 0, 1, 2, 2, 1, 0, 1, 3, 4, 4, 4, 3, 2, 1, 0], [], [], []⟩, 1⟩
theorem nt_1_3 : plan_newTables (sch 1 3) = some tb_1_3 := by kernel_rfl
def tb_1_4 : Tplan_tables := ⟨sch 1 4, 2, ⟨[1, 0, 1, 1, 0, 1, 2, 2, 1, 0, 1, 3, 4, 4, 4, 3, 2, 1, 0, 1, 4, 6, 7, 8, 8, 8, 8, 8, 7, 6, 5, 4, 3, 2, 1, 0], [], [], []⟩, 1⟩
theorem nt_1_4 : plan_newTables (sch 1 4) = some tb_1_4 := by kernel_rfl
def tb_1_5 : Tplan_tables := ⟨sch 1 5, 3, ⟨[1, 0, 1, 1, 0, 1, 2, 2, 1, 0, 1, 3, 4, 4, 4, 3, 2, 1, 0, 1, 4, 6, 7, 8, 8, 8, 8, 8, 7, 6, 5, 4, 3, 2, 1, 0, 1, 5, 8, 10, 12, 13, 14, 15, 16, 16, 16, 16, 16, 16, 16, 16, 16, 15, 14, 13, 12, 11, 10, 9, 8, 7, 6, 5, 4, 3, 2, 1, 0], [], [], []⟩, 1⟩
theorem nt_1_5 : plan_newTables (sch 1 5) = some tb_1_5 := by kernel_rfl
def tb_1_6 : Tplan_tables := ⟨sch 1 6, 3, ⟨[1, 0, 1, 1, 0, 1, 2, 2, 1, 0, 1, 3, 4, 4, 4, 3, 2, 1, 0, 1, 4, 6, 7, 8, 8, 8, 8, 8, 7, 6, 5, 4, 3, 2, 1, 0, 1, 5, 8, 10, 12, 13, 14, 15, 16, 16, 16, 16, 16, 16, 16, 16, 16, 15, 14, 13, 12, 11, 10, 9, 8, 7, 6, 5, 4, 3, 2, 1, 0, 1, 6, 10, 13, 16, 18, 20, 22, 24, 25, 26, 27, 28, 29, 30, 31, 32, 32, 32, 32, 32, 32, 32, 32, 32, 32, 32, 32, 32, 32, 32, 32, 32, 31, 30, 29, 28, 27, 26, 25, 24, 23, 22, 21, 20, 19, 18, 17, 16, 15, 14, 13, 12, 11, 10, 9, 8, 7, 6, 5, 4, 3, 2, 1, 0], [], [], []⟩, 1⟩
theorem nt_1_6 : plan_newTables (sch 1 6) = some tb_1_6 := by kernel_rfl
def tb_2_0 : Tplan_tables := ⟨sch 2 0, 1, ⟨[0, 0], [0, 1], [], []⟩, 2⟩
theorem nt_2_0 : plan_newTables (sch 2 0) = some tb_2_0 := by kernel_rfl
def tb_2_1 : Tplan_tables := ⟨sch 2 1, 1, ⟨[0, 0, 0, 1, 0], [0, 1, 0, 1, 1], [], []⟩, 2⟩
theorem nt_2_1 : plan_newTables (sch 2 1) = some tb_2_1 := by kernel_rfl
def tb_2_2 : Tplan_tables := ⟨sch 2 2, 2, ⟨[0, 0, 0, 1, 0, 0, 1, 2, 1, 0], [0, 1, 0, 1, 1, 0, 1, 3, 2, 1], [], []⟩, 2⟩
theorem nt_2_2 : plan_newTables (sch 2 2) = some tb_2_2 := by kernel_rfl
def tb_2_3 : Tplan_tables := ⟨sch 2 3, 2, ⟨[0, 0, 0, 1, 0, 0, 1, 2, 1, 0, 0, 1, 3, 3, 4, 3, 2, 1, 0], [0, 1, 0, 1, 1, 0, 1, 3, 2, 1, 0, 1, 3, 4, 5, 4, 3, 2, 1], [], []⟩, 2⟩
theorem nt_2_3 : plan_newTables (sch 2 3) = some tb_2_3 := by kernel_rfl
def tb_2_4 : Tplan_tables := ⟨sch 2 4, 2, ⟨[0, 0, 0, 1, 0, 0, 1, 2, 1, 0, 0, 1, 3, 3, 4, 3, 2, 1, 0, 0, 1, 3, 4, 6, 6, 7, 7, 8, 7, 6, 5, 4, 3, 2, 1, 0], [0, 1, 0, 1, 1, 0, 1, 3, 2, 1, 0, 1, 3, 4, 5, 4, 3, 2, 1, 0, 1, 3, 5, 7, 7, 8, 8, 9, 8, 7, 6, 5, 4, 3, 2, 1], [], []⟩, 2⟩
theorem nt_2_4 : plan_newTables (sch 2 4) = some tb_2_4 := by kernel_rfl
def tb_2_5 : Tplan_tables := ⟨sch 2 5, 3, ⟨[0, 0, 0, 1, 0, 0, 1, 2, 1, 0, 0, 1, 3, 3, 4, 3, 2, 1, 0, 0, 1, 3, 4, 6, 6, 7, 7, 8, 7, 6, 5, 4, 3, 2, 1, 0, 0, 1, 3, 5, 7, 7, 9, 10, 12, 12, 13, 13, 14, 14, 15, 15, 16, 15, 14, 13, 12, 11, 10, 9, 8, 7, 6, 5, 4, 3, 2, 1, 0], [0, 1, 0, 1, 1, 0, 1, 3, 2, 1, 0, 1, 3, 4, 5, 4, 3, 2, 1, 0, 1, 3, 5, 7, 7, 8, 8, 9, 8, 7, 6, 5, 4, 3, 2, 1, 0, 1, 3, 5, 7, 8, 10, 11, 13, 13, 14, 14, 15, 15, 16, 16, 17, 16, 15, 14, 13, 12, 11, 10, 9, 8, 7, 6, 5, 4, 3, 2, 1], [], []⟩, 2⟩
theorem nt_2_5 : plan_newTables (sch 2 5) = some tb_2_5 := by kernel_rfl
def tb_2_6 : Tplan_tables := ⟨sch 2 6, 3, ⟨[0, 0, 0, 1, 0, 0, 1, 2, 1, 0, 0, 1, 3, 3, 4, 3, 2, 1, 0, 0, 1, 3, 4, 6, 6, 7, 7, 8, 7, 6, 5, 4, 3, 2, 1, 0, 0, 1, 3, 5, 7, 7, 9, 10, 12, 12, 13, 13, 14, 14, 15, 15, 16, 15, 14, 13, 12, 11, 10, 9, 8, 7, 6, 5, 4, 3, 2, 1, 0, 0, 1, 3, 5, 7, 8, 10, 12, 14, 14, 16, 17, 19, 19, 21, 22, 24, 24, 25, 25, 26, 26, 27, 27, 28, 28, 29, 29, 30, 30, 31, 31, 32, 31, 30, 29, 28, 27, 26, 25, 24, 23, 22, 21, 20, 19, 18, 17, 16, 15, 14, 13, 12, 11, 10, 9, 8, 7, 6, 5, 4, 3, 2, 1, 0], [0, 1, 0, 1, 1, 0, 1, 3, 2, 1, 0, 1, 3, 4, 5, 4, 3, 2, 1, 0, 1, 3, 5, 7, 7, 8, 8, 9, 8, 7, 6, 5, 4, 3, 2, 1, 0, 1, 3, 5, 7, 8, 10, 11, 13, 13, 14, 14, 15, 15, 16, 16, 17, 16, 15, 14, 13, 12, 11, 10, 9, 8, 7, 6, 5, 4, 3, 2, 1, 0, 1, 3, 5, 7, 9, 11, 13, 15, 15, 17, 18, 20, 20, 22, 23, 25, 25, 26, 26, 27, 27, 28, 28, 29, 29, 30, 30, 31, 31, 32, 32, 33, 32, 31, 30, 29, 28, 27, 26, 25, 24, 23, 22, 21, 20, 19, 18, 17, 16, 15, 14, 13, 12, 11, 10, 9, 8, 7, 6, 5, 4, 3, 2, 1], [], []⟩, 2⟩
theorem nt_2_6 : plan_newTables (sch 2 6) = some tb_2_6 := by kernel_rfl
def tb_3_0 : Tplan_tables := ⟨sch 3 0, 1, ⟨[0, 0], [0, 1], [0, 1], [0, 2]⟩, 4⟩
theorem nt_3_0 : plan_newTables (sch 3 0) = some tb_3_0 := by kernel_rfl
def tb_3_1 : Tplan_tables := ⟨sch 3 1, 1, ⟨[0, 0, 0, 1, 0], [0, 1, 0, 1, 1], [0, 1, 0, 2, 1], [0, 2, 0, 2, 2]⟩, 4⟩
theorem nt_3_1 : plan_newTables (sch 3 1) = some tb_3_1 := by kernel_rfl
def tb_3_2 : Tplan_tables := ⟨sch 3 2, 2, ⟨[0, 0, 0, 1, 0, 0, 1, 2, 1, 0], [0, 1, 0, 1, 1, 0, 1, 3, 2, 1], [0, 1, 0, 1, 1, 0, 2, 3, 2, 1], [0, 2, 0, 2, 2, 0, 2, 4, 3, 2]⟩, 4⟩
theorem nt_3_2 : plan_newTables (sch 3 2) = some tb_3_2 := by kernel_rfl
def tb_3_3 : Tplan_tables := ⟨sch 3 3, 2, ⟨[0, 0, 0, 1, 0, 0, 2, 2, 1, 0, 0, 1, 4, 4, 4, 3, 2, 1, 0], [0, 1, 0, 1, 1, 0, 1, 3, 2, 1, 0, 1, 5, 5, 5, 4, 3, 2, 1], [0, 1, 0, 2, 1, 0, 2, 3, 2, 1, 0, 2, 5, 5, 5, 4, 3, 2, 1], [0, 2, 0, 2, 2, 0, 2, 4, 3, 2, 0, 2, 6, 6, 6, 5, 4, 3, 2]⟩, 4⟩
theorem nt_3_3 : plan_newTables (sch 3 3) = some tb_3_3 := by kernel_rfl
def tb_3_4 : Tplan_tables := ⟨sch 3 4, 2, ⟨[0, 0, 0, 1, 0, 0, 1, 2, 1, 0, 0, 2, 3, 3, 4, 3, 2, 1, 0, 0, 1, 4, 5, 6, 6, 7, 7, 8, 7, 6, 5, 4, 3, 2, 1, 0], [0, 1, 0, 1, 1, 0, 1, 3, 2, 1, 0, 1, 3, 4, 5, 4, 3, 2, 1, 0, 1, 5, 6, 7, 7, 8, 8, 9, 8, 7, 6, 5, 4, 3, 2, 1], [0, 1, 0, 1, 1, 0, 2, 3, 2, 1, 0, 2, 3, 4, 5, 4, 3, 2, 1, 0, 2, 5, 6, 7, 7, 8, 8, 9, 8, 7, 6, 5, 4, 3, 2, 1], [0, 2, 0, 2, 2, 0, 2, 4, 3, 2, 0, 2, 4, 5, 6, 5, 4, 3, 2, 0, 2, 6, 7, 8, 8, 9, 9, 10, 9, 8, 7, 6, 5, 4, 3, 2]⟩, 4⟩
theorem nt_3_4 : plan_newTables (sch 3 4) = some tb_3_4 := by kernel_rfl
def tb_3_5 : Tplan_tables := ⟨sch 3 5, 3, ⟨[0, 0, 0, 1, 0, 0, 1, 2, 1, 0, 0, 2, 3, 3, 4, 3, 2, 1, 0, 0, 2, 4, 5, 6, 6, 7, 7, 8, 7, 6, 5, 4, 3, 2, 1, 0, 0, 1, 5, 6, 8, 9, 10, 11, 12, 12, 13, 13, 14, 14, 15, 15, 16, 15, 14, 13, 12, 11, 10, 9, 8, 7, 6, 5, 4, 3, 2, 1, 0], [0, 1, 0, 1, 1, 0, 1, 3, 2, 1, 0, 1, 3, 4, 5, 4, 3, 2, 1, 0, 1, 5, 6, 7, 7, 8, 8, 9, 8, 7, 6, 5, 4, 3, 2, 1, 0, 1, 5, 7, 9, 10, 11, 12, 13, 13, 14, 14, 15, 15, 16, 16, 17, 16, 15, 14, 13, 12, 11, 10, 9, 8, 7, 6, 5, 4, 3, 2, 1], [0, 1, 0, 1, 1, 0, 2, 3, 2, 1, 0, 2, 3, 4, 5, 4, 3, 2, 1, 0, 2, 5, 6, 7, 7, 8, 8, 9, 8, 7, 6, 5, 4, 3, 2, 1, 0, 2, 6, 7, 9, 10, 11, 12, 13, 13, 14, 14, 15, 15, 16, 16, 17, 16, 15, 14, 13, 12, 11, 10, 9, 8, 7, 6, 5, 4, 3, 2, 1], [0, 2, 0, 2, 2, 0, 2, 4, 3, 2, 0, 2, 4, 5, 6, 5, 4, 3, 2, 0, 2, 6, 7, 8, 8, 9, 9, 10, 9, 8, 7, 6, 5, 4, 3, 2, 0, 2, 6, 8, 10, 11, 12, 13, 14, 14, 15, 15, 16, 16, 17, 17, 18, 17, 16, 15, 14, 13, 12, 11, 10, 9, 8, 7, 6, 5, 4, 3, 2]⟩, 4⟩
theorem nt_3_5 : plan_newTables (sch 3 5) = some tb_3_5 := by kernel_rfl
def tb_3_6 : Tplan_tables := ⟨sch 3 6, 3, ⟨[0, 0, 0, 1, 0, 0, 1, 2, 1, 0, 0, 1, 3, 3, 4, 3, 2, 1, 0, 0, 2, 4, 4, 6, 6, 7, 7, 8, 7, 6, 5, 4, 3, 2, 1, 0, 0, 2, 4, 6, 8, 8, 10, 10, 12, 12, 13, 13, 14, 14, 15, 15, 16, 15, 14, 13, 12, 11, 10, 9, 8, 7, 6, 5, 4, 3, 2, 1, 0, 0, 1, 5, 7, 9, 10, 12, 14, 16, 16, 18, 18, 20, 20, 22, 22, 24, 24, 25, 25, 26, 26, 27, 27, 28, 28, 29, 29, 30, 30, 31, 31, 32, 31, 30, 29, 28, 27, 26, 25, 24, 23, 22, 21, 20, 19, 18, 17, 16, 15, 14, 13, 12, 11, 10, 9, 8, 7, 6, 5, 4, 3, 2, 1, 0], [0, 1, 0, 1, 1, 0, 1, 3, 2, 1, 0, 1, 3, 4, 5, 4, 3, 2, 1, 0, 1, 3, 5, 7, 7, 8, 8, 9, 8, 7, 6, 5, 4, 3, 2, 1, 0, 1, 5, 7, 9, 9, 11, 11, 13, 13, 14, 14, 15, 15, 16, 16, 17, 16, 15, 14, 13, 12, 11, 10, 9, 8, 7, 6, 5, 4, 3, 2, 1, 0, 1, 5, 7, 9, 11, 13, 15, 17, 17, 19, 19, 21, 21, 23, 23, 25, 25, 26, 26, 27, 27, 28, 28, 29, 29, 30, 30, 31, 31, 32, 32, 33, 32, 31, 30, 29, 28, 27, 26, 25, 24, 23, 22, 21, 20, 19, 18, 17, 16, 15, 14, 13, 12, 11, 10, 9, 8, 7, 6, 5, 4, 3, 2, 1], [0, 1, 0, 1, 1, 0, 1, 3, 2, 1, 0, 2, 4, 4, 5, 4, 3, 2, 1, 0, 2, 4, 5, 7, 7, 8, 8, 9, 8, 7, 6, 5, 4, 3, 2, 1, 0, 2, 5, 7, 9, 9, 11, 11, 13, 13, 14, 14, 15, 15, 16, 16, 17, 16, 15, 14, 13, 12, 11, 10, 9, 8, 7, 6, 5, 4, 3, 2, 1, 0, 2, 6, 8, 10, 11, 13, 15, 17, 17, 19, 19, 21, 21, 23, 23, 25, 25, 26, 26, 27, 27, 28, 28, 29, 29, 30, 30, 31, 31, 32, 32, 33, 32, 31, 30, 29, 28, 27, 26, 25, 24, 23, 22, 21, 20, 19, 18, 17, 16, 15, 14, 13, 12, 11, 10, 9, 8, 7, 6, 5, 4, 3, 2, 1], [0, 2, 0, 2, 2, 0, 2, 4, 3, 2, 0, 2, 4, 5, 6, 5, 4, 3, 2, 0, 2, 4, 6, 8, 8, 9, 9, 10, 9, 8, 7, 6, 5, 4, 3, 2, 0, 2, 6, 8, 10, 10, 12, 12, 14, 14, 15, 15, 16, 16, 17, 17, 18, 17, 16, 15, 14, 13, 12, 11, 10, 9, 8, 7, 6, 5, 4, 3, 2, 0, 2, 6, 8, 10, 12, 14, 16, 18, 18, 20, 20, 22, 22, 24, 24, 26, 26, 27, 27, 28, 28, 29, 29, 30, 30, 31, 31, 32, 32, 33, 33, 34, 33, 32, 31, 30, 29, 28, 27, 26, 25, 24, 23, 22, 21, 20, 19, 18, 17, 16, 15, 14, 13, 12, 11, 10, 9, 8, 7, 6, 5, 4, 3, 2]⟩, 4⟩
theorem nt_3_6 : plan_newTables (sch 3 6) = some tb_3_6 := by kernel_rfl
def tb (k d : Nat) : Tplan_tables := match k, d with
  | 1, 0 => tb_1_0
  | 1, 1 => tb_1_1
  | 1, 2 => tb_1_2
  | 1, 3 => tb_1_3
  | 1, 4 => tb_1_4
  | 1, 5 => tb_1_5
  | 1, 6 => tb_1_6
  | 2, 0 => tb_2_0
  | 2, 1 => tb_2_1
  | 2, 2 => tb_2_2
  | 2, 3 => tb_2_3
  | 2, 4 => tb_2_4
  | 2, 5 => tb_2_5
  | 2, 6 => tb_2_6
  | 3, 0 => tb_3_0
  | 3, 1 => tb_3_1
  | 3, 2 => tb_3_2
  | 3, 3 => tb_3_3
  | 3, 4 => tb_3_4
  | 3, 5 => tb_3_5
  | 3, 6 => tb_3_6
  | _, _ => tb_1_0
theorem nt {k d : Nat} (hk : 1 ≤ k ∧ k ≤ 3) (hd : d ≤ 6) : plan_newTables (sch k d) = some (tb k d) := by
  rcases (show k = 1 ∨ k = 2 ∨ k = 3 by omega) with rfl | rfl | rfl <;> rcases (show d = 0 ∨ d = 1 ∨ d = 2 ∨ d = 3 ∨ d = 4 ∨ d = 5 ∨ d = 6 by omega) with rfl | rfl | rfl | rfl | rfl | rfl | rfl
  · exact nt_1_0
  · exact nt_1_1
  · exact nt_1_2
  · exact nt_1_3
  · exact nt_1_4
  · exact nt_1_5
  · exact nt_1_6
  · exact nt_2_0
  · exact nt_2_1
  · exact nt_2_2
  · exact nt_2_3
  · exact nt_2_4
  · exact nt_2_5
  · exact nt_2_6
  · exact nt_3_0
  · exact nt_3_1
  · exact nt_3_2
  · exact nt_3_3
  · exact nt_3_4
  · exact nt_3_5
  · exact nt_3_6
/-- the worst numbers, and the least numbers of revoked receivers that have them -/
def wl (k d : Nat) : List (Int × Int) := match k, d with
  | 1, 0 => [(1, 0), (1, 0)]
  | 1, 1 => [(1, 0), (1, 0), (1, 0)]
  | 1, 2 => [(1, 0), (2, 1), (2, 1), (2, 1), (2, 1)]
  | 1, 3 => [(1, 0), (3, 1), (4, 2), (4, 2), (4, 2), (4, 2), (4, 2), (4, 2), (4, 2)]
  | 1, 4 => [(1, 0), (4, 1), (6, 2), (7, 3), (8, 4), (8, 4), (8, 4), (8, 4), (8, 4), (8, 4), (8, 4), (8, 4), (8, 4), (8, 4), (8, 4), (8, 4), (8, 4)]
  | 1, 5 => [(1, 0), (5, 1), (8, 2), (10, 3), (12, 4), (13, 5), (14, 6), (15, 7), (16, 8), (16, 8), (16, 8), (16, 8), (16, 8), (16, 8), (16, 8), (16, 8), (16, 8), (16, 8), (16, 8), (16, 8), (16, 8), (16, 8), (16, 8), (16, 8), (16, 8), (16, 8), (16, 8), (16, 8), (16, 8), (16, 8), (16, 8), (16, 8), (16, 8)]
  | 1, 6 => [(1, 0), (6, 1), (10, 2), (13, 3), (16, 4), (18, 5), (20, 6), (22, 7), (24, 8), (25, 9), (26, 10), (27, 11), (28, 12), (29, 13), (30, 14), (31, 15), (32, 16), (32, 16), (32, 16), (32, 16), (32, 16), (32, 16), (32, 16), (32, 16), (32, 16), (32, 16), (32, 16), (32, 16), (32, 16), (32, 16), (32, 16), (32, 16), (32, 16), (32, 16), (32, 16), (32, 16), (32, 16), (32, 16), (32, 16), (32, 16), (32, 16), (32, 16), (32, 16), (32, 16), (32, 16), (32, 16), (32, 16), (32, 16), (32, 16), (32, 16), (32, 16), (32, 16), (32, 16), (32, 16), (32, 16), (32, 16), (32, 16), (32, 16), (32, 16), (32, 16), (32, 16), (32, 16), (32, 16), (32, 16), (32, 16)]
  | 2, 0 => [(1, 0), (1, 0)]
  | 2, 1 => [(1, 0), (1, 0), (1, 0)]
  | 2, 2 => [(1, 0), (1, 0), (2, 2), (2, 2), (2, 2)]
  | 2, 3 => [(1, 0), (1, 0), (3, 2), (3, 2), (4, 4), (4, 4), (4, 4), (4, 4), (4, 4)]
  | 2, 4 => [(1, 0), (1, 0), (3, 2), (4, 3), (6, 4), (6, 4), (7, 6), (7, 6), (8, 8), (8, 8), (8, 8), (8, 8), (8, 8), (8, 8), (8, 8), (8, 8), (8, 8)]
  | 2, 5 => [(1, 0), (1, 0), (3, 2), (5, 3), (7, 4), (7, 4), (9, 6), (10, 7), (12, 8), (12, 8), (13, 10), (13, 10), (14, 12), (14, 12), (15, 14), (15, 14), (16, 16), (16, 16), (16, 16), (16, 16), (16, 16), (16, 16), (16, 16), (16, 16), (16, 16), (16, 16), (16, 16), (16, 16), (16, 16), (16, 16), (16, 16), (16, 16), (16, 16)]
  | 2, 6 => [(1, 0), (1, 0), (3, 2), (5, 3), (7, 4), (8, 5), (10, 6), (12, 7), (14, 8), (14, 8), (16, 10), (17, 11), (19, 12), (19, 12), (21, 14), (22, 15), (24, 16), (24, 16), (25, 18), (25, 18), (26, 20), (26, 20), (27, 22), (27, 22), (28, 24), (28, 24), (29, 26), (29, 26), (30, 28), (30, 28), (31, 30), (31, 30), (32, 32), (32, 32), (32, 32), (32, 32), (32, 32), (32, 32), (32, 32), (32, 32), (32, 32), (32, 32), (32, 32), (32, 32), (32, 32), (32, 32), (32, 32), (32, 32), (32, 32), (32, 32), (32, 32), (32, 32), (32, 32), (32, 32), (32, 32), (32, 32), (32, 32), (32, 32), (32, 32), (32, 32), (32, 32), (32, 32), (32, 32), (32, 32), (32, 32)]
  | 3, 0 => [(1, 0), (1, 0)]
  | 3, 1 => [(1, 0), (1, 0), (1, 0)]
  | 3, 2 => [(1, 0), (1, 0), (2, 2), (2, 2), (2, 2)]
  | 3, 3 => [(1, 0), (1, 0), (4, 2), (4, 2), (4, 2), (4, 2), (4, 2), (4, 2), (4, 2)]
  | 3, 4 => [(1, 0), (1, 0), (4, 2), (5, 3), (6, 4), (6, 4), (7, 6), (7, 6), (8, 8), (8, 8), (8, 8), (8, 8), (8, 8), (8, 8), (8, 8), (8, 8), (8, 8)]
  | 3, 5 => [(1, 0), (1, 0), (5, 2), (6, 3), (8, 4), (9, 5), (10, 6), (11, 7), (12, 8), (12, 8), (13, 10), (13, 10), (14, 12), (14, 12), (15, 14), (15, 14), (16, 16), (16, 16), (16, 16), (16, 16), (16, 16), (16, 16), (16, 16), (16, 16), (16, 16), (16, 16), (16, 16), (16, 16), (16, 16), (16, 16), (16, 16), (16, 16), (16, 16)]
  | 3, 6 => [(1, 0), (1, 0), (5, 2), (7, 3), (9, 4), (10, 5), (12, 6), (14, 7), (16, 8), (16, 8), (18, 10), (18, 10), (20, 12), (20, 12), (22, 14), (22, 14), (24, 16), (24, 16), (25, 18), (25, 18), (26, 20), (26, 20), (27, 22), (27, 22), (28, 24), (28, 24), (29, 26), (29, 26), (30, 28), (30, 28), (31, 30), (31, 30), (32, 32), (32, 32), (32, 32), (32, 32), (32, 32), (32, 32), (32, 32), (32, 32), (32, 32), (32, 32), (32, 32), (32, 32), (32, 32), (32, 32), (32, 32), (32, 32), (32, 32), (32, 32), (32, 32), (32, 32), (32, 32), (32, 32), (32, 32), (32, 32), (32, 32), (32, 32), (32, 32), (32, 32), (32, 32), (32, 32), (32, 32), (32, 32), (32, 32)]
  | _, _ => []
def wst (k d r : Nat) : Int × Int := (wl k d).getD r (0, 0)
theorem worst_all : ∀ k ∈ [1, 2, 3], ∀ d ∈ List.range 7, ∀ r ∈ List.range (2 ^ d + 1), plan_tables_worst (tb k d) (r : Int) = some (wst k d r) := by decide +kernel
end Go.Sx.Pn

end
section
set_option linter.unusedVariables false
set_option linter.unusedSimpArgs false
namespace Go.Sx
open Go
end Go.Sx

end
section
set_option linter.unusedVariables false
set_option linter.unusedSimpArgs false
namespace Go.Sx
open Go
end Go.Sx

end
section
set_option linter.unusedVariables false
set_option linter.unusedSimpArgs false
namespace Go.Sx
open Go
end Go.Sx

end
section
set_option linter.unusedVariables false
set_option linter.unusedSimpArgs false
namespace Go.Sx
open Go
/-! subsets, plainly -/
end Go.Sx

end
section
set_option linter.unusedVariables false
set_option linter.unusedSimpArgs false
namespace Go.Sx
open Go
section
variable {s : TScheme} {d u n m : Nat}
end
/-! lists of receivers -/
theorem getD_some {l : List Int} {j : Nat} (h : j < l.length) : l.getD j 0 = l[j] := by simp [List.getD, h]
end Go.Sx

end
section
set_option linter.unusedVariables false
set_option linter.unusedSimpArgs false
set_option maxRecDepth 100000
namespace Go.Sx
open Go
/-! the hot nodes -/
/-! a round -/
/-! any order -/
end Go.Sx

end
section
set_option linter.unusedVariables false
set_option linter.unusedSimpArgs false
set_option maxRecDepth 100000
namespace Go.Sx.Pn
open Go Go.Sx
theorem check_eq (s : TScheme) : cover_Check s = some (if vldB s then 0 else 30) := by
  unfold cover_Check
  rw [treeOf_eq, bind_some]
  cases vldB s <;> rfl
theorem kd_mem {k d : Nat} (hk : 1 ≤ k ∧ k ≤ 3) (hd : d ≤ 6) : k ∈ [1, 2, 3] ∧ d ∈ List.range 7 := by
  refine ⟨?_, List.mem_range.2 (by omega)⟩
  rcases (show k = 1 ∨ k = 2 ∨ k = 3 by omega) with rfl | rfl | rfl <;> simp
theorem sch_vld {k d : Nat} (hk : 1 ≤ k ∧ k ≤ 3) (hd : d ≤ 6) : vldB (sch k d) = true := by
  unfold vldB sch
  apply decide_eq_true
  refine ⟨?_, ?_, by simp only; omega, by simp only; omega, rfl, rfl⟩ <;> rcases (show k = 1 ∨ k = 2 ∨ k = 3 by omega) with rfl | rfl | rfl <;> (simp only; decide)
theorem vld_sch {s : TScheme} (h : vldB s = true) : ∃ k d : Nat, (1 ≤ k ∧ k ≤ 3) ∧ d ≤ 6 ∧ s = sch k d := by
  obtain ⟨kind, depth, deg, grp⟩ := s
  unfold vldB at h
  obtain ⟨h1, h2, h3, h4, h5, h6⟩ := of_decide_eq_true h
  simp only at h1 h2 h3 h4 h5 h6
  subst h5 h6
  have e1 : (1#8).toNat = 1 := rfl
  have e3 : (3#8).toNat = 3 := rfl
  rw [BitVec.le_def] at h1 h2
  rw [e1] at h1; rw [e3] at h2
  refine ⟨kind.toNat, depth.toNat, by omega, by omega, ?_⟩
  unfold sch
  rw [BitVec.ofNat_toNat, BitVec.setWidth_eq, Int.toNat_of_nonneg (by omega)]; rfl
theorem pow64 {d : Nat} (h : d ≤ 6) : 2 ^ d ≤ 64 := Nat.le_trans (Nat.pow_le_pow_right (by omega) h) (by decide)
theorem shlD {d : Nat} (h : d ≤ 6) : shlI 1 d = ((2 ^ d : Nat) : Int) := by
  have := pow64 h
  unfold shlI
  rw [Nat.min_eq_left (by omega), Int.one_mul, show (2 : Int) ^ d = ((2 ^ d : Nat) : Int) from by rw [Int.natCast_pow]; rfl]
  generalize 2 ^ d = m at *
  exact w64_id (by omega) (by omega)
theorem shGn (n : Nat) : shG (n : Int) = some n := by unfold shG; rw [if_pos (by omega)]; rfl
section
variable {k d r : Nat}
theorem worst_tb (hk : 1 ≤ k ∧ k ≤ 3) (hd : d ≤ 6) (hr : r ≤ 2 ^ d) : plan_tables_worst (tb k d) (r : Int) = some (wst k d r) := by
  obtain ⟨h1, h2⟩ := kd_mem hk hd
  exact worst_all k h1 d h2 r (List.mem_range.2 (by omega))
theorem worst_arg (hk : 1 ≤ k ∧ k ≤ 3) (hd : d ≤ 6) {q : Int} (hq : q < 0 ∨ ((2 ^ d : Nat) : Int) < q) : plan_Worst (sch k d) q = some (0, 2) := by
  unfold plan_Worst
  rw [check_eq, bind_some, sch_vld hk hd, if_pos rfl, if_neg (by decide)]
  by_cases h0 : q < 0
  · rw [if_pos h0]; rfl
  · rw [if_neg h0, show (sch k d).Depth = (d : Int) from rfl, shGn, bind_some, shlD hd, decide_eq_true (by omega)]; rfl
theorem worst_ok (hk : 1 ≤ k ∧ k ≤ 3) (hd : d ≤ 6) (hr : r ≤ 2 ^ d) : plan_Worst (sch k d) (r : Int) = some ((wst k d r).1, 0) := by
  unfold plan_Worst
  rw [check_eq, bind_some, sch_vld hk hd, if_pos rfl, if_neg (by decide), if_neg (by omega), show (sch k d).Depth = (d : Int) from rfl, shGn, bind_some, shlD hd, decide_eq_false (by omega)]
  unfold plan_Worst_J1
  rw [cond_false, nt hk hd, bind_some, worst_tb hk hd hr, bind_some]
end
end Go.Sx.Pn

end
section
set_option linter.unusedVariables false
set_option linter.unusedSimpArgs false
set_option maxRecDepth 100000
namespace Go.Sx.Pn
open Go Go.Sx
def rwT (k d st : Nat) : List Int := match st with
  | 0 => (tb k d).rows.a0
  | 1 => (tb k d).rows.a1
  | 2 => (tb k d).rows.a2
  | _ => (tb k d).rows.a3
theorem k8 {k : Nat} (hk : 1 ≤ k ∧ k ≤ 3) (j : Nat) (hj : 1 ≤ j ∧ j ≤ 3) : (BitVec.ofNat 8 k = BitVec.ofNat 8 j) ↔ k = j := by
  constructor
  · intro h
    have := congrArg BitVec.toNat h
    rw [BitVec.toNat_ofNat, BitVec.toNat_ofNat] at this
    omega
  · intro h; rw [h]
end Go.Sx.Pn

end
section
set_option linter.unusedVariables false
set_option maxRecDepth 100000
namespace Go.Sx.Pn
open Go Go.Sx
theorem alive10 : law10_alive = some true := by kernel_rfl
end Go.Sx.Pn

end
section
set_option linter.unusedVariables false
set_option linter.unusedSimpArgs false
set_option maxRecDepth 100000
namespace Go.Sx.Pn
open Go Go.Sx
/-- the tables, aas lists of lists -/
def tl (k d : Nat) : List (List (List Int)) := (List.range (if k = 1 then 1 else if k = 2 then 2 else 4)).map fun st => (List.range (d + 1)).map fun h => ((rwT k d st).drop (2 ^ h - 1 + h)).take (2 ^ h + 1)
theorem tabs_all : ∀ k ∈ [1, 2, 3], ∀ d ∈ List.range 7, fixN (plan_Tables_L1 (sch k d) (tb k d)) FUEL ([], 0) = some (tl k d, 0) := by decide +kernel
theorem tables_ok {k d : Nat} (hk : 1 ≤ k ∧ k ≤ 3) (hd : d ≤ 6) : plan_Tables (sch k d) = some (tl k d, 0) := by
  obtain ⟨h1, h2⟩ := kd_mem hk hd
  unfold plan_Tables
  rw [check_eq, bind_some, sch_vld hk hd, if_pos rfl, if_neg (by decide), nt hk hd, bind_some]
  exact tabs_all k h1 d h2
theorem tables_no {s : TScheme} (h : vldB s = false) : plan_Tables s = some ([], 30) := by
  unfold plan_Tables
  rw [check_eq, bind_some, h]; rfl
theorem ctab_all : ∀ k ∈ [1, 2, 3], ∀ d ∈ List.range 7, slices_EqualFunc_83f6_plan_CheckTables_1 (tl k d) (tl k d) = some true := by decide +kernel
theorem ctab_self {k d : Nat} (hk : 1 ≤ k ∧ k ≤ 3) (hd : d ≤ 6) : plan_CheckTables (sch k d) (tl k d) = some 0 := by
  obtain ⟨h1, h2⟩ := kd_mem hk hd
  unfold plan_CheckTables
  rw [tables_ok hk hd, bind_some, if_neg (by simp), ctab_all k h1 d h2, bind_some]; rfl
theorem ru_head : ∀ k ∈ [1, 2, 3], ∀ d ∈ List.range 7, ¬ (sch k d).Kind < 1#8 ∧ ¬ 3#8 < (sch k d).Kind ∧ getI ([0, 1, 2, 4] : List Int) (un8 (sch k d).Kind) = some ((tl k d).length : Int) := by decide +kernel
/-- what is asked behind the loops over the tables -/
def ruF (k d : Nat) (q : Int) : Option Bool := Option.bind (plan_Worst (sch k d) q) fun x => (if x.2 ≠ 0 then (bif true then (some (decide (x.2 = 2))) else (some false)) else (fixN (law10_PlanRules_L10 (sch k d) q true ((tl k d).getD 0 []) x) FUEL (1, 1)))
theorem ru_1_0 (q : Int) : law10_PlanRules_J1 (sch 1 0) q true (tl 1 0, 0) false = ruF 1 0 q := by kernel_rfl
theorem ru_1_1 (q : Int) : law10_PlanRules_J1 (sch 1 1) q true (tl 1 1, 0) false = ruF 1 1 q := by kernel_rfl
theorem ru_1_2 (q : Int) : law10_PlanRules_J1 (sch 1 2) q true (tl 1 2, 0) false = ruF 1 2 q := by kernel_rfl
theorem ru_1_3 (q : Int) : law10_PlanRules_J1 (sch 1 3) q true (tl 1 3, 0) false = ruF 1 3 q := by kernel_rfl
theorem ru_1_4 (q : Int) : law10_PlanRules_J1 (sch 1 4) q true (tl 1 4, 0) false = ruF 1 4 q := by kernel_rfl
theorem ru_1_5 (q : Int) : law10_PlanRules_J1 (sch 1 5) q true (tl 1 5, 0) false = ruF 1 5 q := by kernel_rfl
theorem ru_1_6 (q : Int) : law10_PlanRules_J1 (sch 1 6) q true (tl 1 6, 0) false = ruF 1 6 q := by kernel_rfl
theorem ru_2_0 (q : Int) : law10_PlanRules_J1 (sch 2 0) q true (tl 2 0, 0) false = ruF 2 0 q := by kernel_rfl
theorem ru_2_1 (q : Int) : law10_PlanRules_J1 (sch 2 1) q true (tl 2 1, 0) false = ruF 2 1 q := by kernel_rfl
theorem ru_2_2 (q : Int) : law10_PlanRules_J1 (sch 2 2) q true (tl 2 2, 0) false = ruF 2 2 q := by kernel_rfl
theorem ru_2_3 (q : Int) : law10_PlanRules_J1 (sch 2 3) q true (tl 2 3, 0) false = ruF 2 3 q := by kernel_rfl
theorem ru_2_4 (q : Int) : law10_PlanRules_J1 (sch 2 4) q true (tl 2 4, 0) false = ruF 2 4 q := by kernel_rfl
theorem ru_2_5 (q : Int) : law10_PlanRules_J1 (sch 2 5) q true (tl 2 5, 0) false = ruF 2 5 q := by kernel_rfl
theorem ru_2_6 (q : Int) : law10_PlanRules_J1 (sch 2 6) q true (tl 2 6, 0) false = ruF 2 6 q := by kernel_rfl
theorem ru_3_0 (q : Int) : law10_PlanRules_J1 (sch 3 0) q true (tl 3 0, 0) false = ruF 3 0 q := by kernel_rfl
theorem ru_3_1 (q : Int) : law10_PlanRules_J1 (sch 3 1) q true (tl 3 1, 0) false = ruF 3 1 q := by kernel_rfl
theorem ru_3_2 (q : Int) : law10_PlanRules_J1 (sch 3 2) q true (tl 3 2, 0) false = ruF 3 2 q := by kernel_rfl
theorem ru_3_3 (q : Int) : law10_PlanRules_J1 (sch 3 3) q true (tl 3 3, 0) false = ruF 3 3 q := by kernel_rfl
theorem ru_3_4 (q : Int) : law10_PlanRules_J1 (sch 3 4) q true (tl 3 4, 0) false = ruF 3 4 q := by kernel_rfl
theorem ru_3_5 (q : Int) : law10_PlanRules_J1 (sch 3 5) q true (tl 3 5, 0) false = ruF 3 5 q := by kernel_rfl
theorem ru_3_6 (q : Int) : law10_PlanRules_J1 (sch 3 6) q true (tl 3 6, 0) false = ruF 3 6 q := by kernel_rfl
theorem ru {k d : Nat} (hk : 1 ≤ k ∧ k ≤ 3) (hd : d ≤ 6) (q : Int) : law10_PlanRules_J1 (sch k d) q true (tl k d, 0) false = ruF k d q := by
  rcases (show k = 1 ∨ k = 2 ∨ k = 3 by omega) with rfl | rfl | rfl <;> rcases (show d = 0 ∨ d = 1 ∨ d = 2 ∨ d = 3 ∨ d = 4 ∨ d = 5 ∨ d = 6 by omega) with rfl | rfl | rfl | rfl | rfl | rfl | rfl
  · exact ru_1_0 q
  · exact ru_1_1 q
  · exact ru_1_2 q
  · exact ru_1_3 q
  · exact ru_1_4 q
  · exact ru_1_5 q
  · exact ru_1_6 q
  · exact ru_2_0 q
  · exact ru_2_1 q
  · exact ru_2_2 q
  · exact ru_2_3 q
  · exact ru_2_4 q
  · exact ru_2_5 q
  · exact ru_2_6 q
  · exact ru_3_0 q
  · exact ru_3_1 q
  · exact ru_3_2 q
  · exact ru_3_3 q
  · exact ru_3_4 q
  · exact ru_3_5 q
  · exact ru_3_6 q
theorem fin_all : ∀ k ∈ [1, 2, 3], ∀ d ∈ List.range 7, ∀ r ∈ List.range (2 ^ d + 1), fixN (law10_PlanRules_L10 (sch k d) (r : Int) true ((tl k d).getD 0 []) ((wst k d r).1, 0)) FUEL (1, 1) = some true := by decide +kernel
end Go.Sx.Pn
namespace Go.Sx
open Go Go.Sx.Pn
theorem law10_PlanRules_ok (s : TScheme) (q : Int) (hs : s.ok) (hq : I64 q) : law10_PlanRules s q = some true := by
  unfold law10_PlanRules
  rw [alive10, bind_some]
  cases hv : vldB s with
  | false => rw [tables_no hv, bind_some]; rfl
  | true =>
    obtain ⟨k, d, hk, hd, rfl⟩ := vld_sch hv
    obtain ⟨h1, h2⟩ := kd_mem hk hd
    obtain ⟨a1, a2, a3⟩ := ru_head k h1 d h2
    rw [tables_ok hk hd, bind_some, if_neg (by simp), if_neg a1, if_neg a2, if_neg (show ¬ (sch k d).Depth < 0 by show ¬ (d : Int) < 0; omega), if_neg (show ¬ 6 < (sch k d).Depth by show ¬ 6 < (d : Int); omega), a3, bind_some, if_neg (by simp)]
    show Option.bind (plan_CheckTables (sch k d) (tl k d)) _ = _
    rw [ctab_self hk hd, bind_some, decide_eq_false (by simp), ru hk hd]
    unfold ruF
    by_cases hr : q < 0 ∨ ((2 ^ d : Nat) : Int) < q
    · rw [worst_arg hk hd hr, bind_some]; rfl
    · obtain ⟨r, rfl⟩ : ∃ r : Nat, q = (r : Int) := ⟨q.toNat, by omega⟩
      have hr2 : r ≤ 2 ^ d := by omega
      rw [worst_ok hk hd hr2, bind_some, if_neg (by simp)]
      exact fin_all k h1 d h2 r (List.mem_range.2 (by omega))
end Go.Sx

end
