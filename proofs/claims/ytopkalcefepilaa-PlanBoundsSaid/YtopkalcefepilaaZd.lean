/- Several texts in one: GcM GeM GfM GdM BoM OpnBo MirM BitL Srt SrtSub Pl Tr Ts Fx Mb Lb Tm Cv Cx Bd Pt Tk Fy SecN Fd Kn. -/
import Derived.Test.YtopkalcefepilaaZc
import Derived.Test.YtopkalcefepilaaRows
import Derived.KernelRfl
import Derived.Test.YtopkalcefepilaaZb
import Derived.Shelf.SlSortCmp.NoneTotal
import Derived.Shelf.SlGeneric
import Derived.Test.YtopkalcefepilaaProg
set_option linter.unusedVariables false
set_option linter.unusedSimpArgs false
section
set_option linter.unusedVariables false
set_option maxRecDepth 100000
namespace Go.Sx
open Go Go.RowKit
structure TNeed where
  Depth : Int
  Revoked : Int
  Storage : Int
  Headers : Int
  HeaderPrice : Int
  StoragePrice : Int
  Group : TGroup
deriving DecidableEq, Inhabited
def TNeed.cs (x : TNeed)  : List Value := [.int .i64 x.Depth, .int .i64 x.Revoked, .int .i64 x.Storage, .int .i64 x.Headers, .int .i64 x.HeaderPrice, .int .i64 x.StoragePrice, wv x.Group.P, wv x.Group.Q, wv x.Group.G]
theorem TNeed.cs_ones (x : TNeed)   : ones (TNeed.cs x ) = true := by simp only [TNeed.cs, List.cons_append, List.nil_append, kb, ones, one_int, one_bool, one_str, cond_true]
theorem TNeed.cs_inj {x y : TNeed} (h : TNeed.cs x = TNeed.cs y) : x = y := by
  have h0 : x.Depth = y.Depth := ci_inj (congrArg (fun l => l[0]?) h)
  have h1 : x.Revoked = y.Revoked := ci_inj (congrArg (fun l => l[1]?) h)
  have h2 : x.Storage = y.Storage := ci_inj (congrArg (fun l => l[2]?) h)
  have h3 : x.Headers = y.Headers := ci_inj (congrArg (fun l => l[3]?) h)
  have h4 : x.HeaderPrice = y.HeaderPrice := ci_inj (congrArg (fun l => l[4]?) h)
  have h5 : x.StoragePrice = y.StoragePrice := ci_inj (congrArg (fun l => l[5]?) h)
  have h6 : x.Group = y.Group := TGroup.cs_inj (congrArg (fun l => (l.drop 6).take 3) h)
  cases x; cases y; simp only at *; subst h0; subst h1; subst h2; subst h3; subst h4; subst h5; subst h6; rfl
theorem TNeed.ws (l : List TNeed) : Ws 9 (l.map TNeed.cs) := ws_map l (fun _ => rfl) (fun _ => rfl)
structure TChoice where
  Kind : BitVec 8
  Fits : Bool
  Items : Int
  Points : Int
  Header : Int
  Storage : Int
  Cost : Int
  Witness : List Int
deriving DecidableEq, Inhabited
def TChoice.cs (x : TChoice) (v0 : Value) : List Value := [bv x.Kind, .bool x.Fits, .int .i64 x.Items, .int .i64 x.Points, .int .i64 x.Header, .int .i64 x.Storage, .int .i64 x.Cost, v0]
theorem TChoice.cs_ones (x : TChoice) (v0 : Value) (h0 : oneB v0 = true) : ones (TChoice.cs x v0) = true := by simp only [TChoice.cs, List.cons_append, List.nil_append, kb, ones, one_int, one_bool, one_str, cond_true, h0]
structure TPlan where
  Choices : List TChoice
  Best : BitVec 8
deriving DecidableEq, Inhabited
def TPlan.cs (x : TPlan) (v0 : Value) : List Value := [v0, bv x.Best]
theorem TPlan.cs_ones (x : TPlan) (v0 : Value) (h0 : oneB v0 = true) : ones (TPlan.cs x v0) = true := by simp only [TPlan.cs, List.cons_append, List.nil_append, kb, ones, one_int, one_bool, one_str, cond_true, h0]
/-- headend/plan.within$1 -/
def plan_within_1 (p0 : Int) (p1 : Int) : Option (Bool) := (if p0 < 0 then (some true) else (some (decide (p1 < p0))))
def slices_IndexFunc_7bbb_plan_within_1_L1 (p0 : List Int) (p1_0 : Int) (rec1 : (Int) → Option (Int)) (a2 : Int) : Option (Int) := (if a2 < (p0.length : Int) then Option.bind (getI p0 a2) fun y3 => (Option.bind (plan_within_1 y3 p1_0) fun x4 => ((bif x4 then (some a2) else (rec1 (w64 (a2 + 1)))))) else (some (-1)))
/-- slices.IndexFunc[[]int,int] -/
def slices_IndexFunc_7bbb_plan_within_1 (p0 : List Int) (p1_0 : Int) : Option (Int) := (fixN (slices_IndexFunc_7bbb_plan_within_1_L1 p0 p1_0) FUEL 0)
/-- slices.ContainsFunc[[]int,int] -/
def slices_ContainsFunc_5954_plan_within_1 (p0 : List Int) (p1_0 : Int) : Option (Bool) := Option.bind (slices_IndexFunc_7bbb_plan_within_1 p0 p1_0) fun x1 => ((some (decide ((0 : Int) ≤ x1))))
/-- headend/plan.within -/
def plan_within (p0 : Int) (p1 : List Int) : Option (Bool) := Option.bind (slices_ContainsFunc_5954_plan_within_1 p1 p0) fun x1 => ((some (!x1)))
def plan_CheckNeed_J1 (a1 : Bool) : Option (Int) := (bif a1 then (some 2) else (some 0))
/-- headend/plan.CheckNeed -/
def plan_CheckNeed (p0 : TNeed) : Option (Int) := Option.bind (plan_within 6 [p0.Depth]) fun x2 => ((bif (!x2) then (plan_CheckNeed_J1 true) else Option.bind (shG p0.Depth) fun nn3 => (Option.bind (plan_within (shlI 1 nn3) [p0.Revoked]) fun x4 => ((bif (!x4) then (plan_CheckNeed_J1 true) else Option.bind (plan_within 10000 [p0.Storage]) fun x5 => ((bif (!x5) then (plan_CheckNeed_J1 true) else Option.bind (plan_within 1000 [p0.Headers, p0.HeaderPrice, p0.StoragePrice]) fun x6 => ((plan_CheckNeed_J1 (!x6))))))))))
def number_prime_L2 (p0 : BitVec 64) (rec2 : (BitVec 64) → Option (Bool)) (a3 : BitVec 64) : Option (Bool) := (if a3 * a3 ≤ p0 then Option.bind (remU p0 a3) fun x4 => ((if x4 = 0#64 then (some false) else (rec2 (a3 + 1#64)))) else (some true))
def number_prime_J1 (p0 : BitVec 64) (a1 : Bool) : Option (Bool) := (bif a1 then (some false) else (fixN (number_prime_L2 p0) FUEL 2#64))
/-- headend/number.prime -/
def number_prime (p0 : BitVec 64) : Option (Bool) := (if p0 < 2#64 then (number_prime_J1 p0 true) else (number_prime_J1 p0 (decide (1048575#64 < p0))))
def number_power_L1 (p2 : BitVec 64) (rec1 : (BitVec 64 × BitVec 64 × BitVec 64) → Option (BitVec 64)) (s1 : BitVec 64 × BitVec 64 × BitVec 64) : Option (BitVec 64) := match s1 with | (a6, a7, a8) => (if 0#64 < a7 then (if a7 &&& 1#64 = 1#64 then Option.bind (remU (a8 * a6) p2) fun x9 => (Option.bind (remU (a6 * a6) p2) fun x10 => (Option.bind (shG (un 1#64)) fun nn11 => ((rec1 (x10, a7 >>> nn11, x9))))) else Option.bind (remU (a6 * a6) p2) fun x12 => (Option.bind (shG (un 1#64)) fun nn13 => ((rec1 (x12, a7 >>> nn13, a8))))) else (some a8))
/-- headend/number.power -/
def number_power (p0 : BitVec 64) (p1 : BitVec 64) (p2 : BitVec 64) : Option (BitVec 64) := Option.bind (remU 1#64 p2) fun x1 => (Option.bind (remU p0 p2) fun x2 => ((fixN (number_power_L1 p2) FUEL (x2, p1, x1))))
def number_CheckGroup_J1 (a1 : Bool) : Option (Int) := (bif a1 then (some 13) else (some 0))
/-- headend/number.CheckGroup -/
def number_CheckGroup (p0 : TGroup) : Option (Int) := Option.bind (number_prime p0.P) fun x2 => ((bif (!x2) then (number_CheckGroup_J1 true) else Option.bind (number_prime p0.Q) fun x3 => ((bif (!x3) then (number_CheckGroup_J1 true) else Option.bind (remU (p0.P - 1#64) p0.Q) fun x4 => ((if x4 ≠ 0#64 then (number_CheckGroup_J1 true) else (if p0.G < 2#64 then (number_CheckGroup_J1 true) else (if p0.P ≤ p0.G then (number_CheckGroup_J1 true) else Option.bind (number_power p0.G p0.Q p0.P) fun x5 => ((number_CheckGroup_J1 (decide (x5 ≠ 1#64))))))))))))
/-- headend/poly.valid -/
def poly_valid (p0 : TScheme) : Option (Bool) := (if p0.Kind = 4#8 then (if (0 : Int) ≤ p0.Depth then (if p0.Depth ≤ 6 then (if (1 : Int) ≤ p0.Degree then (if p0.Degree ≤ 8 then Option.bind (number_CheckGroup p0.Group) fun x1 => ((if x1 = 0 then Option.bind (shG p0.Depth) fun nn2 => ((some (decide (wd (w64 ((shlI 1 nn2) + p0.Degree)) < p0.Group.Q)))) else (some false))) else (some false)) else (some false)) else (some false)) else (some false)) else (some false))
/-- headend/poly.Check -/
def poly_Check (p0 : TScheme) : Option (Int) := Option.bind (poly_valid p0) fun x1 => ((bif (!x1) then (some 30) else (some 0)))
/-- (headend/cover.tree).size -/
def cover_tree_size (p0 : Tcover_tree) : Option (Int) := Option.bind (shG p0.depth) fun nn1 => ((some (shlI 1 nn1)))
/-- (headend/cover.tree).has -/
def cover_tree_has (p0 : Tcover_tree) (p1 : Int) : Option (Bool) := (if (1 : Int) ≤ p1 then Option.bind (cover_tree_size p0) fun x1 => ((some (decide (p1 < w64 (2 * x1))))) else (some false))
/-- (headend/cover.node).level -/
def cover_node_level (p0 : Int) : Option (Int) := (some (w64 ((lg (un (wd p0))) - 1)))
def cover_node_below_J1 (p0 : Int) (p1 : Int) (a1 : Bool) : Option (Bool) := (bif a1 then (some false) else Option.bind (cover_node_level p0) fun x2 => (Option.bind (cover_node_level p1) fun x3 => (Option.bind (shG (w64 (x2 - x3))) fun nn4 => ((some (decide (shrI p0 nn4 = p1)))))))
/-- (headend/cover.node).below -/
def cover_node_below (p0 : Int) (p1 : Int) : Option (Bool) := (if p0 < 1 then (cover_node_below_J1 p0 p1 true) else (if p1 < 1 then (cover_node_below_J1 p0 p1 true) else Option.bind (cover_node_level p0) fun x5 => (Option.bind (cover_node_level p1) fun x6 => ((cover_node_below_J1 p0 p1 (decide (x5 < x6)))))))
/-- (headend/cover.tree).special -/
def cover_tree_special (p0 : Tcover_tree) (p1 : Int) : Option (Bool) := Option.bind (cover_node_level p1) fun x1 => (Option.bind (remI x1 p0.stride) fun x2 => ((some (decide (x2 = 0)))))
/-- headend/cover.path -/
def cover_path (p0 : Int) (p1 : Int) : Option (Int × Int) := (some (p0, p1))
/-- (headend/cover.node).toward -/
def cover_node_toward (p0 : Int) (p1 : Int) : Option (Int) := Option.bind (cover_node_level p1) fun x1 => (Option.bind (cover_node_level p0) fun x2 => (Option.bind (shG (w64 ((w64 (x1 - x2)) - 1))) fun nn3 => ((some (shrI p1 nn3)))))
def cover_path_1_L1 (p2 : Int) (rec1 : (Int) → Option (List Int)) (a2 : Int) : Option (List Int) := (if a2 ≠ p2 then Option.bind (cover_node_toward a2 p2) fun x3 => ((yl x3 ((rec1 x3)))) else (some []))
/-- headend/cover.path$1: what it yields -/
def cover_path_1 (p1 : Int) (p2 : Int) : Option (List Int) := (fixN (cover_path_1_L1 p2) FUEL p1)
def cover_first_cover_path_1_cover_tree_special_D1  (s : Int) : Option (Int) := match s with | a3 => (some 0)
def cover_first_cover_path_1_cover_tree_special_X1_0  (s : Int) : Option (Int) := match s with | a3 => (some a3)
def cover_first_cover_path_1_cover_tree_special_R1 (p1_0 : Tcover_tree) (e4 : Int) (nx1 : (Int) → Option (Int)) (s : Int) : Option (Int) := match s with | a3 => Option.bind (cover_tree_special p1_0 e4) fun x5 => ((bif x5 then (cover_first_cover_path_1_cover_tree_special_X1_0 e4) else (nx1 a3)))
/-- headend/cover.first -/
def cover_first_cover_path_1_cover_tree_special (p0_0 : Int) (p0_1 : Int) (p1_0 : Tcover_tree) : Option (Int) := Option.bind (cover_path_1 p0_0 p0_1) fun l1 => ((itL (cover_first_cover_path_1_cover_tree_special_R1 p1_0) cover_first_cover_path_1_cover_tree_special_D1 l1 0))
/-- (headend/cover.tree).cut -/
def cover_tree_cut (p0 : Tcover_tree) (p1 : Int) (p2 : Int) : Option (Int) := Option.bind (shG (un 1#64)) fun nn1 => (Option.bind (cover_path p1 (shrI p2 nn1)) fun x2 => (Option.bind (cover_first_cover_path_1_cover_tree_special x2.1 x2.2 p0) fun x3 => ((some x3))))
def cover_tree_subset_J2 (p0 : Tcover_tree) (p1 : TSubset) (a3 : Bool) : Option (Bool) := (bif a3 then (some false) else (if p0.kind = 2#8 then (some true) else Option.bind (cover_tree_special p0 p1.Node) fun x4 => ((bif x4 then (some true) else Option.bind (cover_tree_cut p0 p1.Node p1.Minus) fun x5 => ((some (decide (x5 = 0))))))))
def cover_tree_subset_J1 (p0 : Tcover_tree) (p1 : TSubset) (a2 : Bool) : Option (Bool) := (bif a2 then (if p1.Minus = 0 then (if p0.kind = 1#8 then (some true) else (some (decide (p1.Node = 1)))) else (some false)) else Option.bind (cover_tree_has p0 p1.Minus) fun x6 => ((bif (!x6) then (cover_tree_subset_J2 p0 p1 true) else (if p1.Minus = p1.Node then (cover_tree_subset_J2 p0 p1 true) else Option.bind (cover_node_below p1.Minus p1.Node) fun x7 => ((cover_tree_subset_J2 p0 p1 (!x7)))))))
/-- (headend/cover.tree).subset -/
def cover_tree_subset (p0 : Tcover_tree) (p1 : TSubset) : Option (Bool) := Option.bind (cover_tree_has p0 p1.Node) fun x1 => ((bif (!x1) then (some false) else (if p0.kind = 1#8 then (cover_tree_subset_J1 p0 p1 true) else (cover_tree_subset_J1 p0 p1 (decide (p1.Minus = 0))))))
def cover_enter_L1 (p1 : List TSubset) (x1 : Tcover_tree × Bool) (rec1 : (Int) → Option (Tcover_tree × Int)) (a3 : Int) : Option (Tcover_tree × Int) := (if a3 < (p1.length : Int) then Option.bind (getI p1 a3) fun y4 => (Option.bind (cover_tree_subset x1.1 y4) fun x5 => ((bif (!x5) then (some ((Tcover_tree.mk 0#8 0 0), 31)) else (rec1 (w64 (a3 + 1)))))) else (some (x1.1, 0)))
/-- headend/cover.enter -/
def cover_enter (p0 : TScheme) (p1 : List TSubset) : Option (Tcover_tree × Int) := Option.bind (cover_treeOf p0) fun x1 => ((bif (!x1.2) then (some ((Tcover_tree.mk 0#8 0 0), 30)) else (fixN (cover_enter_L1 p1 x1) FUEL 0)))
/-- (headend/cover.tree).labels -/
def cover_tree_labels (p0 : Tcover_tree) (p1 : Int) : Option (Tcover_tree × Int) := (some (p0, p1))
/-- (headend/cover.tree).leaf -/
def cover_tree_leaf (p0 : Tcover_tree) (p1 : Int) : Option (Int) := Option.bind (cover_tree_size p0) fun x1 => ((some (w64 (x1 + p1))))
/-- (headend/cover.node).sibling -/
def cover_node_sibling (p0 : Int) : Option (Int) := (some (bitI .xor p0 1))
def cover_tree_labels_1_D2 (x1 : Int) (a2 : Int) (rec1 : (Int) → Option (List (Int × Int))) (s : Unit) : Option (List (Int × Int)) := Option.bind (cover_node_toward a2 x1) fun x10 => ((rec1 x10))
def cover_tree_labels_1_R2 (p1 : Tcover_tree) (a2 : Int) (e7 : Int) (nx2 : Unit → Option (List (Int × Int))) (s : Unit) : Option (List (Int × Int)) := Option.bind (cover_node_sibling e7) fun x8 => (Option.bind (cover_tree_subset p1 (TSubset.mk a2 x8)) fun x9 => ((bif x9 then (yl (a2, x8) ((nx2 ()))) else (nx2 ()))))
def cover_tree_labels_1_L1 (p1 : Tcover_tree) (x1 : Int) (rec1 : (Int) → Option (List (Int × Int))) (a2 : Int) : Option (List (Int × Int)) := (if a2 ≠ x1 then (if p1.kind = 1#8 then Option.bind (cover_node_toward a2 x1) fun x3 => ((yl (x3, 0) (Option.bind (cover_node_toward a2 x1) fun x4 => ((rec1 x4))))) else Option.bind (cover_path a2 x1) fun x5 => (Option.bind (cover_path_1 x5.1 x5.2) fun l6 => ((itL (cover_tree_labels_1_R2 p1 a2) (cover_tree_labels_1_D2 x1 a2 rec1) l6 ())))) else (some []))
/-- (headend/cover.tree).labels$1: what it yields -/
def cover_tree_labels_1 (p1 : Tcover_tree) (p2 : Int) : Option (List (Int × Int)) := Option.bind (cover_tree_leaf p1 p2) fun x1 => ((yl (1, 0) ((fixN (cover_tree_labels_1_L1 p1 x1) FUEL 1))))
def cover_Storage_D1  (s : Int) : Option (Int × Int) := match s with | a5 => (some (a5, 0))
def cover_Storage_R1  (ee : Int × Int) (nx1 : (Int) → Option (Int × Int)) (s : Int) : Option (Int × Int) := match ee with | (e6, e7) => match s with | a5 => (nx1 (w64 (a5 + 1)))
/-- headend/cover.Storage -/
def cover_Storage (p0 : TScheme) : Option (Int × Int) := Option.bind (cover_enter p0 ([] : List TSubset)) fun x1 => ((if x1.2 ≠ 0 then (some (0, x1.2)) else Option.bind (cover_tree_labels x1.1 0) fun x2 => (Option.bind (cover_tree_labels_1 x2.1 x2.2) fun l3 => ((itL cover_Storage_R1 cover_Storage_D1 l3 0)))))
def plan_Choose_J1 (p0 : TNeed) (p1 : BitVec 8) (a2 : Int) (a3 : Int) (a4 : Int) (a5 : List Int) : Option (TChoice × Int) := Option.bind (shG p0.Depth) fun nn7 => ((some ((TChoice.mk p1 (decide (a4 ≤ p0.Storage)) a2 a3 (w64 ((w64 (67 + (w64 (18 * a2)))) + (w64 (16 * a3)))) a4 (w64 ((w64 ((w64 (p0.Headers * p0.HeaderPrice)) * (w64 ((w64 (67 + (w64 (18 * a2)))) + (w64 (16 * a3)))))) + (shlI (w64 (p0.StoragePrice * a4)) nn7))) a5), 0)))
def plan_Choose_J2 (p0 : TNeed) (p1 : BitVec 8) (a8 : Bool) : Option (TChoice × Int) := (bif a8 then (some ((TChoice.mk 0#8 false 0 0 0 0 0 []), 2)) else (if p1 = 4#8 then Option.bind (poly_Check (TScheme.mk p1 p0.Depth (mxI p0.Revoked 1) p0.Group)) fun x9 => ((if x9 ≠ 0 then (some ((TChoice.mk p1 false 0 0 0 0 0 []), 0)) else (plan_Choose_J1 p0 p1 0 (mxI p0.Revoked 1) 8 []))) else Option.bind (plan_newTables (TScheme.mk p1 p0.Depth 0 (TGroup.mk 0#64 0#64 0#64))) fun x10 => (Option.bind (cover_Storage (TScheme.mk p1 p0.Depth 0 (TGroup.mk 0#64 0#64 0#64))) fun x11 => (Option.bind (plan_tables_worst x10 p0.Revoked) fun x12 => (Option.bind (plan_tables_list x10 ([] : List Int) 1 0 p0.Depth x12.2) fun x13 => ((plan_Choose_J1 p0 p1 x12.1 0 (w64 (16 * x11.1)) x13)))))))
/-- headend/plan.Choose -/
def plan_Choose (p0 : TNeed) (p1 : BitVec 8) : Option (TChoice × Int) := Option.bind (plan_CheckNeed p0) fun x1 => ((if x1 ≠ 0 then (some ((TChoice.mk 0#8 false 0 0 0 0 0 []), x1)) else (if p1 < 1#8 then (plan_Choose_J2 p0 p1 true) else (plan_Choose_J2 p0 p1 (decide (4#8 < p1))))))
def plan_Make_J2 (a5 : BitVec 8) (a7 : BitVec 8) (rec1 : (BitVec 8 × List TChoice × BitVec 8) → Option (TPlan × Int)) (l10 : List TChoice) (a11 : Bool) : Option (TPlan × Int) := (bif a11 then (rec1 (a5 + 1#8, l10, a5)) else (rec1 (a5 + 1#8, l10, a7)))
def plan_Make_L1 (p0 : TNeed) (rec1 : (BitVec 8 × List TChoice × BitVec 8) → Option (TPlan × Int)) (s1 : BitVec 8 × List TChoice × BitVec 8) : Option (TPlan × Int) := match s1 with | (a5, a6, a7) => (if a5 ≤ 4#8 then Option.bind (plan_Choose p0 a5) fun x9 => ((if x9.2 ≠ 0 then (some ((TPlan.mk [] 0#8), x9.2)) else Option.bind (appG 72 a6 [x9.1]) fun l10 => ((bif x9.1.Fits then (if a7 = 0#8 then (plan_Make_J2 a5 a7 rec1 l10 true) else Option.bind (getI l10 (un8 (a7 - 1#8))) fun y12 => ((plan_Make_J2 a5 a7 rec1 l10 (decide (x9.1.Cost < y12.Cost))))) else (plan_Make_J2 a5 a7 rec1 l10 false))))) else (some ((TPlan.mk a6 a7), 0)))
/-- headend/plan.Make -/
def plan_Make (p0 : TNeed) : Option (TPlan × Int) := (fixN (plan_Make_L1 p0) FUEL (1#8, [], 0#8))
end Go.Sx

end
section
set_option linter.unusedVariables false
set_option maxRecDepth 100000
namespace Go.Sx
open Go Go.RowKit
def ref03_SameInts_L1 (p0 : List Int) (p1 : List Int) (rec1 : (Int) → Option (Bool)) (a2 : Int) : Option (Bool) := (if a2 < (p0.length : Int) then Option.bind (getI p0 a2) fun y3 => (Option.bind (getI p1 a2) fun y4 => ((if y3 ≠ y4 then (some false) else (rec1 (w64 (a2 + 1)))))) else (some true))
/-- headend/headendref03.SameInts -/
def ref03_SameInts (p0 : List Int) (p1 : List Int) : Option (Bool) := (if (p0.length : Int) ≠ (p1.length : Int) then (some false) else (fixN (ref03_SameInts_L1 p0 p1) FUEL 0))
/-- headend/headendref10.SameNumbers -/
def ref10_SameNumbers (p0 : TChoice) (p1 : TChoice) : Option (Bool) := (if p0.Kind = p1.Kind then (bif (p0.Fits == p1.Fits) then (if p0.Items = p1.Items then (if p0.Points = p1.Points then (if p0.Header = p1.Header then (if p0.Storage = p1.Storage then (some (decide (p0.Cost = p1.Cost))) else (some false)) else (some false)) else (some false)) else (some false)) else (some false)) else (some false))
/-- headend/headendref10.SameChoice -/
def ref10_SameChoice (p0 : TChoice) (p1 : TChoice) : Option (Bool) := Option.bind (ref10_SameNumbers p0 p1) fun x1 => ((bif x1 then Option.bind (ref03_SameInts p0.Witness p1.Witness) fun x2 => ((some x2)) else (some false)))
end Go.Sx

end
section
set_option linter.unusedVariables false
set_option maxRecDepth 100000
namespace Go.Sx
open Go Go.RowKit
/-- headend/headendlaw10.tree -/
def law10_tree (p0 : BitVec 8) (p1 : Int) : Option (TScheme) := (some (TScheme.mk p0 p1 0 (TGroup.mk 0#64 0#64 0#64)))
/-- headend/headendlaw10.small -/
def law10_small  : Option (TNeed) := (some (TNeed.mk 2 1 48 10 1 2 (TGroup.mk 0#64 0#64 0#64)))
def law10_worsts_J2 (a2 : Int) (rec1 : (Int) → Option (Bool)) (a4 : Bool) : Option (Bool) := (bif a4 then (some false) else (rec1 (w64 (a2 + 1))))
def law10_worsts_L1 (p0 : TScheme) (p1 : List Int) (rec1 : (Int) → Option (Bool)) (a2 : Int) : Option (Bool) := (if a2 < (p1.length : Int) then Option.bind (plan_Worst p0 a2) fun x3 => ((if x3.2 ≠ 0 then (law10_worsts_J2 a2 rec1 true) else Option.bind (getI p1 a2) fun y5 => ((law10_worsts_J2 a2 rec1 (decide (x3.1 ≠ y5)))))) else (some true))
/-- headend/headendlaw10.worsts -/
def law10_worsts (p0 : TScheme) (p1 : List Int) : Option (Bool) := (fixN (law10_worsts_L1 p0 p1) FUEL 0)
def law10_alive_J1 (x6 : TChoice × Int) (x8 : TPlan × Int) (a9 : Bool) : Option (Bool) := (bif a9 then (some false) else Option.bind (law10_tree 1#8 2) fun x10 => (Option.bind (law10_worsts x10 [1, 2, 2, 2, 2]) fun x11 => ((bif x11 then Option.bind (law10_tree 2#8 2) fun x12 => (Option.bind (law10_worsts x12 [1, 1, 2, 2, 2]) fun x13 => ((bif x13 then Option.bind (ref10_SameChoice x6.1 (TChoice.mk 1#8 true 2 0 103 48 1414 [3])) fun x14 => ((bif x14 then (if x8.1.Best = 1#8 then (some (decide ((x8.1.Choices.length : Int) = 4))) else (some false)) else (some false))) else (some false)))) else (some false)))))
/-- headend/headendlaw10.alive -/
def law10_alive  : Option (Bool) := Option.bind (law10_tree 1#8 2) fun x1 => (Option.bind (plan_Witness x1 2) fun x2 => (Option.bind (law10_tree 2#8 2) fun x3 => (Option.bind (plan_Witness x3 2) fun x4 => (Option.bind (law10_small) fun x5 => (Option.bind (plan_Choose x5 1#8) fun x6 => (Option.bind (law10_small) fun x7 => (Option.bind (plan_Make x7) fun x8 => ((if x2.2 ≠ 0 then (law10_alive_J1 x6 x8 true) else (if x4.2 ≠ 0 then (law10_alive_J1 x6 x8 true) else (if x6.2 ≠ 0 then (law10_alive_J1 x6 x8 true) else (if x8.2 ≠ 0 then (law10_alive_J1 x6 x8 true) else Option.bind (ref03_SameInts x2.1 [3]) fun x15 => ((bif (!x15) then (law10_alive_J1 x6 x8 true) else Option.bind (ref03_SameInts x4.1 [1, 3]) fun x16 => ((law10_alive_J1 x6 x8 (!x16)))))))))))))))))
end Go.Sx

end
section
set_option linter.unusedVariables false
set_option maxRecDepth 100000
namespace Go.Sx
open Go Go.RowKit
noncomputable section
/-- (headend/cover.tree).receiver -/
def cover_tree_receiver (p0 : Tcover_tree) (p1 : Int) : Option (Bool) := (if (0 : Int) ≤ p1 then Option.bind (cover_tree_size p0) fun x1 => ((some (decide (p1 < x1)))) else (some false))
def cover_tree_list_J2 (a2 : Int) (rec1 : (Int) → Option (Bool)) (a4 : Bool) : Option (Bool) := (bif a4 then (some false) else (rec1 (w64 (a2 + 1))))
def cover_tree_list_L1 (p0 : Tcover_tree) (p1 : List Int) (rec1 : (Int) → Option (Bool)) (a2 : Int) : Option (Bool) := (if a2 < (p1.length : Int) then Option.bind (getI p1 a2) fun y3 => (Option.bind (cover_tree_receiver p0 y3) fun x5 => ((bif (!x5) then (cover_tree_list_J2 a2 rec1 true) else (if (0 : Int) < a2 then Option.bind (getI p1 (w64 (a2 - 1))) fun y6 => ((cover_tree_list_J2 a2 rec1 (decide (y3 ≤ y6)))) else (cover_tree_list_J2 a2 rec1 false))))) else (some true))
/-- (headend/cover.tree).list -/
def cover_tree_list (p0 : Tcover_tree) (p1 : List Int) : Option (Bool) := (fixN (cover_tree_list_L1 p0 p1) FUEL 0)
/-- headend/cover.Cover$1 -/
def cover_Cover_1 (p0 : Int) (p1 : Int) (p2 : List TSubset) : Option (List TSubset) := Option.bind (appG 16 p2 [(TSubset.mk p0 p1)]) fun l1 => ((some l1))
def cover_Cover_L2 (a5 : Int) (rec1 : (Int × List Int) → Option (List TSubset × Int)) (rec2 : (Int × List Int) → Option (List TSubset × Int)) (s2 : Int × List Int) : Option (List TSubset × Int) := match s2 with | (a11, a12) => (if (0 : Int) < a11 then Option.bind (shG (un 1#64)) fun nn13 => ((rec2 (shrI a11 nn13, insS a12 a11))) else (rec1 (w64 (a5 + 1), a12)))
def cover_Cover_J4 (a16 : List TSubset) (nx3 : (List TSubset) → Option (List TSubset × Int)) (k18 : Int) (a20 : Bool) : Option (List TSubset × Int) := (bif a20 then Option.bind (cover_node_sibling k18) fun x21 => (Option.bind (cover_Cover_1 x21 0 a16) fun x22 => ((nx3 x22))) else (nx3 a16))
def cover_Cover_J7 (nx3 : (List TSubset) → Option (List TSubset × Int)) (a26 : Int) (a27 : Int) (a28 : List TSubset) : Option (List TSubset × Int) := Option.bind (cover_Cover_1 a27 a26 a28) fun x30 => ((nx3 x30))
def cover_Cover_J8 (a16 : List TSubset) (nx3 : (List TSubset) → Option (List TSubset × Int)) (k18 : Int) (a26 : Int) (x31 : Int) (a32 : Bool) : Option (List TSubset × Int) := (bif a32 then Option.bind (cover_Cover_1 k18 x31 a16) fun x33 => ((cover_Cover_J7 nx3 a26 x31 x33)) else (cover_Cover_J7 nx3 a26 k18 a16))
def cover_Cover_L6 (x1 : Tcover_tree × Int) (a6 : List Int) (a16 : List TSubset) (nx3 : (List TSubset) → Option (List TSubset × Int)) (k18 : Int) (rec6 : (Int) → Option (List TSubset × Int)) (a26 : Int) : Option (List TSubset × Int) := (bif ((decide ((w64 (2 * a26)) ∈ a6)) != (decide ((w64 ((w64 (2 * a26)) + 1)) ∈ a6))) then (if ¬ ((w64 (a26 * 2)) ∈ a6) then (rec6 (w64 ((w64 (a26 * 2)) + 1))) else (rec6 (w64 (a26 * 2)))) else (if a26 = k18 then (nx3 a16) else Option.bind (cover_tree_cut x1.1 k18 a26) fun x31 => ((if x31 ≠ 0 then (if x1.1.kind = 3#8 then Option.bind (cover_tree_special x1.1 k18) fun x34 => ((cover_Cover_J8 a16 nx3 k18 a26 x31 (!x34))) else (cover_Cover_J8 a16 nx3 k18 a26 x31 false)) else (cover_Cover_J8 a16 nx3 k18 a26 x31 false)))))
def cover_Cover_J5 (x1 : Tcover_tree × Int) (a6 : List Int) (a16 : List TSubset) (nx3 : (List TSubset) → Option (List TSubset × Int)) (k18 : Int) (a24 : Bool) : Option (List TSubset × Int) := (bif a24 then (nx3 a16) else (fixN (cover_Cover_L6 x1 a6 a16 nx3 k18) FUEL k18))
def cover_Cover_E3  (a16 : List TSubset) : Option (List TSubset × Int) := Option.bind (srtBy TSubset.Node a16) fun l19 => ((some (l19, 0)))
def cover_Cover_S3 (x1 : Tcover_tree × Int) (a6 : List Int) (k18 : Int) (nx3 : (List TSubset) → Option (List TSubset × Int)) (a16 : List TSubset) : Option (List TSubset × Int) := (if x1.1.kind = 1#8 then (if (1 : Int) < k18 then Option.bind (cover_node_sibling k18) fun x23 => ((cover_Cover_J4 a16 nx3 k18 (decide (¬ (x23 ∈ a6))))) else (cover_Cover_J4 a16 nx3 k18 false)) else (if (1 : Int) < k18 then Option.bind (cover_node_sibling k18) fun x35 => ((cover_Cover_J5 x1 a6 a16 nx3 k18 (decide (¬ (x35 ∈ a6))))) else (cover_Cover_J5 x1 a6 a16 nx3 k18 false)))
def cover_Cover_L1 (p1 : List Int) (x1 : Tcover_tree × Int) (rec1 : (Int × List Int) → Option (List TSubset × Int)) (s1 : Int × List Int) : Option (List TSubset × Int) := match s1 with | (a5, a6) => (if a5 < (p1.length : Int) then Option.bind (getI p1 a5) fun y7 => (Option.bind (cover_tree_leaf x1.1 y7) fun x8 => ((fixN (cover_Cover_L2 a5 rec1) FUEL (x8, a6)))) else (rngM (cover_Cover_S3 x1 a6) cover_Cover_E3 FUEL a6 []))
/-- headend/cover.Cover -/
def cover_Cover (p0 : TScheme) (p1 : List Int) : Option (List TSubset × Int) := Option.bind (cover_enter p0 ([] : List TSubset)) fun x1 => ((if x1.2 ≠ 0 then (some ([], x1.2)) else Option.bind (cover_tree_list x1.1 p1) fun x2 => ((bif (!x2) then (some ([], 2)) else (if (p1.length : Int) = 0 then (some ([(TSubset.mk 1 0)], 0)) else (fixN (cover_Cover_L1 p1 x1) FUEL (0, [])))))))
end
end Go.Sx

end
section
set_option linter.unusedVariables false
set_option maxRecDepth 100000
namespace Go.Sx
open Go Go.RowKit
noncomputable section
def law10_PlanBounds_J2 (x1 : Bool) (x3 : List TSubset × Int) (x4 : Int × Int) (a5 : Bool) : Option (Bool) := (bif a5 then (some x1) else (bif x1 then (if (x3.1.length : Int) ≤ x4.1 then (some (decide ((1 : Int) ≤ x4.1))) else (some false)) else (some false)))
def law10_PlanBounds_J1 (p0 : TScheme) (p1 : List Int) (p2 : Int) (x1 : Bool) (a2 : Bool) : Option (Bool) := (bif a2 then (some x1) else Option.bind (cover_Cover p0 p1) fun x3 => (Option.bind (plan_Worst p0 p2) fun x4 => ((if x3.2 ≠ 0 then (law10_PlanBounds_J2 x1 x3 x4 true) else (law10_PlanBounds_J2 x1 x3 x4 (decide (x4.2 ≠ 0)))))))
/-- headend/headendlaw10.PlanBounds -/
def law10_PlanBounds (p0 : TScheme) (p1 : List Int) (p2 : Int) : Option (Bool) := Option.bind (law10_alive) fun x1 => ((if (100 : Int) < (p1.length : Int) then (law10_PlanBounds_J1 p0 p1 p2 x1 true) else (if p2 < (p1.length : Int) then (law10_PlanBounds_J1 p0 p1 p2 x1 true) else (law10_PlanBounds_J1 p0 p1 p2 x1 (!x1)))))
end
end Go.Sx

end
section
set_option linter.unusedVariables false
set_option linter.unusedSimpArgs false
set_option maxRecDepth 100000
namespace Go.Sx
open Go Go.RowKit Go.Proofs
theorem op_TGroup {H : Type} {enc : TypeId × Value → H} {W : World} {fuel : Nat} {cs : List Value} {x : DataW H × List MemPlace} (h : Tr enc Try.prog W fuel 24 cs x) : ∃ (m : TGroup), cs = TGroup.cs m := by
  obtain ⟨xs, n, rfl, rfl, hl, hx, hf⟩ := DataW.trod_struct Try.underlying24 h
  replace hl : cs.length = 3 := hl.trans (by kernel_rfl)
  replace hx : xs.length = 3 := hx
  obtain ⟨y0, e0⟩ := some_at (i := 0) hx rfl
  have h0 : Tr enc Try.prog W n 22 ((cs.drop 0).take 1) y0 := fld hf (i := 0) rfl rfl rfl (by kernel_rfl) e0
  obtain ⟨m0, c0⟩ := op_u64 Try.underlying22 h0
  obtain ⟨y1, e1⟩ := some_at (i := 1) hx rfl
  have h1 : Tr enc Try.prog W n 22 ((cs.drop 1).take 1) y1 := fld hf (i := 1) rfl rfl rfl (by kernel_rfl) e1
  obtain ⟨m1, c1⟩ := op_u64 Try.underlying22 h1
  obtain ⟨y2, e2⟩ := some_at (i := 2) hx rfl
  have h2 : Tr enc Try.prog W n 22 ((cs.drop 2).take 1) y2 := fld hf (i := 2) rfl rfl rfl (by kernel_rfl) e2
  obtain ⟨m2, c2⟩ := op_u64 Try.underlying22 h2
  have q := cat_end hl
  replace q := cat_step (o := 2) (k := 1) c2 q
  replace q := cat_step (o := 1) (k := 1) c1 q
  replace q := cat_step (o := 0) (k := 1) c0 q
  exact ⟨⟨m0, m1, m2⟩, q⟩
def TScheme.ok (x : TScheme) : Prop := I64 x.Depth ∧ I64 x.Degree
theorem op_TScheme {H : Type} {enc : TypeId × Value → H} {W : World} {fuel : Nat} {cs : List Value} {x : DataW H × List MemPlace} (h : Tr enc Try.prog W fuel 26 cs x) : ∃ (m : TScheme), cs = TScheme.cs m ∧ TScheme.ok m := by
  obtain ⟨xs, n, rfl, rfl, hl, hx, hf⟩ := DataW.trod_struct Try.underlying26 h
  replace hl : cs.length = 6 := hl.trans (by kernel_rfl)
  replace hx : xs.length = 4 := hx
  obtain ⟨y0, e0⟩ := some_at (i := 0) hx rfl
  have h0 : Tr enc Try.prog W n 5 ((cs.drop 0).take 1) y0 := fld hf (i := 0) rfl rfl rfl (by kernel_rfl) e0
  obtain ⟨m0, c0⟩ := op_u8 Try.underlying5 h0
  obtain ⟨y1, e1⟩ := some_at (i := 1) hx rfl
  have h1 : Tr enc Try.prog W n 3 ((cs.drop 1).take 1) y1 := fld hf (i := 1) rfl rfl rfl (by kernel_rfl) e1
  obtain ⟨m1, c1, k1⟩ := op_i64 Try.underlying3 h1
  obtain ⟨y2, e2⟩ := some_at (i := 2) hx rfl
  have h2 : Tr enc Try.prog W n 3 ((cs.drop 2).take 1) y2 := fld hf (i := 2) rfl rfl rfl (by kernel_rfl) e2
  obtain ⟨m2, c2, k2⟩ := op_i64 Try.underlying3 h2
  obtain ⟨y3, e3⟩ := some_at (i := 3) hx rfl
  have h3 : Tr enc Try.prog W n 24 ((cs.drop 3).take 3) y3 := fld hf (i := 3) rfl rfl rfl (by kernel_rfl) e3
  obtain ⟨m3, c3⟩ := op_TGroup h3
  have q := cat_end hl
  replace q := cat_step (o := 3) (k := 3) c3 q
  replace q := cat_step (o := 2) (k := 1) c2 q
  replace q := cat_step (o := 1) (k := 1) c1 q
  replace q := cat_step (o := 0) (k := 1) c0 q
  exact ⟨⟨m0, m1, m2, m3⟩, q, ⟨k1, k2⟩⟩
end Go.Sx

end
section
set_option linter.unusedVariables false
set_option linter.unusedSimpArgs false
namespace Go.Sx
open Go Go.RowKit
section
variable {P : Program} {L : Slots} {w : World} {dst : Option Nat} {ty : TypeId} {pos : String} {af : Array Edge} {gu : Option (Nat × Bool)} {x y p q r : Operand} {t e : TypeId} {v : Value} {z g o sz : Nat} {α : Type} {l m : List α} {c : α → List Value} {lo hi : Int} {kl kh km : IntKind}
theorem run_sli3 {ρ : Operand → Value} {a : Option Addr} {len cap : Nat} (hρ : Cons L ρ) (hu : P.underlying t = some (.slice e)) (hs : Siz P e sz) (hp : ev L p = some (.int kl lo)) (hq : ev L q = some (.int kh hi)) (hm : ev L r = some (.int km hi)) (h0 : 0 ≤ lo) (h1 : lo ≤ hi) (h2 : hi ≤ (cap : Int)) :
    (Instr.sliceAt t (.slice a len cap) (some (ρ p)) (some (ρ q)) (some (ρ r))).run P w = .ok (sliced a lo.toNat hi.toNat hi.toNat sz) w := by
  have he : P.elem t = e := by simp [Program.elem, hu]
  have hu' : P.underlying t = some (.slice (P.elem t)) := by rw [he]; exact hu
  rw [run_sliceAt_slice _ _ _ _ _ _ hu', hρ _ _ hp, hρ _ _ hq, hρ _ _ hm, run_slice_lhm _ _ _ _ _ hu' _ _ _ _ _ _ h0 h1 (by omega) h2, he, hs w]; simp [Result.andThen]
theorem vv_sliT3 (hu : P.underlying t = some (.slice e)) (hs : Siz P e sz) (hx : ev L x = some v) (hr : Rd w z g o sz v (l.map c)) (hp : ev L p = some (.int kl lo)) (hq : ev L q = some (.int kh hi)) (hmx : ev L r = some (.int km hi)) (hl : sliG l lo hi = some m) :
    ∃ v' o', (∀ w1, VV P L ⟨dst, .slice t x (some p) (some q) (some r), ty, pos, af, gu⟩ w1 v') ∧ Rd w z g o' sz v' (m.map c) := by
  obtain ⟨rfl, h3, h4, h5⟩ := sliG_eq hl
  rcases hr.2 with ⟨hz, hnil, a, cap, rfl⟩ | ⟨hz, cap, rfl, ⟨hg, hcap⟩, hcell⟩
  · have hl0 : l = [] := by simpa using hnil
    subst hl0
    simp only [List.length_nil] at h5
    have e1 : lo = 0 := by omega
    have e2 : hi = 0 := by omega
    subst e1 e2
    refine ⟨_, 0, fun w1 ρ hρ => run_v (by rw [hρ _ _ hx]; exact run_sli3 hρ hu hs hp hq hmx (by omega) (by omega) (by omega)), by simpa using hr.1, .inl ⟨hz, by simp, ?_⟩⟩
    exact ⟨_, _, rfl⟩
  · rw [List.length_map] at hcap hx
    have hlen : ((l.map c).take hi.toNat).length = hi.toNat := by rw [List.length_take, List.length_map]; omega
    have hm : (((l.take hi.toNat).drop lo.toNat).map c) = ((l.map c).take hi.toNat).drop lo.toNat := by rw [List.map_drop, List.map_take]
    have hml : (((l.take hi.toNat).drop lo.toNat).map c).length = hi.toNat - lo.toNat := by rw [hm, List.length_drop, hlen]
    refine ⟨_, if hi.toNat = lo.toNat then o else o + lo.toNat * sz, fun w1 ρ hρ => run_v (by rw [hρ _ _ hx]; exact run_sli3 hρ hu hs hp hq hmx h3 h4 (by omega)), by rw [hm]; exact hr.1.take.drop, .inr ⟨hz, hi.toNat - lo.toNat, ?_, ⟨hg, by rw [hml]; omega⟩, fun j u hj => ?_⟩⟩
    · simp only [sliced, hml]
      by_cases e : hi.toNat = lo.toNat
      · rw [if_pos e, if_pos e]
      · rw [if_neg e, if_neg e]; simp [Addr.add_lit]
    · rw [hm, flat_drop _ _ hr.1.take, flat_take _ _ hr.1, List.getElem?_drop] at hj
      have hj2 : (l.map c).flatten[lo.toNat * sz + j]? = some u := by
        rw [List.getElem?_take] at hj
        split at hj
        · exact hj
        · cases hj
      by_cases e : hi.toNat = lo.toNat
      · exfalso
        rw [List.getElem?_take, e] at hj
        split at hj
        · omega
        · cases hj
      · rw [if_neg e, Nat.add_assoc]; exact hcell _ _ hj2
/-- a part of an owned slice -/
theorem vv_sliV {n : Nat} (hu : P.underlying t = some (.slice e)) (hs : Siz P e sz) (hx : ev L x = some v) (h : Own w z g e sz v (l.map c)) (hp : ev L p = some (.int kl lo)) (hq : ev L q = some (.int kh hi)) (hm : ev L r = some (.int km hi)) (hl : viewG l lo hi = some n) :
    VV P L ⟨dst, .slice t x (some p) (some q) (some r), ty, pos, af, gu⟩ w (.slice (some ⟨g, lo.toNat * sz, none⟩) n n) := fun ρ hρ => by
  unfold viewG at hl
  split at hl
  · rename_i hh
    obtain ⟨h0, h1, h2⟩ := hh
    cases hl
    rcases h.2 with ⟨_, _, h0'⟩ | ⟨hz, cap, cur, rfl, h1', h2', h3⟩
    · have : l = [] := by simpa using h0'
      subst this; simp at h2; omega
    · rw [List.length_map] at h2'
      refine run_v ?_
      rw [hρ _ _ hx]
      show (Instr.sliceAt t (.slice (some ⟨g, 0, none⟩) _ cap) (some (ρ p)) (some (ρ q)) (some (ρ r))).run P w = _
      rw [run_sli3 hρ hu hs hp hq hm h0 (by omega) (by omega)]
      simp only [sliced]
      rw [if_neg (by omega)]
      simp [Addr.add_lit]
      omega
  · cases hl
theorem vv_ixVw {n : Nat} {i j : Int} {k : IntKind} {v : Value} (hv : v = .slice (some ⟨g, lo.toNat * sz, none⟩) n n) (h0 : 0 ≤ lo) (hu : P.underlying t = some (.slice e)) (hs : Siz P e sz) (hx : ev L x = some v) (hy : ev L y = some (.int k i)) (hj : ixG lo n i = some j) :
    VV P L ⟨dst, .indexAddr t x y, ty, pos, af, gu⟩ w (.pointer (some ⟨g, 0 + j.toNat * sz, none⟩)) := by
  unfold ixG at hj
  split at hj
  · rename_i hh
    cases hj
    subst hv
    have := vv_indexAddrS (dst := dst) (ty := ty) (pos := pos) (af := af) (gu := gu) (w := w) hu hs hx hy hh.1 hh.2
    have e : lo.toNat * sz + i.toNat * sz = 0 + (lo + i).toNat * sz := by rw [← Nat.add_mul, Int.toNat_add h0 hh.1]; omega
    rwa [e] at this
  · cases hj
theorem viewG_nn {n : Nat} (hl : viewG l lo hi = some n) : 0 ≤ lo := by
  unfold viewG at hl; split at hl
  · rename_i hh; exact hh.1
  · cases hl
/-- an index in an array that is held -/
theorem vv_ixE {len b' off : Nat} {i : Int} {k : IntKind} (j : Nat) (hu : P.underlying t = some (.array len e)) (hs : Siz P e sz) (hx : ev L x = some (.pointer (some ⟨b', off, none⟩))) (hy : ev L y = some (.int k i)) (h : i = (j : Int)) (hj : j < len) :
    VV P L ⟨dst, .indexAddr t x y, ty, pos, af, gu⟩ w (.pointer (some ⟨b', off + j * sz, none⟩)) := by
  have := vv_indexAddr (dst := dst) (ty := ty) (pos := pos) (af := af) (gu := gu) (w := w) hu hs hx hy (by omega) (by omega)
  rwa [show i.toNat = j from by omega] at this
theorem vv_ixV1 {len : Nat} {i : Int} {k : IntKind} {a : α} {u : Value} {cs : List Value} (hu : P.underlying t = some (.array len e)) (hs : Siz P e 1) (h1 : One P e) (hx : ev L x = some (.agg cs.toArray)) (hcs : cs = (l.map c).flatten) (hl : l.length = len) (hw : Ws 1 (l.map c)) (hy : ev L y = some (.int k i)) (hg : getI l i = some a) (hc : c a = [u]) :
    VV P L ⟨dst, .index t x y, ty, pos, af, gu⟩ w u := fun ρ hρ => by
  have h0 := getI_nn hg
  have h2 := getI_lt hg
  have h2' : i < (len : Int) := by omega
  have hp : (part e cs.toArray (i.toNat * 1)).run P w = .ok u w := by
    have hq : cs[i.toNat]? = some u := by
      have := Ws.at (sz := 1) i.toNat 0 (c a) hw (getm (getI_at hg)) (by omega)
      rw [hcs]; rw [hc] at this; simpa using this
    have hq2 : cs.toArray[i.toNat]? = some u := by simpa using hq
    simp [part, (h1 w).1, hq2]
  rw [Nat.mul_one] at hp
  refine run_v ?_
  rw [hρ _ _ hx, hρ _ _ hy]
  simp [Instr.index, run_underlying hu, asIntOf, h0, h2', hs w, hp]
end
end Go.Sx

end
section
set_option linter.unusedVariables false
set_option linter.unusedSimpArgs false
namespace Go.Proofs.Ytopkalcefepilaa
open Go Go.RowKit Go.Sx
theorem cv_22_5 : CV Try.prog 22 5 .u8 := fun _ _ _ => by kernel_rfl
theorem cv_5_3 : CV Try.prog 5 3 .i64 := fun _ _ _ => by kernel_rfl
theorem en_130 : En Try.prog 130 := fun _ _ => by kernel_rfl
theorem log2_shift (n k : Nat) (h : 2 ^ k ≤ n) : Nat.log2 n = Nat.log2 (n / 2 ^ k) + k := by
  induction k generalizing n with
  | zero => simp
  | succ k ih =>
    have h2 : 2 ^ k ≤ n / 2 := by rw [Nat.le_div_iff_mul_le (by omega)]; rw [Nat.pow_succ] at h; omega
    have h1 : 2 ≤ n := by have : 0 < 2 ^ k := Nat.two_pow_pos k; rw [Nat.pow_succ] at h; omega
    rw [Nat.log2_def, if_pos h1, ih (n / 2) h2, Nat.div_div_eq_div_mul, Nat.pow_succ, Nat.mul_comm 2]; omega
theorem lg_shift (a : Int) (k m : Nat) (hm : 2 ^ k = m) (h : (m : Int) ≤ a) : lg a = lg (a / (m : Int)) + k := by
  obtain ⟨n, rfl⟩ := Int.eq_ofNat_of_zero_le (show 0 ≤ a by omega)
  subst hm
  have hp : 0 < 2 ^ k := Nat.two_pow_pos k
  have h' : 2 ^ k ≤ n := by omega
  have e : ((n : Int) / ((2 ^ k : Nat) : Int)).toNat = n / 2 ^ k := by rw [← Int.natCast_ediv]; rfl
  have h1 : ¬ (n / 2 ^ k = 0) := by rw [Nat.div_eq_zero_iff]; omega
  unfold lg
  rw [e, Int.toNat_natCast, if_neg h1, if_neg (by omega), log2_shift n k h']
  omega
def lenTab : ByteArray := ⟨#[0, 1, 2, 2, 3, 3, 3, 3, 4, 4, 4, 4, 4, 4, 4, 4, 5, 5, 5, 5, 5, 5, 5, 5, 5, 5, 5, 5, 5, 5, 5, 5, 6, 6, 6, 6, 6, 6, 6, 6, 6, 6, 6, 6, 6, 6, 6, 6, 6, 6, 6, 6, 6, 6, 6, 6, 6, 6, 6, 6, 6, 6, 6, 6, 7, 7, 7, 7, 7, 7, 7, 7, 7, 7, 7, 7, 7, 7, 7, 7, 7, 7, 7, 7, 7, 7, 7, 7, 7, 7, 7, 7, 7, 7, 7, 7, 7, 7, 7, 7, 7, 7, 7, 7, 7, 7, 7, 7, 7, 7, 7, 7, 7, 7, 7, 7, 7, 7, 7, 7, 7, 7, 7, 7, 7, 7, 7, 7, 8, 8, 8, 8, 8, 8, 8, 8, 8, 8, 8, 8, 8, 8, 8, 8, 8, 8, 8, 8, 8, 8, 8, 8, 8, 8, 8, 8, 8, 8, 8, 8, 8, 8, 8, 8, 8, 8, 8, 8, 8, 8, 8, 8, 8, 8, 8, 8, 8, 8, 8, 8, 8, 8, 8, 8, 8, 8, 8, 8, 8, 8, 8, 8, 8, 8, 8, 8, 8, 8, 8, 8, 8, 8, 8, 8, 8, 8, 8, 8, 8, 8, 8, 8, 8, 8, 8, 8, 8, 8, 8, 8, 8, 8, 8, 8, 8, 8, 8, 8, 8, 8, 8, 8, 8, 8, 8, 8, 8, 8, 8, 8, 8, 8, 8, 8, 8, 8, 8, 8, 8, 8, 8, 8, 8, 8, 8, 8]⟩
theorem lenTab_fin : ∀ k : Fin 256, lenTab[k.1]? = some (UInt8.ofNat (lg (k.1 : Int)).toNat) ∧ lg (k.1 : Int) = ((UInt8.ofNat (lg (k.1 : Int)).toNat).toNat : Int) := by decide +kernel
theorem lenTab_at {a : Int} (h0 : 0 ≤ a) (h1 : a < 256) : lenTab[a.toNat]? = some (UInt8.ofNat (lg a).toNat) ∧ lg a = ((UInt8.ofNat (lg a).toNat).toNat : Int) := by
  obtain ⟨n, rfl⟩ := Int.eq_ofNat_of_zero_le h0
  exact lenTab_fin ⟨n, by omega⟩
theorem lg_lo (a : Int) : -9223372036854775808 ≤ lg a := by unfold lg; split <;> omega
theorem lg_hi {a : Int} (h0 : 0 ≤ a) (h1 : a < 256) : lg a ≤ 9223372036854775807 := by have := (lenTab_at h0 h1).2; have := (UInt8.ofNat (lg a).toNat).toNat_lt; omega
theorem lg_add {b : Int} (a : Int) (h : 0 ≤ b) : -9223372036854775808 ≤ b + lg a := by unfold lg; split <;> omega
theorem lg_add2 {a b : Int} (h0 : 0 ≤ a) (h1 : a < 256) (hb : b ≤ 1000) : b + lg a ≤ 9223372036854775807 := by have := (lenTab_at h0 h1).2; have := (UInt8.ofNat (lg a).toNat).toNat_lt; omega
set_option maxRecDepth 20000 in
set_option maxHeartbeats 1000000 in
theorem len64_c (a : Int) (ha1 : 0 ≤ a) (ha2 : a < 18446744073709551616) (w : World) :
    Calls Try.prog 130 [.int .u64 a].toArray w fun e w' => ∃ v, e = .returned v ∧ (v = .int .i64 (lg a) ∧ Gr w w') := by
  refine calls_of_sw (R := fun v w' => v = .int .i64 (lg a) ∧ Gr w w') 25 Try.func130 rfl rfl rfl ?_
  refine sw_seq ?_
  -- region 0 bits.go:337
  refine sw_region [(0, 0)] rfl rfl rfl ?_
  refine sd_vv rfl rfl rfl (vv_assign rfl) ?_
  refine sd_done ?_
  refine sw_seq ?_
  refine sw_seq ?_
  -- region 1 bits.go:338
  refine sw_region [(0, 0), (1, 0)] rfl rfl rfl ?_
  refine sd_vv rfl rfl rfl (vv_move rfl) ?_
  refine sd_vv rfl rfl rfl (vv_geq rfl rfl) ?_
  refine sd_done ?_
  refine sw_cond rfl (fun h1 => ?_) (fun h1 => ?_)
  · -- h1 True
    replace h1 := of_decide_eq_true h1
    refine sw_seq ?_
    -- region 2 bits.go:339
    refine sw_region [(0, 0), (1, 0), (2, 0)] rfl rfl rfl ?_
    refine sd_vv rfl rfl rfl (vv_move rfl) ?_
    refine sd_vv rfl rfl rfl (vv_shrN (n := 32) (m := 4294967296) rfl rfl rfl (by decide)) ?_
    refine sd_vv rfl rfl rfl (vv_assign rfl) ?_
    refine sd_done ?_
    -- region 3 bits.go:340
    refine sw_region [(0, 0)] rfl rfl rfl ?_
    refine sd_vv rfl rfl rfl (vv_assign rfl) ?_
    refine sd_done ?_
    refine sw_seq ?_
    refine sw_seq ?_
    -- region 4 bits.go:342
    refine sw_region [(0, 0), (1, 0)] rfl rfl rfl ?_
    refine sd_vv rfl rfl rfl (vv_move rfl) ?_
    refine sd_vv rfl rfl rfl (vv_geq rfl rfl) ?_
    refine sd_done ?_
    refine sw_cond rfl (fun h2 => ?_) (fun h2 => ?_)
    · -- h2 True
      replace h2 := of_decide_eq_true h2
      refine sw_seq ?_
      -- region 5 bits.go:343
      refine sw_region [(0, 0), (1, 0), (2, 0)] rfl rfl rfl ?_
      refine sd_vv rfl rfl rfl (vv_move rfl) ?_
      refine sd_vv rfl rfl rfl (vv_shrN (n := 16) (m := 65536) rfl rfl rfl (by decide)) ?_
      refine sd_vv rfl rfl rfl (vv_assign rfl) ?_
      refine sd_done ?_
      -- region 6 bits.go:344
      refine sw_region [(0, 0), (1, 0), (2, 0)] rfl rfl rfl ?_
      refine sd_vv rfl rfl rfl (vv_move rfl) ?_
      refine sd_vv rfl rfl rfl (vv_add64 rfl rfl (by omega) (by omega)) ?_
      refine sd_vv rfl rfl rfl (vv_assign rfl) ?_
      refine sd_done ?_
      refine sw_seq ?_
      refine sw_seq ?_
      -- region 7 bits.go:346
      refine sw_region [(0, 0), (1, 0)] rfl rfl rfl ?_
      refine sd_vv rfl rfl rfl (vv_move rfl) ?_
      refine sd_vv rfl rfl rfl (vv_geq rfl rfl) ?_
      refine sd_done ?_
      refine sw_cond rfl (fun h3 => ?_) (fun h3 => ?_)
      · -- h3 True
        replace h3 := of_decide_eq_true h3
        refine sw_seq ?_
        -- region 8 bits.go:347
        refine sw_region [(0, 0), (1, 0), (2, 0)] rfl rfl rfl ?_
        refine sd_vv rfl rfl rfl (vv_move rfl) ?_
        refine sd_vv rfl rfl rfl (vv_shrN (n := 8) (m := 256) rfl rfl rfl (by decide)) ?_
        refine sd_vv rfl rfl rfl (vv_assign rfl) ?_
        refine sd_done ?_
        -- region 9 bits.go:348
        refine sw_region [(0, 0), (1, 0), (2, 0)] rfl rfl rfl ?_
        refine sd_vv rfl rfl rfl (vv_move rfl) ?_
        refine sd_vv rfl rfl rfl (vv_add64 rfl rfl (by omega) (by omega)) ?_
        refine sd_vv rfl rfl rfl (vv_assign rfl) ?_
        refine sd_done ?_
        refine sw_seq ?_
        -- region 10 bits.go:350
        refine sw_region [(0, 0), (1, 0), (2, 0), (3, 0), (4, 0), (5, 0), (6, 0)] rfl rfl rfl ?_
        refine sd_vv rfl rfl rfl (vv_move rfl) ?_
        refine sd_vv rfl rfl rfl (vv_move rfl) ?_
        refine sd_vv rfl rfl rfl (vv_convB cv_22_5 rfl (by omega) (by omega)) ?_
        refine sd_vv rfl rfl rfl (vv_eq (vv_ixStr Try.underlying9 rfl rfl (by omega) (show lenTab[_]? = _ from (lenTab_at (by omega) (by omega)).1)) (congrArg (Value.int .u8) (lenTab_at (by omega) (by omega)).2.symm)) ?_
        refine sd_vv rfl rfl rfl (vv_conv64 cv_5_3 rfl (lg_lo _) (lg_hi (by omega) (by omega))) ?_
        refine sd_vv rfl rfl rfl (vv_add64 rfl rfl (lg_add _ (by decide)) (lg_add2 (by omega) (by omega) (by decide))) ?_
        refine sd_vv rfl rfl rfl (vv_assign rfl) ?_
        refine sd_done ?_
        refine sw_ret ?_
        refine ⟨_, _, rfl, res_tmp rfl rfl, ?_⟩
        refine ⟨congrArg (Value.int .i64) ?_, (Gr.refl w)⟩
        have e0 : lg (a : Int) = lg ((a : Int) / 4294967296) + 32 := lg_shift (a : Int) 32 4294967296 (by decide) (by omega)
        have e1 : lg ((a : Int) / 4294967296) = lg (((a : Int) / 4294967296) / 65536) + 16 := lg_shift ((a : Int) / 4294967296) 16 65536 (by decide) (by omega)
        have e2 : lg (((a : Int) / 4294967296) / 65536) = lg ((((a : Int) / 4294967296) / 65536) / 256) + 8 := lg_shift (((a : Int) / 4294967296) / 65536) 8 256 (by decide) (by omega)
        omega
      · -- h3 False
        replace h3 := of_decide_eq_false h3
        refine sw_skip ?_
        refine then_n ?_
        refine sw_seq ?_
        -- region 10 bits.go:350
        refine sw_region [(0, 0), (1, 0), (2, 0), (3, 0), (4, 0), (5, 0), (6, 0)] rfl rfl rfl ?_
        refine sd_vv rfl rfl rfl (vv_move rfl) ?_
        refine sd_vv rfl rfl rfl (vv_move rfl) ?_
        refine sd_vv rfl rfl rfl (vv_convB cv_22_5 rfl (by omega) (by omega)) ?_
        refine sd_vv rfl rfl rfl (vv_eq (vv_ixStr Try.underlying9 rfl rfl (by omega) (show lenTab[_]? = _ from (lenTab_at (by omega) (by omega)).1)) (congrArg (Value.int .u8) (lenTab_at (by omega) (by omega)).2.symm)) ?_
        refine sd_vv rfl rfl rfl (vv_conv64 cv_5_3 rfl (lg_lo _) (lg_hi (by omega) (by omega))) ?_
        refine sd_vv rfl rfl rfl (vv_add64 rfl rfl (lg_add _ (by decide)) (lg_add2 (by omega) (by omega) (by decide))) ?_
        refine sd_vv rfl rfl rfl (vv_assign rfl) ?_
        refine sd_done ?_
        refine sw_ret ?_
        refine ⟨_, _, rfl, res_tmp rfl rfl, ?_⟩
        refine ⟨congrArg (Value.int .i64) ?_, (Gr.refl w)⟩
        have e0 : lg (a : Int) = lg ((a : Int) / 4294967296) + 32 := lg_shift (a : Int) 32 4294967296 (by decide) (by omega)
        have e1 : lg ((a : Int) / 4294967296) = lg (((a : Int) / 4294967296) / 65536) + 16 := lg_shift ((a : Int) / 4294967296) 16 65536 (by decide) (by omega)
        omega
    · -- h2 False
      replace h2 := of_decide_eq_false h2
      refine sw_skip ?_
      refine then_n ?_
      refine sw_seq ?_
      refine sw_seq ?_
      -- region 7 bits.go:346
      refine sw_region [(0, 0), (1, 0)] rfl rfl rfl ?_
      refine sd_vv rfl rfl rfl (vv_move rfl) ?_
      refine sd_vv rfl rfl rfl (vv_geq rfl rfl) ?_
      refine sd_done ?_
      refine sw_cond rfl (fun h4 => ?_) (fun h4 => ?_)
      · -- h4 True
        replace h4 := of_decide_eq_true h4
        refine sw_seq ?_
        -- region 8 bits.go:347
        refine sw_region [(0, 0), (1, 0), (2, 0)] rfl rfl rfl ?_
        refine sd_vv rfl rfl rfl (vv_move rfl) ?_
        refine sd_vv rfl rfl rfl (vv_shrN (n := 8) (m := 256) rfl rfl rfl (by decide)) ?_
        refine sd_vv rfl rfl rfl (vv_assign rfl) ?_
        refine sd_done ?_
        -- region 9 bits.go:348
        refine sw_region [(0, 0), (1, 0), (2, 0)] rfl rfl rfl ?_
        refine sd_vv rfl rfl rfl (vv_move rfl) ?_
        refine sd_vv rfl rfl rfl (vv_add64 rfl rfl (by omega) (by omega)) ?_
        refine sd_vv rfl rfl rfl (vv_assign rfl) ?_
        refine sd_done ?_
        refine sw_seq ?_
        -- region 10 bits.go:350
        refine sw_region [(0, 0), (1, 0), (2, 0), (3, 0), (4, 0), (5, 0), (6, 0)] rfl rfl rfl ?_
        refine sd_vv rfl rfl rfl (vv_move rfl) ?_
        refine sd_vv rfl rfl rfl (vv_move rfl) ?_
        refine sd_vv rfl rfl rfl (vv_convB cv_22_5 rfl (by omega) (by omega)) ?_
        refine sd_vv rfl rfl rfl (vv_eq (vv_ixStr Try.underlying9 rfl rfl (by omega) (show lenTab[_]? = _ from (lenTab_at (by omega) (by omega)).1)) (congrArg (Value.int .u8) (lenTab_at (by omega) (by omega)).2.symm)) ?_
        refine sd_vv rfl rfl rfl (vv_conv64 cv_5_3 rfl (lg_lo _) (lg_hi (by omega) (by omega))) ?_
        refine sd_vv rfl rfl rfl (vv_add64 rfl rfl (lg_add _ (by decide)) (lg_add2 (by omega) (by omega) (by decide))) ?_
        refine sd_vv rfl rfl rfl (vv_assign rfl) ?_
        refine sd_done ?_
        refine sw_ret ?_
        refine ⟨_, _, rfl, res_tmp rfl rfl, ?_⟩
        refine ⟨congrArg (Value.int .i64) ?_, (Gr.refl w)⟩
        have e0 : lg (a : Int) = lg ((a : Int) / 4294967296) + 32 := lg_shift (a : Int) 32 4294967296 (by decide) (by omega)
        have e1 : lg ((a : Int) / 4294967296) = lg (((a : Int) / 4294967296) / 256) + 8 := lg_shift ((a : Int) / 4294967296) 8 256 (by decide) (by omega)
        omega
      · -- h4 False
        replace h4 := of_decide_eq_false h4
        refine sw_skip ?_
        refine then_n ?_
        refine sw_seq ?_
        -- region 10 bits.go:350
        refine sw_region [(0, 0), (1, 0), (2, 0), (3, 0), (4, 0), (5, 0), (6, 0)] rfl rfl rfl ?_
        refine sd_vv rfl rfl rfl (vv_move rfl) ?_
        refine sd_vv rfl rfl rfl (vv_move rfl) ?_
        refine sd_vv rfl rfl rfl (vv_convB cv_22_5 rfl (by omega) (by omega)) ?_
        refine sd_vv rfl rfl rfl (vv_eq (vv_ixStr Try.underlying9 rfl rfl (by omega) (show lenTab[_]? = _ from (lenTab_at (by omega) (by omega)).1)) (congrArg (Value.int .u8) (lenTab_at (by omega) (by omega)).2.symm)) ?_
        refine sd_vv rfl rfl rfl (vv_conv64 cv_5_3 rfl (lg_lo _) (lg_hi (by omega) (by omega))) ?_
        refine sd_vv rfl rfl rfl (vv_add64 rfl rfl (lg_add _ (by decide)) (lg_add2 (by omega) (by omega) (by decide))) ?_
        refine sd_vv rfl rfl rfl (vv_assign rfl) ?_
        refine sd_done ?_
        refine sw_ret ?_
        refine ⟨_, _, rfl, res_tmp rfl rfl, ?_⟩
        refine ⟨congrArg (Value.int .i64) ?_, (Gr.refl w)⟩
        have e0 : lg (a : Int) = lg ((a : Int) / 4294967296) + 32 := lg_shift (a : Int) 32 4294967296 (by decide) (by omega)
        omega
  · -- h1 False
    replace h1 := of_decide_eq_false h1
    refine sw_skip ?_
    refine then_n ?_
    refine sw_seq ?_
    refine sw_seq ?_
    -- region 4 bits.go:342
    refine sw_region [(0, 0), (1, 0)] rfl rfl rfl ?_
    refine sd_vv rfl rfl rfl (vv_move rfl) ?_
    refine sd_vv rfl rfl rfl (vv_geq rfl rfl) ?_
    refine sd_done ?_
    refine sw_cond rfl (fun h5 => ?_) (fun h5 => ?_)
    · -- h5 True
      replace h5 := of_decide_eq_true h5
      refine sw_seq ?_
      -- region 5 bits.go:343
      refine sw_region [(0, 0), (1, 0), (2, 0)] rfl rfl rfl ?_
      refine sd_vv rfl rfl rfl (vv_move rfl) ?_
      refine sd_vv rfl rfl rfl (vv_shrN (n := 16) (m := 65536) rfl rfl rfl (by decide)) ?_
      refine sd_vv rfl rfl rfl (vv_assign rfl) ?_
      refine sd_done ?_
      -- region 6 bits.go:344
      refine sw_region [(0, 0), (1, 0), (2, 0)] rfl rfl rfl ?_
      refine sd_vv rfl rfl rfl (vv_move rfl) ?_
      refine sd_vv rfl rfl rfl (vv_add64 rfl rfl (by omega) (by omega)) ?_
      refine sd_vv rfl rfl rfl (vv_assign rfl) ?_
      refine sd_done ?_
      refine sw_seq ?_
      refine sw_seq ?_
      -- region 7 bits.go:346
      refine sw_region [(0, 0), (1, 0)] rfl rfl rfl ?_
      refine sd_vv rfl rfl rfl (vv_move rfl) ?_
      refine sd_vv rfl rfl rfl (vv_geq rfl rfl) ?_
      refine sd_done ?_
      refine sw_cond rfl (fun h6 => ?_) (fun h6 => ?_)
      · -- h6 True
        replace h6 := of_decide_eq_true h6
        refine sw_seq ?_
        -- region 8 bits.go:347
        refine sw_region [(0, 0), (1, 0), (2, 0)] rfl rfl rfl ?_
        refine sd_vv rfl rfl rfl (vv_move rfl) ?_
        refine sd_vv rfl rfl rfl (vv_shrN (n := 8) (m := 256) rfl rfl rfl (by decide)) ?_
        refine sd_vv rfl rfl rfl (vv_assign rfl) ?_
        refine sd_done ?_
        -- region 9 bits.go:348
        refine sw_region [(0, 0), (1, 0), (2, 0)] rfl rfl rfl ?_
        refine sd_vv rfl rfl rfl (vv_move rfl) ?_
        refine sd_vv rfl rfl rfl (vv_add64 rfl rfl (by omega) (by omega)) ?_
        refine sd_vv rfl rfl rfl (vv_assign rfl) ?_
        refine sd_done ?_
        refine sw_seq ?_
        -- region 10 bits.go:350
        refine sw_region [(0, 0), (1, 0), (2, 0), (3, 0), (4, 0), (5, 0), (6, 0)] rfl rfl rfl ?_
        refine sd_vv rfl rfl rfl (vv_move rfl) ?_
        refine sd_vv rfl rfl rfl (vv_move rfl) ?_
        refine sd_vv rfl rfl rfl (vv_convB cv_22_5 rfl (by omega) (by omega)) ?_
        refine sd_vv rfl rfl rfl (vv_eq (vv_ixStr Try.underlying9 rfl rfl (by omega) (show lenTab[_]? = _ from (lenTab_at (by omega) (by omega)).1)) (congrArg (Value.int .u8) (lenTab_at (by omega) (by omega)).2.symm)) ?_
        refine sd_vv rfl rfl rfl (vv_conv64 cv_5_3 rfl (lg_lo _) (lg_hi (by omega) (by omega))) ?_
        refine sd_vv rfl rfl rfl (vv_add64 rfl rfl (lg_add _ (by decide)) (lg_add2 (by omega) (by omega) (by decide))) ?_
        refine sd_vv rfl rfl rfl (vv_assign rfl) ?_
        refine sd_done ?_
        refine sw_ret ?_
        refine ⟨_, _, rfl, res_tmp rfl rfl, ?_⟩
        refine ⟨congrArg (Value.int .i64) ?_, (Gr.refl w)⟩
        have e0 : lg (a : Int) = lg ((a : Int) / 65536) + 16 := lg_shift (a : Int) 16 65536 (by decide) (by omega)
        have e1 : lg ((a : Int) / 65536) = lg (((a : Int) / 65536) / 256) + 8 := lg_shift ((a : Int) / 65536) 8 256 (by decide) (by omega)
        omega
      · -- h6 False
        replace h6 := of_decide_eq_false h6
        refine sw_skip ?_
        refine then_n ?_
        refine sw_seq ?_
        -- region 10 bits.go:350
        refine sw_region [(0, 0), (1, 0), (2, 0), (3, 0), (4, 0), (5, 0), (6, 0)] rfl rfl rfl ?_
        refine sd_vv rfl rfl rfl (vv_move rfl) ?_
        refine sd_vv rfl rfl rfl (vv_move rfl) ?_
        refine sd_vv rfl rfl rfl (vv_convB cv_22_5 rfl (by omega) (by omega)) ?_
        refine sd_vv rfl rfl rfl (vv_eq (vv_ixStr Try.underlying9 rfl rfl (by omega) (show lenTab[_]? = _ from (lenTab_at (by omega) (by omega)).1)) (congrArg (Value.int .u8) (lenTab_at (by omega) (by omega)).2.symm)) ?_
        refine sd_vv rfl rfl rfl (vv_conv64 cv_5_3 rfl (lg_lo _) (lg_hi (by omega) (by omega))) ?_
        refine sd_vv rfl rfl rfl (vv_add64 rfl rfl (lg_add _ (by decide)) (lg_add2 (by omega) (by omega) (by decide))) ?_
        refine sd_vv rfl rfl rfl (vv_assign rfl) ?_
        refine sd_done ?_
        refine sw_ret ?_
        refine ⟨_, _, rfl, res_tmp rfl rfl, ?_⟩
        refine ⟨congrArg (Value.int .i64) ?_, (Gr.refl w)⟩
        have e0 : lg (a : Int) = lg ((a : Int) / 65536) + 16 := lg_shift (a : Int) 16 65536 (by decide) (by omega)
        omega
    · -- h5 False
      replace h5 := of_decide_eq_false h5
      refine sw_skip ?_
      refine then_n ?_
      refine sw_seq ?_
      refine sw_seq ?_
      -- region 7 bits.go:346
      refine sw_region [(0, 0), (1, 0)] rfl rfl rfl ?_
      refine sd_vv rfl rfl rfl (vv_move rfl) ?_
      refine sd_vv rfl rfl rfl (vv_geq rfl rfl) ?_
      refine sd_done ?_
      refine sw_cond rfl (fun h7 => ?_) (fun h7 => ?_)
      · -- h7 True
        replace h7 := of_decide_eq_true h7
        refine sw_seq ?_
        -- region 8 bits.go:347
        refine sw_region [(0, 0), (1, 0), (2, 0)] rfl rfl rfl ?_
        refine sd_vv rfl rfl rfl (vv_move rfl) ?_
        refine sd_vv rfl rfl rfl (vv_shrN (n := 8) (m := 256) rfl rfl rfl (by decide)) ?_
        refine sd_vv rfl rfl rfl (vv_assign rfl) ?_
        refine sd_done ?_
        -- region 9 bits.go:348
        refine sw_region [(0, 0), (1, 0), (2, 0)] rfl rfl rfl ?_
        refine sd_vv rfl rfl rfl (vv_move rfl) ?_
        refine sd_vv rfl rfl rfl (vv_add64 rfl rfl (by omega) (by omega)) ?_
        refine sd_vv rfl rfl rfl (vv_assign rfl) ?_
        refine sd_done ?_
        refine sw_seq ?_
        -- region 10 bits.go:350
        refine sw_region [(0, 0), (1, 0), (2, 0), (3, 0), (4, 0), (5, 0), (6, 0)] rfl rfl rfl ?_
        refine sd_vv rfl rfl rfl (vv_move rfl) ?_
        refine sd_vv rfl rfl rfl (vv_move rfl) ?_
        refine sd_vv rfl rfl rfl (vv_convB cv_22_5 rfl (by omega) (by omega)) ?_
        refine sd_vv rfl rfl rfl (vv_eq (vv_ixStr Try.underlying9 rfl rfl (by omega) (show lenTab[_]? = _ from (lenTab_at (by omega) (by omega)).1)) (congrArg (Value.int .u8) (lenTab_at (by omega) (by omega)).2.symm)) ?_
        refine sd_vv rfl rfl rfl (vv_conv64 cv_5_3 rfl (lg_lo _) (lg_hi (by omega) (by omega))) ?_
        refine sd_vv rfl rfl rfl (vv_add64 rfl rfl (lg_add _ (by decide)) (lg_add2 (by omega) (by omega) (by decide))) ?_
        refine sd_vv rfl rfl rfl (vv_assign rfl) ?_
        refine sd_done ?_
        refine sw_ret ?_
        refine ⟨_, _, rfl, res_tmp rfl rfl, ?_⟩
        refine ⟨congrArg (Value.int .i64) ?_, (Gr.refl w)⟩
        have e0 : lg (a : Int) = lg ((a : Int) / 256) + 8 := lg_shift (a : Int) 8 256 (by decide) (by omega)
        omega
      · -- h7 False
        replace h7 := of_decide_eq_false h7
        refine sw_skip ?_
        refine then_n ?_
        refine sw_seq ?_
        -- region 10 bits.go:350
        refine sw_region [(0, 0), (1, 0), (2, 0), (3, 0), (4, 0), (5, 0), (6, 0)] rfl rfl rfl ?_
        refine sd_vv rfl rfl rfl (vv_move rfl) ?_
        refine sd_vv rfl rfl rfl (vv_move rfl) ?_
        refine sd_vv rfl rfl rfl (vv_convB cv_22_5 rfl (by omega) (by omega)) ?_
        refine sd_vv rfl rfl rfl (vv_eq (vv_ixStr Try.underlying9 rfl rfl (by omega) (show lenTab[_]? = _ from (lenTab_at (by omega) (by omega)).1)) (congrArg (Value.int .u8) (lenTab_at (by omega) (by omega)).2.symm)) ?_
        refine sd_vv rfl rfl rfl (vv_conv64 cv_5_3 rfl (lg_lo _) (lg_hi (by omega) (by omega))) ?_
        refine sd_vv rfl rfl rfl (vv_add64 rfl rfl (lg_add _ (by decide)) (lg_add2 (by omega) (by omega) (by decide))) ?_
        refine sd_vv rfl rfl rfl (vv_assign rfl) ?_
        refine sd_done ?_
        refine sw_ret ?_
        refine ⟨_, _, rfl, res_tmp rfl rfl, ?_⟩
        refine ⟨congrArg (Value.int .i64) ?_, (Gr.refl w)⟩
        omega
set_option maxHeartbeats 1000000 in
theorem len_c (a : Int) (ha1 : 0 ≤ a) (ha2 : a < 18446744073709551616) (w : World) :
    Calls Try.prog 104 [.int .u64 a].toArray w fun e w' => ∃ v, e = .returned v ∧ (v = .int .i64 (lg a) ∧ Gr w w') := by
  refine calls_of_sw (R := fun v w' => v = .int .i64 (lg a) ∧ Gr w w') 8 Try.func104 rfl rfl rfl ?_
  refine sw_seq ?_
  -- region 0 bits.go:302
  refine sw_region [(0, 0)] rfl rfl rfl ?_
  refine sd_vv rfl rfl rfl (vv_assign rfl) ?_
  refine sd_done ?_
  refine sw_seq ?_
  refine sw_condF rfl ?_
  refine sw_skip ?_
  refine then_n ?_
  refine sw_seq ?_
  -- region 2 bits.go:306
  refine sw_region [(0, 0), (1, 0), (2, 0)] rfl rfl rfl ?_
  refine sd_vv rfl rfl rfl (vv_move rfl) ?_
  refine sd_ev rfl rfl rfl (ev_call en_130 rfl (len64_c _ (by omega) (by omega) _)) ?_
  rintro _ w1 ⟨rfl, Gw1⟩
  have z1 := Gw1.size
  refine sd_vv rfl rfl rfl (vv_assign rfl) ?_
  refine sd_done ?_
  refine sw_ret ?_
  have X2 : Gr w w1 := (Gr.trans (Gr.refl w) Gw1)
  refine ⟨_, _, rfl, res_tmp rfl rfl, ?_⟩
  exact ⟨rfl, X2⟩
end Go.Proofs.Ytopkalcefepilaa

end
section
set_option linter.unusedVariables false
set_option linter.unusedSimpArgs false
namespace Go.Sx
open Go Go.RowKit Go.Proofs Go.Sort Go.Shelf
def Ws' (k : Nat) (xs : List (List Value)) : Prop := ∀ y ∈ xs, y.length = k
/-- what the sort leaves -/
theorem sortW {β : Type} [Inhabited β] (enc : β → List Value) (k : Nat) (hk : 1 ≤ k) (hc : ∀ b, (enc b).length = k) (w : World) (g n : Nat) (d : Array β) (os : Array Obj) (e : TypeId) (cur : Array Value) (hb : w.heap[g]? = some (.cells cur e (0, 0))) (hl : d.size * k ≤ cur.size) :
    ∃ cur' : Array Value, (sortWorldK enc k w g 0 n d os).heap[g]? = some (.cells cur' e (0, 0)) ∧ cur'.size = cur.size ∧ cur'.toList.take (d.size * k) = (d.toList.map enc).flatten ∧ Kz [(1, g)] w (sortWorldK enc k w g 0 n d os) := by
  have hlt : g < w.heap.size := (Array.getElem?_eq_some_iff.1 hb).1
  have hh : (sortWorldK enc k w g 0 n d os).heap = (w.heap.modify g (onCells (putCells id 0 (flatK enc k d)))) ++ os := rfl
  refine ⟨putCells id 0 (flatK enc k d) cur, ?_, by simp [putCells], ?_, ?_⟩
  · rw [hh, Array.getElem?_append_left (by simpa using hlt), Array.getElem?_modify, if_pos rfl, hb]; rfl
  · apply List.ext_getElem?
    intro t
    rw [List.getElem?_take]
    have hfl : ((d.toList.map enc).flatten).length = d.size * k := by
      have : Ws' k (d.toList.map enc) := by
        intro y hy; obtain ⟨b, _, rfl⟩ := List.mem_map.1 hy; exact hc b
      have h2 : ∀ (xs : List (List Value)), Ws' k xs → xs.flatten.length = xs.length * k := by
        intro xs
        induction xs with
        | nil => intro _; simp
        | cons a xs ih => intro h; rw [List.flatten_cons, List.length_append, ih (fun y hy => h y (List.mem_cons_of_mem _ hy)), h a (by simp), List.length_cons, Nat.add_mul]; omega
      rw [h2 _ this]; simp
    by_cases ht : t < d.size * k
    · rw [if_pos ht]
      have htc : t < cur.size := by omega
      have h3 : (putCells id 0 (flatK enc k d) cur).toList[t]? = some ((flatK enc k d)[t]!) := by
        simp only [putCells, Array.getElem?_toList, Array.getElem?_mapIdx, Array.getElem?_eq_getElem htc, Option.map_some, Nat.zero_le, true_and, Nat.zero_add, size_flatK, ht, if_true, Nat.sub_zero, id]
      rw [h3, get_flatK enc k d t ht]
      have hq : t / k < d.size := (Nat.div_lt_iff_lt_mul (by omega)).2 ht
      have hm : t % k < k := Nat.mod_lt _ (by omega)
      have hgen : ∀ (xs : List (List Value)), Ws' k xs → ∀ i j c, xs[i]? = some c → j < k → xs.flatten[i * k + j]? = c[j]? := by
        intro xs
        induction xs with
        | nil => intro _ i j c h; simp at h
        | cons a xs ih =>
          intro hw i j c h hj
          have ha := hw a (by simp)
          rw [List.flatten_cons]
          cases i with
          | zero => simp at h; subst h; rw [Nat.zero_mul, Nat.zero_add, List.getElem?_append_left (by omega)]
          | succ i =>
            rw [List.getElem?_append_right (by rw [ha, Nat.add_mul]; omega), show (i + 1) * k + j - a.length = i * k + j from by rw [ha, Nat.add_mul]; omega]
            exact ih (fun y hy => hw y (List.mem_cons_of_mem _ hy)) i j c (by simpa using h) hj
      have h4 := hgen (d.toList.map enc) (fun y hy => by obtain ⟨b, _, rfl⟩ := List.mem_map.1 hy; exact hc b) (t / k) (t % k) (enc d[t / k]!) (by simp [hq]) hm
      have hdm : t / k * k + t % k = t := by rw [Nat.mul_comm]; exact Nat.div_add_mod t k
      rw [hdm] at h4
      rw [h4]
      have h5 : t % k < (enc d[t / k]!).length := by rw [hc]; exact hm
      simp [h5]
    · rw [if_neg ht, List.getElem?_eq_none (by omega)]
  · refine ⟨rfl, rfl, rfl, by rw [hh]; simp, fun i hi hn => ?_⟩
    have hne : g ≠ i := by
      simp only [Nin] at hn
      rcases hn.1 with h | h
      · omega
      · exact fun e => h e.symm
    rw [hh, Array.getElem?_append_left (by simpa using hi), Array.getElem?_modify, if_neg hne]
section
variable {P : Program} {ρ : Ren}
/-- the shelf's contract, in the words of the mirrors -/
theorem sort_gen {β : Type} (c : β → List Value) (k : Nat) (hc : ∀ b, (c b).length = k) (h1 : ∀ b, ones (c b) = true) (hk : 1 ≤ k) (key : β → Int) (cf : Nat) (L : SlLaysF0.n6 P ρ) (aE : ∀ w, (isAgg (ρ.t 24)).run P w = .ok true w) (zE : ∀ w, (Go.sizeOf (ρ.t 24)).run P w = .ok k w)
    (eg : ∀ args w, (callFunc cf args).run P w = .ok (.enter cf args) w)
    (hcmp : ∀ (x y : β) (W : World), 0 ≤ key x ∧ key x < 4611686018427387904 → 0 ≤ key y ∧ key y < 4611686018427387904 → Calls P cf #[.agg (c x).toArray, .agg (c y).toArray] W fun e w' => e = .returned (.int .i64 (key x - key y)) ∧ ∃ q os', w' = grow (W.drewN q) os')
    {l m : List β} (hm : srtBy key l = some m) (w : World) (z g : Nat) (e : TypeId) (v : Value) (h : Own w z g e k v (l.map c)) :
    Calls P (ρ.f 6) #[v, .func (.func cf) #[] #[]] w fun e' w' => ∃ v', e' = .returned v' ∧ (Own w' z g e k v (m.map c) ∧ Kz [(z, g)] w w') := by
  obtain ⟨rfl, hbd, hnd, hlen⟩ := srtBy_eq hm
  rcases h.2 with ⟨hz, rfl, h0⟩ | ⟨hz, cap, cur, rfl, hb, hn, hcap, hsz, htk⟩
  · have hl0 : l = [] := by simpa using h0
    subst hl0
    refine (AnyF.slices_SortFunc_none L none 0 (.func (.func cf) #[] #[]) w).mono ?_
    rintro e' w' ⟨rfl, rfl⟩
    exact ⟨_, rfl, by simpa using h, Kz.refl _ _⟩
  · by_cases hl0 : l = []
    · subst hl0
      have : (([] : List β).map c).length = 0 := rfl
      rw [this]
      refine (AnyF.slices_SortFunc_none L (some ⟨g, 0, none⟩) cap (.func (.func cf) #[] #[]) w).mono ?_
      rintro e' w' ⟨rfl, rfl⟩
      exact ⟨_, rfl, by simpa using h, Kz.refl _ _⟩
    · obtain ⟨b0, hb0⟩ := List.exists_mem_of_ne_nil l hl0
      let A := { x : β // x ∈ l }
      letI : Inhabited A := ⟨⟨b0, hb0⟩⟩
      let enc : A → List Value := fun x => c x.1
      let d : Array A := l.attach.toArray
      let cfn : A → A → Int := fun x y => key x.1 - key y.1
      have hds : d.size = l.length := by show l.attach.toArray.size = l.length; simp
      have hlt : ∀ x y : A, ltOf cfn x y = decide (key x.1 < key y.1) := fun x y => by
        unfold ltOf; apply decide_eq_decide.2; show key x.1 - key y.1 < 0 ↔ _; omega
      have hO : SWO (ltOf cfn) := ⟨fun x => by rw [hlt]; simp, fun x y z h1 h2 => by rw [hlt] at *; simp at *; omega, fun x y z h1 h2 => by rw [hlt] at *; simp at *; omega⟩
      have hT : ∀ x y : A, ltOf cfn x y = false → ltOf cfn y x = false → x = y := fun x y h1 h2 => by
        rw [hlt] at h1 h2
        simp at h1 h2
        have he : key x.1 = key y.1 := by omega
        apply Subtype.ext
        obtain ⟨i, hi, ei⟩ := List.mem_iff_getElem.1 x.2
        obtain ⟨j, hj, ej⟩ := List.mem_iff_getElem.1 y.2
        have hij : i = j := (List.getElem_inj (h₀ := by simpa using hi) (h₁ := by simpa using hj) hnd).1 (by rw [List.getElem_map, List.getElem_map, ei, ej]; exact he)
        subst hij; rw [← ei, ← ej]
      have hmk : d.toList.map enc = l.map c := by
        show l.attach.toArray.toList.map (fun x : A => c x.1) = l.map c
        show List.map (fun x : { x : β // x ∈ l } => c x.1) l.attach = l.map c
        exact List.attach_map_val
      rw [List.length_map] at hn htk
      have hle : d.size * k ≤ cur.size := by rw [hds, hsz]; exact Nat.mul_le_mul_right _ hn
      have hH : HoldsK enc k w g 0 d := by
        intro j hj
        rw [size_flatK] at hj
        rw [get_flatK enc k d j hj]
        have hq : j / k < d.size := (Nat.div_lt_iff_lt_mul (by omega)).2 hj
        have hm' : j % k < k := Nat.mod_lt _ (by omega)
        have hcell : w.cell? ⟨g, 0 + j, none⟩ = cur[j]? := by rw [Nat.zero_add, cell_of_row w g j _ e _ hb]
        have hws : Ws k (l.map c) := h.1
        have hat := hws.at (j / k) (j % k) (c (l[j / k]'(by omega))) (by simp [show j / k < l.length by omega]) hm'
        have hdm : j / k * k + j % k = j := by rw [Nat.mul_comm]; exact Nat.div_add_mod j k
        rw [hdm, ← htk, List.getElem?_take, if_pos (by rw [hds] at hj; exact hj), Array.getElem?_toList] at hat
        have hdj : enc d[j / k]! = c (l[j / k]'(by omega)) := by
          have : d[j / k]! = ⟨l[j / k]'(by omega), List.getElem_mem _⟩ := by
            have hjl : j / k < d.size := hq
            rw [getElem!_pos d (j / k) hjl]
            show (l.attach.toArray)[j / k]'(by simpa using (show j / k < l.length by omega)) = _
            simp
          rw [this]
        refine ⟨?_, ?_⟩
        · rw [hcell, hat, hdj]
          have h5 : j % k < (c (l[j / k]'(by omega))).length := by rw [hc]; exact hm'
          simp [h5]
        · simp [World.frozen?, hb]
      have hcl : CmpLays P cf #[] enc k cfn g 0 d.size w := fun mm os dk hs x y => by
        have := hcmp x.1 y.1 (sortWorldK enc k w g 0 mm dk os) (hbd _ x.2) (hbd _ y.2)
        simpa [enc, cfn] using this
      have hone : ∀ x : A, ∀ u ∈ enc x, u.oneCell' = true := fun x u hu => by
        have hws : Ws k (l.map c) := h.1
        exact hws.one u (List.mem_flatten.2 ⟨c x.1, List.mem_map.2 ⟨x.1, x.2, rfl⟩, hu⟩)
      have := AnyQ.slices_SortFunc_total L k aE zE enc (fun x => hc x.1) hone cfn hO cf #[] g 0 cap d w eg hcl hH (Array.getElem?_eq_some_iff.1 hb).1 (by omega) hT
      rw [hds] at this
      rw [List.length_map]
      refine this.mono ?_
      rintro e' w' ⟨rfl, n, os, rfl⟩
      have hms : (d.toList.mergeSort fun x y => !(ltOf cfn) y x).map enc = (l.mergeSort fun a b => decide (key a ≤ key b)).map c := by
        have e1 : (d.toList.mergeSort fun x y => !(ltOf cfn) y x).map Subtype.val = (l.mergeSort fun a b => decide (key a ≤ key b)) := by
          rw [List.map_mergeSort (s := fun a b => decide (key a ≤ key b)) (fun a _ b _ => by rw [hlt]; by_cases hh : key b.1 < key a.1 <;> simp [hh] <;> omega)]
          congr 1
          show List.map Subtype.val l.attach = l
          simp
        rw [← e1, List.map_map]; rfl
      have hsl : (d.toList.mergeSort fun x y => !(ltOf cfn) y x).toArray.size = l.length := by rw [List.size_toArray, List.length_mergeSort]; exact hds
      obtain ⟨cur', q1, q2, q3, q4⟩ := sortW enc k hk (fun x => hc x.1) w g n (d.toList.mergeSort fun x y => !(ltOf cfn) y x).toArray os e cur hb (by rw [hsl, ← hds]; exact hle)
      rw [hsl, List.toList_toArray, hms] at q3
      refine ⟨_, rfl, ⟨?_, .inr ⟨hz, cap, cur', ?_, q1, ?_, ?_, ?_, ?_⟩⟩, by rw [hz]; exact q4⟩
      · exact ws_map' fun x _ => ⟨hc x, h1 x⟩
      · rw [List.length_map, List.length_mergeSort]
      · rw [List.length_map, List.length_mergeSort]; exact hn
      · exact hcap
      · rw [q2]; exact hsz
      · rw [List.length_map, List.length_mergeSort]; exact q3
end
end Go.Sx

end
section
set_option linter.unusedVariables false
set_option linter.unusedSimpArgs false
set_option maxRecDepth 100000
namespace Go.Proofs.Ytopkalcefepilaa.Mx
open Go Go.RowKit Go.Sx Go.Proofs Go.Shelf Go.Lib Go.Sort
def laySub_ren : Go.Shelf.Ren := ⟨fun | 6 => 69 | 15 => 104 | 14 => 103 | 28 => 129 | 29 => 130 | 20 => 121 | 21 => 122 | 22 => 123 | 23 => 124 | 24 => 125 | 25 => 126 | 26 => 127 | 27 => 128 | 46 => 139 | 47 => 140 | 48 => 141 | 49 => 142 | 50 => 143 | 57 => 148 | n => n, fun | 22 => 74 | 24 => 114 | 25 => 124 | 3 => 3 | 39 => 118 | 0 => 0 | 53 => 178 | 55 => 22 | 4 => 4 | 46 => 171 | 45 => 170 | 50 => 175 | 5 => 5 | 9 => 9 | 66 => 183 | 70 => 187 | 76 => 190 | 77 => 30 | n => n, fun | n => n⟩
theorem laySub : Go.Proofs.SlLaysF0.n6 Try.prog laySub_ren := {
  mixed := by kernel_rfl
  f6 := ⟨Try.f69.name, by decide, Try.func69.trans (congrArg some (by kernel_rfl))⟩
  f14 := ⟨Try.f103.name, by decide, Try.func103.trans (congrArg some (by kernel_rfl))⟩
  f15 := Try.func104.trans (congrArg some (by kernel_rfl))
  f20 := ⟨Try.f121.name, by decide, Try.func121.trans (congrArg some (by kernel_rfl))⟩
  f21 := ⟨Try.f122.name, by decide, Try.func122.trans (congrArg some (by kernel_rfl))⟩
  f22 := ⟨Try.f123.name, by decide, Try.func123.trans (congrArg some (by kernel_rfl))⟩
  f23 := ⟨Try.f124.name, by decide, Try.func124.trans (congrArg some (by kernel_rfl))⟩
  f24 := ⟨Try.f125.name, by decide, Try.func125.trans (congrArg some (by kernel_rfl))⟩
  f25 := ⟨Try.f126.name, by decide, Try.func126.trans (congrArg some (by kernel_rfl))⟩
  f26 := ⟨Try.f127.name, by decide, Try.func127.trans (congrArg some (by kernel_rfl))⟩
  f27 := ⟨Try.f128.name, by decide, Try.func128.trans (congrArg some (by kernel_rfl))⟩
  f28 := Try.func129.trans (congrArg some (by kernel_rfl))
  f29 := Try.func130.trans (congrArg some (by kernel_rfl))
  f46 := ⟨Try.f139.name, by decide, Try.func139.trans (congrArg some (by kernel_rfl))⟩
  f47 := Try.func140.trans (congrArg some (by kernel_rfl))
  f48 := Try.func141.trans (congrArg some (by kernel_rfl))
  f49 := ⟨Try.f142.name, by decide, Try.func142.trans (congrArg some (by kernel_rfl))⟩
  f50 := ⟨Try.f143.name, by decide, Try.func143.trans (congrArg some (by kernel_rfl))⟩
  f57 := ⟨Try.f148.name, by decide, Try.func148.trans (congrArg some (by kernel_rfl))⟩
  t0 := Try.underlying0
  a0 := Try.isAgg0
  z0 := Try.sizeOf0
  v0 := Try.zeroValue0
  t3 := Try.underlying3
  a3 := Try.isAgg3
  z3 := Try.sizeOf3
  v3 := Try.zeroValue3
  t4 := Try.underlying4
  a4 := Try.isAgg4
  z4 := Try.sizeOf4
  v4 := Try.zeroValue4
  t5 := Try.underlying5
  a5 := Try.isAgg5
  z5 := Try.sizeOf5
  v5 := Try.zeroValue5
  t9 := Try.underlying9
  a9 := Try.isAgg9
  z9 := Try.sizeOf9
  v9 := Try.zeroValue9
  t22 := Try.underlying74
  a22 := Try.isAgg74
  z22 := Try.sizeOf74
  v22 := Try.zeroValue74
  t25 := Try.underlying124
  a25 := Try.isAgg124
  z25 := Try.sizeOf124
  v25 := Try.zeroValue124
  t39 := Try.underlying118
  a39 := Try.isAgg118
  z39 := Try.sizeOf118
  v39 := Try.zeroValue118
  t45 := Try.underlying170
  a45 := Try.isAgg170
  z45 := Try.sizeOf170
  v45 := Try.zeroValue170
  t46 := Try.underlying171
  a46 := Try.isAgg171
  z46 := Try.sizeOf171
  v46 := Try.zeroValue171
  t50 := Try.underlying175
  a50 := Try.isAgg175
  z50 := Try.sizeOf175
  v50 := Try.zeroValue175
  t53 := Try.underlying178
  a53 := Try.isAgg178
  z53 := Try.sizeOf178
  v53 := Try.zeroValue178
  t55 := Try.underlying22
  a55 := Try.isAgg22
  z55 := Try.sizeOf22
  v55 := Try.zeroValue22
  t66 := Try.underlying183
  a66 := Try.isAgg183
  z66 := Try.sizeOf183
  v66 := Try.zeroValue183
  t70 := Try.underlying187
  a70 := Try.isAgg187
  z70 := Try.sizeOf187
  v70 := Try.zeroValue187
  t76 := Try.underlying190
  a76 := Try.isAgg190
  z76 := Try.sizeOf190
  v76 := Try.zeroValue190
  t77 := Try.underlying30
  a77 := Try.isAgg30
  z77 := Try.sizeOf30
  v77 := Try.zeroValue30 }
theorem w64_sub {a b : Int} (ha : 0 ≤ a ∧ a < 4611686018427387904) (hb : 0 ≤ b ∧ b < 4611686018427387904) : IntKind.i64.wrap (a - b) = a - b := by rw [IntKind.wrap_i64]; omega
set_option maxHeartbeats 1000000 in
theorem cloSub (x y : TSubset) (W : World) (hx : 0 ≤ x.Node ∧ x.Node < 4611686018427387904) (hy : 0 ≤ y.Node ∧ y.Node < 4611686018427387904) : Calls Try.prog 70 #[.agg #[.int .i64 x.Node, .int .i64 x.Minus], .agg #[.int .i64 y.Node, .int .i64 y.Minus]] W fun e w' => e = .returned (.int .i64 (x.Node - y.Node)) ∧ ∃ q os', w' = grow (W.drewN q) os' := by
  have hw := w64_sub hx hy
  go_enter Try.func70, Try.ntmps70
  go_wp2
  go_ret
  exact ⟨rfl, 0, _, by rw [alloc_eq_grow, alloc_eq_grow, grow_grow]; rfl⟩
theorem sortSub_c {l m : List TSubset} (hm : srtBy TSubset.Node l = some m) (w : World) (z g : Nat) (v : Value) (h : Own w z g 114 2 v (l.map TSubset.cs)) : Calls Try.prog 69 [v, .func (.func 70) #[] #[]].toArray w fun e' w' => ∃ v', e' = .returned v' ∧ (Own w' z g 114 2 v (m.map TSubset.cs) ∧ Kz [(z, g)] w w') :=
  sort_gen (ρ := laySub_ren) TSubset.cs 2 (fun _ => rfl) (fun x => TSubset.cs_ones x) (by decide) TSubset.Node 70 laySub (fun _ => by kernel_rfl) (fun _ => by kernel_rfl) (fun _ _ => by kernel_rfl) (fun x y W hx hy => cloSub x y W hx hy) hm w z g 114 v h
end Go.Proofs.Ytopkalcefepilaa.Mx

end
section
set_option linter.unusedVariables false
set_option linter.unusedSimpArgs false
namespace Go.Sx
open Go
theorem fuel_lt {n : Nat} (h : n < 9223372036854775808) : n < FUEL := by unfold FUEL; omega
theorem w64_id {n : Int} (h0 : -9223372036854775808 ≤ n) (h1 : n ≤ 9223372036854775807) : w64 n = n := by
  have := IntKind.wrap_i64 n
  unfold w64; rw [this]; omega
theorem bind_some {α β : Type} (a : α) (f : α → Option β) : Option.bind (some a) f = f a := rfl
theorem appG_some {α : Type} {b : Nat} {l m : List α} (h : (l.length + m.length) * b ≤ 140737488355328) : appG b l m = some (l ++ m) := if_pos h
theorem getI_some {α : Type} {l : List α} {i : Nat} (h : i < l.length) : getI l (i : Int) = some l[i] := by unfold getI; rw [if_pos (by omega)]; simp [h]
/-- the bytes of a word, the highest first -/
def w8 (x : BitVec 64) : List (BitVec 8) := [byt x 0, byt x 1, byt x 2, byt x 3, byt x 4, byt x 5, byt x 6, byt x 7]
end Go.Sx

end
section
set_option linter.unusedVariables false
set_option linter.unusedSimpArgs false
namespace Go.Sx
open Go
theorem log2_div (n k : Nat) (h : 2 ^ k ≤ n) : Nat.log2 n = Nat.log2 (n / 2 ^ k) + k := by
  induction k generalizing n with
  | zero => simp
  | succ k ih =>
    have h2 : 2 ^ k ≤ n / 2 := by rw [Nat.le_div_iff_mul_le (by omega)]; rw [Nat.pow_succ] at h; omega
    have h1 : 2 ≤ n := by have : 0 < 2 ^ k := Nat.two_pow_pos k; rw [Nat.pow_succ] at h; omega
    rw [Nat.log2_def, if_pos h1, ih (n / 2) h2, Nat.div_div_eq_div_mul, Nat.pow_succ, Nat.mul_comm 2]; omega
theorem log2_half {n : Nat} (h : 2 ≤ n) : Nat.log2 n = Nat.log2 (n / 2) + 1 := by rw [Nat.log2_def, if_pos h]
theorem log2_mono {m n : Nat} (h : m ≤ n) : Nat.log2 m ≤ Nat.log2 n := by
  rcases Nat.eq_zero_or_pos m with h0 | h0
  · subst h0; rw [Nat.log2_zero]; omega
  · exact (Nat.le_log2 (by omega)).2 (Nat.le_trans (Nat.log2_self_le (by omega)) h)
theorem log2_le62 {n : Nat} (h : n < 9223372036854775808) : Nat.log2 n ≤ 62 := by
  rcases Nat.eq_zero_or_pos n with h0 | h0
  · subst h0; rw [Nat.log2_zero]; omega
  · have : Nat.log2 n < 63 := (Nat.log2_lt (by omega)).2 (by omega)
    omega
theorem un_wdn {n : Nat} (h : n < 9223372036854775808) : un (wd (n : Int)) = (n : Int) := un_wd _ (by omega) (by omega)
theorem lg_nat {n : Nat} (h : 1 ≤ n) : lg (n : Int) = (Nat.log2 n : Int) + 1 := by unfold lg; rw [Int.toNat_natCast, if_neg (by omega)]
theorem level_eq {n : Nat} (h1 : 1 ≤ n) (h : n < 9223372036854775808) : cover_node_level (n : Int) = some (Nat.log2 n : Int) := by
  have := log2_le62 h
  unfold cover_node_level
  rw [un_wdn h, lg_nat h1, w64_id (by omega) (by omega), Int.add_sub_cancel]
/-- whether a node is below another one -/
def belowB (w v : Nat) : Bool := decide (Nat.log2 v ≤ Nat.log2 w ∧ w / 2 ^ (Nat.log2 w - Nat.log2 v) = v)
theorem shr_nat (n k : Nat) (hk : k ≤ 64) : shrI (n : Int) k = ((n / 2 ^ k : Nat) : Int) := by
  unfold shrI
  rw [Nat.min_eq_left hk, Int.natCast_ediv, Int.natCast_pow]; rfl
/-! sizes -/
def strd (d : Nat) : Nat := if d ≤ 1 then 1 else if d ≤ 4 then 2 else 3
theorem strd_pos (d : Nat) : 1 ≤ strd d := by unfold strd; split; omega; split <;> omega
theorem pow_le64 {d : Nat} (h : d ≤ 6) : 2 ^ d ≤ 64 := Nat.le_trans (Nat.pow_le_pow_right (by omega) h) (by decide)
theorem shl1 {d : Nat} (h : d ≤ 6) : shlI 1 d = ((2 ^ d : Nat) : Int) := by
  have := pow_le64 h
  unfold shlI
  rw [Nat.min_eq_left (by omega), Int.one_mul, show (2 : Int) ^ d = ((2 ^ d : Nat) : Int) from by rw [Int.natCast_pow]; rfl]
  generalize 2 ^ d = m at *
  exact w64_id (by omega) (by omega)
theorem shG_nat (n : Nat) : shG (n : Int) = some n := by unfold shG; rw [if_pos (by omega)]; rfl
theorem size_eq {k : BitVec 8} {d : Nat} {st : Int} (h : d ≤ 6) : cover_tree_size ⟨k, (d : Int), st⟩ = some ((2 ^ d : Nat) : Int) := by
  unfold cover_tree_size
  rw [shG_nat, bind_some, shl1 h]
/-! special nodes -/
def spcl (d v : Nat) : Bool := decide (Nat.log2 v % strd d = 0)
theorem rem_nat (a b : Nat) (hb : 1 ≤ b) : remI (a : Int) (b : Int) = some ((a % b : Nat) : Int) := by
  unfold remI
  rw [if_neg (by omega), Int.tmod_eq_emod_of_nonneg (by omega), Int.natCast_emod]
theorem special_eq {k : BitVec 8} {d v : Nat} (hv : 1 ≤ v) (hv2 : v < 9223372036854775808) : cover_tree_special ⟨k, (d : Int), (strd d : Int)⟩ (v : Int) = some (spcl d v) := by
  unfold cover_tree_special spcl
  rw [level_eq hv hv2, bind_some, rem_nat _ _ (strd_pos d), bind_some]
  congr 1; apply decide_eq_decide.2; omega
/-! paths -/
/-- the k nodes down to w -/
def pathN (w : Nat) : Nat → List Nat
  | 0 => []
  | k + 1 => w / 2 ^ k :: pathN w k
theorem pathN_bd {w k n : Nat} (hk : 2 ^ k ≤ w) (h : n ∈ pathN w k) : 1 ≤ n ∧ n ≤ w := by
  induction k with
  | zero => cases h
  | succ k ih =>
    have hk' : 2 ^ k ≤ w := by rw [Nat.pow_succ] at hk; omega
    rcases List.mem_cons.1 h with rfl | h
    · exact ⟨(Nat.le_div_iff_mul_le (Nat.two_pow_pos k)).2 (by omega), Nat.div_le_self _ _⟩
    · exact ih hk' h
theorem log2_divk {w k : Nat} (hk : 2 ^ k ≤ w) : Nat.log2 (w / 2 ^ k) = Nat.log2 w - k := by have := log2_div w k hk; omega
theorem div_pos' {w k : Nat} (hk : 2 ^ k ≤ w) : 1 ≤ w / 2 ^ k := (Nat.le_div_iff_mul_le (Nat.two_pow_pos k)).2 (by omega)
theorem toward_eq {w k : Nat} (hk : 2 ^ (k + 1) ≤ w) (hw : w < 9223372036854775808) : cover_node_toward ((w / 2 ^ (k + 1) : Nat) : Int) (w : Int) = some ((w / 2 ^ k : Nat) : Int) := by
  have hp := Nat.two_pow_pos (k + 1)
  have l1 := log2_le62 hw
  have hl := log2_div w (k + 1) hk
  unfold cover_node_toward
  rw [level_eq (by omega) hw, bind_some, level_eq (div_pos' hk) (Nat.lt_of_le_of_lt (Nat.div_le_self _ _) hw), bind_some, w64_id (n := (Nat.log2 w : Int) - (Nat.log2 (w / 2 ^ (k + 1)) : Int)) (by omega) (by omega), w64_id (by omega) (by omega)]
  rw [show (Nat.log2 w : Int) - (Nat.log2 (w / 2 ^ (k + 1)) : Int) - 1 = ((k : Nat) : Int) from by omega, shG_nat, bind_some, shr_nat _ _ (by omega)]
theorem path_loop {w : Nat} (hw : w < 9223372036854775808) : ∀ (k f : Nat), k < f → 2 ^ k ≤ w → fixN (cover_path_1_L1 (w : Int)) f ((w / 2 ^ k : Nat) : Int) = some ((pathN w k).map Int.ofNat)
  | k, 0, h, _ => by omega
  | 0, f + 1, _, _ => by
    rw [fix_step]; simp only [cover_path_1_L1]
    rw [if_neg (by simp)]; rfl
  | k + 1, f + 1, h, hk => by
    rw [fix_step]; simp only [cover_path_1_L1]
    have h1 : w / 2 ^ (k + 1) < w := Nat.div_lt_self (by have := Nat.two_pow_pos (k + 1); omega) (Nat.one_lt_two_pow (by omega))
    rw [if_pos (by omega), toward_eq hk hw, bind_some, path_loop hw k f (by omega) (by rw [Nat.pow_succ] at hk; omega)]
    rfl
theorem path_eq {w k : Nat} (hw : w < 9223372036854775808) (hk : 2 ^ k ≤ w) (hk2 : k ≤ 64) : cover_path_1 ((w / 2 ^ k : Nat) : Int) (w : Int) = some ((pathN w k).map Int.ofNat) := path_loop hw k FUEL (fuel_lt (by omega)) hk
theorem divk_ne {w j k : Nat} (hk : 2 ^ k ≤ w) (hj : j < k) : w / 2 ^ j ≠ w / 2 ^ k := fun e => by
  have h1 := log2_divk hk
  have h2 := log2_divk (w := w) (k := j) (Nat.le_trans (Nat.pow_le_pow_right (by omega) (by omega)) hk)
  have h3 := log2_div w k hk
  rw [e] at h2; omega
end Go.Sx

end
section
set_option linter.unusedVariables false
set_option linter.unusedSimpArgs false
namespace Go.Sx
open Go
def zG : TGroup := TGroup.mk 0#64 0#64 0#64
def vldB (s : TScheme) : Bool := decide (1#8 ≤ s.Kind ∧ s.Kind ≤ 3#8 ∧ 0 ≤ s.Depth ∧ s.Depth ≤ 6 ∧ s.Degree = 0 ∧ s.Group = zG)
theorem vld_depth {s : TScheme} (h : vldB s = true) : ∃ d : Nat, s.Depth = (d : Int) ∧ d ≤ 6 := by
  unfold vldB at h
  have := of_decide_eq_true h
  exact ⟨s.Depth.toNat, by omega, by omega⟩
theorem treeOf_step (s : TScheme) (n : Nat) (a : Int) : fixN (cover_treeOf_L2 s) (n + 1) a = if w64 (a * a) < s.Depth then fixN (cover_treeOf_L2 s) n (w64 (a + 1)) else some (Tcover_tree.mk s.Kind s.Depth a, true) := rfl
theorem treeOf_loop (s : TScheme) {d : Nat} (hd : s.Depth = (d : Int)) (h : d ≤ 6) : fixN (cover_treeOf_L2 s) FUEL 1 = some (Tcover_tree.mk s.Kind (d : Int) (strd d : Int), true) := by
  have e1 : w64 (1 * 1) = 1 := by decide
  have e2 : w64 (1 + 1) = 2 := by decide
  have e3 : w64 (2 * 2) = 4 := by decide
  have e4 : w64 (2 + 1) = 3 := by decide
  have e5 : w64 (3 * 3) = 9 := by decide
  rw [show FUEL = 18446744073709551613 + 3 from rfl, treeOf_step, e1, e2, hd]
  unfold strd
  by_cases h1 : d ≤ 1
  · rw [if_neg (by omega), if_pos h1, ← hd]; rfl
  · rw [if_pos (by omega), if_neg h1, show 18446744073709551613 + 2 = 18446744073709551614 + 1 from rfl, treeOf_step, e3, e4, hd]
    by_cases h2 : d ≤ 4
    · rw [if_neg (by omega), if_pos h2, ← hd]; rfl
    · rw [if_pos (by omega), if_neg h2, show 18446744073709551614 = 18446744073709551613 + 1 from rfl, treeOf_step, e5, hd, if_neg (by omega), ← hd]; rfl
def treeI (s : TScheme) : Tcover_tree := Tcover_tree.mk s.Kind s.Depth (strd s.Depth.toNat : Int)
theorem treeOf_eq (s : TScheme) : cover_treeOf s = some (if vldB s then (treeI s, true) else (Tcover_tree.mk 0#8 0 0, false)) := by
  unfold cover_treeOf cover_treeOf_J1
  by_cases hv : vldB s = true
  · rw [if_pos hv]
    obtain ⟨d, hd, h6⟩ := vld_depth hv
    unfold vldB at hv
    obtain ⟨h1, h2, h3, h4, h5, h7⟩ := of_decide_eq_true hv
    have hs : s = TScheme.mk s.Kind s.Depth 0 (TGroup.mk 0#64 0#64 0#64) := by cases s; simp only at *; rw [h5, h7]; rfl
    rw [if_neg (by rw [BitVec.not_lt]; exact h1), if_neg (by rw [BitVec.not_lt]; exact h2), if_neg (by omega), if_neg (by omega), decide_eq_false (by simpa using hs)]
    simp only [cond_false]
    rw [treeOf_loop s hd h6]
    unfold treeI
    rw [hd, Int.toNat_natCast]
  · rw [if_neg hv]
    have hn : ¬ (1#8 ≤ s.Kind ∧ s.Kind ≤ 3#8 ∧ 0 ≤ s.Depth ∧ s.Depth ≤ 6 ∧ s.Degree = 0 ∧ s.Group = zG) := fun h => hv (by unfold vldB; exact decide_eq_true h)
    by_cases h1 : s.Kind < 1#8
    · rw [if_pos h1]; rfl
    · rw [if_neg h1]
      by_cases h2 : 3#8 < s.Kind
      · rw [if_pos h2]; rfl
      · rw [if_neg h2]
        by_cases h3 : s.Depth < 0
        · rw [if_pos h3]; rfl
        · rw [if_neg h3]
          by_cases h4 : (6 : Int) < s.Depth
          · rw [if_pos h4]; rfl
          · rw [if_neg h4, decide_eq_true (p := s ≠ _)]
            · rfl
            · intro hs
              refine hn ⟨BitVec.not_lt.1 h1, BitVec.not_lt.1 h2, by omega, by omega, ?_, ?_⟩
              · rw [hs]
              · rw [hs]; rfl
/-! the first special node -/
def fstS (d : Nat) (l : List Nat) : Nat := (l.find? (spcl d)).getD 0
theorem first_eq {k : BitVec 8} {d : Nat} : ∀ (l : List Nat), (∀ n ∈ l, 1 ≤ n ∧ n < 9223372036854775808) →
    itL (cover_first_cover_path_1_cover_tree_special_R1 ⟨k, (d : Int), (strd d : Int)⟩) cover_first_cover_path_1_cover_tree_special_D1 (l.map Int.ofNat) 0 = some ((fstS d l : Nat) : Int)
  | [], _ => rfl
  | a :: l, h => by
    rw [List.map_cons, itL_cons]
    simp only [cover_first_cover_path_1_cover_tree_special_R1]
    have ha := h a (by simp)
    rw [show (Int.ofNat a) = (a : Int) from rfl, special_eq ha.1 ha.2, bind_some]
    unfold fstS
    rw [List.find?_cons]
    cases hs : spcl d a with
    | true => rfl
    | false => exact first_eq l (fun n hn => h n (by simp [hn]))
theorem half_pow {m k : Nat} (h : 2 ^ (k + 1) ≤ m) : 2 ^ k ≤ m / 2 := by rw [Nat.le_div_iff_mul_le (by omega)]; rw [Nat.pow_succ] at h; omega
theorem cut_eq {kd : BitVec 8} {d m k : Nat} (hm : m < 128) (hk : 2 ^ (k + 1) ≤ m) (hk2 : k ≤ 60) : cover_tree_cut ⟨kd, (d : Int), (strd d : Int)⟩ ((m / 2 ^ (k + 1) : Nat) : Int) (m : Int) = some ((fstS d (pathN (m / 2) k) : Nat) : Int) := by
  unfold cover_tree_cut cover_path cover_first_cover_path_1_cover_tree_special
  rw [show shG (un 1#64) = some 1 from by decide, bind_some, bind_some, shr_nat _ _ (by omega), Nat.pow_one]
  simp only
  have e : m / 2 ^ (k + 1) = m / 2 / 2 ^ k := by rw [Nat.div_div_eq_div_mul, Nat.pow_succ, Nat.mul_comm 2]
  have hp := half_pow hk
  rw [e, path_eq (by omega) hp (by omega), bind_some, first_eq _ (fun n hn => by have := pathN_bd hp hn; omega), bind_some]
end Go.Sx

end
section
set_option linter.unusedVariables false
set_option linter.unusedSimpArgs false
namespace Go.Sx
open Go
theorem fix_from {α σ τ R : Type} (l : List α) (F : (τ → Option R) → τ → Option R) (pk : Nat → σ → τ) (B : α → (σ → Option R) → σ → Option R) (D : σ → Option R)
    (h1 : ∀ rec (j : Nat) (hj : j < l.length) s, F rec (pk j s) = B l[j] (fun s' => rec (pk (j + 1) s')) s) (h2 : ∀ rec s, F rec (pk l.length s) = D s) :
    ∀ (m j f : Nat) (s : σ), j + m = l.length → m < f → fixN F f (pk j s) = itL B D (l.drop j) s
  | m, j, 0, s, _, h => by omega
  | 0, j, f + 1, s, hj, _ => by
    have : j = l.length := by omega
    subst this
    rw [fix_step, h2, List.drop_length]; rfl
  | m + 1, j, f + 1, s, hj, hf => by
    have hjl : j < l.length := by omega
    rw [fix_step, h1 _ j hjl, List.drop_eq_getElem_cons hjl, itL_cons]
    have : (fun s' => fixN F f (pk (j + 1) s')) = itL B D (l.drop (j + 1)) := funext fun s' => fix_from l F pk B D h1 h2 m (j + 1) f s' (by omega) (by omega)
    rw [this]
/-- a loop over the indexes of a list -/
theorem fix_itL {α σ τ R : Type} (l : List α) (F : (τ → Option R) → τ → Option R) (pk : Nat → σ → τ) (B : α → (σ → Option R) → σ → Option R) (D : σ → Option R)
    (h1 : ∀ rec (j : Nat) (hj : j < l.length) s, F rec (pk j s) = B l[j] (fun s' => rec (pk (j + 1) s')) s) (h2 : ∀ rec s, F rec (pk l.length s) = D s) {f : Nat} (hf : l.length < f) (s : σ) : fixN F f (pk 0 s) = itL B D l s := by
  have := fix_from l F pk B D h1 h2 l.length 0 f s (by omega) hf
  rwa [List.drop_zero] at this
/-- a loop over numbers below n -/
theorem fix_range {σ τ R : Type} (n : Nat) (F : (τ → Option R) → τ → Option R) (pk : Nat → σ → τ) (B : Nat → (σ → Option R) → σ → Option R) (D : σ → Option R)
    (h1 : ∀ rec (j : Nat) (hj : j < n) s, F rec (pk j s) = B j (fun s' => rec (pk (j + 1) s')) s) (h2 : ∀ rec s, F rec (pk n s) = D s) {f : Nat} (hf : n < f) (s : σ) : fixN F f (pk 0 s) = itL B D (List.range n) s :=
  fix_itL (List.range n) F pk B D (fun rec j hj s => by rw [List.length_range] at hj; rw [h1 rec j hj, List.getElem_range]) (fun rec s => by rw [List.length_range]; exact h2 rec s) (by rw [List.length_range]; exact hf) s
/-- a state that turns, with no way out -/
theorem itL_fold {α σ R : Type} (g : σ → α → σ) (F : α → (σ → Option R) → σ → Option R) (d : σ → Option R) (I : Nat → σ → Prop) : ∀ (l : List α) (k : Nat) (s : σ), (∀ j (a : α) s nx, a ∈ l → I j s → F a nx s = nx (g s a)) → (∀ j (a : α) s, a ∈ l → I j s → I (j + 1) (g s a)) → I k s → itL F d l s = d (l.foldl g s)
  | [], k, s, _, _, _ => rfl
  | a :: l, k, s, h, hi, hs => by
    rw [itL_cons, h k a s _ (by simp) hs, List.foldl_cons]
    exact itL_fold g F d I l (k + 1) (g s a) (fun j b s nx hb => h j b s nx (by simp [hb])) (fun j b s hb => hi j b s (by simp [hb])) (hi k a s (by simp) hs)
theorem w64_nat {n : Nat} (h : n < 9223372036854775807) : w64 ((n : Int) + 1) = ((n + 1 : Nat) : Int) := by rw [w64_id (by omega) (by omega)]; omega
end Go.Sx

end
section
set_option linter.unusedVariables false
set_option linter.unusedSimpArgs false
namespace Go.Sx
open Go
theorem leaf_eq {k : BitVec 8} {d u : Nat} {st : Int} (h : d ≤ 6) (hu : u < 128) : cover_tree_leaf ⟨k, (d : Int), st⟩ (u : Int) = some ((2 ^ d + u : Nat) : Int) := by
  have := pow_le64 h
  unfold cover_tree_leaf
  rw [size_eq h, bind_some]
  generalize 2 ^ d = m at *
  rw [w64_id (by omega) (by omega)]; congr 1
/-! both sides' way in -/
theorem enter0 (s : TScheme) : cover_enter s ([] : List TSubset) = some (if vldB s then (treeI s, 0) else (Tcover_tree.mk 0#8 0 0, 30)) := by
  unfold cover_enter
  rw [treeOf_eq, bind_some]
  cases hv : vldB s with
  | false => rfl
  | true => rfl
end Go.Sx

end
section
set_option linter.unusedVariables false
set_option linter.unusedSimpArgs false
set_option maxRecDepth 100000
namespace Go.Sx
open Go
/-- whether a node v and a node w strictly below it are a subset, in the kinds 2 and 3 -/
def subN (k : BitVec 8) (d v w : Nat) : Bool := decide (k = 2#8) || spcl d v || decide (fstS d (pathN (w / 2) (Nat.log2 w - Nat.log2 v - 1)) = 0)
theorem kind_cases {k : BitVec 8} (h1 : 1#8 ≤ k) (h3 : k ≤ 3#8) : k = 1#8 ∨ k = 2#8 ∨ k = 3#8 := by
  have a : 1 ≤ k.toNat := h1
  have b : k.toNat ≤ 3 := h3
  rcases (show k.toNat = 1 ∨ k.toNat = 2 ∨ k.toNat = 3 by omega) with h | h | h
  · exact .inl (BitVec.eq_of_toNat_eq h)
  · exact .inr (.inl (BitVec.eq_of_toNat_eq h))
  · exact .inr (.inr (BitVec.eq_of_toNat_eq h))
theorem vld_kind {s : TScheme} (h : vldB s = true) : 1#8 ≤ s.Kind ∧ s.Kind ≤ 3#8 := by
  unfold vldB at h
  have := of_decide_eq_true h
  exact ⟨this.1, this.2.1⟩
end Go.Sx

end
section
set_option linter.unusedVariables false
set_option linter.unusedSimpArgs false
set_option maxRecDepth 100000
namespace Go.Sx
open Go
theorem below_iff {w v : Nat} (hw : 1 ≤ w) : belowB w v = true ↔ ∃ k, 2 ^ k ≤ w ∧ v = w / 2 ^ k := by
  constructor
  · intro h
    unfold belowB at h
    obtain ⟨h1, h2⟩ := of_decide_eq_true h
    exact ⟨_, Nat.le_trans (Nat.pow_le_pow_right (by omega) (by omega)) (Nat.log2_self_le (by omega)), h2.symm⟩
  · rintro ⟨k, h1, rfl⟩
    unfold belowB
    have h2 := log2_divk h1
    have h3 := log2_div w k h1
    apply decide_eq_true
    refine ⟨by omega, ?_⟩
    rw [h2, show Nat.log2 w - (Nat.log2 w - k) = k from by omega]
theorem below_refl {w : Nat} (hw : 1 ≤ w) : belowB w w = true := (below_iff hw).2 ⟨0, by simpa using hw, by simp⟩
theorem below_pos {w v : Nat} (hw : 1 ≤ w) (h : belowB w v = true) : 1 ≤ v := by
  obtain ⟨k, h1, rfl⟩ := (below_iff hw).1 h
  exact div_pos' h1
theorem pow_div_le {w i j : Nat} (h : 2 ^ (i + j) ≤ w) : 2 ^ j ≤ w / 2 ^ i := by
  rw [Nat.le_div_iff_mul_le (Nat.two_pow_pos i), ← Nat.pow_add, Nat.add_comm]; exact h
theorem pow_div_le' {w i j : Nat} (h : 2 ^ j ≤ w / 2 ^ i) : 2 ^ (i + j) ≤ w := by
  rw [Nat.le_div_iff_mul_le (Nat.two_pow_pos i), ← Nat.pow_add, Nat.add_comm] at h; exact h
theorem below_log {w v : Nat} (hw : 1 ≤ w) (h : belowB w v = true) : Nat.log2 v ≤ Nat.log2 w := by
  unfold belowB at h
  exact (of_decide_eq_true h).1
theorem below_same {a b c : Nat} (ha : 1 ≤ a) (h1 : belowB a b = true) (h2 : belowB a c = true) (he : Nat.log2 b = Nat.log2 c) : b = c := by
  unfold belowB at h1 h2
  have p1 := (of_decide_eq_true h1).2
  have p2 := (of_decide_eq_true h2).2
  rw [he] at p1; rw [← p1, p2]
/-! siblings -/
theorem sib_fin : ∀ n : Fin 128, (n.1 ^^^ 1) / 2 = n.1 / 2 ∧ n.1 ^^^ 1 ≠ n.1 ∧ n.1 ^^^ 1 < 128 ∧ (2 ≤ n.1 → Nat.log2 (n.1 ^^^ 1) = Nat.log2 n.1 ∧ 2 ≤ n.1 ^^^ 1) ∧ n.1 ^^^ 1 ^^^ 1 = n.1 := by decide +kernel
theorem sib_half {n : Nat} (h : n < 128) : (n ^^^ 1) / 2 = n / 2 := (sib_fin ⟨n, h⟩).1
theorem sib_lt {n : Nat} (h : n < 128) : n ^^^ 1 < 128 := (sib_fin ⟨n, h⟩).2.2.1
theorem sib_log {n : Nat} (h : n < 128) (h2 : 2 ≤ n) : Nat.log2 (n ^^^ 1) = Nat.log2 n := ((sib_fin ⟨n, h⟩).2.2.2.1 h2).1
theorem sib_two_le {n : Nat} (h : n < 128) (h2 : 2 ≤ n) : 2 ≤ n ^^^ 1 := ((sib_fin ⟨n, h⟩).2.2.2.1 h2).2
theorem sib_sib {n : Nat} (h : n < 128) : n ^^^ 1 ^^^ 1 = n := (sib_fin ⟨n, h⟩).2.2.2.2
theorem bit_xor {n : Nat} (h : n < 128) : bitI .xor (n : Int) 1 = ((n ^^^ 1 : Nat) : Int) := by
  have : ∀ n : Fin 128, bitI .xor (n.1 : Int) 1 = ((n.1 ^^^ 1 : Nat) : Int) := by decide +kernel
  exact this ⟨n, h⟩
/-! paths -/
theorem pathN_mem {w k n : Nat} : n ∈ pathN w k ↔ ∃ j, j < k ∧ n = w / 2 ^ j := by
  induction k with
  | zero => simp [pathN]
  | succ k ih =>
    rw [pathN, List.mem_cons, ih]
    constructor
    · rintro (rfl | ⟨j, hj, rfl⟩)
      · exact ⟨k, by omega, rfl⟩
      · exact ⟨j, by omega, rfl⟩
    · rintro ⟨j, hj, rfl⟩
      rcases Nat.lt_or_ge j k with h | h
      · exact .inr ⟨j, h, rfl⟩
      · obtain rfl : j = k := by omega
        exact .inl rfl
/-- no special node strictly between -/
theorem fst0 {d : Nat} {l : List Nat} (hl : ∀ n ∈ l, 1 ≤ n) : fstS d l = 0 ↔ ∀ n ∈ l, spcl d n = false := by
  unfold fstS
  cases h : l.find? (spcl d) with
  | none =>
    rw [List.find?_eq_none] at h
    exact ⟨fun _ n hn => by simpa using h n hn, fun _ => rfl⟩
  | some a =>
    have h1 := List.find?_some h
    have h2 := List.mem_of_find?_eq_some h
    constructor
    · intro h0; simp at h0; have := hl a h2; omega
    · intro h0; rw [h0 a h2] at h1; cases h1
theorem leaf_log {d u : Nat} (hu : u < 2 ^ d) : Nat.log2 (2 ^ d + u) = d := by
  rw [Nat.log2_eq_iff (by have := Nat.two_pow_pos d; omega), Nat.pow_succ]; omega
theorem node_log {d n : Nat} (h1 : 1 ≤ n) (h : n < 2 ^ (d + 1)) : Nat.log2 n ≤ d := by
  have := (Nat.log2_lt (n := n) (k := d + 1) (by omega)).2 h; omega
end Go.Sx

end
section
set_option linter.unusedVariables false
set_option linter.unusedSimpArgs false
set_option maxRecDepth 100000
namespace Go.Sx
open Go
/-- whether a revoked receiver is below a node -/
def hotB (d : Nat) (R : List Nat) (v : Nat) : Bool := R.any fun u => belowB (2 ^ d + u) v
theorem hot_iff {d : Nat} {R : List Nat} {v : Nat} : hotB d R v = true ↔ ∃ u ∈ R, belowB (2 ^ d + u) v = true := by unfold hotB; rw [List.any_eq_true]
theorem dbl_fin : ∀ n : Fin 64, (2 * n.1) ^^^ 1 = 2 * n.1 + 1 ∧ (2 * n.1 + 1) ^^^ 1 = 2 * n.1 := by decide +kernel
theorem dbl0 {n : Nat} (h : n < 64) : (2 * n) ^^^ 1 = 2 * n + 1 := (dbl_fin ⟨n, h⟩).1
theorem dbl1 {n : Nat} (h : n < 64) : (2 * n + 1) ^^^ 1 = 2 * n := (dbl_fin ⟨n, h⟩).2
theorem div_succ (a b : Nat) : a / 2 ^ (b + 1) = a / 2 ^ b / 2 := by rw [Nat.pow_succ, Nat.div_div_eq_div_mul]
theorem below_kids {L v : Nat} (hL : 1 ≤ L) (hlt : Nat.log2 v < Nat.log2 L) (hv : 1 ≤ v) : belowB L v = (belowB L (2 * v) || belowB L (2 * v + 1)) := by
  rw [Bool.eq_iff_iff, Bool.or_eq_true, below_iff hL, below_iff hL, below_iff hL]
  constructor
  · rintro ⟨k, h1, h2⟩
    have hl := log2_div L k h1
    rw [← h2] at hl
    obtain ⟨j, rfl⟩ : ∃ j, k = j + 1 := ⟨k - 1, by omega⟩
    have h3 : 2 ^ j ≤ L := Nat.le_trans (Nat.pow_le_pow_right (by omega) (by omega)) h1
    rw [div_succ] at h2
    rcases (show L / 2 ^ j = 2 * v ∨ L / 2 ^ j = 2 * v + 1 by omega) with e | e
    · exact .inl ⟨j, h3, e.symm⟩
    · exact .inr ⟨j, h3, e.symm⟩
  · rintro (⟨j, h1, h2⟩ | ⟨j, h1, h2⟩)
    · exact ⟨j + 1, pow_div_le' (j := 1) (by rw [← h2]; omega), by rw [div_succ, ← h2]; omega⟩
    · exact ⟨j + 1, pow_div_le' (j := 1) (by rw [← h2]; omega), by rw [div_succ, ← h2]; omega⟩
theorem log2_dbl {v b : Nat} (hv : 1 ≤ v) (hb : b < 2) : Nat.log2 (2 * v + b) = Nat.log2 v + 1 := by
  rw [log2_half (by omega), show (2 * v + b) / 2 = v from by omega]
section
variable {d : Nat} {R : List Nat}
/-- receivers -/
def Rcv (d : Nat) (R : List Nat) : Prop := d ≤ 6 ∧ ∀ u ∈ R, u < 2 ^ d
theorem Rcv.leaf (h : Rcv d R) {u : Nat} (hu : u ∈ R) : 1 ≤ 2 ^ d + u ∧ 2 ^ d + u < 128 ∧ Nat.log2 (2 ^ d + u) = d := by
  have := pow_le64 h.1
  have := h.2 u hu
  have := Nat.two_pow_pos d
  exact ⟨by omega, by omega, leaf_log (h.2 u hu)⟩
theorem node_lt {v : Nat} (hv : 1 ≤ v) : v < 2 ^ d ↔ Nat.log2 v < d := by rw [Nat.log2_lt (by omega)]
/-- an inner node is hot just if a child is -/
theorem hot_kids (h : Rcv d R) {v : Nat} (hv : 1 ≤ v) (hl : Nat.log2 v < d) : hotB d R v = (hotB d R (2 * v) || hotB d R (2 * v + 1)) := by
  rw [Bool.eq_iff_iff, Bool.or_eq_true, hot_iff, hot_iff, hot_iff]
  constructor
  · rintro ⟨u, hu, hb⟩
    obtain ⟨h1, h2, h3⟩ := h.leaf hu
    rw [below_kids h1 (by omega) hv, Bool.or_eq_true] at hb
    rcases hb with hb | hb
    · exact .inl ⟨u, hu, hb⟩
    · exact .inr ⟨u, hu, hb⟩
  · rintro (⟨u, hu, hb⟩ | ⟨u, hu, hb⟩) <;>
    · obtain ⟨h1, h2, h3⟩ := h.leaf hu
      refine ⟨u, hu, ?_⟩
      rw [below_kids h1 (by omega) hv, hb]; simp
theorem hot_log (h : Rcv d R) {v : Nat} (hv : hotB d R v = true) : 1 ≤ v ∧ Nat.log2 v ≤ d ∧ v < 2 ^ (d + 1) := by
  obtain ⟨u, hu, hb⟩ := hot_iff.1 hv
  obtain ⟨h1, h2, h3⟩ := h.leaf hu
  have hp := below_pos h1 hb
  have hl := below_log h1 hb
  rw [h3] at hl
  exact ⟨hp, hl, (Nat.log2_lt (by omega)).1 (by omega)⟩
theorem hot_up (h : Rcv d R) {v : Nat} (hv : hotB d R v = true) (h2 : 2 ≤ v) : hotB d R (v / 2) = true := by
  obtain ⟨h1, hl, _⟩ := hot_log h hv
  have hh := log2_half h2
  rw [hot_kids h (by omega) (by omega)]
  rcases (show 2 * (v / 2) = v ∨ 2 * (v / 2) + 1 = v by omega) with e | e
  · rw [e, hv]; simp
  · rw [e, hv]; simp
theorem hot_ups (h : Rcv d R) {v : Nat} (hv : hotB d R v = true) : ∀ k, 2 ^ k ≤ v → hotB d R (v / 2 ^ k) = true
  | 0, _ => by simpa using hv
  | k + 1, hk => by
    rw [div_succ]
    have h1 : 2 ^ k ≤ v := Nat.le_trans (Nat.pow_le_pow_right (by omega) (by omega)) hk
    refine hot_up h (hot_ups h hv k h1) ?_
    have := pow_div_le (i := k) (j := 1) hk
    simpa using this
/-- exactly one child is hot -/
def brN (d : Nat) (R : List Nat) (v : Nat) : Bool := hotB d R (2 * v) != hotB d R (2 * v + 1)
def nxN (d : Nat) (R : List Nat) (v : Nat) : Nat := if hotB d R (2 * v) then 2 * v else 2 * v + 1
def footN (d : Nat) (R : List Nat) : Nat → Nat → Nat
  | 0, v => v
  | f + 1, v => if brN d R v then footN d R f (nxN d R v) else v
theorem br_inner (h : Rcv d R) {v : Nat} (hv : 1 ≤ v) (hb : brN d R v = true) : Nat.log2 v < d ∧ hotB d R v = true := by
  unfold brN at hb
  have hx : hotB d R (2 * v) = true ∨ hotB d R (2 * v + 1) = true := by
    cases h1 : hotB d R (2 * v) <;> cases h2 : hotB d R (2 * v + 1) <;> simp_all
  have hl : Nat.log2 v < d := by
    rcases hx with hx | hx
    · have := (hot_log h hx).2.1; have := log2_dbl hv (b := 0) (by omega); simp at this; omega
    · have := (hot_log h hx).2.1; have := log2_dbl hv (b := 1) (by omega); omega
  refine ⟨hl, ?_⟩
  rw [hot_kids h hv hl]
  rcases hx with hx | hx <;> simp [hx]
/-- the nodes from below v down to w are hot, and their siblings are not -/
def Chn (d : Nat) (R : List Nat) (v w : Nat) : Prop := ∃ k, 2 ^ k ≤ w ∧ v = w / 2 ^ k ∧ ∀ j, j < k → hotB d R (w / 2 ^ j) = true ∧ hotB d R ((w / 2 ^ j) ^^^ 1) = false
theorem foot_spec (h : Rcv d R) : ∀ (f v : Nat), 1 ≤ v → Nat.log2 v ≤ d → d - Nat.log2 v < f → 1 ≤ footN d R f v ∧ Nat.log2 (footN d R f v) ≤ d ∧ brN d R (footN d R f v) = false ∧ Chn d R v (footN d R f v)
  | 0, v, _, _, hf => by omega
  | f + 1, v, hv, hl, hf => by
    unfold footN
    cases hb : brN d R v with
    | false => exact ⟨by simpa using hv, by simpa using hl, by simpa using hb, ⟨0, by simpa using hv, by simp, fun j hj => by omega⟩⟩
    | true =>
      rw [if_pos rfl]
      obtain ⟨hl2, _⟩ := br_inner h hv hb
      have h64 := pow_le64 h.1
      have hv64 : v < 64 := by have := (node_lt (d := d) hv).2 hl2; omega
      have hc : (nxN d R v) / 2 = v ∧ 2 ≤ nxN d R v ∧ Nat.log2 (nxN d R v) = Nat.log2 v + 1 ∧ hotB d R (nxN d R v) = true ∧ hotB d R (nxN d R v ^^^ 1) = false := by
        unfold nxN
        unfold brN at hb
        cases h1 : hotB d R (2 * v) with
        | true =>
          rw [h1] at hb
          rw [if_pos rfl]
          refine ⟨by omega, by omega, log2_dbl hv (b := 0) (by omega), h1, ?_⟩
          rw [dbl0 hv64]; simpa using hb
        | false =>
          rw [h1] at hb
          rw [if_neg (by simp)]
          refine ⟨by omega, by omega, log2_dbl hv (b := 1) (by omega), by simpa using hb, ?_⟩
          rw [dbl1 hv64]; exact h1
      obtain ⟨c1, c2, c3, c4, c5⟩ := hc
      obtain ⟨g1, g2, g3, k, g4, g5, g6⟩ := foot_spec h f (nxN d R v) (by omega) (by omega) (by omega)
      refine ⟨g1, g2, g3, k + 1, ?_, ?_, ?_⟩
      · exact pow_div_le' (j := 1) (by rw [← g5]; omega)
      · rw [div_succ, ← g5]; exact c1.symm
      · intro j hj
        rcases Nat.lt_or_ge j k with hjk | hjk
        · exact g6 j hjk
        · obtain rfl : j = k := by omega
          rw [← g5]; exact ⟨c4, c5⟩
/-- the head of a node: from it on upwards, the first with a hot sibling, or the root -/
def hdN (d : Nat) (R : List Nat) : Nat → Nat → Nat
  | 0, x => x
  | f + 1, x => if x = 1 ∨ hotB d R (x ^^^ 1) = true then x else hdN d R f (x / 2)
def isHd (d : Nat) (R : List Nat) (v : Nat) : Bool := decide (v = 1) || hotB d R (v ^^^ 1)
theorem hd_self {f x : Nat} (h : isHd d R x = true) : hdN d R f x = x := by
  cases f with
  | zero => rfl
  | succ f =>
    unfold hdN
    unfold isHd at h
    rw [Bool.or_eq_true, decide_eq_true_eq] at h
    rw [if_pos h]
theorem hd_chain {v w : Nat} (hv : isHd d R v = true) (hv1 : 1 ≤ v) : ∀ (j k f : Nat), 2 ^ (j + k) ≤ w → v = w / 2 ^ (j + k) → (∀ i, j ≤ i → i < j + k → hotB d R ((w / 2 ^ i) ^^^ 1) = false) → k ≤ f → hdN d R f (w / 2 ^ j) = v
  | j, 0, f, h1, h2, _, _ => by rw [Nat.add_zero] at h2; rw [← h2]; exact hd_self hv
  | j, k + 1, 0, h1, h2, h3, hf => by omega
  | j, k + 1, f + 1, h1, h2, h3, hf => by
    unfold hdN
    have h4 := h3 j (by omega) (by omega)
    have h5 : w / 2 ^ j ≠ 1 := by
      have := pow_div_le (w := w) (i := j) (j := 1) (Nat.le_trans (Nat.pow_le_pow_right (by omega) (by omega)) h1)
      simp at this; omega
    rw [if_neg (by rw [h4]; simp [h5]), ← div_succ]
    exact hd_chain hv hv1 (j + 1) k f (by rw [show j + 1 + k = j + (k + 1) from by omega]; exact h1) (by rw [show j + 1 + k = j + (k + 1) from by omega]; exact h2) (fun i h6 h7 => h3 i (by omega) (by omega)) (by omega)
theorem hd_spec : ∀ (f x : Nat), 1 ≤ x → Nat.log2 x < f → isHd d R (hdN d R f x) = true ∧ ∃ i, 2 ^ i ≤ x ∧ hdN d R f x = x / 2 ^ i ∧ ∀ t, t < i → isHd d R (x / 2 ^ t) = false
  | 0, x, _, h => by omega
  | f + 1, x, hx, hf => by
    unfold hdN
    by_cases hc : x = 1 ∨ hotB d R (x ^^^ 1) = true
    · rw [if_pos hc]; exact ⟨by unfold isHd; simpa using hc, 0, by simpa using hx, by simp, fun t ht => by omega⟩
    · rw [if_neg hc]
      have hx2 : 2 ≤ x := by rw [not_or] at hc; omega
      have hh := log2_half hx2
      obtain ⟨h1, i, h2, h3, h4⟩ := hd_spec f (x / 2) (by omega) (by omega)
      refine ⟨h1, i + 1, ?_, ?_, ?_⟩
      · rw [Nat.pow_succ]; omega
      · rw [h3, Nat.div_div_eq_div_mul, Nat.pow_succ, Nat.mul_comm 2]
      · intro t ht
        cases t with
        | zero => simp only [Nat.pow_zero, Nat.div_one]; unfold isHd; simpa [not_or] using hc
        | succ t =>
          have := h4 t (by omega)
          rw [Nat.div_div_eq_div_mul, show 2 * 2 ^ t = 2 ^ (t + 1) from by rw [Nat.pow_succ, Nat.mul_comm]] at this; exact this
/-- the first special node strictly between -/
def cutN (d v w : Nat) : Nat := fstS d (pathN (w / 2) (Nat.log2 w - Nat.log2 v - 1))
/-- Minus of the cover's subset with a Node, if there is one -/
def minN (k : BitVec 8) (d : Nat) (R : List Nat) (x : Nat) : Option Nat :=
  if k = 1#8 then (if !hotB d R x && (decide (x = 1) || hotB d R (x / 2)) then some 0 else none)
  else if hotB d R x then
    (if footN d R 7 (hdN d R 7 x) = hdN d R 7 x then none
    else if x = hdN d R 7 x then some (if subN k d (hdN d R 7 x) (footN d R 7 (hdN d R 7 x)) then footN d R 7 (hdN d R 7 x) else cutN d (hdN d R 7 x) (footN d R 7 (hdN d R 7 x)))
    else if !subN k d (hdN d R 7 x) (footN d R 7 (hdN d R 7 x)) && decide (x = cutN d (hdN d R 7 x) (footN d R 7 (hdN d R 7 x))) then some (footN d R 7 (hdN d R 7 x)) else none)
  else none
def nodN (d : Nat) : List Nat := (List.range (2 ^ (d + 1) - 1)).map (· + 1)
/-- the cover -/
def covN (k : BitVec 8) (d : Nat) (R : List Nat) : List (Nat × Nat) := (nodN d).filterMap fun x => (minN k d R x).map fun m => (x, m)
theorem nod_mem {x : Nat} : x ∈ nodN d ↔ 1 ≤ x ∧ x < 2 ^ (d + 1) := by
  unfold nodN
  rw [List.mem_map]
  constructor
  · rintro ⟨a, ha, rfl⟩; have := List.mem_range.1 ha; omega
  · rintro ⟨h1, h2⟩; exact ⟨x - 1, List.mem_range.2 (by omega), by omega⟩
theorem cov_mem {k : BitVec 8} {y : Nat × Nat} : y ∈ covN k d R ↔ (1 ≤ y.1 ∧ y.1 < 2 ^ (d + 1)) ∧ minN k d R y.1 = some y.2 := by
  unfold covN
  rw [List.mem_filterMap]
  constructor
  · rintro ⟨x, hx, he⟩
    obtain ⟨m, hm, rfl⟩ := Option.map_eq_some_iff.1 he
    exact ⟨nod_mem.1 hx, hm⟩
  · rintro ⟨h1, h2⟩; exact ⟨y.1, nod_mem.2 h1, by rw [h2]; rfl⟩
/-- strictly ascending -/
def Asc (l : List (Nat × Nat)) : Prop := l.Pairwise fun a b => a.1 < b.1
theorem cov_asc {k : BitVec 8} : Asc (covN k d R) := by
  unfold Asc covN
  rw [List.pairwise_filterMap]
  have : (nodN d).Pairwise fun a b => a < b := by
    unfold nodN
    rw [List.pairwise_map]
    exact List.pairwise_lt_range.imp (by omega)
  refine this.imp ?_
  intro a b hab y hy z hz
  obtain ⟨_, _, rfl⟩ := Option.map_eq_some_iff.1 hy
  obtain ⟨_, _, rfl⟩ := Option.map_eq_some_iff.1 hz
  exact hab
theorem asc_ext : ∀ {l m : List (Nat × Nat)}, Asc l → Asc m → (∀ y, y ∈ l ↔ y ∈ m) → l = m
  | [], [], _, _, _ => rfl
  | [], b :: m, _, _, h => absurd ((h b).2 (by simp)) (by simp)
  | a :: l, [], _, _, h => absurd ((h a).1 (by simp)) (by simp)
  | a :: l, b :: m, hl, hm, h => by
    have ha := List.pairwise_cons.1 hl
    have hb := List.pairwise_cons.1 hm
    have hab : a = b := by
      rcases List.mem_cons.1 ((h a).1 (by simp)) with e | e
      · exact e
      · rcases List.mem_cons.1 ((h b).2 (by simp)) with e2 | e2
        · exact e2.symm
        · have := ha.1 b e2; have := hb.1 a e; omega
    subst hab
    congr 1
    refine asc_ext ha.2 hb.2 fun y => ?_
    constructor
    · intro hy
      rcases List.mem_cons.1 ((h y).1 (by simp [hy])) with e | e
      · subst e; have := ha.1 y hy; omega
      · exact e
    · intro hy
      rcases List.mem_cons.1 ((h y).2 (by simp [hy])) with e | e
      · subst e; have := hb.1 y hy; omega
      · exact e
/-- what comes of a hot node: the program's way -/
def outP (k : BitVec 8) (d : Nat) (R : List Nat) (v : Nat) : List (Nat × Nat) :=
  if k = 1#8 then (if v ≠ 1 ∧ hotB d R (v ^^^ 1) = false then [(v ^^^ 1, 0)] else [])
  else if isHd d R v then (if footN d R 7 v = v then [] else if subN k d v (footN d R 7 v) then [(v, footN d R 7 v)] else [(v, cutN d v (footN d R 7 v)), (cutN d v (footN d R 7 v), footN d R 7 v)])
  else []
/-- from which hot node a subset of the cover comes -/
def ownN (k : BitVec 8) (d : Nat) (R : List Nat) (y : Nat × Nat) : Nat := if k = 1#8 then y.1 ^^^ 1 else hdN d R 7 y.1
theorem cut_chain {k : BitVec 8} {v w : Nat} (hK : 2 ^ k.toNat ≤ w ∨ True) {K : Nat} (h1 : 2 ^ K ≤ w) (h2 : v = w / 2 ^ K) (hv : 1 ≤ v) (hs : subN k d v w = false) : ∃ j, 1 ≤ j ∧ j < K ∧ cutN d v w = w / 2 ^ j := by
  have hl := log2_div w K h1
  rw [← h2] at hl
  unfold subN at hs
  simp only [Bool.or_eq_false_iff, decide_eq_false_iff_not] at hs
  have h0 : cutN d v w ≠ 0 := hs.2
  unfold cutN at h0 ⊢
  unfold fstS at h0 ⊢
  cases hf : (pathN (w / 2) (Nat.log2 w - Nat.log2 v - 1)).find? (spcl d) with
  | none => rw [hf] at h0; simp at h0
  | some c =>
    obtain ⟨j, hj, rfl⟩ := pathN_mem.1 (List.mem_of_find?_eq_some hf)
    refine ⟨j + 1, by omega, by omega, ?_⟩
    rw [Option.getD_some, Nat.div_div_eq_div_mul, show 2 * 2 ^ j = 2 ^ (j + 1) from by rw [Nat.pow_succ, Nat.mul_comm]]
theorem cov_own (h : Rcv d R) {k : BitVec 8} (hne : R ≠ []) {v : Nat} (hv : hotB d R v = true) (y : Nat × Nat) : (y ∈ covN k d R ∧ ownN k d R y = v) ↔ y ∈ outP k d R v := by
  have h64 := pow_le64 h.1
  have hpow : 2 ^ (d + 1) = 2 * 2 ^ d := by rw [Nat.pow_succ, Nat.mul_comm]
  obtain ⟨v1, vl, v2⟩ := hot_log h hv
  rw [cov_mem]
  by_cases hk : k = 1#8
  · unfold minN ownN outP
    rw [if_pos hk, if_pos hk, if_pos hk]
    have hroot : hotB d R 1 = true := by
      obtain ⟨u, hu⟩ := List.exists_mem_of_ne_nil R hne
      obtain ⟨l1, l2, l3⟩ := h.leaf hu
      exact hot_iff.2 ⟨u, hu, (below_iff l1).2 ⟨d, by omega, by rw [Nat.add_div_left _ (Nat.two_pow_pos d), Nat.div_eq_of_lt (h.2 u hu)]⟩⟩
    constructor
    · rintro ⟨⟨⟨y1, y2⟩, hm⟩, rfl⟩
      split at hm
      · rename_i hc
        simp only [Bool.and_eq_true, Bool.not_eq_true', Bool.or_eq_true, decide_eq_true_eq] at hc
        have hy0 : y.2 = 0 := (Option.some.inj hm).symm
        have hyn : y.1 ≠ 1 := fun e => by rw [e] at hc; rw [hroot] at hc; simp at hc
        have hss := sib_sib (n := y.1) (by omega)
        rw [hss]
        have hs1 : y.1 ^^^ 1 ≠ 1 := by have := sib_two_le (n := y.1) (by omega) (by omega); omega
        rw [if_pos ⟨hs1, hc.1⟩]
        simp only [List.mem_singleton]
        cases y; simp only at *; rw [hy0]
      · cases hm
    · intro hy
      split at hy
      · rename_i hc
        simp only [List.mem_singleton] at hy
        subst hy
        simp only
        have hv2 : 2 ≤ v := by omega
        have e1 := sib_lt (n := v) (by omega)
        have e2 := sib_two_le (n := v) (by omega) hv2
        have e3 := sib_log (n := v) (by omega) hv2
        refine ⟨⟨⟨by omega, ?_⟩, ?_⟩, sib_sib (by omega)⟩
        · exact (Nat.log2_lt (by omega)).1 (by omega)
        · rw [if_pos]
          simp only [Bool.and_eq_true, Bool.not_eq_true', Bool.or_eq_true, decide_eq_true_eq]
          refine ⟨hc.2, .inr ?_⟩
          rw [sib_half (by omega)]; exact hot_up h hv hv2
      · cases hy
  · unfold minN ownN outP
    rw [if_neg hk, if_neg hk, if_neg hk]
    constructor
    · rintro ⟨⟨⟨y1, y2⟩, hm⟩, rfl⟩
      have hl7 : Nat.log2 y.1 < 7 := by have := (Nat.log2_lt (n := y.1) (k := d + 1) (by omega)).2 y2; have := h.1; omega
      rw [if_pos (hd_spec 7 y.1 y1 hl7).1]
      generalize hdN d R 7 y.1 = v at *
      generalize footN d R 7 v = w at *
      split at hm
      · split at hm
        · cases hm
        · rename_i h1 h2
          rw [if_neg h2]
          split at hm
          · rename_i h3
            have hm' := Option.some.inj hm
            split
            · rename_i h4
              rw [if_pos h4] at hm'
              simp only [List.mem_singleton]; cases y; simp only at *; rw [h3, hm']
            · rename_i h4
              rw [if_neg h4] at hm'
              simp only [List.mem_cons, List.not_mem_nil, or_false]; left; cases y; simp only at *; rw [h3, hm']
          · split at hm
            · rename_i h3 h4
              simp only [Bool.and_eq_true, Bool.not_eq_true', decide_eq_true_eq] at h4
              rw [if_neg (by rw [h4.1]; simp)]
              simp only [List.mem_cons, List.not_mem_nil, or_false]; right
              have hm' := Option.some.inj hm
              cases y; simp only at *; rw [← h4.2, hm']
            · cases hm
      · cases hm
    · intro hy
      split at hy
      · rename_i hh
        obtain ⟨w1, w2, w3, K, w4, w5, w6⟩ := foot_spec h 7 v v1 vl (by have := h.1; omega)
        generalize hw : footN d R 7 v = w at *
        have hs : hdN d R 7 v = v := hd_self hh
        split at hy
        · cases hy
        · rename_i hne2
          split at hy
          · rename_i h4
            simp only [List.mem_singleton] at hy
            subst hy
            simp only [hs, hw, hv, if_true, if_neg hne2, h4]
            exact ⟨⟨⟨v1, v2⟩, trivial⟩, trivial⟩
          · rename_i h4
            have h4' : subN k d v w = false := by simpa using h4
            simp only [List.mem_cons, List.not_mem_nil, or_false] at hy
            rcases hy with rfl | rfl
            · simp only [hs, hw, hv, if_true, if_neg hne2, h4', Bool.false_eq_true, if_false]
              exact ⟨⟨⟨v1, v2⟩, trivial⟩, trivial⟩
            · obtain ⟨j, j1, j2, j3⟩ := cut_chain (k := k) (d := d) (.inr trivial) w4 w5 v1 h4'
              have hlw := log2_div w K w4
              have hKd : K ≤ 6 := by have := h.1; omega
              have hc : hdN d R 7 (cutN d v w) = v := by
                rw [j3]
                exact hd_chain hh v1 j (K - j) 7 (by rw [show j + (K - j) = K from by omega]; exact w4) (by rw [show j + (K - j) = K from by omega]; exact w5) (fun i _ hi => (w6 i (by omega)).2) (by omega)
              have hj2 : 2 ^ j ≤ w := Nat.le_trans (Nat.pow_le_pow_right (by omega) (by omega)) w4
              have hch : hotB d R (cutN d v w) = true := by rw [j3]; exact (w6 j j2).1
              have hcv : cutN d v w ≠ v := by
                rw [j3, w5]; exact divk_ne w4 j2
              obtain ⟨c1, _, c3⟩ := hot_log h hch
              simp only [hc, hw, hch, if_true, if_neg hne2, if_neg hcv, h4']
              simp only [Bool.not_false, Bool.true_and, decide_true, if_true]
              exact ⟨⟨⟨c1, c3⟩, trivial⟩, trivial⟩
      · cases hy
theorem own_hot (h : Rcv d R) {k : BitVec 8} (hne : R ≠ []) {y : Nat × Nat} (hy : y ∈ covN k d R) : hotB d R (ownN k d R y) = true := by
  have h64 := pow_le64 h.1
  have hpow : 2 ^ (d + 1) = 2 * 2 ^ d := by rw [Nat.pow_succ, Nat.mul_comm]
  obtain ⟨⟨y1, y2⟩, hm⟩ := cov_mem.1 hy
  unfold minN at hm
  unfold ownN
  by_cases hk : k = 1#8
  · rw [if_pos hk] at hm ⊢
    split at hm
    · rename_i hc
      simp only [Bool.and_eq_true, Bool.not_eq_true', Bool.or_eq_true, decide_eq_true_eq] at hc
      have hroot : hotB d R 1 = true := by
        obtain ⟨u, hu⟩ := List.exists_mem_of_ne_nil R hne
        obtain ⟨l1, l2, l3⟩ := h.leaf hu
        exact hot_iff.2 ⟨u, hu, (below_iff l1).2 ⟨d, by omega, by rw [Nat.add_div_left _ (Nat.two_pow_pos d), Nat.div_eq_of_lt (h.2 u hu)]⟩⟩
      have hyn : y.1 ≠ 1 := fun e => by rw [e] at hc; rw [hroot] at hc; simp at hc
      have hp : hotB d R (y.1 / 2) = true := by
        rcases hc.2 with e | e
        · exact absurd e hyn
        · exact e
      have hlg := log2_half (n := y.1) (by omega)
      have hyl : Nat.log2 y.1 ≤ d := node_log y1 y2
      rw [hot_kids h (by omega) (by omega), Bool.or_eq_true] at hp
      have hz : y.1 / 2 < 64 := by omega
      rcases (show y.1 = 2 * (y.1 / 2) ∨ y.1 = 2 * (y.1 / 2) + 1 by omega) with e | e
      · have h2 : hotB d R (2 * (y.1 / 2)) = false := by rw [← e]; exact hc.1
        have : y.1 ^^^ 1 = 2 * (y.1 / 2) + 1 := by rw [← dbl0 hz, ← e]
        rw [this]; rw [h2] at hp; simpa using hp
      · have h2 : hotB d R (2 * (y.1 / 2) + 1) = false := by rw [← e]; exact hc.1
        have : y.1 ^^^ 1 = 2 * (y.1 / 2) := by rw [← dbl1 hz, ← e]
        rw [this]; rw [h2] at hp; simpa using hp
    · cases hm
  · rw [if_neg hk] at hm ⊢
    split at hm
    · rename_i hx
      have hl7 : Nat.log2 y.1 < 7 := by have := node_log y1 y2; have := h.1; omega
      obtain ⟨_, i, i1, i2, _⟩ := hd_spec (d := d) (R := R) 7 y.1 y1 hl7
      rw [i2]; exact hot_ups h hx i i1
    · cases hm
end
end Go.Sx

end
section
set_option linter.unusedVariables false
set_option linter.unusedSimpArgs false
set_option maxRecDepth 100000
namespace Go.Sx
open Go
variable {d : Nat} {R : List Nat}
theorem root_hot (h : Rcv d R) (hne : R ≠ []) : hotB d R 1 = true := by
  obtain ⟨u, hu⟩ := List.exists_mem_of_ne_nil R hne
  obtain ⟨l1, l2, l3⟩ := h.leaf hu
  exact hot_iff.2 ⟨u, hu, (below_iff l1).2 ⟨d, by omega, by rw [Nat.add_div_left _ (Nat.two_pow_pos d), Nat.div_eq_of_lt (h.2 u hu)]⟩⟩
theorem br_of {z c : Nat} (hz : c / 2 = z) (h2 : 2 ≤ c) (hc : c < 128) (hh : hotB d R c = true) (hs : hotB d R (c ^^^ 1) = false) : brN d R z = true ∧ nxN d R z = c := by
  unfold brN nxN
  rcases (show 2 * (c / 2) = c ∨ 2 * (c / 2) + 1 = c by omega) with e | e
  · have := dbl0 (n := c / 2) (by omega)
    rw [e] at this
    rw [this] at hs
    rw [hz] at e
    rw [e, hh, hs]; simp
  · have := dbl1 (n := c / 2) (by omega)
    rw [e] at this
    rw [this, hz] at hs
    rw [hz] at e
    rw [e, hh, hs]; simp
theorem foot_down {z : Nat} (hz : z < 128) : ∀ (i g : Nat), 2 ^ i ≤ z → (∀ t, t < i → hotB d R (z / 2 ^ t) = true ∧ hotB d R ((z / 2 ^ t) ^^^ 1) = false) → footN d R (i + g) (z / 2 ^ i) = footN d R g z
  | 0, g, _, _ => by simp
  | i + 1, g, hi, hc => by
    obtain ⟨c1, c2⟩ := hc i (by omega)
    have h2 : 2 ≤ z / 2 ^ i := by have := pow_div_le (w := z) (i := i) (j := 1) hi; simpa using this
    obtain ⟨b1, b2⟩ := br_of (z := z / 2 ^ (i + 1)) (div_succ z i).symm h2 (Nat.lt_of_le_of_lt (Nat.div_le_self _ _) hz) c1 c2
    rw [show i + 1 + g = (i + g) + 1 from by omega, footN, b1, if_pos rfl, b2]
    exact foot_down hz i g (Nat.le_trans (Nat.pow_le_pow_right (by omega) (by omega)) hi) fun t ht => hc t (by omega)
/-- the cover, of no receivers too -/
def covQ (k : BitVec 8) (d : Nat) (R : List Nat) : List (Nat × Nat) := if R = [] then [(1, 0)] else covN k d R
end Go.Sx

end
section
set_option linter.unusedVariables false
set_option linter.unusedSimpArgs false
set_option maxRecDepth 100000
namespace Go.Sx
open Go
variable {d : Nat} {R : List Nat}
theorem div_two (x t : Nat) : x / 2 ^ (t + 1) = x / 2 / 2 ^ t := by rw [Nat.div_div_eq_div_mul, Nat.pow_succ, Nat.mul_comm 2 (2 ^ t)]
/-- the nodes from v on, h levels down -/
def nds : Nat → Nat → List Nat
  | 0, v => [v]
  | h + 1, v => v :: (nds h (2 * v) ++ nds h (2 * v + 1))
theorem nds_mem : ∀ (h j v x : Nat), j ≤ h → x / 2 ^ j = v → x ∈ nds h v
  | 0, j, v, x, hj, hx => by
    obtain rfl : j = 0 := by omega
    simp at hx; simp [nds, hx]
  | h + 1, 0, v, x, hj, hx => by simp at hx; simp [nds, hx]
  | h + 1, j + 1, v, x, hj, hx => by
    rw [div_succ] at hx
    unfold nds
    rw [List.mem_cons, List.mem_append]
    right
    rcases (show x / 2 ^ j = 2 * v ∨ x / 2 ^ j = 2 * v + 1 by omega) with h1 | h1
    · exact .inl (nds_mem h j _ x (by omega) h1)
    · exact .inr (nds_mem h j _ x (by omega) h1)
/-- what comes of a node -/
def ownL (k : BitVec 8) (d : Nat) (R : List Nat) (v : Nat) : List (Nat × Nat) := if hotB d R v = true then outP k d R v else []
def ownC (k : BitVec 8) (d : Nat) (R : List Nat) (v : Nat) : Nat := (ownL k d R v).length
def smN (k : BitVec 8) (d : Nat) (R : List Nat) (l : List Nat) : Nat := (l.map (ownC k d R)).sum
/-- what comes of the nodes strictly below v, h levels down -/
def belC (k : BitVec 8) (d : Nat) (R : List Nat) : Nat → Nat → Nat
  | 0, _ => 0
  | h + 1, v => smN k d R (nds h (2 * v)) + smN k d R (nds h (2 * v + 1))
theorem bel_succ {k : BitVec 8} (h v : Nat) : belC k d R (h + 1) v = smN k d R (nds h (2 * v)) + smN k d R (nds h (2 * v + 1)) := rfl
theorem bel_zero {k : BitVec 8} (v : Nat) : belC k d R 0 v = 0 := rfl
theorem smN_nds {k : BitVec 8} (h v : Nat) : smN k d R (nds h v) = ownC k d R v + belC k d R h v := by
  cases h with
  | zero => simp [nds, smN, belC]
  | succ h => simp [nds, smN, belC, List.sum_append]
theorem cold_zero (hr : Rcv d R) {k : BitVec 8} : ∀ (h v : Nat), 1 ≤ v → hotB d R v = false → smN k d R (nds h v) = 0
  | 0, v, hv, hh => by simp [nds, smN, ownC, ownL, hh]
  | h + 1, v, hv, hh => by
    have hc : ∀ b, b < 2 → hotB d R (2 * v + b) = false := fun b hb => by
      cases hx : hotB d R (2 * v + b) with
      | false => rfl
      | true =>
        have := hot_up hr hx (by omega)
        rw [show (2 * v + b) / 2 = v by omega, hh] at this; cases this
    have h0 := cold_zero hr (k := k) h (2 * v) (by omega) (hc 0 (by omega))
    have h1 := cold_zero hr (k := k) h (2 * v + 1) (by omega) (hc 1 (by omega))
    rw [smN_nds, bel_succ, h0, h1]; simp [ownC, ownL, hh]
theorem asc_nodup : ∀ {l : List (Nat × Nat)}, Asc l → l.Nodup := fun {l} h => h.imp fun hab he => by rw [he] at hab; omega
theorem cov_lenB (hr : Rcv d R) (hne : R ≠ []) (k : BitVec 8) : (covN k d R).length ≤ ownC k d R 1 + belC k d R d 1 := by
  rw [← smN_nds]
  have hs : covN k d R ⊆ (nds d 1).flatMap (ownL k d R) := fun y hy => by
    have hh := own_hot hr hne hy
    have ho := (cov_own hr hne hh y).1 ⟨hy, rfl⟩
    obtain ⟨h1, h2, h3⟩ := hot_log hr hh
    rw [List.mem_flatMap]
    exact ⟨ownN k d R y, nds_mem d (Nat.log2 (ownN k d R y)) 1 _ h2 (by
      rw [← Nat.shiftRight_eq_div_pow]
      have e1 := Nat.log2_self_le (n := ownN k d R y) (by omega)
      have e2 := Nat.lt_log2_self (n := ownN k d R y)
      rw [Nat.shiftRight_eq_div_pow]
      rw [Nat.pow_succ] at e2
      exact Nat.div_eq_of_lt_le (by omega) (by omega)), by unfold ownL; rw [if_pos hh]; exact ho⟩
  have := (asc_nodup (cov_asc (d := d) (R := R) (k := k))).length_le_of_subset hs
  rw [List.length_flatMap] at this
  exact this
/-- how many revoked receivers are below a node -/
def cntN (d : Nat) (R : List Nat) (v : Nat) : Nat := R.countP fun u => belowB (2 ^ d + u) v
theorem hot_cnt {v : Nat} : hotB d R v = true ↔ 0 < cntN d R v := by
  unfold hotB cntN
  rw [List.any_eq_true, List.countP_pos_iff]
theorem cnt_root (hr : Rcv d R) : cntN d R 1 = R.length := by
  unfold cntN
  rw [List.countP_eq_length]
  intro u hu
  obtain ⟨h1, h2, h3⟩ := hr.leaf hu
  refine (below_iff h1).2 ⟨Nat.log2 (2 ^ d + u), Nat.log2_self_le (by omega), ?_⟩
  have e1 := Nat.log2_self_le (n := 2 ^ d + u) (by omega)
  have e2 := Nat.lt_log2_self (n := 2 ^ d + u)
  rw [Nat.pow_succ] at e2
  exact (Nat.div_eq_of_lt_le (by omega) (by omega)).symm
theorem countP_or {α : Type} (p q r : α → Bool) : ∀ (l : List α), (∀ a ∈ l, p a = (q a || r a) ∧ ¬ (q a = true ∧ r a = true)) → l.countP p = l.countP q + l.countP r
  | [], _ => rfl
  | a :: l, h => by
    have h1 := countP_or p q r l fun b hb => h b (by simp [hb])
    obtain ⟨h2, h3⟩ := h a (by simp)
    rw [List.countP_cons, List.countP_cons, List.countP_cons, h1, h2]
    cases hq : q a <;> cases hrr : r a <;> simp_all <;> omega
theorem cnt_kids (hr : Rcv d R) {v : Nat} (hv : 1 ≤ v) (hl : Nat.log2 v < d) : cntN d R v = cntN d R (2 * v) + cntN d R (2 * v + 1) := by
  unfold cntN
  refine countP_or _ _ _ R fun u hu => ?_
  obtain ⟨h1, h2, h3⟩ := hr.leaf hu
  refine ⟨below_kids h1 (by omega) hv, fun ⟨ha, hb⟩ => ?_⟩
  have e0 := log2_dbl hv (b := 0) (by omega)
  have e1 := log2_dbl hv (b := 1) (by omega)
  have := below_same h1 ha hb (by rw [e1]; simpa using e0)
  omega
theorem cnt_le (hr : Rcv d R) (hn : R.Nodup) : ∀ (h v : Nat), 1 ≤ v → Nat.log2 v + h = d → cntN d R v ≤ 2 ^ h
  | 0, v, hv, hl => by
    unfold cntN
    rw [List.countP_eq_length_filter]
    have : (R.filter fun u => belowB (2 ^ d + u) v) ⊆ [v - 2 ^ d] := fun u hu => by
      obtain ⟨h1, h2⟩ := List.mem_filter.1 hu
      obtain ⟨h3, h4, h5⟩ := hr.leaf h1
      have := below_same h3 h2 (below_refl h3) (by rw [h5]; omega)
      simp; omega
    have hn2 : (R.filter fun u => belowB (2 ^ d + u) v).Nodup := List.Pairwise.filter _ hn
    have := hn2.length_le_of_subset this
    simpa using this
  | h + 1, v, hv, hl => by
    have e0 := log2_dbl hv (b := 0) (by omega)
    have e1 := log2_dbl hv (b := 1) (by omega)
    rw [cnt_kids hr hv (by omega), Nat.pow_succ]
    have h0 := cnt_le hr hn h (2 * v) (by omega) (by simp at e0; omega)
    have h1 := cnt_le hr hn h (2 * v + 1) (by omega) (by omega)
    omega
/-- kind 1: each node with one hot child yields one -/
theorem bel_one (hr : Rcv d R) (hn : R.Nodup) (T : Nat → Nat → Nat) (h00 : ∀ h, h ≤ d → 1 ≤ T h 0) (hs : ∀ h a b, h < d → a ≤ 2 ^ h → b ≤ 2 ^ h → 0 < a + b → T h a + T h b ≤ T (h + 1) (a + b)) :
    ∀ (h v : Nat), 1 ≤ v → Nat.log2 v + h = d → hotB d R v = true → belC 1#8 d R h v ≤ T h (cntN d R v)
  | 0, v, hv, hl, hh => by rw [bel_zero]; omega
  | h + 1, v, hv, hl, hh => by
    have h64 := pow_le64 hr.1
    have hv64 : v < 64 := by have := (node_lt (d := d) hv).2 (by omega); omega
    have e0 := log2_dbl hv (b := 0) (by omega)
    have e1 := log2_dbl hv (b := 1) (by omega)
    rw [Nat.add_zero] at e0
    have c0 := cnt_le hr hn h (2 * v) (by omega) (by omega)
    have c1 := cnt_le hr hn h (2 * v + 1) (by omega) (by omega)
    have hc := cnt_kids hr hv (by omega)
    have hT := hs h (cntN d R (2 * v)) (cntN d R (2 * v + 1)) (by omega) c0 c1 (by have := hot_cnt.1 hh; omega)
    have z0 := h00 h (by omega)
    rw [hc, bel_succ, smN_nds, smN_nds]
    cases x0 : hotB d R (2 * v) with
    | false =>
      have y0 := cold_zero hr (k := 1#8) h (2 * v) (by omega) x0
      rw [smN_nds] at y0
      have n0 : cntN d R (2 * v) = 0 := by have := (hot_cnt (d := d) (R := R) (v := 2 * v)).2; cases Nat.eq_zero_or_pos (cntN d R (2 * v)) with | inl h => exact h | inr h => rw [this h] at x0; cases x0
      cases x1 : hotB d R (2 * v + 1) with
      | false =>
        have := hot_kids hr hv (by omega); rw [hh, x0, x1] at this; cases this
      | true =>
        have i1 := bel_one hr hn T h00 hs h (2 * v + 1) (by omega) (by omega) x1
        have o1 : ownC 1#8 d R (2 * v + 1) = 1 := by
          unfold ownC ownL outP; rw [if_pos x1, if_pos rfl, dbl1 hv64, if_pos ⟨by omega, x0⟩]; rfl
        rw [n0] at hT ⊢
        omega
    | true =>
      have i0 := bel_one hr hn T h00 hs h (2 * v) (by omega) (by omega) x0
      cases x1 : hotB d R (2 * v + 1) with
      | false =>
        have y1 := cold_zero hr (k := 1#8) h (2 * v + 1) (by omega) x1
        rw [smN_nds] at y1
        have n1 : cntN d R (2 * v + 1) = 0 := by have := (hot_cnt (d := d) (R := R) (v := 2 * v + 1)).2; cases Nat.eq_zero_or_pos (cntN d R (2 * v + 1)) with | inl h => exact h | inr h => rw [this h] at x1; cases x1
        have o0 : ownC 1#8 d R (2 * v) = 1 := by
          unfold ownC ownL outP; rw [if_pos x0, if_pos rfl, dbl0 hv64, if_pos ⟨by omega, x1⟩]; rfl
        rw [n1] at hT ⊢
        omega
      | true =>
        have i1 := bel_one hr hn T h00 hs h (2 * v + 1) (by omega) (by omega) x1
        have o0 : ownC 1#8 d R (2 * v) = 0 := by
          unfold ownC ownL outP; rw [if_pos x0, if_pos rfl, dbl0 hv64, if_neg (by rw [x1]; simp)]; rfl
        have o1 : ownC 1#8 d R (2 * v + 1) = 0 := by
          unfold ownC ownL outP; rw [if_pos x1, if_pos rfl, dbl1 hv64, if_neg (by rw [x0]; simp)]; rfl
        omega
/-- the state of a node of a chain, K levels below its head -/
def stC (k : BitVec 8) (d v K : Nat) : Nat := if K = 0 then 0 else if k = 2#8 ∨ spcl d (v / 2 ^ K) = true then 1 else if (List.range (K - 1)).all (fun j => !spcl d (v / 2 ^ (j + 1))) then 2 else 3
def morC (st : Nat) : Nat := if st = 0 then 0 else if st = 3 then 2 else 1
def belS (k : BitVec 8) (d v st : Nat) : Nat := if k = 2#8 then 1 else if st = 0 then (if spcl d v then 1 else 2) else if st = 2 then (if spcl d v then 3 else 2) else st
theorem st_next {k : BitVec 8} {v c K : Nat} (hc : c / 2 = v) : stC k d c (K + 1) = belS k d v (stC k d v K) := by
  have e : ∀ j, c / 2 ^ (j + 1) = v / 2 ^ j := fun j => by rw [div_two, hc]
  unfold stC belS
  rw [if_neg (by omega), e K]
  by_cases hk : k = 2#8
  · rw [if_pos (.inl hk), if_pos hk]
  · rw [if_neg (c := k = 2#8) hk]
    cases K with
    | zero =>
      simp only [Nat.pow_zero, Nat.div_one, hk, false_or, if_true, Nat.zero_add, Nat.sub_self, List.range_zero, List.all_nil]
    | succ K =>
      simp only [Nat.add_one_ne_zero, if_false, hk, false_or]
      by_cases hs : spcl d (v / 2 ^ (K + 1)) = true
      · rw [if_pos hs, if_pos hs, if_neg (by decide), if_neg (by decide)]
      · rw [if_neg hs, if_neg hs]
        have ha : ((List.range (K + 1 + 1 - 1)).all fun j => !spcl d (c / 2 ^ (j + 1))) = (!spcl d v && (List.range (K + 1 - 1)).all fun j => !spcl d (v / 2 ^ (j + 1))) := by
          rw [show K + 1 + 1 - 1 = K + 1 from rfl, show K + 1 - 1 = K from rfl, List.range_succ_eq_map, List.all_cons, List.all_map]
          rw [show c / 2 ^ (0 + 1) = v by rw [e]; simp]
          congr 1
          refine congrArg (List.all (List.range K)) (funext fun j => ?_)
          show (!spcl d (c / 2 ^ (j + 1 + 1))) = _
          rw [e]
        rw [ha]
        cases hv : spcl d v <;> cases hb : ((List.range (K + 1 - 1)).all fun j => !spcl d (v / 2 ^ (j + 1))) <;> simp
/-- what comes of a chain's head, where its foot is known -/
theorem head_own (hr : Rcv d R) {k : BitVec 8} (hk : k ≠ 1#8) {v K : Nat} (hv : 1 ≤ v) (h2 : 2 ^ K ≤ v) (hv128 : v < 128) (hK : K ≤ 7) (hd : isHd d R (v / 2 ^ K) = true) (hh : hotB d R v = true) (hc : ∀ t, t < K → hotB d R (v / 2 ^ t) = true ∧ hotB d R ((v / 2 ^ t) ^^^ 1) = false) (hb : brN d R v = false) :
    ownC k d R (v / 2 ^ K) = morC (stC k d v K) := by
  have hf : footN d R 7 (v / 2 ^ K) = v := by
    have := foot_down hv128 K (7 - K) h2 hc
    rw [show K + (7 - K) = 7 by omega] at this
    rw [this]
    cases h7 : 7 - K with
    | zero => rfl
    | succ g => unfold footN; rw [hb]; rfl
  have hhot : hotB d R (v / 2 ^ K) = true := hot_ups hr hh K h2
  unfold ownC ownL
  rw [if_pos hhot]
  unfold outP
  rw [if_neg hk, if_pos hd, hf]
  cases K with
  | zero => rw [if_pos (by simp)]; rfl
  | succ K =>
    have hne : v ≠ v / 2 ^ (K + 1) := by
      have := Nat.div_lt_self (n := v) (k := 2 ^ (K + 1)) (by omega) (Nat.lt_of_lt_of_le (by omega : 1 < 2 ^ 1) (Nat.pow_le_pow_right (by omega) (by omega)))
      omega
    rw [if_neg hne]
    have hl := log2_div v (K + 1) h2
    have hs : subN k d (v / 2 ^ (K + 1)) v = decide (stC k d v (K + 1) ≠ 3) := by
      have hfs : decide (fstS d (pathN (v / 2) (Nat.log2 v - Nat.log2 (v / 2 ^ (K + 1)) - 1)) = 0) = (List.range (K + 1 - 1)).all fun j => !spcl d (v / 2 ^ (j + 1)) := by
        rw [Bool.eq_iff_iff, decide_eq_true_eq, List.all_eq_true]
        have hk1 : Nat.log2 v - Nat.log2 (v / 2 ^ (K + 1)) - 1 = K := by omega
        rw [hk1, fst0 (fun n hn => by
          obtain ⟨j, hj, rfl⟩ := pathN_mem.1 hn
          rw [Nat.div_div_eq_div_mul, show 2 * 2 ^ j = 2 ^ (j + 1) from by rw [Nat.pow_succ, Nat.mul_comm]]
          have := pow_div_le (w := v) (i := j + 1) (j := 0) (Nat.le_trans (Nat.pow_le_pow_right (by omega) (by omega)) h2)
          simpa using this)]
        constructor
        · intro h j hj
          have := h (v / 2 / 2 ^ j) (pathN_mem.2 ⟨j, by simpa using hj, rfl⟩)
          rw [Nat.div_div_eq_div_mul, show 2 * 2 ^ j = 2 ^ (j + 1) from by rw [Nat.pow_succ, Nat.mul_comm]] at this
          rw [this]; rfl
        · intro h n hn
          obtain ⟨j, hj, rfl⟩ := pathN_mem.1 hn
          rw [Nat.div_div_eq_div_mul, show 2 * 2 ^ j = 2 ^ (j + 1) from by rw [Nat.pow_succ, Nat.mul_comm]]
          have := h j (by simpa using hj)
          simpa using this
      unfold subN
      rw [hfs]
      unfold stC
      rw [if_neg (by omega)]
      by_cases h2 : k = 2#8
      · rw [if_pos (.inl h2)]; simp [h2]
      · by_cases h3 : spcl d (v / 2 ^ (K + 1)) = true
        · rw [if_pos (.inr h3)]; simp [h3]
        · rw [if_neg (by simp [h2, h3])]
          rw [Bool.not_eq_true] at h3
          rw [h3, decide_eq_false h2, Bool.false_or, Bool.false_or]
          cases (List.range (K + 1 - 1)).all fun j => !spcl d (v / 2 ^ (j + 1)) <;> simp
    have h0 : stC k d v (K + 1) ≠ 0 := by
      unfold stC; rw [if_neg (by omega)]; split
      · omega
      · split <;> omega
    rw [hs]
    unfold morC
    rw [if_neg h0]
    by_cases h3 : stC k d v (K + 1) = 3
    · rw [h3]; rfl
    · rw [decide_eq_true h3, if_pos rfl, if_neg h3]; rfl
theorem own_not (hr : Rcv d R) {k : BitVec 8} (hk : k ≠ 1#8) {c : Nat} (h2 : 2 ≤ c) (hs : hotB d R (c ^^^ 1) = false) : ownC k d R c = 0 := by
  unfold ownC ownL outP
  have : isHd d R c = false := by unfold isHd; rw [hs]; simp; omega
  rw [if_neg hk, this]
  split <;> rfl
/-- kinds 2 and 3: a chain counts where it ends -/
theorem bel_two (hr : Rcv d R) (hn : R.Nodup) {k : BitVec 8} (hk : k ≠ 1#8) (T : Nat → Nat → Nat → Nat)
    (t0 : ∀ st, st < 4 → (k = 2#8 → st < 2) → morC st ≤ T st 0 1)
    (ts : ∀ st h a b, st < 4 → (k = 2#8 → st < 2) → h < d → a ≤ 2 ^ h → b ≤ 2 ^ h → 0 < a → 0 < b → morC st + T 0 h a + T 0 h b ≤ T st (h + 1) (a + b))
    (tb : ∀ st h a v, st < 4 → (k = 2#8 → st < 2) → h < d → a ≤ 2 ^ h → 0 < a → Nat.log2 v + (h + 1) = d → T (belS k d v st) h a ≤ T st (h + 1) a) :
    ∀ (h v K : Nat), 1 ≤ v → Nat.log2 v + h = d → hotB d R v = true → 2 ^ K ≤ v → isHd d R (v / 2 ^ K) = true → (∀ t, t < K → hotB d R (v / 2 ^ t) = true ∧ hotB d R ((v / 2 ^ t) ^^^ 1) = false) →
      ownC k d R (v / 2 ^ K) + belC k d R h v ≤ T (stC k d v K) h (cntN d R v) := by
  have hst : ∀ v K, stC k d v K < 4 ∧ (k = 2#8 → stC k d v K < 2) := fun v K => by
    unfold stC
    by_cases h2 : k = 2#8
    · simp only [h2, true_or, if_true]; split <;> omega
    · refine ⟨?_, fun h => absurd h h2⟩; split
      · omega
      · split
        · omega
        · split <;> omega
  have hK7 : ∀ {v K : Nat}, 1 ≤ v → Nat.log2 v ≤ d → 2 ^ K ≤ v → v < 128 ∧ K ≤ 7 := fun {v K} hv hl h2 => by
    have h6 := hr.1
    have h1 := (Nat.log2_lt (n := v) (k := d + 1) (by omega)).1 (by omega)
    have h3 : 2 ^ (d + 1) ≤ 2 ^ 7 := Nat.pow_le_pow_right (by omega) (by omega)
    refine ⟨by omega, ?_⟩
    have : 2 ^ K < 2 ^ 7 := by omega
    have := (Nat.pow_lt_pow_iff_right (a := 2) (by omega)).1 this
    omega
  intro h
  induction h with
  | zero =>
    intro v K hv hl hh h2 hd hc
    obtain ⟨h128, h7⟩ := hK7 hv (by omega) h2
    have hb : brN d R v = false := by
      cases hb : brN d R v with
      | false => rfl
      | true => have := (br_inner hr hv hb).1; omega
    obtain ⟨s1, s2⟩ := hst v K
    rw [head_own hr hk hv h2 h128 h7 hd hh hc hb]
    have c1 := cnt_le hr hn 0 v hv hl
    have c0 := hot_cnt.1 hh
    rw [show cntN d R v = 1 by omega]
    exact t0 _ s1 s2
  | succ h ih =>
    intro v K hv hl hh h2 hd hc
    obtain ⟨h128, h7⟩ := hK7 hv (by omega) h2
    obtain ⟨s1, s2⟩ := hst v K
    have h64 := pow_le64 hr.1
    have hv64 : v < 64 := by have := (node_lt (d := d) hv).2 (by omega); omega
    have e0 := log2_dbl hv (b := 0) (by omega)
    have e1 := log2_dbl hv (b := 1) (by omega)
    rw [Nat.add_zero] at e0
    have c0 := cnt_le hr hn h (2 * v) (by omega) (by omega)
    have c1 := cnt_le hr hn h (2 * v + 1) (by omega) (by omega)
    have hcn := cnt_kids hr hv (by omega)
    have hz : ∀ {x : Nat}, hotB d R x = false → cntN d R x = 0 := fun {x} hx => by
      cases Nat.eq_zero_or_pos (cntN d R x) with
      | inl h => exact h
      | inr h => rw [hot_cnt.2 h] at hx; cases hx
    rw [hcn, bel_succ, smN_nds, smN_nds]
    cases x0 : hotB d R (2 * v) with
    | false =>
      have y0 := cold_zero hr (k := k) h (2 * v) (by omega) x0
      rw [smN_nds] at y0
      have n0 := hz x0
      cases x1 : hotB d R (2 * v + 1) with
      | false => have := hot_kids hr hv (by omega); rw [hh, x0, x1] at this; cases this
      | true =>
        have hc2 : (2 * v + 1) / 2 = v := by omega
        have hp : ∀ t, (2 * v + 1) / 2 ^ (t + 1) = v / 2 ^ t := fun t => by rw [div_two, hc2]
        have i1 := ih (2 * v + 1) (K + 1) (by omega) (by omega) x1 (by rw [Nat.pow_succ]; omega) (by rw [hp]; exact hd) (fun t ht => by
          cases t with
          | zero => simp only [Nat.pow_zero, Nat.div_one]; rw [dbl1 hv64]; exact ⟨x1, x0⟩
          | succ t => rw [hp]; exact hc t (by omega))
        rw [hp, st_next hc2] at i1
        have o1 := own_not hr hk (c := 2 * v + 1) (by omega) (by rw [dbl1 hv64]; exact x0)
        have t1 := tb _ h (cntN d R (2 * v + 1)) v s1 s2 (by omega) c1 (hot_cnt.1 x1) (by omega)
        rw [n0, Nat.zero_add (cntN d R (2 * v + 1))]
        omega
    | true =>
      cases x1 : hotB d R (2 * v + 1) with
      | false =>
        have y1 := cold_zero hr (k := k) h (2 * v + 1) (by omega) x1
        rw [smN_nds] at y1
        have n1 := hz x1
        have hc2 : (2 * v) / 2 = v := by omega
        have hp : ∀ t, (2 * v) / 2 ^ (t + 1) = v / 2 ^ t := fun t => by rw [div_two, hc2]
        have i0 := ih (2 * v) (K + 1) (by omega) (by omega) x0 (by rw [Nat.pow_succ]; omega) (by rw [hp]; exact hd) (fun t ht => by
          cases t with
          | zero => simp only [Nat.pow_zero, Nat.div_one]; rw [dbl0 hv64]; exact ⟨x0, x1⟩
          | succ t => rw [hp]; exact hc t (by omega))
        rw [hp, st_next hc2] at i0
        have o0 := own_not hr hk (c := 2 * v) (by omega) (by rw [dbl0 hv64]; exact x1)
        have t0 := tb _ h (cntN d R (2 * v)) v s1 s2 (by omega) c0 (hot_cnt.1 x0) (by omega)
        rw [n1, Nat.add_zero (cntN d R (2 * v))]
        omega
      | true =>
        have hb : brN d R v = false := by unfold brN; rw [x0, x1]; rfl
        have i0 := ih (2 * v) 0 (by omega) (by omega) x0 (by simp; omega) (by simp only [Nat.pow_zero, Nat.div_one]; unfold isHd; rw [dbl0 hv64, x1]; simp) (fun t ht => by omega)
        have i1 := ih (2 * v + 1) 0 (by omega) (by omega) x1 (by simp) (by simp only [Nat.pow_zero, Nat.div_one]; unfold isHd; rw [dbl1 hv64, x0]; simp) (fun t ht => by omega)
        simp only [Nat.pow_zero, Nat.div_one] at i0 i1
        rw [show stC k d (2 * v) 0 = 0 from rfl] at i0
        rw [show stC k d (2 * v + 1) 0 = 0 from rfl] at i1
        rw [head_own hr hk hv h2 h128 h7 hd hh hc hb]
        have t2 := ts _ h _ _ s1 s2 (by omega) c0 c1 (hot_cnt.1 x0) (hot_cnt.1 x1)
        omega
end Go.Sx

end
section
set_option linter.unusedVariables false
set_option linter.unusedSimpArgs false
set_option maxRecDepth 100000
namespace Go.Sx.Pn
open Go Go.Sx
def sch (k d : Nat) : TScheme := ⟨BitVec.ofNat 8 k, (d : Int), 0, ⟨0#64, 0#64, 0#64⟩⟩
def tb_1_0 : Tplan_tables := ⟨sch 1 0, 1, ⟨[1, 0], [], [], []⟩, 1⟩
theorem nt_1_0 : plan_newTables (sch 1 0) = some tb_1_0 := by kernel_rfl
def tb_1_1 : Tplan_tables := ⟨sch 1 1, 1, ⟨[1, 0, 1, 1, 0], [], [], []⟩, 1⟩
theorem nt_1_1 : plan_newTables (sch 1 1) = some tb_1_1 := by kernel_rfl
def tb_1_2 : Tplan_tables := ⟨sch 1 2, 2, ⟨[1, 0, 1, 1, 0, 1, 2, 2, 1, 0], [], [], []⟩, 1⟩
theorem nt_1_2 : plan_newTables (sch 1 2) = some tb_1_2 := by kernel_rfl
def tb_1_3 : Tplan_tables := ⟨sch 1 3, 2, ⟨[1, 0, 1, 1, 0, 1, 2, 2, 1, 0, 1, 3, 4, 4, 4, 3, 2, 1, 0], [], [], []⟩, 1⟩
theorem nt_1_3 : plan_newTables (sch 1 3) = some tb_1_3 := by kernel_rfl
def tb_1_4 : Tplan_tables := ⟨sch 1 4, 2, ⟨[1, 0, 1, 1, 0, 1, 2, 2, 1, 0, 1, 3, 4, 4, 4, 3, 2, 1, 0, 1, 4, 6, 7, 8, 8, 8, 8, 8, 7, 6, 5, 4, 3, 2, 1, 0], [], [], []⟩, 1⟩
theorem nt_1_4 : plan_newTables (sch 1 4) = some tb_1_4 := by kernel_rfl
def tb_1_5 : Tplan_tables := ⟨sch 1 5, 3, ⟨[1, 0, 1, 1, 0, 1, 2, 2, 1, 0, 1, 3, 4, 4, 4, 3, 2, 1, 0, 1, 4, 6, 7, 8, 8, 8, 8, 8, 7, 6, 5, 4, 3, 2, 1, 0, 1, 5, 8, 10, 12, 13, 14, 15, 16, 16, 16, 16, 16, 16, 16, 16, 16, 15, 14, 13, 12, 11, 10, 9, 8, 7, 6, 5, 4, 3, 2, 1, 0], [], [], []⟩, 1⟩
theorem nt_1_5 : plan_newTables (sch 1 5) = some tb_1_5 := by kernel_rfl
def tb_1_6 : Tplan_tables := ⟨sch 1 6, 3, ⟨[1, 0, 1, 1, 0, 1, 2, 2, 1, 0, 1, 3, 4, 4, 4, 3, 2, 1, 0, 1, 4, 6, 7, 8, 8, 8, 8, 8, 7, 6, 5, 4, 3, 2, 1, 0, 1, 5, 8, 10, 12, 13, 14, 15, 16, 16, 16, 16, 16, 16, 16, 16, 16, 15, 14, 13, 12, 11, 10, 9, 8, 7, 6, 5, 4, 3, 2, 1, 0, 1, 6, 10, 13, 16, 18, 20, 22, 24, 25, 26, 27, 28, 29, 30, 31, 32, 32, 32, 32, 32, 32, 32, 32, 32, 32, 32, 32, 32, 32, 32, 32, 32, 31, 30, 29, 28, 27, 26, 25, 24, 23, 22, 21, 20, 19, 18, 17, 16, 15, 14, 13, 12, 11, 10, 9, 8, 7, 6, 5, 4, 3, 2, 1, 0], [], [], []⟩, 1⟩
theorem nt_1_6 : plan_newTables (sch 1 6) = some tb_1_6 := by kernel_rfl
def tb_2_0 : Tplan_tables := ⟨sch 2 0, 1, ⟨[0, 0], [0, 1], [], []⟩, 2⟩
theorem nt_2_0 : plan_newTables (sch 2 0) = some tb_2_0 := by kernel_rfl
def tb_2_1 : Tplan_tables := ⟨sch 2 1, 1, ⟨[0, 0, 0, 1, 0], [0, 1, 0, 1, 1], [], []⟩, 2⟩
theorem nt_2_1 : plan_newTables (sch 2 1) = some tb_2_1 := by kernel_rfl
def tb_2_2 : Tplan_tables := ⟨sch 2 2, 2, ⟨[0, 0, 0, 1, 0, 0, 1, 2, 1, 0], [0, 1, 0, 1, 1, 0, 1, 3, 2, 1], [], []⟩, 2⟩
theorem nt_2_2 : plan_newTables (sch 2 2) = some tb_2_2 := by kernel_rfl
def tb_2_3 : Tplan_tables := ⟨sch 2 3, 2, ⟨[0, 0, 0, 1, 0, 0, 1, 2, 1, 0, 0, 1, 3, 3, 4, 3, 2, 1, 0], [0, 1, 0, 1, 1, 0, 1, 3, 2, 1, 0, 1, 3, 4, 5, 4, 3, 2, 1], [], []⟩, 2⟩
theorem nt_2_3 : plan_newTables (sch 2 3) = some tb_2_3 := by kernel_rfl
def tb_2_4 : Tplan_tables := ⟨sch 2 4, 2, ⟨[0, 0, 0, 1, 0, 0, 1, 2, 1, 0, 0, 1, 3, 3, 4, 3, 2, 1, 0, 0, 1, 3, 4, 6, 6, 7, 7, 8, 7, 6, 5, 4, 3, 2, 1, 0], [0, 1, 0, 1, 1, 0, 1, 3, 2, 1, 0, 1, 3, 4, 5, 4, 3, 2, 1, 0, 1, 3, 5, 7, 7, 8, 8, 9, 8, 7, 6, 5, 4, 3, 2, 1], [], []⟩, 2⟩
theorem nt_2_4 : plan_newTables (sch 2 4) = some tb_2_4 := by kernel_rfl
def tb_2_5 : Tplan_tables := ⟨sch 2 5, 3, ⟨[0, 0, 0, 1, 0, 0, 1, 2, 1, 0, 0, 1, 3, 3, 4, 3, 2, 1, 0, 0, 1, 3, 4, 6, 6, 7, 7, 8, 7, 6, 5, 4, 3, 2, 1, 0, 0, 1, 3, 5, 7, 7, 9, 10, 12, 12, 13, 13, 14, 14, 15, 15, 16, 15, 14, 13, 12, 11, 10, 9, 8, 7, 6, 5, 4, 3, 2, 1, 0], [0, 1, 0, 1, 1, 0, 1, 3, 2, 1, 0, 1, 3, 4, 5, 4, 3, 2, 1, 0, 1, 3, 5, 7, 7, 8, 8, 9, 8, 7, 6, 5, 4, 3, 2, 1, 0, 1, 3, 5, 7, 8, 10, 11, 13, 13, 14, 14, 15, 15, 16, 16, 17, 16, 15, 14, 13, 12, 11, 10, 9, 8, 7, 6, 5, 4, 3, 2, 1], [], []⟩, 2⟩
theorem nt_2_5 : plan_newTables (sch 2 5) = some tb_2_5 := by kernel_rfl
def tb_2_6 : Tplan_tables := ⟨sch 2 6, 3, ⟨[0, 0, 0, 1, 0, 0, 1, 2, 1, 0, 0, 1, 3, 3, 4, 3, 2, 1, 0, 0, 1, 3, 4, 6, 6, 7, 7, 8, 7, 6, 5, 4, 3, 2, 1, 0, 0, 1, 3, 5, 7, 7, 9, 10, 12, 12, 13, 13, 14, 14, 15, 15, 16, 15, 14, 13, 12, 11, 10, 9, 8, 7, 6, 5, 4, 3, 2, 1, 0, 0, 1, 3, 5, 7, 8, 10, 12, 14, 14, 16, 17, 19, 19, 21, 22, 24, 24, 25, 25, 26, 26, 27, 27, 28, 28, 29, 29, 30, 30, 31, 31, 32, 31, 30, 29, 28, 27, 26, 25, 24, 23, 22, 21, 20, 19, 18, 17, 16, 15, 14, 13, 12, 11, 10, 9, 8, 7, 6, 5, 4, 3, 2, 1, 0], [0, 1, 0, 1, 1, 0, 1, 3, 2, 1, 0, 1, 3, 4, 5, 4, 3, 2, 1, 0, 1, 3, 5, 7, 7, 8, 8, 9, 8, 7, 6, 5, 4, 3, 2, 1, 0, 1, 3, 5, 7, 8, 10, 11, 13, 13, 14, 14, 15, 15, 16, 16, 17, 16, 15, 14, 13, 12, 11, 10, 9, 8, 7, 6, 5, 4, 3, 2, 1, 0, 1, 3, 5, 7, 9, 11, 13, 15, 15, 17, 18, 20, 20, 22, 23, 25, 25, 26, 26, 27, 27, 28, 28, 29, 29, 30, 30, 31, 31, 32, 32, 33, 32, 31, 30, 29, 28, 27, 26, 25, 24, 23, 22, 21, 20, 19, 18, 17, 16, 15, 14, 13, 12, 11, 10, 9, 8, 7, 6, 5, 4, 3, 2, 1], [], []⟩, 2⟩
theorem nt_2_6 : plan_newTables (sch 2 6) = some tb_2_6 := by kernel_rfl
def tb_3_0 : Tplan_tables := ⟨sch 3 0, 1, ⟨[0, 0], [0, 1], [0, 1], [0, 2]⟩, 4⟩
theorem nt_3_0 : plan_newTables (sch 3 0) = some tb_3_0 := by kernel_rfl
def tb_3_1 : Tplan_tables := ⟨sch 3 1, 1, ⟨[0, 0, 0, 1, 0], [0, 1, 0, 1, 1], [0, 1, 0, 2, 1], [0, 2, 0, 2, 2]⟩, 4⟩
theorem nt_3_1 : plan_newTables (sch 3 1) = some tb_3_1 := by kernel_rfl
def tb_3_2 : Tplan_tables := ⟨sch 3 2, 2, ⟨[0, 0, 0, 1, 0, 0, 1, 2, 1, 0], [0, 1, 0, 1, 1, 0, 1, 3, 2, 1], [0, 1, 0, 1, 1, 0, 2, 3, 2, 1], [0, 2, 0, 2, 2, 0, 2, 4, 3, 2]⟩, 4⟩
theorem nt_3_2 : plan_newTables (sch 3 2) = some tb_3_2 := by kernel_rfl
def tb_3_3 : Tplan_tables := ⟨sch 3 3, 2, ⟨[0, 0, 0, 1, 0, 0, 2, 2, 1, 0, 0, 1, 4, 4, 4, 3, 2, 1, 0], [0, 1, 0, 1, 1, 0, 1, 3, 2, 1, 0, 1, 5, 5, 5, 4, 3, 2, 1], [0, 1, 0, 2, 1, 0, 2, 3, 2, 1, 0, 2, 5, 5, 5, 4, 3, 2, 1], [0, 2, 0, 2, 2, 0, 2, 4, 3, 2, 0, 2, 6, 6, 6, 5, 4, 3, 2]⟩, 4⟩
theorem nt_3_3 : plan_newTables (sch 3 3) = some tb_3_3 := by kernel_rfl
def tb_3_4 : Tplan_tables := ⟨sch 3 4, 2, ⟨[0, 0, 0, 1, 0, 0, 1, 2, 1, 0, 0, 2, 3, 3, 4, 3, 2, 1, 0, 0, 1, 4, 5, 6, 6, 7, 7, 8, 7, 6, 5, 4, 3, 2, 1, 0], [0, 1, 0, 1, 1, 0, 1, 3, 2, 1, 0, 1, 3, 4, 5, 4, 3, 2, 1, 0, 1, 5, 6, 7, 7, 8, 8, 9, 8, 7, 6, 5, 4, 3, 2, 1], [0, 1, 0, 1, 1, 0, 2, 3, 2, 1, 0, 2, 3, 4, 5, 4, 3, 2, 1, 0, 2, 5, 6, 7, 7, 8, 8, 9, 8, 7, 6, 5, 4, 3, 2, 1], [0, 2, 0, 2, 2, 0, 2, 4, 3, 2, 0, 2, 4, 5, 6, 5, 4, 3, 2, 0, 2, 6, 7, 8, 8, 9, 9, 10, 9, 8, 7, 6, 5, 4, 3, 2]⟩, 4⟩
theorem nt_3_4 : plan_newTables (sch 3 4) = some tb_3_4 := by kernel_rfl
def tb_3_5 : Tplan_tables := ⟨sch 3 5, 3, ⟨[0, 0, 0, 1, 0, 0, 1, 2, 1, 0, 0, 2, 3, 3, 4, 3, 2, 1, 0, 0, 2, 4, 5, 6, 6, 7, 7, 8, 7, 6, 5, 4, 3, 2, 1, 0, 0, 1, 5, 6, 8, 9, 10, 11, 12, 12, 13, 13, 14, 14, 15, 15, 16, 15, 14, 13, 12, 11, 10, 9, 8, 7, 6, 5, 4, 3, 2, 1, 0], [0, 1, 0, 1, 1, 0, 1, 3, 2, 1, 0, 1, 3, 4, 5, 4, 3, 2, 1, 0, 1, 5, 6, 7, 7, 8, 8, 9, 8, 7, 6, 5, 4, 3, 2, 1, 0, 1, 5, 7, 9, 10, 11, 12, 13, 13, 14, 14, 15, 15, 16, 16, 17, 16, 15, 14, 13, 12, 11, 10, 9, 8, 7, 6, 5, 4, 3, 2, 1], [0, 1, 0, 1, 1, 0, 2, 3, 2, 1, 0, 2, 3, 4, 5, 4, 3, 2, 1, 0, 2, 5, 6, 7, 7, 8, 8, 9, 8, 7, 6, 5, 4, 3, 2, 1, 0, 2, 6, 7, 9, 10, 11, 12, 13, 13, 14, 14, 15, 15, 16, 16, 17, 16, 15, 14, 13, 12, 11, 10, 9, 8, 7, 6, 5, 4, 3, 2, 1], [0, 2, 0, 2, 2, 0, 2, 4, 3, 2, 0, 2, 4, 5, 6, 5, 4, 3, 2, 0, 2, 6, 7, 8, 8, 9, 9, 10, 9, 8, 7, 6, 5, 4, 3, 2, 0, 2, 6, 8, 10, 11, 12, 13, 14, 14, 15, 15, 16, 16, 17, 17, 18, 17, 16, 15, 14, 13, 12, 11, 10, 9, 8, 7, 6, 5, 4, 3, 2]⟩, 4⟩
theorem nt_3_5 : plan_newTables (sch 3 5) = some tb_3_5 := by kernel_rfl
def tb_3_6 : Tplan_tables := ⟨sch 3 6, 3, ⟨[0, 0, 0, 1, 0, 0, 1, 2, 1, 0, 0, 1, 3, 3, 4, 3, 2, 1, 0, 0, 2, 4, 4, 6, 6, 7, 7, 8, 7, 6, 5, 4, 3, 2, 1, 0, 0, 2, 4, 6, 8, 8, 10, 10, 12, 12, 13, 13, 14, 14, 15, 15, 16, 15, 14, 13, 12, 11, 10, 9, 8, 7, 6, 5, 4, 3, 2, 1, 0, 0, 1, 5, 7, 9, 10, 12, 14, 16, 16, 18, 18, 20, 20, 22, 22, 24, 24, 25, 25, 26, 26, 27, 27, 28, 28, 29, 29, 30, 30, 31, 31, 32, 31, 30, 29, 28, 27, 26, 25, 24, 23, 22, 21, 20, 19, 18, 17, 16, 15, 14, 13, 12, 11, 10, 9, 8, 7, 6, 5, 4, 3, 2, 1, 0], [0, 1, 0, 1, 1, 0, 1, 3, 2, 1, 0, 1, 3, 4, 5, 4, 3, 2, 1, 0, 1, 3, 5, 7, 7, 8, 8, 9, 8, 7, 6, 5, 4, 3, 2, 1, 0, 1, 5, 7, 9, 9, 11, 11, 13, 13, 14, 14, 15, 15, 16, 16, 17, 16, 15, 14, 13, 12, 11, 10, 9, 8, 7, 6, 5, 4, 3, 2, 1, 0, 1, 5, 7, 9, 11, 13, 15, 17, 17, 19, 19, 21, 21, 23, 23, 25, 25, 26, 26, 27, 27, 28, 28, 29, 29, 30, 30, 31, 31, 32, 32, 33, 32, 31, 30, 29, 28, 27, 26, 25, 24, 23, 22, 21, 20, 19, 18, 17, 16, 15, 14, 13, 12, 11, 10, 9, 8, 7, 6, 5, 4, 3, 2, 1], [0, 1, 0, 1, 1, 0, 1, 3, 2, 1, 0, 2, 4, 4, 5, 4, 3, 2, 1, 0, 2, 4, 5, 7, 7, 8, 8, 9, 8, 7, 6, 5, 4, 3, 2, 1, 0, 2, 5, 7, 9, 9, 11, 11, 13, 13, 14, 14, 15, 15, 16, 16, 17, 16, 15, 14, 13, 12, 11, 10, 9, 8, 7, 6, 5, 4, 3, 2, 1, 0, 2, 6, 8, 10, 11, 13, 15, 17, 17, 19, 19, 21, 21, 23, 23, 25, 25, 26, 26, 27, 27, 28, 28, 29, 29, 30, 30, 31, 31, 32, 32, 33, 32, 31, 30, 29, 28, 27, 26, 25, 24, 23, 22, 21, 20, 19, 18, 17, 16, 15, 14, 13, 12, 11, 10, 9, 8, 7, 6, 5, 4, 3, 2, 1], [0, 2, 0, 2, 2, 0, 2, 4, 3, 2, 0, 2, 4, 5, 6, 5, 4, 3, 2, 0, 2, 4, 6, 8, 8, 9, 9, 10, 9, 8, 7, 6, 5, 4, 3, 2, 0, 2, 6, 8, 10, 10, 12, 12, 14, 14, 15, 15, 16, 16, 17, 17, 18, 17, 16, 15, 14, 13, 12, 11, 10, 9, 8, 7, 6, 5, 4, 3, 2, 0, 2, 6, 8, 10, 12, 14, 16, 18, 18, 20, 20, 22, 22, 24, 24, 26, 26, 27, 27, 28, 28, 29, 29, 30, 30, 31, 31, 32, 32, 33, 33, 34, 33, 32, 31, 30, 29, 28, 27, 26, 25, 24, 23, 22, 21, 20, 19, 18, 17, 16, 15, 14, 13, 12, 11, 10, 9, 8, 7, 6, 5, 4, 3, 2]⟩, 4⟩
theorem nt_3_6 : plan_newTables (sch 3 6) = some tb_3_6 := by kernel_rfl
def tb (k d : Nat) : Tplan_tables := match k, d with
  | 1, 0 => tb_1_0
  | 1, 1 => tb_1_1
  | 1, 2 => tb_1_2
  | 1, 3 => tb_1_3
  | 1, 4 => tb_1_4
  | 1, 5 => tb_1_5
  | 1, 6 => tb_1_6
  | 2, 0 => tb_2_0
  | 2, 1 => tb_2_1
  | 2, 2 => tb_2_2
  | 2, 3 => tb_2_3
  | 2, 4 => tb_2_4
  | 2, 5 => tb_2_5
  | 2, 6 => tb_2_6
  | 3, 0 => tb_3_0
  | 3, 1 => tb_3_1
  | 3, 2 => tb_3_2
  | 3, 3 => tb_3_3
  | 3, 4 => tb_3_4
  | 3, 5 => tb_3_5
  | 3, 6 => tb_3_6
  | _, _ => tb_1_0
theorem nt {k d : Nat} (hk : 1 ≤ k ∧ k ≤ 3) (hd : d ≤ 6) : plan_newTables (sch k d) = some (tb k d) := by
  rcases (show k = 1 ∨ k = 2 ∨ k = 3 by omega) with rfl | rfl | rfl <;> rcases (show d = 0 ∨ d = 1 ∨ d = 2 ∨ d = 3 ∨ d = 4 ∨ d = 5 ∨ d = 6 by omega) with rfl | rfl | rfl | rfl | rfl | rfl | rfl
  · exact nt_1_0
  · exact nt_1_1
  · exact nt_1_2
  · exact nt_1_3
  · exact nt_1_4
  · exact nt_1_5
  · exact nt_1_6
  · exact nt_2_0
  · exact nt_2_1
  · exact nt_2_2
  · exact nt_2_3
  · exact nt_2_4
  · exact nt_2_5
  · exact nt_2_6
  · exact nt_3_0
  · exact nt_3_1
  · exact nt_3_2
  · exact nt_3_3
  · exact nt_3_4
  · exact nt_3_5
  · exact nt_3_6
/-- the worst numbers, and the least numbers of revoked receivers that have them -/
def wl (k d : Nat) : List (Int × Int) := match k, d with
  | 1, 0 => [(1, 0), (1, 0)]
  | 1, 1 => [(1, 0), (1, 0), (1, 0)]
  | 1, 2 => [(1, 0), (2, 1), (2, 1), (2, 1), (2, 1)]
  | 1, 3 => [(1, 0), (3, 1), (4, 2), (4, 2), (4, 2), (4, 2), (4, 2), (4, 2), (4, 2)]
  | 1, 4 => [(1, 0), (4, 1), (6, 2), (7, 3), (8, 4), (8, 4), (8, 4), (8, 4), (8, 4), (8, 4), (8, 4), (8, 4), (8, 4), (8, 4), (8, 4), (8, 4), (8, 4)]
  | 1, 5 => [(1, 0), (5, 1), (8, 2), (10, 3), (12, 4), (13, 5), (14, 6), (15, 7), (16, 8), (16, 8), (16, 8), (16, 8), (16, 8), (16, 8), (16, 8), (16, 8), (16, 8), (16, 8), (16, 8), (16, 8), (16, 8), (16, 8), (16, 8), (16, 8), (16, 8), (16, 8), (16, 8), (16, 8), (16, 8), (16, 8), (16, 8), (16, 8), (16, 8)]
  | 1, 6 => [(1, 0), (6, 1), (10, 2), (13, 3), (16, 4), (18, 5), (20, 6), (22, 7), (24, 8), (25, 9), (26, 10), (27, 11), (28, 12), (29, 13), (30, 14), (31, 15), (32, 16), (32, 16), (32, 16), (32, 16), (32, 16), (32, 16), (32, 16), (32, 16), (32, 16), (32, 16), (32, 16), (32, 16), (32, 16), (32, 16), (32, 16), (32, 16), (32, 16), (32, 16), (32, 16), (32, 16), (32, 16), (32, 16), (32, 16), (32, 16), (32, 16), (32, 16), (32, 16), (32, 16), (32, 16), (32, 16), (32, 16), (32, 16), (32, 16), (32, 16), (32, 16), (32, 16), (32, 16), (32, 16), (32, 16), (32, 16), (32, 16), (32, 16), (32, 16), (32, 16), (32, 16), (32, 16), (32, 16), (32, 16), (32, 16)]
  | 2, 0 => [(1, 0), (1, 0)]
  | 2, 1 => [(1, 0), (1, 0), (1, 0)]
  | 2, 2 => [(1, 0), (1, 0), (2, 2), (2, 2), (2, 2)]
  | 2, 3 => [(1, 0), (1, 0), (3, 2), (3, 2), (4, 4), (4, 4), (4, 4), (4, 4), (4, 4)]
  | 2, 4 => [(1, 0), (1, 0), (3, 2), (4, 3), (6, 4), (6, 4), (7, 6), (7, 6), (8, 8), (8, 8), (8, 8), (8, 8), (8, 8), (8, 8), (8, 8), (8, 8), (8, 8)]
  | 2, 5 => [(1, 0), (1, 0), (3, 2), (5, 3), (7, 4), (7, 4), (9, 6), (10, 7), (12, 8), (12, 8), (13, 10), (13, 10), (14, 12), (14, 12), (15, 14), (15, 14), (16, 16), (16, 16), (16, 16), (16, 16), (16, 16), (16, 16), (16, 16), (16, 16), (16, 16), (16, 16), (16, 16), (16, 16), (16, 16), (16, 16), (16, 16), (16, 16), (16, 16)]
  | 2, 6 => [(1, 0), (1, 0), (3, 2), (5, 3), (7, 4), (8, 5), (10, 6), (12, 7), (14, 8), (14, 8), (16, 10), (17, 11), (19, 12), (19, 12), (21, 14), (22, 15), (24, 16), (24, 16), (25, 18), (25, 18), (26, 20), (26, 20), (27, 22), (27, 22), (28, 24), (28, 24), (29, 26), (29, 26), (30, 28), (30, 28), (31, 30), (31, 30), (32, 32), (32, 32), (32, 32), (32, 32), (32, 32), (32, 32), (32, 32), (32, 32), (32, 32), (32, 32), (32, 32), (32, 32), (32, 32), (32, 32), (32, 32), (32, 32), (32, 32), (32, 32), (32, 32), (32, 32), (32, 32), (32, 32), (32, 32), (32, 32), (32, 32), (32, 32), (32, 32), (32, 32), (32, 32), (32, 32), (32, 32), (32, 32), (32, 32)]
  | 3, 0 => [(1, 0), (1, 0)]
  | 3, 1 => [(1, 0), (1, 0), (1, 0)]
  | 3, 2 => [(1, 0), (1, 0), (2, 2), (2, 2), (2, 2)]
  | 3, 3 => [(1, 0), (1, 0), (4, 2), (4, 2), (4, 2), (4, 2), (4, 2), (4, 2), (4, 2)]
  | 3, 4 => [(1, 0), (1, 0), (4, 2), (5, 3), (6, 4), (6, 4), (7, 6), (7, 6), (8, 8), (8, 8), (8, 8), (8, 8), (8, 8), (8, 8), (8, 8), (8, 8), (8, 8)]
  | 3, 5 => [(1, 0), (1, 0), (5, 2), (6, 3), (8, 4), (9, 5), (10, 6), (11, 7), (12, 8), (12, 8), (13, 10), (13, 10), (14, 12), (14, 12), (15, 14), (15, 14), (16, 16), (16, 16), (16, 16), (16, 16), (16, 16), (16, 16), (16, 16), (16, 16), (16, 16), (16, 16), (16, 16), (16, 16), (16, 16), (16, 16), (16, 16), (16, 16), (16, 16)]
  | 3, 6 => [(1, 0), (1, 0), (5, 2), (7, 3), (9, 4), (10, 5), (12, 6), (14, 7), (16, 8), (16, 8), (18, 10), (18, 10), (20, 12), (20, 12), (22, 14), (22, 14), (24, 16), (24, 16), (25, 18), (25, 18), (26, 20), (26, 20), (27, 22), (27, 22), (28, 24), (28, 24), (29, 26), (29, 26), (30, 28), (30, 28), (31, 30), (31, 30), (32, 32), (32, 32), (32, 32), (32, 32), (32, 32), (32, 32), (32, 32), (32, 32), (32, 32), (32, 32), (32, 32), (32, 32), (32, 32), (32, 32), (32, 32), (32, 32), (32, 32), (32, 32), (32, 32), (32, 32), (32, 32), (32, 32), (32, 32), (32, 32), (32, 32), (32, 32), (32, 32), (32, 32), (32, 32), (32, 32), (32, 32), (32, 32), (32, 32)]
  | _, _ => []
def wst (k d r : Nat) : Int × Int := (wl k d).getD r (0, 0)
theorem worst_all : ∀ k ∈ [1, 2, 3], ∀ d ∈ List.range 7, ∀ r ∈ List.range (2 ^ d + 1), plan_tables_worst (tb k d) (r : Int) = some (wst k d r) := by decide +kernel
end Go.Sx.Pn

end
section
set_option linter.unusedVariables false
set_option linter.unusedSimpArgs false
namespace Go.Sx
open Go
end Go.Sx

end
section
set_option linter.unusedVariables false
set_option linter.unusedSimpArgs false
namespace Go.Sx
open Go
end Go.Sx

end
section
set_option linter.unusedVariables false
set_option linter.unusedSimpArgs false
namespace Go.Sx
open Go
theorem receiver_eq {k : BitVec 8} {d : Nat} {st u : Int} (h : d ≤ 6) : cover_tree_receiver ⟨k, (d : Int), st⟩ u = some (decide (0 ≤ u ∧ u < ((2 ^ d : Nat) : Int))) := by
  unfold cover_tree_receiver
  by_cases h0 : (0 : Int) ≤ u
  · rw [if_pos h0, size_eq h, bind_some]; congr 1; apply decide_eq_decide.2; omega
  · rw [if_neg h0]; congr 1; symm; apply decide_eq_false; omega
end Go.Sx

end
section
set_option linter.unusedVariables false
set_option linter.unusedSimpArgs false
namespace Go.Sx
open Go
/-! subsets, plainly -/
end Go.Sx

end
section
set_option linter.unusedVariables false
set_option linter.unusedSimpArgs false
namespace Go.Sx
open Go
section
variable {s : TScheme} {d u n m : Nat}
end
/-! lists of receivers -/
/-- whether numbers are receivers, in ascending order -/
def lstB (d : Nat) (l : List Int) : Bool := (List.range l.length).all fun j => decide (0 ≤ l.getD j 0 ∧ l.getD j 0 < ((2 ^ d : Nat) : Int)) && (decide (j = 0) || decide (l.getD (j - 1) 0 < l.getD j 0))
theorem getD_some {l : List Int} {j : Nat} (h : j < l.length) : l.getD j 0 = l[j] := by simp [List.getD, h]
theorem all_itL {σ : Type} (p : Nat → Bool) : ∀ (l : List Nat) (F : Nat → (σ → Option Bool) → σ → Option Bool) (s : σ), (∀ a ∈ l, ∀ nx s, F a nx s = bif p a then nx s else some false) → itL F (fun _ => some true) l s = some (l.all p)
  | [], F, s, _ => rfl
  | a :: l, F, s, h => by
    rw [itL_cons, h a (by simp), List.all_cons]
    cases p a with
    | false => rfl
    | true => rw [cond_true, Bool.true_and]; exact all_itL p l F s (fun b hb => h b (by simp [hb]))
theorem list_eq {kd : BitVec 8} {d : Nat} {st : Int} (h6 : d ≤ 6) (l : List Int) (hl : l.length < 4611686018427387904) : cover_tree_list ⟨kd, (d : Int), st⟩ l = some (lstB d l) := by
  unfold cover_tree_list lstB
  have := fix_range l.length (cover_tree_list_L1 ⟨kd, (d : Int), st⟩ l) (fun j (_ : Unit) => (j : Int)) (fun j nx s => bif decide (0 ≤ l.getD j 0 ∧ l.getD j 0 < ((2 ^ d : Nat) : Int)) && (decide (j = 0) || decide (l.getD (j - 1) 0 < l.getD j 0)) then nx s else some false) (fun _ => some true)
    (fun rec j hj _ => by
      simp only [cover_tree_list_L1, cover_tree_list_J2]
      rw [if_pos (by omega), getI_some hj, bind_some, receiver_eq h6, bind_some, getD_some hj, w64_nat (by omega)]
      by_cases h : 0 ≤ l[j] ∧ l[j] < ((2 ^ d : Nat) : Int)
      · rw [decide_eq_true h]
        simp only [Bool.not_true, cond_false, Bool.true_and]
        by_cases h0 : j = 0
        · rw [if_neg (by omega), decide_eq_true h0]; rfl
        · have hj1 : j - 1 < l.length := by omega
          rw [if_pos (by omega), w64_id (by omega) (by omega), show (j : Int) - 1 = ((j - 1 : Nat) : Int) from by omega, getI_some hj1, bind_some, decide_eq_false h0, Bool.false_or, getD_some hj1]
          by_cases h1 : l[j] ≤ l[j - 1]
          · rw [decide_eq_true h1, decide_eq_false (by omega)]; rfl
          · rw [decide_eq_false h1, decide_eq_true (by omega)]; rfl
      · rw [decide_eq_false h]; rfl)
    (fun rec _ => by simp only [cover_tree_list_L1]; rw [if_neg (by omega)]) (f := FUEL) (fuel_lt (by omega)) ()
  rw [show ((0 : Nat) : Int) = 0 from rfl] at this
  rw [this]
  exact all_itL _ _ _ _ (fun a _ nx s => rfl)
theorem lst_mem {d : Nat} {l : List Int} (h : lstB d l = true) {a : Int} (ha : a ∈ l) : ∃ u : Nat, a = (u : Int) ∧ u < 2 ^ d := by
  obtain ⟨j, hj, rfl⟩ := List.mem_iff_getElem.1 ha
  have := List.all_eq_true.1 h j (by simpa using hj)
  rw [Bool.and_eq_true, decide_eq_true_eq, getD_some hj] at this
  exact ⟨l[j].toNat, by omega, by omega⟩
end Go.Sx

end
