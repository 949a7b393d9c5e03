/- Several texts in one: GcM GeM GfM GdM GkM GbM GtM TaM OpnTa MirT MirM BitL Srt SrtSub Pl Pt Tr Ts Fx Mb Lb Tm Cv Tk Fy SecN Fd Kn Cp Pu Pr LawTa. -/
import Derived.Test.YtopkalcefepilaaZc
import Derived.Test.YtopkalcefepilaaRows
import Derived.KernelRfl
import Derived.Test.YtopkalcefepilaaZb
import Derived.Shelf.SlSortCmp.NoneTotal
import Derived.Shelf.SlGeneric
import Derived.Test.YtopkalcefepilaaProg
set_option linter.unusedVariables false
set_option linter.unusedSimpArgs false
section
set_option linter.unusedVariables false
set_option maxRecDepth 100000
namespace Go.Sx
open Go Go.RowKit
structure TNeed where
  Depth : Int
  Revoked : Int
  Storage : Int
  Headers : Int
  HeaderPrice : Int
  StoragePrice : Int
  Group : TGroup
deriving DecidableEq, Inhabited
def TNeed.cs (x : TNeed)  : List Value := [.int .i64 x.Depth, .int .i64 x.Revoked, .int .i64 x.Storage, .int .i64 x.Headers, .int .i64 x.HeaderPrice, .int .i64 x.StoragePrice, wv x.Group.P, wv x.Group.Q, wv x.Group.G]
theorem TNeed.cs_ones (x : TNeed)   : ones (TNeed.cs x ) = true := by simp only [TNeed.cs, List.cons_append, List.nil_append, kb, ones, one_int, one_bool, one_str, cond_true]
theorem TNeed.cs_inj {x y : TNeed} (h : TNeed.cs x = TNeed.cs y) : x = y := by
  have h0 : x.Depth = y.Depth := ci_inj (congrArg (fun l => l[0]?) h)
  have h1 : x.Revoked = y.Revoked := ci_inj (congrArg (fun l => l[1]?) h)
  have h2 : x.Storage = y.Storage := ci_inj (congrArg (fun l => l[2]?) h)
  have h3 : x.Headers = y.Headers := ci_inj (congrArg (fun l => l[3]?) h)
  have h4 : x.HeaderPrice = y.HeaderPrice := ci_inj (congrArg (fun l => l[4]?) h)
  have h5 : x.StoragePrice = y.StoragePrice := ci_inj (congrArg (fun l => l[5]?) h)
  have h6 : x.Group = y.Group := TGroup.cs_inj (congrArg (fun l => (l.drop 6).take 3) h)
  cases x; cases y; simp only at *; subst h0; subst h1; subst h2; subst h3; subst h4; subst h5; subst h6; rfl
theorem TNeed.ws (l : List TNeed) : Ws 9 (l.map TNeed.cs) := ws_map l (fun _ => rfl) (fun _ => rfl)
structure TChoice where
  Kind : BitVec 8
  Fits : Bool
  Items : Int
  Points : Int
  Header : Int
  Storage : Int
  Cost : Int
  Witness : List Int
deriving DecidableEq, Inhabited
def TChoice.cs (x : TChoice) (v0 : Value) : List Value := [bv x.Kind, .bool x.Fits, .int .i64 x.Items, .int .i64 x.Points, .int .i64 x.Header, .int .i64 x.Storage, .int .i64 x.Cost, v0]
theorem TChoice.cs_ones (x : TChoice) (v0 : Value) (h0 : oneB v0 = true) : ones (TChoice.cs x v0) = true := by simp only [TChoice.cs, List.cons_append, List.nil_append, kb, ones, one_int, one_bool, one_str, cond_true, h0]
structure TPlan where
  Choices : List TChoice
  Best : BitVec 8
deriving DecidableEq, Inhabited
def TPlan.cs (x : TPlan) (v0 : Value) : List Value := [v0, bv x.Best]
theorem TPlan.cs_ones (x : TPlan) (v0 : Value) (h0 : oneB v0 = true) : ones (TPlan.cs x v0) = true := by simp only [TPlan.cs, List.cons_append, List.nil_append, kb, ones, one_int, one_bool, one_str, cond_true, h0]
/-- headend/plan.within$1 -/
def plan_within_1 (p0 : Int) (p1 : Int) : Option (Bool) := (if p0 < 0 then (some true) else (some (decide (p1 < p0))))
def slices_IndexFunc_7bbb_plan_within_1_L1 (p0 : List Int) (p1_0 : Int) (rec1 : (Int) → Option (Int)) (a2 : Int) : Option (Int) := (if a2 < (p0.length : Int) then Option.bind (getI p0 a2) fun y3 => (Option.bind (plan_within_1 y3 p1_0) fun x4 => ((bif x4 then (some a2) else (rec1 (w64 (a2 + 1)))))) else (some (-1)))
/-- slices.IndexFunc[[]int,int] -/
def slices_IndexFunc_7bbb_plan_within_1 (p0 : List Int) (p1_0 : Int) : Option (Int) := (fixN (slices_IndexFunc_7bbb_plan_within_1_L1 p0 p1_0) FUEL 0)
/-- slices.ContainsFunc[[]int,int] -/
def slices_ContainsFunc_5954_plan_within_1 (p0 : List Int) (p1_0 : Int) : Option (Bool) := Option.bind (slices_IndexFunc_7bbb_plan_within_1 p0 p1_0) fun x1 => ((some (decide ((0 : Int) ≤ x1))))
/-- headend/plan.within -/
def plan_within (p0 : Int) (p1 : List Int) : Option (Bool) := Option.bind (slices_ContainsFunc_5954_plan_within_1 p1 p0) fun x1 => ((some (!x1)))
def plan_CheckNeed_J1 (a1 : Bool) : Option (Int) := (bif a1 then (some 2) else (some 0))
/-- headend/plan.CheckNeed -/
def plan_CheckNeed (p0 : TNeed) : Option (Int) := Option.bind (plan_within 6 [p0.Depth]) fun x2 => ((bif (!x2) then (plan_CheckNeed_J1 true) else Option.bind (shG p0.Depth) fun nn3 => (Option.bind (plan_within (shlI 1 nn3) [p0.Revoked]) fun x4 => ((bif (!x4) then (plan_CheckNeed_J1 true) else Option.bind (plan_within 10000 [p0.Storage]) fun x5 => ((bif (!x5) then (plan_CheckNeed_J1 true) else Option.bind (plan_within 1000 [p0.Headers, p0.HeaderPrice, p0.StoragePrice]) fun x6 => ((plan_CheckNeed_J1 (!x6))))))))))
def number_prime_L2 (p0 : BitVec 64) (rec2 : (BitVec 64) → Option (Bool)) (a3 : BitVec 64) : Option (Bool) := (if a3 * a3 ≤ p0 then Option.bind (remU p0 a3) fun x4 => ((if x4 = 0#64 then (some false) else (rec2 (a3 + 1#64)))) else (some true))
def number_prime_J1 (p0 : BitVec 64) (a1 : Bool) : Option (Bool) := (bif a1 then (some false) else (fixN (number_prime_L2 p0) FUEL 2#64))
/-- headend/number.prime -/
def number_prime (p0 : BitVec 64) : Option (Bool) := (if p0 < 2#64 then (number_prime_J1 p0 true) else (number_prime_J1 p0 (decide (1048575#64 < p0))))
def number_power_L1 (p2 : BitVec 64) (rec1 : (BitVec 64 × BitVec 64 × BitVec 64) → Option (BitVec 64)) (s1 : BitVec 64 × BitVec 64 × BitVec 64) : Option (BitVec 64) := match s1 with | (a6, a7, a8) => (if 0#64 < a7 then (if a7 &&& 1#64 = 1#64 then Option.bind (remU (a8 * a6) p2) fun x9 => (Option.bind (remU (a6 * a6) p2) fun x10 => (Option.bind (shG (un 1#64)) fun nn11 => ((rec1 (x10, a7 >>> nn11, x9))))) else Option.bind (remU (a6 * a6) p2) fun x12 => (Option.bind (shG (un 1#64)) fun nn13 => ((rec1 (x12, a7 >>> nn13, a8))))) else (some a8))
/-- headend/number.power -/
def number_power (p0 : BitVec 64) (p1 : BitVec 64) (p2 : BitVec 64) : Option (BitVec 64) := Option.bind (remU 1#64 p2) fun x1 => (Option.bind (remU p0 p2) fun x2 => ((fixN (number_power_L1 p2) FUEL (x2, p1, x1))))
def number_CheckGroup_J1 (a1 : Bool) : Option (Int) := (bif a1 then (some 13) else (some 0))
/-- headend/number.CheckGroup -/
def number_CheckGroup (p0 : TGroup) : Option (Int) := Option.bind (number_prime p0.P) fun x2 => ((bif (!x2) then (number_CheckGroup_J1 true) else Option.bind (number_prime p0.Q) fun x3 => ((bif (!x3) then (number_CheckGroup_J1 true) else Option.bind (remU (p0.P - 1#64) p0.Q) fun x4 => ((if x4 ≠ 0#64 then (number_CheckGroup_J1 true) else (if p0.G < 2#64 then (number_CheckGroup_J1 true) else (if p0.P ≤ p0.G then (number_CheckGroup_J1 true) else Option.bind (number_power p0.G p0.Q p0.P) fun x5 => ((number_CheckGroup_J1 (decide (x5 ≠ 1#64))))))))))))
/-- headend/poly.valid -/
def poly_valid (p0 : TScheme) : Option (Bool) := (if p0.Kind = 4#8 then (if (0 : Int) ≤ p0.Depth then (if p0.Depth ≤ 6 then (if (1 : Int) ≤ p0.Degree then (if p0.Degree ≤ 8 then Option.bind (number_CheckGroup p0.Group) fun x1 => ((if x1 = 0 then Option.bind (shG p0.Depth) fun nn2 => ((some (decide (wd (w64 ((shlI 1 nn2) + p0.Degree)) < p0.Group.Q)))) else (some false))) else (some false)) else (some false)) else (some false)) else (some false)) else (some false))
/-- headend/poly.Check -/
def poly_Check (p0 : TScheme) : Option (Int) := Option.bind (poly_valid p0) fun x1 => ((bif (!x1) then (some 30) else (some 0)))
/-- (headend/cover.tree).size -/
def cover_tree_size (p0 : Tcover_tree) : Option (Int) := Option.bind (shG p0.depth) fun nn1 => ((some (shlI 1 nn1)))
/-- (headend/cover.tree).has -/
def cover_tree_has (p0 : Tcover_tree) (p1 : Int) : Option (Bool) := (if (1 : Int) ≤ p1 then Option.bind (cover_tree_size p0) fun x1 => ((some (decide (p1 < w64 (2 * x1))))) else (some false))
/-- (headend/cover.node).level -/
def cover_node_level (p0 : Int) : Option (Int) := (some (w64 ((lg (un (wd p0))) - 1)))
def cover_node_below_J1 (p0 : Int) (p1 : Int) (a1 : Bool) : Option (Bool) := (bif a1 then (some false) else Option.bind (cover_node_level p0) fun x2 => (Option.bind (cover_node_level p1) fun x3 => (Option.bind (shG (w64 (x2 - x3))) fun nn4 => ((some (decide (shrI p0 nn4 = p1)))))))
/-- (headend/cover.node).below -/
def cover_node_below (p0 : Int) (p1 : Int) : Option (Bool) := (if p0 < 1 then (cover_node_below_J1 p0 p1 true) else (if p1 < 1 then (cover_node_below_J1 p0 p1 true) else Option.bind (cover_node_level p0) fun x5 => (Option.bind (cover_node_level p1) fun x6 => ((cover_node_below_J1 p0 p1 (decide (x5 < x6)))))))
/-- (headend/cover.tree).special -/
def cover_tree_special (p0 : Tcover_tree) (p1 : Int) : Option (Bool) := Option.bind (cover_node_level p1) fun x1 => (Option.bind (remI x1 p0.stride) fun x2 => ((some (decide (x2 = 0)))))
/-- headend/cover.path -/
def cover_path (p0 : Int) (p1 : Int) : Option (Int × Int) := (some (p0, p1))
/-- (headend/cover.node).toward -/
def cover_node_toward (p0 : Int) (p1 : Int) : Option (Int) := Option.bind (cover_node_level p1) fun x1 => (Option.bind (cover_node_level p0) fun x2 => (Option.bind (shG (w64 ((w64 (x1 - x2)) - 1))) fun nn3 => ((some (shrI p1 nn3)))))
def cover_path_1_L1 (p2 : Int) (rec1 : (Int) → Option (List Int)) (a2 : Int) : Option (List Int) := (if a2 ≠ p2 then Option.bind (cover_node_toward a2 p2) fun x3 => ((yl x3 ((rec1 x3)))) else (some []))
/-- headend/cover.path$1: what it yields -/
def cover_path_1 (p1 : Int) (p2 : Int) : Option (List Int) := (fixN (cover_path_1_L1 p2) FUEL p1)
def cover_first_cover_path_1_cover_tree_special_D1  (s : Int) : Option (Int) := match s with | a3 => (some 0)
def cover_first_cover_path_1_cover_tree_special_X1_0  (s : Int) : Option (Int) := match s with | a3 => (some a3)
def cover_first_cover_path_1_cover_tree_special_R1 (p1_0 : Tcover_tree) (e4 : Int) (nx1 : (Int) → Option (Int)) (s : Int) : Option (Int) := match s with | a3 => Option.bind (cover_tree_special p1_0 e4) fun x5 => ((bif x5 then (cover_first_cover_path_1_cover_tree_special_X1_0 e4) else (nx1 a3)))
/-- headend/cover.first -/
def cover_first_cover_path_1_cover_tree_special (p0_0 : Int) (p0_1 : Int) (p1_0 : Tcover_tree) : Option (Int) := Option.bind (cover_path_1 p0_0 p0_1) fun l1 => ((itL (cover_first_cover_path_1_cover_tree_special_R1 p1_0) cover_first_cover_path_1_cover_tree_special_D1 l1 0))
/-- (headend/cover.tree).cut -/
def cover_tree_cut (p0 : Tcover_tree) (p1 : Int) (p2 : Int) : Option (Int) := Option.bind (shG (un 1#64)) fun nn1 => (Option.bind (cover_path p1 (shrI p2 nn1)) fun x2 => (Option.bind (cover_first_cover_path_1_cover_tree_special x2.1 x2.2 p0) fun x3 => ((some x3))))
def cover_tree_subset_J2 (p0 : Tcover_tree) (p1 : TSubset) (a3 : Bool) : Option (Bool) := (bif a3 then (some false) else (if p0.kind = 2#8 then (some true) else Option.bind (cover_tree_special p0 p1.Node) fun x4 => ((bif x4 then (some true) else Option.bind (cover_tree_cut p0 p1.Node p1.Minus) fun x5 => ((some (decide (x5 = 0))))))))
def cover_tree_subset_J1 (p0 : Tcover_tree) (p1 : TSubset) (a2 : Bool) : Option (Bool) := (bif a2 then (if p1.Minus = 0 then (if p0.kind = 1#8 then (some true) else (some (decide (p1.Node = 1)))) else (some false)) else Option.bind (cover_tree_has p0 p1.Minus) fun x6 => ((bif (!x6) then (cover_tree_subset_J2 p0 p1 true) else (if p1.Minus = p1.Node then (cover_tree_subset_J2 p0 p1 true) else Option.bind (cover_node_below p1.Minus p1.Node) fun x7 => ((cover_tree_subset_J2 p0 p1 (!x7)))))))
/-- (headend/cover.tree).subset -/
def cover_tree_subset (p0 : Tcover_tree) (p1 : TSubset) : Option (Bool) := Option.bind (cover_tree_has p0 p1.Node) fun x1 => ((bif (!x1) then (some false) else (if p0.kind = 1#8 then (cover_tree_subset_J1 p0 p1 true) else (cover_tree_subset_J1 p0 p1 (decide (p1.Minus = 0))))))
def cover_enter_L1 (p1 : List TSubset) (x1 : Tcover_tree × Bool) (rec1 : (Int) → Option (Tcover_tree × Int)) (a3 : Int) : Option (Tcover_tree × Int) := (if a3 < (p1.length : Int) then Option.bind (getI p1 a3) fun y4 => (Option.bind (cover_tree_subset x1.1 y4) fun x5 => ((bif (!x5) then (some ((Tcover_tree.mk 0#8 0 0), 31)) else (rec1 (w64 (a3 + 1)))))) else (some (x1.1, 0)))
/-- headend/cover.enter -/
def cover_enter (p0 : TScheme) (p1 : List TSubset) : Option (Tcover_tree × Int) := Option.bind (cover_treeOf p0) fun x1 => ((bif (!x1.2) then (some ((Tcover_tree.mk 0#8 0 0), 30)) else (fixN (cover_enter_L1 p1 x1) FUEL 0)))
/-- (headend/cover.tree).labels -/
def cover_tree_labels (p0 : Tcover_tree) (p1 : Int) : Option (Tcover_tree × Int) := (some (p0, p1))
/-- (headend/cover.tree).leaf -/
def cover_tree_leaf (p0 : Tcover_tree) (p1 : Int) : Option (Int) := Option.bind (cover_tree_size p0) fun x1 => ((some (w64 (x1 + p1))))
/-- (headend/cover.node).sibling -/
def cover_node_sibling (p0 : Int) : Option (Int) := (some (bitI .xor p0 1))
def cover_tree_labels_1_D2 (x1 : Int) (a2 : Int) (rec1 : (Int) → Option (List (Int × Int))) (s : Unit) : Option (List (Int × Int)) := Option.bind (cover_node_toward a2 x1) fun x10 => ((rec1 x10))
def cover_tree_labels_1_R2 (p1 : Tcover_tree) (a2 : Int) (e7 : Int) (nx2 : Unit → Option (List (Int × Int))) (s : Unit) : Option (List (Int × Int)) := Option.bind (cover_node_sibling e7) fun x8 => (Option.bind (cover_tree_subset p1 (TSubset.mk a2 x8)) fun x9 => ((bif x9 then (yl (a2, x8) ((nx2 ()))) else (nx2 ()))))
def cover_tree_labels_1_L1 (p1 : Tcover_tree) (x1 : Int) (rec1 : (Int) → Option (List (Int × Int))) (a2 : Int) : Option (List (Int × Int)) := (if a2 ≠ x1 then (if p1.kind = 1#8 then Option.bind (cover_node_toward a2 x1) fun x3 => ((yl (x3, 0) (Option.bind (cover_node_toward a2 x1) fun x4 => ((rec1 x4))))) else Option.bind (cover_path a2 x1) fun x5 => (Option.bind (cover_path_1 x5.1 x5.2) fun l6 => ((itL (cover_tree_labels_1_R2 p1 a2) (cover_tree_labels_1_D2 x1 a2 rec1) l6 ())))) else (some []))
/-- (headend/cover.tree).labels$1: what it yields -/
def cover_tree_labels_1 (p1 : Tcover_tree) (p2 : Int) : Option (List (Int × Int)) := Option.bind (cover_tree_leaf p1 p2) fun x1 => ((yl (1, 0) ((fixN (cover_tree_labels_1_L1 p1 x1) FUEL 1))))
def cover_Storage_D1  (s : Int) : Option (Int × Int) := match s with | a5 => (some (a5, 0))
def cover_Storage_R1  (ee : Int × Int) (nx1 : (Int) → Option (Int × Int)) (s : Int) : Option (Int × Int) := match ee with | (e6, e7) => match s with | a5 => (nx1 (w64 (a5 + 1)))
/-- headend/cover.Storage -/
def cover_Storage (p0 : TScheme) : Option (Int × Int) := Option.bind (cover_enter p0 ([] : List TSubset)) fun x1 => ((if x1.2 ≠ 0 then (some (0, x1.2)) else Option.bind (cover_tree_labels x1.1 0) fun x2 => (Option.bind (cover_tree_labels_1 x2.1 x2.2) fun l3 => ((itL cover_Storage_R1 cover_Storage_D1 l3 0)))))
def plan_Choose_J1 (p0 : TNeed) (p1 : BitVec 8) (a2 : Int) (a3 : Int) (a4 : Int) (a5 : List Int) : Option (TChoice × Int) := Option.bind (shG p0.Depth) fun nn7 => ((some ((TChoice.mk p1 (decide (a4 ≤ p0.Storage)) a2 a3 (w64 ((w64 (67 + (w64 (18 * a2)))) + (w64 (16 * a3)))) a4 (w64 ((w64 ((w64 (p0.Headers * p0.HeaderPrice)) * (w64 ((w64 (67 + (w64 (18 * a2)))) + (w64 (16 * a3)))))) + (shlI (w64 (p0.StoragePrice * a4)) nn7))) a5), 0)))
def plan_Choose_J2 (p0 : TNeed) (p1 : BitVec 8) (a8 : Bool) : Option (TChoice × Int) := (bif a8 then (some ((TChoice.mk 0#8 false 0 0 0 0 0 []), 2)) else (if p1 = 4#8 then Option.bind (poly_Check (TScheme.mk p1 p0.Depth (mxI p0.Revoked 1) p0.Group)) fun x9 => ((if x9 ≠ 0 then (some ((TChoice.mk p1 false 0 0 0 0 0 []), 0)) else (plan_Choose_J1 p0 p1 0 (mxI p0.Revoked 1) 8 []))) else Option.bind (plan_newTables (TScheme.mk p1 p0.Depth 0 (TGroup.mk 0#64 0#64 0#64))) fun x10 => (Option.bind (cover_Storage (TScheme.mk p1 p0.Depth 0 (TGroup.mk 0#64 0#64 0#64))) fun x11 => (Option.bind (plan_tables_worst x10 p0.Revoked) fun x12 => (Option.bind (plan_tables_list x10 ([] : List Int) 1 0 p0.Depth x12.2) fun x13 => ((plan_Choose_J1 p0 p1 x12.1 0 (w64 (16 * x11.1)) x13)))))))
/-- headend/plan.Choose -/
def plan_Choose (p0 : TNeed) (p1 : BitVec 8) : Option (TChoice × Int) := Option.bind (plan_CheckNeed p0) fun x1 => ((if x1 ≠ 0 then (some ((TChoice.mk 0#8 false 0 0 0 0 0 []), x1)) else (if p1 < 1#8 then (plan_Choose_J2 p0 p1 true) else (plan_Choose_J2 p0 p1 (decide (4#8 < p1))))))
def plan_Make_J2 (a5 : BitVec 8) (a7 : BitVec 8) (rec1 : (BitVec 8 × List TChoice × BitVec 8) → Option (TPlan × Int)) (l10 : List TChoice) (a11 : Bool) : Option (TPlan × Int) := (bif a11 then (rec1 (a5 + 1#8, l10, a5)) else (rec1 (a5 + 1#8, l10, a7)))
def plan_Make_L1 (p0 : TNeed) (rec1 : (BitVec 8 × List TChoice × BitVec 8) → Option (TPlan × Int)) (s1 : BitVec 8 × List TChoice × BitVec 8) : Option (TPlan × Int) := match s1 with | (a5, a6, a7) => (if a5 ≤ 4#8 then Option.bind (plan_Choose p0 a5) fun x9 => ((if x9.2 ≠ 0 then (some ((TPlan.mk [] 0#8), x9.2)) else Option.bind (appG 72 a6 [x9.1]) fun l10 => ((bif x9.1.Fits then (if a7 = 0#8 then (plan_Make_J2 a5 a7 rec1 l10 true) else Option.bind (getI l10 (un8 (a7 - 1#8))) fun y12 => ((plan_Make_J2 a5 a7 rec1 l10 (decide (x9.1.Cost < y12.Cost))))) else (plan_Make_J2 a5 a7 rec1 l10 false))))) else (some ((TPlan.mk a6 a7), 0)))
/-- headend/plan.Make -/
def plan_Make (p0 : TNeed) : Option (TPlan × Int) := (fixN (plan_Make_L1 p0) FUEL (1#8, [], 0#8))
end Go.Sx

end
section
set_option linter.unusedVariables false
set_option maxRecDepth 100000
namespace Go.Sx
open Go Go.RowKit
def ref03_SameInts_L1 (p0 : List Int) (p1 : List Int) (rec1 : (Int) → Option (Bool)) (a2 : Int) : Option (Bool) := (if a2 < (p0.length : Int) then Option.bind (getI p0 a2) fun y3 => (Option.bind (getI p1 a2) fun y4 => ((if y3 ≠ y4 then (some false) else (rec1 (w64 (a2 + 1)))))) else (some true))
/-- headend/headendref03.SameInts -/
def ref03_SameInts (p0 : List Int) (p1 : List Int) : Option (Bool) := (if (p0.length : Int) ≠ (p1.length : Int) then (some false) else (fixN (ref03_SameInts_L1 p0 p1) FUEL 0))
/-- headend/headendref10.SameNumbers -/
def ref10_SameNumbers (p0 : TChoice) (p1 : TChoice) : Option (Bool) := (if p0.Kind = p1.Kind then (bif (p0.Fits == p1.Fits) then (if p0.Items = p1.Items then (if p0.Points = p1.Points then (if p0.Header = p1.Header then (if p0.Storage = p1.Storage then (some (decide (p0.Cost = p1.Cost))) else (some false)) else (some false)) else (some false)) else (some false)) else (some false)) else (some false))
/-- headend/headendref10.SameChoice -/
def ref10_SameChoice (p0 : TChoice) (p1 : TChoice) : Option (Bool) := Option.bind (ref10_SameNumbers p0 p1) fun x1 => ((bif x1 then Option.bind (ref03_SameInts p0.Witness p1.Witness) fun x2 => ((some x2)) else (some false)))
end Go.Sx

end
section
set_option linter.unusedVariables false
set_option maxRecDepth 100000
namespace Go.Sx
open Go Go.RowKit
/-- headend/headendlaw10.tree -/
def law10_tree (p0 : BitVec 8) (p1 : Int) : Option (TScheme) := (some (TScheme.mk p0 p1 0 (TGroup.mk 0#64 0#64 0#64)))
/-- headend/headendlaw10.small -/
def law10_small  : Option (TNeed) := (some (TNeed.mk 2 1 48 10 1 2 (TGroup.mk 0#64 0#64 0#64)))
def law10_worsts_J2 (a2 : Int) (rec1 : (Int) → Option (Bool)) (a4 : Bool) : Option (Bool) := (bif a4 then (some false) else (rec1 (w64 (a2 + 1))))
def law10_worsts_L1 (p0 : TScheme) (p1 : List Int) (rec1 : (Int) → Option (Bool)) (a2 : Int) : Option (Bool) := (if a2 < (p1.length : Int) then Option.bind (plan_Worst p0 a2) fun x3 => ((if x3.2 ≠ 0 then (law10_worsts_J2 a2 rec1 true) else Option.bind (getI p1 a2) fun y5 => ((law10_worsts_J2 a2 rec1 (decide (x3.1 ≠ y5)))))) else (some true))
/-- headend/headendlaw10.worsts -/
def law10_worsts (p0 : TScheme) (p1 : List Int) : Option (Bool) := (fixN (law10_worsts_L1 p0 p1) FUEL 0)
def law10_alive_J1 (x6 : TChoice × Int) (x8 : TPlan × Int) (a9 : Bool) : Option (Bool) := (bif a9 then (some false) else Option.bind (law10_tree 1#8 2) fun x10 => (Option.bind (law10_worsts x10 [1, 2, 2, 2, 2]) fun x11 => ((bif x11 then Option.bind (law10_tree 2#8 2) fun x12 => (Option.bind (law10_worsts x12 [1, 1, 2, 2, 2]) fun x13 => ((bif x13 then Option.bind (ref10_SameChoice x6.1 (TChoice.mk 1#8 true 2 0 103 48 1414 [3])) fun x14 => ((bif x14 then (if x8.1.Best = 1#8 then (some (decide ((x8.1.Choices.length : Int) = 4))) else (some false)) else (some false))) else (some false)))) else (some false)))))
/-- headend/headendlaw10.alive -/
def law10_alive  : Option (Bool) := Option.bind (law10_tree 1#8 2) fun x1 => (Option.bind (plan_Witness x1 2) fun x2 => (Option.bind (law10_tree 2#8 2) fun x3 => (Option.bind (plan_Witness x3 2) fun x4 => (Option.bind (law10_small) fun x5 => (Option.bind (plan_Choose x5 1#8) fun x6 => (Option.bind (law10_small) fun x7 => (Option.bind (plan_Make x7) fun x8 => ((if x2.2 ≠ 0 then (law10_alive_J1 x6 x8 true) else (if x4.2 ≠ 0 then (law10_alive_J1 x6 x8 true) else (if x6.2 ≠ 0 then (law10_alive_J1 x6 x8 true) else (if x8.2 ≠ 0 then (law10_alive_J1 x6 x8 true) else Option.bind (ref03_SameInts x2.1 [3]) fun x15 => ((bif (!x15) then (law10_alive_J1 x6 x8 true) else Option.bind (ref03_SameInts x4.1 [1, 3]) fun x16 => ((law10_alive_J1 x6 x8 (!x16)))))))))))))))))
end Go.Sx

end
section
set_option linter.unusedVariables false
set_option maxRecDepth 100000
namespace Go.Sx
open Go Go.RowKit
noncomputable section
/-- (headend/cover.tree).receiver -/
def cover_tree_receiver (p0 : Tcover_tree) (p1 : Int) : Option (Bool) := (if (0 : Int) ≤ p1 then Option.bind (cover_tree_size p0) fun x1 => ((some (decide (p1 < x1)))) else (some false))
def cover_tree_list_J2 (a2 : Int) (rec1 : (Int) → Option (Bool)) (a4 : Bool) : Option (Bool) := (bif a4 then (some false) else (rec1 (w64 (a2 + 1))))
def cover_tree_list_L1 (p0 : Tcover_tree) (p1 : List Int) (rec1 : (Int) → Option (Bool)) (a2 : Int) : Option (Bool) := (if a2 < (p1.length : Int) then Option.bind (getI p1 a2) fun y3 => (Option.bind (cover_tree_receiver p0 y3) fun x5 => ((bif (!x5) then (cover_tree_list_J2 a2 rec1 true) else (if (0 : Int) < a2 then Option.bind (getI p1 (w64 (a2 - 1))) fun y6 => ((cover_tree_list_J2 a2 rec1 (decide (y3 ≤ y6)))) else (cover_tree_list_J2 a2 rec1 false))))) else (some true))
/-- (headend/cover.tree).list -/
def cover_tree_list (p0 : Tcover_tree) (p1 : List Int) : Option (Bool) := (fixN (cover_tree_list_L1 p0 p1) FUEL 0)
/-- headend/cover.Cover$1 -/
def cover_Cover_1 (p0 : Int) (p1 : Int) (p2 : List TSubset) : Option (List TSubset) := Option.bind (appG 16 p2 [(TSubset.mk p0 p1)]) fun l1 => ((some l1))
def cover_Cover_L2 (a5 : Int) (rec1 : (Int × List Int) → Option (List TSubset × Int)) (rec2 : (Int × List Int) → Option (List TSubset × Int)) (s2 : Int × List Int) : Option (List TSubset × Int) := match s2 with | (a11, a12) => (if (0 : Int) < a11 then Option.bind (shG (un 1#64)) fun nn13 => ((rec2 (shrI a11 nn13, insS a12 a11))) else (rec1 (w64 (a5 + 1), a12)))
def cover_Cover_J4 (a16 : List TSubset) (nx3 : (List TSubset) → Option (List TSubset × Int)) (k18 : Int) (a20 : Bool) : Option (List TSubset × Int) := (bif a20 then Option.bind (cover_node_sibling k18) fun x21 => (Option.bind (cover_Cover_1 x21 0 a16) fun x22 => ((nx3 x22))) else (nx3 a16))
def cover_Cover_J7 (nx3 : (List TSubset) → Option (List TSubset × Int)) (a26 : Int) (a27 : Int) (a28 : List TSubset) : Option (List TSubset × Int) := Option.bind (cover_Cover_1 a27 a26 a28) fun x30 => ((nx3 x30))
def cover_Cover_J8 (a16 : List TSubset) (nx3 : (List TSubset) → Option (List TSubset × Int)) (k18 : Int) (a26 : Int) (x31 : Int) (a32 : Bool) : Option (List TSubset × Int) := (bif a32 then Option.bind (cover_Cover_1 k18 x31 a16) fun x33 => ((cover_Cover_J7 nx3 a26 x31 x33)) else (cover_Cover_J7 nx3 a26 k18 a16))
def cover_Cover_L6 (x1 : Tcover_tree × Int) (a6 : List Int) (a16 : List TSubset) (nx3 : (List TSubset) → Option (List TSubset × Int)) (k18 : Int) (rec6 : (Int) → Option (List TSubset × Int)) (a26 : Int) : Option (List TSubset × Int) := (bif ((decide ((w64 (2 * a26)) ∈ a6)) != (decide ((w64 ((w64 (2 * a26)) + 1)) ∈ a6))) then (if ¬ ((w64 (a26 * 2)) ∈ a6) then (rec6 (w64 ((w64 (a26 * 2)) + 1))) else (rec6 (w64 (a26 * 2)))) else (if a26 = k18 then (nx3 a16) else Option.bind (cover_tree_cut x1.1 k18 a26) fun x31 => ((if x31 ≠ 0 then (if x1.1.kind = 3#8 then Option.bind (cover_tree_special x1.1 k18) fun x34 => ((cover_Cover_J8 a16 nx3 k18 a26 x31 (!x34))) else (cover_Cover_J8 a16 nx3 k18 a26 x31 false)) else (cover_Cover_J8 a16 nx3 k18 a26 x31 false)))))
def cover_Cover_J5 (x1 : Tcover_tree × Int) (a6 : List Int) (a16 : List TSubset) (nx3 : (List TSubset) → Option (List TSubset × Int)) (k18 : Int) (a24 : Bool) : Option (List TSubset × Int) := (bif a24 then (nx3 a16) else (fixN (cover_Cover_L6 x1 a6 a16 nx3 k18) FUEL k18))
def cover_Cover_E3  (a16 : List TSubset) : Option (List TSubset × Int) := Option.bind (srtBy TSubset.Node a16) fun l19 => ((some (l19, 0)))
def cover_Cover_S3 (x1 : Tcover_tree × Int) (a6 : List Int) (k18 : Int) (nx3 : (List TSubset) → Option (List TSubset × Int)) (a16 : List TSubset) : Option (List TSubset × Int) := (if x1.1.kind = 1#8 then (if (1 : Int) < k18 then Option.bind (cover_node_sibling k18) fun x23 => ((cover_Cover_J4 a16 nx3 k18 (decide (¬ (x23 ∈ a6))))) else (cover_Cover_J4 a16 nx3 k18 false)) else (if (1 : Int) < k18 then Option.bind (cover_node_sibling k18) fun x35 => ((cover_Cover_J5 x1 a6 a16 nx3 k18 (decide (¬ (x35 ∈ a6))))) else (cover_Cover_J5 x1 a6 a16 nx3 k18 false)))
def cover_Cover_L1 (p1 : List Int) (x1 : Tcover_tree × Int) (rec1 : (Int × List Int) → Option (List TSubset × Int)) (s1 : Int × List Int) : Option (List TSubset × Int) := match s1 with | (a5, a6) => (if a5 < (p1.length : Int) then Option.bind (getI p1 a5) fun y7 => (Option.bind (cover_tree_leaf x1.1 y7) fun x8 => ((fixN (cover_Cover_L2 a5 rec1) FUEL (x8, a6)))) else (rngM (cover_Cover_S3 x1 a6) cover_Cover_E3 FUEL a6 []))
/-- headend/cover.Cover -/
def cover_Cover (p0 : TScheme) (p1 : List Int) : Option (List TSubset × Int) := Option.bind (cover_enter p0 ([] : List TSubset)) fun x1 => ((if x1.2 ≠ 0 then (some ([], x1.2)) else Option.bind (cover_tree_list x1.1 p1) fun x2 => ((bif (!x2) then (some ([], 2)) else (if (p1.length : Int) = 0 then (some ([(TSubset.mk 1 0)], 0)) else (fixN (cover_Cover_L1 p1 x1) FUEL (0, [])))))))
end
end Go.Sx

end
section
set_option linter.unusedVariables false
set_option maxRecDepth 100000
namespace Go.Sx
open Go Go.RowKit
noncomputable section
structure TA5_i64 where
  a0 : Int
  a1 : Int
  a2 : Int
  a3 : Int
  a4 : Int
deriving DecidableEq, Inhabited
def TA5_i64.cs (x : TA5_i64)  : List Value := [.int .i64 x.a0, .int .i64 x.a1, .int .i64 x.a2, .int .i64 x.a3, .int .i64 x.a4]
theorem TA5_i64.cs_ones (x : TA5_i64)   : ones (TA5_i64.cs x ) = true := by simp only [TA5_i64.cs, List.cons_append, List.nil_append, kb, ones, one_int, one_bool, one_str, cond_true]
theorem TA5_i64.cs_inj {x y : TA5_i64} (h : TA5_i64.cs x = TA5_i64.cs y) : x = y := by
  have h0 : x.a0 = y.a0 := ci_inj (congrArg (fun l => l[0]?) h)
  have h1 : x.a1 = y.a1 := ci_inj (congrArg (fun l => l[1]?) h)
  have h2 : x.a2 = y.a2 := ci_inj (congrArg (fun l => l[2]?) h)
  have h3 : x.a3 = y.a3 := ci_inj (congrArg (fun l => l[3]?) h)
  have h4 : x.a4 = y.a4 := ci_inj (congrArg (fun l => l[4]?) h)
  cases x; cases y; simp only at *; subst h0; subst h1; subst h2; subst h3; subst h4; rfl
theorem TA5_i64.ws (l : List TA5_i64) : Ws 5 (l.map TA5_i64.cs) := ws_map l (fun _ => rfl) (fun _ => rfl)
def plan_agrees_J2 (p0 : TNeed) (p1 : TChoice) (a1 : Bool) (a2 : Bool) : Option (Bool) := (bif a2 then (bif a1 then (some (decide ((p1.Witness.length : Int) = 0))) else (some false)) else Option.bind (cover_Cover (TScheme.mk p1.Kind p0.Depth 0 (TGroup.mk 0#64 0#64 0#64)) p1.Witness) fun x3 => ((if x3.2 = 0 then (if (p1.Witness.length : Int) ≤ p0.Revoked then (some (decide ((x3.1.length : Int) = p1.Items))) else (some false)) else (some false))))
def plan_agrees_J1 (p0 : TNeed) (p1 : TChoice) (a1 : Bool) : Option (Bool) := (bif (!a1) then (plan_agrees_J2 p0 p1 a1 true) else (plan_agrees_J2 p0 p1 a1 (decide (p1.Kind = 4#8))))
/-- headend/plan.agrees -/
def plan_agrees (p0 : TNeed) (p1 : TChoice) (p2 : TChoice) : Option (Bool) := (if p1.Kind = p2.Kind then (bif (p1.Fits == p2.Fits) then (plan_agrees_J1 p0 p1 (decide ((TA5_i64.mk p1.Items p1.Points p1.Header p1.Storage p1.Cost) = (TA5_i64.mk p2.Items p2.Points p2.Header p2.Storage p2.Cost)))) else (plan_agrees_J1 p0 p1 false)) else (plan_agrees_J1 p0 p1 false))
/-- headend/plan.Check$1 -/
def plan_Check_1 (p0 : TChoice) (p1 : TChoice) (p2 : TNeed) : Option (Bool) := Option.bind (plan_agrees p2 p0 p1) fun x1 => ((some x1))
def slices_EqualFunc_ff82_plan_Check_1_L1 (p0 : List TChoice) (p1 : List TChoice) (p2_0 : TNeed) (rec1 : (Int) → Option (Bool)) (a2 : Int) : Option (Bool) := (if a2 < (p0.length : Int) then Option.bind (getI p0 a2) fun y3 => (Option.bind (getI p1 a2) fun y4 => (Option.bind (plan_Check_1 y3 y4 p2_0) fun x5 => ((bif (!x5) then (some false) else (rec1 (w64 (a2 + 1))))))) else (some true))
/-- slices.EqualFunc[[]headend/api.Choice,[]headend/api.Choice,headend/api.Choice,headend/api.Choice] -/
def slices_EqualFunc_ff82_plan_Check_1 (p0 : List TChoice) (p1 : List TChoice) (p2_0 : TNeed) : Option (Bool) := (if (p0.length : Int) ≠ (p1.length : Int) then (some false) else (fixN (slices_EqualFunc_ff82_plan_Check_1_L1 p0 p1 p2_0) FUEL 0))
def plan_Check_J1 (a2 : Bool) : Option (Int) := (bif a2 then (some 100) else (some 0))
/-- headend/plan.Check -/
def plan_Check (p0 : TNeed) (p1 : TPlan) : Option (Int) := Option.bind (plan_Make p0) fun x1 => ((if x1.2 ≠ 0 then (some x1.2) else (if p1.Best ≠ x1.1.Best then (plan_Check_J1 true) else Option.bind (slices_EqualFunc_ff82_plan_Check_1 p1.Choices x1.1.Choices p0) fun x3 => ((plan_Check_J1 (!x3))))))
end
end Go.Sx

end
section
set_option linter.unusedVariables false
set_option maxRecDepth 100000
namespace Go.Sx
open Go Go.RowKit
noncomputable section
/-- slices.Clone[[]int,int] -/
def slices_Clone_8a9f (p0 : List Int) : Option (List Int) := Option.bind (appG 8 [] p0) fun l1 => ((some l1))
def plan_Tables_L2 (p0 : TScheme) (x2 : Tplan_tables) (a6 : List (List (List Int))) (a8 : Int) (rec1 : (List (List (List Int)) × Int) → Option (List (List (List Int)) × Int)) (rec2 : (List (List Int) × Int) → Option (List (List (List Int)) × Int)) (s2 : List (List Int) × Int) : Option (List (List (List Int)) × Int) := match s2 with | (a12, a14) => (if a14 < w64 (p0.Depth + 1) then Option.bind (plan_tables_at x2 a8 a14) fun x15 => (Option.bind (slices_Clone_8a9f x15) fun x16 => (Option.bind (appG 24 a12 [x16]) fun l17 => ((rec2 (l17, w64 (a14 + 1)))))) else Option.bind (appG 24 a6 [a12]) fun l18 => ((rec1 (l18, w64 (a8 + 1)))))
def plan_Tables_L1 (p0 : TScheme) (x2 : Tplan_tables) (rec1 : (List (List (List Int)) × Int) → Option (List (List (List Int)) × Int)) (s1 : List (List (List Int)) × Int) : Option (List (List (List Int)) × Int) := match s1 with | (a6, a8) => (if a8 < x2.states then (fixN (plan_Tables_L2 p0 x2 a6 a8 rec1) FUEL ([], 0)) else (some (a6, 0)))
/-- headend/plan.Tables -/
def plan_Tables (p0 : TScheme) : Option (List (List (List Int)) × Int) := Option.bind (cover_Check p0) fun x1 => ((if x1 ≠ 0 then (some ([], x1)) else Option.bind (plan_newTables p0) fun x2 => ((fixN (plan_Tables_L1 p0 x2) FUEL ([], 0)))))
def slices_Equal_dd32_L1 (p0 : List Int) (p1 : List Int) (rec1 : (Int) → Option (Bool)) (a2 : Int) : Option (Bool) := (if a2 < (p0.length : Int) then Option.bind (getI p0 a2) fun y3 => (Option.bind (getI p1 a2) fun y4 => ((if y3 ≠ y4 then (some false) else (rec1 (w64 (a2 + 1)))))) else (some true))
/-- slices.Equal[[]int,int] -/
def slices_Equal_dd32 (p0 : List Int) (p1 : List Int) : Option (Bool) := (if (p0.length : Int) ≠ (p1.length : Int) then (some false) else (fixN (slices_Equal_dd32_L1 p0 p1) FUEL 0))
def slices_EqualFunc_2be1_slices_Equal_dd32_L1 (p0 : List (List Int)) (p1 : List (List Int)) (rec1 : (Int) → Option (Bool)) (a2 : Int) : Option (Bool) := (if a2 < (p0.length : Int) then Option.bind (getI p0 a2) fun y3 => (Option.bind (getI p1 a2) fun y4 => (Option.bind (slices_Equal_dd32 y3 y4) fun x5 => ((bif (!x5) then (some false) else (rec1 (w64 (a2 + 1))))))) else (some true))
/-- slices.EqualFunc[[][]int,[][]int,[]int,[]int] -/
def slices_EqualFunc_2be1_slices_Equal_dd32 (p0 : List (List Int)) (p1 : List (List Int)) : Option (Bool) := (if (p0.length : Int) ≠ (p1.length : Int) then (some false) else (fixN (slices_EqualFunc_2be1_slices_Equal_dd32_L1 p0 p1) FUEL 0))
/-- headend/plan.CheckTables$1 -/
def plan_CheckTables_1 (p0 : List (List Int)) (p1 : List (List Int)) : Option (Bool) := Option.bind (slices_EqualFunc_2be1_slices_Equal_dd32 p0 p1) fun x1 => ((some x1))
def slices_EqualFunc_83f6_plan_CheckTables_1_L1 (p0 : List (List (List Int))) (p1 : List (List (List Int))) (rec1 : (Int) → Option (Bool)) (a2 : Int) : Option (Bool) := (if a2 < (p0.length : Int) then Option.bind (getI p0 a2) fun y3 => (Option.bind (getI p1 a2) fun y4 => (Option.bind (plan_CheckTables_1 y3 y4) fun x5 => ((bif (!x5) then (some false) else (rec1 (w64 (a2 + 1))))))) else (some true))
/-- slices.EqualFunc[[][][]int,[][][]int,[][]int,[][]int] -/
def slices_EqualFunc_83f6_plan_CheckTables_1 (p0 : List (List (List Int))) (p1 : List (List (List Int))) : Option (Bool) := (if (p0.length : Int) ≠ (p1.length : Int) then (some false) else (fixN (slices_EqualFunc_83f6_plan_CheckTables_1_L1 p0 p1) FUEL 0))
/-- headend/plan.CheckTables -/
def plan_CheckTables (p0 : TScheme) (p1 : List (List (List Int))) : Option (Int) := Option.bind (plan_Tables p0) fun x1 => ((if x1.2 ≠ 0 then (some x1.2) else Option.bind (slices_EqualFunc_83f6_plan_CheckTables_1 x1.1 p1) fun x2 => ((bif (!x2) then (some 100) else (some 0)))))
end
end Go.Sx

end
section
set_option linter.unusedVariables false
set_option maxRecDepth 100000
namespace Go.Sx
open Go Go.RowKit
noncomputable section
/-- headend/headendref03.Valid -/
def ref03_Valid (p0 : TScheme) : Option (Bool) := (if 1#8 ≤ p0.Kind then (if p0.Kind ≤ 3#8 then (if (0 : Int) ≤ p0.Depth then (if p0.Depth ≤ 6 then (if p0.Degree = 0 then (some (decide (p0.Group = (TGroup.mk 0#64 0#64 0#64)))) else (some false)) else (some false)) else (some false)) else (some false)) else (some false))
/-- headend/headendref03.Check -/
def ref03_Check (p0 : TScheme) : Option (Int) := Option.bind (ref03_Valid p0) fun x1 => ((bif (!x1) then (some 30) else (some 0)))
/-- headend/headendref10.states -/
def ref10_states (p0 : BitVec 8) : Option (Int) := Option.bind (getI [0, 1, 2, 4] (un8 p0)) fun y1 => ((some y1))
/-- headend/headendref10.more -/
def ref10_more (p0 : Int) : Option (Int) := Option.bind (getI [0, 1, 1, 2] p0) fun y1 => ((some y1))
/-- headend/headendref10.start -/
def ref10_start (p0 : BitVec 8) (p1 : Int) (p2 : Int) : Option (Int) := (if p0 = 1#8 then (some (w64 (1 - p2))) else Option.bind (ref10_more p1) fun x1 => ((some (w64 (p2 * x1)))))
def ref03_Stride_L1 (p0 : Int) (rec1 : (Int) → Option (Int)) (a2 : Int) : Option (Int) := (if w64 (a2 * a2) < p0 then (rec1 (w64 (a2 + 1))) else (some a2))
/-- headend/headendref03.Stride -/
def ref03_Stride (p0 : Int) : Option (Int) := (fixN (ref03_Stride_L1 p0) FUEL 1)
def ref10_below_J1 (p0 : TScheme) (p1 : Int) (p2 : Int) (a1 : Bool) : Option (Int) := (bif a1 then (some (mxI p1 1)) else Option.bind (ref03_Stride p0.Depth) fun x2 => (Option.bind (remI (w64 (p0.Depth - p2)) x2) fun x3 => ((if x3 = 0 then Option.bind (getI [1, 1, 3] p1) fun y4 => ((some y4)) else (some 2)))))
/-- headend/headendref10.below -/
def ref10_below (p0 : TScheme) (p1 : Int) (p2 : Int) : Option (Int) := (if p0.Kind = 2#8 then (ref10_below_J1 p0 p1 p2 true) else (if p1 = 1 then (ref10_below_J1 p0 p1 p2 true) else (ref10_below_J1 p0 p1 p2 (decide (p1 = 3)))))
def ref10_value_J1 (p0 : TScheme) (p1 : List (List (List Int))) (p2 : Int) (p3 : Int) (p4 : Int) (p5 : Int) (a7 : Bool) : Option (Int) := (bif a7 then Option.bind (getI p1 0) fun y8 => (Option.bind (getI y8 (w64 (p3 - 1))) fun y9 => (Option.bind (getI y9 p5) fun y10 => (Option.bind (getI p1 0) fun y11 => (Option.bind (getI y11 (w64 (p3 - 1))) fun y12 => (Option.bind (getI y12 (w64 (p4 - p5))) fun y13 => (Option.bind (ref10_more p2) fun x14 => ((some (w64 ((w64 (y10 + y13)) + x14)))))))))) else Option.bind (ref10_below p0 p2 p3) fun x15 => (Option.bind (getI p1 x15) fun y16 => (Option.bind (getI y16 (w64 (p3 - 1))) fun y17 => (Option.bind (getI y17 p4) fun y18 => ((some y18))))))
/-- headend/headendref10.value -/
def ref10_value (p0 : TScheme) (p1 : List (List (List Int))) (p2 : Int) (p3 : Int) (p4 : Int) (p5 : Int) : Option (Int) := (if p0.Kind = 1#8 then Option.bind (getI p1 0) fun y1 => (Option.bind (getI y1 (w64 (p3 - 1))) fun y2 => (Option.bind (getI y2 p5) fun y3 => (Option.bind (getI p1 0) fun y4 => (Option.bind (getI y4 (w64 (p3 - 1))) fun y5 => (Option.bind (getI y5 (w64 (p4 - p5))) fun y6 => ((some (w64 (y3 + y6))))))))) else (if (0 : Int) < p5 then (ref10_value_J1 p0 p1 p2 p3 p4 p5 (decide (p5 < p4))) else (ref10_value_J1 p0 p1 p2 p3 p4 p5 false)))
def ref10_best_L1 (p0 : TScheme) (p1 : List (List (List Int))) (p2 : Int) (p3 : Int) (p4 : Int) (nn1 : Nat) (rec1 : (Int × Int × Int) → Option (Int × Int)) (s1 : Int × Int × Int) : Option (Int × Int) := match s1 with | (a5, a6, a7) => (if a7 ≤ mnI p4 (shlI 1 nn1) then Option.bind (ref10_value p0 p1 p2 p3 p4 a7) fun x8 => ((if a5 < x8 then (rec1 (x8, a7, w64 (a7 + 1))) else (rec1 (a5, a6, w64 (a7 + 1))))) else (some (a5, a6)))
/-- headend/headendref10.best -/
def ref10_best (p0 : TScheme) (p1 : List (List (List Int))) (p2 : Int) (p3 : Int) (p4 : Int) : Option (Int × Int) := Option.bind (shG (un (wd (w64 (p3 - 1))))) fun nn1 => ((fixN (ref10_best_L1 p0 p1 p2 p3 p4 nn1) FUEL ((-1), (-1), mxI 0 (w64 (p4 - (shlI 1 nn1))))))
def ref10_TablesOf_J5 (p0 : TScheme) (a6 : Int) (a18 : Int) (a21 : List (List (List Int))) (a22 : Int) (rec4 : (List (List (List Int)) × Int) → Option (List (List (List Int)))) (a24 : Bool) : Option (List (List (List Int))) := (bif a24 then Option.bind (getI a21 a18) fun y25 => (Option.bind (getI y25 a6) fun y26 => (Option.bind (ref10_start p0.Kind a18 a22) fun x27 => (Option.bind (getI y26 a22) fun y28 => ((rec4 (a21.set a18.toNat (y25.set a6.toNat (y26.set a22.toNat x27)), w64 (a22 + 1))))))) else Option.bind (getI a21 a18) fun y29 => (Option.bind (getI y29 a6) fun y30 => (Option.bind (ref10_best p0 a21 a18 a6 a22) fun x31 => (Option.bind (getI y30 a22) fun y32 => ((rec4 (a21.set a18.toNat (y29.set a6.toNat (y30.set a22.toNat x31.1)), w64 (a22 + 1))))))))
def ref10_TablesOf_L4 (p0 : TScheme) (a6 : Int) (a18 : Int) (rec3 : (List (List (List Int)) × Int) → Option (List (List (List Int)))) (rec4 : (List (List (List Int)) × Int) → Option (List (List (List Int)))) (s4 : List (List (List Int)) × Int) : Option (List (List (List Int))) := match s4 with | (a21, a22) => Option.bind (shG (un (wd a6))) fun nn23 => ((if a22 ≤ shlI 1 nn23 then (if a22 = 0 then (ref10_TablesOf_J5 p0 a6 a18 a21 a22 rec4 true) else (ref10_TablesOf_J5 p0 a6 a18 a21 a22 rec4 (decide (a6 = 0)))) else (rec3 (a21, w64 (a18 + 1)))))
def ref10_TablesOf_L3 (p0 : TScheme) (a6 : Int) (rec1 : (List (List (List Int)) × Int) → Option (List (List (List Int)))) (rec3 : (List (List (List Int)) × Int) → Option (List (List (List Int)))) (s3 : List (List (List Int)) × Int) : Option (List (List (List Int))) := match s3 with | (a17, a18) => (if a18 < (a17.length : Int) then (fixN (ref10_TablesOf_L4 p0 a6 a18 rec3) FUEL (a17, 0)) else (rec1 (a17, w64 (a6 + 1))))
def ref10_TablesOf_L2 (p0 : TScheme) (a6 : Int) (rec1 : (List (List (List Int)) × Int) → Option (List (List (List Int)))) (rec2 : (List (List (List Int)) × Int) → Option (List (List (List Int)))) (s2 : List (List (List Int)) × Int) : Option (List (List (List Int))) := match s2 with | (a9, a10) => (if a10 < (a9.length : Int) then Option.bind (getI a9 a10) fun y11 => (Option.bind (shG (un (wd a6))) fun nn12 => (Option.bind (mkL 8 (w64 (1 + (shlI 1 nn12))) 0) fun l13 => (Option.bind (appG 24 y11 [l13]) fun l14 => ((rec2 (a9.set a10.toNat (y11 ++ [l13]), w64 (a10 + 1))))))) else (fixN (ref10_TablesOf_L3 p0 a6 rec1) FUEL (a9, 0)))
def ref10_TablesOf_L1 (p0 : TScheme) (rec1 : (List (List (List Int)) × Int) → Option (List (List (List Int)))) (s1 : List (List (List Int)) × Int) : Option (List (List (List Int))) := match s1 with | (a5, a6) => (if a6 ≤ p0.Depth then (fixN (ref10_TablesOf_L2 p0 a6 rec1) FUEL (a5, 0)) else (some a5))
/-- headend/headendref10.TablesOf -/
def ref10_TablesOf (p0 : TScheme) : Option (List (List (List Int))) := Option.bind (ref10_states p0.Kind) fun x1 => (Option.bind (mkL 24 x1 ([] : List (List Int))) fun l2 => ((fixN (ref10_TablesOf_L1 p0) FUEL (l2, 0))))
def ref10_SameTables_L2 (p0 : List (List (List Int))) (p1 : List (List (List Int))) (a2 : Int) (rec1 : (Int) → Option (Bool)) (rec2 : (Int) → Option (Bool)) (a6 : Int) : Option (Bool) := Option.bind (getI p0 a2) fun y7 => ((if a6 < (y7.length : Int) then Option.bind (getI p0 a2) fun y8 => (Option.bind (getI y8 a6) fun y9 => (Option.bind (getI p1 a2) fun y10 => (Option.bind (getI y10 a6) fun y11 => (Option.bind (ref03_SameInts y9 y11) fun x12 => ((bif (!x12) then (some false) else (rec2 (w64 (a6 + 1))))))))) else (rec1 (w64 (a2 + 1)))))
def ref10_SameTables_L1 (p0 : List (List (List Int))) (p1 : List (List (List Int))) (rec1 : (Int) → Option (Bool)) (a2 : Int) : Option (Bool) := (if a2 < (p0.length : Int) then Option.bind (getI p0 a2) fun y3 => (Option.bind (getI p1 a2) fun y4 => ((if (y3.length : Int) ≠ (y4.length : Int) then (some false) else (fixN (ref10_SameTables_L2 p0 p1 a2 rec1) FUEL 0)))) else (some true))
/-- headend/headendref10.SameTables -/
def ref10_SameTables (p0 : List (List (List Int))) (p1 : List (List (List Int))) : Option (Bool) := (if (p0.length : Int) ≠ (p1.length : Int) then (some false) else (fixN (ref10_SameTables_L1 p0 p1) FUEL 0))
end
end Go.Sx

end
section
set_option linter.unusedVariables false
set_option maxRecDepth 100000
namespace Go.Sx
open Go Go.RowKit
noncomputable section
def ref10_Great_L2 (p0 : List (List (List Int))) (a4 : Int) (rec1 : (Int × Int) → Option (Bool)) (rec2 : (Int × Int) → Option (Bool)) (s2 : Int × Int) : Option (Bool) := match s2 with | (a7, a8) => Option.bind (getI p0 a4) fun y9 => ((if a8 < (y9.length : Int) then Option.bind (getI p0 a4) fun y10 => (Option.bind (getI y10 a8) fun y11 => ((if (2000 : Int) < w64 (a7 + (w64 (1 + (y11.length : Int)))) then (some true) else (rec2 (w64 (a7 + (w64 (1 + (y11.length : Int)))), w64 (a8 + 1)))))) else (rec1 (a7, w64 (a4 + 1)))))
def ref10_Great_L1 (p0 : List (List (List Int))) (rec1 : (Int × Int) → Option (Bool)) (s1 : Int × Int) : Option (Bool) := match s1 with | (a3, a4) => (if a4 < (p0.length : Int) then (fixN (ref10_Great_L2 p0 a4 rec1) FUEL (a3, 0)) else (some (decide ((20 : Int) < (p0.length : Int)))))
/-- headend/headendref10.Great -/
def ref10_Great (p0 : List (List (List Int))) : Option (Bool) := (fixN (ref10_Great_L1 p0) FUEL (0, 0))
/-- headend/headendref10.Tables -/
def ref10_Tables (p0 : TScheme) : Option (List (List (List Int)) × Int) := Option.bind (ref03_Check p0) fun x1 => ((if x1 ≠ 0 then (some ([], x1)) else Option.bind (ref10_TablesOf p0) fun x2 => ((some (x2, 0)))))
/-- headend/headendref10.CheckTables -/
def ref10_CheckTables (p0 : TScheme) (p1 : List (List (List Int))) : Option (Int) := Option.bind (ref03_Check p0) fun x1 => ((if x1 ≠ 0 then (some x1) else Option.bind (ref10_TablesOf p0) fun x2 => (Option.bind (ref10_SameTables p1 x2) fun x3 => ((bif (!x3) then (some 100) else (some 0))))))
/-- headend/headendlaw10.PlanTables -/
def law10_PlanTables (p0 : TScheme) (p1 : List (List (List Int))) : Option (Bool) := Option.bind (ref10_Great p1) fun x1 => ((bif x1 then (some true) else Option.bind (plan_Tables p0) fun x2 => (Option.bind (ref10_Tables p0) fun x3 => (Option.bind (ref10_SameTables x2.1 x3.1) fun x4 => ((bif x4 then (if x2.2 = x3.2 then Option.bind (plan_CheckTables p0 p1) fun x5 => (Option.bind (ref10_CheckTables p0 p1) fun x6 => ((some (decide (x5 = x6))))) else (some false)) else (some false)))))))
end
end Go.Sx

end
section
set_option linter.unusedVariables false
set_option linter.unusedSimpArgs false
set_option maxRecDepth 100000
namespace Go.Sx
open Go Go.RowKit Go.Proofs
theorem op_TGroup {H : Type} {enc : TypeId × Value → H} {W : World} {fuel : Nat} {cs : List Value} {x : DataW H × List MemPlace} (h : Tr enc Try.prog W fuel 24 cs x) : ∃ (m : TGroup), cs = TGroup.cs m := by
  obtain ⟨xs, n, rfl, rfl, hl, hx, hf⟩ := DataW.trod_struct Try.underlying24 h
  replace hl : cs.length = 3 := hl.trans (by kernel_rfl)
  replace hx : xs.length = 3 := hx
  obtain ⟨y0, e0⟩ := some_at (i := 0) hx rfl
  have h0 : Tr enc Try.prog W n 22 ((cs.drop 0).take 1) y0 := fld hf (i := 0) rfl rfl rfl (by kernel_rfl) e0
  obtain ⟨m0, c0⟩ := op_u64 Try.underlying22 h0
  obtain ⟨y1, e1⟩ := some_at (i := 1) hx rfl
  have h1 : Tr enc Try.prog W n 22 ((cs.drop 1).take 1) y1 := fld hf (i := 1) rfl rfl rfl (by kernel_rfl) e1
  obtain ⟨m1, c1⟩ := op_u64 Try.underlying22 h1
  obtain ⟨y2, e2⟩ := some_at (i := 2) hx rfl
  have h2 : Tr enc Try.prog W n 22 ((cs.drop 2).take 1) y2 := fld hf (i := 2) rfl rfl rfl (by kernel_rfl) e2
  obtain ⟨m2, c2⟩ := op_u64 Try.underlying22 h2
  have q := cat_end hl
  replace q := cat_step (o := 2) (k := 1) c2 q
  replace q := cat_step (o := 1) (k := 1) c1 q
  replace q := cat_step (o := 0) (k := 1) c0 q
  exact ⟨⟨m0, m1, m2⟩, q⟩
def TScheme.ok (x : TScheme) : Prop := I64 x.Depth ∧ I64 x.Degree
theorem op_TScheme {H : Type} {enc : TypeId × Value → H} {W : World} {fuel : Nat} {cs : List Value} {x : DataW H × List MemPlace} (h : Tr enc Try.prog W fuel 26 cs x) : ∃ (m : TScheme), cs = TScheme.cs m ∧ TScheme.ok m := by
  obtain ⟨xs, n, rfl, rfl, hl, hx, hf⟩ := DataW.trod_struct Try.underlying26 h
  replace hl : cs.length = 6 := hl.trans (by kernel_rfl)
  replace hx : xs.length = 4 := hx
  obtain ⟨y0, e0⟩ := some_at (i := 0) hx rfl
  have h0 : Tr enc Try.prog W n 5 ((cs.drop 0).take 1) y0 := fld hf (i := 0) rfl rfl rfl (by kernel_rfl) e0
  obtain ⟨m0, c0⟩ := op_u8 Try.underlying5 h0
  obtain ⟨y1, e1⟩ := some_at (i := 1) hx rfl
  have h1 : Tr enc Try.prog W n 3 ((cs.drop 1).take 1) y1 := fld hf (i := 1) rfl rfl rfl (by kernel_rfl) e1
  obtain ⟨m1, c1, k1⟩ := op_i64 Try.underlying3 h1
  obtain ⟨y2, e2⟩ := some_at (i := 2) hx rfl
  have h2 : Tr enc Try.prog W n 3 ((cs.drop 2).take 1) y2 := fld hf (i := 2) rfl rfl rfl (by kernel_rfl) e2
  obtain ⟨m2, c2, k2⟩ := op_i64 Try.underlying3 h2
  obtain ⟨y3, e3⟩ := some_at (i := 3) hx rfl
  have h3 : Tr enc Try.prog W n 24 ((cs.drop 3).take 3) y3 := fld hf (i := 3) rfl rfl rfl (by kernel_rfl) e3
  obtain ⟨m3, c3⟩ := op_TGroup h3
  have q := cat_end hl
  replace q := cat_step (o := 3) (k := 3) c3 q
  replace q := cat_step (o := 2) (k := 1) c2 q
  replace q := cat_step (o := 1) (k := 1) c1 q
  replace q := cat_step (o := 0) (k := 1) c0 q
  exact ⟨⟨m0, m1, m2, m3⟩, q, ⟨k1, k2⟩⟩
end Go.Sx

end
section
set_option linter.unusedVariables false
set_option linter.unusedSimpArgs false
namespace Go.Sx
open Go Go.RowKit
/-- a header of one cell -/
abbrev h1c (v : Value) : List Value := [v]
/-- a list of rows: its header and block; its rows' headers and blocks -/
structure Hd3 where
  v : Value
  z : Nat
  g : Nat
  q : List (Value × Nat)
def Hd3.bl (h : Hd3) : List Nat := zf h.z h.g ++ h.q.map Prod.snd
/-- how it lies in memory -/
structure HdO (e1 e0 : TypeId) (w : World) (h : Hd3) (l : List (List Int)) : Prop where
  own : Own w h.z h.g e1 1 h.v ((h.q.map Prod.fst).map h1c)
  len : h.q.length = l.length
  row : ∀ (j : Nat) q r, h.q[j]? = some q → l[j]? = some r → Own w 1 q.2 e0 1 q.1 (r.map ic)
/-- the tables: block g, and blocks that are apart from it and from each other, all of them from n0 on -/
structure TabO (e2 e1 e0 : TypeId) (w : World) (n0 z g : Nat) (v : Value) (L : List (List (List Int))) (H : List Hd3) : Prop where
  own : Own w z g e2 1 v ((H.map Hd3.v).map h1c)
  len : H.length = L.length
  sub : ∀ (i : Nat) h l, H[i]? = some h → L[i]? = some l → HdO e1 e0 w h l
  nd : ∀ (i : Nat) h, H[i]? = some h → h.bl.Nodup
  ap : ∀ (i j : Nat) h k, i ≠ j → H[i]? = some h → H[j]? = some k → ∀ x ∈ h.bl, x ∉ k.bl
  out : ∀ (i : Nat) h, H[i]? = some h → ∀ x ∈ h.bl, x ≠ g ∧ n0 ≤ x ∧ x < w.heap.size
  top : z = 1 ∧ n0 ≤ g
def Tab (e2 e1 e0 : TypeId) (w : World) (n0 z g : Nat) (v : Value) (L : List (List (List Int))) : Prop := ∃ H, TabO e2 e1 e0 w n0 z g v L H
section
variable {e2 e1 e0 : TypeId} {w w' : World} {n0 z g : Nat} {v : Value} {L : List (List (List Int))} {H : List Hd3}
theorem HdO.keep {h : Hd3} {l : List (List Int)} (a : HdO e1 e0 w h l) (hb : ∀ x ∈ h.bl, x < w.heap.size → w'.heap[x]? = w.heap[x]?) : HdO e1 e0 w' h l := by
  refine ⟨a.own.keep ?_, a.len, fun j q r hj hr => (a.row j q r hj hr).keep (.inr ?_)⟩
  · by_cases hz : h.z = 0
    · exact .inl hz
    · exact .inr (hb _ (List.mem_append_left _ (mem_zf.2 ⟨hz, rfl⟩)))
  · exact hb _ (List.mem_append_right _ (List.mem_map.2 ⟨q, List.mem_of_getElem? hj, rfl⟩))
theorem TabO.keep (a : TabO e2 e1 e0 w n0 z g v L H) (hs : w.heap.size ≤ w'.heap.size) (hb : ∀ x, n0 ≤ x → x < w.heap.size → w'.heap[x]? = w.heap[x]?) : TabO e2 e1 e0 w' n0 z g v L H :=
  ⟨a.own.keep (.inr fun hl => hb g a.top.2 hl), a.len, fun i h l hi hl => (a.sub i h l hi hl).keep fun x hx hl2 => hb x (a.out i h hi x hx).2.1 hl2, a.nd, a.ap, fun i h hi x hx => by
    obtain ⟨b1, b2, b3⟩ := a.out i h hi x hx
    exact ⟨b1, b2, Nat.lt_of_lt_of_le b3 hs⟩, a.top⟩
theorem Tab.gr (a : Tab e2 e1 e0 w n0 z g v L) (k : Gr w w') : Tab e2 e1 e0 w' n0 z g v L := by
  obtain ⟨H, a⟩ := a; exact ⟨H, a.keep k.size fun x _ hl => k.block x hl⟩
theorem Tab.kz (a : Tab e2 e1 e0 w n0 z g v L) (k : Kz [] w w') : Tab e2 e1 e0 w' n0 z g v L := by
  obtain ⟨H, a⟩ := a; exact ⟨H, a.keep k.size fun x _ hl => k.block x hl trivial⟩
theorem Tab.lth (a : Tab e2 e1 e0 w n0 z g v L) : Hdn (z = 0 ∨ (z = 1 ∧ g < w.heap.size)) := by obtain ⟨H, a⟩ := a; exact a.own.lth
theorem Tab.oneB (a : Tab e2 e1 e0 w n0 z g v L) : Sx.oneB v = true := by obtain ⟨H, a⟩ := a; exact a.own.oneB
/-- the blocks that are behind the first -/
def tabF (H : List Hd3) : List Nat := H.flatMap Hd3.bl
theorem row_rp {h : Hd3} {l : List (List Int)} {F : List Nat} (a : HdO e1 e0 w h l) (hF : ∀ x ∈ h.bl, x ∈ F) (hlt : ∀ b ∈ F, b < w.heap.size) : RdD (rpSl 1 ic) w h.z h.g 0 h.v F l := by
  obtain ⟨zq, hzq⟩ : ∃ zq : List Value, zq = h.q.map Prod.fst := ⟨_, rfl⟩
  have hlen : zq.length = l.length := by rw [hzq, List.length_map, a.len]
  have h2 : (l.zip zq).map Prod.snd = zq := List.map_snd_zip (by omega)
  have h3 : (l.zip zq).map (fun p => [p.2]) = zq.map h1c := by
    calc (l.zip zq).map (fun p => [p.2]) = ((l.zip zq).map Prod.snd).map h1c := by rw [List.map_map]; rfl
      _ = _ := by rw [h2]
  have key : ∀ p : List Int × Value, p ∈ l.zip zq → (rpSl 1 ic).S w F p := by
    intro p hp
    obtain ⟨j, hj⟩ := List.getElem?_of_mem hp
    rw [List.getElem?_zip_eq_some] at hj
    obtain ⟨j1, j2⟩ := hj
    rw [hzq, List.getElem?_map] at j2
    cases hq : h.q[j]? with
    | none => rw [hq] at j2; cases j2
    | some q =>
      rw [hq] at j2
      have e : q.1 = p.2 := Option.some.inj j2
      have o := a.row j q p.1 hq j1
      refine ⟨1, q.2, 0, ?_, .inr (hF _ (List.mem_append_right _ (List.mem_map.2 ⟨q, List.mem_of_getElem? hq, rfl⟩)))⟩
      rw [← e]; exact o.rd
  refine ⟨(l.zip zq : List (List Int × Value)), List.map_fst_zip (Nat.le_of_eq hlen.symm), ?_, key, hlt⟩
  show Rd w h.z h.g 0 1 h.v ((l.zip zq).map (fun p => [p.2]))
  rw [h3, hzq]; exact a.own.rd
theorem tab_zip (a : TabO e2 e1 e0 w n0 z g v L H) : (L.zip (H.map Hd3.v)).map (fun p => [p.2]) = (H.map Hd3.v).map h1c ∧ (L.zip (H.map Hd3.v)).map Prod.fst = L := by
  have h2 : (L.zip (H.map Hd3.v)).map Prod.snd = H.map Hd3.v := List.map_snd_zip (by rw [List.length_map, a.len]; exact Nat.le_refl _)
  refine ⟨?_, List.map_fst_zip (by rw [List.length_map, a.len]; exact Nat.le_refl _)⟩
  calc (L.zip (H.map Hd3.v)).map (fun p => [p.2]) = ((L.zip (H.map Hd3.v)).map Prod.snd).map h1c := by rw [List.map_map]; rfl
    _ = _ := by rw [h2]
theorem tab_lt (a : TabO e2 e1 e0 w n0 z g v L H) : ∀ b ∈ tabF H, n0 ≤ b ∧ b < w.heap.size ∧ b ≠ g := fun b hb => by
  obtain ⟨h, hh, hx⟩ := List.mem_flatMap.1 hb
  obtain ⟨i, hi⟩ := List.getElem?_of_mem hh
  obtain ⟨b1, b2, b3⟩ := a.out i h hi b hx
  exact ⟨b2, b3, b1⟩
theorem tab_S (a : TabO e2 e1 e0 w n0 z g v L H) : ∀ p ∈ L.zip (H.map Hd3.v), (rpSd (rpSl 1 ic)).S w (tabF H) p := fun p hp => by
  obtain ⟨i, hi⟩ := List.getElem?_of_mem hp
  rw [List.getElem?_zip_eq_some] at hi
  obtain ⟨j1, j2⟩ := hi
  rw [List.getElem?_map] at j2
  cases hh : H[i]? with
  | none => rw [hh] at j2; cases j2
  | some h =>
    rw [hh] at j2
    have e : h.v = p.2 := Option.some.inj j2
    have hbF : ∀ x ∈ h.bl, x ∈ tabF H := fun x hx => List.mem_flatMap.2 ⟨h, List.mem_of_getElem? hh, hx⟩
    have o := row_rp (a.sub i h p.1 hh j1) hbF (fun b hb => (tab_lt a b hb).2.1)
    have hz : h.z = 0 ∨ h.g ∈ tabF H := by
      by_cases hz : h.z = 0
      · exact .inl hz
      · exact .inr (hbF _ (List.mem_append_left _ (mem_zf.2 ⟨hz, rfl⟩)))
    have := rpSd_mk o hz fun b hb => hb
    rw [e] at this; exact this
/-- the tables, read -/
theorem Tab.rdD (a : Tab e2 e1 e0 w n0 z g v L) : ∃ F, RdD (rpSd (rpSl 1 ic)) w z g 0 v F L ∧ (∀ x ∈ F, Pv [] [] n0 x) ∧ ∀ x ∈ F, x < w.heap.size := by
  obtain ⟨H, a⟩ := a
  obtain ⟨z1, z2⟩ := tab_zip a
  refine ⟨tabF H, ⟨L.zip (H.map Hd3.v), z2, ?_, tab_S a, fun b hb => (tab_lt a b hb).2.1⟩, fun x hx => .inr (.inr (tab_lt a x hx).1), fun b hb => (tab_lt a b hb).2.1⟩
  show Rd w z g 0 1 v ((L.zip (H.map Hd3.v)).map (fun p => [p.2]))
  rw [z1]; exact a.own.rd
/-- the tables, aas an owned slice -/
theorem Tab.ownD (a : Tab e2 e1 e0 w n0 z g v L) : ∃ F, OwnD (rpSd (rpSl 1 ic)) w z g e2 v F L ∧ ∀ x ∈ F, Pv [] [] n0 x := by
  obtain ⟨H, a⟩ := a
  obtain ⟨z1, z2⟩ := tab_zip a
  refine ⟨tabF H, ⟨L.zip (H.map Hd3.v), z2, ?_, tab_S a, fun b hb => (tab_lt a b hb).2.1, .inr fun b hb => (tab_lt a b hb).2.2⟩, fun x hx => .inr (.inr (tab_lt a x hx).1)⟩
  show Own w z g e2 1 v ((L.zip (H.map Hd3.v)).map (fun p => [p.2]))
  rw [z1]; exact a.own
theorem getH {i : Int} {l : List (List Int)} (a : TabO e2 e1 e0 w n0 z g v L H) (hi : getI L i = some l) : ∃ h, H[i.toNat]? = some h ∧ L[i.toNat]? = some l ∧ getI (H.map Hd3.v) i = some h.v := by
  have h1 := getI_at hi
  have h0 := getI_nn hi
  have hlt := (List.getElem?_eq_some_iff.1 h1).1
  have hlt2 : i.toNat < H.length := by rw [a.len]; exact hlt
  exact ⟨H[i.toNat], List.getElem?_eq_getElem hlt2, h1, by unfold getI; rw [if_pos h0, List.getElem?_map, List.getElem?_eq_getElem hlt2]; rfl⟩
theorem nodup_ix {l : List Nat} (h : l.Nodup) {i j : Nat} {x : Nat} (hi : l[i]? = some x) (hj : l[j]? = some x) : i = j := by
  obtain ⟨a1, a2⟩ := List.getElem?_eq_some_iff.1 hi
  obtain ⟨b1, b2⟩ := List.getElem?_eq_some_iff.1 hj
  exact (List.getElem_inj (h₀ := a1) (h₁ := b1) h).1 (a2.trans b2.symm)
/-- one row, to be turned -/
theorem Tab.row {i j : Int} {l : List (List Int)} {r : List Int} (a : Tab e2 e1 e0 w n0 z g v L) (hi : getI L i = some l) (hj : getI l j = some r) :
    ∃ (hs qs : List Value) (vi : Value) (gi : Nat) (u : Value) (b : Nat), Rd w z g 0 1 v (hs.map h1c) ∧ getI hs i = some vi ∧ Rd w 1 gi 0 1 vi (qs.map h1c) ∧ getI qs j = some u ∧ Own w 1 b e0 1 u (r.map ic) ∧
      Hdn (1 = 0 ∨ n0 ≤ b) ∧ Hdn (z = 0 ∨ 1 = 0 ∨ g ≠ b) ∧ Hdn (1 = 0 ∨ 1 = 0 ∨ gi ≠ b) ∧ Hdn (1 = 0 ∨ (1 = 1 ∧ gi < w.heap.size)) ∧
      ∀ w' r', w.heap.size ≤ w'.heap.size → (∀ x, x < w.heap.size → x ≠ b → w'.heap[x]? = w.heap[x]?) → Own w' 1 b e0 1 u (r'.map ic) → Tab e2 e1 e0 w' n0 z g v (L.set i.toNat (l.set j.toNat r')) := by
  obtain ⟨H, a⟩ := a
  obtain ⟨h, hh, hl, hv⟩ := getH a hi
  have s := a.sub _ h l hh hl
  have k1 := getI_at hj
  have k0 := getI_nn hj
  have hlt := (List.getElem?_eq_some_iff.1 k1).1
  have hlt2 : j.toNat < h.q.length := by rw [s.len]; exact hlt
  obtain ⟨q, hq⟩ : ∃ q, h.q[j.toNat]? = some q := ⟨_, List.getElem?_eq_getElem hlt2⟩
  have o := s.row _ q r hq k1
  have hz : h.z = 1 := by
    rcases s.own.2 with ⟨_, _, h0⟩ | ⟨h0, _⟩
    · have : (h.q.map Prod.fst).length = 0 := by rw [← List.length_map (f := h1c), h0]; rfl
      rw [List.length_map] at this; omega
    · exact h0
  have hqb : q.2 ∈ h.bl := List.mem_append_right _ (List.mem_map.2 ⟨q, List.mem_of_getElem? hq, rfl⟩)
  have hgb : h.g ∈ h.bl := List.mem_append_left _ (mem_zf.2 ⟨by omega, rfl⟩)
  obtain ⟨n1, n2, n3⟩ := List.nodup_append.1 (a.nd _ h hh)
  have hne : h.g ≠ q.2 := n3 _ (mem_zf.2 ⟨by omega, rfl⟩) _ (List.mem_map.2 ⟨q, List.mem_of_getElem? hq, rfl⟩)
  obtain ⟨b1, b2, b3⟩ := a.out _ h hh _ hqb
  have hrd := s.own.rd
  rw [hz] at hrd
  refine ⟨H.map Hd3.v, h.q.map Prod.fst, h.v, h.g, q.1, q.2, a.own.rd, hv, hrd, ?_, o, ⟨.inr b2⟩, ⟨.inr (.inr (Ne.symm b1))⟩, ⟨.inr (.inr hne)⟩, ⟨.inr ⟨rfl, (a.out _ h hh _ hgb).2.2⟩⟩, ?_⟩
  · unfold getI; rw [if_pos k0, List.getElem?_map, hq]; rfl
  · intro w' r' hs hk ho
    have hgl : g < w.heap.size := by have := a.own.lt; have := a.top; omega
    refine ⟨H, a.own.keep (.inr fun hl => hk g hl (Ne.symm b1)), by rw [List.length_set]; exact a.len, fun i' h' l' hi' hl' => ?_, a.nd, a.ap, fun i' h' hi' x hx => by
      obtain ⟨c1, c2, c3⟩ := a.out i' h' hi' x hx
      exact ⟨c1, c2, Nat.lt_of_lt_of_le c3 hs⟩, a.top⟩
    by_cases he : i' = i.toNat
    · subst he
      rw [hh] at hi'; obtain rfl := Option.some.inj hi'
      rw [List.getElem?_set_self (List.getElem?_eq_some_iff.1 hl).1] at hl'; obtain rfl := Option.some.inj hl'
      refine ⟨s.own.keep (.inr fun hx => hk _ hx hne), by rw [List.length_set]; exact s.len, fun j' q' r'' hj' hr' => ?_⟩
      by_cases hje : j' = j.toNat
      · subst hje
        rw [hq] at hj'; obtain rfl := Option.some.inj hj'
        rw [List.getElem?_set_self hlt] at hr'; obtain rfl := Option.some.inj hr'
        exact ho
      · rw [List.getElem?_set_ne (Ne.symm hje)] at hr'
        refine (s.row j' q' r'' hj' hr').keep (.inr fun hx => hk _ hx fun hc => ?_)
        -- two rows with one block
        have x1 : (h.q.map Prod.snd)[j']? = some q.2 := by rw [List.getElem?_map, hj']; simp [hc]
        have x2 : (h.q.map Prod.snd)[j.toNat]? = some q.2 := by rw [List.getElem?_map, hq]; rfl
        exact hje (nodup_ix n2 x1 x2)
    · rw [List.getElem?_set_ne (Ne.symm he)] at hl'
      exact (a.sub i' h' l' hi' hl').keep fun x hx hxl => hk x hxl fun hc => a.ap i' i.toNat h' h he hi' hh x hx (hc ▸ hqb)
/-- a row more, to be appended -/
theorem Tab.app {i : Int} {l : List (List Int)} (a : Tab e2 e1 e0 w n0 z g v L) (hi : getI L i = some l) :
    ∃ (hs qs : List Value) (vi : Value) (zi gi : Nat), Own w z g e2 1 v (hs.map h1c) ∧ getI hs i = some vi ∧ Own w zi gi e1 1 vi (qs.map h1c) ∧ qs.length = l.length ∧
      Hdn (zi = 0 ∨ n0 ≤ gi) ∧ Hdn (z = 0 ∨ n0 ≤ g) ∧ Hdn (z = 0 ∨ zi = 0 ∨ g ≠ gi) ∧
      ∀ w' v' z' g' u b r, w.heap.size ≤ w'.heap.size → (∀ x, x < w.heap.size → x ≠ g → (zi = 0 ∨ x ≠ gi) → w'.heap[x]? = w.heap[x]?) → w.heap.size ≤ b → b < w'.heap.size → Own w' 1 b e0 1 u (r.map ic) →
        Own w' z' g' e1 1 v' ((qs ++ [u]).map h1c) → Hdn ((g' = gi ∧ zi = 1) ∨ w.heap.size ≤ g' ∨ z' = 0) → Hdn (z' = 0 ∨ 1 = 0 ∨ g' ≠ b) → Hdn (z' = 0 ∨ z = 0 ∨ g' ≠ g) → Own w' z g e2 1 v ((hs.set i.toNat v').map h1c) → n0 ≤ w.heap.size →
        Tab e2 e1 e0 w' n0 z g v (L.set i.toNat (l ++ [r])) := by
  obtain ⟨H, a⟩ := a
  obtain ⟨h, hh, hl, hv⟩ := getH a hi
  have s := a.sub _ h l hh hl
  have hhl := (List.getElem?_eq_some_iff.1 hh).1
  have hll := (List.getElem?_eq_some_iff.1 hl).1
  have hgb : h.z = 0 ∨ h.g ∈ h.bl := by
    by_cases hz : h.z = 0
    · exact .inl hz
    · exact .inr (List.mem_append_left _ (mem_zf.2 ⟨hz, rfl⟩))
  refine ⟨H.map Hd3.v, h.q.map Prod.fst, h.v, h.z, h.g, a.own, hv, s.own, by rw [List.length_map]; exact s.len, ⟨hgb.imp id fun x => (a.out _ h hh _ x).2.1⟩, ⟨.inr a.top.2⟩, ⟨.inr (hgb.imp id fun x => Ne.symm (a.out _ h hh _ x).1)⟩, ?_⟩
  intro w' v' z' g' u b r hsz hk hb0 hb1 hor hoa hgg hgb' hgt hot hn0
  obtain ⟨n1, n2, n3⟩ := List.nodup_append.1 (a.nd _ h hh)
  have hz' : z' = 1 := by
    rcases hoa.2 with ⟨_, _, h0⟩ | ⟨h0, _⟩
    · have : ((h.q.map Prod.fst ++ [u]).map h1c).length = 0 := by rw [h0]; rfl
      simp at this
    · exact h0
  have hg' : (g' = h.g ∧ h.z = 1) ∨ w.heap.size ≤ g' := by rcases hgg.o with x | x | x; exact .inl x; exact .inr x; omega
  have hgb2 : g' ≠ b := by have := hgb'.o; omega
  have hgt2 : g' ≠ g := by have := hgt.o; have := a.top; omega
  have hg'lt : g' < w'.heap.size := by have := hoa.lt; omega
  obtain ⟨k, hk'⟩ : ∃ k : Hd3, k = ⟨v', z', g', h.q ++ [(u, b)]⟩ := ⟨_, rfl⟩
  -- the blocks of the new list: those of the old one, or new
  have hin : ∀ x ∈ k.bl, x ∈ h.bl ∨ w.heap.size ≤ x := fun x hx => by
    rw [hk'] at hx
    rcases List.mem_append.1 hx with hx | hx
    · obtain ⟨_, rfl⟩ := mem_zf.1 hx
      rcases hg' with ⟨rfl, hz⟩ | hg'
      · exact .inl (List.mem_append_left _ (mem_zf.2 ⟨by omega, rfl⟩))
      · exact .inr hg'
    · rw [List.map_append, List.mem_append] at hx
      rcases hx with hx | hx
      · exact .inl (List.mem_append_right _ hx)
      · simp at hx; subst hx; exact .inr hb0
  have hgl : g < w.heap.size := by have := a.own.lt; have := a.top; omega
  refine ⟨H.set i.toNat k, ?_, by rw [List.length_set, List.length_set]; exact a.len, ?_, ?_, ?_, ?_, a.top⟩
  · rw [List.map_set, hk']; exact hot
  · intro i' h' l' hi' hl'
    by_cases he : i' = i.toNat
    · subst he
      rw [List.getElem?_set_self hhl] at hi'; obtain rfl := Option.some.inj hi'
      rw [List.getElem?_set_self hll] at hl'; obtain rfl := Option.some.inj hl'
      rw [hk']
      refine ⟨?_, by simp [s.len], fun j' q' r' hj' hr' => ?_⟩
      · show Own w' z' g' e1 1 v' (((h.q ++ [(u, b)]).map Prod.fst).map h1c)
        rw [List.map_append]; exact hoa
      · by_cases hjl : j' < h.q.length
        · rw [List.getElem?_append_left hjl] at hj'
          rw [List.getElem?_append_left (by rw [← s.len]; exact hjl)] at hr'
          have hqm : q'.2 ∈ h.bl := List.mem_append_right _ (List.mem_map.2 ⟨q', List.mem_of_getElem? hj', rfl⟩)
          refine (s.row j' q' r' hj' hr').keep (.inr fun hx => hk _ hx (a.out _ h hh _ hqm).1 ?_)
          by_cases hz : h.z = 0
          · exact .inl hz
          · exact .inr (Ne.symm (n3 _ (mem_zf.2 ⟨hz, rfl⟩) _ (List.mem_map.2 ⟨q', List.mem_of_getElem? hj', rfl⟩)))
        · have hj2 : j' < (h.q ++ [(u, b)]).length := (List.getElem?_eq_some_iff.1 hj').1
          rw [List.length_append, List.length_singleton] at hj2
          obtain rfl : j' = h.q.length := by omega
          rw [List.getElem?_append_right (Nat.le_refl _), Nat.sub_self] at hj'
          rw [List.getElem?_append_right (by rw [s.len]; exact Nat.le_refl _), s.len, Nat.sub_self] at hr'
          obtain rfl := Option.some.inj hj'
          obtain rfl := Option.some.inj hr'
          exact hor
    · rw [List.getElem?_set_ne (Ne.symm he)] at hi' hl'
      refine (a.sub i' h' l' hi' hl').keep fun x hx hxl => hk x hxl (a.out i' h' hi' x hx).1 ?_
      exact hgb.imp id fun y hc => a.ap i' i.toNat h' h he hi' hh x hx (hc ▸ y)
  · intro i' h' hi'
    by_cases he : i' = i.toNat
    · subst he
      rw [List.getElem?_set_self hhl] at hi'; obtain rfl := Option.some.inj hi'
      rw [hk']
      refine List.nodup_append.2 ⟨?_, ?_, ?_⟩
      · show (zf z' g').Nodup
        unfold zf; split <;> simp
      · show ((h.q ++ [(u, b)]).map Prod.snd).Nodup
        rw [List.map_append]
        refine List.nodup_append.2 ⟨n2, by simp, fun x hx y hy => ?_⟩
        simp at hy; subst hy
        have := (a.out _ h hh x (List.mem_append_right _ hx)).2.2
        omega
      · intro x hx y hy
        obtain ⟨_, rfl⟩ := mem_zf.1 hx
        rw [List.map_append, List.mem_append] at hy
        rcases hy with hy | hy
        · rcases hg' with ⟨rfl, hz⟩ | hg'
          · exact n3 _ (mem_zf.2 ⟨by omega, rfl⟩) y hy
          · have h9 := (a.out _ h hh y (List.mem_append_right _ hy)).2.2
            exact fun hc => by omega
        · simp at hy; subst hy; exact hgb2
    · rw [List.getElem?_set_ne (Ne.symm he)] at hi'; exact a.nd i' h' hi'
  · intro i' j' h' k' hij hi' hj' x hx
    by_cases he : i' = i.toNat
    · subst he
      rw [List.getElem?_set_self hhl] at hi'; obtain rfl := Option.some.inj hi'
      rw [List.getElem?_set_ne hij] at hj'
      rcases hin x hx with y | y
      · exact a.ap _ j' h k' hij hh hj' x y
      · intro hc; have := (a.out j' k' hj' x hc).2.2; omega
    · rw [List.getElem?_set_ne (Ne.symm he)] at hi'
      by_cases hje : j' = i.toNat
      · subst hje
        rw [List.getElem?_set_self hhl] at hj'; obtain rfl := Option.some.inj hj'
        intro hc
        rcases hin x hc with y | y
        · exact a.ap i' _ h' h hij hi' hh x hx y
        · have := (a.out i' h' hi' x hx).2.2; omega
      · rw [List.getElem?_set_ne (Ne.symm hje)] at hj'; exact a.ap i' j' h' k' hij hi' hj' x hx
  · intro i' h' hi' x hx
    by_cases he : i' = i.toNat
    · subst he
      rw [List.getElem?_set_self hhl] at hi'; obtain rfl := Option.some.inj hi'
      have hxl : x ≠ g ∧ x < w'.heap.size := by
        rw [hk'] at hx
        rcases List.mem_append.1 hx with hx | hx
        · obtain ⟨_, rfl⟩ := mem_zf.1 hx; exact ⟨hgt2, hg'lt⟩
        · rw [List.map_append, List.mem_append] at hx
          rcases hx with hx | hx
          · obtain ⟨c1, c2, c3⟩ := a.out _ h hh x (List.mem_append_right _ hx); exact ⟨c1, by omega⟩
          · simp at hx; subst hx; exact ⟨by omega, hb1⟩
      rcases hin x hx with y | y
      · exact ⟨hxl.1, (a.out _ h hh x y).2.1, hxl.2⟩
      · exact ⟨hxl.1, by omega, hxl.2⟩
    · rw [List.getElem?_set_ne (Ne.symm he)] at hi'
      obtain ⟨c1, c2, c3⟩ := a.out i' h' hi' x hx
      exact ⟨c1, c2, by omega⟩
/-- tables without rows yet -/
theorem Tab.mk {n : Nat} (o : Own w 1 g e2 1 v ((List.replicate n (.slice none 0 0 : Value)).map h1c)) (hg : n0 ≤ g) : Tab e2 e1 e0 w n0 1 g v (List.replicate n []) := by
  refine ⟨List.replicate n ⟨.slice none 0 0, 0, 0, []⟩, ?_, by simp, fun i h l hi hl => ?_, fun i h hi => ?_, fun i j h k _ hi _ x hx => ?_, fun i h hi x hx => ?_, rfl, hg⟩
  · rw [List.map_replicate]; exact o
  all_goals
    have := List.eq_of_mem_replicate (List.mem_of_getElem? hi)
    subst this
  · have := List.eq_of_mem_replicate (List.mem_of_getElem? hl)
    subst this
    exact ⟨own_nil w 0 e1 1, rfl, fun j q r hj _ => by simp at hj⟩
  · simp [Hd3.bl, zf]
  · simp [Hd3.bl, zf] at hx
  · simp [Hd3.bl, zf] at hx
end
section
variable {P : Program} {Ls : Slots} {w : World} {dst : Option Nat} {ty : TypeId} {pos : String} {af : Array Edge} {gu : Option (Nat × Bool)} {x y : Operand} {t : TypeId} {e2 e1 e0 : TypeId}
/-- the tables, made -/
theorem ev_mkTab {bytes : Nat} {n : Int} {l : List (List (List Int))} (ha : ApT P t e2 1 bytes) (hz : ZV P e2 (.slice none 0 0)) (hx : ev Ls x = some (.int .i64 n)) (hl : mkL bytes n ([] : List (List Int)) = some l) (hpos : 1 ≤ bytes) :
    EV P Ls ⟨dst, .makeSlice t x x, ty, pos, af, gu⟩ w fun v' w' => ∃ g', w.heap.size ≤ g' ∧ Tab e2 e1 e0 w' w.heap.size 1 g' v' l ∧ Gr w w' := by
  obtain ⟨rfl, h0, hb⟩ := mkL_eq hl
  have hl' : mkL bytes n (.slice none 0 0 : Value) = some (List.replicate n.toNat (.slice none 0 0)) := by unfold mkL; rw [if_pos ⟨h0, hb⟩]
  refine (ev_mkT (c := h1c) ha hz rfl ⟨rfl, rfl⟩ hx hl' hpos).mono ?_
  rintro v' w' ⟨g', h1, h2, h3⟩
  exact ⟨g', h1, Tab.mk h2 h1, h3⟩
theorem app_h {b : Nat} {α : Type} {l : List α} {r : α} {k : List α} {qs : List Value} {u : Value} (h : appG b l [r] = some k) (hq : qs.length = l.length) : appG b qs [u] = some (qs ++ [u]) ∧ k = l ++ [r] := by
  obtain ⟨h1, h2⟩ := appG_eq h
  exact ⟨by unfold appG; rw [if_pos (by rw [hq]; exact h2)], h1⟩
theorem kz_b1 {w w' : World} {b : Nat} (k : Kz [(1, b)] w w') : ∀ x, x < w.heap.size → x ≠ b → w'.heap[x]? = w.heap[x]? := fun x hx hn => k.block x hx (by simp [Nin, hn])
theorem kz_b2 {w w' : World} {z g zi gi : Nat} (k : Kz [(z, g), (zi, gi)] w w') : ∀ x, x < w.heap.size → x ≠ g → (zi = 0 ∨ x ≠ gi) → w'.heap[x]? = w.heap[x]? := fun x hx h1 h2 => k.block x hx (by
  rcases h2 with h2 | h2 <;> simp [Nin, h1, h2])
theorem lit_ws (u : Value) (h : oneB u = true) : Ws 1 ([u].map h1c) := by
  intro y hy
  obtain rfl : y = h1c u := by simpa using hy
  exact ⟨rfl, by simp [h1c, ones, h]⟩
end
end Go.Sx

end
section
set_option linter.unusedVariables false
set_option linter.unusedSimpArgs false
namespace Go.Sx
open Go Go.RowKit
section
variable {P : Program} {L : Slots} {w : World} {dst : Option Nat} {ty : TypeId} {pos : String} {af : Array Edge} {gu : Option (Nat × Bool)} {x y p q r : Operand} {t e : TypeId} {v : Value} {z g o sz : Nat} {α : Type} {l m : List α} {c : α → List Value} {lo hi : Int} {kl kh km : IntKind}
theorem run_sli3 {ρ : Operand → Value} {a : Option Addr} {len cap : Nat} (hρ : Cons L ρ) (hu : P.underlying t = some (.slice e)) (hs : Siz P e sz) (hp : ev L p = some (.int kl lo)) (hq : ev L q = some (.int kh hi)) (hm : ev L r = some (.int km hi)) (h0 : 0 ≤ lo) (h1 : lo ≤ hi) (h2 : hi ≤ (cap : Int)) :
    (Instr.sliceAt t (.slice a len cap) (some (ρ p)) (some (ρ q)) (some (ρ r))).run P w = .ok (sliced a lo.toNat hi.toNat hi.toNat sz) w := by
  have he : P.elem t = e := by simp [Program.elem, hu]
  have hu' : P.underlying t = some (.slice (P.elem t)) := by rw [he]; exact hu
  rw [run_sliceAt_slice _ _ _ _ _ _ hu', hρ _ _ hp, hρ _ _ hq, hρ _ _ hm, run_slice_lhm _ _ _ _ _ hu' _ _ _ _ _ _ h0 h1 (by omega) h2, he, hs w]; simp [Result.andThen]
theorem vv_sliT3 (hu : P.underlying t = some (.slice e)) (hs : Siz P e sz) (hx : ev L x = some v) (hr : Rd w z g o sz v (l.map c)) (hp : ev L p = some (.int kl lo)) (hq : ev L q = some (.int kh hi)) (hmx : ev L r = some (.int km hi)) (hl : sliG l lo hi = some m) :
    ∃ v' o', (∀ w1, VV P L ⟨dst, .slice t x (some p) (some q) (some r), ty, pos, af, gu⟩ w1 v') ∧ Rd w z g o' sz v' (m.map c) := by
  obtain ⟨rfl, h3, h4, h5⟩ := sliG_eq hl
  rcases hr.2 with ⟨hz, hnil, a, cap, rfl⟩ | ⟨hz, cap, rfl, ⟨hg, hcap⟩, hcell⟩
  · have hl0 : l = [] := by simpa using hnil
    subst hl0
    simp only [List.length_nil] at h5
    have e1 : lo = 0 := by omega
    have e2 : hi = 0 := by omega
    subst e1 e2
    refine ⟨_, 0, fun w1 ρ hρ => run_v (by rw [hρ _ _ hx]; exact run_sli3 hρ hu hs hp hq hmx (by omega) (by omega) (by omega)), by simpa using hr.1, .inl ⟨hz, by simp, ?_⟩⟩
    exact ⟨_, _, rfl⟩
  · rw [List.length_map] at hcap hx
    have hlen : ((l.map c).take hi.toNat).length = hi.toNat := by rw [List.length_take, List.length_map]; omega
    have hm : (((l.take hi.toNat).drop lo.toNat).map c) = ((l.map c).take hi.toNat).drop lo.toNat := by rw [List.map_drop, List.map_take]
    have hml : (((l.take hi.toNat).drop lo.toNat).map c).length = hi.toNat - lo.toNat := by rw [hm, List.length_drop, hlen]
    refine ⟨_, if hi.toNat = lo.toNat then o else o + lo.toNat * sz, fun w1 ρ hρ => run_v (by rw [hρ _ _ hx]; exact run_sli3 hρ hu hs hp hq hmx h3 h4 (by omega)), by rw [hm]; exact hr.1.take.drop, .inr ⟨hz, hi.toNat - lo.toNat, ?_, ⟨hg, by rw [hml]; omega⟩, fun j u hj => ?_⟩⟩
    · simp only [sliced, hml]
      by_cases e : hi.toNat = lo.toNat
      · rw [if_pos e, if_pos e]
      · rw [if_neg e, if_neg e]; simp [Addr.add_lit]
    · rw [hm, flat_drop _ _ hr.1.take, flat_take _ _ hr.1, List.getElem?_drop] at hj
      have hj2 : (l.map c).flatten[lo.toNat * sz + j]? = some u := by
        rw [List.getElem?_take] at hj
        split at hj
        · exact hj
        · cases hj
      by_cases e : hi.toNat = lo.toNat
      · exfalso
        rw [List.getElem?_take, e] at hj
        split at hj
        · omega
        · cases hj
      · rw [if_neg e, Nat.add_assoc]; exact hcell _ _ hj2
/-- a part of an owned slice -/
theorem vv_sliV {n : Nat} (hu : P.underlying t = some (.slice e)) (hs : Siz P e sz) (hx : ev L x = some v) (h : Own w z g e sz v (l.map c)) (hp : ev L p = some (.int kl lo)) (hq : ev L q = some (.int kh hi)) (hm : ev L r = some (.int km hi)) (hl : viewG l lo hi = some n) :
    VV P L ⟨dst, .slice t x (some p) (some q) (some r), ty, pos, af, gu⟩ w (.slice (some ⟨g, lo.toNat * sz, none⟩) n n) := fun ρ hρ => by
  unfold viewG at hl
  split at hl
  · rename_i hh
    obtain ⟨h0, h1, h2⟩ := hh
    cases hl
    rcases h.2 with ⟨_, _, h0'⟩ | ⟨hz, cap, cur, rfl, h1', h2', h3⟩
    · have : l = [] := by simpa using h0'
      subst this; simp at h2; omega
    · rw [List.length_map] at h2'
      refine run_v ?_
      rw [hρ _ _ hx]
      show (Instr.sliceAt t (.slice (some ⟨g, 0, none⟩) _ cap) (some (ρ p)) (some (ρ q)) (some (ρ r))).run P w = _
      rw [run_sli3 hρ hu hs hp hq hm h0 (by omega) (by omega)]
      simp only [sliced]
      rw [if_neg (by omega)]
      simp [Addr.add_lit]
      omega
  · cases hl
theorem vv_ixVw {n : Nat} {i j : Int} {k : IntKind} {v : Value} (hv : v = .slice (some ⟨g, lo.toNat * sz, none⟩) n n) (h0 : 0 ≤ lo) (hu : P.underlying t = some (.slice e)) (hs : Siz P e sz) (hx : ev L x = some v) (hy : ev L y = some (.int k i)) (hj : ixG lo n i = some j) :
    VV P L ⟨dst, .indexAddr t x y, ty, pos, af, gu⟩ w (.pointer (some ⟨g, 0 + j.toNat * sz, none⟩)) := by
  unfold ixG at hj
  split at hj
  · rename_i hh
    cases hj
    subst hv
    have := vv_indexAddrS (dst := dst) (ty := ty) (pos := pos) (af := af) (gu := gu) (w := w) hu hs hx hy hh.1 hh.2
    have e : lo.toNat * sz + i.toNat * sz = 0 + (lo + i).toNat * sz := by rw [← Nat.add_mul, Int.toNat_add h0 hh.1]; omega
    rwa [e] at this
  · cases hj
theorem viewG_nn {n : Nat} (hl : viewG l lo hi = some n) : 0 ≤ lo := by
  unfold viewG at hl; split at hl
  · rename_i hh; exact hh.1
  · cases hl
/-- an index in an array that is held -/
theorem vv_ixE {len b' off : Nat} {i : Int} {k : IntKind} (j : Nat) (hu : P.underlying t = some (.array len e)) (hs : Siz P e sz) (hx : ev L x = some (.pointer (some ⟨b', off, none⟩))) (hy : ev L y = some (.int k i)) (h : i = (j : Int)) (hj : j < len) :
    VV P L ⟨dst, .indexAddr t x y, ty, pos, af, gu⟩ w (.pointer (some ⟨b', off + j * sz, none⟩)) := by
  have := vv_indexAddr (dst := dst) (ty := ty) (pos := pos) (af := af) (gu := gu) (w := w) hu hs hx hy (by omega) (by omega)
  rwa [show i.toNat = j from by omega] at this
theorem vv_ixV1 {len : Nat} {i : Int} {k : IntKind} {a : α} {u : Value} {cs : List Value} (hu : P.underlying t = some (.array len e)) (hs : Siz P e 1) (h1 : One P e) (hx : ev L x = some (.agg cs.toArray)) (hcs : cs = (l.map c).flatten) (hl : l.length = len) (hw : Ws 1 (l.map c)) (hy : ev L y = some (.int k i)) (hg : getI l i = some a) (hc : c a = [u]) :
    VV P L ⟨dst, .index t x y, ty, pos, af, gu⟩ w u := fun ρ hρ => by
  have h0 := getI_nn hg
  have h2 := getI_lt hg
  have h2' : i < (len : Int) := by omega
  have hp : (part e cs.toArray (i.toNat * 1)).run P w = .ok u w := by
    have hq : cs[i.toNat]? = some u := by
      have := Ws.at (sz := 1) i.toNat 0 (c a) hw (getm (getI_at hg)) (by omega)
      rw [hcs]; rw [hc] at this; simpa using this
    have hq2 : cs.toArray[i.toNat]? = some u := by simpa using hq
    simp [part, (h1 w).1, hq2]
  rw [Nat.mul_one] at hp
  refine run_v ?_
  rw [hρ _ _ hx, hρ _ _ hy]
  simp [Instr.index, run_underlying hu, asIntOf, h0, h2', hs w, hp]
end
end Go.Sx

end
section
set_option linter.unusedVariables false
set_option linter.unusedSimpArgs false
namespace Go.Proofs.Ytopkalcefepilaa
open Go Go.RowKit Go.Sx
theorem cv_22_5 : CV Try.prog 22 5 .u8 := fun _ _ _ => by kernel_rfl
theorem cv_5_3 : CV Try.prog 5 3 .i64 := fun _ _ _ => by kernel_rfl
theorem en_130 : En Try.prog 130 := fun _ _ => by kernel_rfl
theorem log2_shift (n k : Nat) (h : 2 ^ k ≤ n) : Nat.log2 n = Nat.log2 (n / 2 ^ k) + k := by
  induction k generalizing n with
  | zero => simp
  | succ k ih =>
    have h2 : 2 ^ k ≤ n / 2 := by rw [Nat.le_div_iff_mul_le (by omega)]; rw [Nat.pow_succ] at h; omega
    have h1 : 2 ≤ n := by have : 0 < 2 ^ k := Nat.two_pow_pos k; rw [Nat.pow_succ] at h; omega
    rw [Nat.log2_def, if_pos h1, ih (n / 2) h2, Nat.div_div_eq_div_mul, Nat.pow_succ, Nat.mul_comm 2]; omega
theorem lg_shift (a : Int) (k m : Nat) (hm : 2 ^ k = m) (h : (m : Int) ≤ a) : lg a = lg (a / (m : Int)) + k := by
  obtain ⟨n, rfl⟩ := Int.eq_ofNat_of_zero_le (show 0 ≤ a by omega)
  subst hm
  have hp : 0 < 2 ^ k := Nat.two_pow_pos k
  have h' : 2 ^ k ≤ n := by omega
  have e : ((n : Int) / ((2 ^ k : Nat) : Int)).toNat = n / 2 ^ k := by rw [← Int.natCast_ediv]; rfl
  have h1 : ¬ (n / 2 ^ k = 0) := by rw [Nat.div_eq_zero_iff]; omega
  unfold lg
  rw [e, Int.toNat_natCast, if_neg h1, if_neg (by omega), log2_shift n k h']
  omega
def lenTab : ByteArray := ⟨#[0, 1, 2, 2, 3, 3, 3, 3, 4, 4, 4, 4, 4, 4, 4, 4, 5, 5, 5, 5, 5, 5, 5, 5, 5, 5, 5, 5, 5, 5, 5, 5, 6, 6, 6, 6, 6, 6, 6, 6, 6, 6, 6, 6, 6, 6, 6, 6, 6, 6, 6, 6, 6, 6, 6, 6, 6, 6, 6, 6, 6, 6, 6, 6, 7, 7, 7, 7, 7, 7, 7, 7, 7, 7, 7, 7, 7, 7, 7, 7, 7, 7, 7, 7, 7, 7, 7, 7, 7, 7, 7, 7, 7, 7, 7, 7, 7, 7, 7, 7, 7, 7, 7, 7, 7, 7, 7, 7, 7, 7, 7, 7, 7, 7, 7, 7, 7, 7, 7, 7, 7, 7, 7, 7, 7, 7, 7, 7, 8, 8, 8, 8, 8, 8, 8, 8, 8, 8, 8, 8, 8, 8, 8, 8, 8, 8, 8, 8, 8, 8, 8, 8, 8, 8, 8, 8, 8, 8, 8, 8, 8, 8, 8, 8, 8, 8, 8, 8, 8, 8, 8, 8, 8, 8, 8, 8, 8, 8, 8, 8, 8, 8, 8, 8, 8, 8, 8, 8, 8, 8, 8, 8, 8, 8, 8, 8, 8, 8, 8, 8, 8, 8, 8, 8, 8, 8, 8, 8, 8, 8, 8, 8, 8, 8, 8, 8, 8, 8, 8, 8, 8, 8, 8, 8, 8, 8, 8, 8, 8, 8, 8, 8, 8, 8, 8, 8, 8, 8, 8, 8, 8, 8, 8, 8, 8, 8, 8, 8, 8, 8, 8, 8, 8, 8, 8, 8]⟩
theorem lenTab_fin : ∀ k : Fin 256, lenTab[k.1]? = some (UInt8.ofNat (lg (k.1 : Int)).toNat) ∧ lg (k.1 : Int) = ((UInt8.ofNat (lg (k.1 : Int)).toNat).toNat : Int) := by decide +kernel
theorem lenTab_at {a : Int} (h0 : 0 ≤ a) (h1 : a < 256) : lenTab[a.toNat]? = some (UInt8.ofNat (lg a).toNat) ∧ lg a = ((UInt8.ofNat (lg a).toNat).toNat : Int) := by
  obtain ⟨n, rfl⟩ := Int.eq_ofNat_of_zero_le h0
  exact lenTab_fin ⟨n, by omega⟩
theorem lg_lo (a : Int) : -9223372036854775808 ≤ lg a := by unfold lg; split <;> omega
theorem lg_hi {a : Int} (h0 : 0 ≤ a) (h1 : a < 256) : lg a ≤ 9223372036854775807 := by have := (lenTab_at h0 h1).2; have := (UInt8.ofNat (lg a).toNat).toNat_lt; omega
theorem lg_add {b : Int} (a : Int) (h : 0 ≤ b) : -9223372036854775808 ≤ b + lg a := by unfold lg; split <;> omega
theorem lg_add2 {a b : Int} (h0 : 0 ≤ a) (h1 : a < 256) (hb : b ≤ 1000) : b + lg a ≤ 9223372036854775807 := by have := (lenTab_at h0 h1).2; have := (UInt8.ofNat (lg a).toNat).toNat_lt; omega
set_option maxRecDepth 20000 in
set_option maxHeartbeats 1000000 in
theorem len64_c (a : Int) (ha1 : 0 ≤ a) (ha2 : a < 18446744073709551616) (w : World) :
    Calls Try.prog 130 [.int .u64 a].toArray w fun e w' => ∃ v, e = .returned v ∧ (v = .int .i64 (lg a) ∧ Gr w w') := by
  refine calls_of_sw (R := fun v w' => v = .int .i64 (lg a) ∧ Gr w w') 25 Try.func130 rfl rfl rfl ?_
  refine sw_seq ?_
  -- region 0 bits.go:337
  refine sw_region [(0, 0)] rfl rfl rfl ?_
  refine sd_vv rfl rfl rfl (vv_assign rfl) ?_
  refine sd_done ?_
  refine sw_seq ?_
  refine sw_seq ?_
  -- region 1 bits.go:338
  refine sw_region [(0, 0), (1, 0)] rfl rfl rfl ?_
  refine sd_vv rfl rfl rfl (vv_move rfl) ?_
  refine sd_vv rfl rfl rfl (vv_geq rfl rfl) ?_
  refine sd_done ?_
  refine sw_cond rfl (fun h1 => ?_) (fun h1 => ?_)
  · -- h1 True
    replace h1 := of_decide_eq_true h1
    refine sw_seq ?_
    -- region 2 bits.go:339
    refine sw_region [(0, 0), (1, 0), (2, 0)] rfl rfl rfl ?_
    refine sd_vv rfl rfl rfl (vv_move rfl) ?_
    refine sd_vv rfl rfl rfl (vv_shrN (n := 32) (m := 4294967296) rfl rfl rfl (by decide)) ?_
    refine sd_vv rfl rfl rfl (vv_assign rfl) ?_
    refine sd_done ?_
    -- region 3 bits.go:340
    refine sw_region [(0, 0)] rfl rfl rfl ?_
    refine sd_vv rfl rfl rfl (vv_assign rfl) ?_
    refine sd_done ?_
    refine sw_seq ?_
    refine sw_seq ?_
    -- region 4 bits.go:342
    refine sw_region [(0, 0), (1, 0)] rfl rfl rfl ?_
    refine sd_vv rfl rfl rfl (vv_move rfl) ?_
    refine sd_vv rfl rfl rfl (vv_geq rfl rfl) ?_
    refine sd_done ?_
    refine sw_cond rfl (fun h2 => ?_) (fun h2 => ?_)
    · -- h2 True
      replace h2 := of_decide_eq_true h2
      refine sw_seq ?_
      -- region 5 bits.go:343
      refine sw_region [(0, 0), (1, 0), (2, 0)] rfl rfl rfl ?_
      refine sd_vv rfl rfl rfl (vv_move rfl) ?_
      refine sd_vv rfl rfl rfl (vv_shrN (n := 16) (m := 65536) rfl rfl rfl (by decide)) ?_
      refine sd_vv rfl rfl rfl (vv_assign rfl) ?_
      refine sd_done ?_
      -- region 6 bits.go:344
      refine sw_region [(0, 0), (1, 0), (2, 0)] rfl rfl rfl ?_
      refine sd_vv rfl rfl rfl (vv_move rfl) ?_
      refine sd_vv rfl rfl rfl (vv_add64 rfl rfl (by omega) (by omega)) ?_
      refine sd_vv rfl rfl rfl (vv_assign rfl) ?_
      refine sd_done ?_
      refine sw_seq ?_
      refine sw_seq ?_
      -- region 7 bits.go:346
      refine sw_region [(0, 0), (1, 0)] rfl rfl rfl ?_
      refine sd_vv rfl rfl rfl (vv_move rfl) ?_
      refine sd_vv rfl rfl rfl (vv_geq rfl rfl) ?_
      refine sd_done ?_
      refine sw_cond rfl (fun h3 => ?_) (fun h3 => ?_)
      · -- h3 True
        replace h3 := of_decide_eq_true h3
        refine sw_seq ?_
        -- region 8 bits.go:347
        refine sw_region [(0, 0), (1, 0), (2, 0)] rfl rfl rfl ?_
        refine sd_vv rfl rfl rfl (vv_move rfl) ?_
        refine sd_vv rfl rfl rfl (vv_shrN (n := 8) (m := 256) rfl rfl rfl (by decide)) ?_
        refine sd_vv rfl rfl rfl (vv_assign rfl) ?_
        refine sd_done ?_
        -- region 9 bits.go:348
        refine sw_region [(0, 0), (1, 0), (2, 0)] rfl rfl rfl ?_
        refine sd_vv rfl rfl rfl (vv_move rfl) ?_
        refine sd_vv rfl rfl rfl (vv_add64 rfl rfl (by omega) (by omega)) ?_
        refine sd_vv rfl rfl rfl (vv_assign rfl) ?_
        refine sd_done ?_
        refine sw_seq ?_
        -- region 10 bits.go:350
        refine sw_region [(0, 0), (1, 0), (2, 0), (3, 0), (4, 0), (5, 0), (6, 0)] rfl rfl rfl ?_
        refine sd_vv rfl rfl rfl (vv_move rfl) ?_
        refine sd_vv rfl rfl rfl (vv_move rfl) ?_
        refine sd_vv rfl rfl rfl (vv_convB cv_22_5 rfl (by omega) (by omega)) ?_
        refine sd_vv rfl rfl rfl (vv_eq (vv_ixStr Try.underlying9 rfl rfl (by omega) (show lenTab[_]? = _ from (lenTab_at (by omega) (by omega)).1)) (congrArg (Value.int .u8) (lenTab_at (by omega) (by omega)).2.symm)) ?_
        refine sd_vv rfl rfl rfl (vv_conv64 cv_5_3 rfl (lg_lo _) (lg_hi (by omega) (by omega))) ?_
        refine sd_vv rfl rfl rfl (vv_add64 rfl rfl (lg_add _ (by decide)) (lg_add2 (by omega) (by omega) (by decide))) ?_
        refine sd_vv rfl rfl rfl (vv_assign rfl) ?_
        refine sd_done ?_
        refine sw_ret ?_
        refine ⟨_, _, rfl, res_tmp rfl rfl, ?_⟩
        refine ⟨congrArg (Value.int .i64) ?_, (Gr.refl w)⟩
        have e0 : lg (a : Int) = lg ((a : Int) / 4294967296) + 32 := lg_shift (a : Int) 32 4294967296 (by decide) (by omega)
        have e1 : lg ((a : Int) / 4294967296) = lg (((a : Int) / 4294967296) / 65536) + 16 := lg_shift ((a : Int) / 4294967296) 16 65536 (by decide) (by omega)
        have e2 : lg (((a : Int) / 4294967296) / 65536) = lg ((((a : Int) / 4294967296) / 65536) / 256) + 8 := lg_shift (((a : Int) / 4294967296) / 65536) 8 256 (by decide) (by omega)
        omega
      · -- h3 False
        replace h3 := of_decide_eq_false h3
        refine sw_skip ?_
        refine then_n ?_
        refine sw_seq ?_
        -- region 10 bits.go:350
        refine sw_region [(0, 0), (1, 0), (2, 0), (3, 0), (4, 0), (5, 0), (6, 0)] rfl rfl rfl ?_
        refine sd_vv rfl rfl rfl (vv_move rfl) ?_
        refine sd_vv rfl rfl rfl (vv_move rfl) ?_
        refine sd_vv rfl rfl rfl (vv_convB cv_22_5 rfl (by omega) (by omega)) ?_
        refine sd_vv rfl rfl rfl (vv_eq (vv_ixStr Try.underlying9 rfl rfl (by omega) (show lenTab[_]? = _ from (lenTab_at (by omega) (by omega)).1)) (congrArg (Value.int .u8) (lenTab_at (by omega) (by omega)).2.symm)) ?_
        refine sd_vv rfl rfl rfl (vv_conv64 cv_5_3 rfl (lg_lo _) (lg_hi (by omega) (by omega))) ?_
        refine sd_vv rfl rfl rfl (vv_add64 rfl rfl (lg_add _ (by decide)) (lg_add2 (by omega) (by omega) (by decide))) ?_
        refine sd_vv rfl rfl rfl (vv_assign rfl) ?_
        refine sd_done ?_
        refine sw_ret ?_
        refine ⟨_, _, rfl, res_tmp rfl rfl, ?_⟩
        refine ⟨congrArg (Value.int .i64) ?_, (Gr.refl w)⟩
        have e0 : lg (a : Int) = lg ((a : Int) / 4294967296) + 32 := lg_shift (a : Int) 32 4294967296 (by decide) (by omega)
        have e1 : lg ((a : Int) / 4294967296) = lg (((a : Int) / 4294967296) / 65536) + 16 := lg_shift ((a : Int) / 4294967296) 16 65536 (by decide) (by omega)
        omega
    · -- h2 False
      replace h2 := of_decide_eq_false h2
      refine sw_skip ?_
      refine then_n ?_
      refine sw_seq ?_
      refine sw_seq ?_
      -- region 7 bits.go:346
      refine sw_region [(0, 0), (1, 0)] rfl rfl rfl ?_
      refine sd_vv rfl rfl rfl (vv_move rfl) ?_
      refine sd_vv rfl rfl rfl (vv_geq rfl rfl) ?_
      refine sd_done ?_
      refine sw_cond rfl (fun h4 => ?_) (fun h4 => ?_)
      · -- h4 True
        replace h4 := of_decide_eq_true h4
        refine sw_seq ?_
        -- region 8 bits.go:347
        refine sw_region [(0, 0), (1, 0), (2, 0)] rfl rfl rfl ?_
        refine sd_vv rfl rfl rfl (vv_move rfl) ?_
        refine sd_vv rfl rfl rfl (vv_shrN (n := 8) (m := 256) rfl rfl rfl (by decide)) ?_
        refine sd_vv rfl rfl rfl (vv_assign rfl) ?_
        refine sd_done ?_
        -- region 9 bits.go:348
        refine sw_region [(0, 0), (1, 0), (2, 0)] rfl rfl rfl ?_
        refine sd_vv rfl rfl rfl (vv_move rfl) ?_
        refine sd_vv rfl rfl rfl (vv_add64 rfl rfl (by omega) (by omega)) ?_
        refine sd_vv rfl rfl rfl (vv_assign rfl) ?_
        refine sd_done ?_
        refine sw_seq ?_
        -- region 10 bits.go:350
        refine sw_region [(0, 0), (1, 0), (2, 0), (3, 0), (4, 0), (5, 0), (6, 0)] rfl rfl rfl ?_
        refine sd_vv rfl rfl rfl (vv_move rfl) ?_
        refine sd_vv rfl rfl rfl (vv_move rfl) ?_
        refine sd_vv rfl rfl rfl (vv_convB cv_22_5 rfl (by omega) (by omega)) ?_
        refine sd_vv rfl rfl rfl (vv_eq (vv_ixStr Try.underlying9 rfl rfl (by omega) (show lenTab[_]? = _ from (lenTab_at (by omega) (by omega)).1)) (congrArg (Value.int .u8) (lenTab_at (by omega) (by omega)).2.symm)) ?_
        refine sd_vv rfl rfl rfl (vv_conv64 cv_5_3 rfl (lg_lo _) (lg_hi (by omega) (by omega))) ?_
        refine sd_vv rfl rfl rfl (vv_add64 rfl rfl (lg_add _ (by decide)) (lg_add2 (by omega) (by omega) (by decide))) ?_
        refine sd_vv rfl rfl rfl (vv_assign rfl) ?_
        refine sd_done ?_
        refine sw_ret ?_
        refine ⟨_, _, rfl, res_tmp rfl rfl, ?_⟩
        refine ⟨congrArg (Value.int .i64) ?_, (Gr.refl w)⟩
        have e0 : lg (a : Int) = lg ((a : Int) / 4294967296) + 32 := lg_shift (a : Int) 32 4294967296 (by decide) (by omega)
        have e1 : lg ((a : Int) / 4294967296) = lg (((a : Int) / 4294967296) / 256) + 8 := lg_shift ((a : Int) / 4294967296) 8 256 (by decide) (by omega)
        omega
      · -- h4 False
        replace h4 := of_decide_eq_false h4
        refine sw_skip ?_
        refine then_n ?_
        refine sw_seq ?_
        -- region 10 bits.go:350
        refine sw_region [(0, 0), (1, 0), (2, 0), (3, 0), (4, 0), (5, 0), (6, 0)] rfl rfl rfl ?_
        refine sd_vv rfl rfl rfl (vv_move rfl) ?_
        refine sd_vv rfl rfl rfl (vv_move rfl) ?_
        refine sd_vv rfl rfl rfl (vv_convB cv_22_5 rfl (by omega) (by omega)) ?_
        refine sd_vv rfl rfl rfl (vv_eq (vv_ixStr Try.underlying9 rfl rfl (by omega) (show lenTab[_]? = _ from (lenTab_at (by omega) (by omega)).1)) (congrArg (Value.int .u8) (lenTab_at (by omega) (by omega)).2.symm)) ?_
        refine sd_vv rfl rfl rfl (vv_conv64 cv_5_3 rfl (lg_lo _) (lg_hi (by omega) (by omega))) ?_
        refine sd_vv rfl rfl rfl (vv_add64 rfl rfl (lg_add _ (by decide)) (lg_add2 (by omega) (by omega) (by decide))) ?_
        refine sd_vv rfl rfl rfl (vv_assign rfl) ?_
        refine sd_done ?_
        refine sw_ret ?_
        refine ⟨_, _, rfl, res_tmp rfl rfl, ?_⟩
        refine ⟨congrArg (Value.int .i64) ?_, (Gr.refl w)⟩
        have e0 : lg (a : Int) = lg ((a : Int) / 4294967296) + 32 := lg_shift (a : Int) 32 4294967296 (by decide) (by omega)
        omega
  · -- h1 False
    replace h1 := of_decide_eq_false h1
    refine sw_skip ?_
    refine then_n ?_
    refine sw_seq ?_
    refine sw_seq ?_
    -- region 4 bits.go:342
    refine sw_region [(0, 0), (1, 0)] rfl rfl rfl ?_
    refine sd_vv rfl rfl rfl (vv_move rfl) ?_
    refine sd_vv rfl rfl rfl (vv_geq rfl rfl) ?_
    refine sd_done ?_
    refine sw_cond rfl (fun h5 => ?_) (fun h5 => ?_)
    · -- h5 True
      replace h5 := of_decide_eq_true h5
      refine sw_seq ?_
      -- region 5 bits.go:343
      refine sw_region [(0, 0), (1, 0), (2, 0)] rfl rfl rfl ?_
      refine sd_vv rfl rfl rfl (vv_move rfl) ?_
      refine sd_vv rfl rfl rfl (vv_shrN (n := 16) (m := 65536) rfl rfl rfl (by decide)) ?_
      refine sd_vv rfl rfl rfl (vv_assign rfl) ?_
      refine sd_done ?_
      -- region 6 bits.go:344
      refine sw_region [(0, 0), (1, 0), (2, 0)] rfl rfl rfl ?_
      refine sd_vv rfl rfl rfl (vv_move rfl) ?_
      refine sd_vv rfl rfl rfl (vv_add64 rfl rfl (by omega) (by omega)) ?_
      refine sd_vv rfl rfl rfl (vv_assign rfl) ?_
      refine sd_done ?_
      refine sw_seq ?_
      refine sw_seq ?_
      -- region 7 bits.go:346
      refine sw_region [(0, 0), (1, 0)] rfl rfl rfl ?_
      refine sd_vv rfl rfl rfl (vv_move rfl) ?_
      refine sd_vv rfl rfl rfl (vv_geq rfl rfl) ?_
      refine sd_done ?_
      refine sw_cond rfl (fun h6 => ?_) (fun h6 => ?_)
      · -- h6 True
        replace h6 := of_decide_eq_true h6
        refine sw_seq ?_
        -- region 8 bits.go:347
        refine sw_region [(0, 0), (1, 0), (2, 0)] rfl rfl rfl ?_
        refine sd_vv rfl rfl rfl (vv_move rfl) ?_
        refine sd_vv rfl rfl rfl (vv_shrN (n := 8) (m := 256) rfl rfl rfl (by decide)) ?_
        refine sd_vv rfl rfl rfl (vv_assign rfl) ?_
        refine sd_done ?_
        -- region 9 bits.go:348
        refine sw_region [(0, 0), (1, 0), (2, 0)] rfl rfl rfl ?_
        refine sd_vv rfl rfl rfl (vv_move rfl) ?_
        refine sd_vv rfl rfl rfl (vv_add64 rfl rfl (by omega) (by omega)) ?_
        refine sd_vv rfl rfl rfl (vv_assign rfl) ?_
        refine sd_done ?_
        refine sw_seq ?_
        -- region 10 bits.go:350
        refine sw_region [(0, 0), (1, 0), (2, 0), (3, 0), (4, 0), (5, 0), (6, 0)] rfl rfl rfl ?_
        refine sd_vv rfl rfl rfl (vv_move rfl) ?_
        refine sd_vv rfl rfl rfl (vv_move rfl) ?_
        refine sd_vv rfl rfl rfl (vv_convB cv_22_5 rfl (by omega) (by omega)) ?_
        refine sd_vv rfl rfl rfl (vv_eq (vv_ixStr Try.underlying9 rfl rfl (by omega) (show lenTab[_]? = _ from (lenTab_at (by omega) (by omega)).1)) (congrArg (Value.int .u8) (lenTab_at (by omega) (by omega)).2.symm)) ?_
        refine sd_vv rfl rfl rfl (vv_conv64 cv_5_3 rfl (lg_lo _) (lg_hi (by omega) (by omega))) ?_
        refine sd_vv rfl rfl rfl (vv_add64 rfl rfl (lg_add _ (by decide)) (lg_add2 (by omega) (by omega) (by decide))) ?_
        refine sd_vv rfl rfl rfl (vv_assign rfl) ?_
        refine sd_done ?_
        refine sw_ret ?_
        refine ⟨_, _, rfl, res_tmp rfl rfl, ?_⟩
        refine ⟨congrArg (Value.int .i64) ?_, (Gr.refl w)⟩
        have e0 : lg (a : Int) = lg ((a : Int) / 65536) + 16 := lg_shift (a : Int) 16 65536 (by decide) (by omega)
        have e1 : lg ((a : Int) / 65536) = lg (((a : Int) / 65536) / 256) + 8 := lg_shift ((a : Int) / 65536) 8 256 (by decide) (by omega)
        omega
      · -- h6 False
        replace h6 := of_decide_eq_false h6
        refine sw_skip ?_
        refine then_n ?_
        refine sw_seq ?_
        -- region 10 bits.go:350
        refine sw_region [(0, 0), (1, 0), (2, 0), (3, 0), (4, 0), (5, 0), (6, 0)] rfl rfl rfl ?_
        refine sd_vv rfl rfl rfl (vv_move rfl) ?_
        refine sd_vv rfl rfl rfl (vv_move rfl) ?_
        refine sd_vv rfl rfl rfl (vv_convB cv_22_5 rfl (by omega) (by omega)) ?_
        refine sd_vv rfl rfl rfl (vv_eq (vv_ixStr Try.underlying9 rfl rfl (by omega) (show lenTab[_]? = _ from (lenTab_at (by omega) (by omega)).1)) (congrArg (Value.int .u8) (lenTab_at (by omega) (by omega)).2.symm)) ?_
        refine sd_vv rfl rfl rfl (vv_conv64 cv_5_3 rfl (lg_lo _) (lg_hi (by omega) (by omega))) ?_
        refine sd_vv rfl rfl rfl (vv_add64 rfl rfl (lg_add _ (by decide)) (lg_add2 (by omega) (by omega) (by decide))) ?_
        refine sd_vv rfl rfl rfl (vv_assign rfl) ?_
        refine sd_done ?_
        refine sw_ret ?_
        refine ⟨_, _, rfl, res_tmp rfl rfl, ?_⟩
        refine ⟨congrArg (Value.int .i64) ?_, (Gr.refl w)⟩
        have e0 : lg (a : Int) = lg ((a : Int) / 65536) + 16 := lg_shift (a : Int) 16 65536 (by decide) (by omega)
        omega
    · -- h5 False
      replace h5 := of_decide_eq_false h5
      refine sw_skip ?_
      refine then_n ?_
      refine sw_seq ?_
      refine sw_seq ?_
      -- region 7 bits.go:346
      refine sw_region [(0, 0), (1, 0)] rfl rfl rfl ?_
      refine sd_vv rfl rfl rfl (vv_move rfl) ?_
      refine sd_vv rfl rfl rfl (vv_geq rfl rfl) ?_
      refine sd_done ?_
      refine sw_cond rfl (fun h7 => ?_) (fun h7 => ?_)
      · -- h7 True
        replace h7 := of_decide_eq_true h7
        refine sw_seq ?_
        -- region 8 bits.go:347
        refine sw_region [(0, 0), (1, 0), (2, 0)] rfl rfl rfl ?_
        refine sd_vv rfl rfl rfl (vv_move rfl) ?_
        refine sd_vv rfl rfl rfl (vv_shrN (n := 8) (m := 256) rfl rfl rfl (by decide)) ?_
        refine sd_vv rfl rfl rfl (vv_assign rfl) ?_
        refine sd_done ?_
        -- region 9 bits.go:348
        refine sw_region [(0, 0), (1, 0), (2, 0)] rfl rfl rfl ?_
        refine sd_vv rfl rfl rfl (vv_move rfl) ?_
        refine sd_vv rfl rfl rfl (vv_add64 rfl rfl (by omega) (by omega)) ?_
        refine sd_vv rfl rfl rfl (vv_assign rfl) ?_
        refine sd_done ?_
        refine sw_seq ?_
        -- region 10 bits.go:350
        refine sw_region [(0, 0), (1, 0), (2, 0), (3, 0), (4, 0), (5, 0), (6, 0)] rfl rfl rfl ?_
        refine sd_vv rfl rfl rfl (vv_move rfl) ?_
        refine sd_vv rfl rfl rfl (vv_move rfl) ?_
        refine sd_vv rfl rfl rfl (vv_convB cv_22_5 rfl (by omega) (by omega)) ?_
        refine sd_vv rfl rfl rfl (vv_eq (vv_ixStr Try.underlying9 rfl rfl (by omega) (show lenTab[_]? = _ from (lenTab_at (by omega) (by omega)).1)) (congrArg (Value.int .u8) (lenTab_at (by omega) (by omega)).2.symm)) ?_
        refine sd_vv rfl rfl rfl (vv_conv64 cv_5_3 rfl (lg_lo _) (lg_hi (by omega) (by omega))) ?_
        refine sd_vv rfl rfl rfl (vv_add64 rfl rfl (lg_add _ (by decide)) (lg_add2 (by omega) (by omega) (by decide))) ?_
        refine sd_vv rfl rfl rfl (vv_assign rfl) ?_
        refine sd_done ?_
        refine sw_ret ?_
        refine ⟨_, _, rfl, res_tmp rfl rfl, ?_⟩
        refine ⟨congrArg (Value.int .i64) ?_, (Gr.refl w)⟩
        have e0 : lg (a : Int) = lg ((a : Int) / 256) + 8 := lg_shift (a : Int) 8 256 (by decide) (by omega)
        omega
      · -- h7 False
        replace h7 := of_decide_eq_false h7
        refine sw_skip ?_
        refine then_n ?_
        refine sw_seq ?_
        -- region 10 bits.go:350
        refine sw_region [(0, 0), (1, 0), (2, 0), (3, 0), (4, 0), (5, 0), (6, 0)] rfl rfl rfl ?_
        refine sd_vv rfl rfl rfl (vv_move rfl) ?_
        refine sd_vv rfl rfl rfl (vv_move rfl) ?_
        refine sd_vv rfl rfl rfl (vv_convB cv_22_5 rfl (by omega) (by omega)) ?_
        refine sd_vv rfl rfl rfl (vv_eq (vv_ixStr Try.underlying9 rfl rfl (by omega) (show lenTab[_]? = _ from (lenTab_at (by omega) (by omega)).1)) (congrArg (Value.int .u8) (lenTab_at (by omega) (by omega)).2.symm)) ?_
        refine sd_vv rfl rfl rfl (vv_conv64 cv_5_3 rfl (lg_lo _) (lg_hi (by omega) (by omega))) ?_
        refine sd_vv rfl rfl rfl (vv_add64 rfl rfl (lg_add _ (by decide)) (lg_add2 (by omega) (by omega) (by decide))) ?_
        refine sd_vv rfl rfl rfl (vv_assign rfl) ?_
        refine sd_done ?_
        refine sw_ret ?_
        refine ⟨_, _, rfl, res_tmp rfl rfl, ?_⟩
        refine ⟨congrArg (Value.int .i64) ?_, (Gr.refl w)⟩
        omega
set_option maxHeartbeats 1000000 in
theorem len_c (a : Int) (ha1 : 0 ≤ a) (ha2 : a < 18446744073709551616) (w : World) :
    Calls Try.prog 104 [.int .u64 a].toArray w fun e w' => ∃ v, e = .returned v ∧ (v = .int .i64 (lg a) ∧ Gr w w') := by
  refine calls_of_sw (R := fun v w' => v = .int .i64 (lg a) ∧ Gr w w') 8 Try.func104 rfl rfl rfl ?_
  refine sw_seq ?_
  -- region 0 bits.go:302
  refine sw_region [(0, 0)] rfl rfl rfl ?_
  refine sd_vv rfl rfl rfl (vv_assign rfl) ?_
  refine sd_done ?_
  refine sw_seq ?_
  refine sw_condF rfl ?_
  refine sw_skip ?_
  refine then_n ?_
  refine sw_seq ?_
  -- region 2 bits.go:306
  refine sw_region [(0, 0), (1, 0), (2, 0)] rfl rfl rfl ?_
  refine sd_vv rfl rfl rfl (vv_move rfl) ?_
  refine sd_ev rfl rfl rfl (ev_call en_130 rfl (len64_c _ (by omega) (by omega) _)) ?_
  rintro _ w1 ⟨rfl, Gw1⟩
  have z1 := Gw1.size
  refine sd_vv rfl rfl rfl (vv_assign rfl) ?_
  refine sd_done ?_
  refine sw_ret ?_
  have X2 : Gr w w1 := (Gr.trans (Gr.refl w) Gw1)
  refine ⟨_, _, rfl, res_tmp rfl rfl, ?_⟩
  exact ⟨rfl, X2⟩
end Go.Proofs.Ytopkalcefepilaa

end
section
set_option linter.unusedVariables false
set_option linter.unusedSimpArgs false
namespace Go.Sx
open Go Go.RowKit Go.Proofs Go.Sort Go.Shelf
def Ws' (k : Nat) (xs : List (List Value)) : Prop := ∀ y ∈ xs, y.length = k
/-- what the sort leaves -/
theorem sortW {β : Type} [Inhabited β] (enc : β → List Value) (k : Nat) (hk : 1 ≤ k) (hc : ∀ b, (enc b).length = k) (w : World) (g n : Nat) (d : Array β) (os : Array Obj) (e : TypeId) (cur : Array Value) (hb : w.heap[g]? = some (.cells cur e (0, 0))) (hl : d.size * k ≤ cur.size) :
    ∃ cur' : Array Value, (sortWorldK enc k w g 0 n d os).heap[g]? = some (.cells cur' e (0, 0)) ∧ cur'.size = cur.size ∧ cur'.toList.take (d.size * k) = (d.toList.map enc).flatten ∧ Kz [(1, g)] w (sortWorldK enc k w g 0 n d os) := by
  have hlt : g < w.heap.size := (Array.getElem?_eq_some_iff.1 hb).1
  have hh : (sortWorldK enc k w g 0 n d os).heap = (w.heap.modify g (onCells (putCells id 0 (flatK enc k d)))) ++ os := rfl
  refine ⟨putCells id 0 (flatK enc k d) cur, ?_, by simp [putCells], ?_, ?_⟩
  · rw [hh, Array.getElem?_append_left (by simpa using hlt), Array.getElem?_modify, if_pos rfl, hb]; rfl
  · apply List.ext_getElem?
    intro t
    rw [List.getElem?_take]
    have hfl : ((d.toList.map enc).flatten).length = d.size * k := by
      have : Ws' k (d.toList.map enc) := by
        intro y hy; obtain ⟨b, _, rfl⟩ := List.mem_map.1 hy; exact hc b
      have h2 : ∀ (xs : List (List Value)), Ws' k xs → xs.flatten.length = xs.length * k := by
        intro xs
        induction xs with
        | nil => intro _; simp
        | cons a xs ih => intro h; rw [List.flatten_cons, List.length_append, ih (fun y hy => h y (List.mem_cons_of_mem _ hy)), h a (by simp), List.length_cons, Nat.add_mul]; omega
      rw [h2 _ this]; simp
    by_cases ht : t < d.size * k
    · rw [if_pos ht]
      have htc : t < cur.size := by omega
      have h3 : (putCells id 0 (flatK enc k d) cur).toList[t]? = some ((flatK enc k d)[t]!) := by
        simp only [putCells, Array.getElem?_toList, Array.getElem?_mapIdx, Array.getElem?_eq_getElem htc, Option.map_some, Nat.zero_le, true_and, Nat.zero_add, size_flatK, ht, if_true, Nat.sub_zero, id]
      rw [h3, get_flatK enc k d t ht]
      have hq : t / k < d.size := (Nat.div_lt_iff_lt_mul (by omega)).2 ht
      have hm : t % k < k := Nat.mod_lt _ (by omega)
      have hgen : ∀ (xs : List (List Value)), Ws' k xs → ∀ i j c, xs[i]? = some c → j < k → xs.flatten[i * k + j]? = c[j]? := by
        intro xs
        induction xs with
        | nil => intro _ i j c h; simp at h
        | cons a xs ih =>
          intro hw i j c h hj
          have ha := hw a (by simp)
          rw [List.flatten_cons]
          cases i with
          | zero => simp at h; subst h; rw [Nat.zero_mul, Nat.zero_add, List.getElem?_append_left (by omega)]
          | succ i =>
            rw [List.getElem?_append_right (by rw [ha, Nat.add_mul]; omega), show (i + 1) * k + j - a.length = i * k + j from by rw [ha, Nat.add_mul]; omega]
            exact ih (fun y hy => hw y (List.mem_cons_of_mem _ hy)) i j c (by simpa using h) hj
      have h4 := hgen (d.toList.map enc) (fun y hy => by obtain ⟨b, _, rfl⟩ := List.mem_map.1 hy; exact hc b) (t / k) (t % k) (enc d[t / k]!) (by simp [hq]) hm
      have hdm : t / k * k + t % k = t := by rw [Nat.mul_comm]; exact Nat.div_add_mod t k
      rw [hdm] at h4
      rw [h4]
      have h5 : t % k < (enc d[t / k]!).length := by rw [hc]; exact hm
      simp [h5]
    · rw [if_neg ht, List.getElem?_eq_none (by omega)]
  · refine ⟨rfl, rfl, rfl, by rw [hh]; simp, fun i hi hn => ?_⟩
    have hne : g ≠ i := by
      simp only [Nin] at hn
      rcases hn.1 with h | h
      · omega
      · exact fun e => h e.symm
    rw [hh, Array.getElem?_append_left (by simpa using hi), Array.getElem?_modify, if_neg hne]
section
variable {P : Program} {ρ : Ren}
/-- the shelf's contract, in the words of the mirrors -/
theorem sort_gen {β : Type} (c : β → List Value) (k : Nat) (hc : ∀ b, (c b).length = k) (h1 : ∀ b, ones (c b) = true) (hk : 1 ≤ k) (key : β → Int) (cf : Nat) (L : SlLaysF0.n6 P ρ) (aE : ∀ w, (isAgg (ρ.t 24)).run P w = .ok true w) (zE : ∀ w, (Go.sizeOf (ρ.t 24)).run P w = .ok k w)
    (eg : ∀ args w, (callFunc cf args).run P w = .ok (.enter cf args) w)
    (hcmp : ∀ (x y : β) (W : World), 0 ≤ key x ∧ key x < 4611686018427387904 → 0 ≤ key y ∧ key y < 4611686018427387904 → Calls P cf #[.agg (c x).toArray, .agg (c y).toArray] W fun e w' => e = .returned (.int .i64 (key x - key y)) ∧ ∃ q os', w' = grow (W.drewN q) os')
    {l m : List β} (hm : srtBy key l = some m) (w : World) (z g : Nat) (e : TypeId) (v : Value) (h : Own w z g e k v (l.map c)) :
    Calls P (ρ.f 6) #[v, .func (.func cf) #[] #[]] w fun e' w' => ∃ v', e' = .returned v' ∧ (Own w' z g e k v (m.map c) ∧ Kz [(z, g)] w w') := by
  obtain ⟨rfl, hbd, hnd, hlen⟩ := srtBy_eq hm
  rcases h.2 with ⟨hz, rfl, h0⟩ | ⟨hz, cap, cur, rfl, hb, hn, hcap, hsz, htk⟩
  · have hl0 : l = [] := by simpa using h0
    subst hl0
    refine (AnyF.slices_SortFunc_none L none 0 (.func (.func cf) #[] #[]) w).mono ?_
    rintro e' w' ⟨rfl, rfl⟩
    exact ⟨_, rfl, by simpa using h, Kz.refl _ _⟩
  · by_cases hl0 : l = []
    · subst hl0
      have : (([] : List β).map c).length = 0 := rfl
      rw [this]
      refine (AnyF.slices_SortFunc_none L (some ⟨g, 0, none⟩) cap (.func (.func cf) #[] #[]) w).mono ?_
      rintro e' w' ⟨rfl, rfl⟩
      exact ⟨_, rfl, by simpa using h, Kz.refl _ _⟩
    · obtain ⟨b0, hb0⟩ := List.exists_mem_of_ne_nil l hl0
      let A := { x : β // x ∈ l }
      letI : Inhabited A := ⟨⟨b0, hb0⟩⟩
      let enc : A → List Value := fun x => c x.1
      let d : Array A := l.attach.toArray
      let cfn : A → A → Int := fun x y => key x.1 - key y.1
      have hds : d.size = l.length := by show l.attach.toArray.size = l.length; simp
      have hlt : ∀ x y : A, ltOf cfn x y = decide (key x.1 < key y.1) := fun x y => by
        unfold ltOf; apply decide_eq_decide.2; show key x.1 - key y.1 < 0 ↔ _; omega
      have hO : SWO (ltOf cfn) := ⟨fun x => by rw [hlt]; simp, fun x y z h1 h2 => by rw [hlt] at *; simp at *; omega, fun x y z h1 h2 => by rw [hlt] at *; simp at *; omega⟩
      have hT : ∀ x y : A, ltOf cfn x y = false → ltOf cfn y x = false → x = y := fun x y h1 h2 => by
        rw [hlt] at h1 h2
        simp at h1 h2
        have he : key x.1 = key y.1 := by omega
        apply Subtype.ext
        obtain ⟨i, hi, ei⟩ := List.mem_iff_getElem.1 x.2
        obtain ⟨j, hj, ej⟩ := List.mem_iff_getElem.1 y.2
        have hij : i = j := (List.getElem_inj (h₀ := by simpa using hi) (h₁ := by simpa using hj) hnd).1 (by rw [List.getElem_map, List.getElem_map, ei, ej]; exact he)
        subst hij; rw [← ei, ← ej]
      have hmk : d.toList.map enc = l.map c := by
        show l.attach.toArray.toList.map (fun x : A => c x.1) = l.map c
        show List.map (fun x : { x : β // x ∈ l } => c x.1) l.attach = l.map c
        exact List.attach_map_val
      rw [List.length_map] at hn htk
      have hle : d.size * k ≤ cur.size := by rw [hds, hsz]; exact Nat.mul_le_mul_right _ hn
      have hH : HoldsK enc k w g 0 d := by
        intro j hj
        rw [size_flatK] at hj
        rw [get_flatK enc k d j hj]
        have hq : j / k < d.size := (Nat.div_lt_iff_lt_mul (by omega)).2 hj
        have hm' : j % k < k := Nat.mod_lt _ (by omega)
        have hcell : w.cell? ⟨g, 0 + j, none⟩ = cur[j]? := by rw [Nat.zero_add, cell_of_row w g j _ e _ hb]
        have hws : Ws k (l.map c) := h.1
        have hat := hws.at (j / k) (j % k) (c (l[j / k]'(by omega))) (by simp [show j / k < l.length by omega]) hm'
        have hdm : j / k * k + j % k = j := by rw [Nat.mul_comm]; exact Nat.div_add_mod j k
        rw [hdm, ← htk, List.getElem?_take, if_pos (by rw [hds] at hj; exact hj), Array.getElem?_toList] at hat
        have hdj : enc d[j / k]! = c (l[j / k]'(by omega)) := by
          have : d[j / k]! = ⟨l[j / k]'(by omega), List.getElem_mem _⟩ := by
            have hjl : j / k < d.size := hq
            rw [getElem!_pos d (j / k) hjl]
            show (l.attach.toArray)[j / k]'(by simpa using (show j / k < l.length by omega)) = _
            simp
          rw [this]
        refine ⟨?_, ?_⟩
        · rw [hcell, hat, hdj]
          have h5 : j % k < (c (l[j / k]'(by omega))).length := by rw [hc]; exact hm'
          simp [h5]
        · simp [World.frozen?, hb]
      have hcl : CmpLays P cf #[] enc k cfn g 0 d.size w := fun mm os dk hs x y => by
        have := hcmp x.1 y.1 (sortWorldK enc k w g 0 mm dk os) (hbd _ x.2) (hbd _ y.2)
        simpa [enc, cfn] using this
      have hone : ∀ x : A, ∀ u ∈ enc x, u.oneCell' = true := fun x u hu => by
        have hws : Ws k (l.map c) := h.1
        exact hws.one u (List.mem_flatten.2 ⟨c x.1, List.mem_map.2 ⟨x.1, x.2, rfl⟩, hu⟩)
      have := AnyQ.slices_SortFunc_total L k aE zE enc (fun x => hc x.1) hone cfn hO cf #[] g 0 cap d w eg hcl hH (Array.getElem?_eq_some_iff.1 hb).1 (by omega) hT
      rw [hds] at this
      rw [List.length_map]
      refine this.mono ?_
      rintro e' w' ⟨rfl, n, os, rfl⟩
      have hms : (d.toList.mergeSort fun x y => !(ltOf cfn) y x).map enc = (l.mergeSort fun a b => decide (key a ≤ key b)).map c := by
        have e1 : (d.toList.mergeSort fun x y => !(ltOf cfn) y x).map Subtype.val = (l.mergeSort fun a b => decide (key a ≤ key b)) := by
          rw [List.map_mergeSort (s := fun a b => decide (key a ≤ key b)) (fun a _ b _ => by rw [hlt]; by_cases hh : key b.1 < key a.1 <;> simp [hh] <;> omega)]
          congr 1
          show List.map Subtype.val l.attach = l
          simp
        rw [← e1, List.map_map]; rfl
      have hsl : (d.toList.mergeSort fun x y => !(ltOf cfn) y x).toArray.size = l.length := by rw [List.size_toArray, List.length_mergeSort]; exact hds
      obtain ⟨cur', q1, q2, q3, q4⟩ := sortW enc k hk (fun x => hc x.1) w g n (d.toList.mergeSort fun x y => !(ltOf cfn) y x).toArray os e cur hb (by rw [hsl, ← hds]; exact hle)
      rw [hsl, List.toList_toArray, hms] at q3
      refine ⟨_, rfl, ⟨?_, .inr ⟨hz, cap, cur', ?_, q1, ?_, ?_, ?_, ?_⟩⟩, by rw [hz]; exact q4⟩
      · exact ws_map' fun x _ => ⟨hc x, h1 x⟩
      · rw [List.length_map, List.length_mergeSort]
      · rw [List.length_map, List.length_mergeSort]; exact hn
      · exact hcap
      · rw [q2]; exact hsz
      · rw [List.length_map, List.length_mergeSort]; exact q3
end
end Go.Sx

end
section
set_option linter.unusedVariables false
set_option linter.unusedSimpArgs false
set_option maxRecDepth 100000
namespace Go.Proofs.Ytopkalcefepilaa.Mx
open Go Go.RowKit Go.Sx Go.Proofs Go.Shelf Go.Lib Go.Sort
def laySub_ren : Go.Shelf.Ren := ⟨fun | 6 => 69 | 15 => 104 | 14 => 103 | 28 => 129 | 29 => 130 | 20 => 121 | 21 => 122 | 22 => 123 | 23 => 124 | 24 => 125 | 25 => 126 | 26 => 127 | 27 => 128 | 46 => 139 | 47 => 140 | 48 => 141 | 49 => 142 | 50 => 143 | 57 => 148 | n => n, fun | 22 => 74 | 24 => 114 | 25 => 124 | 3 => 3 | 39 => 118 | 0 => 0 | 53 => 178 | 55 => 22 | 4 => 4 | 46 => 171 | 45 => 170 | 50 => 175 | 5 => 5 | 9 => 9 | 66 => 183 | 70 => 187 | 76 => 190 | 77 => 30 | n => n, fun | n => n⟩
theorem laySub : Go.Proofs.SlLaysF0.n6 Try.prog laySub_ren := {
  mixed := by kernel_rfl
  f6 := ⟨Try.f69.name, by decide, Try.func69.trans (congrArg some (by kernel_rfl))⟩
  f14 := ⟨Try.f103.name, by decide, Try.func103.trans (congrArg some (by kernel_rfl))⟩
  f15 := Try.func104.trans (congrArg some (by kernel_rfl))
  f20 := ⟨Try.f121.name, by decide, Try.func121.trans (congrArg some (by kernel_rfl))⟩
  f21 := ⟨Try.f122.name, by decide, Try.func122.trans (congrArg some (by kernel_rfl))⟩
  f22 := ⟨Try.f123.name, by decide, Try.func123.trans (congrArg some (by kernel_rfl))⟩
  f23 := ⟨Try.f124.name, by decide, Try.func124.trans (congrArg some (by kernel_rfl))⟩
  f24 := ⟨Try.f125.name, by decide, Try.func125.trans (congrArg some (by kernel_rfl))⟩
  f25 := ⟨Try.f126.name, by decide, Try.func126.trans (congrArg some (by kernel_rfl))⟩
  f26 := ⟨Try.f127.name, by decide, Try.func127.trans (congrArg some (by kernel_rfl))⟩
  f27 := ⟨Try.f128.name, by decide, Try.func128.trans (congrArg some (by kernel_rfl))⟩
  f28 := Try.func129.trans (congrArg some (by kernel_rfl))
  f29 := Try.func130.trans (congrArg some (by kernel_rfl))
  f46 := ⟨Try.f139.name, by decide, Try.func139.trans (congrArg some (by kernel_rfl))⟩
  f47 := Try.func140.trans (congrArg some (by kernel_rfl))
  f48 := Try.func141.trans (congrArg some (by kernel_rfl))
  f49 := ⟨Try.f142.name, by decide, Try.func142.trans (congrArg some (by kernel_rfl))⟩
  f50 := ⟨Try.f143.name, by decide, Try.func143.trans (congrArg some (by kernel_rfl))⟩
  f57 := ⟨Try.f148.name, by decide, Try.func148.trans (congrArg some (by kernel_rfl))⟩
  t0 := Try.underlying0
  a0 := Try.isAgg0
  z0 := Try.sizeOf0
  v0 := Try.zeroValue0
  t3 := Try.underlying3
  a3 := Try.isAgg3
  z3 := Try.sizeOf3
  v3 := Try.zeroValue3
  t4 := Try.underlying4
  a4 := Try.isAgg4
  z4 := Try.sizeOf4
  v4 := Try.zeroValue4
  t5 := Try.underlying5
  a5 := Try.isAgg5
  z5 := Try.sizeOf5
  v5 := Try.zeroValue5
  t9 := Try.underlying9
  a9 := Try.isAgg9
  z9 := Try.sizeOf9
  v9 := Try.zeroValue9
  t22 := Try.underlying74
  a22 := Try.isAgg74
  z22 := Try.sizeOf74
  v22 := Try.zeroValue74
  t25 := Try.underlying124
  a25 := Try.isAgg124
  z25 := Try.sizeOf124
  v25 := Try.zeroValue124
  t39 := Try.underlying118
  a39 := Try.isAgg118
  z39 := Try.sizeOf118
  v39 := Try.zeroValue118
  t45 := Try.underlying170
  a45 := Try.isAgg170
  z45 := Try.sizeOf170
  v45 := Try.zeroValue170
  t46 := Try.underlying171
  a46 := Try.isAgg171
  z46 := Try.sizeOf171
  v46 := Try.zeroValue171
  t50 := Try.underlying175
  a50 := Try.isAgg175
  z50 := Try.sizeOf175
  v50 := Try.zeroValue175
  t53 := Try.underlying178
  a53 := Try.isAgg178
  z53 := Try.sizeOf178
  v53 := Try.zeroValue178
  t55 := Try.underlying22
  a55 := Try.isAgg22
  z55 := Try.sizeOf22
  v55 := Try.zeroValue22
  t66 := Try.underlying183
  a66 := Try.isAgg183
  z66 := Try.sizeOf183
  v66 := Try.zeroValue183
  t70 := Try.underlying187
  a70 := Try.isAgg187
  z70 := Try.sizeOf187
  v70 := Try.zeroValue187
  t76 := Try.underlying190
  a76 := Try.isAgg190
  z76 := Try.sizeOf190
  v76 := Try.zeroValue190
  t77 := Try.underlying30
  a77 := Try.isAgg30
  z77 := Try.sizeOf30
  v77 := Try.zeroValue30 }
theorem w64_sub {a b : Int} (ha : 0 ≤ a ∧ a < 4611686018427387904) (hb : 0 ≤ b ∧ b < 4611686018427387904) : IntKind.i64.wrap (a - b) = a - b := by rw [IntKind.wrap_i64]; omega
set_option maxHeartbeats 1000000 in
theorem cloSub (x y : TSubset) (W : World) (hx : 0 ≤ x.Node ∧ x.Node < 4611686018427387904) (hy : 0 ≤ y.Node ∧ y.Node < 4611686018427387904) : Calls Try.prog 70 #[.agg #[.int .i64 x.Node, .int .i64 x.Minus], .agg #[.int .i64 y.Node, .int .i64 y.Minus]] W fun e w' => e = .returned (.int .i64 (x.Node - y.Node)) ∧ ∃ q os', w' = grow (W.drewN q) os' := by
  have hw := w64_sub hx hy
  go_enter Try.func70, Try.ntmps70
  go_wp2
  go_ret
  exact ⟨rfl, 0, _, by rw [alloc_eq_grow, alloc_eq_grow, grow_grow]; rfl⟩
theorem sortSub_c {l m : List TSubset} (hm : srtBy TSubset.Node l = some m) (w : World) (z g : Nat) (v : Value) (h : Own w z g 114 2 v (l.map TSubset.cs)) : Calls Try.prog 69 [v, .func (.func 70) #[] #[]].toArray w fun e' w' => ∃ v', e' = .returned v' ∧ (Own w' z g 114 2 v (m.map TSubset.cs) ∧ Kz [(z, g)] w w') :=
  sort_gen (ρ := laySub_ren) TSubset.cs 2 (fun _ => rfl) (fun x => TSubset.cs_ones x) (by decide) TSubset.Node 70 laySub (fun _ => by kernel_rfl) (fun _ => by kernel_rfl) (fun _ _ => by kernel_rfl) (fun x y W hx hy => cloSub x y W hx hy) hm w z g 114 v h
end Go.Proofs.Ytopkalcefepilaa.Mx

end
section
set_option linter.unusedVariables false
set_option linter.unusedSimpArgs false
namespace Go.Sx
open Go
theorem fuel_lt {n : Nat} (h : n < 9223372036854775808) : n < FUEL := by unfold FUEL; omega
theorem w64_id {n : Int} (h0 : -9223372036854775808 ≤ n) (h1 : n ≤ 9223372036854775807) : w64 n = n := by
  have := IntKind.wrap_i64 n
  unfold w64; rw [this]; omega
theorem bind_some {α β : Type} (a : α) (f : α → Option β) : Option.bind (some a) f = f a := rfl
theorem getI_some {α : Type} {l : List α} {i : Nat} (h : i < l.length) : getI l (i : Int) = some l[i] := by unfold getI; rw [if_pos (by omega)]; simp [h]
/-- the bytes of a word, the highest first -/
def w8 (x : BitVec 64) : List (BitVec 8) := [byt x 0, byt x 1, byt x 2, byt x 3, byt x 4, byt x 5, byt x 6, byt x 7]
end Go.Sx

end
section
set_option linter.unusedVariables false
set_option linter.unusedSimpArgs false
set_option maxRecDepth 100000
namespace Go.Sx.Pn
open Go Go.Sx
def sch (k d : Nat) : TScheme := ⟨BitVec.ofNat 8 k, (d : Int), 0, ⟨0#64, 0#64, 0#64⟩⟩
def tb_1_0 : Tplan_tables := ⟨sch 1 0, 1, ⟨[1, 0], [], [], []⟩, 1⟩
theorem nt_1_0 : plan_newTables (sch 1 0) = some tb_1_0 := by kernel_rfl
def tb_1_1 : Tplan_tables := ⟨sch 1 1, 1, ⟨[1, 0, 1, 1, 0], [], [], []⟩, 1⟩
theorem nt_1_1 : plan_newTables (sch 1 1) = some tb_1_1 := by kernel_rfl
def tb_1_2 : Tplan_tables := ⟨sch 1 2, 2, ⟨[1, 0, 1, 1, 0, 1, 2, 2, 1, 0], [], [], []⟩, 1⟩
theorem nt_1_2 : plan_newTables (sch 1 2) = some tb_1_2 := by kernel_rfl
def tb_1_3 : Tplan_tables := ⟨sch 1 3, 2, ⟨[1, 0, 1, 1, 0, 1, 2, 2, 1, 0, 1, 3, 4, 4, 4, 3, 2, 1, 0], [], [], []⟩, 1⟩
theorem nt_1_3 : plan_newTables (sch 1 3) = some tb_1_3 := by kernel_rfl
def tb_1_4 : Tplan_tables := ⟨sch 1 4, 2, ⟨[1, 0, 1, 1, 0, 1, 2, 2, 1, 0, 1, 3, 4, 4, 4, 3, 2, 1, 0, 1, 4, 6, 7, 8, 8, 8, 8, 8, 7, 6, 5, 4, 3, 2, 1, 0], [], [], []⟩, 1⟩
theorem nt_1_4 : plan_newTables (sch 1 4) = some tb_1_4 := by kernel_rfl
def tb_1_5 : Tplan_tables := ⟨sch 1 5, 3, ⟨[1, 0, 1, 1, 0, 1, 2, 2, 1, 0, 1, 3, 4, 4, 4, 3, 2, 1, 0, 1, 4, 6, 7, 8, 8, 8, 8, 8, 7, 6, 5, 4, 3, 2, 1, 0, 1, 5, 8, 10, 12, 13, 14, 15, 16, 16, 16, 16, 16, 16, 16, 16, 16, 15, 14, 13, 12, 11, 10, 9, 8, 7, 6, 5, 4, 3, 2, 1, 0], [], [], []⟩, 1⟩
theorem nt_1_5 : plan_newTables (sch 1 5) = some tb_1_5 := by kernel_rfl
def tb_1_6 : Tplan_tables := ⟨sch 1 6, 3, ⟨[1, 0, 1, 1, 0, 1, 2, 2, 1, 0, 1, 3, 4, 4, 4, 3, 2, 1, 0, 1, 4, 6, 7, 8, 8, 8, 8, 8, 7, 6, 5, 4, 3, 2, 1, 0, 1, 5, 8, 10, 12, 13, 14, 15, 16, 16, 16, 16, 16, 16, 16, 16, 16, 15, 14, 13, 12, 11, 10, 9, 8, 7, 6, 5, 4, 3, 2, 1, 0, 1, 6, 10, 13, 16, 18, 20, 22, 24, 25, 26, 27, 28, 29, 30, 31, 32, 32, 32, 32, 32, 32, 32, 32, 32, 32, 32, 32, 32, 32, 32, 32, 32, 31, 30, 29, 28, 27, 26, 25, 24, 23, 22, 21, 20, 19, 18, 17, 16, 15, 14, 13, 12, 11, 10, 9, 8, 7, 6, 5, 4, 3, 2, 1, 0], [], [], []⟩, 1⟩
theorem nt_1_6 : plan_newTables (sch 1 6) = some tb_1_6 := by kernel_rfl
def tb_2_0 : Tplan_tables := ⟨sch 2 0, 1, ⟨[0, 0], [0, 1], [], []⟩, 2⟩
theorem nt_2_0 : plan_newTables (sch 2 0) = some tb_2_0 := by kernel_rfl
def tb_2_1 : Tplan_tables := ⟨sch 2 1, 1, ⟨[0, 0, 0, 1, 0], [0, 1, 0, 1, 1], [], []⟩, 2⟩
theorem nt_2_1 : plan_newTables (sch 2 1) = some tb_2_1 := by kernel_rfl
def tb_2_2 : Tplan_tables := ⟨sch 2 2, 2, ⟨[0, 0, 0, 1, 0, 0, 1, 2, 1, 0], [0, 1, 0, 1, 1, 0, 1, 3, 2, 1], [], []⟩, 2⟩
theorem nt_2_2 : plan_newTables (sch 2 2) = some tb_2_2 := by kernel_rfl
def tb_2_3 : Tplan_tables := ⟨sch 2 3, 2, ⟨[0, 0, 0, 1, 0, 0, 1, 2, 1, 0, 0, 1, 3, 3, 4, 3, 2, 1, 0], [0, 1, 0, 1, 1, 0, 1, 3, 2, 1, 0, 1, 3, 4, 5, 4, 3, 2, 1], [], []⟩, 2⟩
theorem nt_2_3 : plan_newTables (sch 2 3) = some tb_2_3 := by kernel_rfl
def tb_2_4 : Tplan_tables := ⟨sch 2 4, 2, ⟨[0, 0, 0, 1, 0, 0, 1, 2, 1, 0, 0, 1, 3, 3, 4, 3, 2, 1, 0, 0, 1, 3, 4, 6, 6, 7, 7, 8, 7, 6, 5, 4, 3, 2, 1, 0], [0, 1, 0, 1, 1, 0, 1, 3, 2, 1, 0, 1, 3, 4, 5, 4, 3, 2, 1, 0, 1, 3, 5, 7, 7, 8, 8, 9, 8, 7, 6, 5, 4, 3, 2, 1], [], []⟩, 2⟩
theorem nt_2_4 : plan_newTables (sch 2 4) = some tb_2_4 := by kernel_rfl
def tb_2_5 : Tplan_tables := ⟨sch 2 5, 3, ⟨[0, 0, 0, 1, 0, 0, 1, 2, 1, 0, 0, 1, 3, 3, 4, 3, 2, 1, 0, 0, 1, 3, 4, 6, 6, 7, 7, 8, 7, 6, 5, 4, 3, 2, 1, 0, 0, 1, 3, 5, 7, 7, 9, 10, 12, 12, 13, 13, 14, 14, 15, 15, 16, 15, 14, 13, 12, 11, 10, 9, 8, 7, 6, 5, 4, 3, 2, 1, 0], [0, 1, 0, 1, 1, 0, 1, 3, 2, 1, 0, 1, 3, 4, 5, 4, 3, 2, 1, 0, 1, 3, 5, 7, 7, 8, 8, 9, 8, 7, 6, 5, 4, 3, 2, 1, 0, 1, 3, 5, 7, 8, 10, 11, 13, 13, 14, 14, 15, 15, 16, 16, 17, 16, 15, 14, 13, 12, 11, 10, 9, 8, 7, 6, 5, 4, 3, 2, 1], [], []⟩, 2⟩
theorem nt_2_5 : plan_newTables (sch 2 5) = some tb_2_5 := by kernel_rfl
def tb_2_6 : Tplan_tables := ⟨sch 2 6, 3, ⟨[0, 0, 0, 1, 0, 0, 1, 2, 1, 0, 0, 1, 3, 3, 4, 3, 2, 1, 0, 0, 1, 3, 4, 6, 6, 7, 7, 8, 7, 6, 5, 4, 3, 2, 1, 0, 0, 1, 3, 5, 7, 7, 9, 10, 12, 12, 13, 13, 14, 14, 15, 15, 16, 15, 14, 13, 12, 11, 10, 9, 8, 7, 6, 5, 4, 3, 2, 1, 0, 0, 1, 3, 5, 7, 8, 10, 12, 14, 14, 16, 17, 19, 19, 21, 22, 24, 24, 25, 25, 26, 26, 27, 27, 28, 28, 29, 29, 30, 30, 31, 31, 32, 31, 30, 29, 28, 27, 26, 25, 24, 23, 22, 21, 20, 19, 18, 17, 16, 15, 14, 13, 12, 11, 10, 9, 8, 7, 6, 5, 4, 3, 2, 1, 0], [0, 1, 0, 1, 1, 0, 1, 3, 2, 1, 0, 1, 3, 4, 5, 4, 3, 2, 1, 0, 1, 3, 5, 7, 7, 8, 8, 9, 8, 7, 6, 5, 4, 3, 2, 1, 0, 1, 3, 5, 7, 8, 10, 11, 13, 13, 14, 14, 15, 15, 16, 16, 17, 16, 15, 14, 13, 12, 11, 10, 9, 8, 7, 6, 5, 4, 3, 2, 1, 0, 1, 3, 5, 7, 9, 11, 13, 15, 15, 17, 18, 20, 20, 22, 23, 25, 25, 26, 26, 27, 27, 28, 28, 29, 29, 30, 30, 31, 31, 32, 32, 33, 32, 31, 30, 29, 28, 27, 26, 25, 24, 23, 22, 21, 20, 19, 18, 17, 16, 15, 14, 13, 12, 11, 10, 9, 8, 7, 6, 5, 4, 3, 2, 1], [], []⟩, 2⟩
theorem nt_2_6 : plan_newTables (sch 2 6) = some tb_2_6 := by kernel_rfl
def tb_3_0 : Tplan_tables := ⟨sch 3 0, 1, ⟨[0, 0], [0, 1], [0, 1], [0, 2]⟩, 4⟩
theorem nt_3_0 : plan_newTables (sch 3 0) = some tb_3_0 := by kernel_rfl
def tb_3_1 : Tplan_tables := ⟨sch 3 1, 1, ⟨[0, 0, 0, 1, 0], [0, 1, 0, 1, 1], [0, 1, 0, 2, 1], [0, 2, 0, 2, 2]⟩, 4⟩
theorem nt_3_1 : plan_newTables (sch 3 1) = some tb_3_1 := by kernel_rfl
def tb_3_2 : Tplan_tables := ⟨sch 3 2, 2, ⟨[0, 0, 0, 1, 0, 0, 1, 2, 1, 0], [0, 1, 0, 1, 1, 0, 1, 3, 2, 1], [0, 1, 0, 1, 1, 0, 2, 3, 2, 1], [0, 2, 0, 2, 2, 0, 2, 4, 3, 2]⟩, 4⟩
theorem nt_3_2 : plan_newTables (sch 3 2) = some tb_3_2 := by kernel_rfl
def tb_3_3 : Tplan_tables := ⟨sch 3 3, 2, ⟨[0, 0, 0, 1, 0, 0, 2, 2, 1, 0, 0, 1, 4, 4, 4, 3, 2, 1, 0], [0, 1, 0, 1, 1, 0, 1, 3, 2, 1, 0, 1, 5, 5, 5, 4, 3, 2, 1], [0, 1, 0, 2, 1, 0, 2, 3, 2, 1, 0, 2, 5, 5, 5, 4, 3, 2, 1], [0, 2, 0, 2, 2, 0, 2, 4, 3, 2, 0, 2, 6, 6, 6, 5, 4, 3, 2]⟩, 4⟩
theorem nt_3_3 : plan_newTables (sch 3 3) = some tb_3_3 := by kernel_rfl
def tb_3_4 : Tplan_tables := ⟨sch 3 4, 2, ⟨[0, 0, 0, 1, 0, 0, 1, 2, 1, 0, 0, 2, 3, 3, 4, 3, 2, 1, 0, 0, 1, 4, 5, 6, 6, 7, 7, 8, 7, 6, 5, 4, 3, 2, 1, 0], [0, 1, 0, 1, 1, 0, 1, 3, 2, 1, 0, 1, 3, 4, 5, 4, 3, 2, 1, 0, 1, 5, 6, 7, 7, 8, 8, 9, 8, 7, 6, 5, 4, 3, 2, 1], [0, 1, 0, 1, 1, 0, 2, 3, 2, 1, 0, 2, 3, 4, 5, 4, 3, 2, 1, 0, 2, 5, 6, 7, 7, 8, 8, 9, 8, 7, 6, 5, 4, 3, 2, 1], [0, 2, 0, 2, 2, 0, 2, 4, 3, 2, 0, 2, 4, 5, 6, 5, 4, 3, 2, 0, 2, 6, 7, 8, 8, 9, 9, 10, 9, 8, 7, 6, 5, 4, 3, 2]⟩, 4⟩
theorem nt_3_4 : plan_newTables (sch 3 4) = some tb_3_4 := by kernel_rfl
def tb_3_5 : Tplan_tables := ⟨sch 3 5, 3, ⟨[0, 0, 0, 1, 0, 0, 1, 2, 1, 0, 0, 2, 3, 3, 4, 3, 2, 1, 0, 0, 2, 4, 5, 6, 6, 7, 7, 8, 7, 6, 5, 4, 3, 2, 1, 0, 0, 1, 5, 6, 8, 9, 10, 11, 12, 12, 13, 13, 14, 14, 15, 15, 16, 15, 14, 13, 12, 11, 10, 9, 8, 7, 6, 5, 4, 3, 2, 1, 0], [0, 1, 0, 1, 1, 0, 1, 3, 2, 1, 0, 1, 3, 4, 5, 4, 3, 2, 1, 0, 1, 5, 6, 7, 7, 8, 8, 9, 8, 7, 6, 5, 4, 3, 2, 1, 0, 1, 5, 7, 9, 10, 11, 12, 13, 13, 14, 14, 15, 15, 16, 16, 17, 16, 15, 14, 13, 12, 11, 10, 9, 8, 7, 6, 5, 4, 3, 2, 1], [0, 1, 0, 1, 1, 0, 2, 3, 2, 1, 0, 2, 3, 4, 5, 4, 3, 2, 1, 0, 2, 5, 6, 7, 7, 8, 8, 9, 8, 7, 6, 5, 4, 3, 2, 1, 0, 2, 6, 7, 9, 10, 11, 12, 13, 13, 14, 14, 15, 15, 16, 16, 17, 16, 15, 14, 13, 12, 11, 10, 9, 8, 7, 6, 5, 4, 3, 2, 1], [0, 2, 0, 2, 2, 0, 2, 4, 3, 2, 0, 2, 4, 5, 6, 5, 4, 3, 2, 0, 2, 6, 7, 8, 8, 9, 9, 10, 9, 8, 7, 6, 5, 4, 3, 2, 0, 2, 6, 8, 10, 11, 12, 13, 14, 14, 15, 15, 16, 16, 17, 17, 18, 17, 16, 15, 14, 13, 12, 11, 10, 9, 8, 7, 6, 5, 4, 3, 2]⟩, 4⟩
theorem nt_3_5 : plan_newTables (sch 3 5) = some tb_3_5 := by kernel_rfl
def tb_3_6 : Tplan_tables := ⟨sch 3 6, 3, ⟨[0, 0, 0, 1, 0, 0, 1, 2, 1, 0, 0, 1, 3, 3, 4, 3, 2, 1, 0, 0, 2, 4, 4, 6, 6, 7, 7, 8, 7, 6, 5, 4, 3, 2, 1, 0, 0, 2, 4, 6, 8, 8, 10, 10, 12, 12, 13, 13, 14, 14, 15, 15, 16, 15, 14, 13, 12, 11, 10, 9, 8, 7, 6, 5, 4, 3, 2, 1, 0, 0, 1, 5, 7, 9, 10, 12, 14, 16, 16, 18, 18, 20, 20, 22, 22, 24, 24, 25, 25, 26, 26, 27, 27, 28, 28, 29, 29, 30, 30, 31, 31, 32, 31, 30, 29, 28, 27, 26, 25, 24, 23, 22, 21, 20, 19, 18, 17, 16, 15, 14, 13, 12, 11, 10, 9, 8, 7, 6, 5, 4, 3, 2, 1, 0], [0, 1, 0, 1, 1, 0, 1, 3, 2, 1, 0, 1, 3, 4, 5, 4, 3, 2, 1, 0, 1, 3, 5, 7, 7, 8, 8, 9, 8, 7, 6, 5, 4, 3, 2, 1, 0, 1, 5, 7, 9, 9, 11, 11, 13, 13, 14, 14, 15, 15, 16, 16, 17, 16, 15, 14, 13, 12, 11, 10, 9, 8, 7, 6, 5, 4, 3, 2, 1, 0, 1, 5, 7, 9, 11, 13, 15, 17, 17, 19, 19, 21, 21, 23, 23, 25, 25, 26, 26, 27, 27, 28, 28, 29, 29, 30, 30, 31, 31, 32, 32, 33, 32, 31, 30, 29, 28, 27, 26, 25, 24, 23, 22, 21, 20, 19, 18, 17, 16, 15, 14, 13, 12, 11, 10, 9, 8, 7, 6, 5, 4, 3, 2, 1], [0, 1, 0, 1, 1, 0, 1, 3, 2, 1, 0, 2, 4, 4, 5, 4, 3, 2, 1, 0, 2, 4, 5, 7, 7, 8, 8, 9, 8, 7, 6, 5, 4, 3, 2, 1, 0, 2, 5, 7, 9, 9, 11, 11, 13, 13, 14, 14, 15, 15, 16, 16, 17, 16, 15, 14, 13, 12, 11, 10, 9, 8, 7, 6, 5, 4, 3, 2, 1, 0, 2, 6, 8, 10, 11, 13, 15, 17, 17, 19, 19, 21, 21, 23, 23, 25, 25, 26, 26, 27, 27, 28, 28, 29, 29, 30, 30, 31, 31, 32, 32, 33, 32, 31, 30, 29, 28, 27, 26, 25, 24, 23, 22, 21, 20, 19, 18, 17, 16, 15, 14, 13, 12, 11, 10, 9, 8, 7, 6, 5, 4, 3, 2, 1], [0, 2, 0, 2, 2, 0, 2, 4, 3, 2, 0, 2, 4, 5, 6, 5, 4, 3, 2, 0, 2, 4, 6, 8, 8, 9, 9, 10, 9, 8, 7, 6, 5, 4, 3, 2, 0, 2, 6, 8, 10, 10, 12, 12, 14, 14, 15, 15, 16, 16, 17, 17, 18, 17, 16, 15, 14, 13, 12, 11, 10, 9, 8, 7, 6, 5, 4, 3, 2, 0, 2, 6, 8, 10, 12, 14, 16, 18, 18, 20, 20, 22, 22, 24, 24, 26, 26, 27, 27, 28, 28, 29, 29, 30, 30, 31, 31, 32, 32, 33, 33, 34, 33, 32, 31, 30, 29, 28, 27, 26, 25, 24, 23, 22, 21, 20, 19, 18, 17, 16, 15, 14, 13, 12, 11, 10, 9, 8, 7, 6, 5, 4, 3, 2]⟩, 4⟩
theorem nt_3_6 : plan_newTables (sch 3 6) = some tb_3_6 := by kernel_rfl
def tb (k d : Nat) : Tplan_tables := match k, d with
  | 1, 0 => tb_1_0
  | 1, 1 => tb_1_1
  | 1, 2 => tb_1_2
  | 1, 3 => tb_1_3
  | 1, 4 => tb_1_4
  | 1, 5 => tb_1_5
  | 1, 6 => tb_1_6
  | 2, 0 => tb_2_0
  | 2, 1 => tb_2_1
  | 2, 2 => tb_2_2
  | 2, 3 => tb_2_3
  | 2, 4 => tb_2_4
  | 2, 5 => tb_2_5
  | 2, 6 => tb_2_6
  | 3, 0 => tb_3_0
  | 3, 1 => tb_3_1
  | 3, 2 => tb_3_2
  | 3, 3 => tb_3_3
  | 3, 4 => tb_3_4
  | 3, 5 => tb_3_5
  | 3, 6 => tb_3_6
  | _, _ => tb_1_0
theorem nt {k d : Nat} (hk : 1 ≤ k ∧ k ≤ 3) (hd : d ≤ 6) : plan_newTables (sch k d) = some (tb k d) := by
  rcases (show k = 1 ∨ k = 2 ∨ k = 3 by omega) with rfl | rfl | rfl <;> rcases (show d = 0 ∨ d = 1 ∨ d = 2 ∨ d = 3 ∨ d = 4 ∨ d = 5 ∨ d = 6 by omega) with rfl | rfl | rfl | rfl | rfl | rfl | rfl
  · exact nt_1_0
  · exact nt_1_1
  · exact nt_1_2
  · exact nt_1_3
  · exact nt_1_4
  · exact nt_1_5
  · exact nt_1_6
  · exact nt_2_0
  · exact nt_2_1
  · exact nt_2_2
  · exact nt_2_3
  · exact nt_2_4
  · exact nt_2_5
  · exact nt_2_6
  · exact nt_3_0
  · exact nt_3_1
  · exact nt_3_2
  · exact nt_3_3
  · exact nt_3_4
  · exact nt_3_5
  · exact nt_3_6
/-- the worst numbers, and the least numbers of revoked receivers that have them -/
def wl (k d : Nat) : List (Int × Int) := match k, d with
  | 1, 0 => [(1, 0), (1, 0)]
  | 1, 1 => [(1, 0), (1, 0), (1, 0)]
  | 1, 2 => [(1, 0), (2, 1), (2, 1), (2, 1), (2, 1)]
  | 1, 3 => [(1, 0), (3, 1), (4, 2), (4, 2), (4, 2), (4, 2), (4, 2), (4, 2), (4, 2)]
  | 1, 4 => [(1, 0), (4, 1), (6, 2), (7, 3), (8, 4), (8, 4), (8, 4), (8, 4), (8, 4), (8, 4), (8, 4), (8, 4), (8, 4), (8, 4), (8, 4), (8, 4), (8, 4)]
  | 1, 5 => [(1, 0), (5, 1), (8, 2), (10, 3), (12, 4), (13, 5), (14, 6), (15, 7), (16, 8), (16, 8), (16, 8), (16, 8), (16, 8), (16, 8), (16, 8), (16, 8), (16, 8), (16, 8), (16, 8), (16, 8), (16, 8), (16, 8), (16, 8), (16, 8), (16, 8), (16, 8), (16, 8), (16, 8), (16, 8), (16, 8), (16, 8), (16, 8), (16, 8)]
  | 1, 6 => [(1, 0), (6, 1), (10, 2), (13, 3), (16, 4), (18, 5), (20, 6), (22, 7), (24, 8), (25, 9), (26, 10), (27, 11), (28, 12), (29, 13), (30, 14), (31, 15), (32, 16), (32, 16), (32, 16), (32, 16), (32, 16), (32, 16), (32, 16), (32, 16), (32, 16), (32, 16), (32, 16), (32, 16), (32, 16), (32, 16), (32, 16), (32, 16), (32, 16), (32, 16), (32, 16), (32, 16), (32, 16), (32, 16), (32, 16), (32, 16), (32, 16), (32, 16), (32, 16), (32, 16), (32, 16), (32, 16), (32, 16), (32, 16), (32, 16), (32, 16), (32, 16), (32, 16), (32, 16), (32, 16), (32, 16), (32, 16), (32, 16), (32, 16), (32, 16), (32, 16), (32, 16), (32, 16), (32, 16), (32, 16), (32, 16)]
  | 2, 0 => [(1, 0), (1, 0)]
  | 2, 1 => [(1, 0), (1, 0), (1, 0)]
  | 2, 2 => [(1, 0), (1, 0), (2, 2), (2, 2), (2, 2)]
  | 2, 3 => [(1, 0), (1, 0), (3, 2), (3, 2), (4, 4), (4, 4), (4, 4), (4, 4), (4, 4)]
  | 2, 4 => [(1, 0), (1, 0), (3, 2), (4, 3), (6, 4), (6, 4), (7, 6), (7, 6), (8, 8), (8, 8), (8, 8), (8, 8), (8, 8), (8, 8), (8, 8), (8, 8), (8, 8)]
  | 2, 5 => [(1, 0), (1, 0), (3, 2), (5, 3), (7, 4), (7, 4), (9, 6), (10, 7), (12, 8), (12, 8), (13, 10), (13, 10), (14, 12), (14, 12), (15, 14), (15, 14), (16, 16), (16, 16), (16, 16), (16, 16), (16, 16), (16, 16), (16, 16), (16, 16), (16, 16), (16, 16), (16, 16), (16, 16), (16, 16), (16, 16), (16, 16), (16, 16), (16, 16)]
  | 2, 6 => [(1, 0), (1, 0), (3, 2), (5, 3), (7, 4), (8, 5), (10, 6), (12, 7), (14, 8), (14, 8), (16, 10), (17, 11), (19, 12), (19, 12), (21, 14), (22, 15), (24, 16), (24, 16), (25, 18), (25, 18), (26, 20), (26, 20), (27, 22), (27, 22), (28, 24), (28, 24), (29, 26), (29, 26), (30, 28), (30, 28), (31, 30), (31, 30), (32, 32), (32, 32), (32, 32), (32, 32), (32, 32), (32, 32), (32, 32), (32, 32), (32, 32), (32, 32), (32, 32), (32, 32), (32, 32), (32, 32), (32, 32), (32, 32), (32, 32), (32, 32), (32, 32), (32, 32), (32, 32), (32, 32), (32, 32), (32, 32), (32, 32), (32, 32), (32, 32), (32, 32), (32, 32), (32, 32), (32, 32), (32, 32), (32, 32)]
  | 3, 0 => [(1, 0), (1, 0)]
  | 3, 1 => [(1, 0), (1, 0), (1, 0)]
  | 3, 2 => [(1, 0), (1, 0), (2, 2), (2, 2), (2, 2)]
  | 3, 3 => [(1, 0), (1, 0), (4, 2), (4, 2), (4, 2), (4, 2), (4, 2), (4, 2), (4, 2)]
  | 3, 4 => [(1, 0), (1, 0), (4, 2), (5, 3), (6, 4), (6, 4), (7, 6), (7, 6), (8, 8), (8, 8), (8, 8), (8, 8), (8, 8), (8, 8), (8, 8), (8, 8), (8, 8)]
  | 3, 5 => [(1, 0), (1, 0), (5, 2), (6, 3), (8, 4), (9, 5), (10, 6), (11, 7), (12, 8), (12, 8), (13, 10), (13, 10), (14, 12), (14, 12), (15, 14), (15, 14), (16, 16), (16, 16), (16, 16), (16, 16), (16, 16), (16, 16), (16, 16), (16, 16), (16, 16), (16, 16), (16, 16), (16, 16), (16, 16), (16, 16), (16, 16), (16, 16), (16, 16)]
  | 3, 6 => [(1, 0), (1, 0), (5, 2), (7, 3), (9, 4), (10, 5), (12, 6), (14, 7), (16, 8), (16, 8), (18, 10), (18, 10), (20, 12), (20, 12), (22, 14), (22, 14), (24, 16), (24, 16), (25, 18), (25, 18), (26, 20), (26, 20), (27, 22), (27, 22), (28, 24), (28, 24), (29, 26), (29, 26), (30, 28), (30, 28), (31, 30), (31, 30), (32, 32), (32, 32), (32, 32), (32, 32), (32, 32), (32, 32), (32, 32), (32, 32), (32, 32), (32, 32), (32, 32), (32, 32), (32, 32), (32, 32), (32, 32), (32, 32), (32, 32), (32, 32), (32, 32), (32, 32), (32, 32), (32, 32), (32, 32), (32, 32), (32, 32), (32, 32), (32, 32), (32, 32), (32, 32), (32, 32), (32, 32), (32, 32), (32, 32)]
  | _, _ => []
end Go.Sx.Pn

end
section
set_option linter.unusedVariables false
set_option linter.unusedSimpArgs false
namespace Go.Sx
open Go
/-! sizes -/
def strd (d : Nat) : Nat := if d ≤ 1 then 1 else if d ≤ 4 then 2 else 3
theorem pow_le64 {d : Nat} (h : d ≤ 6) : 2 ^ d ≤ 64 := Nat.le_trans (Nat.pow_le_pow_right (by omega) h) (by decide)
/-! special nodes -/
/-! paths -/
end Go.Sx

end
section
set_option linter.unusedVariables false
set_option linter.unusedSimpArgs false
namespace Go.Sx
open Go
def zG : TGroup := TGroup.mk 0#64 0#64 0#64
def vldB (s : TScheme) : Bool := decide (1#8 ≤ s.Kind ∧ s.Kind ≤ 3#8 ∧ 0 ≤ s.Depth ∧ s.Depth ≤ 6 ∧ s.Degree = 0 ∧ s.Group = zG)
theorem vld_depth {s : TScheme} (h : vldB s = true) : ∃ d : Nat, s.Depth = (d : Int) ∧ d ≤ 6 := by
  unfold vldB at h
  have := of_decide_eq_true h
  exact ⟨s.Depth.toNat, by omega, by omega⟩
theorem treeOf_step (s : TScheme) (n : Nat) (a : Int) : fixN (cover_treeOf_L2 s) (n + 1) a = if w64 (a * a) < s.Depth then fixN (cover_treeOf_L2 s) n (w64 (a + 1)) else some (Tcover_tree.mk s.Kind s.Depth a, true) := rfl
theorem treeOf_loop (s : TScheme) {d : Nat} (hd : s.Depth = (d : Int)) (h : d ≤ 6) : fixN (cover_treeOf_L2 s) FUEL 1 = some (Tcover_tree.mk s.Kind (d : Int) (strd d : Int), true) := by
  have e1 : w64 (1 * 1) = 1 := by decide
  have e2 : w64 (1 + 1) = 2 := by decide
  have e3 : w64 (2 * 2) = 4 := by decide
  have e4 : w64 (2 + 1) = 3 := by decide
  have e5 : w64 (3 * 3) = 9 := by decide
  rw [show FUEL = 18446744073709551613 + 3 from rfl, treeOf_step, e1, e2, hd]
  unfold strd
  by_cases h1 : d ≤ 1
  · rw [if_neg (by omega), if_pos h1, ← hd]; rfl
  · rw [if_pos (by omega), if_neg h1, show 18446744073709551613 + 2 = 18446744073709551614 + 1 from rfl, treeOf_step, e3, e4, hd]
    by_cases h2 : d ≤ 4
    · rw [if_neg (by omega), if_pos h2, ← hd]; rfl
    · rw [if_pos (by omega), if_neg h2, show 18446744073709551614 = 18446744073709551613 + 1 from rfl, treeOf_step, e5, hd, if_neg (by omega), ← hd]; rfl
def treeI (s : TScheme) : Tcover_tree := Tcover_tree.mk s.Kind s.Depth (strd s.Depth.toNat : Int)
theorem treeOf_eq (s : TScheme) : cover_treeOf s = some (if vldB s then (treeI s, true) else (Tcover_tree.mk 0#8 0 0, false)) := by
  unfold cover_treeOf cover_treeOf_J1
  by_cases hv : vldB s = true
  · rw [if_pos hv]
    obtain ⟨d, hd, h6⟩ := vld_depth hv
    unfold vldB at hv
    obtain ⟨h1, h2, h3, h4, h5, h7⟩ := of_decide_eq_true hv
    have hs : s = TScheme.mk s.Kind s.Depth 0 (TGroup.mk 0#64 0#64 0#64) := by cases s; simp only at *; rw [h5, h7]; rfl
    rw [if_neg (by rw [BitVec.not_lt]; exact h1), if_neg (by rw [BitVec.not_lt]; exact h2), if_neg (by omega), if_neg (by omega), decide_eq_false (by simpa using hs)]
    simp only [cond_false]
    rw [treeOf_loop s hd h6]
    unfold treeI
    rw [hd, Int.toNat_natCast]
  · rw [if_neg hv]
    have hn : ¬ (1#8 ≤ s.Kind ∧ s.Kind ≤ 3#8 ∧ 0 ≤ s.Depth ∧ s.Depth ≤ 6 ∧ s.Degree = 0 ∧ s.Group = zG) := fun h => hv (by unfold vldB; exact decide_eq_true h)
    by_cases h1 : s.Kind < 1#8
    · rw [if_pos h1]; rfl
    · rw [if_neg h1]
      by_cases h2 : 3#8 < s.Kind
      · rw [if_pos h2]; rfl
      · rw [if_neg h2]
        by_cases h3 : s.Depth < 0
        · rw [if_pos h3]; rfl
        · rw [if_neg h3]
          by_cases h4 : (6 : Int) < s.Depth
          · rw [if_pos h4]; rfl
          · rw [if_neg h4, decide_eq_true (p := s ≠ _)]
            · rfl
            · intro hs
              refine hn ⟨BitVec.not_lt.1 h1, BitVec.not_lt.1 h2, by omega, by omega, ?_, ?_⟩
              · rw [hs]
              · rw [hs]; rfl
/-! the first special node -/
end Go.Sx

end
section
set_option linter.unusedVariables false
set_option linter.unusedSimpArgs false
namespace Go.Sx
open Go
end Go.Sx

end
section
set_option linter.unusedVariables false
set_option linter.unusedSimpArgs false
namespace Go.Sx
open Go
/-! both sides' way in -/
end Go.Sx

end
section
set_option linter.unusedVariables false
set_option linter.unusedSimpArgs false
set_option maxRecDepth 100000
namespace Go.Sx
open Go
end Go.Sx

end
section
set_option linter.unusedVariables false
set_option linter.unusedSimpArgs false
set_option maxRecDepth 100000
namespace Go.Sx
open Go
/-! siblings -/
/-! paths -/
theorem leaf_log {d u : Nat} (hu : u < 2 ^ d) : Nat.log2 (2 ^ d + u) = d := by
  rw [Nat.log2_eq_iff (by have := Nat.two_pow_pos d; omega), Nat.pow_succ]; omega
end Go.Sx

end
section
set_option linter.unusedVariables false
set_option linter.unusedSimpArgs false
set_option maxRecDepth 100000
namespace Go.Sx
open Go
section
variable {d : Nat} {R : List Nat}
/-- receivers -/
def Rcv (d : Nat) (R : List Nat) : Prop := d ≤ 6 ∧ ∀ u ∈ R, u < 2 ^ d
theorem Rcv.leaf (h : Rcv d R) {u : Nat} (hu : u ∈ R) : 1 ≤ 2 ^ d + u ∧ 2 ^ d + u < 128 ∧ Nat.log2 (2 ^ d + u) = d := by
  have := pow_le64 h.1
  have := h.2 u hu
  have := Nat.two_pow_pos d
  exact ⟨by omega, by omega, leaf_log (h.2 u hu)⟩
end
end Go.Sx

end
section
set_option linter.unusedVariables false
set_option linter.unusedSimpArgs false
namespace Go.Sx
open Go
end Go.Sx

end
section
set_option linter.unusedVariables false
set_option linter.unusedSimpArgs false
namespace Go.Sx
open Go
end Go.Sx

end
section
set_option linter.unusedVariables false
set_option linter.unusedSimpArgs false
namespace Go.Sx
open Go
end Go.Sx

end
section
set_option linter.unusedVariables false
set_option linter.unusedSimpArgs false
namespace Go.Sx
open Go
/-! subsets, plainly -/
end Go.Sx

end
section
set_option linter.unusedVariables false
set_option linter.unusedSimpArgs false
namespace Go.Sx
open Go
section
variable {s : TScheme} {d u n m : Nat}
end
/-! lists of receivers -/
theorem getD_some {l : List Int} {j : Nat} (h : j < l.length) : l.getD j 0 = l[j] := by simp [List.getD, h]
end Go.Sx

end
section
set_option linter.unusedVariables false
set_option linter.unusedSimpArgs false
set_option maxRecDepth 100000
namespace Go.Sx
open Go
/-! the hot nodes -/
/-! a round -/
/-! any order -/
end Go.Sx

end
section
set_option linter.unusedVariables false
set_option linter.unusedSimpArgs false
set_option maxRecDepth 100000
namespace Go.Sx.Pn
open Go Go.Sx
theorem check_eq (s : TScheme) : cover_Check s = some (if vldB s then 0 else 30) := by
  unfold cover_Check
  rw [treeOf_eq, bind_some]
  cases vldB s <;> rfl
theorem kd_mem {k d : Nat} (hk : 1 ≤ k ∧ k ≤ 3) (hd : d ≤ 6) : k ∈ [1, 2, 3] ∧ d ∈ List.range 7 := by
  refine ⟨?_, List.mem_range.2 (by omega)⟩
  rcases (show k = 1 ∨ k = 2 ∨ k = 3 by omega) with rfl | rfl | rfl <;> simp
theorem sch_vld {k d : Nat} (hk : 1 ≤ k ∧ k ≤ 3) (hd : d ≤ 6) : vldB (sch k d) = true := by
  unfold vldB sch
  apply decide_eq_true
  refine ⟨?_, ?_, by simp only; omega, by simp only; omega, rfl, rfl⟩ <;> rcases (show k = 1 ∨ k = 2 ∨ k = 3 by omega) with rfl | rfl | rfl <;> (simp only; decide)
theorem vld_sch {s : TScheme} (h : vldB s = true) : ∃ k d : Nat, (1 ≤ k ∧ k ≤ 3) ∧ d ≤ 6 ∧ s = sch k d := by
  obtain ⟨kind, depth, deg, grp⟩ := s
  unfold vldB at h
  obtain ⟨h1, h2, h3, h4, h5, h6⟩ := of_decide_eq_true h
  simp only at h1 h2 h3 h4 h5 h6
  subst h5 h6
  have e1 : (1#8).toNat = 1 := rfl
  have e3 : (3#8).toNat = 3 := rfl
  rw [BitVec.le_def] at h1 h2
  rw [e1] at h1; rw [e3] at h2
  refine ⟨kind.toNat, depth.toNat, by omega, by omega, ?_⟩
  unfold sch
  rw [BitVec.ofNat_toNat, BitVec.setWidth_eq, Int.toNat_of_nonneg (by omega)]; rfl
section
variable {k d r : Nat}
end
end Go.Sx.Pn

end
section
set_option linter.unusedVariables false
set_option linter.unusedSimpArgs false
set_option maxRecDepth 100000
namespace Go.Sx.Pn
open Go Go.Sx
def rwS (k d st : Nat) : List Int := match st with
  | 0 => (tb k d).rows.a0
  | 1 => (tb k d).rows.a1
  | 2 => (tb k d).rows.a2
  | _ => (tb k d).rows.a3
/-- the tables, aas lists of lists -/
def ts (k d : Nat) : List (List (List Int)) := (List.range (if k = 1 then 1 else if k = 2 then 2 else 4)).map fun st => (List.range (d + 1)).map fun h => ((rwS k d st).drop (2 ^ h - 1 + h)).take (2 ^ h + 1)
theorem ptabs_all : ∀ k ∈ [1, 2, 3], ∀ d ∈ List.range 7, fixN (plan_Tables_L1 (sch k d) (tb k d)) FUEL ([], 0) = some (ts k d, 0) := by decide +kernel
theorem rtabs_all : ∀ k ∈ [1, 2, 3], ∀ d ∈ List.range 7, ref10_TablesOf (sch k d) = some (ts k d) := by decide +kernel
theorem ts_dims : ∀ k ∈ [1, 2, 3], ∀ d ∈ List.range 7, (ts k d).length ≤ 4 ∧ ∀ l ∈ ts k d, l.length ≤ 7 ∧ ∀ r ∈ l, r.length ≤ 65 := by decide +kernel
theorem ptables_ok {k d : Nat} (hk : 1 ≤ k ∧ k ≤ 3) (hd : d ≤ 6) : plan_Tables (sch k d) = some (ts k d, 0) := by
  obtain ⟨h1, h2⟩ := kd_mem hk hd
  unfold plan_Tables
  rw [check_eq, bind_some, sch_vld hk hd, if_pos rfl, if_neg (by decide), nt hk hd, bind_some]
  exact ptabs_all k h1 d h2
theorem ptables_no {s : TScheme} (h : vldB s = false) : plan_Tables s = some ([], 30) := by
  unfold plan_Tables
  rw [check_eq, bind_some, h]; rfl
theorem rtables_ok {k d : Nat} (hk : 1 ≤ k ∧ k ≤ 3) (hd : d ≤ 6) : ref10_TablesOf (sch k d) = some (ts k d) := by
  obtain ⟨h1, h2⟩ := kd_mem hk hd
  exact rtabs_all k h1 d h2
theorem rvld_eq (s : TScheme) : ref03_Valid s = some (vldB s) := by
  unfold ref03_Valid vldB zG
  by_cases h1 : 1#8 ≤ s.Kind
  · by_cases h2 : s.Kind ≤ 3#8
    · by_cases h3 : 0 ≤ s.Depth
      · by_cases h4 : s.Depth ≤ 6
        · by_cases h5 : s.Degree = 0
          · simp [h1, h2, h3, h4, h5]
          · simp [h1, h2, h3, h4, h5]
        · simp [h1, h2, h3, h4]
      · simp [h1, h2, h3]
    · simp [h1, h2]
  · simp [h1]
theorem rcheck_eq (s : TScheme) : ref03_Check s = some (if vldB s then 0 else 30) := by
  unfold ref03_Check
  rw [rvld_eq, bind_some]
  cases vldB s <;> rfl
/-- a comparison of two lists, item by item -/
theorem same_loop {α : Type} [DecidableEq α] {p q : List α} (hl : p.length = q.length) (hs : q.length < 1000000) {F : (Int → Option Bool) → Int → Option Bool} {D : Option Bool}
    (hF : ∀ rec (i : Nat) (h : i < p.length), F rec (i : Int) = if p[i] = q[i] then rec (((i + 1 : Nat)) : Int) else some false) (he : ∀ rec, F rec (p.length : Int) = D) :
    ∀ (k i f : Nat), p.length - i = k → i ≤ p.length → k < f → fixN F f (i : Int) = if p.drop i = q.drop i then D else some false
  | k, i, 0, _, _, hf => by omega
  | k, i, f + 1, hk, hi, hf => by
    rw [fix_step]
    by_cases h : i < p.length
    · rw [hF _ i h]
      have h2 : i < q.length := by omega
      rw [List.drop_eq_getElem_cons h, List.drop_eq_getElem_cons h2]
      by_cases hh : p[i] = q[i]
      · rw [if_pos hh, same_loop hl hs hF he (k - 1) (i + 1) f (by omega) (by omega) (by omega), hh]
        by_cases h3 : p.drop (i + 1) = q.drop (i + 1)
        · rw [if_pos h3, if_pos (by rw [h3])]
        · rw [if_neg h3, if_neg (fun e => h3 (List.cons.inj e).2)]
      · rw [if_neg hh, if_neg (fun e => hh (List.cons.inj e).1)]
    · obtain rfl : i = p.length := by omega
      rw [he, List.drop_length, hl, List.drop_length, if_pos rfl]
theorem same_all {α : Type} [DecidableEq α] {p q : List α} (hl : p.length = q.length) (hs : q.length < 1000000) {F : (Int → Option Bool) → Int → Option Bool} {D : Option Bool}
    (hF : ∀ rec (i : Nat) (h : i < p.length), F rec (i : Int) = if p[i] = q[i] then rec (((i + 1 : Nat)) : Int) else some false) (he : ∀ rec, F rec (p.length : Int) = D) :
    fixN F FUEL 0 = if p = q then D else some false := by
  have := same_loop hl hs hF he _ 0 FUEL rfl (by omega) (fuel_lt (by omega))
  simpa using this
theorem len_ne {α : Type} {p q : List α} (h : ¬ p.length = q.length) : ¬ p = q := fun e => h (by rw [e])
theorem ite_dec {p : Prop} [Decidable p] : (if p then some true else some false) = some (decide p) := by by_cases h : p <;> simp [h]
theorem w64_ix {i : Nat} (h : i < 1000000) : w64 ((i : Int) + 1) = ((i + 1 : Nat) : Int) := by rw [w64_id (by omega) (by omega)]; rfl
theorem sints_eq (p q : List Int) (hs : q.length < 1000000) : ref03_SameInts p q = some (decide (p = q)) := by
  unfold ref03_SameInts
  by_cases hl : p.length = q.length
  · rw [if_neg (by omega), same_all hl hs (D := some true) (fun rec i h => ?_) (fun rec => ?_), ite_dec]
    · unfold ref03_SameInts_L1
      rw [if_pos (by omega), getI_some h, bind_some, getI_some (show i < q.length by omega), bind_some, w64_ix (by omega)]
      by_cases hh : p[i] = q[i]
      · rw [if_neg (by simp [hh]), if_pos hh]
      · rw [if_pos hh, if_neg hh]
    · unfold ref03_SameInts_L1; rw [if_neg (by omega)]
  · rw [if_pos (by omega), decide_eq_false (len_ne hl)]
theorem seq_eq (p q : List Int) (hs : q.length < 1000000) : slices_Equal_dd32 p q = some (decide (p = q)) := by
  unfold slices_Equal_dd32
  by_cases hl : p.length = q.length
  · rw [if_neg (by omega), same_all hl hs (D := some true) (fun rec i h => ?_) (fun rec => ?_), ite_dec]
    · unfold slices_Equal_dd32_L1
      rw [if_pos (by omega), getI_some h, bind_some, getI_some (show i < q.length by omega), bind_some, w64_ix (by omega)]
      by_cases hh : p[i] = q[i]
      · rw [if_neg (by simp [hh]), if_pos hh]
      · rw [if_pos hh, if_neg hh]
    · unfold slices_Equal_dd32_L1; rw [if_neg (by omega)]
  · rw [if_pos (by omega), decide_eq_false (len_ne hl)]
theorem seq2_eq (p q : List (List Int)) (hs : q.length < 1000000 ∧ ∀ r ∈ p, r.length < 1000000) (h2 : ∀ r ∈ q, r.length < 1000000) : slices_EqualFunc_2be1_slices_Equal_dd32 p q = some (decide (p = q)) := by
  unfold slices_EqualFunc_2be1_slices_Equal_dd32
  by_cases hl : p.length = q.length
  · rw [if_neg (by omega), same_all hl hs.1 (D := some true) (fun rec i h => ?_) (fun rec => ?_), ite_dec]
    · unfold slices_EqualFunc_2be1_slices_Equal_dd32_L1
      rw [if_pos (by omega), getI_some h, bind_some, getI_some (show i < q.length by omega), bind_some, seq_eq _ _ (h2 _ (List.getElem_mem _)), bind_some, w64_ix (by omega)]
      by_cases hh : p[i] = q[i]
      · rw [decide_eq_true hh, if_pos hh]; rfl
      · rw [decide_eq_false hh, if_neg hh]; rfl
    · unfold slices_EqualFunc_2be1_slices_Equal_dd32_L1; rw [if_neg (by omega)]
  · rw [if_pos (by omega), decide_eq_false (len_ne hl)]
/-- tables of a modest size -/
def Mod3 (q : List (List (List Int))) : Prop := q.length < 1000000 ∧ ∀ l ∈ q, l.length < 1000000 ∧ ∀ r ∈ l, r.length < 1000000
theorem ts_mod {k d : Nat} (hk : 1 ≤ k ∧ k ≤ 3) (hd : d ≤ 6) : Mod3 (ts k d) := by
  obtain ⟨h1, h2⟩ := kd_mem hk hd
  obtain ⟨a, b⟩ := ts_dims k h1 d h2
  exact ⟨by omega, fun l hl => ⟨by have := (b l hl).1; omega, fun r hr => by have := (b l hl).2 r hr; omega⟩⟩
theorem seq3_eq (p q : List (List (List Int))) (hp : Mod3 p) (hq : Mod3 q) : slices_EqualFunc_83f6_plan_CheckTables_1 p q = some (decide (p = q)) := by
  unfold slices_EqualFunc_83f6_plan_CheckTables_1
  by_cases hl : p.length = q.length
  · rw [if_neg (by omega), same_all hl hq.1 (D := some true) (fun rec i h => ?_) (fun rec => ?_), ite_dec]
    · unfold slices_EqualFunc_83f6_plan_CheckTables_1_L1 plan_CheckTables_1
      have q1 := hp.2 _ (List.getElem_mem h)
      have q2 := hq.2 _ (List.getElem_mem (show i < q.length by omega))
      rw [if_pos (by omega), getI_some h, bind_some, getI_some (show i < q.length by omega), bind_some, seq2_eq _ _ ⟨q2.1, q1.2⟩ q2.2, bind_some, bind_some, w64_ix (by have := hq.1; omega)]
      by_cases hh : p[i] = q[i]
      · rw [decide_eq_true hh, if_pos hh]; rfl
      · rw [decide_eq_false hh, if_neg hh]; rfl
    · unfold slices_EqualFunc_83f6_plan_CheckTables_1_L1; rw [if_neg (by omega)]
  · rw [if_pos (by omega), decide_eq_false (len_ne hl)]
theorem stab_eq (p q : List (List (List Int))) (hq : Mod3 q) : ref10_SameTables p q = some (decide (p = q)) := by
  unfold ref10_SameTables
  by_cases hl : p.length = q.length
  · rw [if_neg (by omega), same_all hl hq.1 (D := some true) (fun rec i h => ?_) (fun rec => ?_), ite_dec]
    · unfold ref10_SameTables_L1
      have h2 : i < q.length := by omega
      have q2 := hq.2 _ (List.getElem_mem h2)
      rw [if_pos (by omega), getI_some h, bind_some, getI_some h2, bind_some]
      by_cases hm : p[i].length = q[i].length
      · rw [if_neg (by omega), same_all (p := p[i]) (q := q[i]) hm q2.1 (D := rec (((i + 1 : Nat)) : Int)) (fun rec2 j hj => ?_) (fun rec2 => ?_)]
        · unfold ref10_SameTables_L2
          have hj2 : j < q[i].length := by omega
          rw [getI_some h, bind_some, if_pos (by omega), bind_some, getI_some hj, bind_some, getI_some h2, bind_some, getI_some hj2, bind_some, sints_eq _ _ (q2.2 _ (List.getElem_mem hj2)), bind_some, w64_ix (by omega)]
          by_cases hh : p[i][j] = q[i][j]
          · rw [decide_eq_true hh, if_pos hh]; rfl
          · rw [decide_eq_false hh, if_neg hh]; rfl
        · unfold ref10_SameTables_L2
          rw [getI_some h, bind_some, if_neg (by omega), w64_ix (by have := hq.1; omega)]
      · rw [if_pos (by omega), if_neg (len_ne hm)]
    · unfold ref10_SameTables_L1; rw [if_neg (by omega)]
  · rw [if_pos (by omega), decide_eq_false (len_ne hl)]
end Go.Sx.Pn

end
section
set_option linter.unusedVariables false
set_option linter.unusedSimpArgs false
namespace Go.Sx
open Go Go.Sx.Pn
theorem great_in {l : List (List (List Int))} {i : Nat} (hi : i < l.length) (hi2 : i < 9223372036854775806) (hx : l[i].length * 24 ≤ 140737488351232) (hr : ∀ r ∈ l[i], r.length * 8 ≤ 140737488351232) (rec1 : Int × Int → Option Bool) :
    ∀ (k j f : Nat) (n : Int), l[i].length - j = k → j ≤ l[i].length → k < f → 0 ≤ n → n ≤ 2000 →
      fixN (ref10_Great_L2 l (i : Int) rec1) f (n, (j : Int)) = some true ∨ ∃ m, 0 ≤ m ∧ m ≤ 2000 ∧ n + (l[i].length - j : Nat) ≤ m ∧ (∀ r ∈ l[i].drop j, (r.length : Int) ≤ 2000) ∧ fixN (ref10_Great_L2 l (i : Int) rec1) f (n, (j : Int)) = rec1 (m, ((i + 1 : Nat) : Int))
  | k, j, 0, n, _, _, hf, _, _ => by omega
  | k, j, f + 1, n, hk, hj, hf, h0, h1 => by
    rw [fix_step]
    generalize hrec : fixN (ref10_Great_L2 l (i : Int) rec1) f = rec2
    unfold ref10_Great_L2
    simp only
    rw [getI_some hi, bind_some]
    by_cases h : j < l[i].length
    · have hrl := hr _ (List.getElem_mem h)
      rw [if_pos (by omega), bind_some, getI_some h, bind_some]
      generalize hq : l[i][j].length = q at *
      have e1 : w64 (1 + (q : Int)) = 1 + (q : Int) := w64_id (by omega) (by omega)
      rw [e1, w64_id (n := n + (1 + (q : Int))) (by omega) (by omega), w64_id (n := (j : Int) + 1) (by omega) (by omega)]
      by_cases hb : 2000 < n + (1 + (q : Int))
      · rw [if_pos hb]; exact .inl rfl
      · rw [if_neg hb, ← hrec, show (j : Int) + 1 = ((j + 1 : Nat) : Int) from rfl]
        rcases great_in hi hi2 hx hr rec1 (k - 1) (j + 1) f (n + (1 + (q : Int))) (by omega) (by omega) (by omega) (by omega) (by omega) with a | ⟨m, a1, a2, a3, a4, a5⟩
        · exact .inl a
        · refine .inr ⟨m, a1, a2, by omega, fun r hr' => ?_, a5⟩
          rw [List.drop_eq_getElem_cons h] at hr'
          rcases List.mem_cons.1 hr' with rfl | hr'
          · omega
          · exact a4 r hr'
    · refine .inr ⟨n, h0, h1, by omega, fun r hr' => ?_, ?_⟩
      · rw [List.drop_eq_nil_of_le (by omega)] at hr'; cases hr'
      · rw [if_neg (by omega), w64_id (by omega) (by omega)]; rfl
theorem great_out {l : List (List (List Int))} (hl : l.length * 24 ≤ 140737488351232) (hx : ∀ a ∈ l, (∀ b ∈ a, (∀ c ∈ b, I64 c) ∧ b.length * 8 ≤ 140737488351232) ∧ a.length * 24 ≤ 140737488351232) :
    ∀ (k i f : Nat) (n : Int), l.length - i = k → i ≤ l.length → k < f → 0 ≤ n → n ≤ 2000 →
      fixN (ref10_Great_L1 l) f (n, (i : Int)) = some true ∨ ((∀ x ∈ l.drop i, x.length ≤ 2000 ∧ ∀ r ∈ x, r.length ≤ 2000) ∧ fixN (ref10_Great_L1 l) f (n, (i : Int)) = some (decide ((20 : Int) < (l.length : Int))))
  | k, i, 0, n, _, _, hf, _, _ => by omega
  | k, i, f + 1, n, hk, hi, hf, h0, h1 => by
    rw [fix_step]
    generalize hrec : fixN (ref10_Great_L1 l) f = rec1
    unfold ref10_Great_L1
    simp only
    by_cases h : i < l.length
    · obtain ⟨q1, q2⟩ := hx _ (List.getElem_mem h)
      rw [if_pos (by omega)]
      rcases great_in h (by omega) q2 (fun r hr => (q1 r hr).2) rec1 _ 0 FUEL n rfl (by omega) (fuel_lt (by omega)) h0 h1 with a | ⟨m, a1, a2, a3, a4, a5⟩
      · exact .inl a
      · have e5 : fixN (ref10_Great_L2 l (i : Int) rec1) FUEL (n, 0) = rec1 (m, ((i + 1 : Nat) : Int)) := a5
        rw [e5, ← hrec]
        rcases great_out hl hx (k - 1) (i + 1) f m (by omega) (by omega) (by omega) a1 a2 with b | ⟨b1, b2⟩
        · exact .inl b
        · refine .inr ⟨fun x hx' => ?_, b2⟩
          rw [List.drop_eq_getElem_cons h] at hx'
          rcases List.mem_cons.1 hx' with rfl | hx'
          · exact ⟨by omega, fun r hr => by have := a4 r (by simpa using hr); omega⟩
          · exact b1 x hx'
    · refine .inr ⟨fun x hx' => ?_, ?_⟩
      · rw [List.drop_eq_nil_of_le (by omega)] at hx'; cases hx'
      · rw [if_neg (by omega)]
theorem great_eq {l : List (List (List Int))} (hl : l.length * 24 ≤ 140737488351232) (hx : ∀ a ∈ l, (∀ b ∈ a, (∀ c ∈ b, I64 c) ∧ b.length * 8 ≤ 140737488351232) ∧ a.length * 24 ≤ 140737488351232) : ∃ b, ref10_Great l = some b ∧ (b = false → Mod3 l) := by
  unfold ref10_Great
  rcases great_out hl hx _ 0 FUEL 0 rfl (by omega) (fuel_lt (by omega)) (by omega) (by omega) with a | ⟨a, b⟩
  · exact ⟨true, a, fun h => by cases h⟩
  · refine ⟨_, b, fun h => ⟨by have := of_decide_eq_false h; omega, fun x hx' => ?_⟩⟩
    obtain ⟨c1, c2⟩ := a x (by simpa using hx')
    exact ⟨by omega, fun r hr => by have := c2 r hr; omega⟩
theorem law10_PlanTables_ok (s : TScheme) (l : List (List (List Int))) (hs : s.ok) (hx : ∀ a ∈ l, (∀ b ∈ a, (∀ c ∈ b, I64 c) ∧ b.length * 8 ≤ 140737488351232) ∧ a.length * 24 ≤ 140737488351232) (hl : l.length * 24 ≤ 140737488351232) : law10_PlanTables s l = some true := by
  unfold law10_PlanTables
  obtain ⟨b, h1, h2⟩ := great_eq hl hx
  rw [h1, bind_some]
  cases b with
  | true => rfl
  | false =>
    have hm := h2 rfl
    rw [cond_false]
    unfold ref10_Tables plan_CheckTables ref10_CheckTables
    cases hv : vldB s with
    | false =>
      rw [ptables_no hv, bind_some, rcheck_eq, hv, bind_some]
      simp only [Bool.false_eq_true, if_false, if_true, ne_eq, Int.reduceEq, not_false_eq_true, bind_some, stab_eq _ _ (show Mod3 [] from ⟨by decide, nofun⟩), decide_true, cond_true]
    | true =>
      obtain ⟨k, d, hk, hd, rfl⟩ := vld_sch hv
      have hts := ts_mod hk hd
      rw [ptables_ok hk hd, bind_some, rcheck_eq, sch_vld hk hd, bind_some, if_pos rfl, if_neg (by decide), rtables_ok hk hd, bind_some, bind_some, stab_eq _ _ hts, bind_some, decide_eq_true rfl, cond_true, if_pos rfl, bind_some, if_neg (show ¬ (0 : Int) ≠ 0 by decide), seq3_eq _ _ hts hm, bind_some, bind_some, if_neg (show ¬ (0 : Int) ≠ 0 by decide), bind_some, stab_eq _ _ hts, bind_some]
      by_cases e : l = ts k d
      · rw [decide_eq_true e, decide_eq_true e.symm]; rfl
      · rw [decide_eq_false e, decide_eq_false (fun x => e x.symm)]; rfl
end Go.Sx

end
