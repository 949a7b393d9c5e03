/- Mirrors: Cb. Printed by mx.py. -/
import Derived.Test.YtjdffpglgkefmaaGreatMirE
import Derived.Test.YtjdffpglgkefmaaGreatPln
import Derived.Test.YtjdffpglgkefmaaGreatCrM
set_option linter.unusedVariables false
set_option maxRecDepth 100000
namespace Go.Sx
open Go Go.RowKit


/-- (headend/cover.tree).size -/
def cover_tree_size (p0 : Tcover_tree) : Option (Int) := Option.bind (shG p0.depth) fun n1 => ((some (shlI 1 n1)))

/-- (headend/cover.tree).has -/
def cover_tree_has (p0 : Tcover_tree) (p1 : Int) : Option (Bool) := (if (1 : Int) ≤ p1 then Option.bind (cover_tree_size p0) fun x1 => ((some (decide (p1 < w64 (2 * x1))))) else (some false))

/-- (headend/cover.node).level -/
def cover_node_level (p0 : Int) : Option (Int) := (some (w64 ((lg (un (wd p0))) - 1)))

def cover_node_below_J1 (p0 : Int) (p1 : Int) (a1 : Bool) : Option (Bool) := (bif a1 then (some false) else Option.bind (cover_node_level p0) fun x2 => (Option.bind (cover_node_level p1) fun x3 => (Option.bind (shG (w64 (x2 - x3))) fun n4 => ((some (decide (shrI p0 n4 = p1)))))))

/-- (headend/cover.node).below -/
def cover_node_below (p0 : Int) (p1 : Int) : Option (Bool) := (if p0 < 1 then (cover_node_below_J1 p0 p1 true) else (if p1 < 1 then (cover_node_below_J1 p0 p1 true) else Option.bind (cover_node_level p0) fun x5 => (Option.bind (cover_node_level p1) fun x6 => ((cover_node_below_J1 p0 p1 (decide (x5 < x6)))))))

/-- (headend/cover.tree).special -/
def cover_tree_special (p0 : Tcover_tree) (p1 : Int) : Option (Bool) := Option.bind (cover_node_level p1) fun x1 => (Option.bind (remI x1 p0.stride) fun x2 => ((some (decide (x2 = 0)))))

/-- headend/cover.path -/
def cover_path (p0 : Int) (p1 : Int) : Option (Int × Int) := (some (p0, p1))

/-- (headend/cover.node).toward -/
def cover_node_toward (p0 : Int) (p1 : Int) : Option (Int) := Option.bind (cover_node_level p1) fun x1 => (Option.bind (cover_node_level p0) fun x2 => (Option.bind (shG (w64 ((w64 (x1 - x2)) - 1))) fun n3 => ((some (shrI p1 n3)))))

def cover_path_1_L1 (p2 : Int) (rec1 : (Int) → Option (List Int)) (a2 : Int) : Option (List Int) := (if a2 ≠ p2 then Option.bind (cover_node_toward a2 p2) fun x3 => ((yl x3 ((rec1 x3)))) else (some []))

/-- headend/cover.path$1: what it yields -/
def cover_path_1 (p1 : Int) (p2 : Int) : Option (List Int) := (fixN (cover_path_1_L1 p2) FUEL p1)

def cover_first_cover_path_1_cover_tree_special_D1  (s : Int) : Option (Int) := match s with | a3 => (some 0)

def cover_first_cover_path_1_cover_tree_special_X1_0  (s : Int) : Option (Int) := match s with | a3 => (some a3)

def cover_first_cover_path_1_cover_tree_special_R1 (p1_0 : Tcover_tree) (e4 : Int) (nx1 : (Int) → Option (Int)) (s : Int) : Option (Int) := match s with | a3 => Option.bind (cover_tree_special p1_0 e4) fun x5 => ((bif x5 then (cover_first_cover_path_1_cover_tree_special_X1_0 e4) else (nx1 a3)))

/-- headend/cover.first -/
def cover_first_cover_path_1_cover_tree_special (p0_0 : Int) (p0_1 : Int) (p1_0 : Tcover_tree) : Option (Int) := Option.bind (cover_path_1 p0_0 p0_1) fun l1 => ((itL (cover_first_cover_path_1_cover_tree_special_R1 p1_0) cover_first_cover_path_1_cover_tree_special_D1 l1 0))

/-- (headend/cover.tree).cut -/
def cover_tree_cut (p0 : Tcover_tree) (p1 : Int) (p2 : Int) : Option (Int) := Option.bind (shG (un 1#64)) fun n1 => (Option.bind (cover_path p1 (shrI p2 n1)) fun x2 => (Option.bind (cover_first_cover_path_1_cover_tree_special x2.1 x2.2 p0) fun x3 => ((some x3))))

def cover_tree_subset_J2 (p0 : Tcover_tree) (p1 : TSubset) (a3 : Bool) : Option (Bool) := (bif a3 then (some false) else (if p0.kind = 2#8 then (some true) else Option.bind (cover_tree_special p0 p1.Node) fun x4 => ((bif x4 then (some true) else Option.bind (cover_tree_cut p0 p1.Node p1.Minus) fun x5 => ((some (decide (x5 = 0))))))))

def cover_tree_subset_J1 (p0 : Tcover_tree) (p1 : TSubset) (a2 : Bool) : Option (Bool) := (bif a2 then (if p1.Minus = 0 then (if p0.kind = 1#8 then (some true) else (some (decide (p1.Node = 1)))) else (some false)) else Option.bind (cover_tree_has p0 p1.Minus) fun x6 => ((bif (!x6) then (cover_tree_subset_J2 p0 p1 true) else (if p1.Minus = p1.Node then (cover_tree_subset_J2 p0 p1 true) else Option.bind (cover_node_below p1.Minus p1.Node) fun x7 => ((cover_tree_subset_J2 p0 p1 (!x7)))))))

/-- (headend/cover.tree).subset -/
def cover_tree_subset (p0 : Tcover_tree) (p1 : TSubset) : Option (Bool) := Option.bind (cover_tree_has p0 p1.Node) fun x1 => ((bif (!x1) then (some false) else (if p0.kind = 1#8 then (cover_tree_subset_J1 p0 p1 true) else (cover_tree_subset_J1 p0 p1 (decide (p1.Minus = 0))))))

def cover_enter_L1 (p1 : List TSubset) (x1 : Tcover_tree × Bool) (rec1 : (Int) → Option (Tcover_tree × Int)) (a3 : Int) : Option (Tcover_tree × Int) := (if a3 < (p1.length : Int) then Option.bind (getI p1 a3) fun y4 => (Option.bind (cover_tree_subset x1.1 y4) fun x5 => ((bif (!x5) then (some ((Tcover_tree.mk 0#8 0 0), 31)) else (rec1 (w64 (a3 + 1)))))) else (some (x1.1, 0)))

/-- headend/cover.enter -/
def cover_enter (p0 : TScheme) (p1 : List TSubset) : Option (Tcover_tree × Int) := Option.bind (cover_treeOf p0) fun x1 => ((bif (!x1.2) then (some ((Tcover_tree.mk 0#8 0 0), 30)) else (fixN (cover_enter_L1 p1 x1) FUEL 0)))

/-- headend/cover.nodeKey -/
def cover_nodeKey (p0 : W2) (p1 : Int) : Option (W2) := (some (drv p0 (un8 30#8) (wd p1)))

def cover_descend_J2 (a4 : W2) (nx1 : (W2) → Option (W2)) (a6 : BitVec 8) : Option (W2) := (nx1 (drv a4 (un8 a6) 0#64))

def cover_descend_D1  (s : W2) : Option (W2) := match s with | a4 => (some a4)

def cover_descend_R1  (e5 : Int) (nx1 : (W2) → Option (W2)) (s : W2) : Option (W2) := match s with | a4 => Option.bind (remI e5 2) fun x7 => ((if x7 = 1 then (cover_descend_J2 a4 nx1 32#8) else (cover_descend_J2 a4 nx1 31#8)))

/-- headend/cover.descend -/
def cover_descend (p0 : W2) (p1 : Int) (p2 : Int) : Option (W2) := Option.bind (cover_path p1 p2) fun x1 => (Option.bind (cover_path_1 x1.1 x1.2) fun l2 => ((itL cover_descend_R1 cover_descend_D1 l2 p0)))

/-- headend/cover.middle -/
def cover_middle (p0 : W2) : Option (W2) := (some (drv p0 (un8 33#8) 0#64))

/-- (headend/cover.tree).key -/
def cover_tree_key (p0 : Tcover_tree) (p1 : W2) (p2 : TSubset) : Option (W2) := (if p0.kind = 1#8 then Option.bind (cover_nodeKey p1 p2.Node) fun x1 => ((some x1)) else (if p2.Minus = 0 then (some (drv p1 (un8 34#8) 0#64)) else Option.bind (cover_nodeKey p1 p2.Node) fun x2 => (Option.bind (cover_descend x2 p2.Node p2.Minus) fun x3 => (Option.bind (cover_middle x3) fun x4 => ((some x4))))))

def cover_Seal_L1 (p0 : W2) (p2 : List TSubset) (p3 : W2) (x2 : Tcover_tree × Int) (rec1 : (Int × List TItem) → Option (THeader × Int)) (s1 : Int × List TItem) : Option (THeader × Int) := match s1 with | (a6, a7) => (if a6 < (p2.length : Int) then Option.bind (getI p2 a6) fun y9 => (Option.bind (cover_tree_key x2.1 p0 y9) fun x10 => (Option.bind (appG 32 a7 [(TItem.mk y9 (encr x10 p3))]) fun l11 => ((rec1 (w64 (a6 + 1), l11))))) else (some ((THeader.mk a7 0#64 [] k0 (drv p3 (un8 53#8) 0#64)), 0)))

/-- headend/cover.Seal -/
def cover_Seal (p0 : W2) (p1 : TScheme) (p2 : List TSubset) (p3 : W2) : Option (THeader × Int) := Option.bind (cover_Check p1) fun x1 => ((if x1 ≠ 0 then (some ((THeader.mk [] 0#64 [] k0 k0), x1)) else (if (64 : Int) < (p2.length : Int) then (some ((THeader.mk [] 0#64 [] k0 k0), 4)) else Option.bind (cover_enter p1 p2) fun x2 => ((if x2.2 ≠ 0 then (some ((THeader.mk [] 0#64 [] k0 k0), x2.2)) else (fixN (cover_Seal_L1 p0 p2 p3 x2) FUEL (0, [])))))))

def ref03_Receivers_L1 (p0 : Int) (rec1 : (Int × Int) → Option (Int)) (s1 : Int × Int) : Option (Int) := match s1 with | (a3, a4) => (if a4 < p0 then (rec1 (w64 (2 * a3), w64 (a4 + 1))) else (some a3))

/-- headend/headendref03.Receivers -/
def ref03_Receivers (p0 : Int) : Option (Int) := (fixN (ref03_Receivers_L1 p0) FUEL (1, 0))

/-- headend/headendref03.Node -/
def ref03_Node (p0 : Int) (p1 : Int) : Option (Bool) := (if (1 : Int) ≤ p1 then Option.bind (ref03_Receivers p0) fun x1 => ((some (decide (p1 < w64 (2 * x1))))) else (some false))

def ref03_Below_L1 (p1 : Int) (rec1 : (Int) → Option (Bool)) (a2 : Int) : Option (Bool) := (if p1 < a2 then Option.bind (quoI a2 2) fun x3 => ((rec1 x3)) else (some (decide (a2 = p1))))

/-- headend/headendref03.Below -/
def ref03_Below (p0 : Int) (p1 : Int) : Option (Bool) := (fixN (ref03_Below_L1 p1) FUEL p0)

def ref03_Level_L1  (rec1 : (Int × Int) → Option (Int)) (s1 : Int × Int) : Option (Int) := match s1 with | (a3, a4) => (if (1 : Int) < a3 then Option.bind (quoI a3 2) fun x5 => ((rec1 (x5, w64 (a4 + 1)))) else (some a4))

/-- headend/headendref03.Level -/
def ref03_Level (p0 : Int) : Option (Int) := (fixN (ref03_Level_L1) FUEL (p0, 0))

def ref03_Stride_L1 (p0 : Int) (rec1 : (Int) → Option (Int)) (a2 : Int) : Option (Int) := (if w64 (a2 * a2) < p0 then (rec1 (w64 (a2 + 1))) else (some a2))

/-- headend/headendref03.Stride -/
def ref03_Stride (p0 : Int) : Option (Int) := (fixN (ref03_Stride_L1 p0) FUEL 1)

/-- headend/headendref03.Special -/
def ref03_Special (p0 : Int) (p1 : Int) : Option (Bool) := Option.bind (ref03_Level p1) fun x1 => (Option.bind (ref03_Stride p0) fun x2 => (Option.bind (remI x1 x2) fun x3 => ((some (decide (x3 = 0))))))

def ref03_Path_L1 (p0 : Int) (rec1 : (Int × List Int) → Option (List Int)) (s1 : Int × List Int) : Option (List Int) := match s1 with | (a4, a5) => (if a4 ≠ p0 then Option.bind (appG 8 [a4] a5) fun l7 => (Option.bind (quoI a4 2) fun x8 => ((rec1 (x8, l7)))) else Option.bind (appG 8 [p0] a5) fun l9 => ((some l9)))

/-- headend/headendref03.Path -/
def ref03_Path (p0 : Int) (p1 : Int) : Option (List Int) := (fixN (ref03_Path_L1 p0) FUEL (p1, []))

def ref03_between_L1 (p0 : Int) (x1 : List Int) (rec1 : (Int) → Option (Int)) (a3 : Int) : Option (Int) := (if a3 < w64 ((x1.length : Int) - 1) then Option.bind (getI x1 a3) fun y4 => (Option.bind (ref03_Special p0 y4) fun x5 => ((bif x5 then Option.bind (getI x1 a3) fun y6 => ((some y6)) else (rec1 (w64 (a3 + 1)))))) else (some 0))

/-- headend/headendref03.between -/
def ref03_between (p0 : Int) (p1 : Int) (p2 : Int) : Option (Int) := Option.bind (ref03_Path p1 p2) fun x1 => ((fixN (ref03_between_L1 p0 x1) FUEL 1))

def ref03_IsSubset_J1 (p0 : TScheme) (p1 : TSubset) (a2 : Bool) : Option (Bool) := (bif a2 then (some false) else (if p0.Kind = 2#8 then (some true) else Option.bind (ref03_Special p0.Depth p1.Node) fun x3 => ((bif x3 then (some true) else Option.bind (ref03_between p0.Depth p1.Node p1.Minus) fun x4 => ((some (decide (x4 = 0))))))))

/-- headend/headendref03.IsSubset -/
def ref03_IsSubset (p0 : TScheme) (p1 : TSubset) : Option (Bool) := Option.bind (ref03_Node p0.Depth p1.Node) fun x1 => ((bif (!x1) then (some false) else (if p0.Kind = 1#8 then (some (decide (p1.Minus = 0))) else (if p1.Minus = 0 then (some (decide (p1.Node = 1))) else Option.bind (ref03_Node p0.Depth p1.Minus) fun x5 => ((bif (!x5) then (ref03_IsSubset_J1 p0 p1 true) else (if p1.Minus = p1.Node then (ref03_IsSubset_J1 p0 p1 true) else Option.bind (ref03_Below p1.Minus p1.Node) fun x6 => ((ref03_IsSubset_J1 p0 p1 (!x6))))))))))

/-- headend/headendref03.step -/
def ref03_step (p0 : W2) (p1 : Int) : Option (W2) := Option.bind (remI p1 2) fun x1 => ((if x1 = 0 then (some (drv p0 (un8 31#8) 0#64)) else (some (drv p0 (un8 32#8) 0#64))))

def ref03_down_L1 (x1 : List Int) (rec1 : (Int × W2) → Option (W2)) (s1 : Int × W2) : Option (W2) := match s1 with | (a4, a5) => (if a4 < (x1.length : Int) then Option.bind (getI x1 a4) fun y6 => (Option.bind (ref03_step a5 y6) fun x7 => ((rec1 (w64 (a4 + 1), x7)))) else (some a5))

/-- headend/headendref03.down -/
def ref03_down (p0 : W2) (p1 : Int) (p2 : Int) : Option (W2) := Option.bind (ref03_Path p1 p2) fun x1 => ((fixN (ref03_down_L1 x1) FUEL (1, p0)))

/-- headend/headendref03.label -/
def ref03_label (p0 : W2) (p1 : Int) (p2 : Int) : Option (W2) := Option.bind (ref03_down (drv p0 (un8 30#8) (wd p1)) p1 p2) fun x1 => ((some x1))

/-- headend/headendref03.KeyOf -/
def ref03_KeyOf (p0 : W2) (p1 : TScheme) (p2 : TSubset) : Option (W2) := (if p1.Kind = 1#8 then (some (drv p0 (un8 30#8) (wd p2.Node))) else (if p2.Minus = 0 then (some (drv p0 (un8 34#8) 0#64)) else Option.bind (ref03_label p0 p2.Node p2.Minus) fun x1 => ((some (drv x1 (un8 33#8) 0#64)))))

def ref03_Seal_L2 (p0 : W2) (p1 : TScheme) (p2 : List TSubset) (p3 : W2) (rec2 : (Int × List TItem) → Option (THeader × Int)) (s2 : Int × List TItem) : Option (THeader × Int) := match s2 with | (a9, a10) => (if a9 < (p2.length : Int) then Option.bind (getI p2 a9) fun y12 => (Option.bind (getI p2 a9) fun y13 => (Option.bind (ref03_KeyOf p0 p1 y13) fun x14 => (Option.bind (appG 32 a10 [(TItem.mk y12 (encr x14 p3))]) fun l15 => ((rec2 (w64 (a9 + 1), l15)))))) else (some ((THeader.mk a10 0#64 [] k0 (drv p3 (un8 53#8) 0#64)), 0)))

def ref03_Seal_L1 (p0 : W2) (p1 : TScheme) (p2 : List TSubset) (p3 : W2) (rec1 : (Int) → Option (THeader × Int)) (a3 : Int) : Option (THeader × Int) := (if a3 < (p2.length : Int) then Option.bind (getI p2 a3) fun y4 => (Option.bind (ref03_IsSubset p1 y4) fun x5 => ((bif (!x5) then (some ((THeader.mk [] 0#64 [] k0 k0), 31)) else (rec1 (w64 (a3 + 1)))))) else (fixN (ref03_Seal_L2 p0 p1 p2 p3) FUEL (0, [])))

/-- headend/headendref03.Seal -/
def ref03_Seal (p0 : W2) (p1 : TScheme) (p2 : List TSubset) (p3 : W2) : Option (THeader × Int) := Option.bind (ref03_Valid p1) fun x1 => ((bif (!x1) then (some ((THeader.mk [] 0#64 [] k0 k0), 30)) else (if (64 : Int) < (p2.length : Int) then (some ((THeader.mk [] 0#64 [] k0 k0), 4)) else (fixN (ref03_Seal_L1 p0 p1 p2 p3) FUEL 0))))

/-- headend/cover.Open$1 -/
def cover_Open_1 (p0 : TItem) (p1 : Tcover_tree) : Option (Bool) := Option.bind (cover_tree_subset p1 p0.Subset) fun x1 => ((some (!x1)))

def slices_IndexFunc_c205_cover_Open_1_L1 (p0 : List TItem) (p1_0 : Tcover_tree) (rec1 : (Int) → Option (Int)) (a2 : Int) : Option (Int) := (if a2 < (p0.length : Int) then Option.bind (getI p0 a2) fun y3 => (Option.bind (cover_Open_1 y3 p1_0) fun x4 => ((bif x4 then (some a2) else (rec1 (w64 (a2 + 1)))))) else (some (-1)))

/-- slices.IndexFunc[[]headend/api.Item,headend/api.Item] -/
def slices_IndexFunc_c205_cover_Open_1 (p0 : List TItem) (p1_0 : Tcover_tree) : Option (Int) := (fixN (slices_IndexFunc_c205_cover_Open_1_L1 p0 p1_0) FUEL 0)

/-- slices.ContainsFunc[[]headend/api.Item,headend/api.Item] -/
def slices_ContainsFunc_9968_cover_Open_1 (p0 : List TItem) (p1_0 : Tcover_tree) : Option (Bool) := Option.bind (slices_IndexFunc_c205_cover_Open_1 p0 p1_0) fun x1 => ((some (decide ((0 : Int) ≤ x1))))

def cover_tree_leads_J1 (p1 : TLabel) (p2 : TSubset) (a1 : Bool) : Option (Bool) := (bif a1 then (some (decide (p1.Minus = p2.Minus))) else Option.bind (cover_node_below p1.Minus p1.Node) fun x2 => ((bif x2 then Option.bind (cover_node_below p2.Minus p1.Minus) fun x3 => ((some x3)) else (some false))))

/-- (headend/cover.tree).leads -/
def cover_tree_leads (p0 : Tcover_tree) (p1 : TLabel) (p2 : TSubset) : Option (Bool) := (if p1.Node ≠ p2.Node then (some false) else (if p0.kind = 1#8 then (cover_tree_leads_J1 p1 p2 true) else (cover_tree_leads_J1 p1 p2 (decide (p2.Minus = 0)))))

def cover_tree_find_J2 (p2 : TSubset) (y3 : TLabel) (a5 : Bool) : Option (W2 × Bool) := (bif a5 then (some (y3.Key, true)) else Option.bind (cover_descend y3.Key y3.Minus p2.Minus) fun x6 => (Option.bind (cover_middle x6) fun x7 => ((some (x7, true)))))

def cover_tree_find_L1 (p0 : Tcover_tree) (p1 : TSecret) (p2 : TSubset) (rec1 : (Int) → Option (W2 × Bool)) (a2 : Int) : Option (W2 × Bool) := (if a2 < (p1.Labels.length : Int) then Option.bind (getI p1.Labels a2) fun y3 => (Option.bind (cover_tree_leads p0 y3 p2) fun x4 => ((bif (!x4) then (rec1 (w64 (a2 + 1))) else (if p0.kind = 1#8 then (cover_tree_find_J2 p2 y3 true) else (cover_tree_find_J2 p2 y3 (decide (p2.Minus = 0))))))) else (some (k0, false)))

/-- (headend/cover.tree).find -/
def cover_tree_find (p0 : Tcover_tree) (p1 : TSecret) (p2 : TSubset) : Option (W2 × Bool) := (fixN (cover_tree_find_L1 p0 p1 p2) FUEL 0)

def cover_Open_L2 (p1 : TSecret) (p2 : THeader) (x1 : Tcover_tree × Int) (rec2 : (Int) → Option (W2 × Int)) (a4 : Int) : Option (W2 × Int) := (if a4 < (p2.Items.length : Int) then Option.bind (getI p2.Items a4) fun y5 => (Option.bind (cover_tree_find x1.1 p1 y5.Subset) fun x6 => ((bif x6.2 then (if drv (decr x6.1 y5.Box) (un8 53#8) 0#64 = p2.Check then (some (decr x6.1 y5.Box, 0)) else (rec2 (w64 (a4 + 1)))) else (rec2 (w64 (a4 + 1)))))) else (some (k0, 6)))

def cover_Open_J1 (p1 : TSecret) (p2 : THeader) (x1 : Tcover_tree × Int) (a2 : Bool) : Option (W2 × Int) := (bif a2 then (some (k0, 8)) else (fixN (cover_Open_L2 p1 p2 x1) FUEL 0))

/-- headend/cover.Open -/
def cover_Open (p0 : TScheme) (p1 : TSecret) (p2 : THeader) : Option (W2 × Int) := Option.bind (cover_enter p0 ([] : List TSubset)) fun x1 => ((if x1.2 ≠ 0 then (some (k0, x1.2)) else (if (64 : Int) < (p2.Items.length : Int) then (cover_Open_J1 p1 p2 x1 true) else (if p2.Base ≠ 0#64 then (cover_Open_J1 p1 p2 x1 true) else (if (0 : Int) < (p2.Points.length : Int) then (cover_Open_J1 p1 p2 x1 true) else (if p2.Box ≠ k0 then (cover_Open_J1 p1 p2 x1 true) else Option.bind (slices_ContainsFunc_9968_cover_Open_1 p2.Items x1.1) fun x7 => ((cover_Open_J1 p1 p2 x1 x7))))))))

def ref03_ValidHeader_L2 (p0 : TScheme) (p1 : THeader) (rec2 : (Int) → Option (Bool)) (a3 : Int) : Option (Bool) := (if a3 < (p1.Items.length : Int) then Option.bind (getI p1.Items a3) fun y4 => (Option.bind (ref03_IsSubset p0 y4.Subset) fun x5 => ((bif (!x5) then (some false) else (rec2 (w64 (a3 + 1)))))) else (some true))

def ref03_ValidHeader_J1 (p0 : TScheme) (p1 : THeader) (a1 : Bool) : Option (Bool) := (bif a1 then (some false) else (fixN (ref03_ValidHeader_L2 p0 p1) FUEL 0))

/-- headend/headendref03.ValidHeader -/
def ref03_ValidHeader (p0 : TScheme) (p1 : THeader) : Option (Bool) := (if (64 : Int) < (p1.Items.length : Int) then (ref03_ValidHeader_J1 p0 p1 true) else (if p1.Base ≠ 0#64 then (ref03_ValidHeader_J1 p0 p1 true) else (if (p1.Points.length : Int) ≠ 0 then (ref03_ValidHeader_J1 p0 p1 true) else (ref03_ValidHeader_J1 p0 p1 (decide (p1.Box ≠ k0))))))

def ref03_leads_J1 (p1 : Int) (p2 : Int) (p3 : TSubset) (a1 : Bool) : Option (Bool) := (bif a1 then (if p1 = p3.Node then (some (decide (p2 = p3.Minus))) else (some false)) else (if p1 = p3.Node then (if (1 : Int) ≤ p2 then Option.bind (ref03_Below p2 p1) fun x2 => ((bif x2 then Option.bind (ref03_Below p3.Minus p2) fun x3 => ((some x3)) else (some false))) else (some false)) else (some false)))

/-- headend/headendref03.leads -/
def ref03_leads (p0 : TScheme) (p1 : Int) (p2 : Int) (p3 : TSubset) : Option (Bool) := (if p0.Kind = 1#8 then (ref03_leads_J1 p1 p2 p3 true) else (ref03_leads_J1 p1 p2 p3 (decide (p3.Minus = 0))))

def ref03_Leads_J2 (p2 : TSubset) (y3 : TLabel) (a5 : Bool) : Option (W2 × Bool) := (bif a5 then (some (y3.Key, true)) else Option.bind (ref03_down y3.Key y3.Minus p2.Minus) fun x6 => ((some (drv x6 (un8 33#8) 0#64, true))))

def ref03_Leads_L1 (p0 : TScheme) (p1 : TSecret) (p2 : TSubset) (rec1 : (Int) → Option (W2 × Bool)) (a2 : Int) : Option (W2 × Bool) := (if a2 < (p1.Labels.length : Int) then Option.bind (getI p1.Labels a2) fun y3 => (Option.bind (ref03_leads p0 y3.Node y3.Minus p2) fun x4 => ((bif (!x4) then (rec1 (w64 (a2 + 1))) else (if p0.Kind = 1#8 then (ref03_Leads_J2 p2 y3 true) else (ref03_Leads_J2 p2 y3 (decide (p2.Minus = 0))))))) else (some (k0, false)))

/-- headend/headendref03.Leads -/
def ref03_Leads (p0 : TScheme) (p1 : TSecret) (p2 : TSubset) : Option (W2 × Bool) := (fixN (ref03_Leads_L1 p0 p1 p2) FUEL 0)

def ref02_Value_L1 (p0 : List (BitVec 8)) (rec1 : (BitVec 64 × Int) → Option (BitVec 64)) (s1 : BitVec 64 × Int) : Option (BitVec 64) := match s1 with | (a3, a4) => (if a4 < (p0.length : Int) then Option.bind (getI p0 a4) fun y5 => ((rec1 ((256#64 * a3) + (y5.setWidth 64), w64 (a4 + 1)))) else (some a3))

/-- headend/headendref02.Value -/
def ref02_Value (p0 : List (BitVec 8)) : Option (BitVec 64) := (fixN (ref02_Value_L1 p0) FUEL (0#64, 0))

/-- headend/headendref02.words -/
def ref02_words (p0 : W2) : Option (BitVec 64 × BitVec 64) := Option.bind (ref02_Value (((kby p0).take 8).drop 0)) fun x1 => (Option.bind (ref02_Value (((kby p0).take 16).drop 8)) fun x2 => ((some (x1, x2))))

/-- headend/headendref02.rotr -/
def ref02_rotr (p0 : BitVec 64) (p1 : Int) : Option (BitVec 64) := Option.bind (shG p1) fun n1 => (Option.bind (shG (w64 (64 - p1))) fun n2 => ((some ((p0 >>> n1) ||| (p0 <<< n2)))))

/-- headend/headendref02.rotl -/
def ref02_rotl (p0 : BitVec 64) (p1 : Int) : Option (BitVec 64) := Option.bind (ref02_rotr p0 (w64 (64 - p1))) fun x1 => ((some x1))

def ref02_roundKeys_L1  (rec1 : (BitVec 64 × BitVec 64 × List (BitVec 64) × Int) → Option (List (BitVec 64))) (s1 : BitVec 64 × BitVec 64 × List (BitVec 64) × Int) : Option (List (BitVec 64)) := match s1 with | (a7, a8, a9, a11) => (if a11 < 31 then Option.bind (ref02_rotr a7 8) fun x12 => (Option.bind (ref02_rotl a8 3) fun x13 => (Option.bind (appG 8 a9 [x13 ^^^ ((a8 + x12) ^^^ (wd a11))]) fun l14 => ((rec1 ((a8 + x12) ^^^ (wd a11), x13 ^^^ ((a8 + x12) ^^^ (wd a11)), l14, w64 (a11 + 1)))))) else (some a9))

/-- headend/headendref02.roundKeys -/
def ref02_roundKeys (p0 : W2) : Option (List (BitVec 64)) := Option.bind (ref02_words p0) fun x1 => ((fixN (ref02_roundKeys_L1) FUEL (x1.1, x1.2, [x1.2], 0)))

def ref02_Bytes_L1 (p1 : Int) (rec1 : (BitVec 64 × List (BitVec 8) × Int) → Option (List (BitVec 8))) (s1 : BitVec 64 × List (BitVec 8) × Int) : Option (List (BitVec 8)) := match s1 with | (a5, a6, a8) => (if a8 < p1 then Option.bind (remU a5 256#64) fun x9 => (Option.bind (appG 1 [x9.setWidth 8] a6) fun l10 => (Option.bind (quoU a5 256#64) fun x11 => ((rec1 (x11, l10, w64 (a8 + 1)))))) else (some a6))

/-- headend/headendref02.Bytes -/
def ref02_Bytes (p0 : BitVec 64) (p1 : Int) : Option (List (BitVec 8)) := (fixN (ref02_Bytes_L1 p1) FUEL (p0, [], 0))

def ref02_key_J2 (p0 : List (BitVec 8)) (a3 : Int) (a4 : W2) (rec1 : (Int × W2) → Option (W2)) (a5 : Bool) : Option (W2) := (bif a5 then Option.bind (getI p0 a3) fun y6 => (Option.bind (getI (kby a4) a3) fun y7 => (Option.bind (kset a4 a3 y6) fun x8 => ((rec1 (w64 (a3 + 1), x8))))) else (some a4))

def ref02_key_L1 (p0 : List (BitVec 8)) (rec1 : (Int × W2) → Option (W2)) (s1 : Int × W2) : Option (W2) := match s1 with | (a3, a4) => (if a3 < 16 then (ref02_key_J2 p0 a3 a4 rec1 (decide (a3 < (p0.length : Int)))) else (ref02_key_J2 p0 a3 a4 rec1 false))

/-- headend/headendref02.key -/
def ref02_key (p0 : List (BitVec 8)) : Option (W2) := (fixN (ref02_key_L1 p0) FUEL (0, k0))

/-- headend/headendref02.block -/
def ref02_block (p0 : BitVec 64) (p1 : BitVec 64) : Option (W2) := Option.bind (ref02_Bytes p0 8) fun x1 => (Option.bind (ref02_Bytes p1 8) fun x2 => (Option.bind (appG 1 x1 x2) fun l3 => (Option.bind (ref02_key l3) fun x4 => ((some x4)))))

def ref02_Decrypt_L1 (x2 : List (BitVec 64)) (rec1 : (BitVec 64 × BitVec 64 × Int) → Option (W2)) (s1 : BitVec 64 × BitVec 64 × Int) : Option (W2) := match s1 with | (a6, a7, a8) => (if (0 : Int) ≤ a8 then Option.bind (ref02_rotr (a7 ^^^ a6) 3) fun x9 => (Option.bind (getI x2 a8) fun y10 => (Option.bind (ref02_rotl ((a6 ^^^ y10) - x9) 8) fun x11 => ((rec1 (x11, x9, w64 (a8 - 1)))))) else Option.bind (ref02_block a6 a7) fun x12 => ((some x12)))

/-- headend/headendref02.Decrypt -/
def ref02_Decrypt (p0 : W2) (p1 : W2) : Option (W2) := Option.bind (ref02_words p1) fun x1 => (Option.bind (ref02_roundKeys p0) fun x2 => ((fixN (ref02_Decrypt_L1 x2) FUEL (x1.1, x1.2, 31))))

def ref03_Open_J3 (p2 : THeader) (a4 : Int) (rec1 : (Int) → Option (W2 × Int)) (a9 : W2) : Option (W2 × Int) := (if drv a9 (un8 53#8) 0#64 = p2.Check then (some (a9, 0)) else (rec1 (w64 (a4 + 1))))

def ref03_Open_J2 (p2 : THeader) (a4 : Int) (rec1 : (Int) → Option (W2 × Int)) (a6 : W2) (a7 : Bool) : Option (W2 × Int) := (bif (!a7) then (rec1 (w64 (a4 + 1))) else Option.bind (getI p2.Items a4) fun y10 => (Option.bind (ref02_Decrypt a6 y10.Box) fun x11 => ((ref03_Open_J3 p2 a4 rec1 x11))))

def ref03_Open_L1 (p0 : TScheme) (p1 : TSecret) (p2 : THeader) (rec1 : (Int) → Option (W2 × Int)) (a4 : Int) : Option (W2 × Int) := (if a4 < (p2.Items.length : Int) then Option.bind (getI p2.Items a4) fun y13 => (Option.bind (ref03_Leads p0 p1 y13.Subset) fun x14 => ((ref03_Open_J2 p2 a4 rec1 x14.1 x14.2))) else (some (k0, 6)))

/-- headend/headendref03.Open -/
def ref03_Open (p0 : TScheme) (p1 : TSecret) (p2 : THeader) : Option (W2 × Int) := Option.bind (ref03_Valid p0) fun x1 => ((bif (!x1) then (some (k0, 30)) else Option.bind (ref03_ValidHeader p0 p2) fun x2 => ((bif (!x2) then (some (k0, 8)) else (fixN (ref03_Open_L1 p0 p1 p2) FUEL 0)))))
end Go.Sx
