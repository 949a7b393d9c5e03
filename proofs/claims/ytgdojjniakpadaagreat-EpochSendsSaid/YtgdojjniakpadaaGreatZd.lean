/- Several texts in one: CbM ClM CcM YaM PaM PkM PbM PcM YcM EkM EtM EsM AlM VaM DeM SeM YsM Sn5M OpnSn5 CipA CipB CipC. -/
import Derived.Test.YtgdojjniakpadaaGreatZc
import Derived.Test.YtgdojjniakpadaaGreatRows
import Derived.KernelRfl
import Derived.Test.YtgdojjniakpadaaGreatZb
set_option linter.unusedVariables false
set_option linter.unusedSimpArgs false
section
set_option linter.unusedVariables false
set_option maxRecDepth 100000
namespace Go.Sx
open Go Go.RowKit
/-- (headend/cover.tree).size -/
def cover_tree_size (p0 : Tcover_tree) : Option (Int) := Option.bind (shG p0.depth) fun nn1 => ((some (shlI 1 nn1)))
/-- (headend/cover.tree).has -/
def cover_tree_has (p0 : Tcover_tree) (p1 : Int) : Option (Bool) := (if (1 : Int) ≤ p1 then Option.bind (cover_tree_size p0) fun x1 => ((some (decide (p1 < w64 (2 * x1))))) else (some false))
/-- (headend/cover.node).level -/
def cover_node_level (p0 : Int) : Option (Int) := (some (w64 ((lg (un (wd p0))) - 1)))
def cover_node_below_J1 (p0 : Int) (p1 : Int) (a1 : Bool) : Option (Bool) := (bif a1 then (some false) else Option.bind (cover_node_level p0) fun x2 => (Option.bind (cover_node_level p1) fun x3 => (Option.bind (shG (w64 (x2 - x3))) fun nn4 => ((some (decide (shrI p0 nn4 = p1)))))))
/-- (headend/cover.node).below -/
def cover_node_below (p0 : Int) (p1 : Int) : Option (Bool) := (if p0 < 1 then (cover_node_below_J1 p0 p1 true) else (if p1 < 1 then (cover_node_below_J1 p0 p1 true) else Option.bind (cover_node_level p0) fun x5 => (Option.bind (cover_node_level p1) fun x6 => ((cover_node_below_J1 p0 p1 (decide (x5 < x6)))))))
/-- (headend/cover.tree).special -/
def cover_tree_special (p0 : Tcover_tree) (p1 : Int) : Option (Bool) := Option.bind (cover_node_level p1) fun x1 => (Option.bind (remI x1 p0.stride) fun x2 => ((some (decide (x2 = 0)))))
/-- headend/cover.path -/
def cover_path (p0 : Int) (p1 : Int) : Option (Int × Int) := (some (p0, p1))
/-- (headend/cover.node).toward -/
def cover_node_toward (p0 : Int) (p1 : Int) : Option (Int) := Option.bind (cover_node_level p1) fun x1 => (Option.bind (cover_node_level p0) fun x2 => (Option.bind (shG (w64 ((w64 (x1 - x2)) - 1))) fun nn3 => ((some (shrI p1 nn3)))))
def cover_path_1_L1 (p2 : Int) (rec1 : (Int) → Option (List Int)) (a2 : Int) : Option (List Int) := (if a2 ≠ p2 then Option.bind (cover_node_toward a2 p2) fun x3 => ((yl x3 ((rec1 x3)))) else (some []))
/-- headend/cover.path$1: what it yields -/
def cover_path_1 (p1 : Int) (p2 : Int) : Option (List Int) := (fixN (cover_path_1_L1 p2) FUEL p1)
def cover_first_cover_path_1_cover_tree_special_D1  (s : Int) : Option (Int) := match s with | a3 => (some 0)
def cover_first_cover_path_1_cover_tree_special_X1_0  (s : Int) : Option (Int) := match s with | a3 => (some a3)
def cover_first_cover_path_1_cover_tree_special_R1 (p1_0 : Tcover_tree) (e4 : Int) (nx1 : (Int) → Option (Int)) (s : Int) : Option (Int) := match s with | a3 => Option.bind (cover_tree_special p1_0 e4) fun x5 => ((bif x5 then (cover_first_cover_path_1_cover_tree_special_X1_0 e4) else (nx1 a3)))
/-- headend/cover.first -/
def cover_first_cover_path_1_cover_tree_special (p0_0 : Int) (p0_1 : Int) (p1_0 : Tcover_tree) : Option (Int) := Option.bind (cover_path_1 p0_0 p0_1) fun l1 => ((itL (cover_first_cover_path_1_cover_tree_special_R1 p1_0) cover_first_cover_path_1_cover_tree_special_D1 l1 0))
/-- (headend/cover.tree).cut -/
def cover_tree_cut (p0 : Tcover_tree) (p1 : Int) (p2 : Int) : Option (Int) := Option.bind (shG (un 1#64)) fun nn1 => (Option.bind (cover_path p1 (shrI p2 nn1)) fun x2 => (Option.bind (cover_first_cover_path_1_cover_tree_special x2.1 x2.2 p0) fun x3 => ((some x3))))
def cover_tree_subset_J2 (p0 : Tcover_tree) (p1 : TSubset) (a3 : Bool) : Option (Bool) := (bif a3 then (some false) else (if p0.kind = 2#8 then (some true) else Option.bind (cover_tree_special p0 p1.Node) fun x4 => ((bif x4 then (some true) else Option.bind (cover_tree_cut p0 p1.Node p1.Minus) fun x5 => ((some (decide (x5 = 0))))))))
def cover_tree_subset_J1 (p0 : Tcover_tree) (p1 : TSubset) (a2 : Bool) : Option (Bool) := (bif a2 then (if p1.Minus = 0 then (if p0.kind = 1#8 then (some true) else (some (decide (p1.Node = 1)))) else (some false)) else Option.bind (cover_tree_has p0 p1.Minus) fun x6 => ((bif (!x6) then (cover_tree_subset_J2 p0 p1 true) else (if p1.Minus = p1.Node then (cover_tree_subset_J2 p0 p1 true) else Option.bind (cover_node_below p1.Minus p1.Node) fun x7 => ((cover_tree_subset_J2 p0 p1 (!x7)))))))
/-- (headend/cover.tree).subset -/
def cover_tree_subset (p0 : Tcover_tree) (p1 : TSubset) : Option (Bool) := Option.bind (cover_tree_has p0 p1.Node) fun x1 => ((bif (!x1) then (some false) else (if p0.kind = 1#8 then (cover_tree_subset_J1 p0 p1 true) else (cover_tree_subset_J1 p0 p1 (decide (p1.Minus = 0))))))
def cover_enter_L1 (p1 : List TSubset) (x1 : Tcover_tree × Bool) (rec1 : (Int) → Option (Tcover_tree × Int)) (a3 : Int) : Option (Tcover_tree × Int) := (if a3 < (p1.length : Int) then Option.bind (getI p1 a3) fun y4 => (Option.bind (cover_tree_subset x1.1 y4) fun x5 => ((bif (!x5) then (some ((Tcover_tree.mk 0#8 0 0), 31)) else (rec1 (w64 (a3 + 1)))))) else (some (x1.1, 0)))
/-- headend/cover.enter -/
def cover_enter (p0 : TScheme) (p1 : List TSubset) : Option (Tcover_tree × Int) := Option.bind (cover_treeOf p0) fun x1 => ((bif (!x1.2) then (some ((Tcover_tree.mk 0#8 0 0), 30)) else (fixN (cover_enter_L1 p1 x1) FUEL 0)))
/-- headend/cover.nodeKey -/
def cover_nodeKey (p0 : W2) (p1 : Int) : Option (W2) := (some (drv p0 (un8 30#8) (wd p1)))
def cover_descend_J2 (a4 : W2) (nx1 : (W2) → Option (W2)) (a6 : BitVec 8) : Option (W2) := (nx1 (drv a4 (un8 a6) 0#64))
def cover_descend_D1  (s : W2) : Option (W2) := match s with | a4 => (some a4)
def cover_descend_R1  (e5 : Int) (nx1 : (W2) → Option (W2)) (s : W2) : Option (W2) := match s with | a4 => Option.bind (remI e5 2) fun x7 => ((if x7 = 1 then (cover_descend_J2 a4 nx1 32#8) else (cover_descend_J2 a4 nx1 31#8)))
/-- headend/cover.descend -/
def cover_descend (p0 : W2) (p1 : Int) (p2 : Int) : Option (W2) := Option.bind (cover_path p1 p2) fun x1 => (Option.bind (cover_path_1 x1.1 x1.2) fun l2 => ((itL cover_descend_R1 cover_descend_D1 l2 p0)))
/-- headend/cover.middle -/
def cover_middle (p0 : W2) : Option (W2) := (some (drv p0 (un8 33#8) 0#64))
/-- (headend/cover.tree).key -/
def cover_tree_key (p0 : Tcover_tree) (p1 : W2) (p2 : TSubset) : Option (W2) := (if p0.kind = 1#8 then Option.bind (cover_nodeKey p1 p2.Node) fun x1 => ((some x1)) else (if p2.Minus = 0 then (some (drv p1 (un8 34#8) 0#64)) else Option.bind (cover_nodeKey p1 p2.Node) fun x2 => (Option.bind (cover_descend x2 p2.Node p2.Minus) fun x3 => (Option.bind (cover_middle x3) fun x4 => ((some x4))))))
def cover_Seal_L1 (p0 : W2) (p2 : List TSubset) (p3 : W2) (x2 : Tcover_tree × Int) (rec1 : (Int × List TItem) → Option (THeader × Int)) (s1 : Int × List TItem) : Option (THeader × Int) := match s1 with | (a6, a7) => (if a6 < (p2.length : Int) then Option.bind (getI p2 a6) fun y9 => (Option.bind (cover_tree_key x2.1 p0 y9) fun x10 => (Option.bind (appG 32 a7 [(TItem.mk y9 (encr x10 p3))]) fun l11 => ((rec1 (w64 (a6 + 1), l11))))) else (some ((THeader.mk a7 0#64 [] k0 (drv p3 (un8 53#8) 0#64)), 0)))
/-- headend/cover.Seal -/
def cover_Seal (p0 : W2) (p1 : TScheme) (p2 : List TSubset) (p3 : W2) : Option (THeader × Int) := Option.bind (cover_Check p1) fun x1 => ((if x1 ≠ 0 then (some ((THeader.mk [] 0#64 [] k0 k0), x1)) else (if (64 : Int) < (p2.length : Int) then (some ((THeader.mk [] 0#64 [] k0 k0), 4)) else Option.bind (cover_enter p1 p2) fun x2 => ((if x2.2 ≠ 0 then (some ((THeader.mk [] 0#64 [] k0 k0), x2.2)) else (fixN (cover_Seal_L1 p0 p2 p3 x2) FUEL (0, [])))))))
def ref03_Receivers_L1 (p0 : Int) (rec1 : (Int × Int) → Option (Int)) (s1 : Int × Int) : Option (Int) := match s1 with | (a3, a4) => (if a4 < p0 then (rec1 (w64 (2 * a3), w64 (a4 + 1))) else (some a3))
/-- headend/headendref03.Receivers -/
def ref03_Receivers (p0 : Int) : Option (Int) := (fixN (ref03_Receivers_L1 p0) FUEL (1, 0))
/-- headend/headendref03.Node -/
def ref03_Node (p0 : Int) (p1 : Int) : Option (Bool) := (if (1 : Int) ≤ p1 then Option.bind (ref03_Receivers p0) fun x1 => ((some (decide (p1 < w64 (2 * x1))))) else (some false))
def ref03_Below_L1 (p1 : Int) (rec1 : (Int) → Option (Bool)) (a2 : Int) : Option (Bool) := (if p1 < a2 then Option.bind (quoI a2 2) fun x3 => ((rec1 x3)) else (some (decide (a2 = p1))))
/-- headend/headendref03.Below -/
def ref03_Below (p0 : Int) (p1 : Int) : Option (Bool) := (fixN (ref03_Below_L1 p1) FUEL p0)
def ref03_Level_L1  (rec1 : (Int × Int) → Option (Int)) (s1 : Int × Int) : Option (Int) := match s1 with | (a3, a4) => (if (1 : Int) < a3 then Option.bind (quoI a3 2) fun x5 => ((rec1 (x5, w64 (a4 + 1)))) else (some a4))
/-- headend/headendref03.Level -/
def ref03_Level (p0 : Int) : Option (Int) := (fixN (ref03_Level_L1) FUEL (p0, 0))
def ref03_Stride_L1 (p0 : Int) (rec1 : (Int) → Option (Int)) (a2 : Int) : Option (Int) := (if w64 (a2 * a2) < p0 then (rec1 (w64 (a2 + 1))) else (some a2))
/-- headend/headendref03.Stride -/
def ref03_Stride (p0 : Int) : Option (Int) := (fixN (ref03_Stride_L1 p0) FUEL 1)
/-- headend/headendref03.Special -/
def ref03_Special (p0 : Int) (p1 : Int) : Option (Bool) := Option.bind (ref03_Level p1) fun x1 => (Option.bind (ref03_Stride p0) fun x2 => (Option.bind (remI x1 x2) fun x3 => ((some (decide (x3 = 0))))))
def ref03_Path_L1 (p0 : Int) (rec1 : (Int × List Int) → Option (List Int)) (s1 : Int × List Int) : Option (List Int) := match s1 with | (a4, a5) => (if a4 ≠ p0 then Option.bind (appG 8 [a4] a5) fun l7 => (Option.bind (quoI a4 2) fun x8 => ((rec1 (x8, l7)))) else Option.bind (appG 8 [p0] a5) fun l9 => ((some l9)))
/-- headend/headendref03.Path -/
def ref03_Path (p0 : Int) (p1 : Int) : Option (List Int) := (fixN (ref03_Path_L1 p0) FUEL (p1, []))
def ref03_between_L1 (p0 : Int) (x1 : List Int) (rec1 : (Int) → Option (Int)) (a3 : Int) : Option (Int) := (if a3 < w64 ((x1.length : Int) - 1) then Option.bind (getI x1 a3) fun y4 => (Option.bind (ref03_Special p0 y4) fun x5 => ((bif x5 then Option.bind (getI x1 a3) fun y6 => ((some y6)) else (rec1 (w64 (a3 + 1)))))) else (some 0))
/-- headend/headendref03.between -/
def ref03_between (p0 : Int) (p1 : Int) (p2 : Int) : Option (Int) := Option.bind (ref03_Path p1 p2) fun x1 => ((fixN (ref03_between_L1 p0 x1) FUEL 1))
def ref03_IsSubset_J1 (p0 : TScheme) (p1 : TSubset) (a2 : Bool) : Option (Bool) := (bif a2 then (some false) else (if p0.Kind = 2#8 then (some true) else Option.bind (ref03_Special p0.Depth p1.Node) fun x3 => ((bif x3 then (some true) else Option.bind (ref03_between p0.Depth p1.Node p1.Minus) fun x4 => ((some (decide (x4 = 0))))))))
/-- headend/headendref03.IsSubset -/
def ref03_IsSubset (p0 : TScheme) (p1 : TSubset) : Option (Bool) := Option.bind (ref03_Node p0.Depth p1.Node) fun x1 => ((bif (!x1) then (some false) else (if p0.Kind = 1#8 then (some (decide (p1.Minus = 0))) else (if p1.Minus = 0 then (some (decide (p1.Node = 1))) else Option.bind (ref03_Node p0.Depth p1.Minus) fun x5 => ((bif (!x5) then (ref03_IsSubset_J1 p0 p1 true) else (if p1.Minus = p1.Node then (ref03_IsSubset_J1 p0 p1 true) else Option.bind (ref03_Below p1.Minus p1.Node) fun x6 => ((ref03_IsSubset_J1 p0 p1 (!x6))))))))))
/-- headend/headendref03.step -/
def ref03_step (p0 : W2) (p1 : Int) : Option (W2) := Option.bind (remI p1 2) fun x1 => ((if x1 = 0 then (some (drv p0 (un8 31#8) 0#64)) else (some (drv p0 (un8 32#8) 0#64))))
def ref03_down_L1 (x1 : List Int) (rec1 : (Int × W2) → Option (W2)) (s1 : Int × W2) : Option (W2) := match s1 with | (a4, a5) => (if a4 < (x1.length : Int) then Option.bind (getI x1 a4) fun y6 => (Option.bind (ref03_step a5 y6) fun x7 => ((rec1 (w64 (a4 + 1), x7)))) else (some a5))
/-- headend/headendref03.down -/
def ref03_down (p0 : W2) (p1 : Int) (p2 : Int) : Option (W2) := Option.bind (ref03_Path p1 p2) fun x1 => ((fixN (ref03_down_L1 x1) FUEL (1, p0)))
/-- headend/headendref03.label -/
def ref03_label (p0 : W2) (p1 : Int) (p2 : Int) : Option (W2) := Option.bind (ref03_down (drv p0 (un8 30#8) (wd p1)) p1 p2) fun x1 => ((some x1))
/-- headend/headendref03.KeyOf -/
def ref03_KeyOf (p0 : W2) (p1 : TScheme) (p2 : TSubset) : Option (W2) := (if p1.Kind = 1#8 then (some (drv p0 (un8 30#8) (wd p2.Node))) else (if p2.Minus = 0 then (some (drv p0 (un8 34#8) 0#64)) else Option.bind (ref03_label p0 p2.Node p2.Minus) fun x1 => ((some (drv x1 (un8 33#8) 0#64)))))
def ref03_Seal_L2 (p0 : W2) (p1 : TScheme) (p2 : List TSubset) (p3 : W2) (rec2 : (Int × List TItem) → Option (THeader × Int)) (s2 : Int × List TItem) : Option (THeader × Int) := match s2 with | (a9, a10) => (if a9 < (p2.length : Int) then Option.bind (getI p2 a9) fun y12 => (Option.bind (getI p2 a9) fun y13 => (Option.bind (ref03_KeyOf p0 p1 y13) fun x14 => (Option.bind (appG 32 a10 [(TItem.mk y12 (encr x14 p3))]) fun l15 => ((rec2 (w64 (a9 + 1), l15)))))) else (some ((THeader.mk a10 0#64 [] k0 (drv p3 (un8 53#8) 0#64)), 0)))
def ref03_Seal_L1 (p0 : W2) (p1 : TScheme) (p2 : List TSubset) (p3 : W2) (rec1 : (Int) → Option (THeader × Int)) (a3 : Int) : Option (THeader × Int) := (if a3 < (p2.length : Int) then Option.bind (getI p2 a3) fun y4 => (Option.bind (ref03_IsSubset p1 y4) fun x5 => ((bif (!x5) then (some ((THeader.mk [] 0#64 [] k0 k0), 31)) else (rec1 (w64 (a3 + 1)))))) else (fixN (ref03_Seal_L2 p0 p1 p2 p3) FUEL (0, [])))
/-- headend/headendref03.Seal -/
def ref03_Seal (p0 : W2) (p1 : TScheme) (p2 : List TSubset) (p3 : W2) : Option (THeader × Int) := Option.bind (ref03_Valid p1) fun x1 => ((bif (!x1) then (some ((THeader.mk [] 0#64 [] k0 k0), 30)) else (if (64 : Int) < (p2.length : Int) then (some ((THeader.mk [] 0#64 [] k0 k0), 4)) else (fixN (ref03_Seal_L1 p0 p1 p2 p3) FUEL 0))))
def ref02_Value_L1 (p0 : List (BitVec 8)) (rec1 : (BitVec 64 × Int) → Option (BitVec 64)) (s1 : BitVec 64 × Int) : Option (BitVec 64) := match s1 with | (a3, a4) => (if a4 < (p0.length : Int) then Option.bind (getI p0 a4) fun y5 => ((rec1 ((256#64 * a3) + (y5.setWidth 64), w64 (a4 + 1)))) else (some a3))
/-- headend/headendref02.Value -/
def ref02_Value (p0 : List (BitVec 8)) : Option (BitVec 64) := (fixN (ref02_Value_L1 p0) FUEL (0#64, 0))
/-- headend/headendref02.words -/
def ref02_words (p0 : W2) : Option (BitVec 64 × BitVec 64) := Option.bind (ref02_Value (((kby p0).take 8).drop 0)) fun x1 => (Option.bind (ref02_Value (((kby p0).take 16).drop 8)) fun x2 => ((some (x1, x2))))
def ref02_Bytes_L1 (p1 : Int) (rec1 : (BitVec 64 × List (BitVec 8) × Int) → Option (List (BitVec 8))) (s1 : BitVec 64 × List (BitVec 8) × Int) : Option (List (BitVec 8)) := match s1 with | (a5, a6, a8) => (if a8 < p1 then Option.bind (remU a5 256#64) fun x9 => (Option.bind (appG 1 [x9.setWidth 8] a6) fun l10 => (Option.bind (quoU a5 256#64) fun x11 => ((rec1 (x11, l10, w64 (a8 + 1)))))) else (some a6))
/-- headend/headendref02.Bytes -/
def ref02_Bytes (p0 : BitVec 64) (p1 : Int) : Option (List (BitVec 8)) := (fixN (ref02_Bytes_L1 p1) FUEL (p0, [], 0))
def ref02_key_J2 (p0 : List (BitVec 8)) (a3 : Int) (a4 : W2) (rec1 : (Int × W2) → Option (W2)) (a5 : Bool) : Option (W2) := (bif a5 then Option.bind (getI p0 a3) fun y6 => (Option.bind (getI (kby a4) a3) fun y7 => (Option.bind (kset a4 a3 y6) fun x8 => ((rec1 (w64 (a3 + 1), x8))))) else (some a4))
def ref02_key_L1 (p0 : List (BitVec 8)) (rec1 : (Int × W2) → Option (W2)) (s1 : Int × W2) : Option (W2) := match s1 with | (a3, a4) => (if a3 < 16 then (ref02_key_J2 p0 a3 a4 rec1 (decide (a3 < (p0.length : Int)))) else (ref02_key_J2 p0 a3 a4 rec1 false))
/-- headend/headendref02.key -/
def ref02_key (p0 : List (BitVec 8)) : Option (W2) := (fixN (ref02_key_L1 p0) FUEL (0, k0))
end Go.Sx

end
section
set_option linter.unusedVariables false
set_option maxRecDepth 100000
namespace Go.Sx
open Go Go.RowKit
/-- (headend/cover.tree).leaf -/
def cover_tree_leaf (p0 : Tcover_tree) (p1 : Int) : Option (Int) := Option.bind (cover_tree_size p0) fun x1 => ((some (w64 (x1 + p1))))
/-- (headend/cover.node).sibling -/
def cover_node_sibling (p0 : Int) : Option (Int) := (some (bitI .xor p0 1))
/-- (headend/cover.tree).receiver -/
def cover_tree_receiver (p0 : Tcover_tree) (p1 : Int) : Option (Bool) := (if (0 : Int) ≤ p1 then Option.bind (cover_tree_size p0) fun x1 => ((some (decide (p1 < x1)))) else (some false))
def ref03_SecretOf_J3 (x1 : List TSubset) (a5 : Int) (a6 : List TLabel) (rec1 : (Int × List TLabel) → Option (TSecret)) (a10 : W2) : Option (TSecret) := Option.bind (getI x1 a5) fun y11 => (Option.bind (getI x1 a5) fun y12 => (Option.bind (appG 32 a6 [(TLabel.mk y11.Node y12.Minus a10)]) fun l13 => ((rec1 (w64 (a5 + 1), l13)))))
def ref03_SecretOf_J2 (p0 : W2) (x1 : List TSubset) (a5 : Int) (a6 : List TLabel) (rec1 : (Int × List TLabel) → Option (TSecret)) (a9 : W2) : Option (TSecret) := Option.bind (getI x1 a5) fun y14 => ((if y14.Minus ≠ 0 then Option.bind (getI x1 a5) fun y15 => (Option.bind (getI x1 a5) fun y16 => (Option.bind (ref03_label p0 y15.Node y16.Minus) fun x17 => ((ref03_SecretOf_J3 x1 a5 a6 rec1 x17)))) else (ref03_SecretOf_J3 x1 a5 a6 rec1 a9)))
def ref03_SecretOf_L1 (p0 : W2) (p1 : TScheme) (p2 : Int) (x1 : List TSubset) (rec1 : (Int × List TLabel) → Option (TSecret)) (s1 : Int × List TLabel) : Option (TSecret) := match s1 with | (a5, a6) => (if a5 < (x1.length : Int) then Option.bind (getI x1 a5) fun y18 => (Option.bind (ref03_KeyOf p0 p1 y18) fun x19 => ((ref03_SecretOf_J2 p0 x1 a5 a6 rec1 x19))) else (some (TSecret.mk p2 a6 (TPoint.mk 0#64 0#64))))
end Go.Sx

end
section
set_option linter.unusedVariables false
set_option maxRecDepth 100000
namespace Go.Sx
open Go Go.RowKit
noncomputable section
def cover_tree_list_J2 (a2 : Int) (rec1 : (Int) → Option (Bool)) (a4 : Bool) : Option (Bool) := (bif a4 then (some false) else (rec1 (w64 (a2 + 1))))
def cover_tree_list_L1 (p0 : Tcover_tree) (p1 : List Int) (rec1 : (Int) → Option (Bool)) (a2 : Int) : Option (Bool) := (if a2 < (p1.length : Int) then Option.bind (getI p1 a2) fun y3 => (Option.bind (cover_tree_receiver p0 y3) fun x5 => ((bif (!x5) then (cover_tree_list_J2 a2 rec1 true) else (if (0 : Int) < a2 then Option.bind (getI p1 (w64 (a2 - 1))) fun y6 => ((cover_tree_list_J2 a2 rec1 (decide (y3 ≤ y6)))) else (cover_tree_list_J2 a2 rec1 false))))) else (some true))
/-- (headend/cover.tree).list -/
def cover_tree_list (p0 : Tcover_tree) (p1 : List Int) : Option (Bool) := (fixN (cover_tree_list_L1 p0 p1) FUEL 0)
/-- headend/cover.Cover$1 -/
def cover_Cover_1 (p0 : Int) (p1 : Int) (p2 : List TSubset) : Option (List TSubset) := Option.bind (appG 16 p2 [(TSubset.mk p0 p1)]) fun l1 => ((some l1))
def cover_Cover_L2 (a5 : Int) (rec1 : (Int × List Int) → Option (List TSubset × Int)) (rec2 : (Int × List Int) → Option (List TSubset × Int)) (s2 : Int × List Int) : Option (List TSubset × Int) := match s2 with | (a11, a12) => (if (0 : Int) < a11 then Option.bind (shG (un 1#64)) fun nn13 => ((rec2 (shrI a11 nn13, insS a12 a11))) else (rec1 (w64 (a5 + 1), a12)))
def cover_Cover_J4 (a16 : List TSubset) (nx3 : (List TSubset) → Option (List TSubset × Int)) (k18 : Int) (a20 : Bool) : Option (List TSubset × Int) := (bif a20 then Option.bind (cover_node_sibling k18) fun x21 => (Option.bind (cover_Cover_1 x21 0 a16) fun x22 => ((nx3 x22))) else (nx3 a16))
def cover_Cover_J7 (nx3 : (List TSubset) → Option (List TSubset × Int)) (a26 : Int) (a27 : Int) (a28 : List TSubset) : Option (List TSubset × Int) := Option.bind (cover_Cover_1 a27 a26 a28) fun x30 => ((nx3 x30))
def cover_Cover_J8 (a16 : List TSubset) (nx3 : (List TSubset) → Option (List TSubset × Int)) (k18 : Int) (a26 : Int) (x31 : Int) (a32 : Bool) : Option (List TSubset × Int) := (bif a32 then Option.bind (cover_Cover_1 k18 x31 a16) fun x33 => ((cover_Cover_J7 nx3 a26 x31 x33)) else (cover_Cover_J7 nx3 a26 k18 a16))
def cover_Cover_L6 (x1 : Tcover_tree × Int) (a6 : List Int) (a16 : List TSubset) (nx3 : (List TSubset) → Option (List TSubset × Int)) (k18 : Int) (rec6 : (Int) → Option (List TSubset × Int)) (a26 : Int) : Option (List TSubset × Int) := (bif ((decide ((w64 (2 * a26)) ∈ a6)) != (decide ((w64 ((w64 (2 * a26)) + 1)) ∈ a6))) then (if ¬ ((w64 (a26 * 2)) ∈ a6) then (rec6 (w64 ((w64 (a26 * 2)) + 1))) else (rec6 (w64 (a26 * 2)))) else (if a26 = k18 then (nx3 a16) else Option.bind (cover_tree_cut x1.1 k18 a26) fun x31 => ((if x31 ≠ 0 then (if x1.1.kind = 3#8 then Option.bind (cover_tree_special x1.1 k18) fun x34 => ((cover_Cover_J8 a16 nx3 k18 a26 x31 (!x34))) else (cover_Cover_J8 a16 nx3 k18 a26 x31 false)) else (cover_Cover_J8 a16 nx3 k18 a26 x31 false)))))
def cover_Cover_J5 (x1 : Tcover_tree × Int) (a6 : List Int) (a16 : List TSubset) (nx3 : (List TSubset) → Option (List TSubset × Int)) (k18 : Int) (a24 : Bool) : Option (List TSubset × Int) := (bif a24 then (nx3 a16) else (fixN (cover_Cover_L6 x1 a6 a16 nx3 k18) FUEL k18))
def cover_Cover_E3  (a16 : List TSubset) : Option (List TSubset × Int) := Option.bind (srtBy TSubset.Node a16) fun l19 => ((some (l19, 0)))
def cover_Cover_S3 (x1 : Tcover_tree × Int) (a6 : List Int) (k18 : Int) (nx3 : (List TSubset) → Option (List TSubset × Int)) (a16 : List TSubset) : Option (List TSubset × Int) := (if x1.1.kind = 1#8 then (if (1 : Int) < k18 then Option.bind (cover_node_sibling k18) fun x23 => ((cover_Cover_J4 a16 nx3 k18 (decide (¬ (x23 ∈ a6))))) else (cover_Cover_J4 a16 nx3 k18 false)) else (if (1 : Int) < k18 then Option.bind (cover_node_sibling k18) fun x35 => ((cover_Cover_J5 x1 a6 a16 nx3 k18 (decide (¬ (x35 ∈ a6))))) else (cover_Cover_J5 x1 a6 a16 nx3 k18 false)))
def cover_Cover_L1 (p1 : List Int) (x1 : Tcover_tree × Int) (rec1 : (Int × List Int) → Option (List TSubset × Int)) (s1 : Int × List Int) : Option (List TSubset × Int) := match s1 with | (a5, a6) => (if a5 < (p1.length : Int) then Option.bind (getI p1 a5) fun y7 => (Option.bind (cover_tree_leaf x1.1 y7) fun x8 => ((fixN (cover_Cover_L2 a5 rec1) FUEL (x8, a6)))) else (rngM (cover_Cover_S3 x1 a6) cover_Cover_E3 FUEL a6 []))
/-- headend/cover.Cover -/
def cover_Cover (p0 : TScheme) (p1 : List Int) : Option (List TSubset × Int) := Option.bind (cover_enter p0 ([] : List TSubset)) fun x1 => ((if x1.2 ≠ 0 then (some ([], x1.2)) else Option.bind (cover_tree_list x1.1 p1) fun x2 => ((bif (!x2) then (some ([], 2)) else (if (p1.length : Int) = 0 then (some ([(TSubset.mk 1 0)], 0)) else (fixN (cover_Cover_L1 p1 x1) FUEL (0, [])))))))
def ref03_IsList_J2 (a2 : Int) (rec1 : (Int) → Option (Bool)) (a3 : Bool) : Option (Bool) := (bif a3 then (some false) else (rec1 (w64 (a2 + 1))))
def ref03_IsList_L1 (p0 : Int) (p1 : List Int) (rec1 : (Int) → Option (Bool)) (a2 : Int) : Option (Bool) := (if a2 < (p1.length : Int) then Option.bind (getI p1 a2) fun y4 => ((if y4 < 0 then (ref03_IsList_J2 a2 rec1 true) else Option.bind (getI p1 a2) fun y5 => (Option.bind (ref03_Receivers p0) fun x6 => ((if x6 ≤ y5 then (ref03_IsList_J2 a2 rec1 true) else (if (0 : Int) < a2 then Option.bind (getI p1 a2) fun y7 => (Option.bind (getI p1 (w64 (a2 - 1))) fun y8 => ((ref03_IsList_J2 a2 rec1 (decide (y7 ≤ y8))))) else (ref03_IsList_J2 a2 rec1 false))))))) else (some true))
/-- headend/headendref03.IsList -/
def ref03_IsList (p0 : Int) (p1 : List Int) : Option (Bool) := (fixN (ref03_IsList_L1 p0 p1) FUEL 0)
def ref03_hot_L1 (p0 : Int) (p1 : List Int) (p2 : Int) (rec1 : (Int) → Option (Bool)) (a2 : Int) : Option (Bool) := (if a2 < (p1.length : Int) then Option.bind (getI p1 a2) fun y3 => (Option.bind (ref03_Receivers p0) fun x4 => (Option.bind (ref03_Below (w64 (x4 + y3)) p2) fun x5 => ((bif x5 then (some true) else (rec1 (w64 (a2 + 1))))))) else (some false))
/-- headend/headendref03.hot -/
def ref03_hot (p0 : Int) (p1 : List Int) (p2 : Int) : Option (Bool) := (fixN (ref03_hot_L1 p0 p1 p2) FUEL 0)
def ref03_foot_J2 (p0 : Int) (p1 : List Int) (a2 : Int) (rec1 : (Int) → Option (Int)) (a3 : Bool) : Option (Int) := (bif a3 then Option.bind (ref03_hot p0 p1 (w64 (2 * a2))) fun x4 => ((bif x4 then (rec1 (w64 (2 * a2))) else (rec1 (w64 ((w64 (2 * a2)) + 1))))) else (some a2))
def ref03_foot_L1 (p0 : Int) (p1 : List Int) (rec1 : (Int) → Option (Int)) (a2 : Int) : Option (Int) := Option.bind (ref03_Receivers p0) fun x5 => ((if a2 < x5 then Option.bind (ref03_hot p0 p1 (w64 (2 * a2))) fun x6 => (Option.bind (ref03_hot p0 p1 (w64 ((w64 (2 * a2)) + 1))) fun x7 => ((ref03_foot_J2 p0 p1 a2 rec1 (x6 != x7)))) else (ref03_foot_J2 p0 p1 a2 rec1 false)))
/-- headend/headendref03.foot -/
def ref03_foot (p0 : Int) (p1 : List Int) (p2 : Int) : Option (Int) := (fixN (ref03_foot_L1 p0 p1) FUEL p2)
def ref03_insert_J2 (p0 : List TSubset) (p1 : TSubset) (a2 : Int) (rec1 : (Int) → Option (List TSubset)) (a3 : Bool) : Option (List TSubset) := (bif a3 then (rec1 (w64 (a2 + 1))) else Option.bind (sliG p0 0 a2) fun l4 => (Option.bind (appG 16 [] l4) fun l5 => (Option.bind (appG 16 l5 [p1]) fun l6 => (Option.bind (sliG p0 a2 (p0.length : Int)) fun l7 => (Option.bind (appG 16 l6 l7) fun l8 => ((some l8)))))))
def ref03_insert_L1 (p0 : List TSubset) (p1 : TSubset) (rec1 : (Int) → Option (List TSubset)) (a2 : Int) : Option (List TSubset) := (if a2 < (p0.length : Int) then Option.bind (getI p0 a2) fun y9 => ((ref03_insert_J2 p0 p1 a2 rec1 (decide (y9.Node < p1.Node)))) else (ref03_insert_J2 p0 p1 a2 rec1 false))
/-- headend/headendref03.insert -/
def ref03_insert (p0 : List TSubset) (p1 : TSubset) : Option (List TSubset) := (fixN (ref03_insert_L1 p0 p1) FUEL 0)
def ref03_CoverOf_J3 (a5 : List TSubset) (a7 : Int) (rec2 : (List TSubset × Int) → Option (List TSubset)) (a10 : Bool) : Option (List TSubset) := (bif a10 then Option.bind (appG 16 a5 [(TSubset.mk a7 0)]) fun l11 => ((rec2 (l11, w64 (a7 + 1)))) else (rec2 (a5, w64 (a7 + 1))))
def ref03_CoverOf_J4 (p0 : TScheme) (p1 : List Int) (a5 : List TSubset) (a7 : Int) (rec2 : (List TSubset × Int) → Option (List TSubset)) (a14 : Bool) : Option (List TSubset) := (bif a14 then (rec2 (a5, w64 (a7 + 1))) else Option.bind (ref03_foot p0.Depth p1 a7) fun x15 => ((if x15 = a7 then (rec2 (a5, w64 (a7 + 1))) else Option.bind (ref03_IsSubset p0 (TSubset.mk a7 x15)) fun x16 => ((bif x16 then Option.bind (ref03_insert a5 (TSubset.mk a7 x15)) fun x17 => ((rec2 (x17, w64 (a7 + 1)))) else Option.bind (ref03_between p0.Depth a7 x15) fun x18 => (Option.bind (ref03_insert a5 (TSubset.mk a7 x18)) fun x19 => (Option.bind (ref03_insert x19 (TSubset.mk x18 x15)) fun x20 => ((rec2 (x20, w64 (a7 + 1)))))))))))
def ref03_CoverOf_L2 (p0 : TScheme) (p1 : List Int) (rec2 : (List TSubset × Int) → Option (List TSubset)) (s2 : List TSubset × Int) : Option (List TSubset) := match s2 with | (a5, a7) => Option.bind (ref03_Receivers p0.Depth) fun x8 => ((if a7 < w64 (2 * x8) then Option.bind (ref03_hot p0.Depth p1 a7) fun x9 => ((if p0.Kind = 1#8 then (bif (!x9) then (if a7 = 1 then (ref03_CoverOf_J3 a5 a7 rec2 true) else Option.bind (quoI a7 2) fun x12 => (Option.bind (ref03_hot p0.Depth p1 x12) fun x13 => ((ref03_CoverOf_J3 a5 a7 rec2 x13)))) else (ref03_CoverOf_J3 a5 a7 rec2 false)) else (bif (!x9) then (ref03_CoverOf_J4 p0 p1 a5 a7 rec2 true) else (if (1 : Int) < a7 then Option.bind (ref03_hot p0.Depth p1 (bitI .xor a7 1)) fun x21 => ((ref03_CoverOf_J4 p0 p1 a5 a7 rec2 (!x21))) else (ref03_CoverOf_J4 p0 p1 a5 a7 rec2 false))))) else (some a5)))
def ref03_CoverOf_J1 (p0 : TScheme) (p1 : List Int) (a1 : Bool) : Option (List TSubset) := (bif a1 then (some [(TSubset.mk 1 0)]) else (fixN (ref03_CoverOf_L2 p0 p1) FUEL ([], 1)))
/-- headend/headendref03.CoverOf -/
def ref03_CoverOf (p0 : TScheme) (p1 : List Int) : Option (List TSubset) := (if p0.Kind ≠ 1#8 then (ref03_CoverOf_J1 p0 p1 (decide ((p1.length : Int) = 0))) else (ref03_CoverOf_J1 p0 p1 false))
/-- headend/headendref03.Cover -/
def ref03_Cover (p0 : TScheme) (p1 : List Int) : Option (List TSubset × Int) := Option.bind (ref03_Valid p0) fun x1 => ((bif (!x1) then (some ([], 30)) else Option.bind (ref03_IsList p0.Depth p1) fun x2 => ((bif (!x2) then (some ([], 2)) else Option.bind (ref03_CoverOf p0 p1) fun x3 => ((some (x3, 0)))))))
end
end Go.Sx

end
section

end
section
set_option linter.unusedVariables false
set_option maxRecDepth 100000
namespace Go.Sx
open Go Go.RowKit
noncomputable section
structure Tcipher_pair where
  x : BitVec 64
  y : BitVec 64
deriving DecidableEq, Inhabited
def Tcipher_pair.cs (x : Tcipher_pair)  : List Value := [wv x.x, wv x.y]
theorem Tcipher_pair.cs_ones (x : Tcipher_pair)   : ones (Tcipher_pair.cs x ) = true := by simp only [Tcipher_pair.cs, List.cons_append, List.nil_append, kb, ones, one_int, one_bool, one_str, cond_true]
theorem Tcipher_pair.cs_inj {x y : Tcipher_pair} (h : Tcipher_pair.cs x = Tcipher_pair.cs y) : x = y := by
  have h0 : x.x = y.x := cu_inj (congrArg (fun l => l[0]?) h)
  have h1 : x.y = y.y := cu_inj (congrArg (fun l => l[1]?) h)
  cases x; cases y; simp only at *; subst h0; subst h1; rfl
theorem Tcipher_pair.ws (l : List Tcipher_pair) : Ws 2 (l.map Tcipher_pair.cs) := ws_map l (fun _ => rfl) (fun _ => rfl)
def number_prime_L2 (p0 : BitVec 64) (rec2 : (BitVec 64) → Option (Bool)) (a3 : BitVec 64) : Option (Bool) := (if a3 * a3 ≤ p0 then Option.bind (remU p0 a3) fun x4 => ((if x4 = 0#64 then (some false) else (rec2 (a3 + 1#64)))) else (some true))
def number_prime_J1 (p0 : BitVec 64) (a1 : Bool) : Option (Bool) := (bif a1 then (some false) else (fixN (number_prime_L2 p0) FUEL 2#64))
/-- headend/number.prime -/
def number_prime (p0 : BitVec 64) : Option (Bool) := (if p0 < 2#64 then (number_prime_J1 p0 true) else (number_prime_J1 p0 (decide (1048575#64 < p0))))
def number_power_L1 (p2 : BitVec 64) (rec1 : (BitVec 64 × BitVec 64 × BitVec 64) → Option (BitVec 64)) (s1 : BitVec 64 × BitVec 64 × BitVec 64) : Option (BitVec 64) := match s1 with | (a6, a7, a8) => (if 0#64 < a7 then (if a7 &&& 1#64 = 1#64 then Option.bind (remU (a8 * a6) p2) fun x9 => (Option.bind (remU (a6 * a6) p2) fun x10 => (Option.bind (shG (un 1#64)) fun nn11 => ((rec1 (x10, a7 >>> nn11, x9))))) else Option.bind (remU (a6 * a6) p2) fun x12 => (Option.bind (shG (un 1#64)) fun nn13 => ((rec1 (x12, a7 >>> nn13, a8))))) else (some a8))
/-- headend/number.power -/
def number_power (p0 : BitVec 64) (p1 : BitVec 64) (p2 : BitVec 64) : Option (BitVec 64) := Option.bind (remU 1#64 p2) fun x1 => (Option.bind (remU p0 p2) fun x2 => ((fixN (number_power_L1 p2) FUEL (x2, p1, x1))))
def number_CheckGroup_J1 (a1 : Bool) : Option (Int) := (bif a1 then (some 13) else (some 0))
/-- headend/number.CheckGroup -/
def number_CheckGroup (p0 : TGroup) : Option (Int) := Option.bind (number_prime p0.P) fun x2 => ((bif (!x2) then (number_CheckGroup_J1 true) else Option.bind (number_prime p0.Q) fun x3 => ((bif (!x3) then (number_CheckGroup_J1 true) else Option.bind (remU (p0.P - 1#64) p0.Q) fun x4 => ((if x4 ≠ 0#64 then (number_CheckGroup_J1 true) else (if p0.G < 2#64 then (number_CheckGroup_J1 true) else (if p0.P ≤ p0.G then (number_CheckGroup_J1 true) else Option.bind (number_power p0.G p0.Q p0.P) fun x5 => ((number_CheckGroup_J1 (decide (x5 ≠ 1#64))))))))))))
/-- headend/poly.valid -/
def poly_valid (p0 : TScheme) : Option (Bool) := (if p0.Kind = 4#8 then (if (0 : Int) ≤ p0.Depth then (if p0.Depth ≤ 6 then (if (1 : Int) ≤ p0.Degree then (if p0.Degree ≤ 8 then Option.bind (number_CheckGroup p0.Group) fun x1 => ((if x1 = 0 then Option.bind (shG p0.Depth) fun nn2 => ((some (decide (wd (w64 ((shlI 1 nn2) + p0.Degree)) < p0.Group.Q)))) else (some false))) else (some false)) else (some false)) else (some false)) else (some false)) else (some false))
def cipher_wordsOf_L1 (p0 : W2) (rec1 : (Int × BitVec 64 × BitVec 64) → Option (Tcipher_pair)) (s1 : Int × BitVec 64 × BitVec 64) : Option (Tcipher_pair) := match s1 with | (a4, a5, a6) => (if a4 < 8 then Option.bind (shG (un 8#64)) fun nn7 => (Option.bind (getI (kby p0) a4) fun y8 => (Option.bind (shG (un 8#64)) fun nn9 => (Option.bind (getI (kby p0) (w64 (8 + a4))) fun y10 => ((rec1 (w64 (a4 + 1), (a5 <<< nn7) ||| (y8.setWidth 64), (a6 <<< nn9) ||| (y10.setWidth 64))))))) else (some (Tcipher_pair.mk a5 a6)))
/-- headend/cipher.wordsOf -/
def cipher_wordsOf (p0 : W2) : Option (Tcipher_pair) := (fixN (cipher_wordsOf_L1 p0) FUEL (0, 0#64, 0#64))
/-- headend/cipher.Number -/
def cipher_Number (p0 : W2) (p1 : BitVec 64) (p2 : BitVec 64) : Option (BitVec 64) := (if p2 = 0#64 then (some 0#64) else Option.bind (cipher_wordsOf (drv p0 (un8 3#8) p1)) fun x1 => (Option.bind (remU x1.x p2) fun x2 => ((some x2))))
def poly_secret_L1 (p0 : W2) (p1 : TScheme) (l1 : List (BitVec 64)) (rec1 : (List (BitVec 64) × Int) → Option (List (BitVec 64))) (s1 : List (BitVec 64) × Int) : Option (List (BitVec 64)) := match s1 with | (a5, a7) => (if a7 < (l1.length : Int) then Option.bind (cipher_Number (drv p0 (un8 40#8) 0#64) (wd a7) p1.Group.Q) fun x8 => (Option.bind (getI a5 a7) fun y9 => ((rec1 (a5.set a7.toNat x8, w64 (a7 + 1))))) else (some a5))
/-- headend/poly.secret -/
def poly_secret (p0 : W2) (p1 : TScheme) : Option (List (BitVec 64)) := Option.bind (mkL 8 (w64 (p1.Degree + 1)) 0#64) fun l1 => ((fixN (poly_secret_L1 p0 p1 l1) FUEL (l1, 0)))
/-- slices.Backward[headend/poly.polynomial,uint64] -/
def slices_Backward_dc0b (p0 : List (BitVec 64)) : Option (List (BitVec 64)) := (some p0)
def slices_Backward_1_20b1_L1 (p1 : List (BitVec 64)) (rec1 : (Int) → Option (List (Int × BitVec 64))) (a2 : Int) : Option (List (Int × BitVec 64)) := (if (0 : Int) ≤ a2 then Option.bind (getI p1 a2) fun y3 => ((yl (a2, y3) ((rec1 (w64 (a2 - 1)))))) else (some []))
/-- slices.Backward[headend/poly.polynomial,uint64]$1: what it yields -/
def slices_Backward_1_20b1 (p1 : List (BitVec 64)) : Option (List (Int × BitVec 64)) := (fixN (slices_Backward_1_20b1_L1 p1) FUEL (w64 ((p1.length : Int) - 1)))
def poly_field_mul_L1 (p0 : BitVec 64) (p1 : List (BitVec 64)) (rec1 : (BitVec 64 × Int) → Option (BitVec 64)) (s1 : BitVec 64 × Int) : Option (BitVec 64) := match s1 with | (a3, a4) => (if a4 < (p1.length : Int) then Option.bind (getI p1 a4) fun y5 => (Option.bind (remU (a3 * y5) p0) fun x6 => ((rec1 (x6, w64 (a4 + 1))))) else (some a3))
/-- (headend/poly.field).mul -/
def poly_field_mul (p0 : BitVec 64) (p1 : List (BitVec 64)) : Option (BitVec 64) := (fixN (poly_field_mul_L1 p0 p1) FUEL (1#64, 0))
def poly_polynomial_at_D1  (s : BitVec 64) : Option (BitVec 64) := match s with | a4 => (some a4)
def poly_polynomial_at_R1 (p1 : BitVec 64) (p2 : BitVec 64) (ee : Int × BitVec 64) (nx1 : (BitVec 64) → Option (BitVec 64)) (s : BitVec 64) : Option (BitVec 64) := match ee with | (e5, e6) => match s with | a4 => Option.bind (poly_field_mul p1 [a4, p2]) fun x7 => (Option.bind (remU (x7 + e6) p1) fun x8 => ((nx1 x8)))
/-- (headend/poly.polynomial).at -/
def poly_polynomial_at (p0 : List (BitVec 64)) (p1 : BitVec 64) (p2 : BitVec 64) : Option (BitVec 64) := Option.bind (slices_Backward_dc0b p0) fun x1 => (Option.bind (slices_Backward_1_20b1 x1) fun l2 => ((itL (poly_polynomial_at_R1 p1 p2) poly_polynomial_at_D1 l2 0#64)))
def ref01_IsPrime_L1 (p0 : BitVec 64) (rec1 : (BitVec 64) → Option (Bool)) (a2 : BitVec 64) : Option (Bool) := (if a2 * a2 ≤ p0 then Option.bind (remU p0 a2) fun x3 => ((if x3 = 0#64 then (some false) else (rec1 (a2 + 1#64)))) else (some (decide (2#64 ≤ p0))))
/-- headend/headendref01.IsPrime -/
def ref01_IsPrime (p0 : BitVec 64) : Option (Bool) := (fixN (ref01_IsPrime_L1 p0) FUEL 2#64)
def ref01_Power_J2 (p2 : BitVec 64) (a6 : BitVec 64) (a8 : BitVec 64) (rec1 : (BitVec 64 × BitVec 64 × BitVec 64) → Option (BitVec 64)) (a9 : BitVec 64) : Option (BitVec 64) := Option.bind (remU (a8 * a8) p2) fun x10 => (Option.bind (quoU a6 2#64) fun x11 => ((rec1 (x11, a9, x10))))
def ref01_Power_L1 (p2 : BitVec 64) (rec1 : (BitVec 64 × BitVec 64 × BitVec 64) → Option (BitVec 64)) (s1 : BitVec 64 × BitVec 64 × BitVec 64) : Option (BitVec 64) := match s1 with | (a6, a7, a8) => (if 0#64 < a6 then Option.bind (remU a6 2#64) fun x12 => ((if x12 = 1#64 then Option.bind (remU (a7 * a8) p2) fun x13 => ((ref01_Power_J2 p2 a6 a8 rec1 x13)) else (ref01_Power_J2 p2 a6 a8 rec1 a7))) else (some a7))
/-- headend/headendref01.Power -/
def ref01_Power (p0 : BitVec 64) (p1 : BitVec 64) (p2 : BitVec 64) : Option (BitVec 64) := Option.bind (remU 1#64 p2) fun x1 => (Option.bind (remU p0 p2) fun x2 => ((fixN (ref01_Power_L1 p2) FUEL (p1, x1, x2))))
def ref01_ValidGroup_J1 (p0 : TGroup) (a1 : Bool) : Option (Bool) := (bif a1 then (some false) else (if 2#64 ≤ p0.G then (if p0.G < p0.P then Option.bind (ref01_Power p0.G p0.Q p0.P) fun x2 => ((some (decide (x2 = 1#64)))) else (some false)) else (some false)))
/-- headend/headendref01.ValidGroup -/
def ref01_ValidGroup (p0 : TGroup) : Option (Bool) := (if 1048575#64 < p0.P then (ref01_ValidGroup_J1 p0 true) else Option.bind (ref01_IsPrime p0.P) fun x3 => ((bif (!x3) then (ref01_ValidGroup_J1 p0 true) else (if 1048575#64 < p0.Q then (ref01_ValidGroup_J1 p0 true) else Option.bind (ref01_IsPrime p0.Q) fun x4 => ((bif (!x4) then (ref01_ValidGroup_J1 p0 true) else Option.bind (remU (p0.P - 1#64) p0.Q) fun x5 => ((ref01_ValidGroup_J1 p0 (decide (x5 ≠ 0#64))))))))))
def ref04_Valid_J1 (p0 : TScheme) (a1 : Bool) : Option (Bool) := (bif a1 then (some false) else Option.bind (ref03_Receivers p0.Depth) fun x2 => ((some (decide (wd (w64 (x2 + p0.Degree)) < p0.Group.Q)))))
/-- headend/headendref04.Valid -/
def ref04_Valid (p0 : TScheme) : Option (Bool) := (if p0.Kind ≠ 4#8 then (ref04_Valid_J1 p0 true) else (if p0.Depth < 0 then (ref04_Valid_J1 p0 true) else (if (6 : Int) < p0.Depth then (ref04_Valid_J1 p0 true) else (if p0.Degree < 1 then (ref04_Valid_J1 p0 true) else (if (8 : Int) < p0.Degree then (ref04_Valid_J1 p0 true) else Option.bind (ref01_ValidGroup p0.Group) fun x3 => ((ref04_Valid_J1 p0 (!x3))))))))
/-- headend/headendref02.Number -/
def ref02_Number (p0 : W2) (p1 : BitVec 64) (p2 : BitVec 64) : Option (BitVec 64) := (if p2 = 0#64 then (some 0#64) else Option.bind (ref02_Value (((kby (drv p0 (un8 3#8) p1)).take 8).drop 0)) fun x1 => (Option.bind (remU x1 p2) fun x2 => ((some x2))))
def ref04_CoefficientsOf_L1 (p0 : W2) (p1 : TScheme) (rec1 : (List (BitVec 64) × Int) → Option (List (BitVec 64))) (s1 : List (BitVec 64) × Int) : Option (List (BitVec 64)) := match s1 with | (a4, a6) => (if a6 ≤ p1.Degree then Option.bind (ref02_Number (drv p0 (un8 40#8) 0#64) (wd a6) p1.Group.Q) fun x7 => (Option.bind (appG 8 a4 [x7]) fun l8 => ((rec1 (l8, w64 (a6 + 1))))) else (some a4))
/-- headend/headendref04.CoefficientsOf -/
def ref04_CoefficientsOf (p0 : W2) (p1 : TScheme) : Option (List (BitVec 64)) := (fixN (ref04_CoefficientsOf_L1 p0 p1) FUEL ([], 0))
def ref04_ValueOf_L1 (p0 : BitVec 64) (p1 : List (BitVec 64)) (p2 : BitVec 64) (rec1 : (BitVec 64 × BitVec 64 × Int) → Option (BitVec 64)) (s1 : BitVec 64 × BitVec 64 × Int) : Option (BitVec 64) := match s1 with | (a4, a5, a6) => (if a6 < (p1.length : Int) then Option.bind (getI p1 a6) fun y7 => (Option.bind (remU (a4 + (y7 * a5)) p0) fun x8 => (Option.bind (remU (a5 * p2) p0) fun x9 => ((rec1 (x8, x9, w64 (a6 + 1)))))) else (some a4))
/-- headend/headendref04.ValueOf -/
def ref04_ValueOf (p0 : BitVec 64) (p1 : List (BitVec 64)) (p2 : BitVec 64) : Option (BitVec 64) := (fixN (ref04_ValueOf_L1 p0 p1 p2) FUEL (0#64, 1#64, 0))
/-- headend/poly.Check -/
def poly_Check (p0 : TScheme) : Option (Int) := Option.bind (poly_valid p0) fun x1 => ((bif (!x1) then (some 30) else (some 0)))
/-- headend/headendref04.Check -/
def ref04_Check (p0 : TScheme) : Option (Int) := Option.bind (ref04_Valid p0) fun x1 => ((bif (!x1) then (some 30) else (some 0)))
end
end Go.Sx

end
section
set_option linter.unusedVariables false
set_option maxRecDepth 100000
namespace Go.Sx
open Go Go.RowKit
noncomputable section
/-- headend/number.modulus -/
def number_modulus (p0 : BitVec 64) : Option (Bool) := (if 1#64 ≤ p0 then (some (decide (p0 < 4294967296#64))) else (some false))
/-- headend/number.PowMod -/
def number_PowMod (p0 : BitVec 64) (p1 : BitVec 64) (p2 : BitVec 64) : Option (BitVec 64 × Int) := Option.bind (number_modulus p2) fun x1 => ((bif (!x1) then (some (0#64, 2)) else Option.bind (number_power p0 p1 p2) fun x2 => ((some (x2, 0)))))
/-- headend/poly.power -/
def poly_power (p0 : TScheme) (p1 : BitVec 64) (p2 : BitVec 64) : Option (BitVec 64) := Option.bind (number_PowMod p1 p2 p0.Group.P) fun x1 => ((some x1.1))
/-- headend/poly.maskKey -/
def poly_maskKey (p0 : BitVec 64) : Option (W2) := (some (drv k0 (un8 42#8) p0))
/-- headend/headendref04.MaskKey -/
def ref04_MaskKey (p0 : BitVec 64) : Option (W2) := (some (drv k0 (un8 42#8) p0))
end
end Go.Sx

end
section
set_option linter.unusedVariables false
set_option maxRecDepth 100000
namespace Go.Sx
open Go Go.RowKit
noncomputable section
/-- headend/poly.Seal$1 -/
def poly_Seal_1 (p0 : BitVec 64) (p1 : TScheme) (p2 : THeader) (p3 : List (BitVec 64)) (p4 : BitVec 64) : Option (BitVec 64) := Option.bind (poly_polynomial_at p3 p4 p0) fun x1 => (Option.bind (poly_power p1 p2.Base x1) fun x2 => ((some x2)))
def poly_Seal_J2 (a3 : Int) (rec1 : (Int) → Option (THeader × Int)) (a5 : Bool) : Option (THeader × Int) := (bif a5 then (some ((THeader.mk [] 0#64 [] k0 k0), 2)) else (rec1 (w64 (a3 + 1))))
def poly_Seal_L6 (p1 : TScheme) (p3 : W2) (a9 : List (BitVec 64)) (a14 : BitVec 64) (rec6 : (Int × List TPoint) → Option (THeader × Int)) (s6 : Int × List TPoint) : Option (THeader × Int) := match s6 with | (a30, a31) => (if (a31.length : Int) < p1.Degree then Option.bind (poly_Seal_1 (wd a30) p1 (THeader.mk [] a14 a31 k0 (drv p3 (un8 53#8) 0#64)) a9 p1.Group.Q) fun x33 => (Option.bind (appG 16 a31 [(TPoint.mk (wd a30) x33)]) fun l34 => ((rec6 (w64 (a30 + 1), l34)))) else Option.bind (poly_Seal_1 0#64 p1 (THeader.mk [] a14 a31 k0 (drv p3 (un8 53#8) 0#64)) a9 p1.Group.Q) fun x35 => (Option.bind (poly_maskKey x35) fun x36 => ((some ((THeader.mk [] a14 a31 (encr x36 p3) (drv p3 (un8 53#8) 0#64)), 0)))))
def poly_Seal_L5 (p1 : TScheme) (p2 : List Int) (p3 : W2) (a9 : List (BitVec 64)) (a14 : BitVec 64) (rec5 : (Int × List TPoint) → Option (THeader × Int)) (s5 : Int × List TPoint) : Option (THeader × Int) := match s5 with | (a20, a21) => (if a20 < (p2.length : Int) then Option.bind (getI p2 a20) fun y23 => (Option.bind (poly_Seal_1 (wd (w64 (y23 + 1))) p1 (THeader.mk [] a14 a21 k0 (drv p3 (un8 53#8) 0#64)) a9 p1.Group.Q) fun x24 => (Option.bind (appG 16 a21 [(TPoint.mk (wd (w64 (y23 + 1))) x24)]) fun l25 => ((rec5 (w64 (a20 + 1), l25))))) else Option.bind (shG p1.Depth) fun nn26 => ((fixN (poly_Seal_L6 p1 p3 a9 a14) FUEL (w64 ((shlI 1 nn26) + 1), a21))))
def poly_Seal_J4 (p1 : TScheme) (p2 : List Int) (p3 : W2) (a9 : List (BitVec 64)) (a14 : BitVec 64) : Option (THeader × Int) := (fixN (poly_Seal_L5 p1 p2 p3 a9 a14) FUEL (0, []))
def poly_Seal_J3 (p0 : W2) (p1 : TScheme) (p2 : List Int) (p3 : W2) (p4 : BitVec 64) (a9 : List (BitVec 64)) : Option (THeader × Int) := Option.bind (cipher_Number (drv p0 (un8 41#8) p4) 0#64 (p1.Group.Q - 1#64)) fun x12 => (Option.bind (poly_power p1 p1.Group.G (1#64 + x12)) fun x37 => ((poly_Seal_J4 p1 p2 p3 a9 x37)))
def poly_Seal_L1 (p0 : W2) (p1 : TScheme) (p2 : List Int) (p3 : W2) (p4 : BitVec 64) (rec1 : (Int) → Option (THeader × Int)) (a3 : Int) : Option (THeader × Int) := (if a3 < (p2.length : Int) then Option.bind (getI p2 a3) fun y4 => ((if y4 < 0 then (poly_Seal_J2 a3 rec1 true) else Option.bind (shG p1.Depth) fun nn6 => ((if shlI 1 nn6 ≤ y4 then (poly_Seal_J2 a3 rec1 true) else (if (0 : Int) < a3 then Option.bind (getI p2 (w64 (a3 - 1))) fun y7 => ((poly_Seal_J2 a3 rec1 (decide (y4 ≤ y7)))) else (poly_Seal_J2 a3 rec1 false)))))) else (if p1.Degree < (p2.length : Int) then (some ((THeader.mk [] 0#64 [] k0 k0), 4)) else Option.bind (poly_secret p0 p1) fun x39 => ((poly_Seal_J3 p0 p1 p2 p3 p4 x39))))
/-- headend/poly.Seal -/
def poly_Seal (p0 : W2) (p1 : TScheme) (p2 : List Int) (p3 : W2) (p4 : BitVec 64) : Option (THeader × Int) := Option.bind (poly_valid p1) fun x1 => ((bif (!x1) then (some ((THeader.mk [] 0#64 [] k0 k0), 30)) else (fixN (poly_Seal_L1 p0 p1 p2 p3 p4) FUEL 0)))
def ref04_SealOf_J3 (p1 : TScheme) (x1 : List (BitVec 64)) (a4 : BitVec 64) (a10 : Int) (a11 : List TPoint) (rec2 : (Int × List TPoint) → Option (THeader)) (a14 : BitVec 64) : Option (THeader) := Option.bind (ref04_ValueOf p1.Group.Q x1 a14) fun x15 => (Option.bind (ref01_Power a4 x15 p1.Group.P) fun x16 => (Option.bind (appG 16 a11 [(TPoint.mk a14 x16)]) fun l17 => ((rec2 (w64 (a10 + 1), l17)))))
def ref04_SealOf_L2 (p1 : TScheme) (p2 : List Int) (p3 : W2) (x1 : List (BitVec 64)) (a4 : BitVec 64) (rec2 : (Int × List TPoint) → Option (THeader)) (s2 : Int × List TPoint) : Option (THeader) := match s2 with | (a10, a11) => (if a10 < p1.Degree then Option.bind (ref03_Receivers p1.Depth) fun x13 => ((if a10 < (p2.length : Int) then Option.bind (getI p2 a10) fun y18 => ((ref04_SealOf_J3 p1 x1 a4 a10 a11 rec2 ((wd y18) + 1#64))) else (ref04_SealOf_J3 p1 x1 a4 a10 a11 rec2 (wd (w64 ((w64 ((w64 (x13 + 1)) + a10)) - (p2.length : Int))))))) else Option.bind (ref04_ValueOf p1.Group.Q x1 0#64) fun x19 => (Option.bind (ref01_Power a4 x19 p1.Group.P) fun x20 => (Option.bind (ref04_MaskKey x20) fun x21 => ((some (THeader.mk [] a4 a11 (encr x21 p3) (drv p3 (un8 53#8) 0#64)))))))
def ref04_SealOf_J1 (p1 : TScheme) (p2 : List Int) (p3 : W2) (x1 : List (BitVec 64)) (a4 : BitVec 64) : Option (THeader) := (fixN (ref04_SealOf_L2 p1 p2 p3 x1 a4) FUEL (0, []))
/-- headend/headendref04.SealOf -/
def ref04_SealOf (p0 : W2) (p1 : TScheme) (p2 : List Int) (p3 : W2) (p4 : BitVec 64) : Option (THeader) := Option.bind (ref04_CoefficientsOf p0 p1) fun x1 => (Option.bind (ref02_Number (drv p0 (un8 41#8) p4) 0#64 (p1.Group.Q - 1#64)) fun x2 => (Option.bind (ref01_Power p1.Group.G (1#64 + x2) p1.Group.P) fun x22 => ((ref04_SealOf_J1 p1 p2 p3 x1 x22))))
/-- headend/headendref04.Seal -/
def ref04_Seal (p0 : W2) (p1 : TScheme) (p2 : List Int) (p3 : W2) (p4 : BitVec 64) : Option (THeader × Int) := Option.bind (ref04_Valid p1) fun x1 => ((bif (!x1) then (some ((THeader.mk [] 0#64 [] k0 k0), 30)) else Option.bind (ref03_IsList p1.Depth p2) fun x2 => ((bif (!x2) then (some ((THeader.mk [] 0#64 [] k0 k0), 2)) else (if p1.Degree < (p2.length : Int) then (some ((THeader.mk [] 0#64 [] k0 k0), 4)) else Option.bind (ref04_SealOf p0 p1 p2 p3 p4) fun x3 => ((some (x3, 0))))))))
end
end Go.Sx

end
section
set_option linter.unusedVariables false
set_option maxRecDepth 100000
namespace Go.Sx
open Go Go.RowKit
noncomputable section
end
end Go.Sx

end
section

end
section
set_option linter.unusedVariables false
set_option maxRecDepth 100000
namespace Go.Sx
open Go Go.RowKit
noncomputable section
def epoch_CheckScheme_J1 (p0 : TScheme) (a1 : Bool) : Option (Int) := (bif a1 then (some 2) else (if un8 p0.Kind = 1 ∨ un8 p0.Kind = 2 ∨ un8 p0.Kind = 3 then Option.bind (cover_Check p0) fun x2 => ((some x2)) else (if un8 p0.Kind = 4 then Option.bind (poly_Check p0) fun x3 => ((some x3)) else none)))
/-- headend/epoch.CheckScheme -/
def epoch_CheckScheme (p0 : TScheme) : Option (Int) := (if p0.Kind < 1#8 then (epoch_CheckScheme_J1 p0 true) else (epoch_CheckScheme_J1 p0 (decide ((5 : Int) ≤ un8 p0.Kind))))
/-- headend/epoch.Session -/
def epoch_Session (p0 : W2) (p1 : Int) : Option (W2) := (some (drv p0 (un8 50#8) (wd p1)))
/-- headend/epoch.Word -/
def epoch_Word (p0 : W2) (p1 : Int) : Option (W2) := (some (drv p0 (un8 51#8) (wd p1)))
def ref05_CheckScheme_J1 (p0 : TScheme) (a1 : Bool) : Option (Int) := (bif a1 then Option.bind (ref03_Check p0) fun x2 => ((some x2)) else (if p0.Kind = 4#8 then Option.bind (ref04_Check p0) fun x3 => ((some x3)) else (some 2)))
/-- headend/headendref05.CheckScheme -/
def ref05_CheckScheme (p0 : TScheme) : Option (Int) := (if 1#8 ≤ p0.Kind then (ref05_CheckScheme_J1 p0 (decide (p0.Kind ≤ 3#8))) else (ref05_CheckScheme_J1 p0 false))
/-- headend/headendref05.Session -/
def ref05_Session (p0 : W2) (p1 : Int) : Option (W2) := (some (drv p0 (un8 50#8) (wd p1)))
/-- headend/headendref05.Word -/
def ref05_Word (p0 : W2) (p1 : Int) : Option (W2) := (some (drv p0 (un8 51#8) (wd p1)))
end
end Go.Sx

end
section
set_option linter.unusedVariables false
set_option maxRecDepth 100000
namespace Go.Sx
open Go Go.RowKit
noncomputable section
structure TAir where
  Epoch : Int
  Word : Int
  Early : Int
  Drift : Int
  Delay : Int
deriving DecidableEq, Inhabited
def TAir.cs (x : TAir)  : List Value := [.int .i64 x.Epoch, .int .i64 x.Word, .int .i64 x.Early, .int .i64 x.Drift, .int .i64 x.Delay]
theorem TAir.cs_ones (x : TAir)   : ones (TAir.cs x ) = true := by simp only [TAir.cs, List.cons_append, List.nil_append, kb, ones, one_int, one_bool, one_str, cond_true]
theorem TAir.cs_inj {x y : TAir} (h : TAir.cs x = TAir.cs y) : x = y := by
  have h0 : x.Epoch = y.Epoch := ci_inj (congrArg (fun l => l[0]?) h)
  have h1 : x.Word = y.Word := ci_inj (congrArg (fun l => l[1]?) h)
  have h2 : x.Early = y.Early := ci_inj (congrArg (fun l => l[2]?) h)
  have h3 : x.Drift = y.Drift := ci_inj (congrArg (fun l => l[3]?) h)
  have h4 : x.Delay = y.Delay := ci_inj (congrArg (fun l => l[4]?) h)
  cases x; cases y; simp only at *; subst h0; subst h1; subst h2; subst h3; subst h4; rfl
theorem TAir.ws (l : List TAir) : Ws 5 (l.map TAir.cs) := ws_map l (fun _ => rfl) (fun _ => rfl)
structure TPacket where
  Kind : BitVec 8
  Epoch : Int
  Head : THeader
  Low : BitVec 8
  Number : BitVec 64
  Data : List (BitVec 8)
  Mac : W2
deriving DecidableEq, Inhabited
def TPacket.cs (x : TPacket) (v0 : Value) (v1 : Value) (v2 : Value) : List Value := [bv x.Kind, .int .i64 x.Epoch, v0, wv x.Head.Base, v1] ++ (kb x.Head.Box ++ (kb x.Head.Check ++ ([bv x.Low, wv x.Number, v2] ++ (kb x.Mac))))
theorem TPacket.cs_ones (x : TPacket) (v0 : Value) (v1 : Value) (v2 : Value) (h0 : oneB v0 = true) (h1 : oneB v1 = true) (h2 : oneB v2 = true) : ones (TPacket.cs x v0 v1 v2) = true := by simp only [TPacket.cs, List.cons_append, List.nil_append, kb, ones, one_int, one_bool, one_str, cond_true, h0, h1, h2]
structure Tepoch_writer where
  out : List (BitVec 8)
deriving DecidableEq, Inhabited
def Tepoch_writer.cs (x : Tepoch_writer) (v0 : Value) : List Value := [v0]
theorem Tepoch_writer.cs_ones (x : Tepoch_writer) (v0 : Value) (h0 : oneB v0 = true) : ones (Tepoch_writer.cs x v0) = true := by simp only [Tepoch_writer.cs, List.cons_append, List.nil_append, kb, ones, one_int, one_bool, one_str, cond_true, h0]
structure TSlot where
  Full : Bool
  Epoch : Int
  Key : W2
deriving DecidableEq, Inhabited
def TSlot.cs (x : TSlot)  : List Value := [.bool x.Full, .int .i64 x.Epoch] ++ (kb x.Key)
theorem TSlot.cs_ones (x : TSlot)   : ones (TSlot.cs x ) = true := by simp only [TSlot.cs, List.cons_append, List.nil_append, kb, ones, one_int, one_bool, one_str, cond_true]
theorem TSlot.cs_inj {x y : TSlot} (h : TSlot.cs x = TSlot.cs y) : x = y := by
  have h0 : x.Full = y.Full := cl_inj (congrArg (fun l => l[0]?) h)
  have h1 : x.Epoch = y.Epoch := ci_inj (congrArg (fun l => l[1]?) h)
  have h2 : x.Key = y.Key := kb_inj (congrArg (fun l => (l.drop 2).take 16) h)
  cases x; cases y; simp only at *; subst h0; subst h1; subst h2; rfl
theorem TSlot.ws (l : List TSlot) : Ws 18 (l.map TSlot.cs) := ws_map l (fun _ => rfl) (fun _ => rfl)
structure TA2_Slot where
  a0 : TSlot
  a1 : TSlot
deriving DecidableEq, Inhabited
def TA2_Slot.cs (x : TA2_Slot)  : List Value := [.bool x.a0.Full, .int .i64 x.a0.Epoch] ++ (kb x.a0.Key ++ ([.bool x.a1.Full, .int .i64 x.a1.Epoch] ++ (kb x.a1.Key)))
theorem TA2_Slot.cs_ones (x : TA2_Slot)   : ones (TA2_Slot.cs x ) = true := by simp only [TA2_Slot.cs, List.cons_append, List.nil_append, kb, ones, one_int, one_bool, one_str, cond_true]
theorem TA2_Slot.cs_inj {x y : TA2_Slot} (h : TA2_Slot.cs x = TA2_Slot.cs y) : x = y := by
  have h0 : x.a0 = y.a0 := TSlot.cs_inj (congrArg (fun l => (l.drop 0).take 18) h)
  have h1 : x.a1 = y.a1 := TSlot.cs_inj (congrArg (fun l => (l.drop 18).take 18) h)
  cases x; cases y; simp only at *; subst h0; subst h1; rfl
theorem TA2_Slot.ws (l : List TA2_Slot) : Ws 36 (l.map TA2_Slot.cs) := ws_map l (fun _ => rfl) (fun _ => rfl)
structure TReceiver where
  Secret : TSecret
  Ahead : Int
  Slots : TA2_Slot
deriving DecidableEq, Inhabited
def TReceiver.cs (x : TReceiver) (v0 : Value) : List Value := [.int .i64 x.Secret.Receiver, v0, wv x.Secret.Share.X, wv x.Secret.Share.Y, .int .i64 x.Ahead, .bool x.Slots.a0.Full, .int .i64 x.Slots.a0.Epoch] ++ (kb x.Slots.a0.Key ++ ([.bool x.Slots.a1.Full, .int .i64 x.Slots.a1.Epoch] ++ (kb x.Slots.a1.Key)))
theorem TReceiver.cs_ones (x : TReceiver) (v0 : Value) (h0 : oneB v0 = true) : ones (TReceiver.cs x v0) = true := by simp only [TReceiver.cs, List.cons_append, List.nil_append, kb, ones, one_int, one_bool, one_str, cond_true, h0]
def epoch_CheckAir_J2 (a2 : Bool) : Option (Int) := (bif a2 then (some 50) else (some 0))
def epoch_CheckAir_J1 (p0 : TAir) (a1 : Bool) : Option (Int) := (bif a1 then (some 50) else (if mnI (mnI p0.Early p0.Drift) p0.Delay < 0 then (epoch_CheckAir_J2 true) else (if w64 (3 * p0.Word) ≤ p0.Drift then (epoch_CheckAir_J2 true) else (if w64 (3 * p0.Word) ≤ p0.Delay then (epoch_CheckAir_J2 true) else (if w64 (3 * p0.Word) ≤ w64 ((w64 (2 * p0.Drift)) + p0.Delay) then (epoch_CheckAir_J2 true) else (epoch_CheckAir_J2 (decide (w64 (p0.Epoch - p0.Delay) < p0.Early))))))))
/-- headend/epoch.CheckAir -/
def epoch_CheckAir (p0 : TAir) : Option (Int) := (if p0.Word < 1 then (epoch_CheckAir_J1 p0 true) else (if (1000 : Int) < p0.Word then (epoch_CheckAir_J1 p0 true) else (if p0.Epoch < p0.Word then (epoch_CheckAir_J1 p0 true) else (if w64 (1000 * p0.Word) < p0.Epoch then (epoch_CheckAir_J1 p0 true) else Option.bind (remI p0.Epoch p0.Word) fun x3 => ((epoch_CheckAir_J1 p0 (decide (x3 ≠ 0))))))))
/-- headend/epoch.isTick -/
def epoch_isTick (p0 : Int) : Option (Bool) := (if (0 : Int) ≤ p0 then (some (decide (p0 ≤ 1099511627776))) else (some false))
/-- headend/epoch.PeriodOf$1 -/
def epoch_PeriodOf_1 (p0 : TAir) : Option (Int) := (some p0.Word)
/-- headend/epoch.divided -/
def epoch_divided_epoch_PeriodOf_1 (p0 : TAir) (p1 : Int) : Option (Int × Int) := Option.bind (epoch_CheckAir p0) fun x1 => ((if x1 ≠ 0 then (some (0, x1)) else Option.bind (epoch_isTick p1) fun x2 => ((bif (!x2) then (some (0, 2)) else Option.bind (epoch_PeriodOf_1 p0) fun x3 => (Option.bind (quoI p1 x3) fun x4 => ((some (x4, 0))))))))
/-- headend/epoch.PeriodOf -/
def epoch_PeriodOf (p0 : TAir) (p1 : Int) : Option (Int × Int) := Option.bind (epoch_divided_epoch_PeriodOf_1 p0 p1) fun x1 => ((some (x1.1, x1.2)))
/-- headend/epoch.covered -/
def epoch_covered (p0 : W2) (p1 : TScheme) (p2 : List Int) (p3 : W2) (p4 : BitVec 64) : Option (THeader × Int) := Option.bind (cover_Cover p1 p2) fun x1 => ((if x1.2 ≠ 0 then (some ((THeader.mk [] 0#64 [] k0 k0), x1.2)) else Option.bind (cover_Seal p0 p1 x1.1 p3) fun x2 => ((some (x2.1, x2.2)))))
def epoch_Seal_J1 (p0 : W2) (p1 : TScheme) (p2 : Int) (p3 : List Int) (a1 : Bool) : Option (THeader × Int) := (bif a1 then (some ((THeader.mk [] 0#64 [] k0 k0), 2)) else (if un8 p1.Kind = 1 ∨ un8 p1.Kind = 2 ∨ un8 p1.Kind = 3 then Option.bind (cover_Check p1) fun x2 => ((if x2 ≠ 0 then (some ((THeader.mk [] 0#64 [] k0 k0), x2)) else Option.bind (epoch_isTick p2) fun x3 => ((bif (!x3) then (some ((THeader.mk [] 0#64 [] k0 k0), 2)) else Option.bind (epoch_Session p0 p2) fun x4 => (Option.bind (epoch_covered p0 p1 p3 x4 (wd p2)) fun x5 => ((some (x5.1, x5.2)))))))) else (if un8 p1.Kind = 4 then Option.bind (poly_Check p1) fun x6 => ((if x6 ≠ 0 then (some ((THeader.mk [] 0#64 [] k0 k0), x6)) else Option.bind (epoch_isTick p2) fun x7 => ((bif (!x7) then (some ((THeader.mk [] 0#64 [] k0 k0), 2)) else Option.bind (epoch_Session p0 p2) fun x8 => (Option.bind (poly_Seal p0 p1 p3 x8 (wd p2)) fun x9 => ((some (x9.1, x9.2)))))))) else none)))
/-- headend/epoch.Seal -/
def epoch_Seal (p0 : W2) (p1 : TScheme) (p2 : Int) (p3 : List Int) : Option (THeader × Int) := (if p1.Kind < 1#8 then (epoch_Seal_J1 p0 p1 p2 p3 true) else (epoch_Seal_J1 p0 p1 p2 p3 (decide ((5 : Int) ≤ un8 p1.Kind))))
def epoch_writer_put_L1 (p1 : BitVec 64) (rec1 : (Int × List (BitVec 8)) → Option (Tepoch_writer)) (s1 : Int × List (BitVec 8)) : Option (Tepoch_writer) := match s1 with | (a4, a5) => (if (0 : Int) ≤ a4 then Option.bind (shG (w64 (8 * a4))) fun nn7 => (Option.bind (appG 1 a5 [(p1 >>> nn7).setWidth 8]) fun l8 => ((rec1 (w64 (a4 - 1), l8)))) else (some (Tepoch_writer.mk a5)))
/-- (*headend/epoch.writer).put -/
def epoch_writer_put (p0 : Tepoch_writer) (p1 : BitVec 64) (p2 : Int) : Option (Tepoch_writer) := (fixN (epoch_writer_put_L1 p1) FUEL (w64 (p2 - 1), p0.out))
/-- (*headend/epoch.writer).key -/
def epoch_writer_key (p0 : Tepoch_writer) (p1 : W2) : Option (Tepoch_writer) := Option.bind (appG 1 p0.out (kby p1)) fun l1 => ((some (Tepoch_writer.mk l1)))
def epoch_body_L2 (p0 : TPacket) (rec2 : (Int × Tepoch_writer) → Option (List (BitVec 8))) (s2 : Int × Tepoch_writer) : Option (List (BitVec 8)) := match s2 with | (a23, a24) => (if a23 < (p0.Head.Points.length : Int) then Option.bind (getI p0.Head.Points a23) fun y26 => (Option.bind (epoch_writer_put a24 y26.X 8) fun x27 => (Option.bind (epoch_writer_put x27 y26.Y 8) fun x28 => ((rec2 (w64 (a23 + 1), x28))))) else Option.bind (epoch_writer_key a24 p0.Head.Box) fun x29 => (Option.bind (epoch_writer_key x29 p0.Head.Check) fun x30 => ((some x30.out))))
def epoch_body_L1 (p0 : TPacket) (rec1 : (Int × Tepoch_writer) → Option (List (BitVec 8))) (s1 : Int × Tepoch_writer) : Option (List (BitVec 8)) := match s1 with | (a11, a12) => (if a11 < (p0.Head.Items.length : Int) then Option.bind (getI p0.Head.Items a11) fun y14 => (Option.bind (epoch_writer_put a12 (wd y14.Subset.Node) 1) fun x15 => (Option.bind (epoch_writer_put x15 (wd y14.Subset.Minus) 1) fun x16 => (Option.bind (epoch_writer_key x16 y14.Box) fun x17 => ((rec1 (w64 (a11 + 1), x17)))))) else Option.bind (epoch_writer_put a12 p0.Head.Base 8) fun x18 => (Option.bind (epoch_writer_put x18 (wd (p0.Head.Points.length : Int)) 1) fun x19 => ((fixN (epoch_body_L2 p0) FUEL (0, x19)))))
/-- headend/epoch.body -/
def epoch_body (p0 : TPacket) : Option (List (BitVec 8)) := Option.bind (epoch_writer_put (Tepoch_writer.mk []) (p0.Kind.setWidth 64) 1) fun x1 => ((if p0.Kind = 2#8 then Option.bind (epoch_writer_put x1 (p0.Low.setWidth 64) 1) fun x2 => (Option.bind (epoch_writer_put x2 p0.Number 8) fun x3 => (Option.bind (epoch_writer_put x3 (wd (p0.Data.length : Int)) 2) fun x4 => (Option.bind (appG 1 x4.out p0.Data) fun l5 => ((some l5))))) else Option.bind (epoch_writer_put x1 (wd p0.Epoch) 8) fun x6 => (Option.bind (epoch_writer_put x6 (wd (p0.Head.Items.length : Int)) 1) fun x7 => ((fixN (epoch_body_L1 p0) FUEL (0, x7))))))
def cipher_xor_L1 (p1 : W2) (rec1 : (Int × W2) → Option (W2)) (s1 : Int × W2) : Option (W2) := match s1 with | (a3, a4) => (if a3 < 16 then Option.bind (getI (kby a4) a3) fun y5 => (Option.bind (getI (kby p1) a3) fun y6 => (Option.bind (getI (kby a4) a3) fun y7 => (Option.bind (kset a4 a3 (y5 ^^^ y6)) fun x8 => ((rec1 (w64 (a3 + 1), x8)))))) else (some a4))
/-- headend/cipher.xor -/
def cipher_xor (p0 : W2) (p1 : W2) : Option (W2) := (if p0 = p1 then (some k0) else (fixN (cipher_xor_L1 p1) FUEL (0, p0)))
/-- headend/cipher.Mac$1 -/
def cipher_Mac_1 (p0 : W2) (p1 : W2) (p2 : W2) : Option (W2) := Option.bind (cipher_xor p0 p1) fun x1 => ((some (encr p2 x1)))
def cipher_fold_cipher_Mac_1_L1 (p2_0 : W2) (rec1 : (List (BitVec 8) × W2) → Option (W2)) (s1 : List (BitVec 8) × W2) : Option (W2) := match s1 with | (a4, a6) => (if (0 : Int) < (a4.length : Int) then Option.bind (sliG a4 (copyN (kby k0) a4) (a4.length : Int)) fun l7 => (Option.bind (cipher_Mac_1 a6 (ofB (copyL (kby k0) a4)) p2_0) fun x8 => ((rec1 (l7, x8)))) else (some a6))
/-- headend/cipher.fold -/
def cipher_fold_cipher_Mac_1 (p0 : W2) (p1 : List (BitVec 8)) (p2_0 : W2) : Option (W2) := (fixN (cipher_fold_cipher_Mac_1_L1 p2_0) FUEL (p1, p0))
/-- headend/cipher.Mac -/
def cipher_Mac (p0 : W2) (p1 : List (BitVec 8)) : Option (W2 × Int) := (if (16384 : Int) < (p1.length : Int) then (some (k0, 4)) else Option.bind (cipher_fold_cipher_Mac_1 (drv p0 (un8 2#8) (wd (p1.length : Int))) p1 p0) fun x1 => ((some (x1, 0))))
def epoch_headMac_J1 (a2 : W2) : Option (W2) := (some a2)
/-- headend/epoch.headMac -/
def epoch_headMac (p0 : W2) (p1 : TPacket) : Option (W2) := Option.bind (epoch_body p1) fun x3 => (Option.bind (cipher_Mac (drv p0 (un8 52#8) (wd p1.Epoch)) x3) fun x4 => ((epoch_headMac_J1 x4.1)))
/-- headend/epoch.Head -/
def epoch_Head (p0 : W2) (p1 : TScheme) (p2 : Int) (p3 : List Int) : Option (TPacket × Int) := Option.bind (epoch_Seal p0 p1 p2 p3) fun x1 => ((if x1.2 ≠ 0 then (some ((TPacket.mk 0#8 0 (THeader.mk [] 0#64 [] k0 k0) 0#8 0#64 [] k0), x1.2)) else Option.bind (epoch_Session p0 p2) fun x2 => (Option.bind (epoch_headMac x2 (TPacket.mk 1#8 p2 x1.1 0#8 0#64 [] k0)) fun x3 => ((some ((TPacket.mk 1#8 p2 x1.1 0#8 0#64 [] x3), 0))))))
def cipher_pair_block_L1 (p0 : Tcipher_pair) (rec1 : (Int × W2) → Option (W2)) (s1 : Int × W2) : Option (W2) := match s1 with | (a3, a4) => (if a3 < 8 then Option.bind (shG (w64 (56 - (w64 (8 * a3))))) fun nn5 => (Option.bind (shG (w64 (56 - (w64 (8 * a3))))) fun nn6 => (Option.bind (getI (kby a4) a3) fun y7 => (Option.bind (kset a4 a3 ((p0.x >>> nn5).setWidth 8)) fun x8 => (Option.bind (getI (kby x8) (w64 (8 + a3))) fun y9 => (Option.bind (kset x8 (w64 (8 + a3)) ((p0.y >>> nn6).setWidth 8)) fun x10 => ((rec1 (w64 (a3 + 1), x10)))))))) else (some a4))
/-- (headend/cipher.pair).block -/
def cipher_pair_block (p0 : Tcipher_pair) : Option (W2) := (fixN (cipher_pair_block_L1 p0) FUEL (0, k0))
/-- headend/cipher.blockOf -/
def cipher_blockOf (p0 : BitVec 8) (p1 : BitVec 64) (p2 : BitVec 64) : Option (W2) := Option.bind (shG (un 56#64)) fun nn1 => (Option.bind (cipher_pair_block (Tcipher_pair.mk (((p0.setWidth 64) <<< nn1) ||| p1) p2)) fun x2 => ((some x2)))
def cipher_Stream_J2 (a6 : List (BitVec 8)) (a8 : Int) (rec1 : (List (BitVec 8) × Int × W2) → Option (List (BitVec 8) × Int)) (y10 : BitVec 8) (a11 : W2) : Option (List (BitVec 8) × Int) := Option.bind (remI a8 16) fun x12 => (Option.bind (getI (kby a11) x12) fun y13 => (Option.bind (getI a6 a8) fun y14 => ((rec1 (a6.set a8.toNat (y10 ^^^ y13), w64 (a8 + 1), a11)))))
def cipher_Stream_L1 (p0 : W2) (p1 : BitVec 64) (p2 : List (BitVec 8)) (rec1 : (List (BitVec 8) × Int × W2) → Option (List (BitVec 8) × Int)) (s1 : List (BitVec 8) × Int × W2) : Option (List (BitVec 8) × Int) := match s1 with | (a6, a8, a9) => (if a8 < (p2.length : Int) then Option.bind (getI p2 a8) fun y10 => (Option.bind (remI a8 16) fun x15 => ((if x15 = 0 then Option.bind (quoI a8 16) fun x16 => (Option.bind (cipher_blockOf 1#8 (wd x16) p1) fun x17 => ((cipher_Stream_J2 a6 a8 rec1 y10 (encr p0 x17)))) else (cipher_Stream_J2 a6 a8 rec1 y10 a9)))) else (some (a6, 0)))
/-- headend/cipher.Stream -/
def cipher_Stream (p0 : W2) (p1 : BitVec 64) (p2 : List (BitVec 8)) : Option (List (BitVec 8) × Int) := (if (16384 : Int) < (p2.length : Int) then (some ([], 4)) else Option.bind (mkL 1 (p2.length : Int) 0#8) fun l1 => ((fixN (cipher_Stream_L1 p0 p1 p2) FUEL (l1, 0, k0))))
def epoch_Content_J1 (p3 : BitVec 64) (p4 : List (BitVec 8)) (x1 : Int × Int) (a3 : W2) : Option (TPacket × Int) := Option.bind (remI x1.1 4) fun x4 => (Option.bind (cipher_Stream a3 p3 p4) fun x5 => ((if x5.2 ≠ 0 then (some ((TPacket.mk 0#8 0 (THeader.mk [] 0#64 [] k0 k0) 0#8 0#64 [] k0), x5.2)) else Option.bind (epoch_body (TPacket.mk 2#8 0 (THeader.mk [] 0#64 [] k0 k0) (wd8 x4) p3 x5.1 k0)) fun x6 => (Option.bind (cipher_Mac a3 x6) fun x7 => ((some ((TPacket.mk 2#8 0 (THeader.mk [] 0#64 [] k0 k0) (wd8 x4) p3 x5.1 x7.1), x7.2)))))))
/-- headend/epoch.Content -/
def epoch_Content (p0 : W2) (p1 : TAir) (p2 : Int) (p3 : BitVec 64) (p4 : List (BitVec 8)) : Option (TPacket × Int) := Option.bind (epoch_PeriodOf p1 p2) fun x1 => ((if x1.2 ≠ 0 then (some ((TPacket.mk 0#8 0 (THeader.mk [] 0#64 [] k0 k0) 0#8 0#64 [] k0), x1.2)) else (if (256 : Int) < (p4.length : Int) then (some ((TPacket.mk 0#8 0 (THeader.mk [] 0#64 [] k0 k0) 0#8 0#64 [] k0), 2)) else Option.bind (quoI p2 p1.Epoch) fun x8 => (Option.bind (epoch_Session p0 x8) fun x9 => (Option.bind (epoch_Word x9 x1.1) fun x10 => ((epoch_Content_J1 p3 p4 x1 x10)))))))
/-- headend/epoch.CheckPacket$1 -/
def epoch_CheckPacket_1 (p0 : TItem) : Option (Bool) := (if mnI p0.Subset.Node p0.Subset.Minus < 0 then (some true) else (some (decide ((127 : Int) < mxI p0.Subset.Node p0.Subset.Minus))))
def slices_IndexFunc_c205_epoch_CheckPacket_1_L1 (p0 : List TItem) (rec1 : (Int) → Option (Int)) (a2 : Int) : Option (Int) := (if a2 < (p0.length : Int) then Option.bind (getI p0 a2) fun y3 => (Option.bind (epoch_CheckPacket_1 y3) fun x4 => ((bif x4 then (some a2) else (rec1 (w64 (a2 + 1)))))) else (some (-1)))
/-- slices.IndexFunc[[]headend/api.Item,headend/api.Item] -/
def slices_IndexFunc_c205_epoch_CheckPacket_1 (p0 : List TItem) : Option (Int) := (fixN (slices_IndexFunc_c205_epoch_CheckPacket_1_L1 p0) FUEL 0)
/-- slices.ContainsFunc[[]headend/api.Item,headend/api.Item] -/
def slices_ContainsFunc_9968_epoch_CheckPacket_1 (p0 : List TItem) : Option (Bool) := Option.bind (slices_IndexFunc_c205_epoch_CheckPacket_1 p0) fun x1 => ((some (decide ((0 : Int) ≤ x1))))
end
end Go.Sx

end
section
set_option linter.unusedVariables false
set_option maxRecDepth 100000
namespace Go.Sx
open Go Go.RowKit
noncomputable section
/-- headend/headendref05.Tick -/
def ref05_Tick (p0 : Int) : Option (Bool) := (if (0 : Int) ≤ p0 then (some (decide (p0 ≤ 1099511627776))) else (some false))
/-- headend/headendref05.Seal -/
def ref05_Seal (p0 : W2) (p1 : TScheme) (p2 : Int) (p3 : List Int) : Option (THeader × Int) := Option.bind (ref05_CheckScheme p1) fun x1 => ((if x1 ≠ 0 then (some ((THeader.mk [] 0#64 [] k0 k0), x1)) else Option.bind (ref05_Tick p2) fun x2 => ((bif (!x2) then (some ((THeader.mk [] 0#64 [] k0 k0), 2)) else Option.bind (ref05_Session p0 p2) fun x3 => ((if p1.Kind = 4#8 then Option.bind (ref04_Seal p0 p1 p3 x3 (wd p2)) fun x4 => ((some (x4.1, x4.2))) else Option.bind (ref03_Cover p1 p3) fun x5 => ((if x5.2 ≠ 0 then (some ((THeader.mk [] 0#64 [] k0 k0), x5.2)) else Option.bind (ref03_Seal p0 p1 x5.1 x3) fun x6 => ((some (x6.1, x6.2)))))))))))
def ref05_SameHeader_L3 (p0 : THeader) (p1 : THeader) (rec3 : (Int) → Option (Bool)) (a7 : Int) : Option (Bool) := (if a7 < (p0.Points.length : Int) then Option.bind (getI p0.Points a7) fun y8 => (Option.bind (getI p1.Points a7) fun y9 => ((if y8 ≠ y9 then (some false) else (rec3 (w64 (a7 + 1)))))) else (some true))
def ref05_SameHeader_L2 (p0 : THeader) (p1 : THeader) (rec2 : (Int) → Option (Bool)) (a3 : Int) : Option (Bool) := (if a3 < (p0.Items.length : Int) then Option.bind (getI p0.Items a3) fun y4 => (Option.bind (getI p1.Items a3) fun y5 => ((if y4 ≠ y5 then (some false) else (rec2 (w64 (a3 + 1)))))) else (fixN (ref05_SameHeader_L3 p0 p1) FUEL 0))
def ref05_SameHeader_J1 (p0 : THeader) (p1 : THeader) (a1 : Bool) : Option (Bool) := (bif a1 then (some false) else (fixN (ref05_SameHeader_L2 p0 p1) FUEL 0))
/-- headend/headendref05.SameHeader -/
def ref05_SameHeader (p0 : THeader) (p1 : THeader) : Option (Bool) := (if (p0.Items.length : Int) ≠ (p1.Items.length : Int) then (ref05_SameHeader_J1 p0 p1 true) else (if (p0.Points.length : Int) ≠ (p1.Points.length : Int) then (ref05_SameHeader_J1 p0 p1 true) else (if p0.Base ≠ p1.Base then (ref05_SameHeader_J1 p0 p1 true) else (if p0.Box ≠ p1.Box then (ref05_SameHeader_J1 p0 p1 true) else (ref05_SameHeader_J1 p0 p1 (decide (p0.Check ≠ p1.Check)))))))
end
end Go.Sx

end
section
set_option linter.unusedVariables false
set_option maxRecDepth 100000
namespace Go.Sx
open Go Go.RowKit
noncomputable section
end
end Go.Sx

end
section
set_option linter.unusedVariables false
set_option maxRecDepth 100000
namespace Go.Sx
open Go Go.RowKit
noncomputable section
def ref05_ValidAir_J2 (p0 : TAir) (a2 : Bool) : Option (Bool) := (bif a2 then (some false) else (if w64 ((w64 (2 * p0.Drift)) + p0.Delay) < w64 (3 * p0.Word) then (some (decide (w64 (p0.Early + p0.Delay) ≤ p0.Epoch))) else (some false)))
def ref05_ValidAir_J1 (p0 : TAir) (a1 : Bool) : Option (Bool) := (bif a1 then (some false) else (if p0.Early < 0 then (ref05_ValidAir_J2 p0 true) else (if p0.Drift < 0 then (ref05_ValidAir_J2 p0 true) else (if p0.Delay < 0 then (ref05_ValidAir_J2 p0 true) else (if p0.Epoch < p0.Early then (ref05_ValidAir_J2 p0 true) else (if (3000 : Int) < p0.Drift then (ref05_ValidAir_J2 p0 true) else (ref05_ValidAir_J2 p0 (decide ((3000 : Int) < p0.Delay)))))))))
/-- headend/headendref05.ValidAir -/
def ref05_ValidAir (p0 : TAir) : Option (Bool) := (if p0.Word < 1 then (ref05_ValidAir_J1 p0 true) else (if (1000 : Int) < p0.Word then (ref05_ValidAir_J1 p0 true) else (if p0.Epoch < p0.Word then (ref05_ValidAir_J1 p0 true) else (if w64 (1000 * p0.Word) < p0.Epoch then (ref05_ValidAir_J1 p0 true) else Option.bind (remI p0.Epoch p0.Word) fun x3 => ((ref05_ValidAir_J1 p0 (decide (x3 ≠ 0))))))))
end
end Go.Sx

end
section
set_option linter.unusedVariables false
set_option maxRecDepth 100000
namespace Go.Sx
open Go Go.RowKit
noncomputable section
structure Tepoch_reader where
  b : List (BitVec 8)
  short : Bool
deriving DecidableEq, Inhabited
def Tepoch_reader.cs (x : Tepoch_reader) (v0 : Value) : List Value := [v0, .bool x.short]
theorem Tepoch_reader.cs_ones (x : Tepoch_reader) (v0 : Value) (h0 : oneB v0 = true) : ones (Tepoch_reader.cs x v0) = true := by simp only [Tepoch_reader.cs, List.cons_append, List.nil_append, kb, ones, one_int, one_bool, one_str, cond_true, h0]
end
end Go.Sx

end
section
set_option linter.unusedVariables false
set_option maxRecDepth 100000
namespace Go.Sx
open Go Go.RowKit
noncomputable section
def ref05_number_L1 (p1 : BitVec 64) (rec1 : (List (BitVec 8) × Int) → Option (List (BitVec 8))) (s1 : List (BitVec 8) × Int) : Option (List (BitVec 8)) := match s1 with | (a4, a6) => (if (0 : Int) ≤ a6 then Option.bind (shG (un (wd (w64 (8 * a6))))) fun nn7 => (Option.bind (appG 1 a4 [(p1 >>> nn7).setWidth 8]) fun l8 => ((rec1 (l8, w64 (a6 - 1))))) else (some a4))
/-- headend/headendref05.number -/
def ref05_number (p0 : List (BitVec 8)) (p1 : BitVec 64) (p2 : Int) : Option (List (BitVec 8)) := (fixN (ref05_number_L1 p1) FUEL (p0, w64 (p2 - 1)))
def ref05_Body_L2 (p0 : TPacket) (rec2 : (List (BitVec 8) × Int) → Option (List (BitVec 8))) (s2 : List (BitVec 8) × Int) : Option (List (BitVec 8)) := match s2 with | (a21, a23) => (if a23 < (p0.Head.Points.length : Int) then Option.bind (getI p0.Head.Points a23) fun y24 => (Option.bind (ref05_number a21 y24.X 8) fun x25 => (Option.bind (getI p0.Head.Points a23) fun y26 => (Option.bind (ref05_number x25 y26.Y 8) fun x27 => ((rec2 (x27, w64 (a23 + 1))))))) else Option.bind (appG 1 a21 (kby p0.Head.Box)) fun l28 => (Option.bind (appG 1 l28 (kby p0.Head.Check)) fun l29 => ((some l29))))
def ref05_Body_L1 (p0 : TPacket) (rec1 : (List (BitVec 8) × Int) → Option (List (BitVec 8))) (s1 : List (BitVec 8) × Int) : Option (List (BitVec 8)) := match s1 with | (a10, a12) => (if a12 < (p0.Head.Items.length : Int) then Option.bind (getI p0.Head.Items a12) fun y13 => (Option.bind (appG 1 a10 [wd8 y13.Subset.Node, wd8 y13.Subset.Minus]) fun l14 => (Option.bind (appG 1 l14 (kby y13.Box)) fun l15 => ((rec1 (l15, w64 (a12 + 1)))))) else Option.bind (ref05_number a10 p0.Head.Base 8) fun x16 => (Option.bind (appG 1 x16 [wd8 (p0.Head.Points.length : Int)]) fun l17 => ((fixN (ref05_Body_L2 p0) FUEL (l17, 0)))))
/-- headend/headendref05.Body -/
def ref05_Body (p0 : TPacket) : Option (List (BitVec 8)) := (if p0.Kind = 2#8 then Option.bind (appG 1 [p0.Kind] [p0.Low]) fun l1 => (Option.bind (ref05_number l1 p0.Number 8) fun x2 => (Option.bind (ref05_number x2 (wd (p0.Data.length : Int)) 2) fun x3 => (Option.bind (appG 1 x3 p0.Data) fun l4 => ((some l4))))) else Option.bind (ref05_number [p0.Kind] (wd p0.Epoch) 8) fun x5 => (Option.bind (appG 1 x5 [wd8 (p0.Head.Items.length : Int)]) fun l6 => ((fixN (ref05_Body_L1 p0) FUEL (l6, 0)))))
/-- headend/headendref02.portions -/
def ref02_portions (p0 : List (BitVec 8)) : Option (Int) := Option.bind (quoI (w64 ((p0.length : Int) + 15)) 16) fun x1 => ((some x1))
/-- headend/headendref02.portion -/
def ref02_portion (p0 : List (BitVec 8)) (p1 : Int) : Option (W2) := Option.bind (sliG p0 (w64 (16 * p1)) (p0.length : Int)) fun l1 => (Option.bind (ref02_key l1) fun x2 => ((some x2)))
def ref02_Xor_L1 (p1 : W2) (rec1 : (Int × W2) → Option (W2)) (s1 : Int × W2) : Option (W2) := match s1 with | (a3, a4) => (if a3 < 16 then Option.bind (getI (kby a4) a3) fun y5 => (Option.bind (getI (kby p1) a3) fun y6 => (Option.bind (getI (kby a4) a3) fun y7 => (Option.bind (kset a4 a3 (y5 ^^^ y6)) fun x8 => ((rec1 (w64 (a3 + 1), x8)))))) else (some a4))
/-- headend/headendref02.Xor -/
def ref02_Xor (p0 : W2) (p1 : W2) : Option (W2) := (fixN (ref02_Xor_L1 p1) FUEL (0, p0))
def ref02_Tag_L1 (p0 : W2) (p1 : List (BitVec 8)) (rec1 : (Int × W2) → Option (W2)) (s1 : Int × W2) : Option (W2) := match s1 with | (a3, a4) => Option.bind (ref02_portions p1) fun x5 => ((if a3 < x5 then Option.bind (ref02_portion p1 a3) fun x6 => (Option.bind (ref02_Xor a4 x6) fun x7 => ((rec1 (w64 (a3 + 1), encr p0 x7)))) else (some a4)))
/-- headend/headendref02.Tag -/
def ref02_Tag (p0 : W2) (p1 : List (BitVec 8)) : Option (W2) := (fixN (ref02_Tag_L1 p0 p1) FUEL (0, drv p0 (un8 2#8) (wd (p1.length : Int))))
/-- headend/headendref05.Sealed -/
def ref05_Sealed (p0 : W2) (p1 : TPacket) : Option (W2) := Option.bind (ref05_Body p1) fun x1 => (Option.bind (ref02_Tag (drv p0 (un8 52#8) (wd p1.Epoch)) x1) fun x2 => ((some x2)))
/-- headend/headendref05.Head -/
def ref05_Head (p0 : W2) (p1 : TScheme) (p2 : Int) (p3 : List Int) : Option (TPacket × Int) := Option.bind (ref05_Seal p0 p1 p2 p3) fun x1 => ((if x1.2 ≠ 0 then (some ((TPacket.mk 0#8 0 (THeader.mk [] 0#64 [] k0 k0) 0#8 0#64 [] k0), x1.2)) else Option.bind (ref05_Session p0 p2) fun x2 => (Option.bind (ref05_Sealed x2 (TPacket.mk 1#8 p2 x1.1 0#8 0#64 [] k0)) fun x3 => ((some ((TPacket.mk 1#8 p2 x1.1 0#8 0#64 [] x3), 0))))))
/-- headend/headendref05.aired -/
def ref05_aired (p0 : TAir) (p1 : Int) : Option (Int) := Option.bind (ref05_ValidAir p0) fun x1 => ((bif (!x1) then (some 50) else Option.bind (ref05_Tick p1) fun x2 => ((bif (!x2) then (some 2) else (some 0)))))
/-- headend/headendref02.Block -/
def ref02_Block (p0 : BitVec 8) (p1 : BitVec 64) (p2 : BitVec 64) : Option (W2) := Option.bind (ref02_Bytes p1 7) fun x1 => (Option.bind (appG 1 [p0] x1) fun l2 => (Option.bind (ref02_Bytes p2 8) fun x3 => (Option.bind (appG 1 l2 x3) fun l4 => (Option.bind (ref02_key l4) fun x5 => ((some x5))))))
def ref02_Stream_J4 (a6 : Int) (rec1 : (List (BitVec 8) × Int) → Option (List (BitVec 8) × Int)) (a9 : W2) (a13 : List (BitVec 8)) (a15 : Int) (rec3 : (List (BitVec 8) × Int) → Option (List (BitVec 8) × Int)) (a16 : Bool) : Option (List (BitVec 8) × Int) := (bif a16 then Option.bind (getI (kby a9) a15) fun y17 => (Option.bind (appG 1 a13 [y17]) fun l18 => ((rec3 (l18, w64 (a15 + 1))))) else (rec1 (a13, w64 (a6 + 1))))
def ref02_Stream_L3 (p2 : List (BitVec 8)) (a6 : Int) (rec1 : (List (BitVec 8) × Int) → Option (List (BitVec 8) × Int)) (a9 : W2) (rec3 : (List (BitVec 8) × Int) → Option (List (BitVec 8) × Int)) (s3 : List (BitVec 8) × Int) : Option (List (BitVec 8) × Int) := match s3 with | (a13, a15) => (if a15 < 16 then (ref02_Stream_J4 a6 rec1 a9 a13 a15 rec3 (decide (w64 ((w64 (16 * a6)) + a15) < (p2.length : Int)))) else (ref02_Stream_J4 a6 rec1 a9 a13 a15 rec3 false))
def ref02_Stream_J2 (p2 : List (BitVec 8)) (a4 : List (BitVec 8)) (a6 : Int) (rec1 : (List (BitVec 8) × Int) → Option (List (BitVec 8) × Int)) (a9 : W2) : Option (List (BitVec 8) × Int) := (fixN (ref02_Stream_L3 p2 a6 rec1 a9) FUEL (a4, 0))
def ref02_Stream_L1 (p0 : W2) (p1 : BitVec 64) (p2 : List (BitVec 8)) (rec1 : (List (BitVec 8) × Int) → Option (List (BitVec 8) × Int)) (s1 : List (BitVec 8) × Int) : Option (List (BitVec 8) × Int) := match s1 with | (a4, a6) => Option.bind (ref02_portions p2) fun x7 => ((if a6 < x7 then Option.bind (ref02_portion p2 a6) fun x19 => (Option.bind (ref02_Block 1#8 (wd a6) p1) fun x20 => (Option.bind (ref02_Xor x19 (encr p0 x20)) fun x21 => ((ref02_Stream_J2 p2 a4 a6 rec1 x21)))) else (some (a4, 0))))
/-- headend/headendref02.Stream -/
def ref02_Stream (p0 : W2) (p1 : BitVec 64) (p2 : List (BitVec 8)) : Option (List (BitVec 8) × Int) := (if (16384 : Int) < (p2.length : Int) then (some ([], 4)) else (fixN (ref02_Stream_L1 p0 p1 p2) FUEL ([], 0)))
/-- headend/headendref05.stream -/
def ref05_stream (p0 : W2) (p1 : BitVec 64) (p2 : List (BitVec 8)) : Option (List (BitVec 8)) := Option.bind (ref02_Stream p0 p1 p2) fun x1 => ((some x1.1))
def ref05_Sent_J2 (p3 : BitVec 64) (a2 : W2) (a4 : BitVec 8) (a5 : List (BitVec 8)) : Option (TPacket) := Option.bind (ref05_Body (TPacket.mk 2#8 0 (THeader.mk [] 0#64 [] k0 k0) a4 p3 a5 k0)) fun x9 => (Option.bind (ref02_Tag a2 x9) fun x10 => ((some (TPacket.mk 2#8 0 (THeader.mk [] 0#64 [] k0 k0) a4 p3 a5 x10))))
def ref05_Sent_J1 (p1 : TAir) (p2 : Int) (p3 : BitVec 64) (p4 : List (BitVec 8)) (a2 : W2) : Option (TPacket) := Option.bind (quoI p2 p1.Word) fun x11 => (Option.bind (remI x11 4) fun x12 => (Option.bind (ref05_stream a2 p3 p4) fun x13 => ((ref05_Sent_J2 p3 a2 (wd8 x12) x13))))
/-- headend/headendref05.Sent -/
def ref05_Sent (p0 : W2) (p1 : TAir) (p2 : Int) (p3 : BitVec 64) (p4 : List (BitVec 8)) : Option (TPacket) := Option.bind (quoI p2 p1.Epoch) fun x15 => (Option.bind (quoI p2 p1.Word) fun x16 => (Option.bind (ref05_Session p0 x15) fun x17 => (Option.bind (ref05_Word x17 x16) fun x18 => ((ref05_Sent_J1 p1 p2 p3 p4 x18)))))
/-- headend/headendref05.Content -/
def ref05_Content (p0 : W2) (p1 : TAir) (p2 : Int) (p3 : BitVec 64) (p4 : List (BitVec 8)) : Option (TPacket × Int) := Option.bind (ref05_aired p1 p2) fun x1 => ((if x1 ≠ 0 then (some ((TPacket.mk 0#8 0 (THeader.mk [] 0#64 [] k0 k0) 0#8 0#64 [] k0), x1)) else (if (256 : Int) < (p4.length : Int) then (some ((TPacket.mk 0#8 0 (THeader.mk [] 0#64 [] k0 k0) 0#8 0#64 [] k0), 2)) else Option.bind (ref05_Sent p0 p1 p2 p3 p4) fun x2 => ((some (x2, 0))))))
/-- headend/headendref05.SamePacket -/
def ref05_SamePacket (p0 : TPacket) (p1 : TPacket) : Option (Bool) := (if p0.Kind = p1.Kind then (if p0.Epoch = p1.Epoch then Option.bind (ref05_SameHeader p0.Head p1.Head) fun x1 => ((bif x1 then (if p0.Low = p1.Low then (if p0.Number = p1.Number then (if p0.Data = p1.Data then (some (decide (p0.Mac = p1.Mac))) else (some false)) else (some false)) else (some false)) else (some false))) else (some false)) else (some false))
end
end Go.Sx

end
section

end
section
set_option linter.unusedVariables false
set_option maxRecDepth 100000
namespace Go.Sx
open Go Go.RowKit
noncomputable section
def law05_EpochSends_L3 (p7 : List (BitVec 8)) (l2 : List (BitVec 8)) (x5 : TPacket × Int) (a7 : Bool) (rec3 : (Int × List (BitVec 8)) → Option (Bool)) (s3 : Int × List (BitVec 8)) : Option (Bool) := match s3 with | (a11, a12) => (if a11 < (x5.1.Data.length : Int) then Option.bind (getI a12 a11) fun y14 => (Option.bind (getI a12 a11) fun y15 => ((rec3 (w64 (a11 + 1), a12.set a11.toNat (y14 + 1#8))))) else (bif a7 then (some (decide (l2 = p7))) else (some false)))
def law05_EpochSends_J2 (p7 : List (BitVec 8)) (l2 : List (BitVec 8)) (x5 : TPacket × Int) (a7 : Bool) : Option (Bool) := (fixN (law05_EpochSends_L3 p7 l2 x5 a7) FUEL (0, x5.1.Data))
def law05_EpochSends_J1 (p0 : W2) (p1 : TScheme) (p2 : TAir) (p3 : Int) (p4 : List Int) (p5 : Int) (p6 : BitVec 64) (p7 : List (BitVec 8)) (a1 : Bool) : Option (Bool) := (bif a1 then (some true) else Option.bind (appG 1 [] p7) fun l2 => (Option.bind (epoch_Head p0 p1 p3 p4) fun x3 => (Option.bind (ref05_Head p0 p1 p3 p4) fun x4 => (Option.bind (epoch_Content p0 p2 p5 p6 l2) fun x5 => (Option.bind (ref05_Content p0 p2 p5 p6 p7) fun x6 => (Option.bind (ref05_SamePacket x3.1 x4.1) fun x16 => ((bif x16 then (if x3.2 = x4.2 then Option.bind (ref05_SamePacket x5.1 x6.1) fun x17 => ((bif x17 then (law05_EpochSends_J2 p7 l2 x5 (decide (x5.2 = x6.2))) else (law05_EpochSends_J2 p7 l2 x5 false))) else (law05_EpochSends_J2 p7 l2 x5 false)) else (law05_EpochSends_J2 p7 l2 x5 false)))))))))
/-- headend/headendlaw05.EpochSends -/
def law05_EpochSends (p0 : W2) (p1 : TScheme) (p2 : TAir) (p3 : Int) (p4 : List Int) (p5 : Int) (p6 : BitVec 64) (p7 : List (BitVec 8)) : Option (Bool) := (if (100 : Int) < (p4.length : Int) then (law05_EpochSends_J1 p0 p1 p2 p3 p4 p5 p6 p7 true) else (law05_EpochSends_J1 p0 p1 p2 p3 p4 p5 p6 p7 (decide ((1000 : Int) < (p7.length : Int)))))
end
end Go.Sx

end
section
set_option linter.unusedVariables false
set_option linter.unusedSimpArgs false
set_option maxRecDepth 100000
namespace Go.Sx
open Go Go.RowKit Go.Proofs
theorem op_TGroup {H : Type} {enc : TypeId × Value → H} {W : World} {fuel : Nat} {cs : List Value} {x : DataW H × List MemPlace} (h : Tr enc Tryz.prog W fuel 26 cs x) : ∃ (m : TGroup), cs = TGroup.cs m := by
  obtain ⟨xs, n, rfl, rfl, hl, hx, hf⟩ := DataW.trod_struct Tryz.underlying26 h
  replace hl : cs.length = 3 := hl.trans (by kernel_rfl)
  replace hx : xs.length = 3 := hx
  obtain ⟨y0, e0⟩ := some_at (i := 0) hx rfl
  have h0 : Tr enc Tryz.prog W n 24 ((cs.drop 0).take 1) y0 := fld hf (i := 0) rfl rfl rfl (by kernel_rfl) e0
  obtain ⟨m0, c0⟩ := op_u64 Tryz.underlying24 h0
  obtain ⟨y1, e1⟩ := some_at (i := 1) hx rfl
  have h1 : Tr enc Tryz.prog W n 24 ((cs.drop 1).take 1) y1 := fld hf (i := 1) rfl rfl rfl (by kernel_rfl) e1
  obtain ⟨m1, c1⟩ := op_u64 Tryz.underlying24 h1
  obtain ⟨y2, e2⟩ := some_at (i := 2) hx rfl
  have h2 : Tr enc Tryz.prog W n 24 ((cs.drop 2).take 1) y2 := fld hf (i := 2) rfl rfl rfl (by kernel_rfl) e2
  obtain ⟨m2, c2⟩ := op_u64 Tryz.underlying24 h2
  have q := cat_end hl
  replace q := cat_step (o := 2) (k := 1) c2 q
  replace q := cat_step (o := 1) (k := 1) c1 q
  replace q := cat_step (o := 0) (k := 1) c0 q
  exact ⟨⟨m0, m1, m2⟩, q⟩
def TScheme.ok (x : TScheme) : Prop := I64 x.Depth ∧ I64 x.Degree
theorem op_TScheme {H : Type} {enc : TypeId × Value → H} {W : World} {fuel : Nat} {cs : List Value} {x : DataW H × List MemPlace} (h : Tr enc Tryz.prog W fuel 28 cs x) : ∃ (m : TScheme), cs = TScheme.cs m ∧ TScheme.ok m := by
  obtain ⟨xs, n, rfl, rfl, hl, hx, hf⟩ := DataW.trod_struct Tryz.underlying28 h
  replace hl : cs.length = 6 := hl.trans (by kernel_rfl)
  replace hx : xs.length = 4 := hx
  obtain ⟨y0, e0⟩ := some_at (i := 0) hx rfl
  have h0 : Tr enc Tryz.prog W n 5 ((cs.drop 0).take 1) y0 := fld hf (i := 0) rfl rfl rfl (by kernel_rfl) e0
  obtain ⟨m0, c0⟩ := op_u8 Tryz.underlying5 h0
  obtain ⟨y1, e1⟩ := some_at (i := 1) hx rfl
  have h1 : Tr enc Tryz.prog W n 3 ((cs.drop 1).take 1) y1 := fld hf (i := 1) rfl rfl rfl (by kernel_rfl) e1
  obtain ⟨m1, c1, k1⟩ := op_i64 Tryz.underlying3 h1
  obtain ⟨y2, e2⟩ := some_at (i := 2) hx rfl
  have h2 : Tr enc Tryz.prog W n 3 ((cs.drop 2).take 1) y2 := fld hf (i := 2) rfl rfl rfl (by kernel_rfl) e2
  obtain ⟨m2, c2, k2⟩ := op_i64 Tryz.underlying3 h2
  obtain ⟨y3, e3⟩ := some_at (i := 3) hx rfl
  have h3 : Tr enc Tryz.prog W n 26 ((cs.drop 3).take 3) y3 := fld hf (i := 3) rfl rfl rfl (by kernel_rfl) e3
  obtain ⟨m3, c3⟩ := op_TGroup h3
  have q := cat_end hl
  replace q := cat_step (o := 3) (k := 3) c3 q
  replace q := cat_step (o := 2) (k := 1) c2 q
  replace q := cat_step (o := 1) (k := 1) c1 q
  replace q := cat_step (o := 0) (k := 1) c0 q
  exact ⟨⟨m0, m1, m2, m3⟩, q, ⟨k1, k2⟩⟩
def TAir.ok (x : TAir) : Prop := I64 x.Epoch ∧ I64 x.Word ∧ I64 x.Early ∧ I64 x.Drift ∧ I64 x.Delay
theorem op_TAir {H : Type} {enc : TypeId × Value → H} {W : World} {fuel : Nat} {cs : List Value} {x : DataW H × List MemPlace} (h : Tr enc Tryz.prog W fuel 30 cs x) : ∃ (m : TAir), cs = TAir.cs m ∧ TAir.ok m := by
  obtain ⟨xs, n, rfl, rfl, hl, hx, hf⟩ := DataW.trod_struct Tryz.underlying30 h
  replace hl : cs.length = 5 := hl.trans (by kernel_rfl)
  replace hx : xs.length = 5 := hx
  obtain ⟨y0, e0⟩ := some_at (i := 0) hx rfl
  have h0 : Tr enc Tryz.prog W n 3 ((cs.drop 0).take 1) y0 := fld hf (i := 0) rfl rfl rfl (by kernel_rfl) e0
  obtain ⟨m0, c0, k0⟩ := op_i64 Tryz.underlying3 h0
  obtain ⟨y1, e1⟩ := some_at (i := 1) hx rfl
  have h1 : Tr enc Tryz.prog W n 3 ((cs.drop 1).take 1) y1 := fld hf (i := 1) rfl rfl rfl (by kernel_rfl) e1
  obtain ⟨m1, c1, k1⟩ := op_i64 Tryz.underlying3 h1
  obtain ⟨y2, e2⟩ := some_at (i := 2) hx rfl
  have h2 : Tr enc Tryz.prog W n 3 ((cs.drop 2).take 1) y2 := fld hf (i := 2) rfl rfl rfl (by kernel_rfl) e2
  obtain ⟨m2, c2, k2⟩ := op_i64 Tryz.underlying3 h2
  obtain ⟨y3, e3⟩ := some_at (i := 3) hx rfl
  have h3 : Tr enc Tryz.prog W n 3 ((cs.drop 3).take 1) y3 := fld hf (i := 3) rfl rfl rfl (by kernel_rfl) e3
  obtain ⟨m3, c3, k3⟩ := op_i64 Tryz.underlying3 h3
  obtain ⟨y4, e4⟩ := some_at (i := 4) hx rfl
  have h4 : Tr enc Tryz.prog W n 3 ((cs.drop 4).take 1) y4 := fld hf (i := 4) rfl rfl rfl (by kernel_rfl) e4
  obtain ⟨m4, c4, k4⟩ := op_i64 Tryz.underlying3 h4
  have q := cat_end hl
  replace q := cat_step (o := 4) (k := 1) c4 q
  replace q := cat_step (o := 3) (k := 1) c3 q
  replace q := cat_step (o := 2) (k := 1) c2 q
  replace q := cat_step (o := 1) (k := 1) c1 q
  replace q := cat_step (o := 0) (k := 1) c0 q
  exact ⟨⟨m0, m1, m2, m3, m4⟩, q, ⟨k0, k1, k2, k3, k4⟩⟩
end Go.Sx

end
section
set_option linter.unusedVariables false
set_option linter.unusedSimpArgs false
namespace Go.Proofs.YtgdojjniakpadaaGreat
open Go Go.RowKit Go.Sx
theorem cv_3_155 : CV Tryz.prog 3 155 .u64 := fun _ _ _ => by kernel_rfl
theorem zv_278 : ZV Tryz.prog 278 (.agg [.int .u64 0, .int .u64 0].toArray) := fun _ => by kernel_rfl
theorem fa_278_0 : FA Tryz.prog 278 0 0 := fun _ _ _ => by kernel_rfl
theorem one_24 : One Tryz.prog 24 := fun _ => ⟨by kernel_rfl, by kernel_rfl⟩
theorem fa_278_1 : FA Tryz.prog 278 1 1 := fun _ _ _ => by kernel_rfl
theorem en_292 : En Tryz.prog 292 := fun _ _ => by kernel_rfl
theorem bs_278 : BS Tryz.prog 278 (fun i => [(0, 1), (1, 1)][i]?) [.int .u64 0, .int .u64 0] := bs_mk Tryz.underlying278 zv_278 ⟨rfl, (one_24).siz, rfl, (one_24).siz, trivial⟩
theorem agg_278 : Agg Tryz.prog 278 2 := fun _ => ⟨by kernel_rfl, by kernel_rfl⟩
theorem cv_5_24 : CV Tryz.prog 5 24 .u64 := fun _ _ _ => by kernel_rfl
theorem one_5 : One Tryz.prog 5 := fun _ => ⟨by kernel_rfl, by kernel_rfl⟩
theorem cv_24_5 : CV Tryz.prog 24 5 .u8 := fun _ _ _ => by kernel_rfl
theorem zv_23 : ZV Tryz.prog 23 (.agg [.int .u8 0, .int .u8 0, .int .u8 0, .int .u8 0, .int .u8 0, .int .u8 0, .int .u8 0, .int .u8 0, .int .u8 0, .int .u8 0, .int .u8 0, .int .u8 0, .int .u8 0, .int .u8 0, .int .u8 0, .int .u8 0].toArray) := fun _ => by kernel_rfl
theorem agg_23 : Agg Tryz.prog 23 16 := fun _ => ⟨by kernel_rfl, by kernel_rfl⟩
/-- two words aas a Go value of type pair -/
abbrev pv (p : W2) : Value := .agg [wv p.1, wv p.2].toArray
set_option maxHeartbeats 1000000 in
theorem rot_c (x : BitVec 64) (k : Int) (s : Nat) (hs : s < 64) (hk : bits .and .u64 (IntKind.u64.wrap k) 63 = (s : Int)) (w : World) :
    Calls Tryz.prog 292 [wv x, .int .i64 k].toArray w fun e w' => ∃ v, e = .returned v ∧ (v = wv (rotl x s) ∧ Gr w w') := by
  refine calls_of_sw (R := fun v w' => v = wv (rotl x s) ∧ Gr w w') 17 Tryz.func292 rfl rfl rfl ?_
  refine sw_seq ?_
  -- region 0 bits.go:217
  refine sw_region [(0, 0)] rfl rfl rfl ?_
  refine sd_vv rfl rfl rfl (vv_assign rfl) ?_
  refine sd_done ?_
  refine sw_seq ?_
  -- region 1 bits.go:219
  refine sw_region [(0, 0), (1, 0), (2, 0), (3, 0)] rfl rfl rfl ?_
  refine sd_vv rfl rfl rfl (vv_move rfl) ?_
  refine sd_vv rfl rfl rfl (vv_conv cv_3_155 rfl) ?_
  refine sd_vv rfl rfl rfl (vv_eq (vv_bits (by simp) rfl rfl) (show _ = Value.int .u64 (s : Int) from by rw [hk])) ?_
  refine sd_vv rfl rfl rfl (vv_assign rfl) ?_
  refine sd_done ?_
  refine sw_seq ?_
  -- region 2 bits.go:220
  refine sw_region [(0, 0), (1, 0), (2, 0), (3, 0), (4, 0), (5, 0), (6, 0), (7, 0), (8, 0)] rfl rfl rfl ?_
  refine sd_vv rfl rfl rfl (vv_move rfl) ?_
  refine sd_vv rfl rfl rfl (vv_move rfl) ?_
  refine sd_vv rfl rfl rfl (vv_ushl rfl rfl (by omega)) ?_
  refine sd_vv rfl rfl rfl (vv_move rfl) ?_
  refine sd_vv rfl rfl rfl (vv_move rfl) ?_
  refine sd_vv rfl rfl rfl (vv_eq (vv_sub rfl rfl) (show _ = Value.int .u64 ((64 - s : Nat) : Int) from by rw [IntKind.wrap_u64]; congr 1; omega)) ?_
  refine sd_vv rfl rfl rfl (vv_ushr rfl rfl (by omega)) ?_
  refine sd_vv rfl rfl rfl (vv_uor rfl rfl) ?_
  refine sd_vv rfl rfl rfl (vv_assign rfl) ?_
  refine sd_done ?_
  refine sw_ret ?_
  refine ⟨_, _, rfl, res_tmp rfl rfl, ?_⟩
  exact ⟨by simp [rotl], (Gr.refl w)⟩
set_option maxHeartbeats 1000000 in
theorem round_c (p : W2) (k : BitVec 64) (w : World) :
    Calls Tryz.prog 189 [pv p, wv k].toArray w fun e w' => ∃ v, e = .returned v ∧ (v = pv (rnd p k) ∧ Gr w w') := by
  refine calls_of_sw (R := fun v w' => v = pv (rnd p k) ∧ Gr w w') 21 Tryz.func189 rfl rfl rfl ?_
  refine sw_seq ?_
  -- region 0 cipher.go:36
  refine sw_region [(0, 0), (1, 0)] rfl rfl rfl ?_
  refine sd_ev rfl rfl rfl (ev_box rfl (by rfl)) ?_
  rintro _ w1 ⟨b1, rfl, hbw1, Bw1, Gw1⟩
  have z1 := Gw1.size
  have lt2 := Bw1.lt
  refine sd_ev rfl rfl rfl (ev_alloc zv_278 (by rfl)) ?_
  rintro _ w2 ⟨b2, rfl, hbw2, Bw2, Gw2⟩
  have z3 := Gw2.size
  have lt4 := Bw2.lt
  refine sd_done ?_
  refine sw_seq ?_
  -- region 1 cipher.go:37 DRAWS
  refine sw_draw [] [(0, 3), (1, 3), (3, 3), (4, 3), (6, 3), (2, 0), (5, 3), (7, 3), (8, 3)] (by kernel_rfl) (by kernel_rfl) rfl (by kernel_rfl) ?_
  intro w3 Gw3 zw3
  refine dd_h3 rfl rfl rfl (Kp.refl [] w3) (fun w hS => vv_fieldAddr fa_278_0 rfl) ?_
  have B5 := (Bx.gr (Bx.gr Bw1 Gw2) Gw3)
  refine dd_h3 rfl rfl rfl (Kp.refl [] w3) (fun w hS => vv_load1 one_24 rfl (Bx.kp B5 hS (by simp <;> first | omega | (split <;> omega))) (by rfl)) ?_
  refine dd_h3 rfl rfl rfl (Kp.refl [] w3) (fun w hS => vv_fieldAddr fa_278_1 rfl) ?_
  refine dd_h3 rfl rfl rfl (Kp.refl [] w3) (fun w hS => vv_load1 one_24 rfl (Bx.kp B5 hS (by simp <;> first | omega | (split <;> omega))) (by rfl)) ?_
  refine dd_h3 rfl rfl rfl (Kp.refl [] w3) (fun w hS => vv_move rfl) ?_
  refine dd_ev rfl rfl rfl (ev_call en_292 rfl (rot_c _ (-8) 56 (by decide) (by decide) _)) ?_
  rintro _ w4 ⟨rfl, Gw4⟩
  have z6 := Gw4.size
  refine ⟨Gw4, ?_⟩
  have S7 := (Kp.gr (Kp.refl [] w3) Gw4)
  refine dd_h3 rfl rfl rfl S7 (fun w hS => vv_uadd rfl rfl) ?_
  refine dd_h3 rfl rfl rfl S7 (fun w hS => vv_uxor rfl rfl) ?_
  refine dd_h3 rfl rfl rfl S7 (fun w hS => vv_assign rfl) ?_
  refine sd_done ?_
  refine sw_seq ?_
  -- region 2 cipher.go:38
  refine sw_region [(0, 0), (1, 0), (2, 0), (3, 0), (4, 0), (5, 0), (6, 0), (7, 0)] rfl rfl rfl ?_
  refine sd_vv rfl rfl rfl (vv_move rfl) ?_
  refine sd_vv rfl rfl rfl (vv_fieldAddr fa_278_1 rfl) ?_
  have B8 := (Bx.gr B5 Gw4)
  refine sd_vv rfl rfl rfl (vv_load1 one_24 rfl B8 (by rfl)) ?_
  refine sd_ev rfl rfl rfl (ev_call en_292 rfl (rot_c _ (3) 3 (by decide) (by decide) _)) ?_
  rintro _ w5 ⟨rfl, Gw5⟩
  have z9 := Gw5.size
  refine sd_vv rfl rfl rfl (vv_move rfl) ?_
  refine sd_vv rfl rfl rfl (vv_uxor rfl rfl) ?_
  refine sd_vv rfl rfl rfl (vv_build bs_278 rfl rfl) ?_
  have B10 := (Bx.gr (Bx.gr (Bx.gr Bw2 Gw3) Gw4) Gw5)
  refine sd_ev rfl rfl rfl (ev_storeW (agg_278).siz rfl rfl (by rfl) (by rfl) (by rfl) B10 (by rfl)) ?_
  rintro _ w6 ⟨Bw6, Mw6⟩
  have z11 := Mw6.size
  refine sd_done ?_
  refine sw_ret ?_
  have X12 : Gr w w6 := (Gr.md (Gr.trans (Gr.trans (Gr.trans (Gr.trans (Gr.trans (Gr.refl w) Gw1) Gw2) Gw3) Gw4) Gw5) Mw6 (by omega))
  refine ⟨_, _, rfl, res_cellW rfl agg_278 rfl Bw6 (by rfl), ?_⟩
  exact ⟨rfl, X12⟩
set_option maxHeartbeats 1000000 in
theorem words_c (p : W2) (w : World) :
    Calls Tryz.prog 187 [kv p].toArray w fun e w' => ∃ v, e = .returned v ∧ (v = pv p ∧ Gr w w') := by
  refine calls_of_sw (R := fun v w' => v = pv p ∧ Gr w w') 29 Tryz.func187 rfl rfl rfl ?_
  refine sw_seq ?_
  -- region 0 cipher.go:18
  refine sw_region [(0, 0), (1, 0)] rfl rfl rfl ?_
  refine sd_ev rfl rfl rfl (ev_box rfl (by rfl)) ?_
  rintro _ w1 ⟨b1, rfl, hbw1, Bw1, Gw1⟩
  have z1 := Gw1.size
  have lt2 := Bw1.lt
  refine sd_ev rfl rfl rfl (ev_alloc zv_278 (by rfl)) ?_
  rintro _ w2 ⟨b2, rfl, hbw2, Bw2, Gw2⟩
  have z3 := Gw2.size
  have lt4 := Bw2.lt
  refine sd_done ?_
  refine sw_seq ?_
  -- region 1 cipher.go:19
  refine sw_region [(0, 0)] rfl rfl rfl ?_
  refine sd_ev rfl rfl rfl (ev_alloc zv_278 (by rfl)) ?_
  rintro _ w3 ⟨b3, rfl, hbw3, Bw3, Gw3⟩
  have z5 := Gw3.size
  have lt6 := Bw3.lt
  refine sd_done ?_
  refine sw_seq ?_
  refine sw_seq ?_
  -- region 2 cipher.go:20
  refine sw_region [(0, 0)] rfl rfl rfl ?_
  refine sd_vv rfl rfl rfl (vv_move rfl) ?_
  refine sd_done ?_
  refine sw_block ?_
  have X7 : Gr w w3 := (Gr.trans (Gr.trans (Gr.trans (Gr.refl w) Gw1) Gw2) Gw3)
  refine sw_loopD (α := Nat) [4, 5, 6, 7, 8, 9, 10, 11, 12, 13, 14, 15, 16, 17, 18, 19, 20, 21, 22, 23, 24, 25, 26, 27] (fun k => [(5, .int .i64 (k : Int))]) (fun k wr => (k ≤ 8) ∧ Bx wr b3 278 ([wv (p.1 >>> (64 - 8 * k)), wv (p.2 >>> (64 - 8 * k))]) ∧ Kp [b3] w3 wr) (fun k => 8 - k) (0) ?_ ?_ ?_
  · repeat' first | exact trivial | refine ⟨rfl, ?_⟩
  · exact ⟨by omega, (by rw [Nat.mul_zero, Nat.sub_zero, shr_64, shr_64]; exact Bw3), Kp.refl _ _⟩
  rintro k w4 ⟨hk, Bw4_b3, Kw4⟩
  have z8 := Kw4.size
  refine sw_seq ?_
  -- region 3 cipher.go:20
  refine sw_region [(0, 0)] rfl rfl rfl ?_
  refine sd_vv rfl rfl rfl (vv_lss rfl rfl) ?_
  refine sd_done ?_
  refine sw_seq ?_
  refine sw_cond rfl (fun h1 => ?_) (fun h1 => ?_)
  · -- h1 True
    replace h1 := of_decide_eq_true h1
    refine sw_skip ?_
    refine then_n ?_
    refine sw_seq ?_
    refine sw_block ?_
    refine sw_seq ?_
    -- region 4 cipher.go:20
    refine sw_region [(0, 0), (1, 0)] rfl rfl rfl ?_
    refine sd_vv rfl rfl rfl (vv_move rfl) ?_
    refine sd_vv rfl rfl rfl (vv_assign rfl) ?_
    refine sd_done ?_
    -- region 5 cipher.go:21 DRAWS
    refine sw_draw [b3] [(0, 3), (1, 1), (2, 3), (3, 3), (4, 3), (5, 3), (6, 3), (7, 3), (8, 3), (9, 1), (10, 3), (11, 3), (12, 3), (13, 3), (14, 3), (15, 3), (16, 3), (17, 3), (18, 2), (19, 3), (20, 2)] (by kernel_rfl) (by kernel_rfl) rfl (by kernel_rfl) ?_
    intro w5 Gw5 zw5
    refine dd_h3 rfl rfl rfl (Kp.refl [b3] w5) (fun w hS => vv_fieldAddr fa_278_0 rfl) ?_
    have B9 := (Bx.gr Bw4_b3 Gw5)
    refine dd_h1 rfl rfl rfl (Gr.refl w5) (fun w hS => vv_load1 one_24 rfl (Bx.gr B9 hS) (by rfl)) ?_
    refine dd_h3 rfl rfl rfl (Kp.refl [b3] w5) (fun w hS => vv_ushl rfl rfl (by omega)) ?_
    refine dd_h3 rfl rfl rfl (Kp.refl [b3] w5) (fun w hS => vv_move rfl) ?_
    refine dd_h3 rfl rfl rfl (Kp.refl [b3] w5) (fun w hS => vv_indexAddr Tryz.underlying23 (one_5).siz rfl rfl (by omega) (by omega)) ?_
    have B10 := (Bx.gr (Bx.kp (Bx.gr (Bx.gr Bw1 Gw2) Gw3) Kw4 (by simp <;> first | omega | (split <;> omega))) Gw5)
    refine dd_h3 rfl rfl rfl (Kp.refl [b3] w5) (fun w hS => vv_load1 one_5 rfl (Bx.kp B10 hS (by simp <;> first | omega | (split <;> omega))) (by exact kb_ixlo p k (by omega))) ?_
    refine dd_h3 rfl rfl rfl (Kp.refl [b3] w5) (fun w hS => vv_convIU cv_5_24 rfl (bt_nonneg _ _) (by have := bt_le p.1 k; omega)) ?_
    refine dd_h3 rfl rfl rfl (Kp.refl [b3] w5) (fun w hS => vv_uor rfl rfl) ?_
    refine dd_h3 rfl rfl rfl (Kp.refl [b3] w5) (fun w hS => vv_fieldAddr fa_278_1 rfl) ?_
    refine dd_h1 rfl rfl rfl (Gr.refl w5) (fun w hS => vv_load1 one_24 rfl (Bx.gr B9 hS) (by rfl)) ?_
    refine dd_h3 rfl rfl rfl (Kp.refl [b3] w5) (fun w hS => vv_ushl rfl rfl (by omega)) ?_
    refine dd_h3 rfl rfl rfl (Kp.refl [b3] w5) (fun w hS => vv_move rfl) ?_
    refine dd_h3 rfl rfl rfl (Kp.refl [b3] w5) (fun w hS => vv_add64 rfl rfl (by omega) (by omega)) ?_
    refine dd_h3 rfl rfl rfl (Kp.refl [b3] w5) (fun w hS => vv_indexAddr Tryz.underlying23 (one_5).siz rfl rfl (by omega) (by omega)) ?_
    refine dd_h3 rfl rfl rfl (Kp.refl [b3] w5) (fun w hS => vv_load1 one_5 rfl (Bx.kp B10 hS (by simp <;> first | omega | (split <;> omega))) (by exact kb_ixhi p k (by omega))) ?_
    refine dd_h3 rfl rfl rfl (Kp.refl [b3] w5) (fun w hS => vv_convIU cv_5_24 rfl (bt_nonneg _ _) (by have := bt_le p.2 k; omega)) ?_
    refine dd_h3 rfl rfl rfl (Kp.refl [b3] w5) (fun w hS => vv_uor rfl rfl) ?_
    refine dd_h3 rfl rfl rfl (Kp.refl [b3] w5) (fun w hS => vv_fieldAddr fa_278_0 rfl) ?_
    refine dd_st (b := b3) rfl rfl rfl rfl (ev_store1 (one_24).siz rfl rfl rfl B9 (by simp)) (by first | exact Or.inl (by simp) | exact Or.inr (by omega)) ?_
    rintro _ w6 ⟨Bw6, Mw6⟩
    have z11 := Mw6.size
    refine ⟨Mw6, ?_⟩
    have S12 := (Kp.md (Kp.refl [b3] w5) Mw6 (by first | exact Or.inl (by simp) | exact Or.inr (by omega)))
    refine dd_h3 rfl rfl rfl S12 (fun w hS => vv_fieldAddr fa_278_1 rfl) ?_
    refine dd_st (b := b3) rfl rfl rfl rfl (ev_store1 (one_24).siz rfl rfl rfl Bw6 (by simp)) (by first | exact Or.inl (by simp) | exact Or.inr (by omega)) ?_
    rintro _ w7 ⟨Bw7, Mw7⟩
    have z13 := Mw7.size
    refine ⟨Mw7, ?_⟩
    refine sd_nil ?_
    refine block_n ?_
    refine then_n ?_
    -- region 6 cipher.go:20
    refine sw_region [(0, 0), (1, 0)] rfl rfl rfl ?_
    refine sd_vv rfl rfl rfl (vv_add64 rfl rfl (by omega) (by omega)) ?_
    refine sd_vv rfl rfl rfl (vv_move rfl) ?_
    refine sd_nil ?_
    have K_14 := (Kp.md (Kp.md (Kp.gr Kw4 Gw5) Mw6 (by simp <;> first | omega | (split <;> omega))) Mw7 (by simp <;> first | omega | (split <;> omega)))
    refine ⟨rfl, k + 1, ?_, ⟨?_, ?_, K_14⟩, ?_⟩
    · repeat' first | exact trivial | refine ⟨rfl, ?_⟩
    · omega
    · rw [← shl_step _ k (by omega), ← shl_step _ k (by omega)]; exact Bw7
    · first | omega | (dsimp only; omega)
  · -- h1 False
    replace h1 := of_decide_eq_false h1
    refine sw_exit ?_
    refine then_x ?_
    refine then_x ?_
    refine block_x ?_
    refine then_n ?_
    refine sw_seq ?_
    -- region 7 cipher.go:23
    refine sw_region [(0, 0), (1, 0)] rfl rfl rfl ?_
    refine sd_vv rfl rfl rfl (vv_loadW agg_278 rfl Bw4_b3 (by rfl)) ?_
    have B15 := (Bx.kp (Bx.gr Bw2 Gw3) Kw4 (by simp <;> first | omega | (split <;> omega)))
    refine sd_ev rfl rfl rfl (ev_storeW (agg_278).siz rfl rfl (by rfl) (by rfl) (by rfl) B15 (by rfl)) ?_
    rintro _ w8 ⟨Bw8, Mw8⟩
    have z16 := Mw8.size
    refine sd_done ?_
    refine sw_ret ?_
    obtain rfl : k = 8 := by omega
    have X17 : Gr w w8 := (Gr.md (Gr.kp X7 Kw4 (by simp <;> first | omega | (split <;> omega))) Mw8 (by omega))
    refine ⟨_, _, rfl, res_cellW rfl agg_278 rfl Bw8 (by rfl), ?_⟩
    exact ⟨rfl, X17⟩
set_option maxHeartbeats 1000000 in
theorem block_c (p : W2) (w : World) :
    Calls Tryz.prog 190 [pv p].toArray w fun e w' => ∃ v, e = .returned v ∧ (v = kv p ∧ Gr w w') := by
  refine calls_of_sw (R := fun v w' => v = kv p ∧ Gr w w') 29 Tryz.func190 rfl rfl rfl ?_
  refine sw_seq ?_
  -- region 0 cipher.go:27
  refine sw_region [(0, 0), (1, 0)] rfl rfl rfl ?_
  refine sd_ev rfl rfl rfl (ev_box rfl (by rfl)) ?_
  rintro _ w1 ⟨b1, rfl, hbw1, Bw1, Gw1⟩
  have z1 := Gw1.size
  have lt2 := Bw1.lt
  refine sd_ev rfl rfl rfl (ev_alloc zv_23 (by rfl)) ?_
  rintro _ w2 ⟨b2, rfl, hbw2, Bw2, Gw2⟩
  have z3 := Gw2.size
  have lt4 := Bw2.lt
  refine sd_done ?_
  refine sw_seq ?_
  -- region 1 cipher.go:28
  refine sw_region [(0, 0)] rfl rfl rfl ?_
  refine sd_ev rfl rfl rfl (ev_alloc zv_23 (by rfl)) ?_
  rintro _ w3 ⟨b3, rfl, hbw3, Bw3, Gw3⟩
  have z5 := Gw3.size
  have lt6 := Bw3.lt
  refine sd_done ?_
  refine sw_seq ?_
  refine sw_seq ?_
  -- region 2 cipher.go:29
  refine sw_region [(0, 0)] rfl rfl rfl ?_
  refine sd_vv rfl rfl rfl (vv_move rfl) ?_
  refine sd_done ?_
  refine sw_block ?_
  have X7 : Gr w w3 := (Gr.trans (Gr.trans (Gr.trans (Gr.refl w) Gw1) Gw2) Gw3)
  refine sw_loopD (α := Nat) [4, 5, 6, 7, 8, 9, 10, 11, 12, 13, 14, 15, 16, 17, 18, 19, 20, 21, 22, 23, 24, 25, 26, 27] (fun k => [(5, .int .i64 (k : Int))]) (fun k wr => (k ≤ 8) ∧ Bx wr b3 23 (kpart p k) ∧ Kp [b3] w3 wr) (fun k => 8 - k) (0) ?_ ?_ ?_
  · repeat' first | exact trivial | refine ⟨rfl, ?_⟩
  · exact ⟨by omega, (by rw [kpart_0]; exact Bw3), Kp.refl _ _⟩
  rintro k w4 ⟨hk, Bw4_b3, Kw4⟩
  have z8 := Kw4.size
  refine sw_seq ?_
  -- region 3 cipher.go:29
  refine sw_region [(0, 0)] rfl rfl rfl ?_
  refine sd_vv rfl rfl rfl (vv_lss rfl rfl) ?_
  refine sd_done ?_
  refine sw_seq ?_
  refine sw_cond rfl (fun h1 => ?_) (fun h1 => ?_)
  · -- h1 True
    replace h1 := of_decide_eq_true h1
    refine sw_skip ?_
    refine then_n ?_
    refine sw_seq ?_
    refine sw_block ?_
    refine sw_seq ?_
    -- region 4 cipher.go:29
    refine sw_region [(0, 0), (1, 0)] rfl rfl rfl ?_
    refine sd_vv rfl rfl rfl (vv_move rfl) ?_
    refine sd_vv rfl rfl rfl (vv_assign rfl) ?_
    refine sd_done ?_
    -- region 5 cipher.go:30 DRAWS
    refine sw_draw [b3] [(0, 3), (1, 3), (2, 3), (3, 3), (4, 3), (5, 3), (6, 3), (7, 3), (8, 3), (9, 3), (10, 3), (11, 3), (12, 3), (13, 3), (14, 3), (15, 3), (16, 3), (17, 3), (18, 2), (19, 3), (20, 2)] (by kernel_rfl) (by kernel_rfl) rfl (by kernel_rfl) ?_
    intro w5 Gw5 zw5
    refine dd_h3 rfl rfl rfl (Kp.refl [b3] w5) (fun w hS => vv_move rfl) ?_
    refine dd_h3 rfl rfl rfl (Kp.refl [b3] w5) (fun w hS => vv_move rfl) ?_
    refine dd_h3 rfl rfl rfl (Kp.refl [b3] w5) (fun w hS => vv_add64 rfl rfl (by omega) (by omega)) ?_
    refine dd_h3 rfl rfl rfl (Kp.refl [b3] w5) (fun w hS => vv_fieldAddr fa_278_0 rfl) ?_
    have B9 := (Bx.gr (Bx.kp (Bx.gr (Bx.gr Bw1 Gw2) Gw3) Kw4 (by simp <;> first | omega | (split <;> omega))) Gw5)
    refine dd_h3 rfl rfl rfl (Kp.refl [b3] w5) (fun w hS => vv_load1 one_24 rfl (Bx.kp B9 hS (by simp <;> first | omega | (split <;> omega))) (by rfl)) ?_
    refine dd_h3 rfl rfl rfl (Kp.refl [b3] w5) (fun w hS => vv_move rfl) ?_
    refine dd_h3 rfl rfl rfl (Kp.refl [b3] w5) (fun w hS => vv_mul64 rfl rfl (by omega) (by omega)) ?_
    refine dd_h3 rfl rfl rfl (Kp.refl [b3] w5) (fun w hS => vv_sub64 rfl rfl (by omega) (by omega)) ?_
    refine dd_h3 rfl rfl rfl (Kp.refl [b3] w5) (fun w hS => vv_ushr rfl rfl (by omega)) ?_
    refine dd_h3 rfl rfl rfl (Kp.refl [b3] w5) (fun w hS => vv_convUB cv_24_5 rfl) ?_
    refine dd_h3 rfl rfl rfl (Kp.refl [b3] w5) (fun w hS => vv_fieldAddr fa_278_1 rfl) ?_
    refine dd_h3 rfl rfl rfl (Kp.refl [b3] w5) (fun w hS => vv_load1 one_24 rfl (Bx.kp B9 hS (by simp <;> first | omega | (split <;> omega))) (by rfl)) ?_
    refine dd_h3 rfl rfl rfl (Kp.refl [b3] w5) (fun w hS => vv_move rfl) ?_
    refine dd_h3 rfl rfl rfl (Kp.refl [b3] w5) (fun w hS => vv_mul64 rfl rfl (by omega) (by omega)) ?_
    refine dd_h3 rfl rfl rfl (Kp.refl [b3] w5) (fun w hS => vv_sub64 rfl rfl (by omega) (by omega)) ?_
    refine dd_h3 rfl rfl rfl (Kp.refl [b3] w5) (fun w hS => vv_ushr rfl rfl (by omega)) ?_
    refine dd_h3 rfl rfl rfl (Kp.refl [b3] w5) (fun w hS => vv_convUB cv_24_5 rfl) ?_
    refine dd_h3 rfl rfl rfl (Kp.refl [b3] w5) (fun w hS => vv_indexAddr Tryz.underlying23 (one_5).siz rfl rfl (by omega) (by omega)) ?_
    have B10 := (Bx.gr Bw4_b3 Gw5)
    refine dd_st (b := b3) rfl rfl rfl rfl (ev_store1 (one_5).siz rfl rfl rfl B10 (by rw [kpart_length]; omega)) (by first | exact Or.inl (by simp) | exact Or.inr (by omega)) ?_
    rintro _ w6 ⟨Bw6, Mw6⟩
    have z11 := Mw6.size
    refine ⟨Mw6, ?_⟩
    have S12 := (Kp.md (Kp.refl [b3] w5) Mw6 (by first | exact Or.inl (by simp) | exact Or.inr (by omega)))
    refine dd_h3 rfl rfl rfl S12 (fun w hS => vv_indexAddr Tryz.underlying23 (one_5).siz rfl rfl (by omega) (by omega)) ?_
    refine dd_st (b := b3) rfl rfl rfl rfl (ev_store1 (one_5).siz rfl rfl rfl Bw6 (by rw [List.length_set, kpart_length]; omega)) (by first | exact Or.inl (by simp) | exact Or.inr (by omega)) ?_
    rintro _ w7 ⟨Bw7, Mw7⟩
    have z13 := Mw7.size
    refine ⟨Mw7, ?_⟩
    refine sd_nil ?_
    refine block_n ?_
    refine then_n ?_
    -- region 6 cipher.go:29
    refine sw_region [(0, 0), (1, 0)] rfl rfl rfl ?_
    refine sd_vv rfl rfl rfl (vv_add64 rfl rfl (by omega) (by omega)) ?_
    refine sd_vv rfl rfl rfl (vv_move rfl) ?_
    refine sd_nil ?_
    have K_14 := (Kp.md (Kp.md (Kp.gr Kw4 Gw5) Mw6 (by simp <;> first | omega | (split <;> omega))) Mw7 (by simp <;> first | omega | (split <;> omega)))
    refine ⟨rfl, k + 1, ?_, ⟨?_, ?_, K_14⟩, ?_⟩
    · repeat' first | exact trivial | refine ⟨rfl, ?_⟩
    · omega
    · rw [← kpart_set p k (by omega)]; exact Bw7
    · first | omega | (dsimp only; omega)
  · -- h1 False
    replace h1 := of_decide_eq_false h1
    refine sw_exit ?_
    refine then_x ?_
    refine then_x ?_
    refine block_x ?_
    refine then_n ?_
    refine sw_seq ?_
    obtain rfl : k = 8 := by omega
    -- region 7 cipher.go:32
    refine sw_region [(0, 0), (1, 0)] rfl rfl rfl ?_
    refine sd_vv rfl rfl rfl (vv_loadW agg_23 rfl Bw4_b3 (by rfl)) ?_
    have B15 := (Bx.kp (Bx.gr Bw2 Gw3) Kw4 (by simp <;> first | omega | (split <;> omega)))
    refine sd_ev rfl rfl rfl (ev_storeW (agg_23).siz rfl rfl (by rfl) (by rfl) (by rfl) B15 (by rfl)) ?_
    rintro _ w8 ⟨Bw8, Mw8⟩
    have z16 := Mw8.size
    refine sd_done ?_
    refine sw_ret ?_
    have X17 : Gr w w8 := (Gr.md (Gr.kp X7 Kw4 (by simp <;> first | omega | (split <;> omega))) Mw8 (by omega))
    refine ⟨_, _, rfl, res_cellW rfl agg_23 rfl Bw8 (by rfl), ?_⟩
    exact ⟨rfl, X17⟩
end Go.Proofs.YtgdojjniakpadaaGreat

end
section
set_option linter.unusedVariables false
set_option linter.unusedSimpArgs false
namespace Go.Proofs.YtgdojjniakpadaaGreat
open Go Go.RowKit Go.Sx
theorem en_187 : En Tryz.prog 187 := fun _ _ => by kernel_rfl
theorem cv_3_24 : CV Tryz.prog 3 24 .u64 := fun _ _ _ => by kernel_rfl
theorem en_189 : En Tryz.prog 189 := fun _ _ => by kernel_rfl
theorem en_188 : En Tryz.prog 188 := fun _ _ => by kernel_rfl
theorem en_291 : En Tryz.prog 291 := fun _ _ => by kernel_rfl
theorem en_190 : En Tryz.prog 190 := fun _ _ => by kernel_rfl
def keysL (k : W2) : List (List Value) := (List.range 32).map fun (i : Nat) => [.int .i64 (i : Int), wv (ks k i).2]
theorem keysL_len (k : W2) : (keysL k).length = 32 := by simp [keysL]
theorem keysL_get (k : W2) (i : Nat) (h : i < 32) : (keysL k)[i]? = some [.int .i64 (i : Int), wv (ks k i).2] := by simp [keysL, h]
set_option maxHeartbeats 1000000 in
theorem keys_it (k : W2) (b : Nat) (w0 : World) (hb : Bx w0 b 23 (kb k)) :
    IT Tryz.prog 291 [.pointer (some ⟨b, 0, none⟩)] (keysL k) [b] w0 := by
  intro l J Jx w fp hG hJ hJx hcap h0 hY
  have Bc0 := Bx.gr hb hG
  have lt1 := Bc0.lt
  refine calls_of_sw (R := fun v w' => Kp fp w w' ∧ ((∃ fp', (∀ c ∈ fp', c ∈ fp ∨ w.heap.size ≤ c) ∧ J (keysL k).length fp' w') ∨ (∃ j fp', (∀ c ∈ fp', c ∈ fp ∨ w.heap.size ≤ c) ∧ j ≤ (keysL k).length ∧ Jx j fp' w'))) 21 Tryz.func291 rfl rfl rfl ?_
  refine sw_seq ?_
  -- region 0 cipher.go:50
  refine sw_region [(0, 0), (1, 0), (2, 0), (3, 0)] rfl rfl rfl ?_
  refine sd_vv rfl rfl rfl (vv_loadW agg_23 rfl Bc0 (by rfl)) ?_
  refine sd_ev rfl rfl rfl (ev_call en_187 rfl (words_c _ _)) ?_
  rintro _ w1 ⟨rfl, Gw1⟩
  have z2 := Gw1.size
  refine sd_ev rfl rfl rfl (ev_alloc zv_278 (by rfl)) ?_
  rintro _ w2 ⟨b2, rfl, hbw2, Bw2, Gw2⟩
  have z3 := Gw2.size
  have lt4 := Bw2.lt
  refine sd_ev rfl rfl rfl (ev_storeW (agg_278).siz rfl rfl (by rfl) (by rfl) (by rfl) Bw2 (by rfl)) ?_
  rintro _ w3 ⟨Bw3, Mw3⟩
  have z5 := Mw3.size
  refine sd_done ?_
  refine sw_seq ?_
  -- region 1 cipher.go:51
  refine sw_region [(0, 0)] rfl rfl rfl ?_
  refine sd_vv rfl rfl rfl (vv_move rfl) ?_
  refine sd_done ?_
  refine sw_block ?_
  have hz0 : b2 ∉ fp := fun h => by have := hJ.lt h0 b2 h; omega
  have hk0 : Kp fp w w3 := ((Gr.toKp Gw1).gr Gw2).md Mw3 (.inr (by omega))
  have hj0 : J 0 fp w3 := hJ.md (hJ.gr (hJ.gr h0 Gw1) Gw2) Mw3 hz0
  have B6 := (Bx.md (Bx.gr (Bx.gr Bc0 Gw1) Gw2) Mw3 (by omega))
  refine sw_loopD (α := Nat) [4, 7, 8, 9, 10, 11, 12, 13, 14, 15, 16, 17, 18, 19, 20] (fun i => [(7, .int .i64 (i : Int))]) (fun i wr => (i ≤ 32 ∧ ∃ f, J i f wr ∧ Kp fp w wr ∧ (∀ c ∈ f, c ∈ fp ∨ w.heap.size ≤ c) ∧ b ∉ f ∧ b2 ∉ f) ∧ Bx wr b 23 (kb k) ∧ Bx wr b2 278 ([wv (ks k i).1, wv (ks k i).2]) ∧ True) (fun i => 32 - i) (0) ?_ ?_ ?_
  · repeat' first | exact trivial | refine ⟨rfl, ?_⟩
  · exact ⟨⟨by omega, fp, hj0, hk0, fun c hc => .inl hc, hcap b (by simp), hz0⟩, B6, Bw3, trivial⟩
  rintro i w4 ⟨⟨hi, f, hj, hk, hf, hbf, hpf⟩, Bw4_b, Bw4_b2, Kw4⟩
  have lt7 := Bw4_b.lt
  have lt8 := Bw4_b2.lt
  refine sw_seq ?_
  -- region 2 cipher.go:51
  refine sw_region [(0, 0)] rfl rfl rfl ?_
  refine sd_vv rfl rfl rfl (vv_lss rfl rfl) ?_
  refine sd_done ?_
  refine sw_seq ?_
  refine sw_cond rfl (fun h1 => ?_) (fun h1 => ?_)
  · -- h1 True
    replace h1 := of_decide_eq_true h1
    refine sw_skip ?_
    refine then_n ?_
    refine sw_seq ?_
    refine sw_block ?_
    refine sw_seq ?_
    -- region 3 cipher.go:51
    refine sw_region [(0, 0), (1, 0)] rfl rfl rfl ?_
    refine sd_vv rfl rfl rfl (vv_move rfl) ?_
    refine sd_vv rfl rfl rfl (vv_assign rfl) ?_
    refine sd_done ?_
    refine sw_seq ?_
    refine sw_seq ?_
    -- region 4 cipher.go:52
    refine sw_region [(0, 0), (1, 0), (2, 0), (3, 0), (4, 0), (5, 0)] rfl rfl rfl ?_
    refine sd_vv rfl rfl rfl (vv_move rfl) ?_
    refine sd_vv rfl rfl rfl (vv_move rfl) ?_
    refine sd_vv rfl rfl rfl (vv_fieldAddr fa_278_1 rfl) ?_
    refine sd_vv rfl rfl rfl (vv_load1 one_24 rfl Bw4_b2 (by rfl)) ?_
    refine sd_ev rfl rfl rfl (ev_yield rfl rfl (hY i _ f _ (keysL_get k i (by omega)) hj hk hf)) ?_
    rintro _ w5 ⟨y1, rfl, Kw5, fw5, Fw5, Jw5⟩
    have z9 := Kw5.size
    have hk5 : Kp fp w w5 := hk.trans Kw5 hf
    have hf5 := sub_grow hf Fw5 hk.size
    have hn2 : b2 ∉ fw5 := notin_grow Fw5 hpf lt8
    refine sd_vv rfl rfl rfl (vv_not rfl) ?_
    refine sd_done ?_
    refine sw_cond rfl (fun h2 => ?_) (fun h2 => ?_)
    · -- h2 True
      replace h2 := not_bt h2
      subst h2
      refine sw_ret ?_
      refine then_r ?_
      refine block_r ?_
      refine then_r ?_
      refine then_r ?_
      refine block_r ?_
      refine ⟨_, _, rfl, res_none rfl, ?_⟩
      exact ⟨hk5, .inr ⟨i + 1, fw5, hf5, by rw [keysL_len]; omega, Jw5⟩⟩
    · -- h2 False
      replace h2 := not_bf h2
      subst h2
      refine sw_skip ?_
      refine then_n ?_
      -- region 5 cipher.go:55
      refine sw_region [(0, 0), (1, 0), (2, 0), (3, 0), (4, 0)] rfl rfl rfl ?_
      have B10 := (Bx.kp Bw4_b2 Kw5 hpf)
      refine sd_vv rfl rfl rfl (vv_loadW agg_278 rfl B10 (by rfl)) ?_
      refine sd_vv rfl rfl rfl (vv_move rfl) ?_
      refine sd_vv rfl rfl rfl (vv_convIU cv_3_24 rfl (by omega) (by omega)) ?_
      refine sd_ev rfl rfl rfl (ev_call en_189 rfl (round_c _ _ _)) ?_
      rintro _ w6 ⟨rfl, Gw6⟩
      have z11 := Gw6.size
      have B12 := (Bx.gr B10 Gw6)
      refine sd_ev rfl rfl rfl (ev_storeW (agg_278).siz rfl rfl (by rfl) (by rfl) (by rfl) B12 (by rfl)) ?_
      rintro _ w7 ⟨Bw7, Mw7⟩
      have z13 := Mw7.size
      refine sd_nil ?_
      refine block_n ?_
      refine then_n ?_
      -- region 6 cipher.go:51
      refine sw_region [(0, 0), (1, 0)] rfl rfl rfl ?_
      refine sd_vv rfl rfl rfl (vv_add64 rfl rfl (by omega) (by omega)) ?_
      refine sd_vv rfl rfl rfl (vv_move rfl) ?_
      refine sd_nil ?_
      have B15 := (Bx.md (Bx.gr (Bx.kp Bw4_b Kw5 hbf) Gw6) Mw7 (by omega))
      refine ⟨rfl, i + 1, ?_, ⟨?_, ?_, ?_, trivial⟩, ?_⟩
      · repeat' first | exact trivial | refine ⟨rfl, ?_⟩
      · exact ⟨by omega, fw5, hJ.md (hJ.gr Jw5 Gw6) Mw7 hn2, (hk5.gr Gw6).md Mw7 (.inr (by omega)), hf5, notin_grow Fw5 hbf lt7, hn2⟩
      · exact B15
      · exact Bw7
      · first | omega | (dsimp only; omega)
  · -- h1 False
    replace h1 := of_decide_eq_false h1
    refine sw_exit ?_
    refine then_x ?_
    refine then_x ?_
    refine block_x ?_
    refine ⟨_, _, rfl, res_none rfl, ?_⟩
    obtain rfl : i = 32 := by omega
    exact ⟨hk, .inl ⟨f, hf, by rw [keysL_len]; exact hj⟩⟩
set_option maxHeartbeats 1000000 in
theorem keys_c (k : W2) (w : World) :
    Calls Tryz.prog 188 [kv k].toArray w fun e w' => ∃ v, e = .returned v ∧ (∃ b, v = .func (.func 291) #[] [.pointer (some ⟨b, 0, none⟩)].toArray ∧ w.heap.size ≤ b ∧ Bx w' b 23 (kb k) ∧ Gr w w') := by
  refine calls_of_sw (R := fun v w' => ∃ b, v = .func (.func 291) #[] [.pointer (some ⟨b, 0, none⟩)].toArray ∧ w.heap.size ≤ b ∧ Bx w' b 23 (kb k) ∧ Gr w w') 4 Tryz.func188 rfl rfl rfl ?_
  refine sw_seq ?_
  -- region 0 cipher.go:48
  refine sw_region [(0, 0), (1, 0)] rfl rfl rfl ?_
  refine sd_ev rfl rfl rfl (ev_box rfl (by rfl)) ?_
  rintro _ w1 ⟨b1, rfl, hbw1, Bw1, Gw1⟩
  have z1 := Gw1.size
  have lt2 := Bw1.lt
  refine sd_vv rfl rfl rfl (vv_assign rfl) ?_
  refine sd_done ?_
  refine sw_seq ?_
  -- region 1 cipher.go:49
  refine sw_region [(0, 0), (1, 0)] rfl rfl rfl ?_
  refine sd_vv rfl rfl rfl (vv_makeFunc rfl rfl) ?_
  refine sd_vv rfl rfl rfl (vv_assign rfl) ?_
  refine sd_done ?_
  refine sw_ret ?_
  have X3 : Gr w w1 := (Gr.trans (Gr.refl w) Gw1)
  refine ⟨_, _, rfl, res_tmp rfl rfl, ?_⟩
  exact ⟨b1, rfl, hbw1, Bw1, X3⟩
def encTo (k b : W2) (n : Nat) : W2 := (List.range n).foldl (fun p i => rnd p (ks k i).2) b
theorem encTo_succ (k b : W2) (n : Nat) : encTo k b (n + 1) = rnd (encTo k b n) (ks k n).2 := by simp [encTo, List.range_succ]
theorem keysL_some {k : W2} {i : Nat} {x : List Value} (h : (keysL k)[i]? = some x) : i < 32 ∧ x = [.int .i64 (i : Int), wv (ks k i).2] := by
  have hi : i < 32 := by have := (List.getElem?_eq_some_iff.1 h).1; rwa [keysL_len] at this
  rw [keysL_get k i hi] at h; exact ⟨hi, by simpa using h.symm⟩
theorem keysL_two (k : W2) : ∀ x ∈ keysL k, x.length = 2 := by intro x hx; simp [keysL] at hx; obtain ⟨i, _, rfl⟩ := hx; rfl
set_option maxHeartbeats 1000000 in
theorem encr_c (k b : W2) (w : World) :
    Calls Tryz.prog 107 [kv k, kv b].toArray w fun e w' => ∃ v, e = .returned v ∧ (v = kv (encr k b) ∧ Gr w w') := by
  refine calls_of_sw (R := fun v w' => v = kv (encr k b) ∧ Gr w w') 19 Tryz.func107 rfl rfl rfl ?_
  refine sw_seq ?_
  -- region 0 cipher.go:61
  refine sw_region [(0, 0), (1, 0), (2, 0)] rfl rfl rfl ?_
  refine sd_ev rfl rfl rfl (ev_box rfl (by rfl)) ?_
  rintro _ w1 ⟨b1, rfl, hbw1, Bw1, Gw1⟩
  have z1 := Gw1.size
  have lt2 := Bw1.lt
  refine sd_ev rfl rfl rfl (ev_box rfl (by rfl)) ?_
  rintro _ w2 ⟨b2, rfl, hbw2, Bw2, Gw2⟩
  have z3 := Gw2.size
  have lt4 := Bw2.lt
  refine sd_ev rfl rfl rfl (ev_alloc zv_23 (by rfl)) ?_
  rintro _ w3 ⟨b3, rfl, hbw3, Bw3, Gw3⟩
  have z5 := Gw3.size
  have lt6 := Bw3.lt
  refine sd_done ?_
  refine sw_seq ?_
  -- region 1 cipher.go:62
  refine sw_region [(0, 0), (1, 0), (2, 0), (3, 0)] rfl rfl rfl ?_
  have B7 := (Bx.gr Bw2 Gw3)
  refine sd_vv rfl rfl rfl (vv_loadW agg_23 rfl B7 (by rfl)) ?_
  refine sd_ev rfl rfl rfl (ev_call en_187 rfl (words_c _ _)) ?_
  rintro _ w4 ⟨rfl, Gw4⟩
  have z8 := Gw4.size
  refine sd_ev rfl rfl rfl (ev_alloc zv_278 (by rfl)) ?_
  rintro _ w5 ⟨b5, rfl, hbw5, Bw5, Gw5⟩
  have z9 := Gw5.size
  have lt10 := Bw5.lt
  refine sd_ev rfl rfl rfl (ev_storeW (agg_278).siz rfl rfl (by rfl) (by rfl) (by rfl) Bw5 (by rfl)) ?_
  rintro _ w6 ⟨Bw6, Mw6⟩
  have z11 := Mw6.size
  refine sd_done ?_
  refine sw_seq ?_
  refine sw_seq ?_
  -- region 2 cipher.go:63
  refine sw_region [(0, 0), (1, 0)] rfl rfl rfl ?_
  have B12 := (Bx.md (Bx.gr (Bx.gr (Bx.gr (Bx.gr Bw1 Gw2) Gw3) Gw4) Gw5) Mw6 (by omega))
  refine sd_vv rfl rfl rfl (vv_loadW agg_23 rfl B12 (by rfl)) ?_
  refine sd_ev rfl rfl rfl (ev_call en_188 rfl (keys_c _ _)) ?_
  rintro _ w7 ⟨b7, rfl, hb7, Bk7, Gw7⟩
  have z13 := Gw7.size
  have lt14 := Bk7.lt
  refine sd_done ?_
  refine sw_block ?_
  have X15 : Gr w w7 := (Gr.trans (Gr.md (Gr.trans (Gr.trans (Gr.trans (Gr.trans (Gr.trans (Gr.refl w) Gw1) Gw2) Gw3) Gw4) Gw5) Mw6 (by omega)) Gw7)
  have B16 := (Bx.gr Bw6 Gw7)
  refine sw_rangeFunc (gf := 291) (xs := keysL k) (cap := [b7]) rfl en_291 (keys_it k b7 _ Bk7) (keysL_two k) rfl (fun rk fp W => fp = [b5] ∧ Bx W b5 278 ([wv (encTo k b rk).1, wv (encTo k b rk).2])) (fun _ _ _ _ => False) [b5] (stb_box _ _ _) (fun _ => stb_false) (by simp <;> omega) (⟨rfl, B16⟩) ?_ ?_ ?_
  · rintro l rk x fp w8 hl hx ⟨rfl, Bw8⟩ Kw8 hF hln hlt
    have z17 := Kw8.size
    obtain ⟨hi, rfl⟩ := keysL_some hx
    -- region 3 cipher.go:63
    refine sw_region [(0, 0)] rfl rfl rfl ?_
    refine sd_vv rfl rfl rfl (vv_assign rfl) ?_
    refine sd_nil ?_
    refine ⟨rfl, (Gr.refl _), ?_⟩
    rintro w9 Mw9 ⟨_, Bw9⟩
    have z18 := Mw9.size
    refine sw_block ?_
    -- region 4 cipher.go:64
    refine sw_region [(0, 0), (1, 0), (2, 0), (3, 0)] rfl rfl rfl ?_
    refine sd_vv rfl rfl rfl (vv_loadW agg_278 rfl Bw9 (by rfl)) ?_
    refine sd_vv rfl rfl rfl (vv_move rfl) ?_
    refine sd_ev rfl rfl rfl (ev_call en_189 rfl (round_c _ _ _)) ?_
    rintro _ w10 ⟨rfl, Gw10⟩
    have z19 := Gw10.size
    have B20 := (Bx.gr Bw9 Gw10)
    refine sd_ev rfl rfl rfl (ev_storeW (agg_278).siz rfl rfl (by rfl) (by rfl) (by rfl) B20 (by rfl)) ?_
    rintro _ w11 ⟨Bw11, Mw11⟩
    have z21 := Mw11.size
    refine sd_nil ?_
    refine block_n ?_
    refine ⟨(Kp.md (Kp.gr (Kp.refl _ _) Gw10) Mw11 (by first | exact Or.inl (by simp) | exact Or.inr (by omega))), _, fun c hc => .inl hc, ?_⟩
    exact ⟨rfl, by rw [encTo_succ]; exact Bw11⟩
  · rintro Dw12 fp w12 hDw12 Dfw12 nw12 ⟨rfl, Bw12⟩ Kw12
    have z22 := Kw12.size
    have lt22 := Df.lt (w := w12) Dfw12
    rw [keysL_len] at Bw12
    refine block_n ?_
    refine then_n ?_
    refine sw_seq ?_
    -- region 5 cipher.go:66
    refine sw_region [(0, 0), (1, 0), (2, 0)] rfl rfl rfl ?_
    refine sd_vv rfl rfl rfl (vv_loadW agg_278 rfl Bw12 (by rfl)) ?_
    refine sd_ev rfl rfl rfl (ev_call en_190 rfl (block_c _ _)) ?_
    rintro _ w13 ⟨rfl, Gw13⟩
    have z23 := Gw13.size
    have B24 := (Bx.gr (Bx.kp (Bx.gr (Bx.md (Bx.gr (Bx.gr Bw3 Gw4) Gw5) Mw6 (by omega)) Gw7) Kw12 (by simp <;> first | omega | (split <;> omega))) Gw13)
    refine sd_ev rfl rfl rfl (ev_storeW (agg_23).siz rfl rfl (by rfl) (by rfl) (by rfl) B24 (by rfl)) ?_
    rintro _ w14 ⟨Bw14, Mw14⟩
    have z25 := Mw14.size
    refine sd_done ?_
    refine sw_ret ?_
    have DL26 := (Df.md (Df.gr Dfw12 Gw13) Mw14 (by omega))
    have L26 := Md.put (w := w14) Dw12 (.deferred none)
    have zL26 := L26.size
    have B27 := (Bx.md Bw14 L26 (by omega))
    have X28 : Gr w (w14.putObj Dw12 (.deferred none)) := (Gr.md (Gr.md (Gr.trans (Gr.kp X15 Kw12 (by simp <;> first | omega | (split <;> omega))) Gw13) Mw14 (by omega)) L26 (by omega))
    refine ⟨_, _, ⟨Dw12, rfl, DL26, rfl⟩, res_cellW rfl agg_23 rfl B27 (by rfl), ?_⟩
    exact ⟨rfl, X28⟩
  · rintro _ _ _ _ _ _ _ _ _ h _
    exact h.elim
end Go.Proofs.YtgdojjniakpadaaGreat

end
section
set_option linter.unusedVariables false
set_option linter.unusedSimpArgs false
namespace Go.Proofs.YtgdojjniakpadaaGreat
open Go Go.RowKit Go.Sx
theorem en_108 : En Tryz.prog 108 := fun _ _ => by kernel_rfl
theorem en_107 : En Tryz.prog 107 := fun _ _ => by kernel_rfl
set_option maxHeartbeats 1000000 in
theorem blockOf_c (tag : Int) (h0 : 0 ≤ tag) (h1 : tag ≤ 255) (c n : BitVec 64) (w : World) :
    Calls Tryz.prog 108 [.int .u8 tag, wv c, wv n].toArray w fun e w' => ∃ v, e = .returned v ∧ (v = kv (blk tag c n) ∧ Gr w w') := by
  refine calls_of_sw (R := fun v w' => v = kv (blk tag c n) ∧ Gr w w') 15 Tryz.func108 rfl rfl rfl ?_
  refine sw_seq ?_
  -- region 0 cipher.go:83
  refine sw_region [(0, 0)] rfl rfl rfl ?_
  refine sd_ev rfl rfl rfl (ev_alloc zv_23 (by rfl)) ?_
  rintro _ w1 ⟨b1, rfl, hbw1, Bw1, Gw1⟩
  have z1 := Gw1.size
  have lt2 := Bw1.lt
  refine sd_done ?_
  refine sw_seq ?_
  -- region 1 cipher.go:84
  refine sw_region [(0, 0), (1, 0), (2, 0), (3, 0), (4, 0), (5, 0), (6, 0), (7, 0), (8, 0)] rfl rfl rfl ?_
  refine sd_vv rfl rfl rfl (vv_move rfl) ?_
  refine sd_vv rfl rfl rfl (vv_convIU cv_5_24 rfl (by omega) (by omega)) ?_
  refine sd_vv rfl rfl rfl (vv_ushl rfl rfl (by omega)) ?_
  refine sd_vv rfl rfl rfl (vv_move rfl) ?_
  refine sd_vv rfl rfl rfl (vv_uor rfl rfl) ?_
  refine sd_vv rfl rfl rfl (vv_move rfl) ?_
  refine sd_vv rfl rfl rfl (vv_build bs_278 rfl rfl) ?_
  refine sd_ev rfl rfl rfl (ev_call en_190 rfl (block_c (blk tag c n) _)) ?_
  rintro _ w2 ⟨rfl, Gw2⟩
  have z3 := Gw2.size
  have B4 := (Bx.gr Bw1 Gw2)
  refine sd_ev rfl rfl rfl (ev_storeW (agg_23).siz rfl rfl (by rfl) (by rfl) (by rfl) B4 (by rfl)) ?_
  rintro _ w3 ⟨Bw3, Mw3⟩
  have z5 := Mw3.size
  refine sd_done ?_
  refine sw_ret ?_
  have X6 : Gr w w3 := (Gr.md (Gr.trans (Gr.trans (Gr.refl w) Gw1) Gw2) Mw3 (by omega))
  refine ⟨_, _, rfl, res_cellW rfl agg_23 rfl Bw3 (by rfl), ?_⟩
  exact ⟨rfl, X6⟩
set_option maxHeartbeats 1000000 in
theorem derive_c (k : W2) (tag : Int) (h0 : 0 ≤ tag) (h1 : tag ≤ 255) (n : BitVec 64) (w : World) :
    Calls Tryz.prog 90 [kv k, .int .u8 tag, wv n].toArray w fun e w' => ∃ v, e = .returned v ∧ (v = kv (drv k tag n) ∧ Gr w w') := by
  refine calls_of_sw (R := fun v w' => v = kv (drv k tag n) ∧ Gr w w') 12 Tryz.func90 rfl rfl rfl ?_
  refine sw_seq ?_
  -- region 0 cipher.go:88
  refine sw_region [(0, 0), (1, 0)] rfl rfl rfl ?_
  refine sd_ev rfl rfl rfl (ev_box rfl (by rfl)) ?_
  rintro _ w1 ⟨b1, rfl, hbw1, Bw1, Gw1⟩
  have z1 := Gw1.size
  have lt2 := Bw1.lt
  refine sd_ev rfl rfl rfl (ev_alloc zv_23 (by rfl)) ?_
  rintro _ w2 ⟨b2, rfl, hbw2, Bw2, Gw2⟩
  have z3 := Gw2.size
  have lt4 := Bw2.lt
  refine sd_done ?_
  refine sw_seq ?_
  -- region 1 cipher.go:88 DRAWS
  refine sw_draw [b2] [(0, 3), (1, 3), (2, 3), (3, 0), (4, 0), (5, 2)] (by kernel_rfl) (by kernel_rfl) rfl (by kernel_rfl) ?_
  intro w3 Gw3 zw3
  have B5 := (Bx.gr (Bx.gr Bw1 Gw2) Gw3)
  refine dd_h3 rfl rfl rfl (Kp.refl [b2] w3) (fun w hS => vv_loadW agg_23 rfl (Bx.kp B5 hS (by simp <;> first | omega | (split <;> omega))) (by rfl)) ?_
  refine dd_h3 rfl rfl rfl (Kp.refl [b2] w3) (fun w hS => vv_move rfl) ?_
  refine dd_h3 rfl rfl rfl (Kp.refl [b2] w3) (fun w hS => vv_move rfl) ?_
  refine dd_ev rfl rfl rfl (ev_call en_108 rfl (blockOf_c _ (by omega) (by omega) 0#64 _ _)) ?_
  rintro _ w4 ⟨rfl, Gw4⟩
  have z6 := Gw4.size
  refine ⟨Gw4, ?_⟩
  refine dd_ev rfl rfl rfl (ev_call en_107 rfl (encr_c _ _ _)) ?_
  rintro _ w5 ⟨rfl, Gw5⟩
  have z7 := Gw5.size
  refine ⟨Gw5, ?_⟩
  have B8 := (Bx.gr (Bx.gr (Bx.gr Bw2 Gw3) Gw4) Gw5)
  refine dd_st (b := b2) rfl rfl rfl rfl (ev_storeW (agg_23).siz rfl rfl (by rfl) (by rfl) (by rfl) B8 (by rfl)) (by first | exact Or.inl (by simp) | exact Or.inr (by omega)) ?_
  rintro _ w6 ⟨Bw6, Mw6⟩
  have z9 := Mw6.size
  refine ⟨Mw6, ?_⟩
  refine sd_done ?_
  refine sw_ret ?_
  have X10 : Gr w w6 := (Gr.md (Gr.trans (Gr.trans (Gr.trans (Gr.trans (Gr.trans (Gr.refl w) Gw1) Gw2) Gw3) Gw4) Gw5) Mw6 (by omega))
  refine ⟨_, _, rfl, res_cellW rfl agg_23 rfl Bw6 (by rfl), ?_⟩
  exact ⟨rfl, X10⟩
end Go.Proofs.YtgdojjniakpadaaGreat

end
