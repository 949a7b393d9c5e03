/- Mirrors: Cl. Printed by mx.py. -/
import Derived.Test.YtjdffpglgkefmaaGreatMirE
import Derived.Test.YtjdffpglgkefmaaGreatPln
import Derived.Test.YtjdffpglgkefmaaGreatCbM
set_option linter.unusedVariables false
set_option maxRecDepth 100000
namespace Go.Sx
open Go Go.RowKit


/-- (headend/cover.tree).receiver -/
def cover_tree_receiver (p0 : Tcover_tree) (p1 : Int) : Option (Bool) := (if (0 : Int) ≤ p1 then Option.bind (cover_tree_size p0) fun x1 => ((some (decide (p1 < x1)))) else (some false))

/-- (headend/cover.tree).labels -/
def cover_tree_labels (p0 : Tcover_tree) (p1 : Int) : Option (Tcover_tree × Int) := (some (p0, p1))

/-- (headend/cover.tree).leaf -/
def cover_tree_leaf (p0 : Tcover_tree) (p1 : Int) : Option (Int) := Option.bind (cover_tree_size p0) fun x1 => ((some (w64 (x1 + p1))))

/-- (headend/cover.node).sibling -/
def cover_node_sibling (p0 : Int) : Option (Int) := (some (bitI .xor p0 1))

def cover_tree_labels_1_D2 (x1 : Int) (a2 : Int) (rec1 : (Int) → Option (List (Int × Int))) (s : Unit) : Option (List (Int × Int)) := Option.bind (cover_node_toward a2 x1) fun x10 => ((rec1 x10))

def cover_tree_labels_1_R2 (p1 : Tcover_tree) (a2 : Int) (e7 : Int) (nx2 : Unit → Option (List (Int × Int))) (s : Unit) : Option (List (Int × Int)) := Option.bind (cover_node_sibling e7) fun x8 => (Option.bind (cover_tree_subset p1 (TSubset.mk a2 x8)) fun x9 => ((bif x9 then (yl (a2, x8) ((nx2 ()))) else (nx2 ()))))

def cover_tree_labels_1_L1 (p1 : Tcover_tree) (x1 : Int) (rec1 : (Int) → Option (List (Int × Int))) (a2 : Int) : Option (List (Int × Int)) := (if a2 ≠ x1 then (if p1.kind = 1#8 then Option.bind (cover_node_toward a2 x1) fun x3 => ((yl (x3, 0) (Option.bind (cover_node_toward a2 x1) fun x4 => ((rec1 x4))))) else Option.bind (cover_path a2 x1) fun x5 => (Option.bind (cover_path_1 x5.1 x5.2) fun l6 => ((itL (cover_tree_labels_1_R2 p1 a2) (cover_tree_labels_1_D2 x1 a2 rec1) l6 ())))) else (some []))

/-- (headend/cover.tree).labels$1: what it yields -/
def cover_tree_labels_1 (p1 : Tcover_tree) (p2 : Int) : Option (List (Int × Int)) := Option.bind (cover_tree_leaf p1 p2) fun x1 => ((yl (1, 0) ((fixN (cover_tree_labels_1_L1 p1 x1) FUEL 1))))

def cover_Secret_J2 (a7 : List TLabel) (nx1 : (List TLabel) → Option (TSecret × Int)) (e9 : Int) (e10 : Int) (a11 : W2) : Option (TSecret × Int) := Option.bind (appG 32 a7 [(TLabel.mk e9 e10 a11)]) fun l12 => ((nx1 l12))

def cover_Secret_D1 (p2 : Int) (s : List TLabel) : Option (TSecret × Int) := match s with | a7 => (some ((TSecret.mk p2 a7 (TPoint.mk 0#64 0#64)), 0))

def cover_Secret_R1 (p0 : W2) (x1 : Tcover_tree × Int) (ee : Int × Int) (nx1 : (List TLabel) → Option (TSecret × Int)) (s : List TLabel) : Option (TSecret × Int) := match ee with | (e9, e10) => match s with | a7 => (if e10 = 0 then Option.bind (cover_tree_key x1.1 p0 (TSubset.mk e9 0)) fun x13 => ((cover_Secret_J2 a7 nx1 e9 e10 x13)) else Option.bind (cover_nodeKey p0 e9) fun x14 => (Option.bind (cover_descend x14 e9 e10) fun x15 => ((cover_Secret_J2 a7 nx1 e9 e10 x15))))

/-- headend/cover.Secret -/
def cover_Secret (p0 : W2) (p1 : TScheme) (p2 : Int) : Option (TSecret × Int) := Option.bind (cover_enter p1 ([] : List TSubset)) fun x1 => ((if x1.2 ≠ 0 then (some ((TSecret.mk 0 [] (TPoint.mk 0#64 0#64)), x1.2)) else Option.bind (cover_tree_receiver x1.1 p2) fun x2 => ((bif (!x2) then (some ((TSecret.mk 0 [] (TPoint.mk 0#64 0#64)), 2)) else Option.bind (cover_tree_labels x1.1 p2) fun x3 => (Option.bind (cover_tree_labels_1 x3.1 x3.2) fun l4 => ((itL (cover_Secret_R1 p0 x1) (cover_Secret_D1 p2) l4 [])))))))

/-- headend/headendref03.receiver -/
def ref03_receiver (p0 : Int) (p1 : Int) : Option (Bool) := (if (0 : Int) ≤ p1 then Option.bind (ref03_Receivers p0) fun x1 => ((some (decide (p1 < x1)))) else (some false))

def ref03_LabelsOf_L1 (x2 : List Int) (rec1 : (List TSubset × Int) → Option (List TSubset)) (s1 : List TSubset × Int) : Option (List TSubset) := match s1 with | (a6, a8) => (if a8 < (x2.length : Int) then Option.bind (getI x2 a8) fun y9 => (Option.bind (appG 16 a6 [(TSubset.mk y9 0)]) fun l10 => ((rec1 (l10, w64 (a8 + 1))))) else (some a6))

def ref03_LabelsOf_L3 (p0 : TScheme) (x2 : List Int) (a17 : Int) (rec2 : (List TSubset × Int) → Option (List TSubset)) (rec3 : (List TSubset × Int) → Option (List TSubset)) (s3 : List TSubset × Int) : Option (List TSubset) := match s3 with | (a21, a23) => (if a23 < (x2.length : Int) then Option.bind (getI x2 a17) fun y24 => (Option.bind (getI x2 a23) fun y25 => (Option.bind (ref03_IsSubset p0 (TSubset.mk y24 (bitI .xor y25 1))) fun x26 => ((bif x26 then Option.bind (appG 16 a21 [(TSubset.mk y24 (bitI .xor y25 1))]) fun l27 => ((rec3 (l27, w64 (a23 + 1)))) else (rec3 (a21, w64 (a23 + 1))))))) else (rec2 (a21, w64 (a17 + 1))))

def ref03_LabelsOf_L2 (p0 : TScheme) (x2 : List Int) (rec2 : (List TSubset × Int) → Option (List TSubset)) (s2 : List TSubset × Int) : Option (List TSubset) := match s2 with | (a15, a17) => (if a17 < (x2.length : Int) then (fixN (ref03_LabelsOf_L3 p0 x2 a17 rec2) FUEL (a15, w64 (a17 + 1))) else (some a15))

/-- headend/headendref03.LabelsOf -/
def ref03_LabelsOf (p0 : TScheme) (p1 : Int) : Option (List TSubset) := Option.bind (ref03_Receivers p0.Depth) fun x1 => (Option.bind (ref03_Path 1 (w64 (x1 + p1))) fun x2 => ((if p0.Kind = 1#8 then (fixN (ref03_LabelsOf_L1 x2) FUEL ([], 0)) else Option.bind (appG 16 [] [(TSubset.mk 1 0)]) fun l11 => ((fixN (ref03_LabelsOf_L2 p0 x2) FUEL (l11, 0))))))

def ref03_SecretOf_J3 (x1 : List TSubset) (a5 : Int) (a6 : List TLabel) (rec1 : (Int × List TLabel) → Option (TSecret)) (a10 : W2) : Option (TSecret) := Option.bind (getI x1 a5) fun y11 => (Option.bind (getI x1 a5) fun y12 => (Option.bind (appG 32 a6 [(TLabel.mk y11.Node y12.Minus a10)]) fun l13 => ((rec1 (w64 (a5 + 1), l13)))))

def ref03_SecretOf_J2 (p0 : W2) (x1 : List TSubset) (a5 : Int) (a6 : List TLabel) (rec1 : (Int × List TLabel) → Option (TSecret)) (a9 : W2) : Option (TSecret) := Option.bind (getI x1 a5) fun y14 => ((if y14.Minus ≠ 0 then Option.bind (getI x1 a5) fun y15 => (Option.bind (getI x1 a5) fun y16 => (Option.bind (ref03_label p0 y15.Node y16.Minus) fun x17 => ((ref03_SecretOf_J3 x1 a5 a6 rec1 x17)))) else (ref03_SecretOf_J3 x1 a5 a6 rec1 a9)))

def ref03_SecretOf_L1 (p0 : W2) (p1 : TScheme) (p2 : Int) (x1 : List TSubset) (rec1 : (Int × List TLabel) → Option (TSecret)) (s1 : Int × List TLabel) : Option (TSecret) := match s1 with | (a5, a6) => (if a5 < (x1.length : Int) then Option.bind (getI x1 a5) fun y18 => (Option.bind (ref03_KeyOf p0 p1 y18) fun x19 => ((ref03_SecretOf_J2 p0 x1 a5 a6 rec1 x19))) else (some (TSecret.mk p2 a6 (TPoint.mk 0#64 0#64))))

/-- headend/headendref03.SecretOf -/
def ref03_SecretOf (p0 : W2) (p1 : TScheme) (p2 : Int) : Option (TSecret) := Option.bind (ref03_LabelsOf p1 p2) fun x1 => ((fixN (ref03_SecretOf_L1 p0 p1 p2 x1) FUEL (0, [])))

/-- headend/headendref03.Secret -/
def ref03_Secret (p0 : W2) (p1 : TScheme) (p2 : Int) : Option (TSecret × Int) := Option.bind (ref03_Valid p1) fun x1 => ((bif (!x1) then (some ((TSecret.mk 0 [] (TPoint.mk 0#64 0#64)), 30)) else Option.bind (ref03_receiver p1.Depth p2) fun x2 => ((bif (!x2) then (some ((TSecret.mk 0 [] (TPoint.mk 0#64 0#64)), 2)) else Option.bind (ref03_SecretOf p0 p1 p2) fun x3 => ((some (x3, 0)))))))
end Go.Sx
