/- Mirrors: Cc. Printed by mx.py. -/
import Derived.Test.YtjdffpglgkefmaaGreatMirE
import Derived.Test.YtjdffpglgkefmaaGreatPln
import Derived.Test.YtjdffpglgkefmaaGreatWd
import Derived.Test.YtjdffpglgkefmaaGreatClM
set_option linter.unusedVariables false
set_option maxRecDepth 100000
namespace Go.Sx
open Go Go.RowKit
noncomputable section


def cover_tree_list_J2 (a2 : Int) (rec1 : (Int) → Option (Bool)) (a4 : Bool) : Option (Bool) := (bif a4 then (some false) else (rec1 (w64 (a2 + 1))))

def cover_tree_list_L1 (p0 : Tcover_tree) (p1 : List Int) (rec1 : (Int) → Option (Bool)) (a2 : Int) : Option (Bool) := (if a2 < (p1.length : Int) then Option.bind (getI p1 a2) fun y3 => (Option.bind (cover_tree_receiver p0 y3) fun x5 => ((bif (!x5) then (cover_tree_list_J2 a2 rec1 true) else (if (0 : Int) < a2 then Option.bind (getI p1 (w64 (a2 - 1))) fun y6 => ((cover_tree_list_J2 a2 rec1 (decide (y3 ≤ y6)))) else (cover_tree_list_J2 a2 rec1 false))))) else (some true))

/-- (headend/cover.tree).list -/
def cover_tree_list (p0 : Tcover_tree) (p1 : List Int) : Option (Bool) := (fixN (cover_tree_list_L1 p0 p1) FUEL 0)

/-- headend/cover.Cover$1 -/
def cover_Cover_1 (p0 : Int) (p1 : Int) (p2 : List TSubset) : Option (List TSubset) := Option.bind (appG 16 p2 [(TSubset.mk p0 p1)]) fun l1 => ((some l1))

def cover_Cover_L2 (a5 : Int) (rec1 : (Int × List Int) → Option (List TSubset × Int)) (rec2 : (Int × List Int) → Option (List TSubset × Int)) (s2 : Int × List Int) : Option (List TSubset × Int) := match s2 with | (a11, a12) => (if (0 : Int) < a11 then Option.bind (shG (un 1#64)) fun n13 => ((rec2 (shrI a11 n13, insS a12 a11))) else (rec1 (w64 (a5 + 1), a12)))

def cover_Cover_J4 (a16 : List TSubset) (nx3 : (List TSubset) → Option (List TSubset × Int)) (k18 : Int) (a20 : Bool) : Option (List TSubset × Int) := (bif a20 then Option.bind (cover_node_sibling k18) fun x21 => (Option.bind (cover_Cover_1 x21 0 a16) fun x22 => ((nx3 x22))) else (nx3 a16))

def cover_Cover_J7 (nx3 : (List TSubset) → Option (List TSubset × Int)) (a26 : Int) (a27 : Int) (a28 : List TSubset) : Option (List TSubset × Int) := Option.bind (cover_Cover_1 a27 a26 a28) fun x30 => ((nx3 x30))

def cover_Cover_J8 (a16 : List TSubset) (nx3 : (List TSubset) → Option (List TSubset × Int)) (k18 : Int) (a26 : Int) (x31 : Int) (a32 : Bool) : Option (List TSubset × Int) := (bif a32 then Option.bind (cover_Cover_1 k18 x31 a16) fun x33 => ((cover_Cover_J7 nx3 a26 x31 x33)) else (cover_Cover_J7 nx3 a26 k18 a16))

def cover_Cover_L6 (x1 : Tcover_tree × Int) (a6 : List Int) (a16 : List TSubset) (nx3 : (List TSubset) → Option (List TSubset × Int)) (k18 : Int) (rec6 : (Int) → Option (List TSubset × Int)) (a26 : Int) : Option (List TSubset × Int) := (bif ((decide ((w64 (2 * a26)) ∈ a6)) != (decide ((w64 ((w64 (2 * a26)) + 1)) ∈ a6))) then (if ¬ ((w64 (a26 * 2)) ∈ a6) then (rec6 (w64 ((w64 (a26 * 2)) + 1))) else (rec6 (w64 (a26 * 2)))) else (if a26 = k18 then (nx3 a16) else Option.bind (cover_tree_cut x1.1 k18 a26) fun x31 => ((if x31 ≠ 0 then (if x1.1.kind = 3#8 then Option.bind (cover_tree_special x1.1 k18) fun x34 => ((cover_Cover_J8 a16 nx3 k18 a26 x31 (!x34))) else (cover_Cover_J8 a16 nx3 k18 a26 x31 false)) else (cover_Cover_J8 a16 nx3 k18 a26 x31 false)))))

def cover_Cover_J5 (x1 : Tcover_tree × Int) (a6 : List Int) (a16 : List TSubset) (nx3 : (List TSubset) → Option (List TSubset × Int)) (k18 : Int) (a24 : Bool) : Option (List TSubset × Int) := (bif a24 then (nx3 a16) else (fixN (cover_Cover_L6 x1 a6 a16 nx3 k18) FUEL k18))

def cover_Cover_E3  (a16 : List TSubset) : Option (List TSubset × Int) := Option.bind (srtBy TSubset.Node a16) fun l19 => ((some (l19, 0)))

def cover_Cover_S3 (x1 : Tcover_tree × Int) (a6 : List Int) (k18 : Int) (nx3 : (List TSubset) → Option (List TSubset × Int)) (a16 : List TSubset) : Option (List TSubset × Int) := (if x1.1.kind = 1#8 then (if (1 : Int) < k18 then Option.bind (cover_node_sibling k18) fun x23 => ((cover_Cover_J4 a16 nx3 k18 (decide (¬ (x23 ∈ a6))))) else (cover_Cover_J4 a16 nx3 k18 false)) else (if (1 : Int) < k18 then Option.bind (cover_node_sibling k18) fun x35 => ((cover_Cover_J5 x1 a6 a16 nx3 k18 (decide (¬ (x35 ∈ a6))))) else (cover_Cover_J5 x1 a6 a16 nx3 k18 false)))

def cover_Cover_L1 (p1 : List Int) (x1 : Tcover_tree × Int) (rec1 : (Int × List Int) → Option (List TSubset × Int)) (s1 : Int × List Int) : Option (List TSubset × Int) := match s1 with | (a5, a6) => (if a5 < (p1.length : Int) then Option.bind (getI p1 a5) fun y7 => (Option.bind (cover_tree_leaf x1.1 y7) fun x8 => ((fixN (cover_Cover_L2 a5 rec1) FUEL (x8, a6)))) else (rngM (cover_Cover_S3 x1 a6) cover_Cover_E3 FUEL a6 []))

/-- headend/cover.Cover -/
def cover_Cover (p0 : TScheme) (p1 : List Int) : Option (List TSubset × Int) := Option.bind (cover_enter p0 ([] : List TSubset)) fun x1 => ((if x1.2 ≠ 0 then (some ([], x1.2)) else Option.bind (cover_tree_list x1.1 p1) fun x2 => ((bif (!x2) then (some ([], 2)) else (if (p1.length : Int) = 0 then (some ([(TSubset.mk 1 0)], 0)) else (fixN (cover_Cover_L1 p1 x1) FUEL (0, [])))))))

def ref03_IsList_J2 (a2 : Int) (rec1 : (Int) → Option (Bool)) (a3 : Bool) : Option (Bool) := (bif a3 then (some false) else (rec1 (w64 (a2 + 1))))

def ref03_IsList_L1 (p0 : Int) (p1 : List Int) (rec1 : (Int) → Option (Bool)) (a2 : Int) : Option (Bool) := (if a2 < (p1.length : Int) then Option.bind (getI p1 a2) fun y4 => ((if y4 < 0 then (ref03_IsList_J2 a2 rec1 true) else Option.bind (getI p1 a2) fun y5 => (Option.bind (ref03_Receivers p0) fun x6 => ((if x6 ≤ y5 then (ref03_IsList_J2 a2 rec1 true) else (if (0 : Int) < a2 then Option.bind (getI p1 a2) fun y7 => (Option.bind (getI p1 (w64 (a2 - 1))) fun y8 => ((ref03_IsList_J2 a2 rec1 (decide (y7 ≤ y8))))) else (ref03_IsList_J2 a2 rec1 false))))))) else (some true))

/-- headend/headendref03.IsList -/
def ref03_IsList (p0 : Int) (p1 : List Int) : Option (Bool) := (fixN (ref03_IsList_L1 p0 p1) FUEL 0)

def ref03_hot_L1 (p0 : Int) (p1 : List Int) (p2 : Int) (rec1 : (Int) → Option (Bool)) (a2 : Int) : Option (Bool) := (if a2 < (p1.length : Int) then Option.bind (getI p1 a2) fun y3 => (Option.bind (ref03_Receivers p0) fun x4 => (Option.bind (ref03_Below (w64 (x4 + y3)) p2) fun x5 => ((bif x5 then (some true) else (rec1 (w64 (a2 + 1))))))) else (some false))

/-- headend/headendref03.hot -/
def ref03_hot (p0 : Int) (p1 : List Int) (p2 : Int) : Option (Bool) := (fixN (ref03_hot_L1 p0 p1 p2) FUEL 0)

def ref03_foot_J2 (p0 : Int) (p1 : List Int) (a2 : Int) (rec1 : (Int) → Option (Int)) (a3 : Bool) : Option (Int) := (bif a3 then Option.bind (ref03_hot p0 p1 (w64 (2 * a2))) fun x4 => ((bif x4 then (rec1 (w64 (2 * a2))) else (rec1 (w64 ((w64 (2 * a2)) + 1))))) else (some a2))

def ref03_foot_L1 (p0 : Int) (p1 : List Int) (rec1 : (Int) → Option (Int)) (a2 : Int) : Option (Int) := Option.bind (ref03_Receivers p0) fun x5 => ((if a2 < x5 then Option.bind (ref03_hot p0 p1 (w64 (2 * a2))) fun x6 => (Option.bind (ref03_hot p0 p1 (w64 ((w64 (2 * a2)) + 1))) fun x7 => ((ref03_foot_J2 p0 p1 a2 rec1 (x6 != x7)))) else (ref03_foot_J2 p0 p1 a2 rec1 false)))

/-- headend/headendref03.foot -/
def ref03_foot (p0 : Int) (p1 : List Int) (p2 : Int) : Option (Int) := (fixN (ref03_foot_L1 p0 p1) FUEL p2)

def ref03_insert_J2 (p0 : List TSubset) (p1 : TSubset) (a2 : Int) (rec1 : (Int) → Option (List TSubset)) (a3 : Bool) : Option (List TSubset) := (bif a3 then (rec1 (w64 (a2 + 1))) else Option.bind (sliG p0 0 a2) fun l4 => (Option.bind (appG 16 [] l4) fun l5 => (Option.bind (appG 16 l5 [p1]) fun l6 => (Option.bind (sliG p0 a2 (p0.length : Int)) fun l7 => (Option.bind (appG 16 l6 l7) fun l8 => ((some l8)))))))

def ref03_insert_L1 (p0 : List TSubset) (p1 : TSubset) (rec1 : (Int) → Option (List TSubset)) (a2 : Int) : Option (List TSubset) := (if a2 < (p0.length : Int) then Option.bind (getI p0 a2) fun y9 => ((ref03_insert_J2 p0 p1 a2 rec1 (decide (y9.Node < p1.Node)))) else (ref03_insert_J2 p0 p1 a2 rec1 false))

/-- headend/headendref03.insert -/
def ref03_insert (p0 : List TSubset) (p1 : TSubset) : Option (List TSubset) := (fixN (ref03_insert_L1 p0 p1) FUEL 0)

def ref03_CoverOf_J3 (a5 : List TSubset) (a7 : Int) (rec2 : (List TSubset × Int) → Option (List TSubset)) (a10 : Bool) : Option (List TSubset) := (bif a10 then Option.bind (appG 16 a5 [(TSubset.mk a7 0)]) fun l11 => ((rec2 (l11, w64 (a7 + 1)))) else (rec2 (a5, w64 (a7 + 1))))

def ref03_CoverOf_J4 (p0 : TScheme) (p1 : List Int) (a5 : List TSubset) (a7 : Int) (rec2 : (List TSubset × Int) → Option (List TSubset)) (a14 : Bool) : Option (List TSubset) := (bif a14 then (rec2 (a5, w64 (a7 + 1))) else Option.bind (ref03_foot p0.Depth p1 a7) fun x15 => ((if x15 = a7 then (rec2 (a5, w64 (a7 + 1))) else Option.bind (ref03_IsSubset p0 (TSubset.mk a7 x15)) fun x16 => ((bif x16 then Option.bind (ref03_insert a5 (TSubset.mk a7 x15)) fun x17 => ((rec2 (x17, w64 (a7 + 1)))) else Option.bind (ref03_between p0.Depth a7 x15) fun x18 => (Option.bind (ref03_insert a5 (TSubset.mk a7 x18)) fun x19 => (Option.bind (ref03_insert x19 (TSubset.mk x18 x15)) fun x20 => ((rec2 (x20, w64 (a7 + 1)))))))))))

def ref03_CoverOf_L2 (p0 : TScheme) (p1 : List Int) (rec2 : (List TSubset × Int) → Option (List TSubset)) (s2 : List TSubset × Int) : Option (List TSubset) := match s2 with | (a5, a7) => Option.bind (ref03_Receivers p0.Depth) fun x8 => ((if a7 < w64 (2 * x8) then Option.bind (ref03_hot p0.Depth p1 a7) fun x9 => ((if p0.Kind = 1#8 then (bif (!x9) then (if a7 = 1 then (ref03_CoverOf_J3 a5 a7 rec2 true) else Option.bind (quoI a7 2) fun x12 => (Option.bind (ref03_hot p0.Depth p1 x12) fun x13 => ((ref03_CoverOf_J3 a5 a7 rec2 x13)))) else (ref03_CoverOf_J3 a5 a7 rec2 false)) else (bif (!x9) then (ref03_CoverOf_J4 p0 p1 a5 a7 rec2 true) else (if (1 : Int) < a7 then Option.bind (ref03_hot p0.Depth p1 (bitI .xor a7 1)) fun x21 => ((ref03_CoverOf_J4 p0 p1 a5 a7 rec2 (!x21))) else (ref03_CoverOf_J4 p0 p1 a5 a7 rec2 false))))) else (some a5)))

def ref03_CoverOf_J1 (p0 : TScheme) (p1 : List Int) (a1 : Bool) : Option (List TSubset) := (bif a1 then (some [(TSubset.mk 1 0)]) else (fixN (ref03_CoverOf_L2 p0 p1) FUEL ([], 1)))

/-- headend/headendref03.CoverOf -/
def ref03_CoverOf (p0 : TScheme) (p1 : List Int) : Option (List TSubset) := (if p0.Kind ≠ 1#8 then (ref03_CoverOf_J1 p0 p1 (decide ((p1.length : Int) = 0))) else (ref03_CoverOf_J1 p0 p1 false))

/-- headend/headendref03.Cover -/
def ref03_Cover (p0 : TScheme) (p1 : List Int) : Option (List TSubset × Int) := Option.bind (ref03_Valid p0) fun x1 => ((bif (!x1) then (some ([], 30)) else Option.bind (ref03_IsList p0.Depth p1) fun x2 => ((bif (!x2) then (some ([], 2)) else Option.bind (ref03_CoverOf p0 p1) fun x3 => ((some (x3, 0)))))))
end
end Go.Sx
