/- Mirrors: Ca. Printed by mx.py. -/
import Derived.Test.YtecempahccgijaaMirE
import Derived.Test.YtecempahccgijaaPln
set_option linter.unusedVariables false
set_option maxRecDepth 100000
namespace Go.Sx
open Go Go.RowKit
structure TGroup where
  P : BitVec 64
  Q : BitVec 64
  G : BitVec 64
deriving DecidableEq, Inhabited
def TGroup.cs (x : TGroup)  : List Value := [wv x.P, wv x.Q, wv x.G]
theorem TGroup.cs_ones (x : TGroup)   : ones (TGroup.cs x ) = true := by simp only [TGroup.cs, List.cons_append, List.nil_append, kb, ones, one_int, one_bool, one_str, cond_true]
theorem TGroup.cs_inj {x y : TGroup} (h : TGroup.cs x = TGroup.cs y) : x = y := by
  have h0 : x.P = y.P := cu_inj (congrArg (fun l => l[0]?) h)
  have h1 : x.Q = y.Q := cu_inj (congrArg (fun l => l[1]?) h)
  have h2 : x.G = y.G := cu_inj (congrArg (fun l => l[2]?) h)
  cases x; cases y; simp only at *; subst h0; subst h1; subst h2; rfl
theorem TGroup.ws (l : List TGroup) : Ws 3 (l.map TGroup.cs) := ws_map l (fun _ => rfl) (fun _ => rfl)
structure TScheme where
  Kind : BitVec 8
  Depth : Int
  Degree : Int
  Group : TGroup
deriving DecidableEq, Inhabited
def TScheme.cs (x : TScheme)  : List Value := [bv x.Kind, .int .i64 x.Depth, .int .i64 x.Degree, wv x.Group.P, wv x.Group.Q, wv x.Group.G]
theorem TScheme.cs_ones (x : TScheme)   : ones (TScheme.cs x ) = true := by simp only [TScheme.cs, List.cons_append, List.nil_append, kb, ones, one_int, one_bool, one_str, cond_true]
theorem TScheme.cs_inj {x y : TScheme} (h : TScheme.cs x = TScheme.cs y) : x = y := by
  have h0 : x.Kind = y.Kind := cb_inj (congrArg (fun l => l[0]?) h)
  have h1 : x.Depth = y.Depth := ci_inj (congrArg (fun l => l[1]?) h)
  have h2 : x.Degree = y.Degree := ci_inj (congrArg (fun l => l[2]?) h)
  have h3 : x.Group = y.Group := TGroup.cs_inj (congrArg (fun l => (l.drop 3).take 3) h)
  cases x; cases y; simp only at *; subst h0; subst h1; subst h2; subst h3; rfl
theorem TScheme.ws (l : List TScheme) : Ws 6 (l.map TScheme.cs) := ws_map l (fun _ => rfl) (fun _ => rfl)
structure Tcover_tree where
  kind : BitVec 8
  depth : Int
  stride : Int
deriving DecidableEq, Inhabited
def Tcover_tree.cs (x : Tcover_tree)  : List Value := [bv x.kind, .int .i64 x.depth, .int .i64 x.stride]
theorem Tcover_tree.cs_ones (x : Tcover_tree)   : ones (Tcover_tree.cs x ) = true := by simp only [Tcover_tree.cs, List.cons_append, List.nil_append, kb, ones, one_int, one_bool, one_str, cond_true]
theorem Tcover_tree.cs_inj {x y : Tcover_tree} (h : Tcover_tree.cs x = Tcover_tree.cs y) : x = y := by
  have h0 : x.kind = y.kind := cb_inj (congrArg (fun l => l[0]?) h)
  have h1 : x.depth = y.depth := ci_inj (congrArg (fun l => l[1]?) h)
  have h2 : x.stride = y.stride := ci_inj (congrArg (fun l => l[2]?) h)
  cases x; cases y; simp only at *; subst h0; subst h1; subst h2; rfl
theorem Tcover_tree.ws (l : List Tcover_tree) : Ws 3 (l.map Tcover_tree.cs) := ws_map l (fun _ => rfl) (fun _ => rfl)
structure TSubset where
  Node : Int
  Minus : Int
deriving DecidableEq, Inhabited
def TSubset.cs (x : TSubset)  : List Value := [.int .i64 x.Node, .int .i64 x.Minus]
theorem TSubset.cs_ones (x : TSubset)   : ones (TSubset.cs x ) = true := by simp only [TSubset.cs, List.cons_append, List.nil_append, kb, ones, one_int, one_bool, one_str, cond_true]
theorem TSubset.cs_inj {x y : TSubset} (h : TSubset.cs x = TSubset.cs y) : x = y := by
  have h0 : x.Node = y.Node := ci_inj (congrArg (fun l => l[0]?) h)
  have h1 : x.Minus = y.Minus := ci_inj (congrArg (fun l => l[1]?) h)
  cases x; cases y; simp only at *; subst h0; subst h1; rfl
theorem TSubset.ws (l : List TSubset) : Ws 2 (l.map TSubset.cs) := ws_map l (fun _ => rfl) (fun _ => rfl)
structure TLabel where
  Node : Int
  Minus : Int
  Key : W2
deriving DecidableEq, Inhabited
def TLabel.cs (x : TLabel)  : List Value := [.int .i64 x.Node, .int .i64 x.Minus] ++ (kb x.Key)
theorem TLabel.cs_ones (x : TLabel)   : ones (TLabel.cs x ) = true := by simp only [TLabel.cs, List.cons_append, List.nil_append, kb, ones, one_int, one_bool, one_str, cond_true]
theorem TLabel.cs_inj {x y : TLabel} (h : TLabel.cs x = TLabel.cs y) : x = y := by
  have h0 : x.Node = y.Node := ci_inj (congrArg (fun l => l[0]?) h)
  have h1 : x.Minus = y.Minus := ci_inj (congrArg (fun l => l[1]?) h)
  have h2 : x.Key = y.Key := kb_inj (congrArg (fun l => (l.drop 2).take 16) h)
  cases x; cases y; simp only at *; subst h0; subst h1; subst h2; rfl
theorem TLabel.ws (l : List TLabel) : Ws 18 (l.map TLabel.cs) := ws_map l (fun _ => rfl) (fun _ => rfl)
structure TPoint where
  X : BitVec 64
  Y : BitVec 64
deriving DecidableEq, Inhabited
def TPoint.cs (x : TPoint)  : List Value := [wv x.X, wv x.Y]
theorem TPoint.cs_ones (x : TPoint)   : ones (TPoint.cs x ) = true := by simp only [TPoint.cs, List.cons_append, List.nil_append, kb, ones, one_int, one_bool, one_str, cond_true]
theorem TPoint.cs_inj {x y : TPoint} (h : TPoint.cs x = TPoint.cs y) : x = y := by
  have h0 : x.X = y.X := cu_inj (congrArg (fun l => l[0]?) h)
  have h1 : x.Y = y.Y := cu_inj (congrArg (fun l => l[1]?) h)
  cases x; cases y; simp only at *; subst h0; subst h1; rfl
theorem TPoint.ws (l : List TPoint) : Ws 2 (l.map TPoint.cs) := ws_map l (fun _ => rfl) (fun _ => rfl)
structure TSecret where
  Receiver : Int
  Labels : List TLabel
  Share : TPoint
deriving DecidableEq, Inhabited
def TSecret.cs (x : TSecret) (v0 : Value) : List Value := [.int .i64 x.Receiver, v0, wv x.Share.X, wv x.Share.Y]
theorem TSecret.cs_ones (x : TSecret) (v0 : Value) (h0 : oneB v0 = true) : ones (TSecret.cs x v0) = true := by simp only [TSecret.cs, List.cons_append, List.nil_append, kb, ones, one_int, one_bool, one_str, cond_true, h0]

def cover_treeOf_L2 (p0 : TScheme) (rec2 : (Int) → Option (Tcover_tree × Bool)) (a3 : Int) : Option (Tcover_tree × Bool) := (if w64 (a3 * a3) < p0.Depth then (rec2 (w64 (a3 + 1))) else (some ((Tcover_tree.mk p0.Kind p0.Depth a3), true)))

def cover_treeOf_J1 (p0 : TScheme) (a1 : Bool) : Option (Tcover_tree × Bool) := (bif a1 then (some ((Tcover_tree.mk 0#8 0 0), false)) else (fixN (cover_treeOf_L2 p0) FUEL 1))

/-- headend/cover.treeOf -/
def cover_treeOf (p0 : TScheme) : Option (Tcover_tree × Bool) := (if p0.Kind < 1#8 then (cover_treeOf_J1 p0 true) else (if 3#8 < p0.Kind then (cover_treeOf_J1 p0 true) else (if p0.Depth < 0 then (cover_treeOf_J1 p0 true) else (if (6 : Int) < p0.Depth then (cover_treeOf_J1 p0 true) else (cover_treeOf_J1 p0 (decide (p0 ≠ (TScheme.mk p0.Kind p0.Depth 0 (TGroup.mk 0#64 0#64 0#64)))))))))

/-- headend/cover.Check -/
def cover_Check (p0 : TScheme) : Option (Int) := Option.bind (cover_treeOf p0) fun x1 => ((bif (!x1.2) then (some 30) else (some 0)))

/-- (headend/cover.tree).size -/
def cover_tree_size (p0 : Tcover_tree) : Option (Int) := Option.bind (shG p0.depth) fun n1 => ((some (shlI 1 n1)))

/-- (headend/cover.tree).has -/
def cover_tree_has (p0 : Tcover_tree) (p1 : Int) : Option (Bool) := (if (1 : Int) ≤ p1 then Option.bind (cover_tree_size p0) fun x1 => ((some (decide (p1 < w64 (2 * x1))))) else (some false))

/-- (headend/cover.node).level -/
def cover_node_level (p0 : Int) : Option (Int) := (some (w64 ((lg (un (wd p0))) - 1)))

def cover_node_below_J1 (p0 : Int) (p1 : Int) (a1 : Bool) : Option (Bool) := (bif a1 then (some false) else Option.bind (cover_node_level p0) fun x2 => (Option.bind (cover_node_level p1) fun x3 => (Option.bind (shG (w64 (x2 - x3))) fun n4 => ((some (decide (shrI p0 n4 = p1)))))))

/-- (headend/cover.node).below -/
def cover_node_below (p0 : Int) (p1 : Int) : Option (Bool) := (if p0 < 1 then (cover_node_below_J1 p0 p1 true) else (if p1 < 1 then (cover_node_below_J1 p0 p1 true) else Option.bind (cover_node_level p0) fun x5 => (Option.bind (cover_node_level p1) fun x6 => ((cover_node_below_J1 p0 p1 (decide (x5 < x6)))))))

/-- (headend/cover.tree).special -/
def cover_tree_special (p0 : Tcover_tree) (p1 : Int) : Option (Bool) := Option.bind (cover_node_level p1) fun x1 => (Option.bind (remI x1 p0.stride) fun x2 => ((some (decide (x2 = 0)))))

/-- headend/cover.path -/
def cover_path (p0 : Int) (p1 : Int) : Option (Int × Int) := (some (p0, p1))

/-- (headend/cover.node).toward -/
def cover_node_toward (p0 : Int) (p1 : Int) : Option (Int) := Option.bind (cover_node_level p1) fun x1 => (Option.bind (cover_node_level p0) fun x2 => (Option.bind (shG (w64 ((w64 (x1 - x2)) - 1))) fun n3 => ((some (shrI p1 n3)))))

def cover_path_1_L1 (p2 : Int) (rec1 : (Int) → Option (List Int)) (a2 : Int) : Option (List Int) := (if a2 ≠ p2 then Option.bind (cover_node_toward a2 p2) fun x3 => ((yl x3 ((rec1 x3)))) else (some []))

/-- headend/cover.path$1: what it yields -/
def cover_path_1 (p1 : Int) (p2 : Int) : Option (List Int) := (fixN (cover_path_1_L1 p2) FUEL p1)

def cover_first_cover_path_1_cover_tree_special_D1  (s : Int) : Option (Int) := match s with | a3 => (some 0)

def cover_first_cover_path_1_cover_tree_special_X1_0  (s : Int) : Option (Int) := match s with | a3 => (some a3)

def cover_first_cover_path_1_cover_tree_special_R1 (p1_0 : Tcover_tree) (e4 : Int) (nx1 : (Int) → Option (Int)) (s : Int) : Option (Int) := match s with | a3 => Option.bind (cover_tree_special p1_0 e4) fun x5 => ((bif x5 then (cover_first_cover_path_1_cover_tree_special_X1_0 e4) else (nx1 a3)))

/-- headend/cover.first -/
def cover_first_cover_path_1_cover_tree_special (p0_0 : Int) (p0_1 : Int) (p1_0 : Tcover_tree) : Option (Int) := Option.bind (cover_path_1 p0_0 p0_1) fun l1 => ((itL (cover_first_cover_path_1_cover_tree_special_R1 p1_0) cover_first_cover_path_1_cover_tree_special_D1 l1 0))

/-- (headend/cover.tree).cut -/
def cover_tree_cut (p0 : Tcover_tree) (p1 : Int) (p2 : Int) : Option (Int) := Option.bind (shG (un 1#64)) fun n1 => (Option.bind (cover_path p1 (shrI p2 n1)) fun x2 => (Option.bind (cover_first_cover_path_1_cover_tree_special x2.1 x2.2 p0) fun x3 => ((some x3))))

def cover_tree_subset_J2 (p0 : Tcover_tree) (p1 : TSubset) (a3 : Bool) : Option (Bool) := (bif a3 then (some false) else (if p0.kind = 2#8 then (some true) else Option.bind (cover_tree_special p0 p1.Node) fun x4 => ((bif x4 then (some true) else Option.bind (cover_tree_cut p0 p1.Node p1.Minus) fun x5 => ((some (decide (x5 = 0))))))))

def cover_tree_subset_J1 (p0 : Tcover_tree) (p1 : TSubset) (a2 : Bool) : Option (Bool) := (bif a2 then (if p1.Minus = 0 then (if p0.kind = 1#8 then (some true) else (some (decide (p1.Node = 1)))) else (some false)) else Option.bind (cover_tree_has p0 p1.Minus) fun x6 => ((bif (!x6) then (cover_tree_subset_J2 p0 p1 true) else (if p1.Minus = p1.Node then (cover_tree_subset_J2 p0 p1 true) else Option.bind (cover_node_below p1.Minus p1.Node) fun x7 => ((cover_tree_subset_J2 p0 p1 (!x7)))))))

/-- (headend/cover.tree).subset -/
def cover_tree_subset (p0 : Tcover_tree) (p1 : TSubset) : Option (Bool) := Option.bind (cover_tree_has p0 p1.Node) fun x1 => ((bif (!x1) then (some false) else (if p0.kind = 1#8 then (cover_tree_subset_J1 p0 p1 true) else (cover_tree_subset_J1 p0 p1 (decide (p1.Minus = 0))))))

def cover_enter_L1 (p1 : List TSubset) (x1 : Tcover_tree × Bool) (rec1 : (Int) → Option (Tcover_tree × Int)) (a3 : Int) : Option (Tcover_tree × Int) := (if a3 < (p1.length : Int) then Option.bind (getI p1 a3) fun y4 => (Option.bind (cover_tree_subset x1.1 y4) fun x5 => ((bif (!x5) then (some ((Tcover_tree.mk 0#8 0 0), 31)) else (rec1 (w64 (a3 + 1)))))) else (some (x1.1, 0)))

/-- headend/cover.enter -/
def cover_enter (p0 : TScheme) (p1 : List TSubset) : Option (Tcover_tree × Int) := Option.bind (cover_treeOf p0) fun x1 => ((bif (!x1.2) then (some ((Tcover_tree.mk 0#8 0 0), 30)) else (fixN (cover_enter_L1 p1 x1) FUEL 0)))

/-- (headend/cover.tree).leaf -/
def cover_tree_leaf (p0 : Tcover_tree) (p1 : Int) : Option (Int) := Option.bind (cover_tree_size p0) fun x1 => ((some (w64 (x1 + p1))))

/-- (headend/cover.tree).member -/
def cover_tree_member (p0 : Tcover_tree) (p1 : TSubset) (p2 : Int) : Option (Bool) := Option.bind (cover_tree_leaf p0 p2) fun x1 => (Option.bind (cover_node_below x1 p1.Node) fun x2 => ((bif x2 then Option.bind (cover_node_below x1 p1.Minus) fun x3 => ((some (!x3))) else (some false))))

def cover_tree_members_L1 (p0 : Tcover_tree) (p1 : TSubset) (x1 : Int) (rec1 : (List Int × Int) → Option (List Int)) (s1 : List Int × Int) : Option (List Int) := match s1 with | (a5, a7) => (if a7 < x1 then Option.bind (cover_tree_member p0 p1 a7) fun x8 => ((bif x8 then Option.bind (appG 8 a5 [a7]) fun l9 => ((rec1 (l9, w64 (a7 + 1)))) else (rec1 (a5, w64 (a7 + 1))))) else (some a5))

/-- (headend/cover.tree).members -/
def cover_tree_members (p0 : Tcover_tree) (p1 : TSubset) : Option (List Int) := Option.bind (cover_tree_size p0) fun x1 => ((fixN (cover_tree_members_L1 p0 p1 x1) FUEL ([], 0)))

/-- headend/cover.Members -/
def cover_Members (p0 : TScheme) (p1 : TSubset) : Option (List Int × Int) := Option.bind (cover_enter p0 [p1]) fun x1 => ((if x1.2 ≠ 0 then (some ([], x1.2)) else Option.bind (cover_tree_members x1.1 p1) fun x2 => ((some (x2, 0)))))

/-- headend/cover.Split$1 -/
def cover_Split_1 (p0 : Int) (p1 : Int) (p2 : Int) (p3 : Int) : Option (List TSubset × Int) := (some ([(TSubset.mk p0 p1), (TSubset.mk p2 p3)], 0))

/-- (headend/cover.node).sibling -/
def cover_node_sibling (p0 : Int) : Option (Int) := (some (bitI .xor p0 1))

def cover_Split_J1 (p1 : TSubset) (a8 : Int) : Option (List TSubset × Int) := Option.bind (cover_Split_1 p1.Node a8 a8 p1.Minus) fun x9 => ((some (x9.1, x9.2)))

/-- headend/cover.Split -/
def cover_Split (p0 : TScheme) (p1 : TSubset) : Option (List TSubset × Int) := Option.bind (cover_enter p0 [p1]) fun x1 => ((if x1.2 ≠ 0 then (some ([], x1.2)) else Option.bind (cover_tree_members x1.1 p1) fun x2 => ((if (x2.length : Int) = 1 then (some ([], 6)) else (if x1.1.kind = 1#8 then Option.bind (cover_Split_1 (w64 (2 * p1.Node)) 0 (w64 ((w64 (2 * p1.Node)) + 1)) 0) fun x3 => ((some (x3.1, x3.2))) else (if p1.Minus = 0 then Option.bind (cover_Split_1 1 2 1 3) fun x4 => ((some (x4.1, x4.2))) else Option.bind (cover_node_toward p1.Node p1.Minus) fun x5 => ((if x5 = p1.Minus then Option.bind (cover_node_sibling x5) fun x6 => (Option.bind (cover_Split_1 x6 (w64 (2 * x6)) x6 (w64 ((w64 (2 * x6)) + 1))) fun x7 => ((some (x7.1, x7.2)))) else Option.bind (cover_tree_subset x1.1 (TSubset.mk x5 p1.Minus)) fun x10 => ((bif (!x10) then Option.bind (cover_tree_cut x1.1 p1.Node p1.Minus) fun x11 => ((cover_Split_J1 p1 x11)) else (cover_Split_J1 p1 x5)))))))))))

/-- headend/cover.nodeKey -/
def cover_nodeKey (p0 : W2) (p1 : Int) : Option (W2) := (some (drv p0 (un8 30#8) (wd p1)))

def cover_descend_J2 (a4 : W2) (nx1 : (W2) → Option (W2)) (a6 : BitVec 8) : Option (W2) := (nx1 (drv a4 (un8 a6) 0#64))

def cover_descend_D1  (s : W2) : Option (W2) := match s with | a4 => (some a4)

def cover_descend_R1  (e5 : Int) (nx1 : (W2) → Option (W2)) (s : W2) : Option (W2) := match s with | a4 => Option.bind (remI e5 2) fun x7 => ((if x7 = 1 then (cover_descend_J2 a4 nx1 32#8) else (cover_descend_J2 a4 nx1 31#8)))

/-- headend/cover.descend -/
def cover_descend (p0 : W2) (p1 : Int) (p2 : Int) : Option (W2) := Option.bind (cover_path p1 p2) fun x1 => (Option.bind (cover_path_1 x1.1 x1.2) fun l2 => ((itL cover_descend_R1 cover_descend_D1 l2 p0)))

/-- headend/cover.middle -/
def cover_middle (p0 : W2) : Option (W2) := (some (drv p0 (un8 33#8) 0#64))

/-- (headend/cover.tree).key -/
def cover_tree_key (p0 : Tcover_tree) (p1 : W2) (p2 : TSubset) : Option (W2) := (if p0.kind = 1#8 then Option.bind (cover_nodeKey p1 p2.Node) fun x1 => ((some x1)) else (if p2.Minus = 0 then (some (drv p1 (un8 34#8) 0#64)) else Option.bind (cover_nodeKey p1 p2.Node) fun x2 => (Option.bind (cover_descend x2 p2.Node p2.Minus) fun x3 => (Option.bind (cover_middle x3) fun x4 => ((some x4))))))

/-- headend/cover.SubsetKey -/
def cover_SubsetKey (p0 : W2) (p1 : TScheme) (p2 : TSubset) : Option (W2 × Int) := Option.bind (cover_enter p1 [p2]) fun x1 => ((if x1.2 ≠ 0 then (some (k0, x1.2)) else Option.bind (cover_tree_key x1.1 p0 p2) fun x2 => ((some (x2, 0)))))

def cover_tree_leads_J1 (p1 : TLabel) (p2 : TSubset) (a1 : Bool) : Option (Bool) := (bif a1 then (some (decide (p1.Minus = p2.Minus))) else Option.bind (cover_node_below p1.Minus p1.Node) fun x2 => ((bif x2 then Option.bind (cover_node_below p2.Minus p1.Minus) fun x3 => ((some x3)) else (some false))))

/-- (headend/cover.tree).leads -/
def cover_tree_leads (p0 : Tcover_tree) (p1 : TLabel) (p2 : TSubset) : Option (Bool) := (if p1.Node ≠ p2.Node then (some false) else (if p0.kind = 1#8 then (cover_tree_leads_J1 p1 p2 true) else (cover_tree_leads_J1 p1 p2 (decide (p2.Minus = 0)))))

def cover_tree_find_J2 (p2 : TSubset) (y3 : TLabel) (a5 : Bool) : Option (W2 × Bool) := (bif a5 then (some (y3.Key, true)) else Option.bind (cover_descend y3.Key y3.Minus p2.Minus) fun x6 => (Option.bind (cover_middle x6) fun x7 => ((some (x7, true)))))

def cover_tree_find_L1 (p0 : Tcover_tree) (p1 : TSecret) (p2 : TSubset) (rec1 : (Int) → Option (W2 × Bool)) (a2 : Int) : Option (W2 × Bool) := (if a2 < (p1.Labels.length : Int) then Option.bind (getI p1.Labels a2) fun y3 => (Option.bind (cover_tree_leads p0 y3 p2) fun x4 => ((bif (!x4) then (rec1 (w64 (a2 + 1))) else (if p0.kind = 1#8 then (cover_tree_find_J2 p2 y3 true) else (cover_tree_find_J2 p2 y3 (decide (p2.Minus = 0))))))) else (some (k0, false)))

/-- (headend/cover.tree).find -/
def cover_tree_find (p0 : Tcover_tree) (p1 : TSecret) (p2 : TSubset) : Option (W2 × Bool) := (fixN (cover_tree_find_L1 p0 p1 p2) FUEL 0)

/-- headend/cover.Find -/
def cover_Find (p0 : TScheme) (p1 : TSecret) (p2 : TSubset) : Option (W2 × Int) := Option.bind (cover_enter p0 [p2]) fun x1 => ((if x1.2 ≠ 0 then (some (k0, x1.2)) else Option.bind (cover_tree_find x1.1 p1 p2) fun x2 => ((bif (!x2.2) then (some (k0, 6)) else (some (x2.1, 0))))))
end Go.Sx
