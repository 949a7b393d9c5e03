/- Mirrors: Ca. Printed by mx.py. -/
import Derived.Test.YtjdffpglgkefmaaGreatMirE
import Derived.Test.YtjdffpglgkefmaaGreatPln
set_option linter.unusedVariables false
set_option maxRecDepth 100000
namespace Go.Sx
open Go Go.RowKit
structure TGroup where
  P : BitVec 64
  Q : BitVec 64
  G : BitVec 64
deriving DecidableEq, Inhabited
def TGroup.cs (x : TGroup)  : List Value := [wv x.P, wv x.Q, wv x.G]
theorem TGroup.cs_ones (x : TGroup)   : ones (TGroup.cs x ) = true := by simp only [TGroup.cs, List.cons_append, List.nil_append, kb, ones, one_int, one_bool, one_str, cond_true]
theorem TGroup.cs_inj {x y : TGroup} (h : TGroup.cs x = TGroup.cs y) : x = y := by
  have h0 : x.P = y.P := cu_inj (congrArg (fun l => l[0]?) h)
  have h1 : x.Q = y.Q := cu_inj (congrArg (fun l => l[1]?) h)
  have h2 : x.G = y.G := cu_inj (congrArg (fun l => l[2]?) h)
  cases x; cases y; simp only at *; subst h0; subst h1; subst h2; rfl
theorem TGroup.ws (l : List TGroup) : Ws 3 (l.map TGroup.cs) := ws_map l (fun _ => rfl) (fun _ => rfl)
structure TScheme where
  Kind : BitVec 8
  Depth : Int
  Degree : Int
  Group : TGroup
deriving DecidableEq, Inhabited
def TScheme.cs (x : TScheme)  : List Value := [bv x.Kind, .int .i64 x.Depth, .int .i64 x.Degree, wv x.Group.P, wv x.Group.Q, wv x.Group.G]
theorem TScheme.cs_ones (x : TScheme)   : ones (TScheme.cs x ) = true := by simp only [TScheme.cs, List.cons_append, List.nil_append, kb, ones, one_int, one_bool, one_str, cond_true]
theorem TScheme.cs_inj {x y : TScheme} (h : TScheme.cs x = TScheme.cs y) : x = y := by
  have h0 : x.Kind = y.Kind := cb_inj (congrArg (fun l => l[0]?) h)
  have h1 : x.Depth = y.Depth := ci_inj (congrArg (fun l => l[1]?) h)
  have h2 : x.Degree = y.Degree := ci_inj (congrArg (fun l => l[2]?) h)
  have h3 : x.Group = y.Group := TGroup.cs_inj (congrArg (fun l => (l.drop 3).take 3) h)
  cases x; cases y; simp only at *; subst h0; subst h1; subst h2; subst h3; rfl
theorem TScheme.ws (l : List TScheme) : Ws 6 (l.map TScheme.cs) := ws_map l (fun _ => rfl) (fun _ => rfl)
structure TSubset where
  Node : Int
  Minus : Int
deriving DecidableEq, Inhabited
def TSubset.cs (x : TSubset)  : List Value := [.int .i64 x.Node, .int .i64 x.Minus]
theorem TSubset.cs_ones (x : TSubset)   : ones (TSubset.cs x ) = true := by simp only [TSubset.cs, List.cons_append, List.nil_append, kb, ones, one_int, one_bool, one_str, cond_true]
theorem TSubset.cs_inj {x y : TSubset} (h : TSubset.cs x = TSubset.cs y) : x = y := by
  have h0 : x.Node = y.Node := ci_inj (congrArg (fun l => l[0]?) h)
  have h1 : x.Minus = y.Minus := ci_inj (congrArg (fun l => l[1]?) h)
  cases x; cases y; simp only at *; subst h0; subst h1; rfl
theorem TSubset.ws (l : List TSubset) : Ws 2 (l.map TSubset.cs) := ws_map l (fun _ => rfl) (fun _ => rfl)
structure TLabel where
  Node : Int
  Minus : Int
  Key : W2
deriving DecidableEq, Inhabited
def TLabel.cs (x : TLabel)  : List Value := [.int .i64 x.Node, .int .i64 x.Minus] ++ (kb x.Key)
theorem TLabel.cs_ones (x : TLabel)   : ones (TLabel.cs x ) = true := by simp only [TLabel.cs, List.cons_append, List.nil_append, kb, ones, one_int, one_bool, one_str, cond_true]
theorem TLabel.cs_inj {x y : TLabel} (h : TLabel.cs x = TLabel.cs y) : x = y := by
  have h0 : x.Node = y.Node := ci_inj (congrArg (fun l => l[0]?) h)
  have h1 : x.Minus = y.Minus := ci_inj (congrArg (fun l => l[1]?) h)
  have h2 : x.Key = y.Key := kb_inj (congrArg (fun l => (l.drop 2).take 16) h)
  cases x; cases y; simp only at *; subst h0; subst h1; subst h2; rfl
theorem TLabel.ws (l : List TLabel) : Ws 18 (l.map TLabel.cs) := ws_map l (fun _ => rfl) (fun _ => rfl)
structure TPoint where
  X : BitVec 64
  Y : BitVec 64
deriving DecidableEq, Inhabited
def TPoint.cs (x : TPoint)  : List Value := [wv x.X, wv x.Y]
theorem TPoint.cs_ones (x : TPoint)   : ones (TPoint.cs x ) = true := by simp only [TPoint.cs, List.cons_append, List.nil_append, kb, ones, one_int, one_bool, one_str, cond_true]
theorem TPoint.cs_inj {x y : TPoint} (h : TPoint.cs x = TPoint.cs y) : x = y := by
  have h0 : x.X = y.X := cu_inj (congrArg (fun l => l[0]?) h)
  have h1 : x.Y = y.Y := cu_inj (congrArg (fun l => l[1]?) h)
  cases x; cases y; simp only at *; subst h0; subst h1; rfl
theorem TPoint.ws (l : List TPoint) : Ws 2 (l.map TPoint.cs) := ws_map l (fun _ => rfl) (fun _ => rfl)
structure TSecret where
  Receiver : Int
  Labels : List TLabel
  Share : TPoint
deriving DecidableEq, Inhabited
def TSecret.cs (x : TSecret) (v0 : Value) : List Value := [.int .i64 x.Receiver, v0, wv x.Share.X, wv x.Share.Y]
theorem TSecret.cs_ones (x : TSecret) (v0 : Value) (h0 : oneB v0 = true) : ones (TSecret.cs x v0) = true := by simp only [TSecret.cs, List.cons_append, List.nil_append, kb, ones, one_int, one_bool, one_str, cond_true, h0]
structure TItem where
  Subset : TSubset
  Box : W2
deriving DecidableEq, Inhabited
def TItem.cs (x : TItem)  : List Value := [.int .i64 x.Subset.Node, .int .i64 x.Subset.Minus] ++ (kb x.Box)
theorem TItem.cs_ones (x : TItem)   : ones (TItem.cs x ) = true := by simp only [TItem.cs, List.cons_append, List.nil_append, kb, ones, one_int, one_bool, one_str, cond_true]
theorem TItem.cs_inj {x y : TItem} (h : TItem.cs x = TItem.cs y) : x = y := by
  have h0 : x.Subset = y.Subset := TSubset.cs_inj (congrArg (fun l => (l.drop 0).take 2) h)
  have h1 : x.Box = y.Box := kb_inj (congrArg (fun l => (l.drop 2).take 16) h)
  cases x; cases y; simp only at *; subst h0; subst h1; rfl
theorem TItem.ws (l : List TItem) : Ws 18 (l.map TItem.cs) := ws_map l (fun _ => rfl) (fun _ => rfl)
structure THeader where
  Items : List TItem
  Base : BitVec 64
  Points : List TPoint
  Box : W2
  Check : W2
deriving DecidableEq, Inhabited
def THeader.cs (x : THeader) (v0 : Value) (v1 : Value) : List Value := [v0, wv x.Base, v1] ++ (kb x.Box ++ (kb x.Check))
theorem THeader.cs_ones (x : THeader) (v0 : Value) (v1 : Value) (h0 : oneB v0 = true) (h1 : oneB v1 = true) : ones (THeader.cs x v0 v1) = true := by simp only [THeader.cs, List.cons_append, List.nil_append, kb, ones, one_int, one_bool, one_str, cond_true, h0, h1]
structure Tcover_tree where
  kind : BitVec 8
  depth : Int
  stride : Int
deriving DecidableEq, Inhabited
def Tcover_tree.cs (x : Tcover_tree)  : List Value := [bv x.kind, .int .i64 x.depth, .int .i64 x.stride]
theorem Tcover_tree.cs_ones (x : Tcover_tree)   : ones (Tcover_tree.cs x ) = true := by simp only [Tcover_tree.cs, List.cons_append, List.nil_append, kb, ones, one_int, one_bool, one_str, cond_true]
theorem Tcover_tree.cs_inj {x y : Tcover_tree} (h : Tcover_tree.cs x = Tcover_tree.cs y) : x = y := by
  have h0 : x.kind = y.kind := cb_inj (congrArg (fun l => l[0]?) h)
  have h1 : x.depth = y.depth := ci_inj (congrArg (fun l => l[1]?) h)
  have h2 : x.stride = y.stride := ci_inj (congrArg (fun l => l[2]?) h)
  cases x; cases y; simp only at *; subst h0; subst h1; subst h2; rfl
theorem Tcover_tree.ws (l : List Tcover_tree) : Ws 3 (l.map Tcover_tree.cs) := ws_map l (fun _ => rfl) (fun _ => rfl)

def cover_treeOf_L2 (p0 : TScheme) (rec2 : (Int) → Option (Tcover_tree × Bool)) (a3 : Int) : Option (Tcover_tree × Bool) := (if w64 (a3 * a3) < p0.Depth then (rec2 (w64 (a3 + 1))) else (some ((Tcover_tree.mk p0.Kind p0.Depth a3), true)))

def cover_treeOf_J1 (p0 : TScheme) (a1 : Bool) : Option (Tcover_tree × Bool) := (bif a1 then (some ((Tcover_tree.mk 0#8 0 0), false)) else (fixN (cover_treeOf_L2 p0) FUEL 1))

/-- headend/cover.treeOf -/
def cover_treeOf (p0 : TScheme) : Option (Tcover_tree × Bool) := (if p0.Kind < 1#8 then (cover_treeOf_J1 p0 true) else (if 3#8 < p0.Kind then (cover_treeOf_J1 p0 true) else (if p0.Depth < 0 then (cover_treeOf_J1 p0 true) else (if (6 : Int) < p0.Depth then (cover_treeOf_J1 p0 true) else (cover_treeOf_J1 p0 (decide (p0 ≠ (TScheme.mk p0.Kind p0.Depth 0 (TGroup.mk 0#64 0#64 0#64)))))))))

/-- headend/cover.Check -/
def cover_Check (p0 : TScheme) : Option (Int) := Option.bind (cover_treeOf p0) fun x1 => ((bif (!x1.2) then (some 30) else (some 0)))
end Go.Sx
