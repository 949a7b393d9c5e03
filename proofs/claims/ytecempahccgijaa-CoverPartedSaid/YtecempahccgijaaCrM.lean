/- Mirrors: Cr. Printed by mx.py. -/
import Derived.Test.YtecempahccgijaaMirE
import Derived.Test.YtecempahccgijaaPln
import Derived.Test.YtecempahccgijaaCaM
set_option linter.unusedVariables false
set_option maxRecDepth 100000
namespace Go.Sx
open Go Go.RowKit
structure TItem where
  Subset : TSubset
  Box : W2
deriving DecidableEq, Inhabited
def TItem.cs (x : TItem)  : List Value := [.int .i64 x.Subset.Node, .int .i64 x.Subset.Minus] ++ (kb x.Box)
theorem TItem.cs_ones (x : TItem)   : ones (TItem.cs x ) = true := by simp only [TItem.cs, List.cons_append, List.nil_append, kb, ones, one_int, one_bool, one_str, cond_true]
theorem TItem.cs_inj {x y : TItem} (h : TItem.cs x = TItem.cs y) : x = y := by
  have h0 : x.Subset = y.Subset := TSubset.cs_inj (congrArg (fun l => (l.drop 0).take 2) h)
  have h1 : x.Box = y.Box := kb_inj (congrArg (fun l => (l.drop 2).take 16) h)
  cases x; cases y; simp only at *; subst h0; subst h1; rfl
theorem TItem.ws (l : List TItem) : Ws 18 (l.map TItem.cs) := ws_map l (fun _ => rfl) (fun _ => rfl)
structure THeader where
  Items : List TItem
  Base : BitVec 64
  Points : List TPoint
  Box : W2
  Check : W2
deriving DecidableEq, Inhabited
def THeader.cs (x : THeader) (v0 : Value) (v1 : Value) : List Value := [v0, wv x.Base, v1] ++ (kb x.Box ++ (kb x.Check))
theorem THeader.cs_ones (x : THeader) (v0 : Value) (v1 : Value) (h0 : oneB v0 = true) (h1 : oneB v1 = true) : ones (THeader.cs x v0 v1) = true := by simp only [THeader.cs, List.cons_append, List.nil_append, kb, ones, one_int, one_bool, one_str, cond_true, h0, h1]

/-- headend/headendref03.Valid -/
def ref03_Valid (p0 : TScheme) : Option (Bool) := (if 1#8 ≤ p0.Kind then (if p0.Kind ≤ 3#8 then (if (0 : Int) ≤ p0.Depth then (if p0.Depth ≤ 6 then (if p0.Degree = 0 then (some (decide (p0.Group = (TGroup.mk 0#64 0#64 0#64)))) else (some false)) else (some false)) else (some false)) else (some false)) else (some false))

/-- headend/headendref03.Check -/
def ref03_Check (p0 : TScheme) : Option (Int) := Option.bind (ref03_Valid p0) fun x1 => ((bif (!x1) then (some 30) else (some 0)))

def ref03_Receivers_L1 (p0 : Int) (rec1 : (Int × Int) → Option (Int)) (s1 : Int × Int) : Option (Int) := match s1 with | (a3, a4) => (if a4 < p0 then (rec1 (w64 (2 * a3), w64 (a4 + 1))) else (some a3))

/-- headend/headendref03.Receivers -/
def ref03_Receivers (p0 : Int) : Option (Int) := (fixN (ref03_Receivers_L1 p0) FUEL (1, 0))

/-- headend/headendref03.Node -/
def ref03_Node (p0 : Int) (p1 : Int) : Option (Bool) := (if (1 : Int) ≤ p1 then Option.bind (ref03_Receivers p0) fun x1 => ((some (decide (p1 < w64 (2 * x1))))) else (some false))

def ref03_Below_L1 (p1 : Int) (rec1 : (Int) → Option (Bool)) (a2 : Int) : Option (Bool) := (if p1 < a2 then Option.bind (quoI a2 2) fun x3 => ((rec1 x3)) else (some (decide (a2 = p1))))

/-- headend/headendref03.Below -/
def ref03_Below (p0 : Int) (p1 : Int) : Option (Bool) := (fixN (ref03_Below_L1 p1) FUEL p0)

def ref03_Level_L1  (rec1 : (Int × Int) → Option (Int)) (s1 : Int × Int) : Option (Int) := match s1 with | (a3, a4) => (if (1 : Int) < a3 then Option.bind (quoI a3 2) fun x5 => ((rec1 (x5, w64 (a4 + 1)))) else (some a4))

/-- headend/headendref03.Level -/
def ref03_Level (p0 : Int) : Option (Int) := (fixN (ref03_Level_L1) FUEL (p0, 0))

def ref03_Stride_L1 (p0 : Int) (rec1 : (Int) → Option (Int)) (a2 : Int) : Option (Int) := (if w64 (a2 * a2) < p0 then (rec1 (w64 (a2 + 1))) else (some a2))

/-- headend/headendref03.Stride -/
def ref03_Stride (p0 : Int) : Option (Int) := (fixN (ref03_Stride_L1 p0) FUEL 1)

/-- headend/headendref03.Special -/
def ref03_Special (p0 : Int) (p1 : Int) : Option (Bool) := Option.bind (ref03_Level p1) fun x1 => (Option.bind (ref03_Stride p0) fun x2 => (Option.bind (remI x1 x2) fun x3 => ((some (decide (x3 = 0))))))

def ref03_Path_L1 (p0 : Int) (rec1 : (Int × List Int) → Option (List Int)) (s1 : Int × List Int) : Option (List Int) := match s1 with | (a4, a5) => (if a4 ≠ p0 then Option.bind (appG 8 [a4] a5) fun l7 => (Option.bind (quoI a4 2) fun x8 => ((rec1 (x8, l7)))) else Option.bind (appG 8 [p0] a5) fun l9 => ((some l9)))

/-- headend/headendref03.Path -/
def ref03_Path (p0 : Int) (p1 : Int) : Option (List Int) := (fixN (ref03_Path_L1 p0) FUEL (p1, []))

def ref03_between_L1 (p0 : Int) (x1 : List Int) (rec1 : (Int) → Option (Int)) (a3 : Int) : Option (Int) := (if a3 < w64 ((x1.length : Int) - 1) then Option.bind (getI x1 a3) fun y4 => (Option.bind (ref03_Special p0 y4) fun x5 => ((bif x5 then Option.bind (getI x1 a3) fun y6 => ((some y6)) else (rec1 (w64 (a3 + 1)))))) else (some 0))

/-- headend/headendref03.between -/
def ref03_between (p0 : Int) (p1 : Int) (p2 : Int) : Option (Int) := Option.bind (ref03_Path p1 p2) fun x1 => ((fixN (ref03_between_L1 p0 x1) FUEL 1))

def ref03_IsSubset_J1 (p0 : TScheme) (p1 : TSubset) (a2 : Bool) : Option (Bool) := (bif a2 then (some false) else (if p0.Kind = 2#8 then (some true) else Option.bind (ref03_Special p0.Depth p1.Node) fun x3 => ((bif x3 then (some true) else Option.bind (ref03_between p0.Depth p1.Node p1.Minus) fun x4 => ((some (decide (x4 = 0))))))))

/-- headend/headendref03.IsSubset -/
def ref03_IsSubset (p0 : TScheme) (p1 : TSubset) : Option (Bool) := Option.bind (ref03_Node p0.Depth p1.Node) fun x1 => ((bif (!x1) then (some false) else (if p0.Kind = 1#8 then (some (decide (p1.Minus = 0))) else (if p1.Minus = 0 then (some (decide (p1.Node = 1))) else Option.bind (ref03_Node p0.Depth p1.Minus) fun x5 => ((bif (!x5) then (ref03_IsSubset_J1 p0 p1 true) else (if p1.Minus = p1.Node then (ref03_IsSubset_J1 p0 p1 true) else Option.bind (ref03_Below p1.Minus p1.Node) fun x6 => ((ref03_IsSubset_J1 p0 p1 (!x6))))))))))

/-- headend/headendref03.Has -/
def ref03_Has (p0 : TScheme) (p1 : TSubset) (p2 : Int) : Option (Bool) := Option.bind (ref03_Receivers p0.Depth) fun x1 => (Option.bind (ref03_Below (w64 (x1 + p2)) p1.Node) fun x2 => ((bif x2 then (if p1.Minus = 0 then (some true) else Option.bind (ref03_Below (w64 (x1 + p2)) p1.Minus) fun x3 => ((some (!x3)))) else (some false))))

def ref03_MembersOf_L1 (p0 : TScheme) (p1 : TSubset) (rec1 : (List Int × Int) → Option (List Int)) (s1 : List Int × Int) : Option (List Int) := match s1 with | (a4, a6) => Option.bind (ref03_Receivers p0.Depth) fun x7 => ((if a6 < x7 then Option.bind (ref03_Has p0 p1 a6) fun x8 => ((bif x8 then Option.bind (appG 8 a4 [a6]) fun l9 => ((rec1 (l9, w64 (a6 + 1)))) else (rec1 (a4, w64 (a6 + 1))))) else (some a4)))

/-- headend/headendref03.MembersOf -/
def ref03_MembersOf (p0 : TScheme) (p1 : TSubset) : Option (List Int) := (fixN (ref03_MembersOf_L1 p0 p1) FUEL ([], 0))

/-- headend/headendref03.Members -/
def ref03_Members (p0 : TScheme) (p1 : TSubset) : Option (List Int × Int) := Option.bind (ref03_Valid p0) fun x1 => ((bif (!x1) then (some ([], 30)) else Option.bind (ref03_IsSubset p0 p1) fun x2 => ((bif (!x2) then (some ([], 31)) else Option.bind (ref03_MembersOf p0 p1) fun x3 => ((some (x3, 0)))))))

def ref03_SameInts_L1 (p0 : List Int) (p1 : List Int) (rec1 : (Int) → Option (Bool)) (a2 : Int) : Option (Bool) := (if a2 < (p0.length : Int) then Option.bind (getI p0 a2) fun y3 => (Option.bind (getI p1 a2) fun y4 => ((if y3 ≠ y4 then (some false) else (rec1 (w64 (a2 + 1)))))) else (some true))

/-- headend/headendref03.SameInts -/
def ref03_SameInts (p0 : List Int) (p1 : List Int) : Option (Bool) := (if (p0.length : Int) ≠ (p1.length : Int) then (some false) else (fixN (ref03_SameInts_L1 p0 p1) FUEL 0))

def ref03_SameSubsets_L1 (p0 : List TSubset) (p1 : List TSubset) (rec1 : (Int) → Option (Bool)) (a2 : Int) : Option (Bool) := (if a2 < (p0.length : Int) then Option.bind (getI p0 a2) fun y3 => (Option.bind (getI p1 a2) fun y4 => ((if y3 ≠ y4 then (some false) else (rec1 (w64 (a2 + 1)))))) else (some true))

/-- headend/headendref03.SameSubsets -/
def ref03_SameSubsets (p0 : List TSubset) (p1 : List TSubset) : Option (Bool) := (if (p0.length : Int) ≠ (p1.length : Int) then (some false) else (fixN (ref03_SameSubsets_L1 p0 p1) FUEL 0))

def ref03_SameSecret_L2 (p0 : TSecret) (p1 : TSecret) (rec2 : (Int) → Option (Bool)) (a3 : Int) : Option (Bool) := (if a3 < (p0.Labels.length : Int) then Option.bind (getI p0.Labels a3) fun y4 => (Option.bind (getI p1.Labels a3) fun y5 => ((if y4 ≠ y5 then (some false) else (rec2 (w64 (a3 + 1)))))) else (some true))

def ref03_SameSecret_J1 (p0 : TSecret) (p1 : TSecret) (a1 : Bool) : Option (Bool) := (bif a1 then (some false) else (fixN (ref03_SameSecret_L2 p0 p1) FUEL 0))

/-- headend/headendref03.SameSecret -/
def ref03_SameSecret (p0 : TSecret) (p1 : TSecret) : Option (Bool) := (if p0.Receiver ≠ p1.Receiver then (ref03_SameSecret_J1 p0 p1 true) else (if p0.Share ≠ p1.Share then (ref03_SameSecret_J1 p0 p1 true) else (ref03_SameSecret_J1 p0 p1 (decide ((p0.Labels.length : Int) ≠ (p1.Labels.length : Int))))))

def ref03_SameHeader_L3 (p0 : THeader) (p1 : THeader) (rec3 : (Int) → Option (Bool)) (a7 : Int) : Option (Bool) := (if a7 < (p0.Points.length : Int) then Option.bind (getI p0.Points a7) fun y8 => (Option.bind (getI p1.Points a7) fun y9 => ((if y8 ≠ y9 then (some false) else (rec3 (w64 (a7 + 1)))))) else (some true))

def ref03_SameHeader_L2 (p0 : THeader) (p1 : THeader) (rec2 : (Int) → Option (Bool)) (a3 : Int) : Option (Bool) := (if a3 < (p0.Items.length : Int) then Option.bind (getI p0.Items a3) fun y4 => (Option.bind (getI p1.Items a3) fun y5 => ((if y4 ≠ y5 then (some false) else (rec2 (w64 (a3 + 1)))))) else (fixN (ref03_SameHeader_L3 p0 p1) FUEL 0))

def ref03_SameHeader_J1 (p0 : THeader) (p1 : THeader) (a1 : Bool) : Option (Bool) := (bif a1 then (some false) else (fixN (ref03_SameHeader_L2 p0 p1) FUEL 0))

/-- headend/headendref03.SameHeader -/
def ref03_SameHeader (p0 : THeader) (p1 : THeader) : Option (Bool) := (if (p0.Items.length : Int) ≠ (p1.Items.length : Int) then (ref03_SameHeader_J1 p0 p1 true) else (if (p0.Points.length : Int) ≠ (p1.Points.length : Int) then (ref03_SameHeader_J1 p0 p1 true) else (if p0.Base ≠ p1.Base then (ref03_SameHeader_J1 p0 p1 true) else (if p0.Box ≠ p1.Box then (ref03_SameHeader_J1 p0 p1 true) else (ref03_SameHeader_J1 p0 p1 (decide (p0.Check ≠ p1.Check)))))))

/-- headend/headendref03.TwinSecret -/
def ref03_TwinSecret (p0 : TSecret) : Option (TSecret) := Option.bind (appG 32 [] p0.Labels) fun l1 => ((some (TSecret.mk p0.Receiver l1 p0.Share)))

/-- headend/headendref03.TwinHeader -/
def ref03_TwinHeader (p0 : THeader) : Option (THeader) := Option.bind (appG 32 [] p0.Items) fun l1 => (Option.bind (appG 16 [] p0.Points) fun l2 => ((some (THeader.mk l1 p0.Base l2 p0.Box p0.Check))))

def ref03_SplitOf_J1 (p1 : TSubset) (a4 : Int) : Option (List TSubset) := (some [(TSubset.mk p1.Node a4), (TSubset.mk a4 p1.Minus)])

/-- headend/headendref03.SplitOf -/
def ref03_SplitOf (p0 : TScheme) (p1 : TSubset) : Option (List TSubset) := Option.bind (ref03_MembersOf p0 p1) fun x1 => ((if (x1.length : Int) = 1 then (some []) else (if p0.Kind = 1#8 then (some [(TSubset.mk (w64 (2 * p1.Node)) 0), (TSubset.mk (w64 ((w64 (2 * p1.Node)) + 1)) 0)]) else (if p1.Minus = 0 then (some [(TSubset.mk 1 2), (TSubset.mk 1 3)]) else Option.bind (ref03_Path p1.Node p1.Minus) fun x2 => (Option.bind (getI x2 1) fun y3 => ((if y3 = p1.Minus then (some [(TSubset.mk (bitI .xor y3 1) (w64 (2 * (bitI .xor y3 1)))), (TSubset.mk (bitI .xor y3 1) (w64 ((w64 (2 * (bitI .xor y3 1))) + 1)))]) else Option.bind (ref03_IsSubset p0 (TSubset.mk y3 p1.Minus)) fun x5 => ((bif (!x5) then Option.bind (ref03_between p0.Depth p1.Node p1.Minus) fun x6 => ((ref03_SplitOf_J1 p1 x6)) else (ref03_SplitOf_J1 p1 y3))))))))))

/-- headend/headendref03.Split -/
def ref03_Split (p0 : TScheme) (p1 : TSubset) : Option (List TSubset × Int) := Option.bind (ref03_Valid p0) fun x1 => ((bif (!x1) then (some ([], 30)) else Option.bind (ref03_IsSubset p0 p1) fun x2 => ((bif (!x2) then (some ([], 31)) else Option.bind (ref03_SplitOf p0 p1) fun x3 => ((if (x3.length : Int) = 0 then (some ([], 6)) else (some (x3, 0))))))))

/-- headend/headendref03.step -/
def ref03_step (p0 : W2) (p1 : Int) : Option (W2) := Option.bind (remI p1 2) fun x1 => ((if x1 = 0 then (some (drv p0 (un8 31#8) 0#64)) else (some (drv p0 (un8 32#8) 0#64))))

def ref03_down_L1 (x1 : List Int) (rec1 : (Int × W2) → Option (W2)) (s1 : Int × W2) : Option (W2) := match s1 with | (a4, a5) => (if a4 < (x1.length : Int) then Option.bind (getI x1 a4) fun y6 => (Option.bind (ref03_step a5 y6) fun x7 => ((rec1 (w64 (a4 + 1), x7)))) else (some a5))

/-- headend/headendref03.down -/
def ref03_down (p0 : W2) (p1 : Int) (p2 : Int) : Option (W2) := Option.bind (ref03_Path p1 p2) fun x1 => ((fixN (ref03_down_L1 x1) FUEL (1, p0)))

/-- headend/headendref03.label -/
def ref03_label (p0 : W2) (p1 : Int) (p2 : Int) : Option (W2) := Option.bind (ref03_down (drv p0 (un8 30#8) (wd p1)) p1 p2) fun x1 => ((some x1))

/-- headend/headendref03.KeyOf -/
def ref03_KeyOf (p0 : W2) (p1 : TScheme) (p2 : TSubset) : Option (W2) := (if p1.Kind = 1#8 then (some (drv p0 (un8 30#8) (wd p2.Node))) else (if p2.Minus = 0 then (some (drv p0 (un8 34#8) 0#64)) else Option.bind (ref03_label p0 p2.Node p2.Minus) fun x1 => ((some (drv x1 (un8 33#8) 0#64)))))

/-- headend/headendref03.SubsetKey -/
def ref03_SubsetKey (p0 : W2) (p1 : TScheme) (p2 : TSubset) : Option (W2 × Int) := Option.bind (ref03_Valid p1) fun x1 => ((bif (!x1) then (some (k0, 30)) else Option.bind (ref03_IsSubset p1 p2) fun x2 => ((bif (!x2) then (some (k0, 31)) else Option.bind (ref03_KeyOf p0 p1 p2) fun x3 => ((some (x3, 0)))))))

def ref03_leads_J1 (p1 : Int) (p2 : Int) (p3 : TSubset) (a1 : Bool) : Option (Bool) := (bif a1 then (if p1 = p3.Node then (some (decide (p2 = p3.Minus))) else (some false)) else (if p1 = p3.Node then (if (1 : Int) ≤ p2 then Option.bind (ref03_Below p2 p1) fun x2 => ((bif x2 then Option.bind (ref03_Below p3.Minus p2) fun x3 => ((some x3)) else (some false))) else (some false)) else (some false)))

/-- headend/headendref03.leads -/
def ref03_leads (p0 : TScheme) (p1 : Int) (p2 : Int) (p3 : TSubset) : Option (Bool) := (if p0.Kind = 1#8 then (ref03_leads_J1 p1 p2 p3 true) else (ref03_leads_J1 p1 p2 p3 (decide (p3.Minus = 0))))

def ref03_Leads_J2 (p2 : TSubset) (y3 : TLabel) (a5 : Bool) : Option (W2 × Bool) := (bif a5 then (some (y3.Key, true)) else Option.bind (ref03_down y3.Key y3.Minus p2.Minus) fun x6 => ((some (drv x6 (un8 33#8) 0#64, true))))

def ref03_Leads_L1 (p0 : TScheme) (p1 : TSecret) (p2 : TSubset) (rec1 : (Int) → Option (W2 × Bool)) (a2 : Int) : Option (W2 × Bool) := (if a2 < (p1.Labels.length : Int) then Option.bind (getI p1.Labels a2) fun y3 => (Option.bind (ref03_leads p0 y3.Node y3.Minus p2) fun x4 => ((bif (!x4) then (rec1 (w64 (a2 + 1))) else (if p0.Kind = 1#8 then (ref03_Leads_J2 p2 y3 true) else (ref03_Leads_J2 p2 y3 (decide (p2.Minus = 0))))))) else (some (k0, false)))

/-- headend/headendref03.Leads -/
def ref03_Leads (p0 : TScheme) (p1 : TSecret) (p2 : TSubset) : Option (W2 × Bool) := (fixN (ref03_Leads_L1 p0 p1 p2) FUEL 0)

/-- headend/headendref03.Find -/
def ref03_Find (p0 : TScheme) (p1 : TSecret) (p2 : TSubset) : Option (W2 × Int) := Option.bind (ref03_Valid p0) fun x1 => ((bif (!x1) then (some (k0, 30)) else Option.bind (ref03_IsSubset p0 p2) fun x2 => ((bif (!x2) then (some (k0, 31)) else Option.bind (ref03_Leads p0 p1 p2) fun x3 => ((bif (!x3.2) then (some (k0, 6)) else (some (x3.1, 0))))))))
end Go.Sx
