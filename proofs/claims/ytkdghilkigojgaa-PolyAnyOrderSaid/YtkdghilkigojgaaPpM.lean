/- Mirrors: Pp. Printed by mx.py. -/
import Derived.Test.YtkdghilkigojgaaMirE
import Derived.Test.YtkdghilkigojgaaPln
import Derived.Test.YtkdghilkigojgaaWe
import Derived.Test.YtkdghilkigojgaaWd
import Derived.Test.YtkdghilkigojgaaPkM
set_option linter.unusedVariables false
set_option maxRecDepth 100000
namespace Go.Sx
open Go Go.RowKit


def poly_Full_J1 (p0 : W2) (p1 : Int) (a1 : Bool) : Option (TPunctured × Int) := (bif a1 then (some ((TPunctured.mk 0 []), 2)) else (some ((TPunctured.mk p1 [(TLabel.mk 1 0 p0)]), 0)))

/-- headend/poly.Full -/
def poly_Full (p0 : W2) (p1 : Int) : Option (TPunctured × Int) := (if p1 < 0 then (poly_Full_J1 p0 p1 true) else (poly_Full_J1 p0 p1 (decide ((6 : Int) < p1))))

def ref04_Full_J1 (p0 : W2) (p1 : Int) (a1 : Bool) : Option (TPunctured × Int) := (bif a1 then (some ((TPunctured.mk 0 []), 2)) else (some ((TPunctured.mk p1 [(TLabel.mk 1 0 p0)]), 0)))

/-- headend/headendref04.Full -/
def ref04_Full (p0 : W2) (p1 : Int) : Option (TPunctured × Int) := (if p1 < 0 then (ref04_Full_J1 p0 p1 true) else (ref04_Full_J1 p0 p1 (decide ((6 : Int) < p1))))

def ref04_SamePunctured_L2 (p0 : TPunctured) (p1 : TPunctured) (rec2 : (Int) → Option (Bool)) (a3 : Int) : Option (Bool) := (if a3 < (p0.Labels.length : Int) then Option.bind (getI p0.Labels a3) fun y4 => (Option.bind (getI p1.Labels a3) fun y5 => ((if y4 ≠ y5 then (some false) else (rec2 (w64 (a3 + 1)))))) else (some true))

def ref04_SamePunctured_J1 (p0 : TPunctured) (p1 : TPunctured) (a1 : Bool) : Option (Bool) := (bif a1 then (some false) else (fixN (ref04_SamePunctured_L2 p0 p1) FUEL 0))

/-- headend/headendref04.SamePunctured -/
def ref04_SamePunctured (p0 : TPunctured) (p1 : TPunctured) : Option (Bool) := (if p0.Depth ≠ p1.Depth then (ref04_SamePunctured_J1 p0 p1 true) else (ref04_SamePunctured_J1 p0 p1 (decide ((p0.Labels.length : Int) ≠ (p1.Labels.length : Int)))))

/-- headend/headendref04.TwinPunctured -/
def ref04_TwinPunctured (p0 : TPunctured) : Option (TPunctured) := Option.bind (appG 32 [] p0.Labels) fun l1 => ((some (TPunctured.mk p0.Depth l1)))

/-- headend/poly.below -/
def poly_below (p0 : Int) (p1 : Int) : Option (Bool) := (if (0 : Int) ≤ w64 ((lg (un (wd p0))) - (lg (un (wd p1)))) then Option.bind (shG (w64 ((lg (un (wd p0))) - (lg (un (wd p1)))))) fun n1 => ((some (decide (shrI p0 n1 = p1)))) else (some false))

/-- headend/poly.CheckPunctured$1 -/
def poly_CheckPunctured_1 (p0 : TLabel) (p1 : TLabel) : Option (Bool) := Option.bind (poly_below p1.Node p0.Node) fun x1 => ((some x1))

def slices_IndexFunc_15cd_poly_CheckPunctured_1_L1 (p0 : List TLabel) (p1_0 : TLabel) (rec1 : (Int) → Option (Int)) (a2 : Int) : Option (Int) := (if a2 < (p0.length : Int) then Option.bind (getI p0 a2) fun y3 => (Option.bind (poly_CheckPunctured_1 y3 p1_0) fun x4 => ((bif x4 then (some a2) else (rec1 (w64 (a2 + 1)))))) else (some (-1)))

/-- slices.IndexFunc[[]headend/api.Label,headend/api.Label] -/
def slices_IndexFunc_15cd_poly_CheckPunctured_1 (p0 : List TLabel) (p1_0 : TLabel) : Option (Int) := (fixN (slices_IndexFunc_15cd_poly_CheckPunctured_1_L1 p0 p1_0) FUEL 0)

/-- slices.ContainsFunc[[]headend/api.Label,headend/api.Label] -/
def slices_ContainsFunc_5b5d_poly_CheckPunctured_1 (p0 : List TLabel) (p1_0 : TLabel) : Option (Bool) := Option.bind (slices_IndexFunc_15cd_poly_CheckPunctured_1 p0 p1_0) fun x1 => ((some (decide ((0 : Int) ≤ x1))))

def poly_CheckPunctured_J3 (p0 : TPunctured) (a3 : Int) (rec2 : (Int) → Option (Int)) (y4 : TLabel) (a5 : Bool) : Option (Int) := (bif a5 then (some 8) else Option.bind (sliG p0.Labels 0 a3) fun l6 => (Option.bind (slices_ContainsFunc_5b5d_poly_CheckPunctured_1 l6 y4) fun x7 => ((bif x7 then (some 8) else (rec2 (w64 (a3 + 1)))))))

def poly_CheckPunctured_L2 (p0 : TPunctured) (rec2 : (Int) → Option (Int)) (a3 : Int) : Option (Int) := (if a3 < (p0.Labels.length : Int) then Option.bind (getI p0.Labels a3) fun y4 => ((if y4.Minus ≠ 0 then (poly_CheckPunctured_J3 p0 a3 rec2 y4 true) else (if y4.Node < 1 then (poly_CheckPunctured_J3 p0 a3 rec2 y4 true) else Option.bind (shG p0.Depth) fun n8 => ((if shlI 2 n8 ≤ y4.Node then (poly_CheckPunctured_J3 p0 a3 rec2 y4 true) else (if (0 : Int) < a3 then Option.bind (getI p0.Labels (w64 (a3 - 1))) fun y9 => ((poly_CheckPunctured_J3 p0 a3 rec2 y4 (decide (y4.Node ≤ y9.Node)))) else (poly_CheckPunctured_J3 p0 a3 rec2 y4 false))))))) else (some 0))

def poly_CheckPunctured_J1 (p0 : TPunctured) (a1 : Bool) : Option (Int) := (bif a1 then (some 8) else (fixN (poly_CheckPunctured_L2 p0) FUEL 0))

/-- headend/poly.CheckPunctured -/
def poly_CheckPunctured (p0 : TPunctured) : Option (Int) := (if p0.Depth < 0 then (poly_CheckPunctured_J1 p0 true) else (poly_CheckPunctured_J1 p0 (decide ((6 : Int) < p0.Depth))))

/-- headend/headendref03.Node -/
def ref03_Node (p0 : Int) (p1 : Int) : Option (Bool) := (if (1 : Int) ≤ p1 then Option.bind (ref03_Receivers p0) fun x1 => ((some (decide (p1 < w64 (2 * x1))))) else (some false))

def ref03_Below_L1 (p1 : Int) (rec1 : (Int) → Option (Bool)) (a2 : Int) : Option (Bool) := (if p1 < a2 then Option.bind (quoI a2 2) fun x3 => ((rec1 x3)) else (some (decide (a2 = p1))))

/-- headend/headendref03.Below -/
def ref03_Below (p0 : Int) (p1 : Int) : Option (Bool) := (fixN (ref03_Below_L1 p1) FUEL p0)

def ref04_ValidPunctured_J5 (a7 : Int) (rec4 : (Int) → Option (Bool)) (a8 : Bool) : Option (Bool) := (bif a8 then (some false) else (rec4 (w64 (a7 + 1))))

def ref04_ValidPunctured_L4 (p0 : TPunctured) (a3 : Int) (rec2 : (Int) → Option (Bool)) (y4 : TLabel) (rec4 : (Int) → Option (Bool)) (a7 : Int) : Option (Bool) := (if a7 < a3 then Option.bind (getI p0.Labels a7) fun y9 => ((if y4.Node ≤ y9.Node then (ref04_ValidPunctured_J5 a7 rec4 true) else Option.bind (getI p0.Labels a7) fun y10 => (Option.bind (ref03_Below y4.Node y10.Node) fun x11 => ((ref04_ValidPunctured_J5 a7 rec4 x11))))) else (rec2 (w64 (a3 + 1))))

def ref04_ValidPunctured_J3 (p0 : TPunctured) (a3 : Int) (rec2 : (Int) → Option (Bool)) (y4 : TLabel) (a5 : Bool) : Option (Bool) := (bif a5 then (some false) else (fixN (ref04_ValidPunctured_L4 p0 a3 rec2 y4) FUEL 0))

def ref04_ValidPunctured_L2 (p0 : TPunctured) (rec2 : (Int) → Option (Bool)) (a3 : Int) : Option (Bool) := (if a3 < (p0.Labels.length : Int) then Option.bind (getI p0.Labels a3) fun y4 => (Option.bind (ref03_Node p0.Depth y4.Node) fun x12 => ((bif (!x12) then (ref04_ValidPunctured_J3 p0 a3 rec2 y4 true) else Option.bind (getI p0.Labels a3) fun y13 => ((ref04_ValidPunctured_J3 p0 a3 rec2 y4 (decide (y13.Minus ≠ 0))))))) else (some true))

def ref04_ValidPunctured_J1 (p0 : TPunctured) (a1 : Bool) : Option (Bool) := (bif a1 then (some false) else (fixN (ref04_ValidPunctured_L2 p0) FUEL 0))

/-- headend/headendref04.ValidPunctured -/
def ref04_ValidPunctured (p0 : TPunctured) : Option (Bool) := (if p0.Depth < 0 then (ref04_ValidPunctured_J1 p0 true) else (ref04_ValidPunctured_J1 p0 (decide ((6 : Int) < p0.Depth))))

/-- headend/headendref04.CheckPunctured -/
def ref04_CheckPunctured (p0 : TPunctured) : Option (Int) := Option.bind (ref04_ValidPunctured p0) fun x1 => ((bif (!x1) then (some 8) else (some 0)))

/-- headend/poly.find$1 -/
def poly_find_1 (p0 : TLabel) (p1 : Int) : Option (Bool) := Option.bind (poly_below p1 p0.Node) fun x1 => ((some x1))

def slices_IndexFunc_15cd_poly_find_1_L1 (p0 : List TLabel) (p1_0 : Int) (rec1 : (Int) → Option (Int)) (a2 : Int) : Option (Int) := (if a2 < (p0.length : Int) then Option.bind (getI p0 a2) fun y3 => (Option.bind (poly_find_1 y3 p1_0) fun x4 => ((bif x4 then (some a2) else (rec1 (w64 (a2 + 1)))))) else (some (-1)))

/-- slices.IndexFunc[[]headend/api.Label,headend/api.Label] -/
def slices_IndexFunc_15cd_poly_find_1 (p0 : List TLabel) (p1_0 : Int) : Option (Int) := (fixN (slices_IndexFunc_15cd_poly_find_1_L1 p0 p1_0) FUEL 0)

def poly_find_J1 (p0 : TPunctured) (p1 : Int) (a2 : Bool) : Option (Int × Int × Int) := (bif a2 then (some (0, 0, 2)) else Option.bind (shG p0.Depth) fun n3 => (Option.bind (slices_IndexFunc_15cd_poly_find_1 p0.Labels (w64 ((shlI 1 n3) + p1))) fun x4 => ((some (w64 ((shlI 1 n3) + p1), x4, 0)))))

/-- headend/poly.find -/
def poly_find (p0 : TPunctured) (p1 : Int) : Option (Int × Int × Int) := Option.bind (poly_CheckPunctured p0) fun x1 => ((if x1 ≠ 0 then (some (0, 0, x1)) else (if p1 < 0 then (poly_find_J1 p0 p1 true) else Option.bind (shG p0.Depth) fun n5 => ((poly_find_J1 p0 p1 (decide (shlI 1 n5 ≤ p1)))))))

/-- slices.Clone[[]headend/api.Label,headend/api.Label] -/
def slices_Clone_109b (p0 : List TLabel) : Option (List TLabel) := Option.bind (appG 32 [] p0) fun l1 => ((some l1))

/-- slices.Delete[[]headend/api.Label,headend/api.Label] -/
def slices_Delete_a5d6 (p0 : List TLabel) (p1 : Int) (p2 : Int) : Option (List TLabel) := Option.bind (sli3G p0 p1 p2) fun u1 => ((if p1 = p2 then (some p0) else Option.bind (sliG p0 0 p1) fun l2 => (Option.bind (sliG p0 p2 (p0.length : Int)) fun l3 => ((some (l2 ++ l3))))))

/-- headend/poly.next -/
def poly_next (p0 : W2) (p1 : Int) : Option (W2) := (some (drv p0 (un8 (31#8 + (wd8 (bitI .and p1 1)))) 0#64))

def poly_Puncture_J3 (a12 : List TLabel) (a16 : W2) (rec2 : (List TLabel × Int × Int × W2) → Option (TPunctured × Int)) (a17 : Int) : Option (TPunctured × Int) := Option.bind (poly_next a16 (bitI .xor a17 1)) fun x18 => (Option.bind (appG 32 a12 [(TLabel.mk (bitI .xor a17 1) 0 x18)]) fun l19 => (Option.bind (poly_next a16 a17) fun x20 => ((rec2 (l19, a17, 0, x20)))))

def poly_Puncture_L2 (p0 : TPunctured) (x1 : Int × Int × Int) (rec2 : (List TLabel × Int × Int × W2) → Option (TPunctured × Int)) (s2 : List TLabel × Int × Int × W2) : Option (TPunctured × Int) := match s2 with | (a12, a14, a15, a16) => (if a14 ≠ x1.1 then Option.bind (poly_below x1.1 (w64 (2 * a14))) fun x21 => ((bif (!x21) then (poly_Puncture_J3 a12 a16 rec2 (w64 ((w64 (2 * a14)) + 1))) else (poly_Puncture_J3 a12 a16 rec2 (w64 (2 * a14))))) else Option.bind (srtBy TLabel.Node a12) fun l22 => ((some ((TPunctured.mk p0.Depth l22), 0))))

def poly_Puncture_J1 (p0 : TPunctured) (x1 : Int × Int × Int) (a3 : List TLabel) : Option (TPunctured × Int) := (if x1.2.1 < 0 then (some ((TPunctured.mk p0.Depth a3), 0)) else Option.bind (getI a3 x1.2.1) fun y5 => (Option.bind (slices_Delete_a5d6 a3 x1.2.1 (w64 (x1.2.1 + 1))) fun x6 => ((fixN (poly_Puncture_L2 p0 x1) FUEL (x6, y5.Node, y5.Minus, y5.Key)))))

/-- headend/poly.Puncture -/
def poly_Puncture (p0 : TPunctured) (p1 : Int) : Option (TPunctured × Int) := Option.bind (poly_find p0 p1) fun x1 => ((if x1.2.2 ≠ 0 then (some ((TPunctured.mk 0 []), x1.2.2)) else Option.bind (slices_Clone_109b p0.Labels) fun x23 => ((poly_Puncture_J1 p0 x1 x23))))

def ref04_asked_J1 (a2 : Bool) : Option (Int) := (bif a2 then (some 2) else (some 0))

/-- headend/headendref04.asked -/
def ref04_asked (p0 : TPunctured) (p1 : Int) : Option (Int) := Option.bind (ref04_ValidPunctured p0) fun x1 => ((bif (!x1) then (some 8) else (if p1 < 0 then (ref04_asked_J1 true) else Option.bind (ref03_Receivers p0.Depth) fun x3 => ((ref04_asked_J1 (decide (x3 ≤ p1)))))))

def ref04_place_J2 (p0 : List TLabel) (p1 : TLabel) (a2 : Int) (rec1 : (Int) → Option (List TLabel)) (a3 : Bool) : Option (List TLabel) := (bif a3 then (rec1 (w64 (a2 + 1))) else Option.bind (sliG p0 0 a2) fun l4 => (Option.bind (appG 32 [] l4) fun l5 => (Option.bind (appG 32 l5 [p1]) fun l6 => (Option.bind (sliG p0 a2 (p0.length : Int)) fun l7 => (Option.bind (appG 32 l6 l7) fun l8 => ((some l8)))))))

def ref04_place_L1 (p0 : List TLabel) (p1 : TLabel) (rec1 : (Int) → Option (List TLabel)) (a2 : Int) : Option (List TLabel) := (if a2 < (p0.length : Int) then Option.bind (getI p0 a2) fun y9 => ((ref04_place_J2 p0 p1 a2 rec1 (decide (y9.Node < p1.Node)))) else (ref04_place_J2 p0 p1 a2 rec1 false))

/-- headend/headendref04.place -/
def ref04_place (p0 : List TLabel) (p1 : TLabel) : Option (List TLabel) := (fixN (ref04_place_L1 p0 p1) FUEL 0)

def ref03_Path_L1 (p0 : Int) (rec1 : (Int × List Int) → Option (List Int)) (s1 : Int × List Int) : Option (List Int) := match s1 with | (a4, a5) => (if a4 ≠ p0 then Option.bind (appG 8 [a4] a5) fun l7 => (Option.bind (quoI a4 2) fun x8 => ((rec1 (x8, l7)))) else Option.bind (appG 8 [p0] a5) fun l9 => ((some l9)))

/-- headend/headendref03.Path -/
def ref03_Path (p0 : Int) (p1 : Int) : Option (List Int) := (fixN (ref03_Path_L1 p0) FUEL (p1, []))

/-- headend/headendref04.child -/
def ref04_child (p0 : W2) (p1 : Int) : Option (W2) := Option.bind (remI p1 2) fun x1 => ((if x1 = 0 then (some (drv p0 (un8 31#8) 0#64)) else (some (drv p0 (un8 32#8) 0#64))))

def ref04_NodeKey_L1 (x1 : List Int) (rec1 : (Int × W2) → Option (W2)) (s1 : Int × W2) : Option (W2) := match s1 with | (a4, a5) => (if a4 < (x1.length : Int) then Option.bind (getI x1 a4) fun y6 => (Option.bind (ref04_child a5 y6) fun x7 => ((rec1 (w64 (a4 + 1), x7)))) else (some a5))

/-- headend/headendref04.NodeKey -/
def ref04_NodeKey (p0 : W2) (p1 : Int) (p2 : Int) : Option (W2) := Option.bind (ref03_Path p1 p2) fun x1 => ((fixN (ref04_NodeKey_L1 x1) FUEL (1, p0)))

def ref04_Puncture_L2 (a6 : Int) (rec1 : (Int × List TLabel) → Option (TPunctured × Int)) (y9 : TLabel) (x12 : List Int) (rec2 : (Int × List TLabel) → Option (TPunctured × Int)) (s2 : Int × List TLabel) : Option (TPunctured × Int) := match s2 with | (a16, a17) => (if a16 < (x12.length : Int) then Option.bind (getI x12 a16) fun y19 => (Option.bind (ref04_NodeKey y9.Key y9.Node (bitI .xor y19 1)) fun x20 => (Option.bind (ref04_place a17 (TLabel.mk (bitI .xor y19 1) 0 x20)) fun x21 => ((rec2 (w64 (a16 + 1), x21))))) else (rec1 (w64 (a6 + 1), a17)))

def ref04_Puncture_L1 (p0 : TPunctured) (p1 : Int) (x2 : Int) (rec1 : (Int × List TLabel) → Option (TPunctured × Int)) (s1 : Int × List TLabel) : Option (TPunctured × Int) := match s1 with | (a6, a7) => (if a6 < (p0.Labels.length : Int) then Option.bind (getI p0.Labels a6) fun y9 => (Option.bind (ref03_Below (w64 (x2 + p1)) y9.Node) fun x10 => ((bif (!x10) then Option.bind (ref04_place a7 y9) fun x11 => ((rec1 (w64 (a6 + 1), x11))) else Option.bind (ref03_Path y9.Node (w64 (x2 + p1))) fun x12 => ((fixN (ref04_Puncture_L2 a6 rec1 y9 x12) FUEL (1, a7)))))) else (some ((TPunctured.mk p0.Depth a7), 0)))

/-- headend/headendref04.Puncture -/
def ref04_Puncture (p0 : TPunctured) (p1 : Int) : Option (TPunctured × Int) := Option.bind (ref04_asked p0 p1) fun x1 => ((if x1 ≠ 0 then (some ((TPunctured.mk 0 []), x1)) else Option.bind (ref03_Receivers p0.Depth) fun x2 => ((fixN (ref04_Puncture_L1 p0 p1 x2) FUEL (0, [])))))

def poly_Evaluate_L1 (x1 : Int × Int × Int) (rec1 : (Int × Int × W2) → Option (W2 × Int)) (s1 : Int × Int × W2) : Option (W2 × Int) := match s1 with | (a6, a7, a8) => (if a6 ≠ x1.1 then Option.bind (shG (w64 ((w64 ((lg (un (wd x1.1))) - (lg (un (wd a6))))) - 1))) fun n9 => (Option.bind (poly_next a8 (shrI x1.1 n9)) fun x10 => ((rec1 (shrI x1.1 n9, 0, x10)))) else (some (drv a8 (un8 33#8) 0#64, 0)))

/-- headend/poly.Evaluate -/
def poly_Evaluate (p0 : TPunctured) (p1 : Int) : Option (W2 × Int) := Option.bind (poly_find p0 p1) fun x1 => ((if x1.2.2 ≠ 0 then (some (k0, x1.2.2)) else (if x1.2.1 < 0 then (some (k0, 6)) else Option.bind (getI p0.Labels x1.2.1) fun y2 => ((fixN (poly_Evaluate_L1 x1) FUEL (y2.Node, y2.Minus, y2.Key))))))

def ref04_Evaluate_L1 (p0 : TPunctured) (p1 : Int) (x2 : Int) (rec1 : (Int) → Option (W2 × Int)) (a4 : Int) : Option (W2 × Int) := (if a4 < (p0.Labels.length : Int) then Option.bind (getI p0.Labels a4) fun y5 => (Option.bind (ref03_Below (w64 (x2 + p1)) y5.Node) fun x6 => ((bif x6 then Option.bind (ref04_NodeKey y5.Key y5.Node (w64 (x2 + p1))) fun x7 => ((some (drv x7 (un8 33#8) 0#64, 0))) else (rec1 (w64 (a4 + 1)))))) else (some (k0, 6)))

/-- headend/headendref04.Evaluate -/
def ref04_Evaluate (p0 : TPunctured) (p1 : Int) : Option (W2 × Int) := Option.bind (ref04_asked p0 p1) fun x1 => ((if x1 ≠ 0 then (some (k0, x1)) else Option.bind (ref03_Receivers p0.Depth) fun x2 => ((fixN (ref04_Evaluate_L1 p0 p1 x2) FUEL 0))))
end Go.Sx
