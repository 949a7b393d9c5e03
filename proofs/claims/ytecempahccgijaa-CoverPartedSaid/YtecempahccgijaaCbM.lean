/- Mirrors: Cb. Printed by mx.py. -/
import Derived.Test.YtecempahccgijaaMirE
import Derived.Test.YtecempahccgijaaPln
import Derived.Test.YtecempahccgijaaCrM
set_option linter.unusedVariables false
set_option maxRecDepth 100000
namespace Go.Sx
open Go Go.RowKit


def cover_Seal_L1 (p0 : W2) (p2 : List TSubset) (p3 : W2) (x2 : Tcover_tree × Int) (rec1 : (Int × List TItem) → Option (THeader × Int)) (s1 : Int × List TItem) : Option (THeader × Int) := match s1 with | (a6, a7) => (if a6 < (p2.length : Int) then Option.bind (getI p2 a6) fun y9 => (Option.bind (cover_tree_key x2.1 p0 y9) fun x10 => (Option.bind (appG 32 a7 [(TItem.mk y9 (encr x10 p3))]) fun l11 => ((rec1 (w64 (a6 + 1), l11))))) else (some ((THeader.mk a7 0#64 [] k0 (drv p3 (un8 53#8) 0#64)), 0)))

/-- headend/cover.Seal -/
def cover_Seal (p0 : W2) (p1 : TScheme) (p2 : List TSubset) (p3 : W2) : Option (THeader × Int) := Option.bind (cover_Check p1) fun x1 => ((if x1 ≠ 0 then (some ((THeader.mk [] 0#64 [] k0 k0), x1)) else (if (64 : Int) < (p2.length : Int) then (some ((THeader.mk [] 0#64 [] k0 k0), 4)) else Option.bind (cover_enter p1 p2) fun x2 => ((if x2.2 ≠ 0 then (some ((THeader.mk [] 0#64 [] k0 k0), x2.2)) else (fixN (cover_Seal_L1 p0 p2 p3 x2) FUEL (0, [])))))))

def ref03_Seal_L2 (p0 : W2) (p1 : TScheme) (p2 : List TSubset) (p3 : W2) (rec2 : (Int × List TItem) → Option (THeader × Int)) (s2 : Int × List TItem) : Option (THeader × Int) := match s2 with | (a9, a10) => (if a9 < (p2.length : Int) then Option.bind (getI p2 a9) fun y12 => (Option.bind (getI p2 a9) fun y13 => (Option.bind (ref03_KeyOf p0 p1 y13) fun x14 => (Option.bind (appG 32 a10 [(TItem.mk y12 (encr x14 p3))]) fun l15 => ((rec2 (w64 (a9 + 1), l15)))))) else (some ((THeader.mk a10 0#64 [] k0 (drv p3 (un8 53#8) 0#64)), 0)))

def ref03_Seal_L1 (p0 : W2) (p1 : TScheme) (p2 : List TSubset) (p3 : W2) (rec1 : (Int) → Option (THeader × Int)) (a3 : Int) : Option (THeader × Int) := (if a3 < (p2.length : Int) then Option.bind (getI p2 a3) fun y4 => (Option.bind (ref03_IsSubset p1 y4) fun x5 => ((bif (!x5) then (some ((THeader.mk [] 0#64 [] k0 k0), 31)) else (rec1 (w64 (a3 + 1)))))) else (fixN (ref03_Seal_L2 p0 p1 p2 p3) FUEL (0, [])))

/-- headend/headendref03.Seal -/
def ref03_Seal (p0 : W2) (p1 : TScheme) (p2 : List TSubset) (p3 : W2) : Option (THeader × Int) := Option.bind (ref03_Valid p1) fun x1 => ((bif (!x1) then (some ((THeader.mk [] 0#64 [] k0 k0), 30)) else (if (64 : Int) < (p2.length : Int) then (some ((THeader.mk [] 0#64 [] k0 k0), 4)) else (fixN (ref03_Seal_L1 p0 p1 p2 p3) FUEL 0))))

/-- headend/cover.Open$1 -/
def cover_Open_1 (p0 : TItem) (p1 : Tcover_tree) : Option (Bool) := Option.bind (cover_tree_subset p1 p0.Subset) fun x1 => ((some (!x1)))

def slices_IndexFunc_c205_cover_Open_1_L1 (p0 : List TItem) (p1_0 : Tcover_tree) (rec1 : (Int) → Option (Int)) (a2 : Int) : Option (Int) := (if a2 < (p0.length : Int) then Option.bind (getI p0 a2) fun y3 => (Option.bind (cover_Open_1 y3 p1_0) fun x4 => ((bif x4 then (some a2) else (rec1 (w64 (a2 + 1)))))) else (some (-1)))

/-- slices.IndexFunc[[]headend/api.Item,headend/api.Item] -/
def slices_IndexFunc_c205_cover_Open_1 (p0 : List TItem) (p1_0 : Tcover_tree) : Option (Int) := (fixN (slices_IndexFunc_c205_cover_Open_1_L1 p0 p1_0) FUEL 0)

/-- slices.ContainsFunc[[]headend/api.Item,headend/api.Item] -/
def slices_ContainsFunc_9968_cover_Open_1 (p0 : List TItem) (p1_0 : Tcover_tree) : Option (Bool) := Option.bind (slices_IndexFunc_c205_cover_Open_1 p0 p1_0) fun x1 => ((some (decide ((0 : Int) ≤ x1))))

def cover_Open_L2 (p1 : TSecret) (p2 : THeader) (x1 : Tcover_tree × Int) (rec2 : (Int) → Option (W2 × Int)) (a4 : Int) : Option (W2 × Int) := (if a4 < (p2.Items.length : Int) then Option.bind (getI p2.Items a4) fun y5 => (Option.bind (cover_tree_find x1.1 p1 y5.Subset) fun x6 => ((bif x6.2 then (if drv (decr x6.1 y5.Box) (un8 53#8) 0#64 = p2.Check then (some (decr x6.1 y5.Box, 0)) else (rec2 (w64 (a4 + 1)))) else (rec2 (w64 (a4 + 1)))))) else (some (k0, 6)))

def cover_Open_J1 (p1 : TSecret) (p2 : THeader) (x1 : Tcover_tree × Int) (a2 : Bool) : Option (W2 × Int) := (bif a2 then (some (k0, 8)) else (fixN (cover_Open_L2 p1 p2 x1) FUEL 0))

/-- headend/cover.Open -/
def cover_Open (p0 : TScheme) (p1 : TSecret) (p2 : THeader) : Option (W2 × Int) := Option.bind (cover_enter p0 ([] : List TSubset)) fun x1 => ((if x1.2 ≠ 0 then (some (k0, x1.2)) else (if (64 : Int) < (p2.Items.length : Int) then (cover_Open_J1 p1 p2 x1 true) else (if p2.Base ≠ 0#64 then (cover_Open_J1 p1 p2 x1 true) else (if (0 : Int) < (p2.Points.length : Int) then (cover_Open_J1 p1 p2 x1 true) else (if p2.Box ≠ k0 then (cover_Open_J1 p1 p2 x1 true) else Option.bind (slices_ContainsFunc_9968_cover_Open_1 p2.Items x1.1) fun x7 => ((cover_Open_J1 p1 p2 x1 x7))))))))

def ref03_ValidHeader_L2 (p0 : TScheme) (p1 : THeader) (rec2 : (Int) → Option (Bool)) (a3 : Int) : Option (Bool) := (if a3 < (p1.Items.length : Int) then Option.bind (getI p1.Items a3) fun y4 => (Option.bind (ref03_IsSubset p0 y4.Subset) fun x5 => ((bif (!x5) then (some false) else (rec2 (w64 (a3 + 1)))))) else (some true))

def ref03_ValidHeader_J1 (p0 : TScheme) (p1 : THeader) (a1 : Bool) : Option (Bool) := (bif a1 then (some false) else (fixN (ref03_ValidHeader_L2 p0 p1) FUEL 0))

/-- headend/headendref03.ValidHeader -/
def ref03_ValidHeader (p0 : TScheme) (p1 : THeader) : Option (Bool) := (if (64 : Int) < (p1.Items.length : Int) then (ref03_ValidHeader_J1 p0 p1 true) else (if p1.Base ≠ 0#64 then (ref03_ValidHeader_J1 p0 p1 true) else (if (p1.Points.length : Int) ≠ 0 then (ref03_ValidHeader_J1 p0 p1 true) else (ref03_ValidHeader_J1 p0 p1 (decide (p1.Box ≠ k0))))))

def ref02_Value_L1 (p0 : List (BitVec 8)) (rec1 : (BitVec 64 × Int) → Option (BitVec 64)) (s1 : BitVec 64 × Int) : Option (BitVec 64) := match s1 with | (a3, a4) => (if a4 < (p0.length : Int) then Option.bind (getI p0 a4) fun y5 => ((rec1 ((256#64 * a3) + (y5.setWidth 64), w64 (a4 + 1)))) else (some a3))

/-- headend/headendref02.Value -/
def ref02_Value (p0 : List (BitVec 8)) : Option (BitVec 64) := (fixN (ref02_Value_L1 p0) FUEL (0#64, 0))

/-- headend/headendref02.words -/
def ref02_words (p0 : W2) : Option (BitVec 64 × BitVec 64) := Option.bind (ref02_Value (((kby p0).take 8).drop 0)) fun x1 => (Option.bind (ref02_Value (((kby p0).take 16).drop 8)) fun x2 => ((some (x1, x2))))

/-- headend/headendref02.rotr -/
def ref02_rotr (p0 : BitVec 64) (p1 : Int) : Option (BitVec 64) := Option.bind (shG p1) fun n1 => (Option.bind (shG (w64 (64 - p1))) fun n2 => ((some ((p0 >>> n1) ||| (p0 <<< n2)))))

/-- headend/headendref02.rotl -/
def ref02_rotl (p0 : BitVec 64) (p1 : Int) : Option (BitVec 64) := Option.bind (ref02_rotr p0 (w64 (64 - p1))) fun x1 => ((some x1))

def ref02_roundKeys_L1  (rec1 : (BitVec 64 × BitVec 64 × List (BitVec 64) × Int) → Option (List (BitVec 64))) (s1 : BitVec 64 × BitVec 64 × List (BitVec 64) × Int) : Option (List (BitVec 64)) := match s1 with | (a7, a8, a9, a11) => (if a11 < 31 then Option.bind (ref02_rotr a7 8) fun x12 => (Option.bind (ref02_rotl a8 3) fun x13 => (Option.bind (appG 8 a9 [x13 ^^^ ((a8 + x12) ^^^ (wd a11))]) fun l14 => ((rec1 ((a8 + x12) ^^^ (wd a11), x13 ^^^ ((a8 + x12) ^^^ (wd a11)), l14, w64 (a11 + 1)))))) else (some a9))

/-- headend/headendref02.roundKeys -/
def ref02_roundKeys (p0 : W2) : Option (List (BitVec 64)) := Option.bind (ref02_words p0) fun x1 => ((fixN (ref02_roundKeys_L1) FUEL (x1.1, x1.2, [x1.2], 0)))

def ref02_Bytes_L1 (p1 : Int) (rec1 : (BitVec 64 × List (BitVec 8) × Int) → Option (List (BitVec 8))) (s1 : BitVec 64 × List (BitVec 8) × Int) : Option (List (BitVec 8)) := match s1 with | (a5, a6, a8) => (if a8 < p1 then Option.bind (remU a5 256#64) fun x9 => (Option.bind (appG 1 [x9.setWidth 8] a6) fun l10 => (Option.bind (quoU a5 256#64) fun x11 => ((rec1 (x11, l10, w64 (a8 + 1)))))) else (some a6))

/-- headend/headendref02.Bytes -/
def ref02_Bytes (p0 : BitVec 64) (p1 : Int) : Option (List (BitVec 8)) := (fixN (ref02_Bytes_L1 p1) FUEL (p0, [], 0))

def ref02_key_J2 (p0 : List (BitVec 8)) (a3 : Int) (a4 : W2) (rec1 : (Int × W2) → Option (W2)) (a5 : Bool) : Option (W2) := (bif a5 then Option.bind (getI p0 a3) fun y6 => (Option.bind (getI (kby a4) a3) fun y7 => (Option.bind (kset a4 a3 y6) fun x8 => ((rec1 (w64 (a3 + 1), x8))))) else (some a4))

def ref02_key_L1 (p0 : List (BitVec 8)) (rec1 : (Int × W2) → Option (W2)) (s1 : Int × W2) : Option (W2) := match s1 with | (a3, a4) => (if a3 < 16 then (ref02_key_J2 p0 a3 a4 rec1 (decide (a3 < (p0.length : Int)))) else (ref02_key_J2 p0 a3 a4 rec1 false))

/-- headend/headendref02.key -/
def ref02_key (p0 : List (BitVec 8)) : Option (W2) := (fixN (ref02_key_L1 p0) FUEL (0, k0))

/-- headend/headendref02.block -/
def ref02_block (p0 : BitVec 64) (p1 : BitVec 64) : Option (W2) := Option.bind (ref02_Bytes p0 8) fun x1 => (Option.bind (ref02_Bytes p1 8) fun x2 => (Option.bind (appG 1 x1 x2) fun l3 => (Option.bind (ref02_key l3) fun x4 => ((some x4)))))

def ref02_Decrypt_L1 (x2 : List (BitVec 64)) (rec1 : (BitVec 64 × BitVec 64 × Int) → Option (W2)) (s1 : BitVec 64 × BitVec 64 × Int) : Option (W2) := match s1 with | (a6, a7, a8) => (if (0 : Int) ≤ a8 then Option.bind (ref02_rotr (a7 ^^^ a6) 3) fun x9 => (Option.bind (getI x2 a8) fun y10 => (Option.bind (ref02_rotl ((a6 ^^^ y10) - x9) 8) fun x11 => ((rec1 (x11, x9, w64 (a8 - 1)))))) else Option.bind (ref02_block a6 a7) fun x12 => ((some x12)))

/-- headend/headendref02.Decrypt -/
def ref02_Decrypt (p0 : W2) (p1 : W2) : Option (W2) := Option.bind (ref02_words p1) fun x1 => (Option.bind (ref02_roundKeys p0) fun x2 => ((fixN (ref02_Decrypt_L1 x2) FUEL (x1.1, x1.2, 31))))

def ref03_Open_J3 (p2 : THeader) (a4 : Int) (rec1 : (Int) → Option (W2 × Int)) (a9 : W2) : Option (W2 × Int) := (if drv a9 (un8 53#8) 0#64 = p2.Check then (some (a9, 0)) else (rec1 (w64 (a4 + 1))))

def ref03_Open_J2 (p2 : THeader) (a4 : Int) (rec1 : (Int) → Option (W2 × Int)) (a6 : W2) (a7 : Bool) : Option (W2 × Int) := (bif (!a7) then (rec1 (w64 (a4 + 1))) else Option.bind (getI p2.Items a4) fun y10 => (Option.bind (ref02_Decrypt a6 y10.Box) fun x11 => ((ref03_Open_J3 p2 a4 rec1 x11))))

def ref03_Open_L1 (p0 : TScheme) (p1 : TSecret) (p2 : THeader) (rec1 : (Int) → Option (W2 × Int)) (a4 : Int) : Option (W2 × Int) := (if a4 < (p2.Items.length : Int) then Option.bind (getI p2.Items a4) fun y13 => (Option.bind (ref03_Leads p0 p1 y13.Subset) fun x14 => ((ref03_Open_J2 p2 a4 rec1 x14.1 x14.2))) else (some (k0, 6)))

/-- headend/headendref03.Open -/
def ref03_Open (p0 : TScheme) (p1 : TSecret) (p2 : THeader) : Option (W2 × Int) := Option.bind (ref03_Valid p0) fun x1 => ((bif (!x1) then (some (k0, 30)) else Option.bind (ref03_ValidHeader p0 p2) fun x2 => ((bif (!x2) then (some (k0, 8)) else (fixN (ref03_Open_L1 p0 p1 p2) FUEL 0)))))
end Go.Sx
