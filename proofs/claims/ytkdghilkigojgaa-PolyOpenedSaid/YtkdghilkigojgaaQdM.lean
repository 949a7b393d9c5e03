/- Mirrors: Qd. Printed by mx.py. -/
import Derived.Test.YtkdghilkigojgaaMirE
import Derived.Test.YtkdghilkigojgaaPln
import Derived.Test.YtkdghilkigojgaaXwM
set_option linter.unusedVariables false
set_option maxRecDepth 100000
namespace Go.Sx
open Go Go.RowKit


def law04_PolyOpened_L4 (p2 : List Int) (p3 : W2) (p5 : Int) (x1 : Bool) (x6 : W2 × Int) (rec4 : (Int) → Option (Bool)) (a9 : Int) : Option (Bool) := (if a9 < (p2.length : Int) then Option.bind (getI p2 a9) fun y10 => ((if y10 = p5 then (bif x1 then (if x6.2 = 6 then (some (decide (x6.1 = k0))) else (some false)) else (some false)) else (rec4 (w64 (a9 + 1))))) else (bif x1 then (if x6.2 = 0 then (some (decide (x6.1 = p3))) else (some false)) else (some false)))

def law04_PolyOpened_J3 (p2 : List Int) (p3 : W2) (p5 : Int) (x1 : Bool) (x6 : W2 × Int) (a7 : Bool) : Option (Bool) := (bif a7 then (some false) else (fixN (law04_PolyOpened_L4 p2 p3 p5 x1 x6) FUEL 0))

def law04_PolyOpened_J2 (p0 : W2) (p1 : TScheme) (p2 : List Int) (p3 : W2) (p5 : Int) (x1 : Bool) (x2 : THeader × Int) (a4 : Bool) : Option (Bool) := (bif a4 then (bif x1 then (some (decide (x2.2 = 0))) else (some false)) else Option.bind (poly_Secret p0 p1 p5) fun x5 => (Option.bind (poly_Open p1 x5.1 x2.1) fun x6 => ((if x2.2 ≠ 0 then (law04_PolyOpened_J3 p2 p3 p5 x1 x6 true) else (law04_PolyOpened_J3 p2 p3 p5 x1 x6 (decide (x5.2 ≠ 0)))))))

def law04_PolyOpened_J1 (p0 : W2) (p1 : TScheme) (p2 : List Int) (p3 : W2) (p5 : Int) (x1 : Bool) (x2 : THeader × Int) (a3 : Bool) : Option (Bool) := (bif a3 then (bif x1 then (if x2.2 = 30 then (some true) else (if x2.2 = 2 then (some true) else (some (decide (x2.2 = 4))))) else (some false)) else (if p5 < 0 then (law04_PolyOpened_J2 p0 p1 p2 p3 p5 x1 x2 true) else Option.bind (shG p1.Depth) fun n11 => ((law04_PolyOpened_J2 p0 p1 p2 p3 p5 x1 x2 (decide (shlI 1 n11 ≤ p5))))))

/-- headend/headendlaw04.PolyOpened -/
def law04_PolyOpened (p0 : W2) (p1 : TScheme) (p2 : List Int) (p3 : W2) (p4 : BitVec 64) (p5 : Int) : Option (Bool) := Option.bind (law04_alive) fun x1 => (Option.bind (poly_Seal p0 p1 p2 p3 p4) fun x2 => (Option.bind (ref04_Valid p1) fun x12 => ((bif (!x12) then (law04_PolyOpened_J1 p0 p1 p2 p3 p5 x1 x2 true) else Option.bind (ref03_IsList p1.Depth p2) fun x13 => ((bif (!x13) then (law04_PolyOpened_J1 p0 p1 p2 p3 p5 x1 x2 true) else (law04_PolyOpened_J1 p0 p1 p2 p3 p5 x1 x2 (decide (p1.Degree < (p2.length : Int))))))))))
end Go.Sx
