/- Mirrors: Pu. Printed by mx.py. -/
import Derived.Test.YtkdghilkigojgaaMirE
import Derived.Test.YtkdghilkigojgaaPln
import Derived.Test.YtkdghilkigojgaaPpM
set_option linter.unusedVariables false
set_option maxRecDepth 100000
namespace Go.Sx
open Go Go.RowKit


def law04_PolyPunctures_L3 (p2 : TPunctured) (p3 : Int) (x1 : TPunctured) (rec3 : (Int × List TLabel) → Option (Bool)) (s3 : Int × List TLabel) : Option (Bool) := match s3 with | (a11, a12) => (if a11 < (a12.length : Int) then Option.bind (getI a12 a11) fun y14 => (Option.bind (getI a12 a11) fun y15 => ((rec3 (w64 (a11 + 1), a12.set a11.toNat (TLabel.mk (w64 (y14.Node + 1)) y15.Minus y15.Key))))) else Option.bind (poly_Evaluate x1 p3) fun x16 => (Option.bind (ref04_Evaluate p2 p3) fun x17 => ((if x16.1 = x17.1 then (if x16.2 = x17.2 then Option.bind (ref04_SamePunctured x1 p2) fun x18 => ((some x18)) else (some false)) else (some false)))))

def law04_PolyPunctures_J2 (p2 : TPunctured) (p3 : Int) (x1 : TPunctured) (x5 : TPunctured × Int) (a7 : Bool) : Option (Bool) := (bif a7 then (some false) else (fixN (law04_PolyPunctures_L3 p2 p3 x1) FUEL (0, x5.1.Labels)))

def law04_PolyPunctures_J1 (p2 : TPunctured) (p3 : Int) (x1 : TPunctured) (a4 : Bool) : Option (Bool) := (bif a4 then (some false) else Option.bind (poly_Puncture x1 p3) fun x5 => (Option.bind (ref04_Puncture p2 p3) fun x6 => (Option.bind (ref04_SamePunctured x5.1 x6.1) fun x19 => ((bif (!x19) then (law04_PolyPunctures_J2 p2 p3 x1 x5 true) else (law04_PolyPunctures_J2 p2 p3 x1 x5 (decide (x5.2 ≠ x6.2))))))))

/-- headend/headendlaw04.PolyPunctures -/
def law04_PolyPunctures (p0 : W2) (p1 : Int) (p2 : TPunctured) (p3 : Int) : Option (Bool) := Option.bind (ref04_TwinPunctured p2) fun x1 => (Option.bind (poly_Full p0 p1) fun x2 => (Option.bind (ref04_Full p0 p1) fun x3 => (Option.bind (ref04_SamePunctured x2.1 x3.1) fun x20 => ((bif (!x20) then (law04_PolyPunctures_J1 p2 p3 x1 true) else (if x2.2 ≠ x3.2 then (law04_PolyPunctures_J1 p2 p3 x1 true) else Option.bind (poly_CheckPunctured x1) fun x21 => (Option.bind (ref04_CheckPunctured p2) fun x22 => ((law04_PolyPunctures_J1 p2 p3 x1 (decide (x21 ≠ x22)))))))))))
end Go.Sx
