/- Mirrors: Od. Printed by mx.py. -/
import Derived.Test.YtecempahccgijaaMirE
import Derived.Test.YtecempahccgijaaPln
import Derived.Test.YtecempahccgijaaAlM
set_option linter.unusedVariables false
set_option maxRecDepth 100000
namespace Go.Sx
open Go Go.RowKit
noncomputable section


def law03_CoverOpened_J4 (a9 : Int) (rec3 : (Int) → Option (Bool)) (a12 : Bool) : Option (Bool) := (bif a12 then (some false) else (rec3 (w64 (a9 + 1))))

def law03_CoverOpened_L5 (p2 : List Int) (p3 : W2) (p4 : Int) (x1 : Bool) (x6 : W2 × Int) (rec5 : (Int) → Option (Bool)) (a14 : Int) : Option (Bool) := (if a14 < (p2.length : Int) then Option.bind (getI p2 a14) fun y15 => ((if y15 = p4 then (bif x1 then (if x6.2 = 6 then (some (decide (x6.1 = k0))) else (some false)) else (some false)) else (rec5 (w64 (a14 + 1))))) else (bif x1 then (if x6.2 = 0 then (some (decide (x6.1 = p3))) else (some false)) else (some false)))

def law03_CoverOpened_L3 (p1 : TScheme) (p2 : List Int) (p3 : W2) (p4 : Int) (x1 : Bool) (x4 : THeader × Int) (x6 : W2 × Int) (rec3 : (Int) → Option (Bool)) (a9 : Int) : Option (Bool) := (if a9 < (x4.1.Items.length : Int) then Option.bind (getI x4.1.Items a9) fun y10 => (Option.bind (cover_Knows p1 p2 y10.Subset) fun x11 => ((if x11.2 ≠ 0 then (law03_CoverOpened_J4 a9 rec3 true) else (law03_CoverOpened_J4 a9 rec3 x11.1)))) else (fixN (law03_CoverOpened_L5 p2 p3 p4 x1 x6) FUEL 0))

def law03_CoverOpened_J2 (p1 : TScheme) (p2 : List Int) (p3 : W2) (p4 : Int) (x1 : Bool) (x4 : THeader × Int) (x6 : W2 × Int) (a7 : Bool) : Option (Bool) := (bif a7 then (some false) else (fixN (law03_CoverOpened_L3 p1 p2 p3 p4 x1 x4 x6) FUEL 0))

def law03_CoverOpened_J1 (p0 : W2) (p1 : TScheme) (p2 : List Int) (p3 : W2) (p4 : Int) (x1 : Bool) (a2 : Bool) : Option (Bool) := (bif a2 then (some x1) else Option.bind (cover_Cover p1 p2) fun x3 => (Option.bind (cover_Seal p0 p1 x3.1 p3) fun x4 => (Option.bind (cover_Secret p0 p1 p4) fun x5 => (Option.bind (cover_Open p1 x5.1 x4.1) fun x6 => ((if x3.2 ≠ 0 then (law03_CoverOpened_J2 p1 p2 p3 p4 x1 x4 x6 true) else (if x4.2 ≠ 0 then (law03_CoverOpened_J2 p1 p2 p3 p4 x1 x4 x6 true) else (if x5.2 ≠ 0 then (law03_CoverOpened_J2 p1 p2 p3 p4 x1 x4 x6 true) else (law03_CoverOpened_J2 p1 p2 p3 p4 x1 x4 x6 (decide ((x4.1.Items.length : Int) ≠ (x3.1.length : Int))))))))))))

/-- headend/headendlaw03.CoverOpened -/
def law03_CoverOpened (p0 : W2) (p1 : TScheme) (p2 : List Int) (p3 : W2) (p4 : Int) : Option (Bool) := Option.bind (law03_alive) fun x1 => (Option.bind (ref03_Valid p1) fun x16 => ((bif (!x16) then (law03_CoverOpened_J1 p0 p1 p2 p3 p4 x1 true) else Option.bind (ref03_IsList p1.Depth p2) fun x17 => ((bif (!x17) then (law03_CoverOpened_J1 p0 p1 p2 p3 p4 x1 true) else (if p4 < 0 then (law03_CoverOpened_J1 p0 p1 p2 p3 p4 x1 true) else Option.bind (shG p1.Depth) fun n18 => ((law03_CoverOpened_J1 p0 p1 p2 p3 p4 x1 (decide (shlI 1 n18 ≤ p4))))))))))
end
end Go.Sx
