/- Mirrors: Pt. Printed by mx.py. -/
import Derived.Test.YtecempahccgijaaMirE
import Derived.Test.YtecempahccgijaaPln
import Derived.Test.YtecempahccgijaaWPtM
set_option linter.unusedVariables false
set_option maxRecDepth 100000
namespace Go.Sx
open Go Go.RowKit
noncomputable section


def law03_CoverParted_J6 (a13 : Int) (rec5 : (Int) → Option (Bool)) (a20 : Bool) : Option (Bool) := (bif a20 then (some false) else (rec5 (w64 (a13 + 1))))

def law03_CoverParted_L5 (p0 : TScheme) (x1 : Bool) (x2 : List Int × Int) (x3 : List TSubset × Int) (rec5 : (Int) → Option (Bool)) (a13 : Int) : Option (Bool) := (if a13 < (x2.1.length : Int) then Option.bind (sliG x3.1 0 1) fun l14 => (Option.bind (getI x2.1 a13) fun y15 => (Option.bind (law03_member p0 l14 y15) fun x16 => (Option.bind (sliG x3.1 1 (x3.1.length : Int)) fun l17 => (Option.bind (getI x2.1 a13) fun y18 => (Option.bind (law03_member p0 l17 y18) fun x19 => ((bif (!x16.2) then (law03_CoverParted_J6 a13 rec5 true) else (bif (!x19.2) then (law03_CoverParted_J6 a13 rec5 true) else (law03_CoverParted_J6 a13 rec5 (x16.1 == x19.1)))))))))) else (some x1))

def law03_CoverParted_J4 (p0 : TScheme) (x1 : Bool) (x2 : List Int × Int) (x3 : List TSubset × Int) (a11 : Bool) : Option (Bool) := (bif a11 then (some false) else (fixN (law03_CoverParted_L5 p0 x1 x2 x3) FUEL 0))

def law03_CoverParted_J3 (p0 : TScheme) (x1 : Bool) (x2 : List Int × Int) (x3 : List TSubset × Int) (a6 : Bool) : Option (Bool) := (bif a6 then (some false) else Option.bind (getI x3.1 0) fun y7 => (Option.bind (cover_Members p0 y7) fun x8 => (Option.bind (getI x3.1 1) fun y9 => (Option.bind (cover_Members p0 y9) fun x10 => ((if x8.2 ≠ 0 then (law03_CoverParted_J4 p0 x1 x2 x3 true) else (if x10.2 ≠ 0 then (law03_CoverParted_J4 p0 x1 x2 x3 true) else (if (x8.1.length : Int) = 0 then (law03_CoverParted_J4 p0 x1 x2 x3 true) else (if (x10.1.length : Int) = 0 then (law03_CoverParted_J4 p0 x1 x2 x3 true) else (law03_CoverParted_J4 p0 x1 x2 x3 (decide (w64 ((x8.1.length : Int) + (x10.1.length : Int)) ≠ (x2.1.length : Int)))))))))))))

def law03_CoverParted_J2 (p0 : TScheme) (x1 : Bool) (x2 : List Int × Int) (x3 : List TSubset × Int) (a5 : Bool) : Option (Bool) := (bif a5 then (some false) else (if (x2.1.length : Int) = 1 then (bif x1 then (some (decide (x3.2 = 6))) else (some false)) else (if x3.2 ≠ 0 then (law03_CoverParted_J3 p0 x1 x2 x3 true) else (law03_CoverParted_J3 p0 x1 x2 x3 (decide ((x3.1.length : Int) ≠ 2))))))

def law03_CoverParted_J1 (p0 : TScheme) (x1 : Bool) (x2 : List Int × Int) (x3 : List TSubset × Int) (a4 : Bool) : Option (Bool) := (bif a4 then (bif x1 then (if x2.2 ≠ 0 then (some (decide (x3.2 = x2.2))) else (some false)) else (some false)) else (if x2.2 ≠ 0 then (law03_CoverParted_J2 p0 x1 x2 x3 true) else (law03_CoverParted_J2 p0 x1 x2 x3 (decide ((x2.1.length : Int) = 0)))))

/-- headend/headendlaw03.CoverParted -/
def law03_CoverParted (p0 : TScheme) (p1 : TSubset) : Option (Bool) := Option.bind (law03_alive) fun x1 => (Option.bind (cover_Members p0 p1) fun x2 => (Option.bind (cover_Split p0 p1) fun x3 => (Option.bind (ref03_Valid p0) fun x21 => ((bif (!x21) then (law03_CoverParted_J1 p0 x1 x2 x3 true) else Option.bind (ref03_IsSubset p0 p1) fun x22 => ((law03_CoverParted_J1 p0 x1 x2 x3 (!x22))))))))
end
end Go.Sx
