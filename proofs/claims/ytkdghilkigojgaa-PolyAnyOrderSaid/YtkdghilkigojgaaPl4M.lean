/- Mirrors: Pl4. Printed by mx.py. -/
import Derived.Test.YtkdghilkigojgaaMirE
import Derived.Test.YtkdghilkigojgaaPln
import Derived.Test.YtkdghilkigojgaaPbM
import Derived.Test.YtkdghilkigojgaaPcM
import Derived.Test.YtkdghilkigojgaaPdM
import Derived.Test.YtkdghilkigojgaaPpM
set_option linter.unusedVariables false
set_option maxRecDepth 100000
namespace Go.Sx
open Go Go.RowKit


/-- headend/headendlaw04.small -/
def law04_small  : Option (TScheme) := (some (TScheme.mk 4#8 2 2 (TGroup.mk 23#64 11#64 2#64)))

/-- headend/headendlaw04.words -/
def law04_words (p0 : List (BitVec 64)) (p1 : Int) (p2 : List (BitVec 64)) : Option (Bool) := (if p1 = 0 then Option.bind (ref04_SameWords p0 p2) fun x1 => ((some x1)) else (some false))

def law04_points_L2 (p0 : THeader) (p2 : List (BitVec 64)) (rec2 : (Int) → Option (Bool)) (a3 : Int) : Option (Bool) := (if a3 < (p2.length : Int) then Option.bind (getI p0.Points a3) fun y4 => (Option.bind (getI p2 a3) fun y5 => ((if y4.X ≠ y5 then (some false) else (rec2 (w64 (a3 + 1)))))) else (some true))

def law04_points_J1 (p0 : THeader) (p2 : List (BitVec 64)) (a1 : Bool) : Option (Bool) := (bif a1 then (some false) else (fixN (law04_points_L2 p0 p2) FUEL 0))

/-- headend/headendlaw04.points -/
def law04_points (p0 : THeader) (p1 : Int) (p2 : List (BitVec 64)) : Option (Bool) := (if p1 ≠ 0 then (law04_points_J1 p0 p2 true) else (law04_points_J1 p0 p2 (decide ((p0.Points.length : Int) ≠ (p2.length : Int)))))

def law04_nodes_L2 (p0 : TPunctured) (p2 : List Int) (rec2 : (Int) → Option (Bool)) (a3 : Int) : Option (Bool) := (if a3 < (p2.length : Int) then Option.bind (getI p0.Labels a3) fun y4 => (Option.bind (getI p2 a3) fun y5 => ((if y4.Node ≠ y5 then (some false) else (rec2 (w64 (a3 + 1)))))) else (some true))

def law04_nodes_J1 (p0 : TPunctured) (p2 : List Int) (a1 : Bool) : Option (Bool) := (bif a1 then (some false) else (fixN (law04_nodes_L2 p0 p2) FUEL 0))

/-- headend/headendlaw04.nodes -/
def law04_nodes (p0 : TPunctured) (p1 : Int) (p2 : List Int) : Option (Bool) := (if p1 ≠ 0 then (law04_nodes_J1 p0 p2 true) else (law04_nodes_J1 p0 p2 (decide ((p0.Labels.length : Int) ≠ (p2.length : Int)))))

def law04_alive_J2 (a10 : Bool) : Option (Bool) := (bif a10 then (some false) else Option.bind (poly_Full (72057594037927936#64, 0#64) 2) fun x11 => (Option.bind (poly_Puncture x11.1 1) fun x12 => (Option.bind (poly_Evaluate x12.1 1) fun x13 => (Option.bind (poly_Evaluate x12.1 0) fun x14 => (Option.bind (poly_Evaluate x11.1 0) fun x15 => (Option.bind (law04_nodes x11.1 x11.2 [1]) fun x16 => ((bif x16 then Option.bind (law04_nodes x12.1 x12.2 [3, 4]) fun x17 => ((bif x17 then (if x13.2 = 6 then (if x14.2 = 0 then (if x15.2 = 0 then (some (decide (x14.1 = x15.1))) else (some false)) else (some false)) else (some false)) else (some false))) else (some false)))))))))

def law04_alive_J1 (x1 : TScheme) (a4 : Bool) : Option (Bool) := (bif a4 then (some false) else Option.bind (poly_Seal (72057594037927936#64, 0#64) x1 [1] (144115188075855872#64, 0#64) 5#64) fun x5 => (Option.bind (poly_Secret (72057594037927936#64, 0#64) x1 0) fun x6 => (Option.bind (poly_Secret (72057594037927936#64, 0#64) x1 1) fun x7 => (Option.bind (poly_Open x1 x6.1 x5.1) fun x8 => (Option.bind (poly_Open x1 x7.1 x5.1) fun x9 => (Option.bind (law04_points x5.1 x5.2 [2#64, 5#64]) fun x18 => ((bif (!x18) then (law04_alive_J2 true) else (if x6.2 ≠ 0 then (law04_alive_J2 true) else (if x6.1.Share.X ≠ 1#64 then (law04_alive_J2 true) else (if x7.2 ≠ 0 then (law04_alive_J2 true) else (if x8.2 ≠ 0 then (law04_alive_J2 true) else (if x8.1 ≠ (144115188075855872#64, 0#64) then (law04_alive_J2 true) else (law04_alive_J2 (decide (x9.2 ≠ 6))))))))))))))))

/-- headend/headendlaw04.alive -/
def law04_alive  : Option (Bool) := Option.bind (law04_small) fun x1 => (Option.bind (poly_Value x1 [3#64, 0#64, 2#64] 4#64) fun x2 => (Option.bind (poly_Interpolate x1 [(TPoint.mk 1#64 5#64), (TPoint.mk 4#64 2#64), (TPoint.mk 0#64 3#64)]) fun x3 => (Option.bind (poly_Check x1) fun x19 => ((if x19 ≠ 0 then (law04_alive_J1 x1 true) else (if x2.2 ≠ 0 then (law04_alive_J1 x1 true) else (if x2.1 ≠ 2#64 then (law04_alive_J1 x1 true) else Option.bind (law04_words x3.1 x3.2 [3#64, 0#64, 2#64]) fun x20 => ((law04_alive_J1 x1 (!x20))))))))))
end Go.Sx
