/- Mirrors: Al. Printed by mx.py. -/
import Derived.Test.YtecempahccgijaaMirE
import Derived.Test.YtecempahccgijaaPln
import Derived.Test.YtecempahccgijaaWcM
set_option linter.unusedVariables false
set_option maxRecDepth 100000
namespace Go.Sx
open Go Go.RowKit
noncomputable section


/-- headend/headendlaw03.of -/
def law03_of (p0 : BitVec 8) (p1 : Int) : Option (TScheme) := (some (TScheme.mk p0 p1 0 (TGroup.mk 0#64 0#64 0#64)))

def law03_is_J3 (a3 : Int) (rec2 : (Int) → Option (Bool)) (a4 : Bool) : Option (Bool) := (bif a4 then (some false) else (rec2 (w64 (a3 + 1))))

def law03_is_L2 (p0 : List TSubset) (p2 : List Int) (rec2 : (Int) → Option (Bool)) (a3 : Int) : Option (Bool) := (if a3 < (p0.length : Int) then Option.bind (getI p0 a3) fun y5 => (Option.bind (getI p2 (w64 (2 * a3))) fun y6 => ((if y5.Node ≠ y6 then (law03_is_J3 a3 rec2 true) else Option.bind (getI p0 a3) fun y7 => (Option.bind (getI p2 (w64 ((w64 (2 * a3)) + 1))) fun y8 => ((law03_is_J3 a3 rec2 (decide (y7.Minus ≠ y8)))))))) else (some true))

def law03_is_J1 (p0 : List TSubset) (p2 : List Int) (a1 : Bool) : Option (Bool) := (bif a1 then (some false) else (fixN (law03_is_L2 p0 p2) FUEL 0))

/-- headend/headendlaw03.is -/
def law03_is (p0 : List TSubset) (p1 : Int) (p2 : List Int) : Option (Bool) := (if p1 ≠ 0 then (law03_is_J1 p0 p2 true) else (law03_is_J1 p0 p2 (decide (w64 (2 * (p0.length : Int)) ≠ (p2.length : Int)))))

/-- headend/headendlaw03.covers -/
def law03_covers (p0 : TScheme) (p1 : List Int) (p2 : List Int) : Option (Bool) := Option.bind (cover_Cover p0 p1) fun x1 => (Option.bind (law03_is x1.1 x1.2 p2) fun x2 => ((some x2)))

def law03_alive_J7 (x5 : W2) (a17 : Int) (a19 : THeader) (a22 : Int) (a24 : W2) : Option (Bool) := Option.bind (law03_of 2#8 2) fun x25 => (Option.bind (cover_Knows x25 [2] (TSubset.mk 1 6)) fun x26 => (Option.bind (law03_of 2#8 2) fun x27 => (Option.bind (cover_Knows x27 [0, 2] (TSubset.mk 1 6)) fun x28 => ((if a17 = 0 then (if a22 = 0 then (if a24 = x5 then (if x26.2 = 0 then (bif (!x26.1) then (if x28.2 = 0 then (bif x28.1 then (some (decide (a19.Check = drv x5 (un8 53#8) 0#64))) else (some false)) else (some false)) else (some false)) else (some false)) else (some false)) else (some false)) else (some false))))))

def law03_alive_J6 (x5 : W2) (a7 : TSecret) (a17 : Int) (a19 : THeader) : Option (Bool) := Option.bind (law03_of 2#8 2) fun x29 => (Option.bind (cover_Open x29 a7 a19) fun x30 => ((law03_alive_J7 x5 a17 a19 x30.2 x30.1)))

def law03_alive_J5 (x3 : W2) (x5 : W2) (a7 : TSecret) (a16 : Bool) : Option (Bool) := (bif a16 then (some false) else Option.bind (law03_of 2#8 2) fun x34 => (Option.bind (cover_Seal x3 x34 [(TSubset.mk 1 6)] x5) fun x35 => ((law03_alive_J6 x5 a7 x35.2 x35.1))))

def law03_alive_J4 (x3 : W2) (x5 : W2) (a7 : TSecret) (a9 : Int) (a11 : W2) (a12 : Int) (a14 : W2) (a15 : Int) : Option (Bool) := (if a9 ≠ 0 then (law03_alive_J5 x3 x5 a7 true) else (if (a7.Labels.length : Int) ≠ 4 then (law03_alive_J5 x3 x5 a7 true) else Option.bind (getI a7.Labels 3) fun y47 => ((if y47.Node ≠ 2 then (law03_alive_J5 x3 x5 a7 true) else Option.bind (getI a7.Labels 3) fun y48 => ((if y48.Minus ≠ 5 then (law03_alive_J5 x3 x5 a7 true) else (if a12 ≠ 0 then (law03_alive_J5 x3 x5 a7 true) else (if a15 ≠ 0 then (law03_alive_J5 x3 x5 a7 true) else (law03_alive_J5 x3 x5 a7 (decide (a11 ≠ a14)))))))))))

def law03_alive_J3 (x3 : W2) (x5 : W2) (a7 : TSecret) (a9 : Int) (a11 : W2) (a12 : Int) : Option (Bool) := Option.bind (law03_of 2#8 2) fun x49 => (Option.bind (cover_Find x49 a7 (TSubset.mk 1 6)) fun x50 => ((law03_alive_J4 x3 x5 a7 a9 a11 a12 x50.1 x50.2)))

def law03_alive_J2 (x3 : W2) (x5 : W2) (a7 : TSecret) (a9 : Int) : Option (Bool) := Option.bind (law03_of 2#8 2) fun x54 => (Option.bind (cover_SubsetKey x3 x54 (TSubset.mk 1 6)) fun x55 => ((law03_alive_J3 x3 x5 a7 a9 x55.1 x55.2)))

def law03_alive_J1 (a1 : Bool) : Option (Bool) := (bif a1 then (some false) else Option.bind (getI (kby k0) 3) fun y2 => (Option.bind (kset k0 3 1#8) fun x3 => (Option.bind (getI (kby k0) 0) fun y4 => (Option.bind (kset k0 0 9#8) fun x5 => (Option.bind (law03_of 2#8 2) fun x59 => (Option.bind (cover_Secret x3 x59 0) fun x60 => ((law03_alive_J2 x3 x5 x60.1 x60.2))))))))

/-- headend/headendlaw03.alive -/
def law03_alive  : Option (Bool) := Option.bind (law03_of 1#8 3) fun x64 => (Option.bind (law03_covers x64 [2, 3] [3, 0, 4, 0]) fun x65 => ((bif (!x65) then (law03_alive_J1 true) else Option.bind (law03_of 2#8 3) fun x66 => (Option.bind (law03_covers x66 [0, 5] [2, 8, 3, 13]) fun x67 => ((bif (!x67) then (law03_alive_J1 true) else Option.bind (law03_of 3#8 3) fun x68 => (Option.bind (law03_covers x68 [0, 5] [2, 4, 3, 6, 4, 8, 6, 13]) fun x69 => ((law03_alive_J1 (!x69))))))))))

def law03_member_L2 (p2 : Int) (a4 : Int) (rec1 : (Bool × Int) → Option (Bool × Bool)) (x6 : List Int × Int) (rec2 : (Bool × Int) → Option (Bool × Bool)) (s2 : Bool × Int) : Option (Bool × Bool) := match s2 with | (a9, a10) => (if a10 < (x6.1.length : Int) then (bif a9 then (rec2 (true, w64 (a10 + 1))) else Option.bind (getI x6.1 a10) fun y11 => ((rec2 (decide (y11 = p2), w64 (a10 + 1))))) else (rec1 (a9, w64 (a4 + 1))))

def law03_member_L1 (p0 : TScheme) (p1 : List TSubset) (p2 : Int) (rec1 : (Bool × Int) → Option (Bool × Bool)) (s1 : Bool × Int) : Option (Bool × Bool) := match s1 with | (a3, a4) => (if a4 < (p1.length : Int) then Option.bind (getI p1 a4) fun y5 => (Option.bind (cover_Members p0 y5) fun x6 => ((if x6.2 ≠ 0 then (some (false, false)) else (fixN (law03_member_L2 p2 a4 rec1 x6) FUEL (a3, 0))))) else (some (a3, true)))

/-- headend/headendlaw03.member -/
def law03_member (p0 : TScheme) (p1 : List TSubset) (p2 : Int) : Option (Bool × Bool) := (fixN (law03_member_L1 p0 p1 p2) FUEL (false, 0))
end
end Go.Sx
