/- Mirrors: Qj. Printed by mx.py. -/
import Derived.Test.YtkdghilkigojgaaMirE
import Derived.Test.YtkdghilkigojgaaPln
import Derived.Test.YtkdghilkigojgaaXwM
set_option linter.unusedVariables false
set_option maxRecDepth 100000
namespace Go.Sx
open Go Go.RowKit


def law04_PolyExamples_J5 (x22 : TPunctured × Int) (a26 : Bool) : Option (Bool) := (bif a26 then (some false) else Option.bind (poly_Full (504403158265495552#64, 0#64) 0) fun x27 => (Option.bind (poly_Evaluate x27.1 0) fun x28 => (Option.bind (poly_Evaluate x22.1 4) fun x29 => ((if x27.2 = 0 then (if x28.2 = 0 then (if x28.1 = drv (504403158265495552#64, 0#64) (un8 33#8) 0#64 then (some (decide (x29.2 = 2))) else (some false)) else (some false)) else (some false))))))

def law04_PolyExamples_J4 (a19 : Bool) : Option (Bool) := (bif a19 then (some false) else Option.bind (poly_Full (504403158265495552#64, 0#64) 2) fun x20 => (Option.bind (poly_Puncture x20.1 1) fun x21 => (Option.bind (poly_Puncture x21.1 3) fun x22 => (Option.bind (poly_Puncture x22.1 1) fun x23 => (Option.bind (poly_Puncture x23.1 0) fun x24 => (Option.bind (poly_Puncture x24.1 2) fun x25 => ((if x21.2 ≠ 0 then (law04_PolyExamples_J5 x22 true) else Option.bind (law04_nodes x22.1 x22.2 [4, 6]) fun x30 => ((bif (!x30) then (law04_PolyExamples_J5 x22 true) else Option.bind (law04_nodes x23.1 x23.2 [4, 6]) fun x31 => ((bif (!x31) then (law04_PolyExamples_J5 x22 true) else (if x24.2 ≠ 0 then (law04_PolyExamples_J5 x22 true) else Option.bind (law04_nodes x25.1 x25.2 ([] : List Int)) fun x32 => ((law04_PolyExamples_J5 x22 (!x32))))))))))))))))

def law04_PolyExamples_J3 (x1 : TScheme) (a15 : Bool) : Option (Bool) := (bif a15 then (some false) else Option.bind (poly_Seal k0 x1 [0, 2] k0 0#64) fun x16 => (Option.bind (poly_Seal k0 x1 ([] : List Int) k0 0#64) fun x17 => (Option.bind (poly_Seal k0 x1 [0, 1, 2] k0 0#64) fun x18 => (Option.bind (law04_points x16.1 x16.2 [1#64, 3#64]) fun x33 => ((bif (!x33) then (law04_PolyExamples_J4 true) else Option.bind (law04_points x17.1 x17.2 [5#64, 6#64]) fun x34 => ((bif (!x34) then (law04_PolyExamples_J4 true) else (law04_PolyExamples_J4 (decide (x18.2 ≠ 4)))))))))))

def law04_PolyExamples_J2 (x1 : TScheme) (a10 : Bool) : Option (Bool) := (bif a10 then (some false) else Option.bind (poly_Interpolate x1 [(TPoint.mk 1#64 5#64), (TPoint.mk 1#64 5#64), (TPoint.mk 0#64 3#64)]) fun x11 => (Option.bind (poly_Interpolate x1 [(TPoint.mk 1#64 5#64), (TPoint.mk 4#64 2#64)]) fun x12 => (Option.bind (poly_Secret k0 x1 3) fun x13 => (Option.bind (poly_Secret k0 x1 4) fun x14 => ((if x11.2 ≠ 2 then (law04_PolyExamples_J3 x1 true) else (if x12.2 ≠ 2 then (law04_PolyExamples_J3 x1 true) else (if x13.2 ≠ 0 then (law04_PolyExamples_J3 x1 true) else (if x13.1.Share.X ≠ 4#64 then (law04_PolyExamples_J3 x1 true) else (law04_PolyExamples_J3 x1 (decide (x14.2 ≠ 2))))))))))))

def law04_PolyExamples_J1 (x1 : TScheme) (a5 : Bool) : Option (Bool) := (bif a5 then (some false) else Option.bind (poly_Value x1 [3#64, 0#64, 2#64] 0#64) fun x6 => (Option.bind (poly_Value x1 [3#64, 0#64, 2#64] 1#64) fun x7 => (Option.bind (poly_Value x1 [3#64, 0#64, 2#64] 11#64) fun x8 => (Option.bind (poly_Value x1 [3#64, 0#64] 0#64) fun x9 => ((if x6.2 ≠ 0 then (law04_PolyExamples_J2 x1 true) else (if x6.1 ≠ 3#64 then (law04_PolyExamples_J2 x1 true) else (if x7.2 ≠ 0 then (law04_PolyExamples_J2 x1 true) else (if x7.1 ≠ 5#64 then (law04_PolyExamples_J2 x1 true) else (if x8.2 ≠ 2 then (law04_PolyExamples_J2 x1 true) else (law04_PolyExamples_J2 x1 (decide (x9.2 ≠ 2)))))))))))))

/-- headend/headendlaw04.PolyExamples -/
def law04_PolyExamples  : Option (Bool) := Option.bind (law04_small) fun x1 => (Option.bind (law04_small) fun x2 => (Option.bind (law04_small) fun x3 => (Option.bind (law04_small) fun x4 => (Option.bind (law04_alive) fun x35 => ((bif (!x35) then (law04_PolyExamples_J1 x1 true) else Option.bind (poly_Check (TScheme.mk x2.Kind x2.Depth 9 x2.Group)) fun x36 => ((if x36 ≠ 30 then (law04_PolyExamples_J1 x1 true) else Option.bind (poly_Check (TScheme.mk x3.Kind 4 x3.Degree x3.Group)) fun x37 => ((if x37 ≠ 30 then (law04_PolyExamples_J1 x1 true) else Option.bind (poly_Check (TScheme.mk x4.Kind x4.Depth x4.Degree (TGroup.mk x4.Group.P x4.Group.Q 5#64))) fun x38 => ((law04_PolyExamples_J1 x1 (decide (x38 ≠ 30))))))))))))))
end Go.Sx
