/- Mirrors: Ek. Printed by mx.py. -/
import Derived.Test.YtjdffpglgkefmaaGreatMirE
import Derived.Test.YtjdffpglgkefmaaGreatPln
import Derived.Test.YtjdffpglgkefmaaGreatPcM
set_option linter.unusedVariables false
set_option maxRecDepth 100000
namespace Go.Sx
open Go Go.RowKit
noncomputable section


def epoch_Secret_J1 (p0 : W2) (p1 : TScheme) (p2 : Int) (a1 : Bool) : Option (TSecret × Int) := (bif a1 then (some ((TSecret.mk 0 [] (TPoint.mk 0#64 0#64)), 2)) else (if un8 p1.Kind = 1 ∨ un8 p1.Kind = 2 ∨ un8 p1.Kind = 3 then Option.bind (cover_Check p1) fun x2 => ((if x2 ≠ 0 then (some ((TSecret.mk 0 [] (TPoint.mk 0#64 0#64)), x2)) else Option.bind (cover_Secret p0 p1 p2) fun x3 => ((some (x3.1, x3.2))))) else (if un8 p1.Kind = 4 then Option.bind (poly_Check p1) fun x4 => ((if x4 ≠ 0 then (some ((TSecret.mk 0 [] (TPoint.mk 0#64 0#64)), x4)) else Option.bind (poly_Secret p0 p1 p2) fun x5 => ((some (x5.1, x5.2))))) else none)))

/-- headend/epoch.Secret -/
def epoch_Secret (p0 : W2) (p1 : TScheme) (p2 : Int) : Option (TSecret × Int) := (if p1.Kind < 1#8 then (epoch_Secret_J1 p0 p1 p2 true) else (epoch_Secret_J1 p0 p1 p2 (decide ((5 : Int) ≤ un8 p1.Kind))))

def epoch_CheckScheme_J1 (p0 : TScheme) (a1 : Bool) : Option (Int) := (bif a1 then (some 2) else (if un8 p0.Kind = 1 ∨ un8 p0.Kind = 2 ∨ un8 p0.Kind = 3 then Option.bind (cover_Check p0) fun x2 => ((some x2)) else (if un8 p0.Kind = 4 then Option.bind (poly_Check p0) fun x3 => ((some x3)) else none)))

/-- headend/epoch.CheckScheme -/
def epoch_CheckScheme (p0 : TScheme) : Option (Int) := (if p0.Kind < 1#8 then (epoch_CheckScheme_J1 p0 true) else (epoch_CheckScheme_J1 p0 (decide ((5 : Int) ≤ un8 p0.Kind))))

/-- headend/epoch.Session -/
def epoch_Session (p0 : W2) (p1 : Int) : Option (W2) := (some (drv p0 (un8 50#8) (wd p1)))

/-- headend/epoch.Word -/
def epoch_Word (p0 : W2) (p1 : Int) : Option (W2) := (some (drv p0 (un8 51#8) (wd p1)))

def ref05_CheckScheme_J1 (p0 : TScheme) (a1 : Bool) : Option (Int) := (bif a1 then Option.bind (ref03_Check p0) fun x2 => ((some x2)) else (if p0.Kind = 4#8 then Option.bind (ref04_Check p0) fun x3 => ((some x3)) else (some 2)))

/-- headend/headendref05.CheckScheme -/
def ref05_CheckScheme (p0 : TScheme) : Option (Int) := (if 1#8 ≤ p0.Kind then (ref05_CheckScheme_J1 p0 (decide (p0.Kind ≤ 3#8))) else (ref05_CheckScheme_J1 p0 false))

/-- headend/headendref05.Secret -/
def ref05_Secret (p0 : W2) (p1 : TScheme) (p2 : Int) : Option (TSecret × Int) := Option.bind (ref05_CheckScheme p1) fun x1 => ((if x1 ≠ 0 then (some ((TSecret.mk 0 [] (TPoint.mk 0#64 0#64)), x1)) else (if p1.Kind = 4#8 then Option.bind (ref04_Secret p0 p1 p2) fun x2 => ((some (x2.1, x2.2))) else Option.bind (ref03_Secret p0 p1 p2) fun x3 => ((some (x3.1, x3.2))))))

/-- headend/headendref05.Session -/
def ref05_Session (p0 : W2) (p1 : Int) : Option (W2) := (some (drv p0 (un8 50#8) (wd p1)))

/-- headend/headendref05.Word -/
def ref05_Word (p0 : W2) (p1 : Int) : Option (W2) := (some (drv p0 (un8 51#8) (wd p1)))

def ref05_SameSecret_L2 (p0 : TSecret) (p1 : TSecret) (rec2 : (Int) → Option (Bool)) (a3 : Int) : Option (Bool) := (if a3 < (p0.Labels.length : Int) then Option.bind (getI p0.Labels a3) fun y4 => (Option.bind (getI p1.Labels a3) fun y5 => ((if y4 ≠ y5 then (some false) else (rec2 (w64 (a3 + 1)))))) else (some true))

def ref05_SameSecret_J1 (p0 : TSecret) (p1 : TSecret) (a1 : Bool) : Option (Bool) := (bif a1 then (some false) else (fixN (ref05_SameSecret_L2 p0 p1) FUEL 0))

/-- headend/headendref05.SameSecret -/
def ref05_SameSecret (p0 : TSecret) (p1 : TSecret) : Option (Bool) := (if p0.Receiver ≠ p1.Receiver then (ref05_SameSecret_J1 p0 p1 true) else (if p0.Share ≠ p1.Share then (ref05_SameSecret_J1 p0 p1 true) else (ref05_SameSecret_J1 p0 p1 (decide ((p0.Labels.length : Int) ≠ (p1.Labels.length : Int))))))
end
end Go.Sx
