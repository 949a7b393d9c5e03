/- Several texts in one: CaM CrM CbM ClM CcM XaM PaM PkM PbM PcM XbM XcM EkM EtM XdM XeM EsM AlM XfM VaM XgM DeM XhM Bk5M OpnBk5 CipA CipB CipC Ref2. -/
import Derived.Test.YtjdffpglgkefmaaGreatZc
import Derived.Test.YtjdffpglgkefmaaGreatRows
import Derived.KernelRfl
import Derived.Test.YtjdffpglgkefmaaGreatZb
set_option linter.unusedVariables false
set_option linter.unusedSimpArgs false
section
set_option linter.unusedVariables false
set_option maxRecDepth 100000
namespace Go.Sx
open Go Go.RowKit
structure Qfc where
  P : BitVec 64
  Q : BitVec 64
  G : BitVec 64
deriving DecidableEq, Inhabited
def Qfc.cs (x : Qfc)  : List Value := [wv x.P, wv x.Q, wv x.G]
theorem Qfc.cs_ones (x : Qfc)   : Qjr (Qfc.cs x ) = true := by simp only [Qfc.cs, List.cons_append, List.nil_append, kb, Qjr, Qhk, Qfd, Qhc, cond_true]
theorem Qfc.cs_inj {x y : Qfc} (h : Qfc.cs x = Qfc.cs y) : x = y := by
  have h0 : x.P = y.P := Qt9 (congrArg (fun l => l[0]?) h)
  have h1 : x.Q = y.Q := Qt9 (congrArg (fun l => l[1]?) h)
  have h2 : x.G = y.G := Qt9 (congrArg (fun l => l[2]?) h)
  cases x; cases y; simp only at *; subst h0; subst h1; subst h2; rfl
theorem Qfc.ws (l : List Qfc) : Ws 3 (l.map Qfc.cs) := Qil l (fun _ => rfl) (fun _ => rfl)
structure Qaj where
  Kind : BitVec 8
  Depth : Int
  Degree : Int
  Group : Qfc
deriving DecidableEq, Inhabited
def Qaj.cs (x : Qaj)  : List Value := [bv x.Kind, .int .i64 x.Depth, .int .i64 x.Degree, wv x.Group.P, wv x.Group.Q, wv x.Group.G]
theorem Qaj.cs_ones (x : Qaj)   : Qjr (Qaj.cs x ) = true := by simp only [Qaj.cs, List.cons_append, List.nil_append, kb, Qjr, Qhk, Qfd, Qhc, cond_true]
theorem Qaj.cs_inj {x y : Qaj} (h : Qaj.cs x = Qaj.cs y) : x = y := by
  have h0 : x.Kind = y.Kind := Xfw (congrArg (fun l => l[0]?) h)
  have h1 : x.Depth = y.Depth := Qkq (congrArg (fun l => l[1]?) h)
  have h2 : x.Degree = y.Degree := Qkq (congrArg (fun l => l[2]?) h)
  have h3 : x.Group = y.Group := Qfc.cs_inj (congrArg (fun l => (l.drop 3).take 3) h)
  cases x; cases y; simp only at *; subst h0; subst h1; subst h2; subst h3; rfl
theorem Qaj.ws (l : List Qaj) : Ws 6 (l.map Qaj.cs) := Qil l (fun _ => rfl) (fun _ => rfl)
structure Qak where
  Node : Int
  Minus : Int
deriving DecidableEq, Inhabited
def Qak.cs (x : Qak)  : List Value := [.int .i64 x.Node, .int .i64 x.Minus]
theorem Qak.cs_ones (x : Qak)   : Qjr (Qak.cs x ) = true := by simp only [Qak.cs, List.cons_append, List.nil_append, kb, Qjr, Qhk, Qfd, Qhc, cond_true]
theorem Qak.cs_inj {x y : Qak} (h : Qak.cs x = Qak.cs y) : x = y := by
  have h0 : x.Node = y.Node := Qkq (congrArg (fun l => l[0]?) h)
  have h1 : x.Minus = y.Minus := Qkq (congrArg (fun l => l[1]?) h)
  cases x; cases y; simp only at *; subst h0; subst h1; rfl
theorem Qak.ws (l : List Qak) : Ws 2 (l.map Qak.cs) := Qil l (fun _ => rfl) (fun _ => rfl)
structure Qbv where
  Node : Int
  Minus : Int
  Key : W2
deriving DecidableEq, Inhabited
def Qbv.cs (x : Qbv)  : List Value := [.int .i64 x.Node, .int .i64 x.Minus] ++ (kb x.Key)
theorem Qbv.cs_ones (x : Qbv)   : Qjr (Qbv.cs x ) = true := by simp only [Qbv.cs, List.cons_append, List.nil_append, kb, Qjr, Qhk, Qfd, Qhc, cond_true]
theorem Qbv.cs_inj {x y : Qbv} (h : Qbv.cs x = Qbv.cs y) : x = y := by
  have h0 : x.Node = y.Node := Qkq (congrArg (fun l => l[0]?) h)
  have h1 : x.Minus = y.Minus := Qkq (congrArg (fun l => l[1]?) h)
  have h2 : x.Key = y.Key := Qlj (congrArg (fun l => (l.drop 2).take 16) h)
  cases x; cases y; simp only at *; subst h0; subst h1; subst h2; rfl
theorem Qbv.ws (l : List Qbv) : Ws 18 (l.map Qbv.cs) := Qil l (fun _ => rfl) (fun _ => rfl)
structure Qag where
  X : BitVec 64
  Y : BitVec 64
deriving DecidableEq, Inhabited
def Qag.cs (x : Qag)  : List Value := [wv x.X, wv x.Y]
theorem Qag.cs_ones (x : Qag)   : Qjr (Qag.cs x ) = true := by simp only [Qag.cs, List.cons_append, List.nil_append, kb, Qjr, Qhk, Qfd, Qhc, cond_true]
theorem Qag.cs_inj {x y : Qag} (h : Qag.cs x = Qag.cs y) : x = y := by
  have h0 : x.X = y.X := Qt9 (congrArg (fun l => l[0]?) h)
  have h1 : x.Y = y.Y := Qt9 (congrArg (fun l => l[1]?) h)
  cases x; cases y; simp only at *; subst h0; subst h1; rfl
theorem Qag.ws (l : List Qag) : Ws 2 (l.map Qag.cs) := Qil l (fun _ => rfl) (fun _ => rfl)
structure Qap where
  Receiver : Int
  Labels : List Qbv
  Share : Qag
deriving DecidableEq, Inhabited
def Qap.cs (x : Qap) (v0 : Value) : List Value := [.int .i64 x.Receiver, v0, wv x.Share.X, wv x.Share.Y]
theorem Qap.cs_ones (x : Qap) (v0 : Value) (h0 : oneB v0 = true) : Qjr (Qap.cs x v0) = true := by simp only [Qap.cs, List.cons_append, List.nil_append, kb, Qjr, Qhk, Qfd, Qhc, cond_true, h0]
structure Qbd where
  Subset : Qak
  Box : W2
deriving DecidableEq, Inhabited
def Qbd.cs (x : Qbd)  : List Value := [.int .i64 x.Subset.Node, .int .i64 x.Subset.Minus] ++ (kb x.Box)
theorem Qbd.cs_ones (x : Qbd)   : Qjr (Qbd.cs x ) = true := by simp only [Qbd.cs, List.cons_append, List.nil_append, kb, Qjr, Qhk, Qfd, Qhc, cond_true]
theorem Qbd.cs_inj {x y : Qbd} (h : Qbd.cs x = Qbd.cs y) : x = y := by
  have h0 : x.Subset = y.Subset := Qak.cs_inj (congrArg (fun l => (l.drop 0).take 2) h)
  have h1 : x.Box = y.Box := Qlj (congrArg (fun l => (l.drop 2).take 16) h)
  cases x; cases y; simp only at *; subst h0; subst h1; rfl
theorem Qbd.ws (l : List Qbd) : Ws 18 (l.map Qbd.cs) := Qil l (fun _ => rfl) (fun _ => rfl)
structure Qa8 where
  Items : List Qbd
  Base : BitVec 64
  Points : List Qag
  Box : W2
  Check : W2
deriving DecidableEq, Inhabited
def Qa8.cs (x : Qa8) (v0 : Value) (v1 : Value) : List Value := [v0, wv x.Base, v1] ++ (kb x.Box ++ (kb x.Check))
theorem Qa8.cs_ones (x : Qa8) (v0 : Value) (v1 : Value) (h0 : oneB v0 = true) (h1 : oneB v1 = true) : Qjr (Qa8.cs x v0 v1) = true := by simp only [Qa8.cs, List.cons_append, List.nil_append, kb, Qjr, Qhk, Qfd, Qhc, cond_true, h0, h1]
structure Qa7 where
  kind : BitVec 8
  depth : Int
  stride : Int
deriving DecidableEq, Inhabited
def Qa7.cs (x : Qa7)  : List Value := [bv x.kind, .int .i64 x.depth, .int .i64 x.stride]
theorem Qa7.cs_ones (x : Qa7)   : Qjr (Qa7.cs x ) = true := by simp only [Qa7.cs, List.cons_append, List.nil_append, kb, Qjr, Qhk, Qfd, Qhc, cond_true]
theorem Qa7.cs_inj {x y : Qa7} (h : Qa7.cs x = Qa7.cs y) : x = y := by
  have h0 : x.kind = y.kind := Xfw (congrArg (fun l => l[0]?) h)
  have h1 : x.depth = y.depth := Qkq (congrArg (fun l => l[1]?) h)
  have h2 : x.stride = y.stride := Qkq (congrArg (fun l => l[2]?) h)
  cases x; cases y; simp only at *; subst h0; subst h1; subst h2; rfl
theorem Qa7.ws (l : List Qa7) : Ws 3 (l.map Qa7.cs) := Qil l (fun _ => rfl) (fun _ => rfl)
def Qes (p0 : Qaj) (rec2 : (Int) → Option (Qa7 × Bool)) (a3 : Int) : Option (Qa7 × Bool) := (if w64 (a3 * a3) < p0.Depth then (rec2 (w64 (a3 + 1))) else (some ((Qa7.mk p0.Kind p0.Depth a3), true)))
def Qe0 (p0 : Qaj) (a1 : Bool) : Option (Qa7 × Bool) := (bif a1 then (some ((Qa7.mk 0#8 0 0), false)) else (Qcr (Qes p0) Qdn 1))
def Qiq (p0 : Qaj) : Option (Qa7 × Bool) := (if p0.Kind < 1#8 then (Qe0 p0 true) else (if 3#8 < p0.Kind then (Qe0 p0 true) else (if p0.Depth < 0 then (Qe0 p0 true) else (if (6 : Int) < p0.Depth then (Qe0 p0 true) else (Qe0 p0 (decide (p0 ≠ (Qaj.mk p0.Kind p0.Depth 0 (Qfc.mk 0#64 0#64 0#64)))))))))
def Qh8 (p0 : Qaj) : Option (Int) := Option.bind (Qiq p0) fun x1 => ((bif (!x1.2) then (some 30) else (some 0)))
end Go.Sx

end
section
set_option linter.unusedVariables false
set_option maxRecDepth 100000
namespace Go.Sx
open Go Go.RowKit
end Go.Sx

end
section
set_option linter.unusedVariables false
set_option maxRecDepth 100000
namespace Go.Sx
open Go Go.RowKit
def Qet (p0 : Qa7) : Option (Int) := Option.bind (shG p0.depth) fun n1 => ((some (Qvz 1 n1)))
def Qgt (p0 : Qa7) (p1 : Int) : Option (Bool) := (if (1 : Int) ≤ p1 then Option.bind (Qet p0) fun x1 => ((some (decide (p1 < w64 (2 * x1))))) else (some false))
def Qco (p0 : Int) : Option (Int) := (some (w64 ((lg (un (wd p0))) - 1)))
def Qeu (p0 : Int) (p1 : Int) (a1 : Bool) : Option (Bool) := (bif a1 then (some false) else Option.bind (Qco p0) fun x2 => (Option.bind (Qco p1) fun x3 => (Option.bind (shG (w64 (x2 - x3))) fun n4 => ((some (decide (Xdy p0 n4 = p1)))))))
def Qgm (p0 : Int) (p1 : Int) : Option (Bool) := (if p0 < 1 then (Qeu p0 p1 true) else (if p1 < 1 then (Qeu p0 p1 true) else Option.bind (Qco p0) fun x5 => (Option.bind (Qco p1) fun x6 => ((Qeu p0 p1 (decide (x5 < x6)))))))
def Qcw (p0 : Qa7) (p1 : Int) : Option (Bool) := Option.bind (Qco p1) fun x1 => (Option.bind (Qvx x1 p0.stride) fun x2 => ((some (decide (x2 = 0)))))
def Qld (p0 : Int) (p1 : Int) : Option (Int × Int) := (some (p0, p1))
def Qda (p0 : Int) (p1 : Int) : Option (Int) := Option.bind (Qco p1) fun x1 => (Option.bind (Qco p0) fun x2 => (Option.bind (shG (w64 ((w64 (x1 - x2)) - 1))) fun n3 => ((some (Xdy p1 n3)))))
def Qev (p2 : Int) (rec1 : (Int) → Option (List Int)) (a2 : Int) : Option (List Int) := (if a2 ≠ p2 then Option.bind (Qda a2 p2) fun x3 => ((yl x3 ((rec1 x3)))) else (some []))
def Qin (p1 : Int) (p2 : Int) : Option (List Int) := (Qcr (Qev p2) Qdn p1)
def Qbg  (s : Int) : Option (Int) := match s with | a3 => (some 0)
def Qcf  (s : Int) : Option (Int) := match s with | a3 => (some a3)
def Qb8 (p1_0 : Qa7) (e4 : Int) (nx1 : (Int) → Option (Int)) (s : Int) : Option (Int) := match s with | a3 => Option.bind (Qcw p1_0 e4) fun x5 => ((bif x5 then (Qcf e4) else (nx1 a3)))
def Qbz (p0_0 : Int) (p0_1 : Int) (p1_0 : Qa7) : Option (Int) := Option.bind (Qin p0_0 p0_1) fun l1 => ((itL (Qb8 p1_0) Qbg l1 0))
def Qep (p0 : Qa7) (p1 : Int) (p2 : Int) : Option (Int) := Option.bind (shG (un 1#64)) fun n1 => (Option.bind (Qld p1 (Xdy p2 n1)) fun x2 => (Option.bind (Qbz x2.1 x2.2 p0) fun x3 => ((some x3))))
def Qeh (p0 : Qa7) (p1 : Qak) (a3 : Bool) : Option (Bool) := (bif a3 then (some false) else (if p0.kind = 2#8 then (some true) else Option.bind (Qcw p0 p1.Node) fun x4 => ((bif x4 then (some true) else Option.bind (Qep p0 p1.Node p1.Minus) fun x5 => ((some (decide (x5 = 0))))))))
def Qfq (p0 : Qa7) (p1 : Qak) (a2 : Bool) : Option (Bool) := (bif a2 then (if p1.Minus = 0 then (if p0.kind = 1#8 then (some true) else (some (decide (p1.Node = 1)))) else (some false)) else Option.bind (Qgt p0 p1.Minus) fun x6 => ((bif (!x6) then (Qeh p0 p1 true) else (if p1.Minus = p1.Node then (Qeh p0 p1 true) else Option.bind (Qgm p1.Minus p1.Node) fun x7 => ((Qeh p0 p1 (!x7)))))))
def Qfv (p0 : Qa7) (p1 : Qak) : Option (Bool) := Option.bind (Qgt p0 p1.Node) fun x1 => ((bif (!x1) then (some false) else (if p0.kind = 1#8 then (Qfq p0 p1 true) else (Qfq p0 p1 (decide (p1.Minus = 0))))))
def Qjy (p1 : List Qak) (x1 : Qa7 × Bool) (rec1 : (Int) → Option (Qa7 × Int)) (a3 : Int) : Option (Qa7 × Int) := (if a3 < (p1.length : Int) then Option.bind (Qi2 p1 a3) fun y4 => (Option.bind (Qfv x1.1 y4) fun x5 => ((bif (!x5) then (some ((Qa7.mk 0#8 0 0), 31)) else (rec1 (w64 (a3 + 1)))))) else (some (x1.1, 0)))
def Qhl (p0 : Qaj) (p1 : List Qak) : Option (Qa7 × Int) := Option.bind (Qiq p0) fun x1 => ((bif (!x1.2) then (some ((Qa7.mk 0#8 0 0), 30)) else (Qcr (Qjy p1 x1) Qdn 0)))
def Qj3 (p0 : W2) (p1 : Int) : Option (W2) := (some (drv p0 (un8 30#8) (wd p1)))
def Qif (a4 : W2) (nx1 : (W2) → Option (W2)) (a6 : BitVec 8) : Option (W2) := (nx1 (drv a4 (un8 a6) 0#64))
def Qi7  (s : W2) : Option (W2) := match s with | a4 => (some a4)
def Qi6  (e5 : Int) (nx1 : (W2) → Option (W2)) (s : W2) : Option (W2) := match s with | a4 => Option.bind (Qvx e5 2) fun x7 => ((if x7 = 1 then (Qif a4 nx1 32#8) else (Qif a4 nx1 31#8)))
def Qiy (p0 : W2) (p1 : Int) (p2 : Int) : Option (W2) := Option.bind (Qld p1 p2) fun x1 => (Option.bind (Qin x1.1 x1.2) fun l2 => ((itL Qi6 Qi7 l2 p0)))
def Qmc (p0 : W2) : Option (W2) := (some (drv p0 (un8 33#8) 0#64))
def Qk8 (p0 : Qa7) (p1 : W2) (p2 : Qak) : Option (W2) := (if p0.kind = 1#8 then Option.bind (Qj3 p1 p2.Node) fun x1 => ((some x1)) else (if p2.Minus = 0 then (some (drv p1 (un8 34#8) 0#64)) else Option.bind (Qj3 p1 p2.Node) fun x2 => (Option.bind (Qiy x2 p2.Node p2.Minus) fun x3 => (Option.bind (Qmc x3) fun x4 => ((some x4))))))
def Ql4 (p0 : W2) (p2 : List Qak) (p3 : W2) (x2 : Qa7 × Int) (rec1 : (Int × List Qbd) → Option (Qa8 × Int)) (s1 : Int × List Qbd) : Option (Qa8 × Int) := match s1 with | (a6, a7) => (if a6 < (p2.length : Int) then Option.bind (Qi2 p2 a6) fun y9 => (Option.bind (Qk8 x2.1 p0 y9) fun x10 => (Option.bind (Qst 32 a7 [(Qbd.mk y9 (Qy8 x10 p3))]) fun l11 => ((rec1 (w64 (a6 + 1), l11))))) else (some ((Qa8.mk a7 0#64 [] k0 (drv p3 (un8 53#8) 0#64)), 0)))
def Qnd (p0 : W2) (p1 : Qaj) (p2 : List Qak) (p3 : W2) : Option (Qa8 × Int) := Option.bind (Qh8 p1) fun x1 => ((if x1 ≠ 0 then (some ((Qa8.mk [] 0#64 [] k0 k0), x1)) else (if (64 : Int) < (p2.length : Int) then (some ((Qa8.mk [] 0#64 [] k0 k0), 4)) else Option.bind (Qhl p1 p2) fun x2 => ((if x2.2 ≠ 0 then (some ((Qa8.mk [] 0#64 [] k0 k0), x2.2)) else (Qcr (Ql4 p0 p2 p3 x2) Qdn (0, [])))))))
def Qok (p0 : Qbd) (p1 : Qa7) : Option (Bool) := Option.bind (Qfv p1 p0.Subset) fun x1 => ((some (!x1)))
def Qcj (p0 : List Qbd) (p1_0 : Qa7) (rec1 : (Int) → Option (Int)) (a2 : Int) : Option (Int) := (if a2 < (p0.length : Int) then Option.bind (Qi2 p0 a2) fun y3 => (Option.bind (Qok y3 p1_0) fun x4 => ((bif x4 then (some a2) else (rec1 (w64 (a2 + 1)))))) else (some (-1)))
def Qdd (p0 : List Qbd) (p1_0 : Qa7) : Option (Int) := (Qcr (Qcj p0 p1_0) Qdn 0)
def Qd4 (p0 : List Qbd) (p1_0 : Qa7) : Option (Bool) := Option.bind (Qdd p0 p1_0) fun x1 => ((some (decide ((0 : Int) ≤ x1))))
def Qgf (p1 : Qbv) (p2 : Qak) (a1 : Bool) : Option (Bool) := (bif a1 then (some (decide (p1.Minus = p2.Minus))) else Option.bind (Qgm p1.Minus p1.Node) fun x2 => ((bif x2 then Option.bind (Qgm p2.Minus p1.Minus) fun x3 => ((some x3)) else (some false))))
def Qkj (p0 : Qa7) (p1 : Qbv) (p2 : Qak) : Option (Bool) := (if p1.Node ≠ p2.Node then (some false) else (if p0.kind = 1#8 then (Qgf p1 p2 true) else (Qgf p1 p2 (decide (p2.Minus = 0)))))
def Qh3 (p2 : Qak) (y3 : Qbv) (a5 : Bool) : Option (W2 × Bool) := (bif a5 then (some (y3.Key, true)) else Option.bind (Qiy y3.Key y3.Minus p2.Minus) fun x6 => (Option.bind (Qmc x6) fun x7 => ((some (x7, true)))))
def Qh1 (p0 : Qa7) (p1 : Qap) (p2 : Qak) (rec1 : (Int) → Option (W2 × Bool)) (a2 : Int) : Option (W2 × Bool) := (if a2 < (p1.Labels.length : Int) then Option.bind (Qi2 p1.Labels a2) fun y3 => (Option.bind (Qkj p0 y3 p2) fun x4 => ((bif (!x4) then (rec1 (w64 (a2 + 1))) else (if p0.kind = 1#8 then (Qh3 p2 y3 true) else (Qh3 p2 y3 (decide (p2.Minus = 0))))))) else (some (k0, false)))
def Qln (p0 : Qa7) (p1 : Qap) (p2 : Qak) : Option (W2 × Bool) := (Qcr (Qh1 p0 p1 p2) Qdn 0)
def Qkz (p1 : Qap) (p2 : Qa8) (x1 : Qa7 × Int) (rec2 : (Int) → Option (W2 × Int)) (a4 : Int) : Option (W2 × Int) := (if a4 < (p2.Items.length : Int) then Option.bind (Qi2 p2.Items a4) fun y5 => (Option.bind (Qln x1.1 p1 y5.Subset) fun x6 => ((bif x6.2 then (if drv (Xdv x6.1 y5.Box) (un8 53#8) 0#64 = p2.Check then (some (Xdv x6.1 y5.Box, 0)) else (rec2 (w64 (a4 + 1)))) else (rec2 (w64 (a4 + 1)))))) else (some (k0, 6)))
def Qgi (p1 : Qap) (p2 : Qa8) (x1 : Qa7 × Int) (a2 : Bool) : Option (W2 × Int) := (bif a2 then (some (k0, 8)) else (Qcr (Qkz p1 p2 x1) Qdn 0))
def Qs5 (p0 : Qaj) (p1 : Qap) (p2 : Qa8) : Option (W2 × Int) := Option.bind (Qhl p0 ([] : List Qak)) fun x1 => ((if x1.2 ≠ 0 then (some (k0, x1.2)) else (if (64 : Int) < (p2.Items.length : Int) then (Qgi p1 p2 x1 true) else (if p2.Base ≠ 0#64 then (Qgi p1 p2 x1 true) else (if (0 : Int) < (p2.Points.length : Int) then (Qgi p1 p2 x1 true) else (if p2.Box ≠ k0 then (Qgi p1 p2 x1 true) else Option.bind (Qd4 p2.Items x1.1) fun x7 => ((Qgi p1 p2 x1 x7))))))))
end Go.Sx

end
section
set_option linter.unusedVariables false
set_option maxRecDepth 100000
namespace Go.Sx
open Go Go.RowKit
def Qdm (p0 : Qa7) (p1 : Int) : Option (Bool) := (if (0 : Int) ≤ p1 then Option.bind (Qet p0) fun x1 => ((some (decide (p1 < x1)))) else (some false))
def Qjp (p0 : Qa7) (p1 : Int) : Option (Qa7 × Int) := (some (p0, p1))
def Qez (p0 : Qa7) (p1 : Int) : Option (Int) := Option.bind (Qet p0) fun x1 => ((some (w64 (x1 + p1))))
def Qd6 (p0 : Int) : Option (Int) := (some (Xmi .xor p0 1))
def Qf2 (x1 : Int) (a2 : Int) (rec1 : (Int) → Option (List (Int × Int))) (s : Unit) : Option (List (Int × Int)) := Option.bind (Qda a2 x1) fun x10 => ((rec1 x10))
def Qf1 (p1 : Qa7) (a2 : Int) (e7 : Int) (nx2 : Unit → Option (List (Int × Int))) (s : Unit) : Option (List (Int × Int)) := Option.bind (Qd6 e7) fun x8 => (Option.bind (Qfv p1 (Qak.mk a2 x8)) fun x9 => ((bif x9 then (yl (a2, x8) ((nx2 ()))) else (nx2 ()))))
def Qf0 (p1 : Qa7) (x1 : Int) (rec1 : (Int) → Option (List (Int × Int))) (a2 : Int) : Option (List (Int × Int)) := (if a2 ≠ x1 then (if p1.kind = 1#8 then Option.bind (Qda a2 x1) fun x3 => ((yl (x3, 0) (Option.bind (Qda a2 x1) fun x4 => ((rec1 x4))))) else Option.bind (Qld a2 x1) fun x5 => (Option.bind (Qin x5.1 x5.2) fun l6 => ((itL (Qf1 p1 a2) (Qf2 x1 a2 rec1) l6 ())))) else (some []))
def Qij (p1 : Qa7) (p2 : Int) : Option (List (Int × Int)) := Option.bind (Qez p1 p2) fun x1 => ((yl (1, 0) ((Qcr (Qf0 p1 x1) Qdn 1))))
def Qj7 (a7 : List Qbv) (nx1 : (List Qbv) → Option (Qap × Int)) (e9 : Int) (e10 : Int) (a11 : W2) : Option (Qap × Int) := Option.bind (Qst 32 a7 [(Qbv.mk e9 e10 a11)]) fun l12 => ((nx1 l12))
def Qj4 (p2 : Int) (s : List Qbv) : Option (Qap × Int) := match s with | a7 => (some ((Qap.mk p2 a7 (Qag.mk 0#64 0#64)), 0))
def Qiv (p0 : W2) (x1 : Qa7 × Int) (ee : Int × Int) (nx1 : (List Qbv) → Option (Qap × Int)) (s : List Qbv) : Option (Qap × Int) := match ee with | (e9, e10) => match s with | a7 => (if e10 = 0 then Option.bind (Qk8 x1.1 p0 (Qak.mk e9 0)) fun x13 => ((Qj7 a7 nx1 e9 e10 x13)) else Option.bind (Qj3 p0 e9) fun x14 => (Option.bind (Qiy x14 e9 e10) fun x15 => ((Qj7 a7 nx1 e9 e10 x15))))
def Qox (p0 : W2) (p1 : Qaj) (p2 : Int) : Option (Qap × Int) := Option.bind (Qhl p1 ([] : List Qak)) fun x1 => ((if x1.2 ≠ 0 then (some ((Qap.mk 0 [] (Qag.mk 0#64 0#64)), x1.2)) else Option.bind (Qdm x1.1 p2) fun x2 => ((bif (!x2) then (some ((Qap.mk 0 [] (Qag.mk 0#64 0#64)), 2)) else Option.bind (Qjp x1.1 p2) fun x3 => (Option.bind (Qij x3.1 x3.2) fun l4 => ((itL (Qiv p0 x1) (Qj4 p2) l4 [])))))))
end Go.Sx

end
section
set_option linter.unusedVariables false
set_option maxRecDepth 100000
namespace Go.Sx
open Go Go.RowKit
noncomputable section
def Qe5 (a2 : Int) (rec1 : (Int) → Option (Bool)) (a4 : Bool) : Option (Bool) := (bif a4 then (some false) else (rec1 (w64 (a2 + 1))))
def Qdh (p0 : Qa7) (p1 : List Int) (rec1 : (Int) → Option (Bool)) (a2 : Int) : Option (Bool) := (if a2 < (p1.length : Int) then Option.bind (Qi2 p1 a2) fun y3 => (Option.bind (Qdm p0 y3) fun x5 => ((bif (!x5) then (Qe5 a2 rec1 true) else (if (0 : Int) < a2 then Option.bind (Qi2 p1 (w64 (a2 - 1))) fun y6 => ((Qe5 a2 rec1 (decide (y3 ≤ y6)))) else (Qe5 a2 rec1 false))))) else (some true))
def Qfz (p0 : Qa7) (p1 : List Int) : Option (Bool) := (Qcr (Qdh p0 p1) Qdn 0)
def Qg9 (p0 : Int) (p1 : Int) (p2 : List Qak) : Option (List Qak) := Option.bind (Qst 16 p2 [(Qak.mk p0 p1)]) fun l1 => ((some l1))
def Qfk (a5 : Int) (rec1 : (Int × List Int) → Option (List Qak × Int)) (rec2 : (Int × List Int) → Option (List Qak × Int)) (s2 : Int × List Int) : Option (List Qak × Int) := match s2 with | (a11, a12) => (if (0 : Int) < a11 then Option.bind (shG (un 1#64)) fun n13 => ((rec2 (Xdy a11 n13, Qxw a12 a11))) else (rec1 (w64 (a5 + 1), a12)))
def Qgx (a16 : List Qak) (nx3 : (List Qak) → Option (List Qak × Int)) (k18 : Int) (a20 : Bool) : Option (List Qak × Int) := (bif a20 then Option.bind (Qd6 k18) fun x21 => (Option.bind (Qg9 x21 0 a16) fun x22 => ((nx3 x22))) else (nx3 a16))
def Qgs (nx3 : (List Qak) → Option (List Qak × Int)) (a26 : Int) (a27 : Int) (a28 : List Qak) : Option (List Qak × Int) := Option.bind (Qg9 a27 a26 a28) fun x30 => ((nx3 x30))
def Qd1 (a16 : List Qak) (nx3 : (List Qak) → Option (List Qak × Int)) (k18 : Int) (a26 : Int) (x31 : Int) (a32 : Bool) : Option (List Qak × Int) := (bif a32 then Option.bind (Qg9 k18 x31 a16) fun x33 => ((Qgs nx3 a26 x31 x33)) else (Qgs nx3 a26 k18 a16))
def Qdu (x1 : Qa7 × Int) (a6 : List Int) (a16 : List Qak) (nx3 : (List Qak) → Option (List Qak × Int)) (k18 : Int) (rec6 : (Int) → Option (List Qak × Int)) (a26 : Int) : Option (List Qak × Int) := (bif ((decide ((w64 (2 * a26)) ∈ a6)) != (decide ((w64 ((w64 (2 * a26)) + 1)) ∈ a6))) then (if ¬ ((w64 (a26 * 2)) ∈ a6) then (rec6 (w64 ((w64 (a26 * 2)) + 1))) else (rec6 (w64 (a26 * 2)))) else (if a26 = k18 then (nx3 a16) else Option.bind (Qep x1.1 k18 a26) fun x31 => ((if x31 ≠ 0 then (if x1.1.kind = 3#8 then Option.bind (Qcw x1.1 k18) fun x34 => ((Qd1 a16 nx3 k18 a26 x31 (!x34))) else (Qd1 a16 nx3 k18 a26 x31 false)) else (Qd1 a16 nx3 k18 a26 x31 false)))))
def Qem (x1 : Qa7 × Int) (a6 : List Int) (a16 : List Qak) (nx3 : (List Qak) → Option (List Qak × Int)) (k18 : Int) (a24 : Bool) : Option (List Qak × Int) := (bif a24 then (nx3 a16) else (Qcr (Qdu x1 a6 a16 nx3 k18) Qdn k18))
def Qfh  (a16 : List Qak) : Option (List Qak × Int) := Option.bind (Qya Qak.Node a16) fun l19 => ((some (l19, 0)))
def Qek (x1 : Qa7 × Int) (a6 : List Int) (k18 : Int) (nx3 : (List Qak) → Option (List Qak × Int)) (a16 : List Qak) : Option (List Qak × Int) := (if x1.1.kind = 1#8 then (if (1 : Int) < k18 then Option.bind (Qd6 k18) fun x23 => ((Qgx a16 nx3 k18 (decide (¬ (x23 ∈ a6))))) else (Qgx a16 nx3 k18 false)) else (if (1 : Int) < k18 then Option.bind (Qd6 k18) fun x35 => ((Qem x1 a6 a16 nx3 k18 (decide (¬ (x35 ∈ a6))))) else (Qem x1 a6 a16 nx3 k18 false)))
def Qfm (p1 : List Int) (x1 : Qa7 × Int) (rec1 : (Int × List Int) → Option (List Qak × Int)) (s1 : Int × List Int) : Option (List Qak × Int) := match s1 with | (a5, a6) => (if a5 < (p1.length : Int) then Option.bind (Qi2 p1 a5) fun y7 => (Option.bind (Qez x1.1 y7) fun x8 => ((Qcr (Qfk a5 rec1) Qdn (x8, a6)))) else (Qxt (Qek x1 a6) Qfh Qdn a6 []))
def Qjw (p0 : Qaj) (p1 : List Int) : Option (List Qak × Int) := Option.bind (Qhl p0 ([] : List Qak)) fun x1 => ((if x1.2 ≠ 0 then (some ([], x1.2)) else Option.bind (Qfz x1.1 p1) fun x2 => ((bif (!x2) then (some ([], 2)) else (if (p1.length : Int) = 0 then (some ([(Qak.mk 1 0)], 0)) else (Qcr (Qfm p1 x1) Qdn (0, [])))))))
end
end Go.Sx

end
section

end
section
set_option linter.unusedVariables false
set_option maxRecDepth 100000
namespace Go.Sx
open Go Go.RowKit
noncomputable section
structure Qb5 where
  x : BitVec 64
  y : BitVec 64
deriving DecidableEq, Inhabited
def Qb5.cs (x : Qb5)  : List Value := [wv x.x, wv x.y]
theorem Qb5.cs_ones (x : Qb5)   : Qjr (Qb5.cs x ) = true := by simp only [Qb5.cs, List.cons_append, List.nil_append, kb, Qjr, Qhk, Qfd, Qhc, cond_true]
theorem Qb5.cs_inj {x y : Qb5} (h : Qb5.cs x = Qb5.cs y) : x = y := by
  have h0 : x.x = y.x := Qt9 (congrArg (fun l => l[0]?) h)
  have h1 : x.y = y.y := Qt9 (congrArg (fun l => l[1]?) h)
  cases x; cases y; simp only at *; subst h0; subst h1; rfl
theorem Qb5.ws (l : List Qb5) : Ws 2 (l.map Qb5.cs) := Qil l (fun _ => rfl) (fun _ => rfl)
def Qjj (p0 : BitVec 64) (rec2 : (BitVec 64) → Option (Bool)) (a3 : BitVec 64) : Option (Bool) := (if a3 * a3 ≤ p0 then Option.bind (Qyy p0 a3) fun x4 => ((if x4 = 0#64 then (some false) else (rec2 (a3 + 1#64)))) else (some true))
def Qj6 (p0 : BitVec 64) (a1 : Bool) : Option (Bool) := (bif a1 then (some false) else (Qcr (Qjj p0) Qdn 2#64))
def Qm6 (p0 : BitVec 64) : Option (Bool) := (if p0 < 2#64 then (Qj6 p0 true) else (Qj6 p0 (decide (1048575#64 < p0))))
def Qja (p2 : BitVec 64) (rec1 : (BitVec 64 × BitVec 64 × BitVec 64) → Option (BitVec 64)) (s1 : BitVec 64 × BitVec 64 × BitVec 64) : Option (BitVec 64) := match s1 with | (a6, a7, a8) => (if 0#64 < a7 then (if a7 &&& 1#64 = 1#64 then Option.bind (Qyy (a8 * a6) p2) fun x9 => (Option.bind (Qyy (a6 * a6) p2) fun x10 => (Option.bind (shG (un 1#64)) fun n11 => ((rec1 (x10, a7 >>> n11, x9))))) else Option.bind (Qyy (a6 * a6) p2) fun x12 => (Option.bind (shG (un 1#64)) fun n13 => ((rec1 (x12, a7 >>> n13, a8))))) else (some a8))
def Qmj (p0 : BitVec 64) (p1 : BitVec 64) (p2 : BitVec 64) : Option (BitVec 64) := Option.bind (Qyy 1#64 p2) fun x1 => (Option.bind (Qyy p0 p2) fun x2 => ((Qcr (Qja p2) Qdn (x2, p1, x1))))
def Qcs (a1 : Bool) : Option (Int) := (bif a1 then (some 13) else (some 0))
def Qju (p0 : Qfc) : Option (Int) := Option.bind (Qm6 p0.P) fun x2 => ((bif (!x2) then (Qcs true) else Option.bind (Qm6 p0.Q) fun x3 => ((bif (!x3) then (Qcs true) else Option.bind (Qyy (p0.P - 1#64) p0.Q) fun x4 => ((if x4 ≠ 0#64 then (Qcs true) else (if p0.G < 2#64 then (Qcs true) else (if p0.P ≤ p0.G then (Qcs true) else Option.bind (Qmj p0.G p0.Q p0.P) fun x5 => ((Qcs (decide (x5 ≠ 1#64))))))))))))
def Qle (p0 : Qaj) : Option (Bool) := (if p0.Kind = 4#8 then (if (0 : Int) ≤ p0.Depth then (if p0.Depth ≤ 6 then (if (1 : Int) ≤ p0.Degree then (if p0.Degree ≤ 8 then Option.bind (Qju p0.Group) fun x1 => ((if x1 = 0 then Option.bind (shG p0.Depth) fun n2 => ((some (decide (wd (w64 ((Qvz 1 n2) + p0.Degree)) < p0.Group.Q)))) else (some false))) else (some false)) else (some false)) else (some false)) else (some false)) else (some false))
def Qhp (p0 : W2) (rec1 : (Int × BitVec 64 × BitVec 64) → Option (Qb5)) (s1 : Int × BitVec 64 × BitVec 64) : Option (Qb5) := match s1 with | (a4, a5, a6) => (if a4 < 8 then Option.bind (shG (un 8#64)) fun n7 => (Option.bind (Qi2 (kby p0) a4) fun y8 => (Option.bind (shG (un 8#64)) fun n9 => (Option.bind (Qi2 (kby p0) (w64 (8 + a4))) fun y10 => ((rec1 (w64 (a4 + 1), (a5 <<< n7) ||| (y8.setWidth 64), (a6 <<< n9) ||| (y10.setWidth 64))))))) else (some (Qb5.mk a5 a6)))
def Qmv (p0 : W2) : Option (Qb5) := (Qcr (Qhp p0) Qdn (0, 0#64, 0#64))
def Ql6 (p0 : W2) (p1 : BitVec 64) (p2 : BitVec 64) : Option (BitVec 64) := (if p2 = 0#64 then (some 0#64) else Option.bind (Qmv (drv p0 (un8 3#8) p1)) fun x1 => (Option.bind (Qyy x1.x p2) fun x2 => ((some x2))))
def Qk3 (p0 : W2) (p1 : Qaj) (l1 : List (BitVec 64)) (rec1 : (List (BitVec 64) × Int) → Option (List (BitVec 64))) (s1 : List (BitVec 64) × Int) : Option (List (BitVec 64)) := match s1 with | (a5, a7) => (if a7 < (l1.length : Int) then Option.bind (Ql6 (drv p0 (un8 40#8) 0#64) (wd a7) p1.Group.Q) fun x8 => (Option.bind (Qi2 a5 a7) fun y9 => ((rec1 (a5.set a7.toNat x8, w64 (a7 + 1))))) else (some a5))
def Qnu (p0 : W2) (p1 : Qaj) : Option (List (BitVec 64)) := Option.bind (mkL 8 (w64 (p1.Degree + 1)) 0#64) fun l1 => ((Qcr (Qk3 p0 p1 l1) Qdn (l1, 0)))
def Qi0 (p0 : List (BitVec 64)) : Option (List (BitVec 64)) := (some p0)
def Qdv (p1 : List (BitVec 64)) (rec1 : (Int) → Option (List (Int × BitVec 64))) (a2 : Int) : Option (List (Int × BitVec 64)) := (if (0 : Int) ≤ a2 then Option.bind (Qi2 p1 a2) fun y3 => ((yl (a2, y3) ((rec1 (w64 (a2 - 1)))))) else (some []))
def Qh0 (p1 : List (BitVec 64)) : Option (List (Int × BitVec 64)) := (Qcr (Qdv p1) Qdn (w64 ((p1.length : Int) - 1)))
def Qhv (p0 : BitVec 64) (p1 : List (BitVec 64)) (rec1 : (BitVec 64 × Int) → Option (BitVec 64)) (s1 : BitVec 64 × Int) : Option (BitVec 64) := match s1 with | (a3, a4) => (if a4 < (p1.length : Int) then Option.bind (Qi2 p1 a4) fun y5 => (Option.bind (Qyy (a3 * y5) p0) fun x6 => ((rec1 (x6, w64 (a4 + 1))))) else (some a3))
def Qfl (p0 : BitVec 64) (p1 : List (BitVec 64)) : Option (BitVec 64) := (Qcr (Qhv p0 p1) Qdn (1#64, 0))
def Qf8  (s : BitVec 64) : Option (BitVec 64) := match s with | a4 => (some a4)
def Qfe (p1 : BitVec 64) (p2 : BitVec 64) (ee : Int × BitVec 64) (nx1 : (BitVec 64) → Option (BitVec 64)) (s : BitVec 64) : Option (BitVec 64) := match ee with | (e5, e6) => match s with | a4 => Option.bind (Qfl p1 [a4, p2]) fun x7 => (Option.bind (Qyy (x7 + e6) p1) fun x8 => ((nx1 x8)))
def Qh5 (p0 : List (BitVec 64)) (p1 : BitVec 64) (p2 : BitVec 64) : Option (BitVec 64) := Option.bind (Qi0 p0) fun x1 => (Option.bind (Qh0 x1) fun l2 => ((itL (Qfe p1 p2) Qf8 l2 0#64)))
def Qk2 (p0 : W2) (p1 : Qaj) (p2 : Int) (a2 : Bool) : Option (Qap × Int) := (bif a2 then (some ((Qap.mk 0 [] (Qag.mk 0#64 0#64)), 2)) else Option.bind (Qnu p0 p1) fun x3 => (Option.bind (Qh5 x3 p1.Group.Q ((wd p2) + 1#64)) fun x4 => ((some ((Qap.mk p2 [] (Qag.mk ((wd p2) + 1#64) x4)), 0)))))
def Qqd (p0 : W2) (p1 : Qaj) (p2 : Int) : Option (Qap × Int) := Option.bind (Qle p1) fun x1 => ((bif (!x1) then (some ((Qap.mk 0 [] (Qag.mk 0#64 0#64)), 30)) else (if p2 < 0 then (Qk2 p0 p1 p2 true) else Option.bind (shG p1.Depth) fun n5 => ((Qk2 p0 p1 p2 (decide (Qvz 1 n5 ≤ p2)))))))
def Qlf (p0 : Qaj) : Option (Int) := Option.bind (Qle p0) fun x1 => ((bif (!x1) then (some 30) else (some 0)))
end
end Go.Sx

end
section
set_option linter.unusedVariables false
set_option maxRecDepth 100000
namespace Go.Sx
open Go Go.RowKit
noncomputable section
def Qk1 (p0 : BitVec 64) : Option (Bool) := (if 1#64 ≤ p0 then (some (decide (p0 < 4294967296#64))) else (some false))
def Qno (p0 : BitVec 64) (p1 : BitVec 64) (p2 : BitVec 64) : Option (BitVec 64 × Int) := Option.bind (Qk1 p2) fun x1 => ((bif (!x1) then (some (0#64, 2)) else Option.bind (Qmj p0 p1 p2) fun x2 => ((some (x2, 0)))))
def Qlc (p0 : Qaj) (p1 : BitVec 64) (p2 : BitVec 64) : Option (BitVec 64) := Option.bind (Qno p1 p2 p0.Group.P) fun x1 => ((some x1.1))
def Qmf (p0 : BitVec 64) : Option (W2) := (some (drv k0 (un8 42#8) p0))
def Qlk (p0 : Qag) (p1 : Qag) : Option (Bool) := (some (decide (p0.X = p1.X)))
def Qcb (p0 : List Qag) (p1_0 : Qag) (rec1 : (Int) → Option (Int)) (a2 : Int) : Option (Int) := (if a2 < (p0.length : Int) then Option.bind (Qi2 p0 a2) fun y3 => (Option.bind (Qlk y3 p1_0) fun x4 => ((bif x4 then (some a2) else (rec1 (w64 (a2 + 1)))))) else (some (-1)))
def Qd3 (p0 : List Qag) (p1_0 : Qag) : Option (Int) := (Qcr (Qcb p0 p1_0) Qdn 0)
def Qcy (p0 : List Qag) (p1_0 : Qag) : Option (Bool) := Option.bind (Qd3 p0 p1_0) fun x1 => ((some (decide ((0 : Int) ≤ x1))))
def Qie (p0 : List Qag) (rec1 : (Int) → Option (Bool)) (a2 : Int) : Option (Bool) := (if a2 < (p0.length : Int) then Option.bind (Qi2 p0 a2) fun y3 => (Option.bind (Xa9 p0 0 a2) fun l4 => (Option.bind (Qcy l4 y3) fun x5 => ((bif x5 then (some false) else (rec1 (w64 (a2 + 1))))))) else (some true))
def Qla (p0 : List Qag) : Option (Bool) := (Qcr (Qie p0) Qdn 0)
def Qn2 (p0 : BitVec 64) (p1 : BitVec 64) (p2 : BitVec 64) : Option (BitVec 64) := Option.bind (Qyy ((p1 + p0) - p2) p0) fun x1 => ((some x1))
def Qi9 (p1 : BitVec 64) (rec1 : (Int × Int × Int × Int) → Option (BitVec 64 × Int)) (s1 : Int × Int × Int × Int) : Option (BitVec 64 × Int) := match s1 with | (a7, a8, a9, a10) => (if a8 ≠ 0 then Option.bind (Xav a7 a8) fun x11 => ((rec1 (a8, w64 (a7 - (w64 (x11 * a8))), a10, w64 (a9 - (w64 (x11 * a10)))))) else (if a7 ≠ 1 then (some (0#64, 10)) else Option.bind (Qvx a9 (w64 (un p1))) fun x12 => (Option.bind (Qvx (w64 (x12 + (w64 (un p1)))) (w64 (un p1))) fun x13 => ((some (wd x13, 0))))))
def Qnp (p0 : BitVec 64) (p1 : BitVec 64) : Option (BitVec 64 × Int) := Option.bind (Qk1 p1) fun x1 => ((bif (!x1) then (some (0#64, 2)) else Option.bind (Qyy p0 p1) fun x2 => ((Qcr (Qi9 p1) Qdn (w64 (un p1), w64 (un x2), 0, 1)))))
def Qn0 (p0 : BitVec 64) (p1 : BitVec 64) (p2 : BitVec 64) : Option (BitVec 64) := Option.bind (Qnp p2 p0) fun x1 => (Option.bind (Qfl p0 [p1, x1.1]) fun x2 => ((some x2)))
end
end Go.Sx

end
section
set_option linter.unusedVariables false
set_option maxRecDepth 100000
namespace Go.Sx
open Go Go.RowKit
noncomputable section
def Qlp (p0 : BitVec 64) (p1 : Qaj) (p2 : Qa8) (p3 : List (BitVec 64)) (p4 : BitVec 64) : Option (BitVec 64) := Option.bind (Qh5 p3 p4 p0) fun x1 => (Option.bind (Qlc p1 p2.Base x1) fun x2 => ((some x2)))
def Qio (a3 : Int) (rec1 : (Int) → Option (Qa8 × Int)) (a5 : Bool) : Option (Qa8 × Int) := (bif a5 then (some ((Qa8.mk [] 0#64 [] k0 k0), 2)) else (rec1 (w64 (a3 + 1))))
def Qmb (p1 : Qaj) (p3 : W2) (a9 : List (BitVec 64)) (a14 : BitVec 64) (rec6 : (Int × List Qag) → Option (Qa8 × Int)) (s6 : Int × List Qag) : Option (Qa8 × Int) := match s6 with | (a30, a31) => (if (a31.length : Int) < p1.Degree then Option.bind (Qlp (wd a30) p1 (Qa8.mk [] a14 a31 k0 (drv p3 (un8 53#8) 0#64)) a9 p1.Group.Q) fun x33 => (Option.bind (Qst 16 a31 [(Qag.mk (wd a30) x33)]) fun l34 => ((rec6 (w64 (a30 + 1), l34)))) else Option.bind (Qlp 0#64 p1 (Qa8.mk [] a14 a31 k0 (drv p3 (un8 53#8) 0#64)) a9 p1.Group.Q) fun x35 => (Option.bind (Qmf x35) fun x36 => ((some ((Qa8.mk [] a14 a31 (Qy8 x36 p3) (drv p3 (un8 53#8) 0#64)), 0)))))
def Qmd (p1 : Qaj) (p2 : List Int) (p3 : W2) (a9 : List (BitVec 64)) (a14 : BitVec 64) (rec5 : (Int × List Qag) → Option (Qa8 × Int)) (s5 : Int × List Qag) : Option (Qa8 × Int) := match s5 with | (a20, a21) => (if a20 < (p2.length : Int) then Option.bind (Qi2 p2 a20) fun y23 => (Option.bind (Qlp (wd (w64 (y23 + 1))) p1 (Qa8.mk [] a14 a21 k0 (drv p3 (un8 53#8) 0#64)) a9 p1.Group.Q) fun x24 => (Option.bind (Qst 16 a21 [(Qag.mk (wd (w64 (y23 + 1))) x24)]) fun l25 => ((rec5 (w64 (a20 + 1), l25))))) else Option.bind (shG p1.Depth) fun n26 => ((Qcr (Qmb p1 p3 a9 a14) Qdn (w64 ((Qvz 1 n26) + 1), a21))))
def Qon (p1 : Qaj) (p2 : List Int) (p3 : W2) (a9 : List (BitVec 64)) (a14 : BitVec 64) : Option (Qa8 × Int) := (Qcr (Qmd p1 p2 p3 a9 a14) Qdn (0, []))
def Qor (p0 : W2) (p1 : Qaj) (p2 : List Int) (p3 : W2) (p4 : BitVec 64) (a9 : List (BitVec 64)) : Option (Qa8 × Int) := Option.bind (Ql6 (drv p0 (un8 41#8) p4) 0#64 (p1.Group.Q - 1#64)) fun x12 => (Option.bind (Qlc p1 p1.Group.G (1#64 + x12)) fun x37 => ((Qon p1 p2 p3 a9 x37)))
def Qm5 (p0 : W2) (p1 : Qaj) (p2 : List Int) (p3 : W2) (p4 : BitVec 64) (rec1 : (Int) → Option (Qa8 × Int)) (a3 : Int) : Option (Qa8 × Int) := (if a3 < (p2.length : Int) then Option.bind (Qi2 p2 a3) fun y4 => ((if y4 < 0 then (Qio a3 rec1 true) else Option.bind (shG p1.Depth) fun n6 => ((if Qvz 1 n6 ≤ y4 then (Qio a3 rec1 true) else (if (0 : Int) < a3 then Option.bind (Qi2 p2 (w64 (a3 - 1))) fun y7 => ((Qio a3 rec1 (decide (y4 ≤ y7)))) else (Qio a3 rec1 false)))))) else (if p1.Degree < (p2.length : Int) then (some ((Qa8.mk [] 0#64 [] k0 k0), 4)) else Option.bind (Qnu p0 p1) fun x39 => ((Qor p0 p1 p2 p3 p4 x39))))
def Qt5 (p0 : W2) (p1 : Qaj) (p2 : List Int) (p3 : W2) (p4 : BitVec 64) : Option (Qa8 × Int) := Option.bind (Qle p1) fun x1 => ((bif (!x1) then (some ((Qa8.mk [] 0#64 [] k0 k0), 30)) else (Qcr (Qm5 p0 p1 p2 p3 p4) Qdn 0)))
end
end Go.Sx

end
section
set_option linter.unusedVariables false
set_option maxRecDepth 100000
namespace Go.Sx
open Go Go.RowKit
noncomputable section
def Qjt (p0 : List Qag) : Option (List Qag) := Option.bind (Qst 16 [] p0) fun l1 => ((some l1))
def Qmg (p0 : Qaj) (p1 : Qap) (a2 : Bool) : Option (Bool) := (bif a2 then (some (decide (p1.Share.Y < p0.Group.Q))) else (some false))
def Qme (p0 : Qaj) (p1 : Qap) (a3 : List Qag) (a5 : Int) (rec4 : (Bool × Int) → Option (Bool)) (s4 : Bool × Int) : Option (Bool) := match s4 with | (a8, a9) => (if a9 < a5 then Option.bind (Qi2 a3 a9) fun y10 => ((bif (!a8) then (Qmg p0 p1 a8) else (if 1#64 ≤ y10.X then (if y10.X < p0.Group.Q then (if 1#64 ≤ y10.Y then (rec4 (decide (y10.Y < p0.Group.P), w64 (a9 + 1))) else (rec4 (false, w64 (a9 + 1)))) else (rec4 (false, w64 (a9 + 1)))) else (rec4 (false, w64 (a9 + 1)))))) else (Qmg p0 p1 a8))
def Qpe (p0 : Qaj) (p1 : Qap) (a1 : Bool) (a3 : List Qag) (a5 : Int) : Option (Bool) := (Qcr (Qme p0 p1 a3 a5) Qdn (a1, 0))
def Qh9 (p0 : Qaj) (p1 : Qap) (p2 : Qa8) (a1 : Bool) : Option (Bool) := Option.bind (Qjt p2.Points) fun x11 => (Option.bind (Qst 16 x11 [(Qag.mk p1.Share.X 1#64)]) fun l12 => ((Qpe p0 p1 a1 l12 (l12.length : Int))))
def Qta (p0 : Qaj) (p1 : Qap) (p2 : Qa8) : Option (Bool) := (if (p2.Items.length : Int) = 0 then (if 1#64 ≤ p2.Base then (if p2.Base < p0.Group.P then (if (p2.Points.length : Int) = p0.Degree then Option.bind (Qla p2.Points) fun x15 => ((Qh9 p0 p1 p2 x15)) else (Qh9 p0 p1 p2 false)) else (Qh9 p0 p1 p2 false)) else (Qh9 p0 p1 p2 false)) else (Qh9 p0 p1 p2 false))
def Qmk (p0 : Qaj) (l4 : List Qag) (a8 : BitVec 64) (a9 : Int) (rec1 : (BitVec 64 × Int) → Option (W2 × Int)) (y10 : Qag) (rec2 : (BitVec 64 × BitVec 64 × Int) → Option (W2 × Int)) (s2 : BitVec 64 × BitVec 64 × Int) : Option (W2 × Int) := match s2 with | (a14, a15, a16) => (if a16 < (l4.length : Int) then Option.bind (Qi2 l4 a16) fun y17 => ((if a16 ≠ a9 then Option.bind (Qfl p0.Group.Q [a14, y17.X]) fun x18 => (Option.bind (Qn2 p0.Group.Q y17.X y10.X) fun x19 => (Option.bind (Qfl p0.Group.Q [a15, x19]) fun x20 => ((rec2 (x18, x20, w64 (a16 + 1)))))) else (rec2 (a14, a15, w64 (a16 + 1))))) else Option.bind (Qn0 p0.Group.Q a14 a15) fun x21 => (Option.bind (Qlc p0 y10.Y x21) fun x22 => (Option.bind (Qfl p0.Group.P [a8, x22]) fun x23 => ((rec1 (x23, w64 (a9 + 1)))))))
def Qoq (p2 : Qa8) (a25 : W2) : Option (W2 × Int) := (if drv a25 (un8 53#8) 0#64 ≠ p2.Check then (some (k0, 6)) else (some (a25, 0)))
def Qm9 (p0 : Qaj) (p2 : Qa8) (l4 : List Qag) (rec1 : (BitVec 64 × Int) → Option (W2 × Int)) (s1 : BitVec 64 × Int) : Option (W2 × Int) := match s1 with | (a8, a9) => (if a9 < (l4.length : Int) then Option.bind (Qi2 l4 a9) fun y10 => ((Qcr (Qmk p0 l4 a8 a9 rec1 y10) Qdn (1#64, 1#64, 0))) else Option.bind (Qmf a8) fun x26 => ((Qoq p2 (Xdv x26 p2.Box))))
def Qt7 (p0 : Qaj) (p1 : Qap) (p2 : Qa8) : Option (W2 × Int) := Option.bind (Qle p0) fun x1 => ((bif (!x1) then (some (k0, 30)) else Option.bind (Qta p0 p1 p2) fun x2 => ((bif (!x2) then (some (k0, 8)) else Option.bind (Qlc p0 p2.Base p1.Share.Y) fun x3 => (Option.bind (Qst 16 [(Qag.mk p1.Share.X x3)] p2.Points) fun l4 => (Option.bind (Qla l4) fun x5 => ((bif (!x5) then (some (k0, 6)) else (Qcr (Qm9 p0 p2 l4) Qdn (1#64, 0))))))))))
end
end Go.Sx

end
section

end
section

end
section
set_option linter.unusedVariables false
set_option maxRecDepth 100000
namespace Go.Sx
open Go Go.RowKit
noncomputable section
def Qiu (p0 : W2) (p1 : Qaj) (p2 : Int) (a1 : Bool) : Option (Qap × Int) := (bif a1 then (some ((Qap.mk 0 [] (Qag.mk 0#64 0#64)), 2)) else (if un8 p1.Kind = 1 ∨ un8 p1.Kind = 2 ∨ un8 p1.Kind = 3 then Option.bind (Qh8 p1) fun x2 => ((if x2 ≠ 0 then (some ((Qap.mk 0 [] (Qag.mk 0#64 0#64)), x2)) else Option.bind (Qox p0 p1 p2) fun x3 => ((some (x3.1, x3.2))))) else (if un8 p1.Kind = 4 then Option.bind (Qlf p1) fun x4 => ((if x4 ≠ 0 then (some ((Qap.mk 0 [] (Qag.mk 0#64 0#64)), x4)) else Option.bind (Qqd p0 p1 p2) fun x5 => ((some (x5.1, x5.2))))) else none)))
def Qol (p0 : W2) (p1 : Qaj) (p2 : Int) : Option (Qap × Int) := (if p1.Kind < 1#8 then (Qiu p0 p1 p2 true) else (Qiu p0 p1 p2 (decide ((5 : Int) ≤ un8 p1.Kind))))
def Qft (p0 : Qaj) (a1 : Bool) : Option (Int) := (bif a1 then (some 2) else (if un8 p0.Kind = 1 ∨ un8 p0.Kind = 2 ∨ un8 p0.Kind = 3 then Option.bind (Qh8 p0) fun x2 => ((some x2)) else (if un8 p0.Kind = 4 then Option.bind (Qlf p0) fun x3 => ((some x3)) else none)))
def Qjq (p0 : Qaj) : Option (Int) := (if p0.Kind < 1#8 then (Qft p0 true) else (Qft p0 (decide ((5 : Int) ≤ un8 p0.Kind))))
def Qge (p0 : W2) (p1 : Int) : Option (W2) := (some (drv p0 (un8 50#8) (wd p1)))
def Qpn (p0 : W2) (p1 : Int) : Option (W2) := (some (drv p0 (un8 51#8) (wd p1)))
end
end Go.Sx

end
section
set_option linter.unusedVariables false
set_option maxRecDepth 100000
namespace Go.Sx
open Go Go.RowKit
noncomputable section
structure Qf7 where
  Epoch : Int
  Word : Int
  Early : Int
  Drift : Int
  Delay : Int
deriving DecidableEq, Inhabited
def Qf7.cs (x : Qf7)  : List Value := [.int .i64 x.Epoch, .int .i64 x.Word, .int .i64 x.Early, .int .i64 x.Drift, .int .i64 x.Delay]
theorem Qf7.cs_ones (x : Qf7)   : Qjr (Qf7.cs x ) = true := by simp only [Qf7.cs, List.cons_append, List.nil_append, kb, Qjr, Qhk, Qfd, Qhc, cond_true]
theorem Qf7.cs_inj {x y : Qf7} (h : Qf7.cs x = Qf7.cs y) : x = y := by
  have h0 : x.Epoch = y.Epoch := Qkq (congrArg (fun l => l[0]?) h)
  have h1 : x.Word = y.Word := Qkq (congrArg (fun l => l[1]?) h)
  have h2 : x.Early = y.Early := Qkq (congrArg (fun l => l[2]?) h)
  have h3 : x.Drift = y.Drift := Qkq (congrArg (fun l => l[3]?) h)
  have h4 : x.Delay = y.Delay := Qkq (congrArg (fun l => l[4]?) h)
  cases x; cases y; simp only at *; subst h0; subst h1; subst h2; subst h3; subst h4; rfl
theorem Qf7.ws (l : List Qf7) : Ws 5 (l.map Qf7.cs) := Qil l (fun _ => rfl) (fun _ => rfl)
structure Qa4 where
  Kind : BitVec 8
  Epoch : Int
  Head : Qa8
  Low : BitVec 8
  Number : BitVec 64
  Data : List (BitVec 8)
  Mac : W2
deriving DecidableEq, Inhabited
def Qa4.cs (x : Qa4) (v0 : Value) (v1 : Value) (v2 : Value) : List Value := [bv x.Kind, .int .i64 x.Epoch, v0, wv x.Head.Base, v1] ++ (kb x.Head.Box ++ (kb x.Head.Check ++ ([bv x.Low, wv x.Number, v2] ++ (kb x.Mac))))
theorem Qa4.cs_ones (x : Qa4) (v0 : Value) (v1 : Value) (v2 : Value) (h0 : oneB v0 = true) (h1 : oneB v1 = true) (h2 : oneB v2 = true) : Qjr (Qa4.cs x v0 v1 v2) = true := by simp only [Qa4.cs, List.cons_append, List.nil_append, kb, Qjr, Qhk, Qfd, Qhc, cond_true, h0, h1, h2]
structure Qax where
  out : List (BitVec 8)
deriving DecidableEq, Inhabited
def Qax.cs (x : Qax) (v0 : Value) : List Value := [v0]
theorem Qax.cs_ones (x : Qax) (v0 : Value) (h0 : oneB v0 = true) : Qjr (Qax.cs x v0) = true := by simp only [Qax.cs, List.cons_append, List.nil_append, kb, Qjr, Qhk, Qfd, Qhc, cond_true, h0]
structure Qbr where
  Full : Bool
  Epoch : Int
  Key : W2
deriving DecidableEq, Inhabited
def Qbr.cs (x : Qbr)  : List Value := [.bool x.Full, .int .i64 x.Epoch] ++ (kb x.Key)
theorem Qbr.cs_ones (x : Qbr)   : Qjr (Qbr.cs x ) = true := by simp only [Qbr.cs, List.cons_append, List.nil_append, kb, Qjr, Qhk, Qfd, Qhc, cond_true]
theorem Qbr.cs_inj {x y : Qbr} (h : Qbr.cs x = Qbr.cs y) : x = y := by
  have h0 : x.Full = y.Full := Xm9 (congrArg (fun l => l[0]?) h)
  have h1 : x.Epoch = y.Epoch := Qkq (congrArg (fun l => l[1]?) h)
  have h2 : x.Key = y.Key := Qlj (congrArg (fun l => (l.drop 2).take 16) h)
  cases x; cases y; simp only at *; subst h0; subst h1; subst h2; rfl
theorem Qbr.ws (l : List Qbr) : Ws 18 (l.map Qbr.cs) := Qil l (fun _ => rfl) (fun _ => rfl)
structure Qbi where
  a0 : Qbr
  a1 : Qbr
deriving DecidableEq, Inhabited
def Qbi.cs (x : Qbi)  : List Value := [.bool x.a0.Full, .int .i64 x.a0.Epoch] ++ (kb x.a0.Key ++ ([.bool x.a1.Full, .int .i64 x.a1.Epoch] ++ (kb x.a1.Key)))
theorem Qbi.cs_ones (x : Qbi)   : Qjr (Qbi.cs x ) = true := by simp only [Qbi.cs, List.cons_append, List.nil_append, kb, Qjr, Qhk, Qfd, Qhc, cond_true]
theorem Qbi.cs_inj {x y : Qbi} (h : Qbi.cs x = Qbi.cs y) : x = y := by
  have h0 : x.a0 = y.a0 := Qbr.cs_inj (congrArg (fun l => (l.drop 0).take 18) h)
  have h1 : x.a1 = y.a1 := Qbr.cs_inj (congrArg (fun l => (l.drop 18).take 18) h)
  cases x; cases y; simp only at *; subst h0; subst h1; rfl
theorem Qbi.ws (l : List Qbi) : Ws 36 (l.map Qbi.cs) := Qil l (fun _ => rfl) (fun _ => rfl)
structure Qae where
  Secret : Qap
  Ahead : Int
  Slots : Qbi
deriving DecidableEq, Inhabited
def Qae.cs (x : Qae) (v0 : Value) : List Value := [.int .i64 x.Secret.Receiver, v0, wv x.Secret.Share.X, wv x.Secret.Share.Y, .int .i64 x.Ahead, .bool x.Slots.a0.Full, .int .i64 x.Slots.a0.Epoch] ++ (kb x.Slots.a0.Key ++ ([.bool x.Slots.a1.Full, .int .i64 x.Slots.a1.Epoch] ++ (kb x.Slots.a1.Key)))
theorem Qae.cs_ones (x : Qae) (v0 : Value) (h0 : oneB v0 = true) : Qjr (Qae.cs x v0) = true := by simp only [Qae.cs, List.cons_append, List.nil_append, kb, Qjr, Qhk, Qfd, Qhc, cond_true, h0]
def Qdp (a2 : Bool) : Option (Int) := (bif a2 then (some 50) else (some 0))
def Qdq (p0 : Qf7) (a1 : Bool) : Option (Int) := (bif a1 then (some 50) else (if mnI (mnI p0.Early p0.Drift) p0.Delay < 0 then (Qdp true) else (if w64 (3 * p0.Word) ≤ p0.Drift then (Qdp true) else (if w64 (3 * p0.Word) ≤ p0.Delay then (Qdp true) else (if w64 (3 * p0.Word) ≤ w64 ((w64 (2 * p0.Drift)) + p0.Delay) then (Qdp true) else (Qdp (decide (w64 (p0.Epoch - p0.Delay) < p0.Early))))))))
def Qfi (p0 : Qf7) : Option (Int) := (if p0.Word < 1 then (Qdq p0 true) else (if (1000 : Int) < p0.Word then (Qdq p0 true) else (if p0.Epoch < p0.Word then (Qdq p0 true) else (if w64 (1000 * p0.Word) < p0.Epoch then (Qdq p0 true) else Option.bind (Qvx p0.Epoch p0.Word) fun x3 => ((Qdq p0 (decide (x3 ≠ 0))))))))
def Qdb (p0 : Int) : Option (Bool) := (if (0 : Int) ≤ p0 then (some (decide (p0 ≤ 1099511627776))) else (some false))
def Qlr (p0 : Qf7) : Option (Int) := (some p0.Epoch)
def Qed (p0 : Qf7) (p1 : Int) : Option (Int × Int) := Option.bind (Qfi p0) fun x1 => ((if x1 ≠ 0 then (some (0, x1)) else Option.bind (Qdb p1) fun x2 => ((bif (!x2) then (some (0, 2)) else Option.bind (Qlr p0) fun x3 => (Option.bind (Xav p1 x3) fun x4 => ((some (x4, 0))))))))
def Qkt (p0 : Qf7) (p1 : Int) : Option (Int × Int) := Option.bind (Qed p0 p1) fun x1 => ((some (x1.1, x1.2)))
def Qkm (p0 : Qf7) : Option (Int) := (some p0.Word)
def Qe2 (p0 : Qf7) (p1 : Int) : Option (Int × Int) := Option.bind (Qfi p0) fun x1 => ((if x1 ≠ 0 then (some (0, x1)) else Option.bind (Qdb p1) fun x2 => ((bif (!x2) then (some (0, 2)) else Option.bind (Qkm p0) fun x3 => (Option.bind (Xav p1 x3) fun x4 => ((some (x4, 0))))))))
def Qk9 (p0 : Qf7) (p1 : Int) : Option (Int × Int) := Option.bind (Qe2 p0 p1) fun x1 => ((some (x1.1, x1.2)))
def Qtu (p0 : Qf7) (p1 : Int) : Option (List Int × Int) := Option.bind (Qkt p0 p1) fun x1 => ((if x1.2 ≠ 0 then (some ([], x1.2)) else (if w64 ((w64 ((w64 (x1.1 + 1)) * p0.Epoch)) - p0.Early) ≤ p1 then Option.bind (Qst 8 [x1.1] [w64 (x1.1 + 1)]) fun l2 => ((some (l2, 0))) else (some ([x1.1], 0)))))
def Qkw (p0 : Int) : Option (Bool) := (if ((-1099511627776) : Int) ≤ p0 then (some (decide (p0 ≤ 2199023255552))) else (some false))
def Qpr (p0 : Qf7) (p1 : Int) : Option (Int × Int) := (some (mxI (w64 ((w64 (p1 - p0.Drift)) - p0.Delay)) 0, w64 (p1 + p0.Drift)))
def Qma (p0 : Qf7) (p1 : Int) (p2 : BitVec 8) : Option (Int × Bool) := Option.bind (Qpr p0 p1) fun x1 => ((if x1.2 < 0 then (some (0, false)) else Option.bind (Xav x1.1 p0.Word) fun x2 => (Option.bind (Qvx x2 4) fun x3 => (Option.bind (Qvx (w64 ((w64 ((un8 p2) - x3)) + 4)) 4) fun x4 => (Option.bind (Xav x1.2 p0.Word) fun x5 => ((some (w64 (x2 + x4), decide (w64 (x2 + x4) ≤ x5)))))))))
def Qid (p0 : Qf7) (p1 : Int) (p2 : BitVec 8) (a2 : Bool) : Option (Int × Int) := (bif a2 then (some (0, 2)) else Option.bind (Qma p0 p1 p2) fun x3 => ((bif (!x3.2) then (some (0, 51)) else (some (x3.1, 0)))))
def Qnv (p0 : Qf7) (p1 : Int) (p2 : BitVec 8) : Option (Int × Int) := Option.bind (Qfi p0) fun x1 => ((if x1 ≠ 0 then (some (0, x1)) else Option.bind (Qkw p1) fun x4 => ((bif (!x4) then (Qid p0 p1 p2 true) else (Qid p0 p1 p2 (decide (3#8 < p2)))))))
def Qm8 (p0 : Qf7) (p1 : Int) (p2 : Int) : Option (Bool) := Option.bind (Qpr p0 p1) fun x1 => ((if (0 : Int) ≤ x1.2 then Option.bind (Xav x1.1 p0.Epoch) fun x2 => ((if x2 ≤ p2 then (some (decide (w64 ((w64 (p2 * p0.Epoch)) - p0.Early) ≤ x1.2))) else (some false))) else (some false)))
def Qj2 (p0 : Qf7) (p1 : Int) (p2 : Int) (a2 : Bool) : Option (Bool × Int) := (bif a2 then (some (false, 2)) else Option.bind (Qm8 p0 p1 p2) fun x3 => ((some (x3, 0))))
def Qp4 (p0 : Qf7) (p1 : Int) (p2 : Int) : Option (Bool × Int) := Option.bind (Qfi p0) fun x1 => ((if x1 ≠ 0 then (some (false, x1)) else Option.bind (Qkw p1) fun x4 => ((bif (!x4) then (Qj2 p0 p1 p2 true) else Option.bind (Qdb p2) fun x5 => ((Qj2 p0 p1 p2 (!x5)))))))
def Qhq (p0 : W2) (p1 : Qaj) (p2 : List Int) (p3 : W2) (p4 : BitVec 64) : Option (Qa8 × Int) := Option.bind (Qjw p1 p2) fun x1 => ((if x1.2 ≠ 0 then (some ((Qa8.mk [] 0#64 [] k0 k0), x1.2)) else Option.bind (Qnd p0 p1 x1.1 p3) fun x2 => ((some (x2.1, x2.2)))))
def Qiz (p0 : W2) (p1 : Qaj) (p2 : Int) (p3 : List Int) (a1 : Bool) : Option (Qa8 × Int) := (bif a1 then (some ((Qa8.mk [] 0#64 [] k0 k0), 2)) else (if un8 p1.Kind = 1 ∨ un8 p1.Kind = 2 ∨ un8 p1.Kind = 3 then Option.bind (Qh8 p1) fun x2 => ((if x2 ≠ 0 then (some ((Qa8.mk [] 0#64 [] k0 k0), x2)) else Option.bind (Qdb p2) fun x3 => ((bif (!x3) then (some ((Qa8.mk [] 0#64 [] k0 k0), 2)) else Option.bind (Qge p0 p2) fun x4 => (Option.bind (Qhq p0 p1 p3 x4 (wd p2)) fun x5 => ((some (x5.1, x5.2)))))))) else (if un8 p1.Kind = 4 then Option.bind (Qlf p1) fun x6 => ((if x6 ≠ 0 then (some ((Qa8.mk [] 0#64 [] k0 k0), x6)) else Option.bind (Qdb p2) fun x7 => ((bif (!x7) then (some ((Qa8.mk [] 0#64 [] k0 k0), 2)) else Option.bind (Qge p0 p2) fun x8 => (Option.bind (Qt5 p0 p1 p3 x8 (wd p2)) fun x9 => ((some (x9.1, x9.2)))))))) else none)))
def Qnb (p0 : W2) (p1 : Qaj) (p2 : Int) (p3 : List Int) : Option (Qa8 × Int) := (if p1.Kind < 1#8 then (Qiz p0 p1 p2 p3 true) else (Qiz p0 p1 p2 p3 (decide ((5 : Int) ≤ un8 p1.Kind))))
def Qd8 (p1 : BitVec 64) (rec1 : (Int × List (BitVec 8)) → Option (Qax)) (s1 : Int × List (BitVec 8)) : Option (Qax) := match s1 with | (a4, a5) => (if (0 : Int) ≤ a4 then Option.bind (shG (w64 (8 * a4))) fun n7 => (Option.bind (Qst 1 a5 [(p1 >>> n7).setWidth 8]) fun l8 => ((rec1 (w64 (a4 - 1), l8)))) else (some (Qax.mk a5)))
def Qbs (p0 : Qax) (p1 : BitVec 64) (p2 : Int) : Option (Qax) := (Qcr (Qd8 p1) Qdn (w64 (p2 - 1), p0.out))
def Qec (p0 : Qax) (p1 : W2) : Option (Qax) := Option.bind (Qst 1 p0.out (kby p1)) fun l1 => ((some (Qax.mk l1)))
def Qhs (p0 : Qa4) (rec2 : (Int × Qax) → Option (List (BitVec 8))) (s2 : Int × Qax) : Option (List (BitVec 8)) := match s2 with | (a23, a24) => (if a23 < (p0.Head.Points.length : Int) then Option.bind (Qi2 p0.Head.Points a23) fun y26 => (Option.bind (Qbs a24 y26.X 8) fun x27 => (Option.bind (Qbs x27 y26.Y 8) fun x28 => ((rec2 (w64 (a23 + 1), x28))))) else Option.bind (Qec a24 p0.Head.Box) fun x29 => (Option.bind (Qec x29 p0.Head.Check) fun x30 => ((some x30.out))))
def Qhw (p0 : Qa4) (rec1 : (Int × Qax) → Option (List (BitVec 8))) (s1 : Int × Qax) : Option (List (BitVec 8)) := match s1 with | (a11, a12) => (if a11 < (p0.Head.Items.length : Int) then Option.bind (Qi2 p0.Head.Items a11) fun y14 => (Option.bind (Qbs a12 (wd y14.Subset.Node) 1) fun x15 => (Option.bind (Qbs x15 (wd y14.Subset.Minus) 1) fun x16 => (Option.bind (Qec x16 y14.Box) fun x17 => ((rec1 (w64 (a11 + 1), x17)))))) else Option.bind (Qbs a12 p0.Head.Base 8) fun x18 => (Option.bind (Qbs x18 (wd (p0.Head.Points.length : Int)) 1) fun x19 => ((Qcr (Qhs p0) Qdn (0, x19)))))
def Qir (p0 : Qa4) : Option (List (BitVec 8)) := Option.bind (Qbs (Qax.mk []) (p0.Kind.setWidth 64) 1) fun x1 => ((if p0.Kind = 2#8 then Option.bind (Qbs x1 (p0.Low.setWidth 64) 1) fun x2 => (Option.bind (Qbs x2 p0.Number 8) fun x3 => (Option.bind (Qbs x3 (wd (p0.Data.length : Int)) 2) fun x4 => (Option.bind (Qst 1 x4.out p0.Data) fun l5 => ((some l5))))) else Option.bind (Qbs x1 (wd p0.Epoch) 8) fun x6 => (Option.bind (Qbs x6 (wd (p0.Head.Items.length : Int)) 1) fun x7 => ((Qcr (Qhw p0) Qdn (0, x7))))))
def Ql7 (p1 : W2) (rec1 : (Int × W2) → Option (W2)) (s1 : Int × W2) : Option (W2) := match s1 with | (a3, a4) => (if a3 < 16 then Option.bind (Qi2 (kby a4) a3) fun y5 => (Option.bind (Qi2 (kby p1) a3) fun y6 => (Option.bind (Qi2 (kby a4) a3) fun y7 => (Option.bind (Xje a4 a3 (y5 ^^^ y6)) fun x8 => ((rec1 (w64 (a3 + 1), x8)))))) else (some a4))
def Qs1 (p0 : W2) (p1 : W2) : Option (W2) := (if p0 = p1 then (some k0) else (Qcr (Ql7 p1) Qdn (0, p0)))
def Qp5 (p0 : W2) (p1 : W2) (p2 : W2) : Option (W2) := Option.bind (Qs1 p0 p1) fun x1 => ((some (Qy8 p2 x1)))
def Qdg (p2_0 : W2) (rec1 : (List (BitVec 8) × W2) → Option (W2)) (s1 : List (BitVec 8) × W2) : Option (W2) := match s1 with | (a4, a6) => (if (0 : Int) < (a4.length : Int) then Option.bind (Xa9 a4 (Xb9 (kby k0) a4) (a4.length : Int)) fun l7 => (Option.bind (Qp5 a6 (ofB (Qu6 (kby k0) a4)) p2_0) fun x8 => ((rec1 (l7, x8)))) else (some a6))
def Qfx (p0 : W2) (p1 : List (BitVec 8)) (p2_0 : W2) : Option (W2) := (Qcr (Qdg p2_0) Qdn (p1, p0))
def Qnh (p0 : W2) (p1 : List (BitVec 8)) : Option (W2 × Int) := (if (16384 : Int) < (p1.length : Int) then (some (k0, 4)) else Option.bind (Qfx (drv p0 (un8 2#8) (wd (p1.length : Int))) p1 p0) fun x1 => ((some (x1, 0))))
def Qkn (a2 : W2) : Option (W2) := (some a2)
def Qjf (p0 : W2) (p1 : Qa4) : Option (W2) := Option.bind (Qir p1) fun x3 => (Option.bind (Qnh (drv p0 (un8 52#8) (wd p1.Epoch)) x3) fun x4 => ((Qkn x4.1)))
def Qnj (p0 : W2) (p1 : Qaj) (p2 : Int) (p3 : List Int) : Option (Qa4 × Int) := Option.bind (Qnb p0 p1 p2 p3) fun x1 => ((if x1.2 ≠ 0 then (some ((Qa4.mk 0#8 0 (Qa8.mk [] 0#64 [] k0 k0) 0#8 0#64 [] k0), x1.2)) else Option.bind (Qge p0 p2) fun x2 => (Option.bind (Qjf x2 (Qa4.mk 1#8 p2 x1.1 0#8 0#64 [] k0)) fun x3 => ((some ((Qa4.mk 1#8 p2 x1.1 0#8 0#64 [] x3), 0))))))
def Qfs (p0 : Qb5) (rec1 : (Int × W2) → Option (W2)) (s1 : Int × W2) : Option (W2) := match s1 with | (a3, a4) => (if a3 < 8 then Option.bind (shG (w64 (56 - (w64 (8 * a3))))) fun n5 => (Option.bind (shG (w64 (56 - (w64 (8 * a3))))) fun n6 => (Option.bind (Qi2 (kby a4) a3) fun y7 => (Option.bind (Xje a4 a3 ((p0.x >>> n5).setWidth 8)) fun x8 => (Option.bind (Qi2 (kby x8) (w64 (8 + a3))) fun y9 => (Option.bind (Xje x8 (w64 (8 + a3)) ((p0.y >>> n6).setWidth 8)) fun x10 => ((rec1 (w64 (a3 + 1), x10)))))))) else (some a4))
def Qjv (p0 : Qb5) : Option (W2) := (Qcr (Qfs p0) Qdn (0, k0))
def Qmp (p0 : BitVec 8) (p1 : BitVec 64) (p2 : BitVec 64) : Option (W2) := Option.bind (shG (un 56#64)) fun n1 => (Option.bind (Qjv (Qb5.mk (((p0.setWidth 64) <<< n1) ||| p1) p2)) fun x2 => ((some x2)))
def Qia (a6 : List (BitVec 8)) (a8 : Int) (rec1 : (List (BitVec 8) × Int × W2) → Option (List (BitVec 8) × Int)) (y10 : BitVec 8) (a11 : W2) : Option (List (BitVec 8) × Int) := Option.bind (Qvx a8 16) fun x12 => (Option.bind (Qi2 (kby a11) x12) fun y13 => (Option.bind (Qi2 a6 a8) fun y14 => ((rec1 (a6.set a8.toNat (y10 ^^^ y13), w64 (a8 + 1), a11)))))
def Qib (p0 : W2) (p1 : BitVec 64) (p2 : List (BitVec 8)) (rec1 : (List (BitVec 8) × Int × W2) → Option (List (BitVec 8) × Int)) (s1 : List (BitVec 8) × Int × W2) : Option (List (BitVec 8) × Int) := match s1 with | (a6, a8, a9) => (if a8 < (p2.length : Int) then Option.bind (Qi2 p2 a8) fun y10 => (Option.bind (Qvx a8 16) fun x15 => ((if x15 = 0 then Option.bind (Xav a8 16) fun x16 => (Option.bind (Qmp 1#8 (wd x16) p1) fun x17 => ((Qia a6 a8 rec1 y10 (Qy8 p0 x17)))) else (Qia a6 a8 rec1 y10 a9)))) else (some (a6, 0)))
def Ql2 (p0 : W2) (p1 : BitVec 64) (p2 : List (BitVec 8)) : Option (List (BitVec 8) × Int) := (if (16384 : Int) < (p2.length : Int) then (some ([], 4)) else Option.bind (mkL 1 (p2.length : Int) 0#8) fun l1 => ((Qcr (Qib p0 p1 p2) Qdn (l1, 0, k0))))
def Qkg (p3 : BitVec 64) (p4 : List (BitVec 8)) (x1 : Int × Int) (a3 : W2) : Option (Qa4 × Int) := Option.bind (Qvx x1.1 4) fun x4 => (Option.bind (Ql2 a3 p3 p4) fun x5 => ((if x5.2 ≠ 0 then (some ((Qa4.mk 0#8 0 (Qa8.mk [] 0#64 [] k0 k0) 0#8 0#64 [] k0), x5.2)) else Option.bind (Qir (Qa4.mk 2#8 0 (Qa8.mk [] 0#64 [] k0 k0) (wd8 x4) p3 x5.1 k0)) fun x6 => (Option.bind (Qnh a3 x6) fun x7 => ((some ((Qa4.mk 2#8 0 (Qa8.mk [] 0#64 [] k0 k0) (wd8 x4) p3 x5.1 x7.1), x7.2)))))))
def Qnq (p0 : W2) (p1 : Qf7) (p2 : Int) (p3 : BitVec 64) (p4 : List (BitVec 8)) : Option (Qa4 × Int) := Option.bind (Qk9 p1 p2) fun x1 => ((if x1.2 ≠ 0 then (some ((Qa4.mk 0#8 0 (Qa8.mk [] 0#64 [] k0 k0) 0#8 0#64 [] k0), x1.2)) else (if (256 : Int) < (p4.length : Int) then (some ((Qa4.mk 0#8 0 (Qa8.mk [] 0#64 [] k0 k0) 0#8 0#64 [] k0), 2)) else Option.bind (Xav p2 p1.Epoch) fun x8 => (Option.bind (Qge p0 x8) fun x9 => (Option.bind (Qpn x9 x1.1) fun x10 => ((Qkg p3 p4 x1 x10)))))))
def Qpg (p0 : Qaj) (p1 : Qf7) : Option (Int) := Option.bind (Qjq p0) fun x1 => ((if x1 ≠ 0 then (some x1) else Option.bind (Qfi p1) fun x2 => ((some x2))))
def Qml (p0 : W2) (p1 : Qaj) (p3 : Int) (p4 : Int) (a2 : Bool) : Option (Qae × Int) := (bif a2 then (some ((Qae.mk (Qap.mk 0 [] (Qag.mk 0#64 0#64)) 0 (Qbi.mk (Qbr.mk false 0 k0) (Qbr.mk false 0 k0))), 2)) else Option.bind (Qol p0 p1 p3) fun x3 => ((if x3.2 ≠ 0 then (some ((Qae.mk (Qap.mk 0 [] (Qag.mk 0#64 0#64)) 0 (Qbi.mk (Qbr.mk false 0 k0) (Qbr.mk false 0 k0))), x3.2)) else (some ((Qae.mk x3.1 p4 (Qbi.mk (Qbr.mk false 0 k0) (Qbr.mk false 0 k0))), 0)))))
def Qr6 (p0 : W2) (p1 : Qaj) (p2 : Qf7) (p3 : Int) (p4 : Int) : Option (Qae × Int) := Option.bind (Qpg p1 p2) fun x1 => ((if x1 ≠ 0 then (some ((Qae.mk (Qap.mk 0 [] (Qag.mk 0#64 0#64)) 0 (Qbi.mk (Qbr.mk false 0 k0) (Qbr.mk false 0 k0))), x1)) else (if p4 < w64 (-p2.Drift) then (Qml p0 p1 p3 p4 true) else (Qml p0 p1 p3 p4 (decide (p2.Drift < p4))))))
def Qeo (a4 : Int) (rec2 : (Int) → Option (Int)) (a6 : Bool) : Option (Int) := (bif a6 then (some 8) else (rec2 (w64 (a4 + 1))))
def Qk4 (p2 : Qae) (rec2 : (Int) → Option (Int)) (a4 : Int) : Option (Int) := (if a4 < 2 then Option.bind (Qi2 [p2.Slots.a0, p2.Slots.a1] a4) fun y5 => ((bif y5.Full then Option.bind (Qdb y5.Epoch) fun x7 => ((bif (!x7) then (Qeo a4 rec2 true) else Option.bind (Qvx y5.Epoch 2) fun x8 => ((if x8 ≠ a4 then (Qeo a4 rec2 true) else (bif (!y5.Full) then (Qeo a4 rec2 (decide (y5 ≠ (Qbr.mk false 0 k0)))) else (Qeo a4 rec2 false)))))) else (bif (!y5.Full) then (Qeo a4 rec2 (decide (y5 ≠ (Qbr.mk false 0 k0)))) else (Qeo a4 rec2 false)))) else (some 0))
def Qgv (p2 : Qae) (a2 : Bool) : Option (Int) := (bif a2 then (some 8) else (Qcr (Qk4 p2) Qdn 0))
def Qqb (p0 : Qaj) (p1 : Qf7) (p2 : Qae) : Option (Int) := Option.bind (Qpg p0 p1) fun x1 => ((if x1 ≠ 0 then (some x1) else (if p2.Ahead < w64 (-p1.Drift) then (Qgv p2 true) else (if p1.Drift < p2.Ahead then (Qgv p2 true) else (if p2.Secret.Receiver < 0 then (Qgv p2 true) else Option.bind (shG p0.Depth) fun n9 => ((Qgv p2 (decide (Qvz 1 n9 ≤ p2.Secret.Receiver)))))))))
def Qey (p0 : Qbd) : Option (Bool) := (if mnI p0.Subset.Node p0.Subset.Minus < 0 then (some true) else (some (decide ((127 : Int) < mxI p0.Subset.Node p0.Subset.Minus))))
def Qb4 (p0 : List Qbd) (rec1 : (Int) → Option (Int)) (a2 : Int) : Option (Int) := (if a2 < (p0.length : Int) then Option.bind (Qi2 p0 a2) fun y3 => (Option.bind (Qey y3) fun x4 => ((bif x4 then (some a2) else (rec1 (w64 (a2 + 1)))))) else (some (-1)))
def Qc8 (p0 : List Qbd) : Option (Int) := (Qcr (Qb4 p0) Qdn 0)
def Qbj (p0 : List Qbd) : Option (Bool) := Option.bind (Qc8 p0) fun x1 => ((some (decide ((0 : Int) ≤ x1))))
def Qbc (a2 : Bool) : Option (Int) := (bif (!a2) then (some 8) else (some 0))
def Qck (p0 : Qa4) (a1 : Bool) : Option (Int) := (if p0.Kind = 1#8 then Option.bind (Qdb p0.Epoch) fun x3 => ((bif x3 then (if p0.Low = 0#8 then (if p0.Number = 0#64 then (if (p0.Data.length : Int) = 0 then (if (p0.Head.Items.length : Int) ≤ 64 then (if (p0.Head.Points.length : Int) ≤ 8 then Option.bind (Qbj p0.Head.Items) fun x4 => ((Qbc (!x4))) else (Qbc false)) else (Qbc false)) else (Qbc false)) else (Qbc false)) else (Qbc false)) else (Qbc false))) else (if p0.Kind = 2#8 then (if p0.Epoch = 0 then (if p0.Low < 4#8 then (if (p0.Data.length : Int) ≤ 256 then (Qbc a1) else (Qbc false)) else (Qbc false)) else (Qbc false)) else (Qbc false)))
def Qd2 (p0 : Qa4) : Option (Int) := (if (p0.Head.Items.length : Int) = 0 then (if (p0.Head.Points.length : Int) = 0 then (if p0.Head.Base = 0#64 then (if p0.Head.Box = k0 then (Qck p0 (decide (p0.Head.Check = k0))) else (Qck p0 false)) else (Qck p0 false)) else (Qck p0 false)) else (Qck p0 false))
def Qjo (p0 : List Qbv) : Option (List Qbv) := Option.bind (Qst 32 [] p0) fun l1 => ((some l1))
def Ql3 (p0 : Qaj) (p1 : Qap) (p2 : Qa8) (a1 : Bool) : Option (W2 × Int) := (bif a1 then (some (k0, 2)) else (if un8 p0.Kind = 1 ∨ un8 p0.Kind = 2 ∨ un8 p0.Kind = 3 then Option.bind (Qh8 p0) fun x2 => ((if x2 ≠ 0 then (some (k0, x2)) else Option.bind (Qs5 p0 p1 p2) fun x3 => ((some (x3.1, x3.2))))) else (if un8 p0.Kind = 4 then Option.bind (Qlf p0) fun x4 => ((if x4 ≠ 0 then (some (k0, x4)) else Option.bind (Qt7 p0 p1 p2) fun x5 => ((some (x5.1, x5.2))))) else none)))
def Qrr (p0 : Qaj) (p1 : Qap) (p2 : Qa8) : Option (W2 × Int) := (if p0.Kind < 1#8 then (Ql3 p0 p1 p2 true) else (Ql3 p0 p1 p2 (decide ((5 : Int) ≤ un8 p0.Kind))))
def Qmt (p2 : Qae) (p3 : Qa4) (x1 : Int) (a6 : W2) (a7 : Int) : Option (Int × Qae) := (if a7 ≠ 0 then (some (a7, p2)) else Option.bind (Qjf a6 p3) fun x8 => ((if x8 ≠ p3.Mac then (some (53, p2)) else (some (0, (Qae.mk p2.Secret p2.Ahead (Qbi.mk (if x1 = 0 then (Qbr.mk true p3.Epoch a6) else p2.Slots.a0) (if x1 = 0 then p2.Slots.a1 else (Qbr.mk true p3.Epoch a6)))))))))
def Qk7 (p0 : Qaj) (p2 : Qae) (p3 : Qa4) (x1 : Int) (a4 : Bool) : Option (Int × Qae) := (bif a4 then (some (52, p2)) else Option.bind (Qrr p0 p2.Secret p3.Head) fun x9 => ((Qmt p2 p3 x1 x9.1 x9.2)))
def Qqm (p0 : Qaj) (p1 : Qf7) (p2 : Qae) (p3 : Qa4) (p4 : Int) : Option (Int × Qae) := Option.bind (Qvx p3.Epoch 2) fun x1 => (Option.bind (Qi2 [p2.Slots.a0, p2.Slots.a1] x1) fun y2 => (Option.bind (Qm8 p1 p4 p3.Epoch) fun x3 => ((bif (!x3) then (some (51, p2)) else (bif y2.Full then (Qk7 p0 p2 p3 x1 (decide (p3.Epoch ≤ y2.Epoch))) else (Qk7 p0 p2 p3 x1 false))))))
def Qo4 (p2 : Qa4) (x7 : W2) (a9 : W2) (a10 : Int) : Option (List (BitVec 8) × Int) := (if a10 ≠ 0 then (some ([], a10)) else (if a9 ≠ p2.Mac then (some ([], 53)) else Option.bind (Ql2 x7 p2.Number p2.Data) fun x11 => ((some (x11.1, x11.2)))))
def Qkx (p2 : Qa4) (x1 : Int × Bool) (y5 : Qbr) (a6 : Bool) : Option (List (BitVec 8) × Int) := (bif a6 then (some ([], 6)) else Option.bind (Qpn y5.Key x1.1) fun x7 => (Option.bind (Qir p2) fun x12 => (Option.bind (Qnh x7 x12) fun x13 => ((Qo4 p2 x7 x13.1 x13.2)))))
def Qry (p0 : Qf7) (p1 : Qae) (p2 : Qa4) (p3 : Int) : Option (List (BitVec 8) × Int) := Option.bind (Qma p0 p3 p2.Low) fun x1 => ((bif (!x1.2) then (some ([], 51)) else Option.bind (Xav p0.Epoch p0.Word) fun x2 => (Option.bind (Xav x1.1 x2) fun x3 => (Option.bind (Qvx x3 2) fun x4 => (Option.bind (Qi2 [p1.Slots.a0, p1.Slots.a1] x4) fun y5 => ((bif (!y5.Full) then (Qkx p2 x1 y5 true) else (Qkx p2 x1 y5 (decide (y5.Epoch ≠ x3))))))))))
def Ql9 (x4 : List Qbv) (a5 : Int) (a6 : List (BitVec 8)) (a8 : Int) (a9 : Qag) (a10 : Int) (a11 : Qbi) : Option (Qae × List (BitVec 8) × Int) := (if a5 ≠ 0 then (some ((Qae.mk (Qap.mk 0 [] (Qag.mk 0#64 0#64)) 0 (Qbi.mk (Qbr.mk false 0 k0) (Qbr.mk false 0 k0))), [], a5)) else (some ((Qae.mk (Qap.mk a8 x4 a9) a10 a11), a6, 0)))
def Ql5 (p0 : Qaj) (p1 : Qf7) (p2 : Qae) (p3 : Qa4) (p4 : Int) (a3 : Int) : Option (Qae × List (BitVec 8) × Int) := (if a3 ≠ 0 then (some ((Qae.mk (Qap.mk 0 [] (Qag.mk 0#64 0#64)) 0 (Qbi.mk (Qbr.mk false 0 k0) (Qbr.mk false 0 k0))), [], a3)) else Option.bind (Qjo p2.Secret.Labels) fun x4 => ((if p3.Kind = 1#8 then Option.bind (Qqm p0 p1 (Qae.mk (Qap.mk p2.Secret.Receiver x4 p2.Secret.Share) p2.Ahead p2.Slots) p3 (w64 (p4 + p2.Ahead))) fun x12 => ((Ql9 x4 x12.1 [] x12.2.Secret.Receiver x12.2.Secret.Share x12.2.Ahead x12.2.Slots)) else Option.bind (Qry p1 (Qae.mk (Qap.mk p2.Secret.Receiver x4 p2.Secret.Share) p2.Ahead p2.Slots) p3 (w64 (p4 + p2.Ahead))) fun x13 => ((Ql9 x4 x13.2 x13.1 p2.Secret.Receiver p2.Secret.Share p2.Ahead p2.Slots)))))
def Qkv (p0 : Qaj) (p1 : Qf7) (p2 : Qae) (p3 : Qa4) (p4 : Int) (a2 : Int) (a14 : Bool) : Option (Qae × List (BitVec 8) × Int) := (bif a14 then (Ql5 p0 p1 p2 p3 p4 2) else (Ql5 p0 p1 p2 p3 p4 a2))
def Ql0 (p0 : Qaj) (p1 : Qf7) (p2 : Qae) (p3 : Qa4) (p4 : Int) (a2 : Int) : Option (Qae × List (BitVec 8) × Int) := (if a2 = 0 then Option.bind (Qdb p4) fun x15 => ((Qkv p0 p1 p2 p3 p4 a2 (!x15))) else (Qkv p0 p1 p2 p3 p4 a2 false))
def Qlg (p0 : Qaj) (p1 : Qf7) (p2 : Qae) (p3 : Qa4) (p4 : Int) : Option (Qae × List (BitVec 8) × Int) := Option.bind (Qqb p0 p1 p2) fun x1 => ((if x1 = 0 then Option.bind (Qd2 p3) fun x16 => ((Ql0 p0 p1 p2 p3 p4 x16)) else (Ql0 p0 p1 p2 p3 p4 x1)))
end
end Go.Sx

end
section

end
section

end
section
set_option linter.unusedVariables false
set_option maxRecDepth 100000
namespace Go.Sx
open Go Go.RowKit
noncomputable section
def Qll (p0 : Qap) (p1 : Qa4) : Option (Bool) := (if (100 : Int) < (p0.Labels.length : Int) then (some true) else (if (100 : Int) < (p1.Head.Items.length : Int) then (some true) else (if (50 : Int) < (p1.Head.Points.length : Int) then (some true) else (some (decide ((1000 : Int) < (p1.Data.length : Int)))))))
def Qdo (p0 : Qa8) (p1 : Qa8) (rec3 : (Int) → Option (Bool)) (a7 : Int) : Option (Bool) := (if a7 < (p0.Points.length : Int) then Option.bind (Qi2 p0.Points a7) fun y8 => (Option.bind (Qi2 p1.Points a7) fun y9 => ((if y8 ≠ y9 then (some false) else (rec3 (w64 (a7 + 1)))))) else (some true))
def Qdr (p0 : Qa8) (p1 : Qa8) (rec2 : (Int) → Option (Bool)) (a3 : Int) : Option (Bool) := (if a3 < (p0.Items.length : Int) then Option.bind (Qi2 p0.Items a3) fun y4 => (Option.bind (Qi2 p1.Items a3) fun y5 => ((if y4 ≠ y5 then (some false) else (rec2 (w64 (a3 + 1)))))) else (Qcr (Qdo p0 p1) Qdn 0))
def Qd0 (p0 : Qa8) (p1 : Qa8) (a1 : Bool) : Option (Bool) := (bif a1 then (some false) else (Qcr (Qdr p0 p1) Qdn 0))
def Qgp (p0 : Qa8) (p1 : Qa8) : Option (Bool) := (if (p0.Items.length : Int) ≠ (p1.Items.length : Int) then (Qd0 p0 p1 true) else (if (p0.Points.length : Int) ≠ (p1.Points.length : Int) then (Qd0 p0 p1 true) else (if p0.Base ≠ p1.Base then (Qd0 p0 p1 true) else (if p0.Box ≠ p1.Box then (Qd0 p0 p1 true) else (Qd0 p0 p1 (decide (p0.Check ≠ p1.Check)))))))
end
end Go.Sx

end
section
set_option linter.unusedVariables false
set_option maxRecDepth 100000
namespace Go.Sx
open Go Go.RowKit
noncomputable section
def Qe9  : Option (Qf7) := (some (Qf7.mk 100 10 20 6 2))
def Qhr (p0 : List Int) (p1 : List Int) (rec1 : (Int) → Option (Bool)) (a2 : Int) : Option (Bool) := (if a2 < (p0.length : Int) then Option.bind (Qi2 p0 a2) fun y3 => (Option.bind (Qi2 p1 a2) fun y4 => ((if y3 ≠ y4 then (some false) else (rec1 (w64 (a2 + 1)))))) else (some true))
def Qn1 (p0 : List Int) (p1 : List Int) : Option (Bool) := (if (p0.length : Int) ≠ (p1.length : Int) then (some false) else (Qcr (Qhr p0 p1) Qdn 0))
def Qgw  : Option (Qaj) := (some (Qaj.mk 2#8 2 0 (Qfc.mk 0#64 0#64 0#64)))
def Qn5 (a14 : Qa4) (a20 : Qa4) (a30 : Qae) (a33 : Int) (a37 : Int) (a38 : List (BitVec 8)) : Option (Bool) := Option.bind (Qgw) fun x40 => (Option.bind (Qe9) fun x41 => (Option.bind (Qlg x40 x41 a30 a14 90) fun x42 => (Option.bind (Qgw) fun x43 => (Option.bind (Qe9) fun x44 => (Option.bind (Qlg x43 x44 a30 a20 97) fun x45 => ((if a33 = 0 then (if a37 = 0 then (if a38 = [97#8, 98#8, 99#8] then (if x42.2.2 = 6 then (some (decide (x45.2.2 = 6))) else (some false)) else (some false)) else (some false)) else (some false))))))))
def Qn4 (a14 : Qa4) (a20 : Qa4) (a30 : Qae) (a33 : Int) (a35 : Qae) : Option (Bool) := Option.bind (Qgw) fun x46 => (Option.bind (Qe9) fun x47 => (Option.bind (Qlg x46 x47 a35 a20 97) fun x48 => ((Qn5 a14 a20 a30 a33 x48.2.2 x48.2.1))))
def Qgu (a14 : Qa4) (a20 : Qa4) (a26 : Qae) (a30 : Qae) (a32 : Bool) : Option (Bool) := (bif a32 then (some false) else Option.bind (Qgw) fun x55 => (Option.bind (Qe9) fun x56 => (Option.bind (Qlg x55 x56 a26 a14 90) fun x57 => ((Qn4 a14 a20 a30 x57.2.2 x57.1)))))
def Qmx (a12 : Int) (a14 : Qa4) (a18 : Int) (a20 : Qa4) (a24 : Int) (a26 : Qae) (a28 : Int) (a30 : Qae) : Option (Bool) := (if a12 ≠ 0 then (Qgu a14 a20 a26 a30 true) else (if a18 ≠ 0 then (Qgu a14 a20 a26 a30 true) else (if a24 ≠ 0 then (Qgu a14 a20 a26 a30 true) else (Qgu a14 a20 a26 a30 (decide (a28 ≠ 0))))))
def Qmw (a12 : Int) (a14 : Qa4) (a18 : Int) (a20 : Qa4) (a24 : Int) (a26 : Qae) : Option (Bool) := Option.bind (Qgw) fun x64 => (Option.bind (Qe9) fun x65 => (Option.bind (Qr6 (72623842526232576#64, 0#64) x64 x65 2 0) fun x66 => ((Qmx a12 a14 a18 a20 a24 a26 x66.2 x66.1))))
def Qmz (a12 : Int) (a14 : Qa4) (a18 : Int) (a20 : Qa4) : Option (Bool) := Option.bind (Qgw) fun x73 => (Option.bind (Qe9) fun x74 => (Option.bind (Qr6 (72623842526232576#64, 0#64) x73 x74 1 6) fun x75 => ((Qmw a12 a14 a18 a20 x75.2 x75.1))))
def Qk5 (a12 : Int) (a14 : Qa4) : Option (Bool) := Option.bind (Qe9) fun x82 => (Option.bind (Qnq (72623842526232576#64, 0#64) x82 95 5#64 [97#8, 98#8, 99#8]) fun x83 => ((Qmz a12 a14 x83.2 x83.1)))
def Qcg (a11 : Bool) : Option (Bool) := (bif a11 then (some false) else Option.bind (Qgw) fun x106 => (Option.bind (Qnj (72623842526232576#64, 0#64) x106 0 [2]) fun x107 => ((Qk5 x107.2 x107.1))))
def Qm0  : Option (Bool) := Option.bind (Qe9) fun x1 => (Option.bind (Qkt x1 95) fun x2 => (Option.bind (Qe9) fun x3 => (Option.bind (Qk9 x3 95) fun x4 => (Option.bind (Qe9) fun x5 => (Option.bind (Qtu x5 95) fun x6 => (Option.bind (Qe9) fun x7 => (Option.bind (Qnv x7 101 1#8) fun x8 => (Option.bind (Qe9) fun x9 => (Option.bind (Qp4 x9 107 0) fun x10 => ((if x2.2 ≠ 0 then (Qcg true) else (if x2.1 ≠ 0 then (Qcg true) else (if x4.2 ≠ 0 then (Qcg true) else (if x4.1 ≠ 9 then (Qcg true) else (if x6.2 ≠ 0 then (Qcg true) else Option.bind (Qn1 x6.1 [0, 1]) fun x119 => ((bif (!x119) then (Qcg true) else (if x8.2 ≠ 0 then (Qcg true) else (if x8.1 ≠ 9 then (Qcg true) else (if x10.2 ≠ 0 then (Qcg true) else (Qcg (!x10.1))))))))))))))))))))))
end
end Go.Sx

end
section

end
section
set_option linter.unusedVariables false
set_option maxRecDepth 100000
namespace Go.Sx
open Go Go.RowKit
noncomputable section
def Qdc (p0 : Qf7) (a2 : Bool) : Option (Bool) := (bif a2 then (some false) else (if w64 ((w64 (2 * p0.Drift)) + p0.Delay) < w64 (3 * p0.Word) then (some (decide (w64 (p0.Early + p0.Delay) ≤ p0.Epoch))) else (some false)))
def Qds (p0 : Qf7) (a1 : Bool) : Option (Bool) := (bif a1 then (some false) else (if p0.Early < 0 then (Qdc p0 true) else (if p0.Drift < 0 then (Qdc p0 true) else (if p0.Delay < 0 then (Qdc p0 true) else (if p0.Epoch < p0.Early then (Qdc p0 true) else (if (3000 : Int) < p0.Drift then (Qdc p0 true) else (Qdc p0 (decide ((3000 : Int) < p0.Delay)))))))))
def Qq0 (p0 : Qf7) : Option (Bool) := (if p0.Word < 1 then (Qds p0 true) else (if (1000 : Int) < p0.Word then (Qds p0 true) else (if p0.Epoch < p0.Word then (Qds p0 true) else (if w64 (1000 * p0.Word) < p0.Epoch then (Qds p0 true) else Option.bind (Qvx p0.Epoch p0.Word) fun x3 => ((Qds p0 (decide (x3 ≠ 0))))))))
end
end Go.Sx

end
section

end
section
set_option linter.unusedVariables false
set_option maxRecDepth 100000
namespace Go.Sx
open Go Go.RowKit
noncomputable section
structure Qab where
  b : List (BitVec 8)
  short : Bool
deriving DecidableEq, Inhabited
def Qab.cs (x : Qab) (v0 : Value) : List Value := [v0, .bool x.short]
theorem Qab.cs_ones (x : Qab) (v0 : Value) (h0 : oneB v0 = true) : Qjr (Qab.cs x v0) = true := by simp only [Qab.cs, List.cons_append, List.nil_append, kb, Qjr, Qhk, Qfd, Qhc, cond_true, h0]
def Qip (p0 : Qa4) : Option (List (BitVec 8) × Int) := Option.bind (Qd2 p0) fun x1 => ((if x1 ≠ 0 then (some ([], x1)) else Option.bind (Qir p0) fun x2 => (Option.bind (Qst 1 x2 (kby p0.Mac)) fun l3 => ((some (l3, 0))))))
def Qdt (p0 : Qab) (p1 : Int) : Option (List (BitVec 8) × Qab) := (if (p0.b.length : Int) < p1 then Option.bind (mkL 1 p1 0#8) fun l1 => ((some (l1, (Qab.mk [] true)))) else Option.bind (Xa9 p0.b 0 p1) fun l2 => (Option.bind (Xa9 p0.b p1 (p0.b.length : Int)) fun l3 => ((some (l2, (Qab.mk l3 p0.short))))))
def Qcu (x1 : List (BitVec 8) × Qab) (rec1 : (BitVec 64 × Int) → Option (BitVec 64 × Qab)) (s1 : BitVec 64 × Int) : Option (BitVec 64 × Qab) := match s1 with | (a4, a5) => (if a5 < (x1.1.length : Int) then Option.bind (Qi2 x1.1 a5) fun y6 => (Option.bind (shG (un 8#64)) fun n7 => ((rec1 ((a4 <<< n7) ||| (y6.setWidth 64), w64 (a5 + 1))))) else (some (a4, x1.2)))
def Qbp (p0 : Qab) (p1 : Int) : Option (BitVec 64 × Qab) := Option.bind (Qdt p0 p1) fun x1 => ((Qcr (Qcu x1) Qdn (0#64, 0)))
def Qc3 (p0 : Qab) : Option (Int × Qab) := Option.bind (Qbp p0 1) fun x1 => ((some (w64 (un x1.1), x1.2)))
def Qhu (p0 : List (BitVec 8)) : Option (List (BitVec 8)) := Option.bind (Qst 1 [] p0) fun l1 => ((some l1))
def Qc4 (p0 : Qab) : Option (W2 × Qab) := Option.bind (Qdt p0 16) fun x1 => (Option.bind (Xj1 x1.1) fun x2 => ((some (x2, x1.2))))
def Qg0 (p0 : Qab) : Option (Qbd × Qab) := Option.bind (Qc3 p0) fun x1 => (Option.bind (Qc3 x1.2) fun x2 => (Option.bind (Qc4 x2.2) fun x3 => ((some ((Qbd.mk (Qak.mk x1.1 x2.1) x3.1), x3.2)))))
def Qe3 (p0 : Qab) : Option (Qag × Qab) := Option.bind (Qbp p0 8) fun x1 => (Option.bind (Qbp x1.2 8) fun x2 => ((some ((Qag.mk x1.1 x2.1), x2.2))))
def Qfu (x1 : Int × Qab) (a4 : Int) (a5 : List Qbd) (a6 : BitVec 64) (a7 : List Qag) (a8 : W2) (a9 : W2) (a10 : BitVec 8) (a11 : BitVec 64) (a12 : List (BitVec 8)) (x16 : W2 × Qab) (a17 : Bool) : Option (Qa4 × Int) := (bif a17 then (some ((Qa4.mk 0#8 0 (Qa8.mk [] 0#64 [] k0 k0) 0#8 0#64 [] k0), 8)) else (some ((Qa4.mk (wd8 x1.1) a4 (Qa8.mk a5 a6 a7 a8 a9) a10 a11 a12 x16.1), 0)))
def Qdi (x1 : Int × Qab) (a2 : Qab) (a4 : Int) (a5 : List Qbd) (a6 : BitVec 64) (a7 : List Qag) (a8 : W2) (a9 : W2) (a10 : BitVec 8) (a11 : BitVec 64) (a12 : List (BitVec 8)) : Option (Qa4 × Int) := Option.bind (Qc4 a2) fun x16 => ((bif x16.2.short then (Qfu x1 a4 a5 a6 a7 a8 a9 a10 a11 a12 x16 true) else (if (0 : Int) < (x16.2.b.length : Int) then (Qfu x1 a4 a5 a6 a7 a8 a9 a10 a11 a12 x16 true) else Option.bind (Qd2 (Qa4.mk (wd8 x1.1) a4 (Qa8.mk a5 a6 a7 a8 a9) a10 a11 a12 x16.1)) fun x18 => ((Qfu x1 a4 a5 a6 a7 a8 a9 a10 a11 a12 x16 (decide (x18 ≠ 0)))))))
def Qhi (x1 : Int × Qab) (x24 : BitVec 64 × Qab) (x36 : BitVec 64 × Qab) (x37 : Int × Qab) (rec4 : (List Qag × Int × Qab) → Option (Qa4 × Int)) (s4 : List Qag × Int × Qab) : Option (Qa4 × Int) := match s4 with | (a43, a45, a46) => (if a45 < x37.1 then (bif a46.short then Option.bind (Qc4 a46) fun x48 => (Option.bind (Qc4 x48.2) fun x49 => ((Qdi x1 x49.2 (w64 (un x24.1)) [] x36.1 [] x48.1 x49.1 0#8 0#64 []))) else Option.bind (Qe3 a46) fun x50 => (Option.bind (Qst 16 a43 [x50.1]) fun l51 => ((rec4 (l51, w64 (a45 + 1), x50.2))))) else Option.bind (Qc4 a46) fun x52 => (Option.bind (Qc4 x52.2) fun x53 => ((Qdi x1 x53.2 (w64 (un x24.1)) [] x36.1 a43 x52.1 x53.1 0#8 0#64 []))))
def Qd7 (x1 : Int × Qab) (x24 : BitVec 64 × Qab) (a31 : List Qbd) (x56 : BitVec 64 × Qab) (x57 : Int × Qab) (rec5 : (List Qag × Int × Qab) → Option (Qa4 × Int)) (s5 : List Qag × Int × Qab) : Option (Qa4 × Int) := match s5 with | (a63, a65, a66) => (if a65 < x57.1 then (bif a66.short then Option.bind (Qc4 a66) fun x68 => (Option.bind (Qc4 x68.2) fun x69 => ((Qdi x1 x69.2 (w64 (un x24.1)) a31 x56.1 [] x68.1 x69.1 0#8 0#64 []))) else Option.bind (Qe3 a66) fun x70 => (Option.bind (Qst 16 a63 [x70.1]) fun l71 => ((rec5 (l71, w64 (a65 + 1), x70.2))))) else Option.bind (Qc4 a66) fun x72 => (Option.bind (Qc4 x72.2) fun x73 => ((Qdi x1 x73.2 (w64 (un x24.1)) a31 x56.1 a63 x72.1 x73.1 0#8 0#64 []))))
def Qdz (x1 : Int × Qab) (x24 : BitVec 64 × Qab) (x25 : Int × Qab) (rec3 : (List Qbd × Int × Qab) → Option (Qa4 × Int)) (s3 : List Qbd × Int × Qab) : Option (Qa4 × Int) := match s3 with | (a31, a33, a34) => (if a33 < x25.1 then (bif a34.short then Option.bind (Qbp a34 8) fun x36 => (Option.bind (Qc3 x36.2) fun x37 => ((Qcr (Qhi x1 x24 x36 x37) Qdn ([], 0, x37.2)))) else Option.bind (Qg0 a34) fun x54 => (Option.bind (Qst 32 a31 [x54.1]) fun l55 => ((rec3 (l55, w64 (a33 + 1), x54.2))))) else Option.bind (Qbp a34 8) fun x56 => (Option.bind (Qc3 x56.2) fun x57 => ((Qcr (Qd7 x1 x24 a31 x56 x57) Qdn ([], 0, x57.2)))))
def Qg5 (p0 : List (BitVec 8)) : Option (Qa4 × Int) := Option.bind (Qc3 (Qab.mk p0 false)) fun x1 => ((if wd8 x1.1 = 2#8 then Option.bind (Qc3 x1.2) fun x19 => (Option.bind (Qbp x19.2 8) fun x20 => (Option.bind (Qbp x20.2 2) fun x21 => (Option.bind (Qdt x21.2 (w64 (un x21.1))) fun x22 => (Option.bind (Qhu x22.1) fun x23 => ((Qdi x1 x22.2 0 [] 0#64 [] k0 k0 (wd8 x19.1) x20.1 x23)))))) else Option.bind (Qbp x1.2 8) fun x24 => ((if 1099511627776#64 < x24.1 then (some ((Qa4.mk 0#8 0 (Qa8.mk [] 0#64 [] k0 k0) 0#8 0#64 [] k0), 8)) else Option.bind (Qc3 x24.2) fun x25 => ((Qcr (Qdz x1 x24 x25) Qdn ([], 0, x25.2)))))))
end
end Go.Sx

end
section

end
section
set_option linter.unusedVariables false
set_option maxRecDepth 100000
namespace Go.Sx
open Go Go.RowKit
noncomputable section
def Qgr (p0 : Qa4) (p1 : Qa4) : Option (Bool) := (if p0.Kind = p1.Kind then (if p0.Epoch = p1.Epoch then Option.bind (Qgp p0.Head p1.Head) fun x1 => ((bif x1 then (if p0.Low = p1.Low then (if p0.Number = p1.Number then (if p0.Data = p1.Data then (some (decide (p0.Mac = p1.Mac))) else (some false)) else (some false)) else (some false)) else (some false))) else (some false)) else (some false))
def Qff (p2 : Int) (x1 : Bool) (x3 : List (BitVec 8) × Int) (x9 : Qa4 × Int) (a10 : Bool) : Option (Bool) := (bif a10 then (bif x1 then (some (decide (x9.2 = 8))) else (some false)) else Option.bind (Xa9 x3.1 0 p2) fun l11 => (Option.bind (Qg5 l11) fun x12 => ((bif x1 then (if x9.2 = 8 then (some (decide (x12.2 = 8))) else (some false)) else (some false)))))
def Qe4 (p2 : Int) (x1 : Bool) (x3 : List (BitVec 8) × Int) (a6 : Bool) : Option (Bool) := (bif a6 then (some false) else Option.bind (Qst 1 [] x3.1) fun l7 => (Option.bind (Qst 1 l7 [0#8]) fun l8 => (Option.bind (Qg5 l8) fun x9 => ((if p2 < 0 then (Qff p2 x1 x3 x9 true) else (Qff p2 x1 x3 x9 (decide ((x3.1.length : Int) ≤ p2))))))))
def Qea (p0 : Qa4) (p2 : Int) (x1 : Bool) (x3 : List (BitVec 8) × Int) (a4 : Int) : Option (Bool) := Option.bind (Qg5 x3.1) fun x5 => ((if x5.2 ≠ 0 then (Qe4 p2 x1 x3 true) else Option.bind (Qgr x5.1 p0) fun x13 => ((bif (!x13) then (Qe4 p2 x1 x3 true) else (Qe4 p2 x1 x3 (decide ((x3.1.length : Int) ≠ a4)))))))
def Qe6 (p0 : Qa4) (p2 : Int) (x1 : Bool) : Option (Bool) := Option.bind (Qip p0) fun x3 => ((if x3.2 ≠ 0 then (bif x1 then (if x3.2 = 8 then (some (decide ((x3.1.length : Int) = 0))) else (some false)) else (some false)) else (if p0.Kind = 1#8 then (Qea p0 p2 x1 x3 (w64 ((w64 (67 + (w64 (18 * (p0.Head.Items.length : Int))))) + (w64 (16 * (p0.Head.Points.length : Int)))))) else (Qea p0 p2 x1 x3 (w64 (28 + (p0.Data.length : Int)))))))
def Qe7 (p0 : Qa4) (p2 : Int) (x1 : Bool) (a16 : Bool) : Option (Bool) := (bif a16 then (some false) else (Qe6 p0 p2 x1))
def Qeb (p0 : Qa4) (p1 : List (BitVec 8)) (p2 : Int) (x1 : Bool) (a2 : Bool) : Option (Bool) := (bif a2 then (some x1) else Option.bind (Qg5 p1) fun x14 => ((if x14.2 = 0 then Option.bind (Qip x14.1) fun x15 => ((if x15.2 ≠ 0 then (Qe7 p0 p2 x1 true) else (if x15.1 ≠ p1 then (Qe7 p0 p2 x1 true) else Option.bind (Qd2 x14.1) fun x17 => ((Qe7 p0 p2 x1 (decide (x17 ≠ 0))))))) else (Qe6 p0 p2 x1))))
def Qiw (p0 : Qa4) (p1 : List (BitVec 8)) (p2 : Int) : Option (Bool) := Option.bind (Qm0) fun x1 => (Option.bind (Qll (Qap.mk 0 [] (Qag.mk 0#64 0#64)) p0) fun x18 => ((bif x18 then (Qeb p0 p1 p2 x1 true) else (if (3000 : Int) < (p1.length : Int) then (Qeb p0 p1 p2 x1 true) else (Qeb p0 p1 p2 x1 (!x1))))))
end
end Go.Sx

end
section
set_option linter.unusedVariables false
set_option linter.unusedSimpArgs false
set_option maxRecDepth 100000
namespace Go.Sx
open Go Go.RowKit Go.Proofs
def Qak.ok (x : Qak) : Prop := I64 x.Node ∧ I64 x.Minus
theorem Xap {H : Type} {enc : TypeId × Value → H} {W : World} {fuel : Nat} {cs : List Value} {x : DataW H × List MemPlace} (h : Tr enc Tryz.prog W fuel 131 cs x) : ∃ (m : Qak), cs = Qak.cs m ∧ Qak.ok m := by
  obtain ⟨xs, n, rfl, rfl, hl, hx, hf⟩ := DataW.trod_struct Tryz.underlying131 h
  replace hl : cs.length = 2 := hl.trans (by kernel_rfl)
  replace hx : xs.length = 2 := hx
  obtain ⟨y0, e0⟩ := Qgz (i := 0) hx rfl
  have h0 : Tr enc Tryz.prog W n 3 ((cs.drop 0).take 1) y0 := fld hf (i := 0) rfl rfl rfl (by kernel_rfl) e0
  obtain ⟨m0, c0, k0⟩ := Xbt Tryz.underlying3 h0
  obtain ⟨y1, e1⟩ := Qgz (i := 1) hx rfl
  have h1 : Tr enc Tryz.prog W n 3 ((cs.drop 1).take 1) y1 := fld hf (i := 1) rfl rfl rfl (by kernel_rfl) e1
  obtain ⟨m1, c1, k1⟩ := Xbt Tryz.underlying3 h1
  have q := Qtq hl
  replace q := Qf3 (o := 1) (k := 1) c1 q
  replace q := Qf3 (o := 0) (k := 1) c0 q
  exact ⟨⟨m0, m1⟩, q, ⟨k0, k1⟩⟩
def Qbd.ok (x : Qbd) : Prop := Qak.ok x.Subset
theorem Xet {H : Type} {enc : TypeId × Value → H} {W : World} {fuel : Nat} {cs : List Value} {x : DataW H × List MemPlace} (h : Tr enc Tryz.prog W fuel 133 cs x) : ∃ (m : Qbd), cs = Qbd.cs m ∧ Qbd.ok m := by
  obtain ⟨xs, n, rfl, rfl, hl, hx, hf⟩ := DataW.trod_struct Tryz.underlying133 h
  replace hl : cs.length = 18 := hl.trans (by kernel_rfl)
  replace hx : xs.length = 2 := hx
  obtain ⟨y0, e0⟩ := Qgz (i := 0) hx rfl
  have h0 : Tr enc Tryz.prog W n 131 ((cs.drop 0).take 2) y0 := fld hf (i := 0) rfl rfl rfl (by kernel_rfl) e0
  obtain ⟨m0, c0, k0⟩ := Xap h0
  obtain ⟨y1, e1⟩ := Qgz (i := 1) hx rfl
  have h1 : Tr enc Tryz.prog W n 23 ((cs.drop 2).take 16) y1 := fld hf (i := 1) rfl rfl rfl (by kernel_rfl) e1
  obtain ⟨m1, c1⟩ := Qzk Tryz.underlying23 Tryz.underlying5 (by kernel_rfl) (by kernel_rfl) h1
  have q := Qtq hl
  replace q := Qf3 (o := 2) (k := 16) c1 q
  replace q := Qf3 (o := 0) (k := 2) c0 q
  exact ⟨⟨m0, m1⟩, q, k0⟩
theorem Xde {H : Type} {enc : TypeId × Value → H} {W : World} {fuel : Nat} {cs : List Value} {x : DataW H × List MemPlace} (h : Tr enc Tryz.prog W fuel 31 cs x) : ∃ (m : Qag), cs = Qag.cs m := by
  obtain ⟨xs, n, rfl, rfl, hl, hx, hf⟩ := DataW.trod_struct Tryz.underlying31 h
  replace hl : cs.length = 2 := hl.trans (by kernel_rfl)
  replace hx : xs.length = 2 := hx
  obtain ⟨y0, e0⟩ := Qgz (i := 0) hx rfl
  have h0 : Tr enc Tryz.prog W n 24 ((cs.drop 0).take 1) y0 := fld hf (i := 0) rfl rfl rfl (by kernel_rfl) e0
  obtain ⟨m0, c0⟩ := Qz6 Tryz.underlying24 h0
  obtain ⟨y1, e1⟩ := Qgz (i := 1) hx rfl
  have h1 : Tr enc Tryz.prog W n 24 ((cs.drop 1).take 1) y1 := fld hf (i := 1) rfl rfl rfl (by kernel_rfl) e1
  obtain ⟨m1, c1⟩ := Qz6 Tryz.underlying24 h1
  have q := Qtq hl
  replace q := Qf3 (o := 1) (k := 1) c1 q
  replace q := Qf3 (o := 0) (k := 1) c0 q
  exact ⟨⟨m0, m1⟩, q⟩
def Qa8.ok (x : Qa8) : Prop := ((∀ a ∈ x.Items, Qbd.ok a) ∧ x.Items.length * 32 ≤ 140737488351232) ∧ (x.Points.length * 16 ≤ 140737488351232)
theorem Xa7 {H : Type} {enc : TypeId × Value → H} {W : World} {fuel : Nat} {cs : List Value} {x : DataW H × List MemPlace} (h : Tr enc Tryz.prog W fuel 48 cs x) (hw : Sz Tryz.prog 48 x.1) : ∃ (m : Qa8) (v0 : Value) (z0 g0 o0 : Nat) (v1 : Value) (z1 g1 o1 : Nat), cs = Qa8.cs m v0 v1 ∧ Rd W z0 g0 o0 18 v0 (m.Items.map Qbd.cs) ∧ Rd W z1 g1 o1 2 v1 (m.Points.map Qag.cs) ∧ Qa8.ok m := by
  obtain ⟨xs, n, rfl, rfl, hl, hx, hf⟩ := DataW.trod_struct Tryz.underlying48 h
  replace hl : cs.length = 35 := hl.trans (by kernel_rfl)
  replace hx : xs.length = 5 := hx
  obtain ⟨y0, e0⟩ := Qgz (i := 0) hx rfl
  have h0 : Tr enc Tryz.prog W n 45 ((cs.drop 0).take 1) y0 := fld hf (i := 0) rfl rfl rfl (by kernel_rfl) e0
  obtain ⟨m0, v0_, z0_, g0_, o0_, c0, R0_, k0, l0⟩ := Xew (c := Qbd.cs) (ok := fun a => Qbd.ok a) (sz := 18) (bytes := 32) Tryz.underlying45 (by kernel_rfl) (by kernel_rfl) (by decide) (fun _ => ⟨rfl, rfl⟩) (fun _ _ _ h => Xet h) h0 (Qsv Tryz.underlying48 hw (i := 0) rfl (by rw [List.getElem?_map, e0]; rfl))
  obtain ⟨y1, e1⟩ := Qgz (i := 1) hx rfl
  have h1 : Tr enc Tryz.prog W n 24 ((cs.drop 1).take 1) y1 := fld hf (i := 1) rfl rfl rfl (by kernel_rfl) e1
  obtain ⟨m1, c1⟩ := Qz6 Tryz.underlying24 h1
  obtain ⟨y2, e2⟩ := Qgz (i := 2) hx rfl
  have h2 : Tr enc Tryz.prog W n 46 ((cs.drop 2).take 1) y2 := fld hf (i := 2) rfl rfl rfl (by kernel_rfl) e2
  obtain ⟨m2, v1_, z1_, g1_, o1_, c2, R1_, k2, l2⟩ := Xew (c := Qag.cs) (ok := fun a => True) (sz := 2) (bytes := 16) Tryz.underlying46 (by kernel_rfl) (by kernel_rfl) (by decide) (fun _ => ⟨rfl, rfl⟩) (fun _ _ _ h => (let ⟨n, c⟩ := Xde h; ⟨n, c, trivial⟩)) h2 (Qsv Tryz.underlying48 hw (i := 2) rfl (by rw [List.getElem?_map, e2]; rfl))
  obtain ⟨y3, e3⟩ := Qgz (i := 3) hx rfl
  have h3 : Tr enc Tryz.prog W n 23 ((cs.drop 3).take 16) y3 := fld hf (i := 3) rfl rfl rfl (by kernel_rfl) e3
  obtain ⟨m3, c3⟩ := Qzk Tryz.underlying23 Tryz.underlying5 (by kernel_rfl) (by kernel_rfl) h3
  obtain ⟨y4, e4⟩ := Qgz (i := 4) hx rfl
  have h4 : Tr enc Tryz.prog W n 23 ((cs.drop 19).take 16) y4 := fld hf (i := 4) rfl rfl rfl (by kernel_rfl) e4
  obtain ⟨m4, c4⟩ := Qzk Tryz.underlying23 Tryz.underlying5 (by kernel_rfl) (by kernel_rfl) h4
  have q := Qtq hl
  replace q := Qf3 (o := 19) (k := 16) c4 q
  replace q := Qf3 (o := 3) (k := 16) c3 q
  replace q := Qf3 (o := 2) (k := 1) c2 q
  replace q := Qf3 (o := 1) (k := 1) c1 q
  replace q := Qf3 (o := 0) (k := 1) c0 q
  exact ⟨⟨m0, m1, m2, m3, m4⟩, v0_, z0_, g0_, o0_, v1_, z1_, g1_, o1_, q, R0_, R1_, ⟨⟨k0, l0⟩, l2⟩⟩
def Qa4.ok (x : Qa4) : Prop := I64 x.Epoch ∧ Qa8.ok x.Head ∧ (x.Data.length * 1 ≤ 140737488351232)
theorem Xai {H : Type} {enc : TypeId × Value → H} {W : World} {fuel : Nat} {cs : List Value} {x : DataW H × List MemPlace} (h : Tr enc Tryz.prog W fuel 52 cs x) (hw : Sz Tryz.prog 52 x.1) : ∃ (m : Qa4) (v0 : Value) (z0 g0 o0 : Nat) (v1 : Value) (z1 g1 o1 : Nat) (v2 : Value) (z2 g2 o2 : Nat), cs = Qa4.cs m v0 v1 v2 ∧ Rd W z0 g0 o0 18 v0 (m.Head.Items.map Qbd.cs) ∧ Rd W z1 g1 o1 2 v1 (m.Head.Points.map Qag.cs) ∧ Rd W z2 g2 o2 1 v2 (m.Data.map bvc) ∧ Qa4.ok m := by
  obtain ⟨xs, n, rfl, rfl, hl, hx, hf⟩ := DataW.trod_struct Tryz.underlying52 h
  replace hl : cs.length = 56 := hl.trans (by kernel_rfl)
  replace hx : xs.length = 7 := hx
  obtain ⟨y0, e0⟩ := Qgz (i := 0) hx rfl
  have h0 : Tr enc Tryz.prog W n 5 ((cs.drop 0).take 1) y0 := fld hf (i := 0) rfl rfl rfl (by kernel_rfl) e0
  obtain ⟨m0, c0⟩ := Xbl Tryz.underlying5 h0
  obtain ⟨y1, e1⟩ := Qgz (i := 1) hx rfl
  have h1 : Tr enc Tryz.prog W n 3 ((cs.drop 1).take 1) y1 := fld hf (i := 1) rfl rfl rfl (by kernel_rfl) e1
  obtain ⟨m1, c1, k1⟩ := Xbt Tryz.underlying3 h1
  obtain ⟨y2, e2⟩ := Qgz (i := 2) hx rfl
  have h2 : Tr enc Tryz.prog W n 48 ((cs.drop 2).take 35) y2 := fld hf (i := 2) rfl rfl rfl (by kernel_rfl) e2
  obtain ⟨m2, v0_, z0_, g0_, o0_, v1_, z1_, g1_, o1_, c2, R0_, R1_, k2⟩ := Xa7 h2 (Qsv Tryz.underlying52 hw (i := 2) rfl (by rw [List.getElem?_map, e2]; rfl))
  obtain ⟨y3, e3⟩ := Qgz (i := 3) hx rfl
  have h3 : Tr enc Tryz.prog W n 5 ((cs.drop 37).take 1) y3 := fld hf (i := 3) rfl rfl rfl (by kernel_rfl) e3
  obtain ⟨m3, c3⟩ := Xbl Tryz.underlying5 h3
  obtain ⟨y4, e4⟩ := Qgz (i := 4) hx rfl
  have h4 : Tr enc Tryz.prog W n 24 ((cs.drop 38).take 1) y4 := fld hf (i := 4) rfl rfl rfl (by kernel_rfl) e4
  obtain ⟨m4, c4⟩ := Qz6 Tryz.underlying24 h4
  obtain ⟨y5, e5⟩ := Qgz (i := 5) hx rfl
  have h5 : Tr enc Tryz.prog W n 50 ((cs.drop 39).take 1) y5 := fld hf (i := 5) rfl rfl rfl (by kernel_rfl) e5
  obtain ⟨m5, v2_, z2_, g2_, o2_, c5, R2_, k5, l5⟩ := Xew (c := bvc) (ok := fun a => True) (sz := 1) (bytes := 1) Tryz.underlying50 (by kernel_rfl) (by kernel_rfl) (by decide) (fun _ => ⟨rfl, rfl⟩) (fun _ _ _ h => (let ⟨n, c⟩ := Xbl Tryz.underlying5 h; ⟨n, c, trivial⟩)) h5 (Qsv Tryz.underlying52 hw (i := 5) rfl (by rw [List.getElem?_map, e5]; rfl))
  obtain ⟨y6, e6⟩ := Qgz (i := 6) hx rfl
  have h6 : Tr enc Tryz.prog W n 23 ((cs.drop 40).take 16) y6 := fld hf (i := 6) rfl rfl rfl (by kernel_rfl) e6
  obtain ⟨m6, c6⟩ := Qzk Tryz.underlying23 Tryz.underlying5 (by kernel_rfl) (by kernel_rfl) h6
  have q := Qtq hl
  replace q := Qf3 (o := 40) (k := 16) c6 q
  replace q := Qf3 (o := 39) (k := 1) c5 q
  replace q := Qf3 (o := 38) (k := 1) c4 q
  replace q := Qf3 (o := 37) (k := 1) c3 q
  replace q := Qf3 (o := 2) (k := 35) c2 q
  replace q := Qf3 (o := 1) (k := 1) c1 q
  replace q := Qf3 (o := 0) (k := 1) c0 q
  exact ⟨⟨m0, m1, m2, m3, m4, m5, m6⟩, v0_, z0_, g0_, o0_, v1_, z1_, g1_, o1_, v2_, z2_, g2_, o2_, q, R0_, R1_, R2_, ⟨k1, k2, l5⟩⟩
end Go.Sx

end
section
set_option linter.unusedVariables false
set_option linter.unusedSimpArgs false
namespace Go.Proofs.YtjdffpglgkefmaaGreat
open Go Go.RowKit Go.Sx
theorem Xfi : CV Tryz.prog 3 150 .u64 := fun _ _ _ => by kernel_rfl
theorem Qoa : ZV Tryz.prog 233 (.agg [.int .u64 0, .int .u64 0].toArray) := fun _ => by kernel_rfl
theorem Qk6 : FA Tryz.prog 233 0 0 := fun _ _ _ => by kernel_rfl
theorem Qb7 : One Tryz.prog 24 := fun _ => ⟨by kernel_rfl, by kernel_rfl⟩
theorem Qjk : FA Tryz.prog 233 1 1 := fun _ _ _ => by kernel_rfl
theorem Qz4 : En Tryz.prog 233 := fun _ _ => by kernel_rfl
theorem Qwr : BS Tryz.prog 233 (fun i => [(0, 1), (1, 1)][i]?) [.int .u64 0, .int .u64 0] := Qpb Tryz.underlying233 Qoa ⟨rfl, (Qb7).siz, rfl, (Qb7).siz, trivial⟩
theorem Qf6 : Agg Tryz.prog 233 2 := fun _ => ⟨by kernel_rfl, by kernel_rfl⟩
theorem Qms : CV Tryz.prog 5 24 .u64 := fun _ _ _ => by kernel_rfl
theorem Qcd : One Tryz.prog 5 := fun _ => ⟨by kernel_rfl, by kernel_rfl⟩
theorem Qji : CV Tryz.prog 24 5 .u8 := fun _ _ _ => by kernel_rfl
theorem Qef : ZV Tryz.prog 23 (.agg [.int .u8 0, .int .u8 0, .int .u8 0, .int .u8 0, .int .u8 0, .int .u8 0, .int .u8 0, .int .u8 0, .int .u8 0, .int .u8 0, .int .u8 0, .int .u8 0, .int .u8 0, .int .u8 0, .int .u8 0, .int .u8 0].toArray) := fun _ => by kernel_rfl
theorem Qai : Agg Tryz.prog 23 16 := fun _ => ⟨by kernel_rfl, by kernel_rfl⟩
abbrev pv (p : W2) : Value := .agg [wv p.1, wv p.2].toArray
set_option maxHeartbeats 1000000 in
theorem Xe8 (x : BitVec 64) (k : Int) (s : Nat) (hs : s < 64) (hk : bits .and .u64 (IntKind.u64.wrap k) 63 = (s : Int)) (w : World) :
    Calls Tryz.prog 233 [wv x, .int .i64 k].toArray w fun e w' => ∃ v, e = .returned v ∧ (v = wv (Xe9 x s) ∧ Gr w w') := by
  refine Qa5 (R := fun v w' => v = wv (Xe9 x s) ∧ Gr w w') 17 Tryz.func233 rfl rfl rfl ?_
  refine Qa3 ?_
  refine Qar [(0, 0)] rfl rfl rfl ?_
  refine Qav rfl rfl rfl (Qbh rfl) ?_
  refine Qa1 ?_
  refine Qa3 ?_
  refine Qar [(0, 0), (1, 0), (2, 0), (3, 0)] rfl rfl rfl ?_
  refine Qav rfl rfl rfl (Qad rfl) ?_
  refine Qav rfl rfl rfl (Qnm Xfi rfl) ?_
  refine Qav rfl rfl rfl (Qg1 (Qrt (by simp) rfl rfl) (show _ = Value.int .u64 (s : Int) from by rw [hk])) ?_
  refine Qav rfl rfl rfl (Qbh rfl) ?_
  refine Qa1 ?_
  refine Qa3 ?_
  refine Qar [(0, 0), (1, 0), (2, 0), (3, 0), (4, 0), (5, 0), (6, 0), (7, 0), (8, 0)] rfl rfl rfl ?_
  refine Qav rfl rfl rfl (Qad rfl) ?_
  refine Qav rfl rfl rfl (Qad rfl) ?_
  refine Qav rfl rfl rfl (Qtt rfl rfl (by omega)) ?_
  refine Qav rfl rfl rfl (Qad rfl) ?_
  refine Qav rfl rfl rfl (Qad rfl) ?_
  refine Qav rfl rfl rfl (Qg1 (Qhm rfl rfl) (show _ = Value.int .u64 ((64 - s : Nat) : Int) from by rw [IntKind.wrap_u64]; congr 1; omega)) ?_
  refine Qav rfl rfl rfl (Quz rfl rfl (by omega)) ?_
  refine Qav rfl rfl rfl (Qsi rfl rfl) ?_
  refine Qav rfl rfl rfl (Qbh rfl) ?_
  refine Qa1 ?_
  refine Qaf ?_
  refine ⟨_, _, rfl, Qli rfl rfl, ?_⟩
  exact ⟨by simp [Xe9], (Gr.refl w)⟩
set_option maxHeartbeats 1000000 in
theorem Xdc (p : W2) (k : BitVec 64) (w : World) :
    Calls Tryz.prog 177 [pv p, wv k].toArray w fun e w' => ∃ v, e = .returned v ∧ (v = pv (rnd p k) ∧ Gr w w') := by
  refine Qa5 (R := fun v w' => v = pv (rnd p k) ∧ Gr w w') 21 Tryz.func177 rfl rfl rfl ?_
  refine Qa3 ?_
  refine Qar [(0, 0), (1, 0)] rfl rfl rfl ?_
  refine Qdx rfl rfl rfl (Qat rfl (by rfl)) ?_
  rintro _ w1 ⟨b1, rfl, hbw1, Bw1, Gw1⟩
  have z1 := Gw1.size
  have lt2 := Bw1.lt
  refine Qdx rfl rfl rfl (Qaa Qoa (by rfl)) ?_
  rintro _ w2 ⟨b2, rfl, hbw2, Bw2, Gw2⟩
  have z3 := Gw2.size
  have lt4 := Bw2.lt
  refine Qa1 ?_
  refine Qa3 ?_
  refine Qth [] [(0, 3), (1, 3), (3, 3), (4, 3), (6, 3), (2, 0), (5, 3), (7, 3), (8, 3)] (by kernel_rfl) (by kernel_rfl) rfl (by kernel_rfl) ?_
  intro w3 Gw3 zw3
  refine Qeg rfl rfl rfl (Kp.refl [] w3) (fun w hS => Qa0 Qk6 rfl) ?_
  have B5 := (Bx.gr (Bx.gr Bw1 Gw2) Gw3)
  refine Qeg rfl rfl rfl (Kp.refl [] w3) (fun w hS => Qa2 Qb7 rfl (Bx.kp B5 hS (by simp <;> first | omega | (split <;> omega))) (by rfl)) ?_
  refine Qeg rfl rfl rfl (Kp.refl [] w3) (fun w hS => Qa0 Qjk rfl) ?_
  refine Qeg rfl rfl rfl (Kp.refl [] w3) (fun w hS => Qa2 Qb7 rfl (Bx.kp B5 hS (by simp <;> first | omega | (split <;> omega))) (by rfl)) ?_
  refine Qeg rfl rfl rfl (Kp.refl [] w3) (fun w hS => Qad rfl) ?_
  refine Xf2 rfl rfl rfl (Qgh Qz4 rfl (Xe8 _ (-8) 56 (by decide) (by decide) _)) ?_
  rintro _ w4 ⟨rfl, Gw4⟩
  have z6 := Gw4.size
  refine ⟨Gw4, ?_⟩
  have S7 := (Kp.gr (Kp.refl [] w3) Gw4)
  refine Qeg rfl rfl rfl S7 (fun w hS => Qrw rfl rfl) ?_
  refine Qeg rfl rfl rfl S7 (fun w hS => Qvk rfl rfl) ?_
  refine Qeg rfl rfl rfl S7 (fun w hS => Qbh rfl) ?_
  refine Qa1 ?_
  refine Qa3 ?_
  refine Qar [(0, 0), (1, 0), (2, 0), (3, 0), (4, 0), (5, 0), (6, 0), (7, 0)] rfl rfl rfl ?_
  refine Qav rfl rfl rfl (Qad rfl) ?_
  refine Qav rfl rfl rfl (Qa0 Qjk rfl) ?_
  have B8 := (Bx.gr B5 Gw4)
  refine Qav rfl rfl rfl (Qa2 Qb7 rfl B8 (by rfl)) ?_
  refine Qdx rfl rfl rfl (Qgh Qz4 rfl (Xe8 _ (3) 3 (by decide) (by decide) _)) ?_
  rintro _ w5 ⟨rfl, Gw5⟩
  have z9 := Gw5.size
  refine Qav rfl rfl rfl (Qad rfl) ?_
  refine Qav rfl rfl rfl (Qvk rfl rfl) ?_
  refine Qav rfl rfl rfl (Qau Qwr rfl rfl) ?_
  have B10 := (Bx.gr (Bx.gr (Bx.gr Bw2 Gw3) Gw4) Gw5)
  refine Qdx rfl rfl rfl (Qfb (Qf6).siz rfl rfl (by rfl) (by rfl) (by rfl) B10 (by rfl)) ?_
  rintro _ w6 ⟨Bw6, Mw6⟩
  have z11 := Mw6.size
  refine Qa1 ?_
  refine Qaf ?_
  have X12 : Gr w w6 := (Gr.md (Gr.trans (Gr.trans (Gr.trans (Gr.trans (Gr.trans (Gr.refl w) Gw1) Gw2) Gw3) Gw4) Gw5) Mw6 (by omega))
  refine ⟨_, _, rfl, Qke rfl Qf6 rfl Bw6 (by rfl), ?_⟩
  exact ⟨rfl, X12⟩
set_option maxHeartbeats 1000000 in
theorem Xm0 (p : W2) (k : BitVec 64) (w : World) :
    Calls Tryz.prog 186 [pv p, wv k].toArray w fun e w' => ∃ v, e = .returned v ∧ (v = pv (Xmk p k) ∧ Gr w w') := by
  refine Qa5 (R := fun v w' => v = pv (Xmk p k) ∧ Gr w w') 21 Tryz.func186 rfl rfl rfl ?_
  refine Qa3 ?_
  refine Qar [(0, 0), (1, 0)] rfl rfl rfl ?_
  refine Qdx rfl rfl rfl (Qat rfl (by rfl)) ?_
  rintro _ w1 ⟨b1, rfl, hbw1, Bw1, Gw1⟩
  have z1 := Gw1.size
  have lt2 := Bw1.lt
  refine Qdx rfl rfl rfl (Qaa Qoa (by rfl)) ?_
  rintro _ w2 ⟨b2, rfl, hbw2, Bw2, Gw2⟩
  have z3 := Gw2.size
  have lt4 := Bw2.lt
  refine Qa1 ?_
  refine Qa3 ?_
  refine Qar [(0, 0), (1, 0), (2, 0), (3, 0), (4, 0), (5, 0), (6, 0)] rfl rfl rfl ?_
  refine Qav rfl rfl rfl (Qa0 Qk6 rfl) ?_
  have B5 := (Bx.gr Bw1 Gw2)
  refine Qav rfl rfl rfl (Qa2 Qb7 rfl B5 (by rfl)) ?_
  refine Qav rfl rfl rfl (Qa0 Qjk rfl) ?_
  refine Qav rfl rfl rfl (Qa2 Qb7 rfl B5 (by rfl)) ?_
  refine Qav rfl rfl rfl (Qvk rfl rfl) ?_
  refine Qdx rfl rfl rfl (Qgh Qz4 rfl (Xe8 _ (-3) 61 (by decide) (by decide) _)) ?_
  rintro _ w3 ⟨rfl, Gw3⟩
  have z6 := Gw3.size
  refine Qav rfl rfl rfl (Qbh rfl) ?_
  refine Qa1 ?_
  refine Qa3 ?_
  refine Qar [(0, 0), (1, 0), (2, 0), (3, 0), (4, 0), (5, 0), (6, 0), (7, 0), (8, 0), (9, 0)] rfl rfl rfl ?_
  refine Qav rfl rfl rfl (Qa0 Qk6 rfl) ?_
  have B7 := (Bx.gr B5 Gw3)
  refine Qav rfl rfl rfl (Qa2 Qb7 rfl B7 (by rfl)) ?_
  refine Qav rfl rfl rfl (Qad rfl) ?_
  refine Qav rfl rfl rfl (Qvk rfl rfl) ?_
  refine Qav rfl rfl rfl (Qad rfl) ?_
  refine Qav rfl rfl rfl (Quv rfl rfl) ?_
  refine Qdx rfl rfl rfl (Qgh Qz4 rfl (Xe8 _ (8) 8 (by decide) (by decide) _)) ?_
  rintro _ w4 ⟨rfl, Gw4⟩
  have z8 := Gw4.size
  refine Qav rfl rfl rfl (Qad rfl) ?_
  refine Qav rfl rfl rfl (Qau Qwr rfl rfl) ?_
  have B9 := (Bx.gr (Bx.gr Bw2 Gw3) Gw4)
  refine Qdx rfl rfl rfl (Qfb (Qf6).siz rfl rfl (by rfl) (by rfl) (by rfl) B9 (by rfl)) ?_
  rintro _ w5 ⟨Bw5, Mw5⟩
  have z10 := Mw5.size
  refine Qa1 ?_
  refine Qaf ?_
  have X11 : Gr w w5 := (Gr.md (Gr.trans (Gr.trans (Gr.trans (Gr.trans (Gr.refl w) Gw1) Gw2) Gw3) Gw4) Mw5 (by omega))
  refine ⟨_, _, rfl, Qke rfl Qf6 rfl Bw5 (by rfl), ?_⟩
  exact ⟨rfl, X11⟩
set_option maxHeartbeats 1000000 in
theorem Qxk (p : W2) (w : World) :
    Calls Tryz.prog 175 [kv p].toArray w fun e w' => ∃ v, e = .returned v ∧ (v = pv p ∧ Gr w w') := by
  refine Qa5 (R := fun v w' => v = pv p ∧ Gr w w') 29 Tryz.func175 rfl rfl rfl ?_
  refine Qa3 ?_
  refine Qar [(0, 0), (1, 0)] rfl rfl rfl ?_
  refine Qdx rfl rfl rfl (Qat rfl (by rfl)) ?_
  rintro _ w1 ⟨b1, rfl, hbw1, Bw1, Gw1⟩
  have z1 := Gw1.size
  have lt2 := Bw1.lt
  refine Qdx rfl rfl rfl (Qaa Qoa (by rfl)) ?_
  rintro _ w2 ⟨b2, rfl, hbw2, Bw2, Gw2⟩
  have z3 := Gw2.size
  have lt4 := Bw2.lt
  refine Qa1 ?_
  refine Qa3 ?_
  refine Qar [(0, 0)] rfl rfl rfl ?_
  refine Qdx rfl rfl rfl (Qaa Qoa (by rfl)) ?_
  rintro _ w3 ⟨b3, rfl, hbw3, Bw3, Gw3⟩
  have z5 := Gw3.size
  have lt6 := Bw3.lt
  refine Qa1 ?_
  refine Qa3 ?_
  refine Qa3 ?_
  refine Qar [(0, 0)] rfl rfl rfl ?_
  refine Qav rfl rfl rfl (Qad rfl) ?_
  refine Qa1 ?_
  refine Qao ?_
  have X7 : Gr w w3 := (Gr.trans (Gr.trans (Gr.trans (Gr.refl w) Gw1) Gw2) Gw3)
  refine Qbk (α := Nat) [4, 5, 6, 7, 8, 9, 10, 11, 12, 13, 14, 15, 16, 17, 18, 19, 20, 21, 22, 23, 24, 25, 26, 27] (fun k => [(5, .int .i64 (k : Int))]) (fun k wr => (k ≤ 8) ∧ Bx wr b3 233 ([wv (p.1 >>> (64 - 8 * k)), wv (p.2 >>> (64 - 8 * k))]) ∧ Kp [b3] w3 wr) (fun k => 8 - k) (0) ?_ ?_ ?_
  · repeat' first | exact trivial | refine ⟨rfl, ?_⟩
  · exact ⟨by omega, (by rw [Nat.mul_zero, Nat.sub_zero, Xbz, Xbz]; exact Bw3), Kp.refl _ _⟩
  rintro k w4 ⟨hk, Bw4_b3, Kw4⟩
  have z8 := Kw4.size
  refine Qa3 ?_
  refine Qar [(0, 0)] rfl rfl rfl ?_
  refine Qav rfl rfl rfl (Qc9 rfl rfl) ?_
  refine Qa1 ?_
  refine Qa3 ?_
  refine Qal rfl (fun h1 => ?_) (fun h1 => ?_)
  · -- h1 True
    replace h1 := of_decide_eq_true h1
    refine Qc5 ?_
    refine Qaz ?_
    refine Qa3 ?_
    refine Qao ?_
    refine Qa3 ?_
    refine Qar [(0, 0), (1, 0)] rfl rfl rfl ?_
    refine Qav rfl rfl rfl (Qad rfl) ?_
    refine Qav rfl rfl rfl (Qbh rfl) ?_
    refine Qa1 ?_
    refine Qth [b3] [(0, 3), (1, 1), (2, 3), (3, 3), (4, 3), (5, 3), (6, 3), (7, 3), (8, 3), (9, 1), (10, 3), (11, 3), (12, 3), (13, 3), (14, 3), (15, 3), (16, 3), (17, 3), (18, 2), (19, 3), (20, 2)] (by kernel_rfl) (by kernel_rfl) rfl (by kernel_rfl) ?_
    intro w5 Gw5 zw5
    refine Qeg rfl rfl rfl (Kp.refl [b3] w5) (fun w hS => Qa0 Qk6 rfl) ?_
    have B9 := (Bx.gr Bw4_b3 Gw5)
    refine Xh9 rfl rfl rfl (Gr.refl w5) (fun w hS => Qa2 Qb7 rfl (Bx.gr B9 hS) (by rfl)) ?_
    refine Qeg rfl rfl rfl (Kp.refl [b3] w5) (fun w hS => Qtt rfl rfl (by omega)) ?_
    refine Qeg rfl rfl rfl (Kp.refl [b3] w5) (fun w hS => Qad rfl) ?_
    refine Qeg rfl rfl rfl (Kp.refl [b3] w5) (fun w hS => Qf9 Tryz.underlying23 (Qcd).siz rfl rfl (by omega) (by omega)) ?_
    have B10 := (Bx.gr (Bx.kp (Bx.gr (Bx.gr Bw1 Gw2) Gw3) Kw4 (by simp <;> first | omega | (split <;> omega))) Gw5)
    refine Qeg rfl rfl rfl (Kp.refl [b3] w5) (fun w hS => Qa2 Qcd rfl (Bx.kp B10 hS (by simp <;> first | omega | (split <;> omega))) (by exact Xj4 p k (by omega))) ?_
    refine Qeg rfl rfl rfl (Kp.refl [b3] w5) (fun w hS => Qrb Qms rfl (Qx9 _ _) (by have := Xlt p.1 k; omega)) ?_
    refine Qeg rfl rfl rfl (Kp.refl [b3] w5) (fun w hS => Qsi rfl rfl) ?_
    refine Qeg rfl rfl rfl (Kp.refl [b3] w5) (fun w hS => Qa0 Qjk rfl) ?_
    refine Xh9 rfl rfl rfl (Gr.refl w5) (fun w hS => Qa2 Qb7 rfl (Bx.gr B9 hS) (by rfl)) ?_
    refine Qeg rfl rfl rfl (Kp.refl [b3] w5) (fun w hS => Qtt rfl rfl (by omega)) ?_
    refine Qeg rfl rfl rfl (Kp.refl [b3] w5) (fun w hS => Qad rfl) ?_
    refine Qeg rfl rfl rfl (Kp.refl [b3] w5) (fun w hS => Qej rfl rfl (by omega) (by omega)) ?_
    refine Qeg rfl rfl rfl (Kp.refl [b3] w5) (fun w hS => Qf9 Tryz.underlying23 (Qcd).siz rfl rfl (by omega) (by omega)) ?_
    refine Qeg rfl rfl rfl (Kp.refl [b3] w5) (fun w hS => Qa2 Qcd rfl (Bx.kp B10 hS (by simp <;> first | omega | (split <;> omega))) (by exact Xhy p k (by omega))) ?_
    refine Qeg rfl rfl rfl (Kp.refl [b3] w5) (fun w hS => Qrb Qms rfl (Qx9 _ _) (by have := Xlt p.2 k; omega)) ?_
    refine Qeg rfl rfl rfl (Kp.refl [b3] w5) (fun w hS => Qsi rfl rfl) ?_
    refine Qeg rfl rfl rfl (Kp.refl [b3] w5) (fun w hS => Qa0 Qk6 rfl) ?_
    refine Xa2 (b := b3) rfl rfl rfl rfl (Qn8 (Qb7).siz rfl rfl rfl B9 (by simp)) (by first | exact Or.inl (by simp) | exact Or.inr (by omega)) ?_
    rintro _ w6 ⟨Bw6, Mw6⟩
    have z11 := Mw6.size
    refine ⟨Mw6, ?_⟩
    have S12 := (Kp.md (Kp.refl [b3] w5) Mw6 (by first | exact Or.inl (by simp) | exact Or.inr (by omega)))
    refine Qeg rfl rfl rfl S12 (fun w hS => Qa0 Qjk rfl) ?_
    refine Xa2 (b := b3) rfl rfl rfl rfl (Qn8 (Qb7).siz rfl rfl rfl Bw6 (by simp)) (by first | exact Or.inl (by simp) | exact Or.inr (by omega)) ?_
    rintro _ w7 ⟨Bw7, Mw7⟩
    have z13 := Mw7.size
    refine ⟨Mw7, ?_⟩
    refine Qa9 ?_
    refine Qb1 ?_
    refine Qaz ?_
    refine Qar [(0, 0), (1, 0)] rfl rfl rfl ?_
    refine Qav rfl rfl rfl (Qej rfl rfl (by omega) (by omega)) ?_
    refine Qav rfl rfl rfl (Qad rfl) ?_
    refine Qa9 ?_
    have K_14 := (Kp.md (Kp.md (Kp.gr Kw4 Gw5) Mw6 (by simp <;> first | omega | (split <;> omega))) Mw7 (by simp <;> first | omega | (split <;> omega)))
    refine ⟨rfl, k + 1, ?_, ⟨?_, ?_, K_14⟩, ?_⟩
    · repeat' first | exact trivial | refine ⟨rfl, ?_⟩
    · omega
    · rw [← Qsu _ k (by omega), ← Qsu _ k (by omega)]; exact Bw7
    · first | omega | (dsimp only; omega)
  · -- h1 False
    replace h1 := of_decide_eq_false h1
    refine Qbq ?_
    refine Qb6 ?_
    refine Qb6 ?_
    refine Qbo ?_
    refine Qaz ?_
    refine Qa3 ?_
    refine Qar [(0, 0), (1, 0)] rfl rfl rfl ?_
    refine Qav rfl rfl rfl (Qa6 Qf6 rfl Bw4_b3 (by rfl)) ?_
    have B15 := (Bx.kp (Bx.gr Bw2 Gw3) Kw4 (by simp <;> first | omega | (split <;> omega)))
    refine Qdx rfl rfl rfl (Qfb (Qf6).siz rfl rfl (by rfl) (by rfl) (by rfl) B15 (by rfl)) ?_
    rintro _ w8 ⟨Bw8, Mw8⟩
    have z16 := Mw8.size
    refine Qa1 ?_
    refine Qaf ?_
    obtain rfl : k = 8 := by omega
    have X17 : Gr w w8 := (Gr.md (Gr.kp X7 Kw4 (by simp <;> first | omega | (split <;> omega))) Mw8 (by omega))
    refine ⟨_, _, rfl, Qke rfl Qf6 rfl Bw8 (by rfl), ?_⟩
    exact ⟨rfl, X17⟩
set_option maxHeartbeats 1000000 in
theorem Qye (p : W2) (w : World) :
    Calls Tryz.prog 178 [pv p].toArray w fun e w' => ∃ v, e = .returned v ∧ (v = kv p ∧ Gr w w') := by
  refine Qa5 (R := fun v w' => v = kv p ∧ Gr w w') 29 Tryz.func178 rfl rfl rfl ?_
  refine Qa3 ?_
  refine Qar [(0, 0), (1, 0)] rfl rfl rfl ?_
  refine Qdx rfl rfl rfl (Qat rfl (by rfl)) ?_
  rintro _ w1 ⟨b1, rfl, hbw1, Bw1, Gw1⟩
  have z1 := Gw1.size
  have lt2 := Bw1.lt
  refine Qdx rfl rfl rfl (Qaa Qef (by rfl)) ?_
  rintro _ w2 ⟨b2, rfl, hbw2, Bw2, Gw2⟩
  have z3 := Gw2.size
  have lt4 := Bw2.lt
  refine Qa1 ?_
  refine Qa3 ?_
  refine Qar [(0, 0)] rfl rfl rfl ?_
  refine Qdx rfl rfl rfl (Qaa Qef (by rfl)) ?_
  rintro _ w3 ⟨b3, rfl, hbw3, Bw3, Gw3⟩
  have z5 := Gw3.size
  have lt6 := Bw3.lt
  refine Qa1 ?_
  refine Qa3 ?_
  refine Qa3 ?_
  refine Qar [(0, 0)] rfl rfl rfl ?_
  refine Qav rfl rfl rfl (Qad rfl) ?_
  refine Qa1 ?_
  refine Qao ?_
  have X7 : Gr w w3 := (Gr.trans (Gr.trans (Gr.trans (Gr.refl w) Gw1) Gw2) Gw3)
  refine Qbk (α := Nat) [4, 5, 6, 7, 8, 9, 10, 11, 12, 13, 14, 15, 16, 17, 18, 19, 20, 21, 22, 23, 24, 25, 26, 27] (fun k => [(5, .int .i64 (k : Int))]) (fun k wr => (k ≤ 8) ∧ Bx wr b3 23 (Qut p k) ∧ Kp [b3] w3 wr) (fun k => 8 - k) (0) ?_ ?_ ?_
  · repeat' first | exact trivial | refine ⟨rfl, ?_⟩
  · exact ⟨by omega, (by rw [Xiz]; exact Bw3), Kp.refl _ _⟩
  rintro k w4 ⟨hk, Bw4_b3, Kw4⟩
  have z8 := Kw4.size
  refine Qa3 ?_
  refine Qar [(0, 0)] rfl rfl rfl ?_
  refine Qav rfl rfl rfl (Qc9 rfl rfl) ?_
  refine Qa1 ?_
  refine Qa3 ?_
  refine Qal rfl (fun h1 => ?_) (fun h1 => ?_)
  · -- h1 True
    replace h1 := of_decide_eq_true h1
    refine Qc5 ?_
    refine Qaz ?_
    refine Qa3 ?_
    refine Qao ?_
    refine Qa3 ?_
    refine Qar [(0, 0), (1, 0)] rfl rfl rfl ?_
    refine Qav rfl rfl rfl (Qad rfl) ?_
    refine Qav rfl rfl rfl (Qbh rfl) ?_
    refine Qa1 ?_
    refine Qth [b3] [(0, 3), (1, 3), (2, 3), (3, 3), (4, 3), (5, 3), (6, 3), (7, 3), (8, 3), (9, 3), (10, 3), (11, 3), (12, 3), (13, 3), (14, 3), (15, 3), (16, 3), (17, 3), (18, 2), (19, 3), (20, 2)] (by kernel_rfl) (by kernel_rfl) rfl (by kernel_rfl) ?_
    intro w5 Gw5 zw5
    refine Qeg rfl rfl rfl (Kp.refl [b3] w5) (fun w hS => Qad rfl) ?_
    refine Qeg rfl rfl rfl (Kp.refl [b3] w5) (fun w hS => Qad rfl) ?_
    refine Qeg rfl rfl rfl (Kp.refl [b3] w5) (fun w hS => Qej rfl rfl (by omega) (by omega)) ?_
    refine Qeg rfl rfl rfl (Kp.refl [b3] w5) (fun w hS => Qa0 Qk6 rfl) ?_
    have B9 := (Bx.gr (Bx.kp (Bx.gr (Bx.gr Bw1 Gw2) Gw3) Kw4 (by simp <;> first | omega | (split <;> omega))) Gw5)
    refine Qeg rfl rfl rfl (Kp.refl [b3] w5) (fun w hS => Qa2 Qb7 rfl (Bx.kp B9 hS (by simp <;> first | omega | (split <;> omega))) (by rfl)) ?_
    refine Qeg rfl rfl rfl (Kp.refl [b3] w5) (fun w hS => Qad rfl) ?_
    refine Qeg rfl rfl rfl (Kp.refl [b3] w5) (fun w hS => Qzc rfl rfl (by omega) (by omega)) ?_
    refine Qeg rfl rfl rfl (Kp.refl [b3] w5) (fun w hS => Qvg rfl rfl (by omega) (by omega)) ?_
    refine Qeg rfl rfl rfl (Kp.refl [b3] w5) (fun w hS => Quz rfl rfl (by omega)) ?_
    refine Qeg rfl rfl rfl (Kp.refl [b3] w5) (fun w hS => Qtr Qji rfl) ?_
    refine Qeg rfl rfl rfl (Kp.refl [b3] w5) (fun w hS => Qa0 Qjk rfl) ?_
    refine Qeg rfl rfl rfl (Kp.refl [b3] w5) (fun w hS => Qa2 Qb7 rfl (Bx.kp B9 hS (by simp <;> first | omega | (split <;> omega))) (by rfl)) ?_
    refine Qeg rfl rfl rfl (Kp.refl [b3] w5) (fun w hS => Qad rfl) ?_
    refine Qeg rfl rfl rfl (Kp.refl [b3] w5) (fun w hS => Qzc rfl rfl (by omega) (by omega)) ?_
    refine Qeg rfl rfl rfl (Kp.refl [b3] w5) (fun w hS => Qvg rfl rfl (by omega) (by omega)) ?_
    refine Qeg rfl rfl rfl (Kp.refl [b3] w5) (fun w hS => Quz rfl rfl (by omega)) ?_
    refine Qeg rfl rfl rfl (Kp.refl [b3] w5) (fun w hS => Qtr Qji rfl) ?_
    refine Qeg rfl rfl rfl (Kp.refl [b3] w5) (fun w hS => Qf9 Tryz.underlying23 (Qcd).siz rfl rfl (by omega) (by omega)) ?_
    have B10 := (Bx.gr Bw4_b3 Gw5)
    refine Xa2 (b := b3) rfl rfl rfl rfl (Qn8 (Qcd).siz rfl rfl rfl B10 (by rw [Qsd]; omega)) (by first | exact Or.inl (by simp) | exact Or.inr (by omega)) ?_
    rintro _ w6 ⟨Bw6, Mw6⟩
    have z11 := Mw6.size
    refine ⟨Mw6, ?_⟩
    have S12 := (Kp.md (Kp.refl [b3] w5) Mw6 (by first | exact Or.inl (by simp) | exact Or.inr (by omega)))
    refine Qeg rfl rfl rfl S12 (fun w hS => Qf9 Tryz.underlying23 (Qcd).siz rfl rfl (by omega) (by omega)) ?_
    refine Xa2 (b := b3) rfl rfl rfl rfl (Qn8 (Qcd).siz rfl rfl rfl Bw6 (by rw [List.length_set, Qsd]; omega)) (by first | exact Or.inl (by simp) | exact Or.inr (by omega)) ?_
    rintro _ w7 ⟨Bw7, Mw7⟩
    have z13 := Mw7.size
    refine ⟨Mw7, ?_⟩
    refine Qa9 ?_
    refine Qb1 ?_
    refine Qaz ?_
    refine Qar [(0, 0), (1, 0)] rfl rfl rfl ?_
    refine Qav rfl rfl rfl (Qej rfl rfl (by omega) (by omega)) ?_
    refine Qav rfl rfl rfl (Qad rfl) ?_
    refine Qa9 ?_
    have K_14 := (Kp.md (Kp.md (Kp.gr Kw4 Gw5) Mw6 (by simp <;> first | omega | (split <;> omega))) Mw7 (by simp <;> first | omega | (split <;> omega)))
    refine ⟨rfl, k + 1, ?_, ⟨?_, ?_, K_14⟩, ?_⟩
    · repeat' first | exact trivial | refine ⟨rfl, ?_⟩
    · omega
    · rw [← Xdf p k (by omega)]; exact Bw7
    · first | omega | (dsimp only; omega)
  · -- h1 False
    replace h1 := of_decide_eq_false h1
    refine Qbq ?_
    refine Qb6 ?_
    refine Qb6 ?_
    refine Qbo ?_
    refine Qaz ?_
    refine Qa3 ?_
    obtain rfl : k = 8 := by omega
    refine Qar [(0, 0), (1, 0)] rfl rfl rfl ?_
    refine Qav rfl rfl rfl (Qa6 Qai rfl Bw4_b3 (by rfl)) ?_
    have B15 := (Bx.kp (Bx.gr Bw2 Gw3) Kw4 (by simp <;> first | omega | (split <;> omega)))
    refine Qdx rfl rfl rfl (Qfb (Qai).siz rfl rfl (by rfl) (by rfl) (by rfl) B15 (by rfl)) ?_
    rintro _ w8 ⟨Bw8, Mw8⟩
    have z16 := Mw8.size
    refine Qa1 ?_
    refine Qaf ?_
    have X17 : Gr w w8 := (Gr.md (Gr.kp X7 Kw4 (by simp <;> first | omega | (split <;> omega))) Mw8 (by omega))
    refine ⟨_, _, rfl, Qke rfl Qai rfl Bw8 (by rfl), ?_⟩
    exact ⟨rfl, X17⟩
end Go.Proofs.YtjdffpglgkefmaaGreat

end
section
set_option linter.unusedVariables false
set_option linter.unusedSimpArgs false
namespace Go.Proofs.YtjdffpglgkefmaaGreat
open Go Go.RowKit Go.Sx
theorem Qwi : En Tryz.prog 175 := fun _ _ => by kernel_rfl
theorem Qf5 : CV Tryz.prog 3 24 .u64 := fun _ _ _ => by kernel_rfl
theorem Xgj : En Tryz.prog 177 := fun _ _ => by kernel_rfl
theorem Xh2 : En Tryz.prog 176 := fun _ _ => by kernel_rfl
theorem Xgn : En Tryz.prog 232 := fun _ _ => by kernel_rfl
theorem Qww : En Tryz.prog 178 := fun _ _ => by kernel_rfl
def Qsr (k : W2) : List (List Value) := (List.range 32).map fun (i : Nat) => [.int .i64 (i : Int), wv (ks k i).2]
theorem Qoj (k : W2) : (Qsr k).length = 32 := by simp [Qsr]
theorem Qwv (k : W2) (i : Nat) (h : i < 32) : (Qsr k)[i]? = some [.int .i64 (i : Int), wv (ks k i).2] := by simp [Qsr, h]
set_option maxHeartbeats 1000000 in
theorem Xbo (k : W2) (b : Nat) (w0 : World) (hb : Bx w0 b 23 (kb k)) :
    IT Tryz.prog 232 [.pointer (some ⟨b, 0, none⟩)] (Qsr k) [b] w0 := by
  intro l J Jx w fp hG hJ hJx hcap h0 hY
  have Bc0 := Bx.gr hb hG
  have lt1 := Bc0.lt
  refine Qa5 (R := fun v w' => Kp fp w w' ∧ ((∃ fp', (∀ c ∈ fp', c ∈ fp ∨ w.heap.size ≤ c) ∧ J (Qsr k).length fp' w') ∨ (∃ j fp', (∀ c ∈ fp', c ∈ fp ∨ w.heap.size ≤ c) ∧ j ≤ (Qsr k).length ∧ Jx j fp' w'))) 21 Tryz.func232 rfl rfl rfl ?_
  refine Qa3 ?_
  refine Qar [(0, 0), (1, 0), (2, 0), (3, 0)] rfl rfl rfl ?_
  refine Qav rfl rfl rfl (Qa6 Qai rfl Bc0 (by rfl)) ?_
  refine Qdx rfl rfl rfl (Qgh Qwi rfl (Qxk _ _)) ?_
  rintro _ w1 ⟨rfl, Gw1⟩
  have z2 := Gw1.size
  refine Qdx rfl rfl rfl (Qaa Qoa (by rfl)) ?_
  rintro _ w2 ⟨b2, rfl, hbw2, Bw2, Gw2⟩
  have z3 := Gw2.size
  have lt4 := Bw2.lt
  refine Qdx rfl rfl rfl (Qfb (Qf6).siz rfl rfl (by rfl) (by rfl) (by rfl) Bw2 (by rfl)) ?_
  rintro _ w3 ⟨Bw3, Mw3⟩
  have z5 := Mw3.size
  refine Qa1 ?_
  refine Qa3 ?_
  refine Qar [(0, 0)] rfl rfl rfl ?_
  refine Qav rfl rfl rfl (Qad rfl) ?_
  refine Qa1 ?_
  refine Qao ?_
  have hz0 : b2 ∉ fp := fun h => by have := hJ.lt h0 b2 h; omega
  have hk0 : Kp fp w w3 := ((Gr.toKp Gw1).gr Gw2).md Mw3 (.inr (by omega))
  have hj0 : J 0 fp w3 := hJ.md (hJ.gr (hJ.gr h0 Gw1) Gw2) Mw3 hz0
  have B6 := (Bx.md (Bx.gr (Bx.gr Bc0 Gw1) Gw2) Mw3 (by omega))
  refine Qbk (α := Nat) [4, 7, 8, 9, 10, 11, 12, 13, 14, 15, 16, 17, 18, 19, 20] (fun i => [(7, .int .i64 (i : Int))]) (fun i wr => (i ≤ 32 ∧ ∃ f, J i f wr ∧ Kp fp w wr ∧ (∀ c ∈ f, c ∈ fp ∨ w.heap.size ≤ c) ∧ b ∉ f ∧ b2 ∉ f) ∧ Bx wr b 23 (kb k) ∧ Bx wr b2 233 ([wv (ks k i).1, wv (ks k i).2]) ∧ True) (fun i => 32 - i) (0) ?_ ?_ ?_
  · repeat' first | exact trivial | refine ⟨rfl, ?_⟩
  · exact ⟨⟨by omega, fp, hj0, hk0, fun c hc => .inl hc, hcap b (by simp), hz0⟩, B6, Bw3, trivial⟩
  rintro i w4 ⟨⟨hi, f, hj, hk, hf, hbf, hpf⟩, Bw4_b, Bw4_b2, Kw4⟩
  have lt7 := Bw4_b.lt
  have lt8 := Bw4_b2.lt
  refine Qa3 ?_
  refine Qar [(0, 0)] rfl rfl rfl ?_
  refine Qav rfl rfl rfl (Qc9 rfl rfl) ?_
  refine Qa1 ?_
  refine Qa3 ?_
  refine Qal rfl (fun h1 => ?_) (fun h1 => ?_)
  · -- h1 True
    replace h1 := of_decide_eq_true h1
    refine Qc5 ?_
    refine Qaz ?_
    refine Qa3 ?_
    refine Qao ?_
    refine Qa3 ?_
    refine Qar [(0, 0), (1, 0)] rfl rfl rfl ?_
    refine Qav rfl rfl rfl (Qad rfl) ?_
    refine Qav rfl rfl rfl (Qbh rfl) ?_
    refine Qa1 ?_
    refine Qa3 ?_
    refine Qa3 ?_
    refine Qar [(0, 0), (1, 0), (2, 0), (3, 0), (4, 0), (5, 0)] rfl rfl rfl ?_
    refine Qav rfl rfl rfl (Qad rfl) ?_
    refine Qav rfl rfl rfl (Qad rfl) ?_
    refine Qav rfl rfl rfl (Qa0 Qjk rfl) ?_
    refine Qav rfl rfl rfl (Qa2 Qb7 rfl Bw4_b2 (by rfl)) ?_
    refine Qdx rfl rfl rfl (Qpm rfl rfl (hY i _ f _ (Qwv k i (by omega)) hj hk hf)) ?_
    rintro _ w5 ⟨y1, rfl, Kw5, fw5, Fw5, Jw5⟩
    have z9 := Kw5.size
    have hk5 : Kp fp w w5 := hk.trans Kw5 hf
    have hf5 := Qka hf Fw5 hk.size
    have hn2 : b2 ∉ fw5 := Qbb Fw5 hpf lt8
    refine Qav rfl rfl rfl (Qci rfl) ?_
    refine Qa1 ?_
    refine Qal rfl (fun h2 => ?_) (fun h2 => ?_)
    · -- h2 True
      replace h2 := Xjm h2
      subst h2
      refine Qaf ?_
      refine Qb2 ?_
      refine Qbl ?_
      refine Qb2 ?_
      refine Qb2 ?_
      refine Qbl ?_
      refine ⟨_, _, rfl, Qgk rfl, ?_⟩
      exact ⟨hk5, .inr ⟨i + 1, fw5, hf5, by rw [Qoj]; omega, Jw5⟩⟩
    · -- h2 False
      replace h2 := Xk4 h2
      subst h2
      refine Qc5 ?_
      refine Qaz ?_
      refine Qar [(0, 0), (1, 0), (2, 0), (3, 0), (4, 0)] rfl rfl rfl ?_
      have B10 := (Bx.kp Bw4_b2 Kw5 hpf)
      refine Qav rfl rfl rfl (Qa6 Qf6 rfl B10 (by rfl)) ?_
      refine Qav rfl rfl rfl (Qad rfl) ?_
      refine Qav rfl rfl rfl (Qrb Qf5 rfl (by omega) (by omega)) ?_
      refine Qdx rfl rfl rfl (Qgh Xgj rfl (Xdc _ _ _)) ?_
      rintro _ w6 ⟨rfl, Gw6⟩
      have z11 := Gw6.size
      have B12 := (Bx.gr B10 Gw6)
      refine Qdx rfl rfl rfl (Qfb (Qf6).siz rfl rfl (by rfl) (by rfl) (by rfl) B12 (by rfl)) ?_
      rintro _ w7 ⟨Bw7, Mw7⟩
      have z13 := Mw7.size
      refine Qa9 ?_
      refine Qb1 ?_
      refine Qaz ?_
      refine Qar [(0, 0), (1, 0)] rfl rfl rfl ?_
      refine Qav rfl rfl rfl (Qej rfl rfl (by omega) (by omega)) ?_
      refine Qav rfl rfl rfl (Qad rfl) ?_
      refine Qa9 ?_
      have B15 := (Bx.md (Bx.gr (Bx.kp Bw4_b Kw5 hbf) Gw6) Mw7 (by omega))
      refine ⟨rfl, i + 1, ?_, ⟨?_, ?_, ?_, trivial⟩, ?_⟩
      · repeat' first | exact trivial | refine ⟨rfl, ?_⟩
      · exact ⟨by omega, fw5, hJ.md (hJ.gr Jw5 Gw6) Mw7 hn2, (hk5.gr Gw6).md Mw7 (.inr (by omega)), hf5, Qbb Fw5 hbf lt7, hn2⟩
      · exact B15
      · exact Bw7
      · first | omega | (dsimp only; omega)
  · -- h1 False
    replace h1 := of_decide_eq_false h1
    refine Qbq ?_
    refine Qb6 ?_
    refine Qb6 ?_
    refine Qbo ?_
    refine ⟨_, _, rfl, Qgk rfl, ?_⟩
    obtain rfl : i = 32 := by omega
    exact ⟨hk, .inl ⟨f, hf, by rw [Qoj]; exact hj⟩⟩
set_option maxHeartbeats 1000000 in
theorem Xgy (k : W2) (w : World) :
    Calls Tryz.prog 176 [kv k].toArray w fun e w' => ∃ v, e = .returned v ∧ (∃ b, v = .func (.func 232) #[] [.pointer (some ⟨b, 0, none⟩)].toArray ∧ w.heap.size ≤ b ∧ Bx w' b 23 (kb k) ∧ Gr w w') := by
  refine Qa5 (R := fun v w' => ∃ b, v = .func (.func 232) #[] [.pointer (some ⟨b, 0, none⟩)].toArray ∧ w.heap.size ≤ b ∧ Bx w' b 23 (kb k) ∧ Gr w w') 4 Tryz.func176 rfl rfl rfl ?_
  refine Qa3 ?_
  refine Qar [(0, 0), (1, 0)] rfl rfl rfl ?_
  refine Qdx rfl rfl rfl (Qat rfl (by rfl)) ?_
  rintro _ w1 ⟨b1, rfl, hbw1, Bw1, Gw1⟩
  have z1 := Gw1.size
  have lt2 := Bw1.lt
  refine Qav rfl rfl rfl (Qbh rfl) ?_
  refine Qa1 ?_
  refine Qa3 ?_
  refine Qar [(0, 0), (1, 0)] rfl rfl rfl ?_
  refine Qav rfl rfl rfl (Qdf rfl rfl) ?_
  refine Qav rfl rfl rfl (Qbh rfl) ?_
  refine Qa1 ?_
  refine Qaf ?_
  have X3 : Gr w w1 := (Gr.trans (Gr.refl w) Gw1)
  refine ⟨_, _, rfl, Qli rfl rfl, ?_⟩
  exact ⟨b1, rfl, hbw1, Bw1, X3⟩
def Xc2 (k b : W2) (n : Nat) : W2 := (List.range n).foldl (fun p i => rnd p (ks k i).2) b
theorem Xa4 (k b : W2) (n : Nat) : Xc2 k b (n + 1) = rnd (Xc2 k b n) (ks k n).2 := by simp [Xc2, List.range_succ]
theorem Qug {k : W2} {i : Nat} {x : List Value} (h : (Qsr k)[i]? = some x) : i < 32 ∧ x = [.int .i64 (i : Int), wv (ks k i).2] := by
  have hi : i < 32 := by have := (List.getElem?_eq_some_iff.1 h).1; rwa [Qoj] at this
  rw [Qwv k i hi] at h; exact ⟨hi, by simpa using h.symm⟩
theorem Qx4 (k : W2) : ∀ x ∈ Qsr k, x.length = 2 := by intro x hx; simp [Qsr] at hx; obtain ⟨i, _, rfl⟩ := hx; rfl
set_option maxHeartbeats 1000000 in
theorem Qx0 (k b : W2) (w : World) :
    Calls Tryz.prog 96 [kv k, kv b].toArray w fun e w' => ∃ v, e = .returned v ∧ (v = kv (Qy8 k b) ∧ Gr w w') := by
  refine Qa5 (R := fun v w' => v = kv (Qy8 k b) ∧ Gr w w') 19 Tryz.func96 rfl rfl rfl ?_
  refine Qa3 ?_
  refine Qar [(0, 0), (1, 0), (2, 0)] rfl rfl rfl ?_
  refine Qdx rfl rfl rfl (Qat rfl (by rfl)) ?_
  rintro _ w1 ⟨b1, rfl, hbw1, Bw1, Gw1⟩
  have z1 := Gw1.size
  have lt2 := Bw1.lt
  refine Qdx rfl rfl rfl (Qat rfl (by rfl)) ?_
  rintro _ w2 ⟨b2, rfl, hbw2, Bw2, Gw2⟩
  have z3 := Gw2.size
  have lt4 := Bw2.lt
  refine Qdx rfl rfl rfl (Qaa Qef (by rfl)) ?_
  rintro _ w3 ⟨b3, rfl, hbw3, Bw3, Gw3⟩
  have z5 := Gw3.size
  have lt6 := Bw3.lt
  refine Qa1 ?_
  refine Qa3 ?_
  refine Qar [(0, 0), (1, 0), (2, 0), (3, 0)] rfl rfl rfl ?_
  have B7 := (Bx.gr Bw2 Gw3)
  refine Qav rfl rfl rfl (Qa6 Qai rfl B7 (by rfl)) ?_
  refine Qdx rfl rfl rfl (Qgh Qwi rfl (Qxk _ _)) ?_
  rintro _ w4 ⟨rfl, Gw4⟩
  have z8 := Gw4.size
  refine Qdx rfl rfl rfl (Qaa Qoa (by rfl)) ?_
  rintro _ w5 ⟨b5, rfl, hbw5, Bw5, Gw5⟩
  have z9 := Gw5.size
  have lt10 := Bw5.lt
  refine Qdx rfl rfl rfl (Qfb (Qf6).siz rfl rfl (by rfl) (by rfl) (by rfl) Bw5 (by rfl)) ?_
  rintro _ w6 ⟨Bw6, Mw6⟩
  have z11 := Mw6.size
  refine Qa1 ?_
  refine Qa3 ?_
  refine Qa3 ?_
  refine Qar [(0, 0), (1, 0)] rfl rfl rfl ?_
  have B12 := (Bx.md (Bx.gr (Bx.gr (Bx.gr (Bx.gr Bw1 Gw2) Gw3) Gw4) Gw5) Mw6 (by omega))
  refine Qav rfl rfl rfl (Qa6 Qai rfl B12 (by rfl)) ?_
  refine Qdx rfl rfl rfl (Qgh Xh2 rfl (Xgy _ _)) ?_
  rintro _ w7 ⟨b7, rfl, hb7, Bk7, Gw7⟩
  have z13 := Gw7.size
  have lt14 := Bk7.lt
  refine Qa1 ?_
  refine Qao ?_
  have X15 : Gr w w7 := (Gr.trans (Gr.md (Gr.trans (Gr.trans (Gr.trans (Gr.trans (Gr.trans (Gr.refl w) Gw1) Gw2) Gw3) Gw4) Gw5) Mw6 (by omega)) Gw7)
  have B16 := (Bx.gr Bw6 Gw7)
  refine Qhg (gf := 232) (xs := Qsr k) (cap := [b7]) rfl Xgn (Xbo k b7 _ Bk7) (Qx4 k) rfl (fun rk fp W => fp = [b5] ∧ Bx W b5 233 ([wv (Xc2 k b rk).1, wv (Xc2 k b rk).2])) (fun _ _ _ _ => False) [b5] (Xdr _ _ _) (fun _ => Qoi) (by simp <;> omega) (⟨rfl, B16⟩) ?_ ?_ ?_
  · rintro l rk x fp w8 hl hx ⟨rfl, Bw8⟩ Kw8 hF hln hlt
    have z17 := Kw8.size
    obtain ⟨hi, rfl⟩ := Qug hx
    refine Qar [(0, 0)] rfl rfl rfl ?_
    refine Qav rfl rfl rfl (Qbh rfl) ?_
    refine Qa9 ?_
    refine ⟨rfl, (Gr.refl _), ?_⟩
    rintro w9 Mw9 ⟨_, Bw9⟩
    have z18 := Mw9.size
    refine Qao ?_
    refine Qar [(0, 0), (1, 0), (2, 0), (3, 0)] rfl rfl rfl ?_
    refine Qav rfl rfl rfl (Qa6 Qf6 rfl Bw9 (by rfl)) ?_
    refine Qav rfl rfl rfl (Qad rfl) ?_
    refine Qdx rfl rfl rfl (Qgh Xgj rfl (Xdc _ _ _)) ?_
    rintro _ w10 ⟨rfl, Gw10⟩
    have z19 := Gw10.size
    have B20 := (Bx.gr Bw9 Gw10)
    refine Qdx rfl rfl rfl (Qfb (Qf6).siz rfl rfl (by rfl) (by rfl) (by rfl) B20 (by rfl)) ?_
    rintro _ w11 ⟨Bw11, Mw11⟩
    have z21 := Mw11.size
    refine Qa9 ?_
    refine Qb1 ?_
    refine ⟨(Kp.md (Kp.gr (Kp.refl _ _) Gw10) Mw11 (by first | exact Or.inl (by simp) | exact Or.inr (by omega))), _, fun c hc => .inl hc, ?_⟩
    exact ⟨rfl, by rw [Xa4]; exact Bw11⟩
  · rintro Dw12 fp w12 hDw12 Dfw12 nw12 ⟨rfl, Bw12⟩ Kw12
    have z22 := Kw12.size
    have lt22 := Df.lt (w := w12) Dfw12
    rw [Qoj] at Bw12
    refine Qb1 ?_
    refine Qaz ?_
    refine Qa3 ?_
    refine Qar [(0, 0), (1, 0), (2, 0)] rfl rfl rfl ?_
    refine Qav rfl rfl rfl (Qa6 Qf6 rfl Bw12 (by rfl)) ?_
    refine Qdx rfl rfl rfl (Qgh Qww rfl (Qye _ _)) ?_
    rintro _ w13 ⟨rfl, Gw13⟩
    have z23 := Gw13.size
    have B24 := (Bx.gr (Bx.kp (Bx.gr (Bx.md (Bx.gr (Bx.gr Bw3 Gw4) Gw5) Mw6 (by omega)) Gw7) Kw12 (by simp <;> first | omega | (split <;> omega))) Gw13)
    refine Qdx rfl rfl rfl (Qfb (Qai).siz rfl rfl (by rfl) (by rfl) (by rfl) B24 (by rfl)) ?_
    rintro _ w14 ⟨Bw14, Mw14⟩
    have z25 := Mw14.size
    refine Qa1 ?_
    refine Qaf ?_
    have DL26 := (Df.md (Df.gr Dfw12 Gw13) Mw14 (by omega))
    have L26 := Md.put (w := w14) Dw12 (.deferred none)
    have zL26 := L26.size
    have B27 := (Bx.md Bw14 L26 (by omega))
    have X28 : Gr w (w14.putObj Dw12 (.deferred none)) := (Gr.md (Gr.md (Gr.trans (Gr.kp X15 Kw12 (by simp <;> first | omega | (split <;> omega))) Gw13) Mw14 (by omega)) L26 (by omega))
    refine ⟨_, _, ⟨Dw12, rfl, DL26, rfl⟩, Qke rfl Qai rfl B27 (by rfl), ?_⟩
    exact ⟨rfl, X28⟩
  · rintro _ _ _ _ _ _ _ _ _ h _
    exact h.elim
end Go.Proofs.YtjdffpglgkefmaaGreat

end
section
set_option linter.unusedVariables false
set_option linter.unusedSimpArgs false
namespace Go.Proofs.YtjdffpglgkefmaaGreat
open Go Go.RowKit Go.Sx
theorem Xhu : En Tryz.prog 97 := fun _ _ => by kernel_rfl
theorem Xa8 : En Tryz.prog 96 := fun _ _ => by kernel_rfl
theorem Xlp : ZV Tryz.prog 247 (.agg [.int .u64 0, .int .u64 0, .int .u64 0, .int .u64 0, .int .u64 0, .int .u64 0, .int .u64 0, .int .u64 0, .int .u64 0, .int .u64 0, .int .u64 0, .int .u64 0, .int .u64 0, .int .u64 0, .int .u64 0, .int .u64 0, .int .u64 0, .int .u64 0, .int .u64 0, .int .u64 0, .int .u64 0, .int .u64 0, .int .u64 0, .int .u64 0, .int .u64 0, .int .u64 0, .int .u64 0, .int .u64 0, .int .u64 0, .int .u64 0, .int .u64 0, .int .u64 0].toArray) := fun _ => by kernel_rfl
theorem Xl8 : En Tryz.prog 186 := fun _ _ => by kernel_rfl
set_option maxHeartbeats 1000000 in
theorem Xb2 (tag : Int) (h0 : 0 ≤ tag) (h1 : tag ≤ 255) (c n : BitVec 64) (w : World) :
    Calls Tryz.prog 97 [.int .u8 tag, wv c, wv n].toArray w fun e w' => ∃ v, e = .returned v ∧ (v = kv (blk tag c n) ∧ Gr w w') := by
  refine Qa5 (R := fun v w' => v = kv (blk tag c n) ∧ Gr w w') 15 Tryz.func97 rfl rfl rfl ?_
  refine Qa3 ?_
  refine Qar [(0, 0)] rfl rfl rfl ?_
  refine Qdx rfl rfl rfl (Qaa Qef (by rfl)) ?_
  rintro _ w1 ⟨b1, rfl, hbw1, Bw1, Gw1⟩
  have z1 := Gw1.size
  have lt2 := Bw1.lt
  refine Qa1 ?_
  refine Qa3 ?_
  refine Qar [(0, 0), (1, 0), (2, 0), (3, 0), (4, 0), (5, 0), (6, 0), (7, 0), (8, 0)] rfl rfl rfl ?_
  refine Qav rfl rfl rfl (Qad rfl) ?_
  refine Qav rfl rfl rfl (Qrb Qms rfl (by omega) (by omega)) ?_
  refine Qav rfl rfl rfl (Qtt rfl rfl (by omega)) ?_
  refine Qav rfl rfl rfl (Qad rfl) ?_
  refine Qav rfl rfl rfl (Qsi rfl rfl) ?_
  refine Qav rfl rfl rfl (Qad rfl) ?_
  refine Qav rfl rfl rfl (Qau Qwr rfl rfl) ?_
  refine Qdx rfl rfl rfl (Qgh Qww rfl (Qye (blk tag c n) _)) ?_
  rintro _ w2 ⟨rfl, Gw2⟩
  have z3 := Gw2.size
  have B4 := (Bx.gr Bw1 Gw2)
  refine Qdx rfl rfl rfl (Qfb (Qai).siz rfl rfl (by rfl) (by rfl) (by rfl) B4 (by rfl)) ?_
  rintro _ w3 ⟨Bw3, Mw3⟩
  have z5 := Mw3.size
  refine Qa1 ?_
  refine Qaf ?_
  have X6 : Gr w w3 := (Gr.md (Gr.trans (Gr.trans (Gr.refl w) Gw1) Gw2) Mw3 (by omega))
  refine ⟨_, _, rfl, Qke rfl Qai rfl Bw3 (by rfl), ?_⟩
  exact ⟨rfl, X6⟩
set_option maxHeartbeats 1000000 in
theorem Qei (k : W2) (tag : Int) (h0 : 0 ≤ tag) (h1 : tag ≤ 255) (n : BitVec 64) (w : World) :
    Calls Tryz.prog 48 [kv k, .int .u8 tag, wv n].toArray w fun e w' => ∃ v, e = .returned v ∧ (v = kv (drv k tag n) ∧ Gr w w') := by
  refine Qa5 (R := fun v w' => v = kv (drv k tag n) ∧ Gr w w') 12 Tryz.func48 rfl rfl rfl ?_
  refine Qa3 ?_
  refine Qar [(0, 0), (1, 0)] rfl rfl rfl ?_
  refine Qdx rfl rfl rfl (Qat rfl (by rfl)) ?_
  rintro _ w1 ⟨b1, rfl, hbw1, Bw1, Gw1⟩
  have z1 := Gw1.size
  have lt2 := Bw1.lt
  refine Qdx rfl rfl rfl (Qaa Qef (by rfl)) ?_
  rintro _ w2 ⟨b2, rfl, hbw2, Bw2, Gw2⟩
  have z3 := Gw2.size
  have lt4 := Bw2.lt
  refine Qa1 ?_
  refine Qa3 ?_
  refine Qth [b2] [(0, 3), (1, 3), (2, 3), (3, 0), (4, 0), (5, 2)] (by kernel_rfl) (by kernel_rfl) rfl (by kernel_rfl) ?_
  intro w3 Gw3 zw3
  have B5 := (Bx.gr (Bx.gr Bw1 Gw2) Gw3)
  refine Qeg rfl rfl rfl (Kp.refl [b2] w3) (fun w hS => Qa6 Qai rfl (Bx.kp B5 hS (by simp <;> first | omega | (split <;> omega))) (by rfl)) ?_
  refine Qeg rfl rfl rfl (Kp.refl [b2] w3) (fun w hS => Qad rfl) ?_
  refine Qeg rfl rfl rfl (Kp.refl [b2] w3) (fun w hS => Qad rfl) ?_
  refine Xf2 rfl rfl rfl (Qgh Xhu rfl (Xb2 _ (by omega) (by omega) 0#64 _ _)) ?_
  rintro _ w4 ⟨rfl, Gw4⟩
  have z6 := Gw4.size
  refine ⟨Gw4, ?_⟩
  refine Xf2 rfl rfl rfl (Qgh Xa8 rfl (Qx0 _ _ _)) ?_
  rintro _ w5 ⟨rfl, Gw5⟩
  have z7 := Gw5.size
  refine ⟨Gw5, ?_⟩
  have B8 := (Bx.gr (Bx.gr (Bx.gr Bw2 Gw3) Gw4) Gw5)
  refine Xa2 (b := b2) rfl rfl rfl rfl (Qfb (Qai).siz rfl rfl (by rfl) (by rfl) (by rfl) B8 (by rfl)) (by first | exact Or.inl (by simp) | exact Or.inr (by omega)) ?_
  rintro _ w6 ⟨Bw6, Mw6⟩
  have z9 := Mw6.size
  refine ⟨Mw6, ?_⟩
  refine Qa1 ?_
  refine Qaf ?_
  have X10 : Gr w w6 := (Gr.md (Gr.trans (Gr.trans (Gr.trans (Gr.trans (Gr.trans (Gr.refl w) Gw1) Gw2) Gw3) Gw4) Gw5) Mw6 (by omega))
  refine ⟨_, _, rfl, Qke rfl Qai rfl Bw6 (by rfl), ?_⟩
  exact ⟨rfl, X10⟩
def Xeq (k : W2) (n : Nat) : List Value := (List.range 32).map fun i => if i < n then wv (ks k i).2 else .int .u64 0
theorem Xe2 (k : W2) (n : Nat) : (Xeq k n).length = 32 := by simp [Xeq]
theorem Xki (k : W2) : Xeq k 0 = List.replicate 32 (.int .u64 0) := by rfl
theorem Xem (k : W2) (n : Nat) (h : n < 32) : (Xeq k n).set (0 + (n : Int).toNat * 1) (wv (ks k n).2) = Xeq k (n + 1) := by
  have e : 0 + (n : Int).toNat * 1 = n := by omega
  rw [e]
  apply List.ext_getElem?
  intro i
  rw [List.getElem?_set]
  unfold Xeq
  by_cases hi : i < 32
  · by_cases h2 : n = i
    · subst h2; simp [h]
    · have : (i < n + 1) = (i < n) := by apply propext; omega
      simp [h2, hi, this]
  · simp [hi]; omega
theorem Xf4 (k : W2) (n : Nat) (h : n < 32) : (Xeq k 32)[0 + ((n : Int) + 1 - 1).toNat * 1]? = some (wv (ks k n).2) := by
  have e : 0 + ((n : Int) + 1 - 1).toNat * 1 = n := by omega
  rw [e]; simp [Xeq, h]
theorem Xa5 (k b : W2) (j : Nat) (h : j < 32) : Xan k b j = Xmk (Xan k b (j + 1)) (ks k j).2 := by
  unfold Xan
  rw [show 32 - j = 32 - (j + 1) + 1 from by omega, List.range_succ, List.foldl_append, List.foldl_cons, List.foldl_nil, show 31 - (32 - (j + 1)) = j from by omega]
set_option maxHeartbeats 1000000 in
theorem Qze (k b : W2) (w : World) :
    Calls Tryz.prog 111 [kv k, kv b].toArray w fun e w' => ∃ v, e = .returned v ∧ (v = kv (Xdv k b) ∧ Gr w w') := by
  refine Qa5 (R := fun v w' => v = kv (Xdv k b) ∧ Gr w w') 30 Tryz.func111 rfl rfl rfl ?_
  refine Qa3 ?_
  refine Qar [(0, 0), (1, 0), (2, 0)] rfl rfl rfl ?_
  refine Qdx rfl rfl rfl (Qat rfl (by rfl)) ?_
  rintro _ w1 ⟨b1, rfl, hbw1, Bw1, Gw1⟩
  have z1 := Gw1.size
  have lt2 := Bw1.lt
  refine Qdx rfl rfl rfl (Qat rfl (by rfl)) ?_
  rintro _ w2 ⟨b2, rfl, hbw2, Bw2, Gw2⟩
  have z3 := Gw2.size
  have lt4 := Bw2.lt
  refine Qdx rfl rfl rfl (Qaa Qef (by rfl)) ?_
  rintro _ w3 ⟨b3, rfl, hbw3, Bw3, Gw3⟩
  have z5 := Gw3.size
  have lt6 := Bw3.lt
  refine Qa1 ?_
  refine Qa3 ?_
  refine Qar [(0, 0)] rfl rfl rfl ?_
  refine Qdx rfl rfl rfl (Qaa Xlp (by rfl)) ?_
  rintro _ w4 ⟨b4, rfl, hbw4, Bw4, Gw4⟩
  have z7 := Gw4.size
  have lt8 := Bw4.lt
  refine Qa1 ?_
  refine Qa3 ?_
  refine Qa3 ?_
  refine Qar [(0, 0), (1, 0)] rfl rfl rfl ?_
  have B9 := (Bx.gr (Bx.gr (Bx.gr Bw1 Gw2) Gw3) Gw4)
  refine Qav rfl rfl rfl (Qa6 Qai rfl B9 (by rfl)) ?_
  refine Qdx rfl rfl rfl (Qgh Xh2 rfl (Xgy _ _)) ?_
  rintro _ w5 ⟨b5, rfl, hb5, Bk5, Gw5⟩
  have z10 := Gw5.size
  have lt11 := Bk5.lt
  refine Qa1 ?_
  refine Qao ?_
  have X12 : Gr w w5 := (Gr.trans (Gr.trans (Gr.trans (Gr.trans (Gr.trans (Gr.refl w) Gw1) Gw2) Gw3) Gw4) Gw5)
  have B13 := (Bx.gr Bw4 Gw5)
  refine Qhg (gf := 232) (xs := Qsr k) (cap := [b5]) rfl Xgn (Xbo k b5 _ Bk5) (Qx4 k) rfl (fun rk fp W => fp = [b4] ∧ Bx W b4 247 (Xeq k rk)) (fun _ _ _ _ => False) [b4] (Xdr _ _ _) (fun _ => Qoi) (by simp <;> omega) (⟨rfl, by rw [Xki]; exact B13⟩) ?_ ?_ ?_
  · rintro l rk x fp w6 hl hx ⟨rfl, Bw6⟩ Kw6 hF hln hlt
    have z14 := Kw6.size
    obtain ⟨hi, rfl⟩ := Qug hx
    refine Qa3 ?_
    refine Qar [(0, 0)] rfl rfl rfl ?_
    refine Qav rfl rfl rfl (Qbh rfl) ?_
    refine Qa1 ?_
    refine Qar [(0, 0)] rfl rfl rfl ?_
    refine Qav rfl rfl rfl (Qbh rfl) ?_
    refine Qa9 ?_
    refine ⟨rfl, (Gr.refl _), ?_⟩
    rintro w7 Mw7 ⟨_, Bw7⟩
    have z15 := Mw7.size
    refine Qao ?_
    refine Qar [(0, 0), (1, 0), (2, 0), (3, 0)] rfl rfl rfl ?_
    refine Qav rfl rfl rfl (Qad rfl) ?_
    refine Qav rfl rfl rfl (Qad rfl) ?_
    refine Qav rfl rfl rfl (Qf9 Tryz.underlying247 (Qb7).siz rfl rfl (by omega) (by omega)) ?_
    refine Qdx rfl rfl rfl (Qn8 (Qb7).siz rfl rfl rfl Bw7 (by rw [Xe2]; omega)) ?_
    rintro _ w8 ⟨Bw8, Mw8⟩
    have z16 := Mw8.size
    refine Qa9 ?_
    refine Qb1 ?_
    refine ⟨(Kp.md (Kp.refl _ _) Mw8 (by first | exact Or.inl (by simp) | exact Or.inr (by omega))), _, fun c hc => .inl hc, ?_⟩
    exact ⟨rfl, by rw [← Xem k rk hi]; exact Bw8⟩
  · rintro Dw9 fp w9 hDw9 Dfw9 nw9 ⟨rfl, Bw9⟩ Kw9
    have z17 := Kw9.size
    have lt17 := Df.lt (w := w9) Dfw9
    rw [Qoj] at Bw9
    refine Qb1 ?_
    refine Qaz ?_
    refine Qa3 ?_
    refine Qar [(0, 0), (1, 0), (2, 0), (3, 0)] rfl rfl rfl ?_
    have B18 := (Bx.kp (Bx.gr (Bx.gr (Bx.gr Bw2 Gw3) Gw4) Gw5) Kw9 (by simp <;> first | omega | (split <;> omega)))
    refine Qav rfl rfl rfl (Qa6 Qai rfl B18 (by rfl)) ?_
    refine Qdx rfl rfl rfl (Qgh Qwi rfl (Qxk _ _)) ?_
    rintro _ w10 ⟨rfl, Gw10⟩
    have z19 := Gw10.size
    refine Qdx rfl rfl rfl (Qaa Qoa (by rfl)) ?_
    rintro _ w11 ⟨b11, rfl, hbw11, Bw11, Gw11⟩
    have z20 := Gw11.size
    have lt21 := Bw11.lt
    refine Qdx rfl rfl rfl (Qfb (Qf6).siz rfl rfl (by rfl) (by rfl) (by rfl) Bw11 (by rfl)) ?_
    rintro _ w12 ⟨Bw12, Mw12⟩
    have z22 := Mw12.size
    refine Qa1 ?_
    refine Qa3 ?_
    refine Qa3 ?_
    refine Qar [(0, 0)] rfl rfl rfl ?_
    refine Qav rfl rfl rfl (Qbh rfl) ?_
    refine Qa1 ?_
    refine Qao ?_
    have X23 : Gr w w12 := (Gr.md (Gr.trans (Gr.trans (Gr.kp X12 Kw9 (by simp <;> first | omega | (split <;> omega))) Gw10) Gw11) Mw12 (by omega))
    refine Qbk (α := Nat) [9, 19, 20, 21, 22, 23, 24, 25, 26, 27] (fun j => [(9, .int .i64 ((j : Int) - 1))]) (fun j wr => (j ≤ 32) ∧ Bx wr b11 233 ([wv (Xan k b j).1, wv (Xan k b j).2]) ∧ Kp [b11] w12 wr) (fun j => j) (32) ?_ ?_ ?_
    · repeat' first | exact trivial | refine ⟨rfl, ?_⟩
    · exact ⟨Nat.le_refl _, Bw12, Kp.refl _ _⟩
    rintro j w13 ⟨hj, Bw13_b11, Kw13⟩
    have z24 := Kw13.size
    refine Qa3 ?_
    refine Qa3 ?_
    refine Qar [(0, 0), (1, 0)] rfl rfl rfl ?_
    refine Qav rfl rfl rfl (Qad rfl) ?_
    refine Qav rfl rfl rfl (Qdy rfl rfl) ?_
    refine Qa1 ?_
    refine Qal rfl (fun h1 => ?_) (fun h1 => ?_)
    · -- h1 True
      replace h1 := of_decide_eq_true h1
      obtain ⟨j, rfl⟩ : ∃ i, j = i + 1 := ⟨j - 1, by omega⟩
      refine Qc5 ?_
      refine Qaz ?_
      refine Qa3 ?_
      refine Qao ?_
      refine Qth [b11] [(0, 1), (1, 3), (2, 3), (3, 3), (4, 0), (5, 2)] (by kernel_rfl) (by kernel_rfl) rfl (by kernel_rfl) ?_
      intro w14 Gw14 zw14
      have B25 := (Bx.gr Bw13_b11 Gw14)
      refine Xh9 rfl rfl rfl (Gr.refl w14) (fun w hS => Qa6 Qf6 rfl (Bx.gr B25 hS) (by rfl)) ?_
      refine Qeg rfl rfl rfl (Kp.refl [b11] w14) (fun w hS => Qad rfl) ?_
      refine Qeg rfl rfl rfl (Kp.refl [b11] w14) (fun w hS => Qf9 Tryz.underlying247 (Qb7).siz rfl rfl (by omega) (by omega)) ?_
      have B26 := (Bx.gr (Bx.kp (Bx.md (Bx.gr (Bx.gr Bw9 Gw10) Gw11) Mw12 (by omega)) Kw13 (by simp <;> first | omega | (split <;> omega))) Gw14)
      refine Qeg rfl rfl rfl (Kp.refl [b11] w14) (fun w hS => Qa2 Qb7 rfl (Bx.kp B26 hS (by simp <;> first | omega | (split <;> omega))) (by exact Xf4 k j (by omega))) ?_
      refine Xf2 rfl rfl rfl (Qgh Xl8 rfl (Xm0 _ _ _)) ?_
      rintro _ w15 ⟨rfl, Gw15⟩
      have z27 := Gw15.size
      refine ⟨Gw15, ?_⟩
      have B28 := (Bx.gr B25 Gw15)
      refine Xa2 (b := b11) rfl rfl rfl rfl (Qfb (Qf6).siz rfl rfl (by rfl) (by rfl) (by rfl) B28 (by rfl)) (by first | exact Or.inl (by simp) | exact Or.inr (by omega)) ?_
      rintro _ w16 ⟨Bw16, Mw16⟩
      have z29 := Mw16.size
      refine ⟨Mw16, ?_⟩
      refine Qa9 ?_
      refine Qb1 ?_
      refine Qaz ?_
      refine Qar [(0, 0), (1, 0), (2, 0)] rfl rfl rfl ?_
      refine Qav rfl rfl rfl (Qad rfl) ?_
      refine Qav rfl rfl rfl (Qvg rfl rfl (by omega) (by omega)) ?_
      refine Qav rfl rfl rfl (Qbh rfl) ?_
      refine Qa9 ?_
      have K_30 := (Kp.md (Kp.gr (Kp.gr Kw13 Gw14) Gw15) Mw16 (by simp <;> first | omega | (split <;> omega)))
      refine ⟨rfl, j, ?_, ⟨?_, ?_, K_30⟩, ?_⟩
      · repeat' first | exact trivial | refine ⟨by first | rfl | exact congrArg (fun x => some (Value.int .i64 x)) (by omega), ?_⟩
      · omega
      · rw [Xa5 k b j (by omega)]; exact Bw16
      · first | omega | (dsimp only; omega)
    · -- h1 False
      replace h1 := of_decide_eq_false h1
      obtain rfl : j = 0 := by omega
      refine Qbq ?_
      refine Qb6 ?_
      refine Qb6 ?_
      refine Qbo ?_
      refine Qaz ?_
      refine Qa3 ?_
      refine Qar [(0, 0), (1, 0), (2, 0)] rfl rfl rfl ?_
      refine Qav rfl rfl rfl (Qa6 Qf6 rfl Bw13_b11 (by rfl)) ?_
      refine Qdx rfl rfl rfl (Qgh Qww rfl (Qye _ _)) ?_
      rintro _ w17 ⟨rfl, Gw17⟩
      have z31 := Gw17.size
      have B32 := (Bx.gr (Bx.kp (Bx.md (Bx.gr (Bx.gr (Bx.kp (Bx.gr (Bx.gr Bw3 Gw4) Gw5) Kw9 (by simp <;> first | omega | (split <;> omega))) Gw10) Gw11) Mw12 (by omega)) Kw13 (by simp <;> first | omega | (split <;> omega))) Gw17)
      refine Qdx rfl rfl rfl (Qfb (Qai).siz rfl rfl (by rfl) (by rfl) (by rfl) B32 (by rfl)) ?_
      rintro _ w18 ⟨Bw18, Mw18⟩
      have z33 := Mw18.size
      refine Qa1 ?_
      refine Qaf ?_
      have DL34 := (Df.md (Df.gr (Df.kp (Df.md (Df.gr (Df.gr Dfw9 Gw10) Gw11) Mw12 (by omega)) Kw13 (by simp <;> first | omega | (split <;> omega))) Gw17) Mw18 (by omega))
      have L34 := Md.put (w := w18) Dw9 (.deferred none)
      have zL34 := L34.size
      have B35 := (Bx.md Bw18 L34 (by omega))
      have X36 : Gr w (w18.putObj Dw9 (.deferred none)) := (Gr.md (Gr.md (Gr.trans (Gr.kp X23 Kw13 (by simp <;> first | omega | (split <;> omega))) Gw17) Mw18 (by omega)) L34 (by omega))
      refine ⟨_, _, ⟨Dw9, rfl, DL34, rfl⟩, Qke rfl Qai rfl B35 (by rfl), ?_⟩
      exact ⟨rfl, X36⟩
  · rintro _ _ _ _ _ _ _ _ _ h _
    exact h.elim
end Go.Proofs.YtjdffpglgkefmaaGreat

end
section
set_option linter.unusedVariables false
set_option linter.unusedSimpArgs false
namespace Go.Proofs.YtjdffpglgkefmaaGreat
open Go Go.RowKit Go.Sx
theorem Xjf : ZV Tryz.prog 5 (.int .u8 0) := fun _ => by kernel_rfl
theorem Qvf : BSl Tryz.prog 50 1 5 1 [.int .u8 0] := Qq3 Tryz.underlying50 (Qcd).siz Xjf rfl rfl (by kernel_rfl)
theorem Qp7 : ApT Tryz.prog 50 5 1 1 := Qsj Tryz.underlying50 rfl (by kernel_rfl)
theorem Xeh : ZV Tryz.prog 24 (.int .u64 0) := fun _ => by kernel_rfl
end Go.Proofs.YtjdffpglgkefmaaGreat

end
